-- By wip/mk/drv.py
import Derived.Test.YtinpcalgdiigiaaQMultlsPDx0
import Derived.Test.YtinpcalgdiigiaaQMultlsPDx1
import Derived.Test.YtinpcalgdiigiaaQMultlsPDx2
import Derived.Test.YtinpcalgdiigiaaQMultlsPDx3
import Derived.Test.YtinpcalgdiigiaaQMultlsPDx65
import Derived.Test.YtinpcalgdiigiaaQMultlsPDx69
namespace Go.Proofs.Ytinpcalgdiigiaa.PD
open Go.RowKit Go.Proofs.YtinpcalgdiigiaaW.PrintWords Go.Proofs.YtinpcalgdiigiaaW.PrintLast Go.Proofs.YtinpcalgdiigiaaW.PrintMore
attribute [local go_sem] max2_int min2_int max_two min_two max_three min_three max_four min_four
set_option linter.unusedVariables false
set_option linter.unusedSimpArgs false
/-! ### laws_FnExactMultiplyIntervals: function 12 -/
def laws_FnExactMultiplyIntervals.T1 : Bool × List (List Nat × List Nat) := (true, [([], []), ([0], [0]), ([], []), ([2, 1], [2]), ([1, 3, 3], [1, 3]), ([4], [4]), ([5], [5]), ([5], [5]), ([], []), ([8, 6, 4, 0, 1, 2, 3, 4, 5, 6, 8], [6, 8]), ([7, 9, 0, 1, 2, 3, 4, 5, 6, 7, 8, 9], [7])])
def laws_FnExactMultiplyIntervals.B1 : List Nat := [0, 1, 0, 7, 15, 31, 63, 63, 0, 383, 1023]
theorem laws_FnExactMultiplyIntervals.tab1 : rtab .any (opsOf Try.f12 1) = laws_FnExactMultiplyIntervals.T1 := by kernel_rfl
theorem laws_FnExactMultiplyIntervals.bits1 : waitsOk laws_FnExactMultiplyIntervals.T1.2 laws_FnExactMultiplyIntervals.B1 = true := by kernel_rfl
def laws_FnExactMultiplyIntervals.T2 : Bool × List (List Nat × List Nat) := (true, [([], []), ([0], [0]), ([], []), ([2, 1], [2]), ([1, 3, 3], [1, 3]), ([4], [4]), ([5], [5]), ([5], [5]), ([], []), ([8, 6, 4, 0, 1, 2, 3, 4, 5, 6, 8], [6, 8]), ([7, 9, 0, 1, 2, 3, 4, 5, 6, 7, 8, 9], [7])])
def laws_FnExactMultiplyIntervals.B2 : List Nat := [0, 1, 0, 7, 15, 31, 63, 63, 0, 383, 1023]
theorem laws_FnExactMultiplyIntervals.tab2 : rtab .any (opsOf Try.f12 2) = laws_FnExactMultiplyIntervals.T2 := by kernel_rfl
theorem laws_FnExactMultiplyIntervals.bits2 : waitsOk laws_FnExactMultiplyIntervals.T2.2 laws_FnExactMultiplyIntervals.B2 = true := by kernel_rfl
set_option maxHeartbeats 8000000 in
set_option maxRecDepth 100000 in
theorem laws_FnExactMultiplyIntervals.calls (k : Nat) (a0_0 : Int) (a0_1 : Int) (a0_2 : Int) (a0_3 : Int) (a1_0 : Int) (a1_1 : Int) (a1_2 : Int) (a1_3 : Int) (r : Bool) (w : World) (h : laws_FnExactMultiplyIntervals.f k a0_0 a0_1 a0_2 a0_3 a1_0 a1_1 a1_2 a1_3 = some r) :
  Calls Try.prog 12 #[.agg #[.int .i64 a0_0, .int .i64 a0_1, .int .i64 a0_2, .int .i64 a0_3], .agg #[.int .i64 a1_0, .int .i64 a1_1, .int .i64 a1_2, .int .i64 a1_3]] w fun e w' => e = .returned (.bool r) ∧ Below w.heap.size w w' := by
 have hu25 := Try.underlying25
 have hu29 := Try.underlying29
 have HB := Aside0.mk (Below.refl w.heap.size w)
 have H : ((laws_toInterval.f a0_0 a0_1 a0_2 a0_3).bind fun bt910 => ((laws_toInterval.f a1_0 a1_1 a1_2 a1_3).bind fun bt914 => ((spec_MultiplyIntervals.f k bt910.1 bt910.2.1 bt910.2.2.1 bt910.2.2.2 bt914.1 bt914.2.1 bt914.2.2.1 bt914.2.2.2).bind fun bt918 => ((laws_toInterval.f a0_0 a0_1 a0_2 a0_3).bind fun bt924 => ((laws_toInterval.f a1_0 a1_1 a1_2 a1_3).bind fun bt928 => ((impl_MultiplyIntervals.f k bt924.1 bt924.2.1 bt924.2.2.1 bt924.2.2.2 bt928.1 bt928.2.1 bt928.2.2.1 bt928.2.2.2).bind fun bt932 => ((laws_eqInterval.f bt932.1 bt932.2.1 bt932.2.2.1 bt932.2.2.2.1 bt918.1 bt918.2.1 bt918.2.2.1 bt918.2.2.2.1).bind fun t938 => (if t938 = true then (if (bt932.2.2.2.2 != bt918.2.2.2.2) = true then (none) else (some true)) else (none))))))))) = some r := h
 clear h
 replace H := Option.bind_eq_some_iff.mp H
 obtain ⟨⟨t910, t911, t912, t913⟩, A30, H⟩ := H
 replace H : ((laws_toInterval.f a1_0 a1_1 a1_2 a1_3).bind fun bt914 => ((spec_MultiplyIntervals.f k t910 t911 t912 t913 bt914.1 bt914.2.1 bt914.2.2.1 bt914.2.2.2).bind fun bt918 => ((laws_toInterval.f a0_0 a0_1 a0_2 a0_3).bind fun bt924 => ((laws_toInterval.f a1_0 a1_1 a1_2 a1_3).bind fun bt928 => ((impl_MultiplyIntervals.f k bt924.1 bt924.2.1 bt924.2.2.1 bt924.2.2.2 bt928.1 bt928.2.1 bt928.2.2.1 bt928.2.2.2).bind fun bt932 => ((laws_eqInterval.f bt932.1 bt932.2.1 bt932.2.2.1 bt932.2.2.2.1 bt918.1 bt918.2.1 bt918.2.2.1 bt918.2.2.2.1).bind fun t938 => (if t938 = true then (if (bt932.2.2.2.2 != bt918.2.2.2.2) = true then (none) else (some true)) else (none)))))))) = some r := H
 have A3 := Aside0.mk A30
 clear A30
 replace H := Option.bind_eq_some_iff.mp H
 obtain ⟨⟨t914, t915, t916, t917⟩, A40, H⟩ := H
 replace H : ((spec_MultiplyIntervals.f k t910 t911 t912 t913 t914 t915 t916 t917).bind fun bt918 => ((laws_toInterval.f a0_0 a0_1 a0_2 a0_3).bind fun bt924 => ((laws_toInterval.f a1_0 a1_1 a1_2 a1_3).bind fun bt928 => ((impl_MultiplyIntervals.f k bt924.1 bt924.2.1 bt924.2.2.1 bt924.2.2.2 bt928.1 bt928.2.1 bt928.2.2.1 bt928.2.2.2).bind fun bt932 => ((laws_eqInterval.f bt932.1 bt932.2.1 bt932.2.2.1 bt932.2.2.2.1 bt918.1 bt918.2.1 bt918.2.2.1 bt918.2.2.2.1).bind fun t938 => (if t938 = true then (if (bt932.2.2.2.2 != bt918.2.2.2.2) = true then (none) else (some true)) else (none))))))) = some r := H
 have A4 := Aside0.mk A40
 clear A40
 replace H := Option.bind_eq_some_iff.mp H
 obtain ⟨⟨t918, t919, t920, t921, t922⟩, A50, H⟩ := H
 replace H : ((laws_toInterval.f a0_0 a0_1 a0_2 a0_3).bind fun bt924 => ((laws_toInterval.f a1_0 a1_1 a1_2 a1_3).bind fun bt928 => ((impl_MultiplyIntervals.f k bt924.1 bt924.2.1 bt924.2.2.1 bt924.2.2.2 bt928.1 bt928.2.1 bt928.2.2.1 bt928.2.2.2).bind fun bt932 => ((laws_eqInterval.f bt932.1 bt932.2.1 bt932.2.2.1 bt932.2.2.2.1 t918 t919 t920 t921).bind fun t938 => (if t938 = true then (if (bt932.2.2.2.2 != t922) = true then (none) else (some true)) else (none)))))) = some r := H
 have A5 := Aside0.mk A50
 clear A50
 replace H := Option.bind_eq_some_iff.mp H
 obtain ⟨⟨t924, t925, t926, t927⟩, A60, H⟩ := H
 replace H : ((laws_toInterval.f a1_0 a1_1 a1_2 a1_3).bind fun bt928 => ((impl_MultiplyIntervals.f k t924 t925 t926 t927 bt928.1 bt928.2.1 bt928.2.2.1 bt928.2.2.2).bind fun bt932 => ((laws_eqInterval.f bt932.1 bt932.2.1 bt932.2.2.1 bt932.2.2.2.1 t918 t919 t920 t921).bind fun t938 => (if t938 = true then (if (bt932.2.2.2.2 != t922) = true then (none) else (some true)) else (none))))) = some r := H
 have A6 := Aside0.mk A60
 clear A60
 replace H := Option.bind_eq_some_iff.mp H
 obtain ⟨⟨t928, t929, t930, t931⟩, A70, H⟩ := H
 replace H : ((impl_MultiplyIntervals.f k t924 t925 t926 t927 t928 t929 t930 t931).bind fun bt932 => ((laws_eqInterval.f bt932.1 bt932.2.1 bt932.2.2.1 bt932.2.2.2.1 t918 t919 t920 t921).bind fun t938 => (if t938 = true then (if (bt932.2.2.2.2 != t922) = true then (none) else (some true)) else (none)))) = some r := H
 have A7 := Aside0.mk A70
 clear A70
 replace H := Option.bind_eq_some_iff.mp H
 obtain ⟨⟨t932, t933, t934, t935, t936⟩, A80, H⟩ := H
 replace H : ((laws_eqInterval.f t932 t933 t934 t935 t918 t919 t920 t921).bind fun t938 => (if t938 = true then (if (t936 != t922) = true then (none) else (some true)) else (none))) = some r := H
 have A8 := Aside0.mk A80
 clear A80
 replace H := Option.bind_eq_some_iff.mp H
 obtain ⟨t938, A90, H⟩ := H
 replace H : (if t938 = true then (if (t936 != t922) = true then (none) else (some true)) else (none)) = some r := H
 have A9 := Aside0.mk A90
 clear A90
 by_cases c10 : t938 = true
 ·
  subst c10
  have H1 : (if (t936 != t922) = true then (none) else (some true)) = some r := by rw [if_pos rfl] at H; exact H
  clear H
  have H := H1
  clear H1
  by_cases c11 : (t936 != t922) = true
  ·
   rw [if_pos c11] at H
   exact absurd H (by simp)
  ·
   rw [if_neg c11] at H
   have c11b0 : (t936 != t922) = false := by simpa using c11
   (try (have c11b1 : decide (t936 = t922) = true := by simpa using c11))
   (try (have c11b2 : (t936 == t922) = true := by simpa using c11))
   clear c11
   obtain rfl := Option.some.inj H
   go_enter Try.func12, Try.ntmps12
   try go_wp2_with (first | ((with_reducible refine gate_dst (N := 2) rfl ?_); refine zbe (N := 2) (cs := #[.int .i64 a0_0, .int .i64 a0_1, .int .i64 a0_2, .int .i64 a0_3]) (t := 25) ?_; intro gb908 hg w12 hbox hb; have BK908 := Aside0.mk (hbox); have GW908 := Aside0.mk (zge (zb0 HB) hg); have GE908 := GW908; replace HB := Aside0.mk (below_step (zb0 HB) hb); clear hb hbox hg) | ((with_reducible refine gate_dst (N := 3) rfl ?_); refine zbe (N := 3) (cs := #[.int .i64 a1_0, .int .i64 a1_1, .int .i64 a1_2, .int .i64 a1_3]) (t := 25) ?_; intro gb909 hg w13 hbox hb; have BK909 := Aside0.mk (hbox); have GW909 := Aside0.mk (zge (zb1 HB) hg); have GE909 := GW909; have NB908_909 := Aside0.mk (zlt BK908 hg); have NB909_908 := Aside0.mk (zgt BK908 hg); replace BK908 := Aside0.mk (zbb BK908 hb); replace HB := Aside0.mk (below_step (zb1 HB) hb); clear hb hbox hg))
   replace BK908 := Aside0.mk (blk_drew BK908.out); replace BK909 := Aside0.mk (blk_drew BK909.out); replace HB := Aside0.mk (below_drew1 HB.out)
   refine start_ (n := 11) (S := fun w' => w'.cell? ⟨gb908, 0, none⟩ = some (.int .i64 a0_0) ∧ w'.cell? ⟨gb908, 1, none⟩ = some (.int .i64 a0_1) ∧ w'.cell? ⟨gb908, 2, none⟩ = some (.int .i64 a0_2) ∧ w'.cell? ⟨gb908, 3, none⟩ = some (.int .i64 a0_3) ∧ w'.cell? ⟨gb909, 0, none⟩ = some (.int .i64 a1_0) ∧ w'.cell? ⟨gb909, 1, none⟩ = some (.int .i64 a1_1) ∧ w'.cell? ⟨gb909, 2, none⟩ = some (.int .i64 a1_2) ∧ w'.cell? ⟨gb909, 3, none⟩ = some (.int .i64 a1_3)) (ds := []) #[false, false, false, false, false, false, false, false, false, false, false] (by kernel_rfl) rfl rfl ⟨zc BK908 0, zc BK908 1, zc BK908 2, zc BK908 3, zc BK909 0, zc BK909 1, zc BK909 2, zc BK909 3⟩ (fun hHeld => ?_); refine with_tabW laws_FnExactMultiplyIntervals.tab1 laws_FnExactMultiplyIntervals.bits1 (fun HT_ HW_ => ?_)
   generalize w13.drew = w14 at BK908 BK909 HB hHeld ⊢
   refine take_ (i := 0) (N := some 10) (v := ?_) (a' := ?_) #[true, false, false, false, false, false, false, false, false, false, false] rfl rfl (take_ofW HT_.out HW_.out (by kernel_rfl)) (fun _ _ _ h => h) (Or.inl ⟨by rfl, ?_⟩) hHeld ?_ ?_
   rotate_left
   ·
    rintro w' ⟨s0, s1, s2, s3, s4, s5, s6, s7⟩
    go_simp
    with_reducible rfl
   rotate_left
   ·
    simp only [Act.put, List.setIfInBounds_toArray, List.set_cons_zero, List.set_cons_succ, i64_w, i32_w]
    rfl
   refine take_ (i := 2) (N := some 12) (v := ?_) (a' := ?_) #[true, false, true, false, false, false, false, false, false, false, false] rfl rfl (take_ofW HT_.out HW_.out (by kernel_rfl)) (fun _ _ _ h => h) (Or.inl ⟨by rfl, ?_⟩) hHeld ?_ ?_
   rotate_left
   ·
    rintro w' ⟨s0, s1, s2, s3, s4, s5, s6, s7⟩
    go_simp
    with_reducible rfl
   rotate_left
   ·
    simp only [Act.put, List.setIfInBounds_toArray, List.set_cons_zero, List.set_cons_succ, i64_w, i32_w]
    rfl
   refine join_ (σ := Nat) 2 #[true, true, true, true, true, true, true, true, true, false, false] (fun s_ => [(11, .agg #[.int .i64 t910, .int .i64 t911, .int .i64 t912, .int .i64 t913]), (13, .agg #[.int .i64 t914, .int .i64 t915, .int .i64 t916, .int .i64 t917]), (14, .tuple #[.agg #[.int .i64 t918, .int .i64 t919, .int .i64 t920, .int .i64 t921], .bool t922]), (5, .pointer (some ⟨s_, 0, none⟩)), (9, .tuple #[.agg #[.int .i64 t918, .int .i64 t919, .int .i64 t920, .int .i64 t921], .bool t922]), (15, .agg #[.int .i64 t918, .int .i64 t919, .int .i64 t920, .int .i64 t921]), (16, .bool t922)]) (fun s_ w' => (w'.cell? ⟨gb908, 0, none⟩ = some (.int .i64 a0_0) ∧ w'.cell? ⟨gb908, 1, none⟩ = some (.int .i64 a0_1) ∧ w'.cell? ⟨gb908, 2, none⟩ = some (.int .i64 a0_2) ∧ w'.cell? ⟨gb908, 3, none⟩ = some (.int .i64 a0_3) ∧ w'.cell? ⟨gb909, 0, none⟩ = some (.int .i64 a1_0) ∧ w'.cell? ⟨gb909, 1, none⟩ = some (.int .i64 a1_1) ∧ w'.cell? ⟨gb909, 2, none⟩ = some (.int .i64 a1_2) ∧ w'.cell? ⟨gb909, 3, none⟩ = some (.int .i64 a1_3)) ∧ (w'.heap[gb908]? = some (.cells #[.int .i64 a0_0, .int .i64 a0_1, .int .i64 a0_2, .int .i64 a0_3] 25 (0, 0))) ∧ (w'.heap[gb909]? = some (.cells #[.int .i64 a1_0, .int .i64 a1_1, .int .i64 a1_2, .int .i64 a1_3] 25 (0, 0))) ∧ (w'.heap[s_]? = some (.cells #[.int .i64 0, .int .i64 0, .int .i64 0, .int .i64 0] 29 (0, 0))) ∧ (w.heap.size ≤ s_) ∧ (w.heap.size ≤ s_) ∧ (gb908 ≠ s_) ∧ (s_ ≠ gb908) ∧ (gb909 ≠ s_) ∧ (s_ ≠ gb909) ∧ (Below w.heap.size w w')) ?_ ?_
   rotate_left
   ·
    intro hCont
    refine two_ (i := 1) (j := 8) (Ni := some 11) (Nj := some 5) #[true, true, true, false, false, false, false, false, false, false, false] #[true, false, true, false, false, false, false, false, true, false, false] rfl rfl rfl rfl (two_of HT_.out (by kernel_rfl)) (by decide) (by decide) (fun K hK => ?_) (fun K hK => ?_)
    ·
     refine goes_ Try.func16 (by kernel_rfl) rfl #[.agg #[.int .i64 a0_0, .int .i64 a0_1, .int .i64 a0_2, .int .i64 a0_3]] (by rfl) rfl rfl zq6 ?_
     with_reducible refine (laws_toInterval.calls a0_0 a0_1 a0_2 a0_3 t910 t911 t912 t913 _ A3.out).mono ?_
     rintro e w15 ⟨rfl, hb⟩
     refine ⟨_, rfl, ?_⟩
     replace BK908 := Aside0.mk (zbb BK908 hb); replace BK909 := Aside0.mk (zbb BK909 hb); replace HB := Aside0.mk (below_step (zb1 HB) hb)
     (try clear hb)
     (try clear hb2)
     (try clear hk)
     (try clear hi)
     refine hK.out _ _ ⟨zc BK908 0, zc BK908 1, zc BK908 2, zc BK908 3, zc BK909 0, zc BK909 1, zc BK909 2, zc BK909 3⟩ (fun hHeld => ?_)
     clear hK K
     refine norm_ (a' := ?_) ?_ ?_
     rotate_left
     ·
      show Act.put _ (some 11) _ = _
      simp only [Act.put, List.setIfInBounds_toArray, List.set_cons_zero, List.set_cons_succ, i64_w, i32_w]; rfl
     refine two_ (i := 3) (j := 8) (Ni := some 13) (Nj := some 5) #[true, true, true, true, false, false, false, false, false, false, false] #[true, true, true, false, false, false, false, false, true, false, false] rfl rfl rfl rfl (two_of HT_.out (by kernel_rfl)) (by decide) (by decide) (fun K hK => ?_) (fun K hK => ?_)
     ·
      refine goes_ Try.func16 (by kernel_rfl) rfl #[.agg #[.int .i64 a1_0, .int .i64 a1_1, .int .i64 a1_2, .int .i64 a1_3]] (by rfl) rfl rfl zq6 ?_
      with_reducible refine (laws_toInterval.calls a1_0 a1_1 a1_2 a1_3 t914 t915 t916 t917 _ A4.out).mono ?_
      rintro e w16 ⟨rfl, hb⟩
      refine ⟨_, rfl, ?_⟩
      replace BK908 := Aside0.mk (zbb BK908 hb); replace BK909 := Aside0.mk (zbb BK909 hb); replace HB := Aside0.mk (below_step (zb1 HB) hb)
      (try clear hb)
      (try clear hb2)
      (try clear hk)
      (try clear hi)
      refine hK.out _ _ ⟨zc BK908 0, zc BK908 1, zc BK908 2, zc BK908 3, zc BK909 0, zc BK909 1, zc BK909 2, zc BK909 3⟩ (fun hHeld => ?_)
      clear hK K
      refine norm_ (a' := ?_) ?_ ?_
      rotate_left
      ·
       show Act.put _ (some 13) _ = _
       simp only [Act.put, List.setIfInBounds_toArray, List.set_cons_zero, List.set_cons_succ, i64_w, i32_w]; rfl
      refine two_ (i := 4) (j := 8) (Ni := some 14) (Nj := some 5) #[true, true, true, true, true, false, false, false, false, false, false] #[true, true, true, true, false, false, false, false, true, false, false] rfl rfl rfl rfl (two_of HT_.out (by kernel_rfl)) (by decide) (by decide) (fun K hK => ?_) (fun K hK => ?_)
      ·
       refine goes_ Try.func36 (by kernel_rfl) rfl #[.agg #[.int .i64 t910, .int .i64 t911, .int .i64 t912, .int .i64 t913], .agg #[.int .i64 t914, .int .i64 t915, .int .i64 t916, .int .i64 t917]] (by rfl) rfl rfl zq6 ?_
       with_reducible refine (spec_MultiplyIntervals.calls k t910 t911 t912 t913 t914 t915 t916 t917 t918 t919 t920 t921 t922 _ A5.out).mono ?_
       rintro e w17 ⟨rfl, hb⟩
       refine ⟨_, rfl, ?_⟩
       replace BK908 := Aside0.mk (zbb BK908 hb); replace BK909 := Aside0.mk (zbb BK909 hb); replace HB := Aside0.mk (below_step (zb1 HB) hb)
       (try clear hb)
       (try clear hb2)
       (try clear hk)
       (try clear hi)
       refine hK.out _ _ ⟨zc BK908 0, zc BK908 1, zc BK908 2, zc BK908 3, zc BK909 0, zc BK909 1, zc BK909 2, zc BK909 3⟩ (fun hHeld => ?_)
       clear hK K
       refine norm_ (a' := ?_) ?_ ?_
       rotate_left
       ·
        show Act.put _ (some 14) _ = _
        simp only [Act.put, List.setIfInBounds_toArray, List.set_cons_zero, List.set_cons_succ, i64_w, i32_w]; rfl
       refine zp (i := 5) (N := some 9) #[true, true, true, true, true, true, false, false, false, false, false] (any_of HT_.out (by kernel_rfl)) ?_
       refine zp (i := 6) (N := some 15) #[true, true, true, true, true, true, true, false, false, false, false] (any_of HT_.out (by kernel_rfl)) ?_
       refine zp (i := 7) (N := some 16) #[true, true, true, true, true, true, true, true, false, false, false] (any_of HT_.out (by kernel_rfl)) ?_
       refine one_ (i := 8) (N := some 5) #[true, true, true, true, true, true, true, true, true, false, false] rfl rfl (one_of HT_.out (by kernel_rfl)) (by decide) (fun K hK => ?_)
       refine box_step ?hg (N := 5) ?hd (cs := #[.int .i64 0, .int .i64 0, .int .i64 0, .int .i64 0]) (t := 29) ?hr ?_; (case hd => rfl); (case hg => rfl); (case hr => first | (go_simp; done) | (go_simp; rfl))
       intro gb923 hg w18 hbox hb
       have n0_ := Aside0.mk (zbb BK908 hb)
       have n1_ := Aside0.mk (zbb BK909 hb)
       have n2_ := Aside0.mk (below_step (zb1 HB) hb)
       have BK923 := Aside0.mk (hbox)
       have GW923 := Aside0.mk (zge (zb1 HB) hg)
       have GE923 := Aside0.mk (zge (zb1 HB) hg)
       have NB908_923 := Aside0.mk (zlt BK908 hg)
       have NB923_908 := Aside0.mk (zgt BK908 hg)
       have NB909_923 := Aside0.mk (zlt BK909 hg)
       have NB923_909 := Aside0.mk (zgt BK909 hg)
       clear BK908 BK909 HB
       have BK908 := n0_; have BK909 := n1_; have HB := n2_
       clear n0_ n1_ n2_ hb hbox hg
       refine hK.out _ _ ⟨zc BK908 0, zc BK908 1, zc BK908 2, zc BK908 3, zc BK909 0, zc BK909 1, zc BK909 2, zc BK909 3⟩ (fun hHeld => ?_)
       clear hK K
       refine norm_ (a' := ?_) ?_ ?_
       rotate_left
       ·
        show Act.put _ (some 5) _ = _
        simp only [Act.put, List.setIfInBounds_toArray, List.set_cons_zero, List.set_cons_succ, i64_w, i32_w]; rfl
       exact norm_ (by simp only [putAll, Act.put, List.setIfInBounds_toArray, List.set_cons_zero, List.set_cons_succ]) (hCont (gb923) _ ⟨hHeld, (zq1 BK908), (zq1 BK909), (zq1 BK923), GW923.out, GE923.out, NB908_923.out, NB923_908.out, NB909_923.out, NB923_909.out, (zb1 HB)⟩)
      ·
       refine box_step ?hg (N := 5) ?hd (cs := #[.int .i64 0, .int .i64 0, .int .i64 0, .int .i64 0]) (t := 29) ?hr ?_; (case hd => rfl); (case hg => rfl); (case hr => first | (go_simp; done) | (go_simp; rfl))
       intro gb923 hg w17 hbox hb
       have n0_ := Aside0.mk (zbb BK908 hb)
       have n1_ := Aside0.mk (zbb BK909 hb)
       have n2_ := Aside0.mk (below_step (zb1 HB) hb)
       have BK923 := Aside0.mk (hbox)
       have GW923 := Aside0.mk (zge (zb1 HB) hg)
       have GE923 := Aside0.mk (zge (zb1 HB) hg)
       have NB908_923 := Aside0.mk (zlt BK908 hg)
       have NB923_908 := Aside0.mk (zgt BK908 hg)
       have NB909_923 := Aside0.mk (zlt BK909 hg)
       have NB923_909 := Aside0.mk (zgt BK909 hg)
       clear BK908 BK909 HB
       have BK908 := n0_; have BK909 := n1_; have HB := n2_
       clear n0_ n1_ n2_ hb hbox hg
       refine hK.out _ _ ⟨zc BK908 0, zc BK908 1, zc BK908 2, zc BK908 3, zc BK909 0, zc BK909 1, zc BK909 2, zc BK909 3⟩ (fun hHeld => ?_)
       clear hK K
       refine norm_ (a' := ?_) ?_ ?_
       rotate_left
       ·
        show Act.put _ (some 5) _ = _
        simp only [Act.put, List.setIfInBounds_toArray, List.set_cons_zero, List.set_cons_succ, i64_w, i32_w]; rfl
       refine one_ (i := 4) (N := some 14) #[true, true, true, true, true, false, false, false, true, false, false] rfl rfl (one_of HT_.out (by kernel_rfl)) (by decide) (fun K hK => ?_)
       refine goes_ Try.func36 (by kernel_rfl) rfl #[.agg #[.int .i64 t910, .int .i64 t911, .int .i64 t912, .int .i64 t913], .agg #[.int .i64 t914, .int .i64 t915, .int .i64 t916, .int .i64 t917]] (by rfl) rfl rfl zq6 ?_
       with_reducible refine (spec_MultiplyIntervals.calls k t910 t911 t912 t913 t914 t915 t916 t917 t918 t919 t920 t921 t922 _ A5.out).mono ?_
       rintro e w18 ⟨rfl, hb⟩
       refine ⟨_, rfl, ?_⟩
       replace BK908 := Aside0.mk (zbb BK908 hb); replace BK909 := Aside0.mk (zbb BK909 hb); replace BK923 := Aside0.mk (zbb BK923 hb); replace HB := Aside0.mk (below_step (zb1 HB) hb)
       (try clear hb)
       (try clear hb2)
       (try clear hk)
       (try clear hi)
       refine hK.out _ _ ⟨zc BK908 0, zc BK908 1, zc BK908 2, zc BK908 3, zc BK909 0, zc BK909 1, zc BK909 2, zc BK909 3⟩ (fun hHeld => ?_)
       clear hK K
       refine norm_ (a' := ?_) ?_ ?_
       rotate_left
       ·
        show Act.put _ (some 14) _ = _
        simp only [Act.put, List.setIfInBounds_toArray, List.set_cons_zero, List.set_cons_succ, i64_w, i32_w]; rfl
       refine zp (i := 5) (N := some 9) #[true, true, true, true, true, true, false, false, true, false, false] (any_of HT_.out (by kernel_rfl)) ?_
       refine zp (i := 6) (N := some 15) #[true, true, true, true, true, true, true, false, true, false, false] (any_of HT_.out (by kernel_rfl)) ?_
       refine zp (i := 7) (N := some 16) #[true, true, true, true, true, true, true, true, true, false, false] (any_of HT_.out (by kernel_rfl)) ?_
       exact norm_ (by simp only [putAll, Act.put, List.setIfInBounds_toArray, List.set_cons_zero, List.set_cons_succ]) (hCont (gb923) _ ⟨hHeld, (zq1 BK908), (zq1 BK909), (zq1 BK923), GW923.out, GE923.out, NB908_923.out, NB923_908.out, NB909_923.out, NB923_909.out, (zb1 HB)⟩)
     ·
      refine box_step ?hg (N := 5) ?hd (cs := #[.int .i64 0, .int .i64 0, .int .i64 0, .int .i64 0]) (t := 29) ?hr ?_; (case hd => rfl); (case hg => rfl); (case hr => first | (go_simp; done) | (go_simp; rfl))
      intro gb923 hg w16 hbox hb
      have n0_ := Aside0.mk (zbb BK908 hb)
      have n1_ := Aside0.mk (zbb BK909 hb)
      have n2_ := Aside0.mk (below_step (zb1 HB) hb)
      have BK923 := Aside0.mk (hbox)
      have GW923 := Aside0.mk (zge (zb1 HB) hg)
      have GE923 := Aside0.mk (zge (zb1 HB) hg)
      have NB908_923 := Aside0.mk (zlt BK908 hg)
      have NB923_908 := Aside0.mk (zgt BK908 hg)
      have NB909_923 := Aside0.mk (zlt BK909 hg)
      have NB923_909 := Aside0.mk (zgt BK909 hg)
      clear BK908 BK909 HB
      have BK908 := n0_; have BK909 := n1_; have HB := n2_
      clear n0_ n1_ n2_ hb hbox hg
      refine hK.out _ _ ⟨zc BK908 0, zc BK908 1, zc BK908 2, zc BK908 3, zc BK909 0, zc BK909 1, zc BK909 2, zc BK909 3⟩ (fun hHeld => ?_)
      clear hK K
      refine norm_ (a' := ?_) ?_ ?_
      rotate_left
      ·
       show Act.put _ (some 5) _ = _
       simp only [Act.put, List.setIfInBounds_toArray, List.set_cons_zero, List.set_cons_succ, i64_w, i32_w]; rfl
      refine one_ (i := 3) (N := some 13) #[true, true, true, true, false, false, false, false, true, false, false] rfl rfl (one_of HT_.out (by kernel_rfl)) (by decide) (fun K hK => ?_)
      refine goes_ Try.func16 (by kernel_rfl) rfl #[.agg #[.int .i64 a1_0, .int .i64 a1_1, .int .i64 a1_2, .int .i64 a1_3]] (by rfl) rfl rfl zq6 ?_
      with_reducible refine (laws_toInterval.calls a1_0 a1_1 a1_2 a1_3 t914 t915 t916 t917 _ A4.out).mono ?_
      rintro e w17 ⟨rfl, hb⟩
      refine ⟨_, rfl, ?_⟩
      replace BK908 := Aside0.mk (zbb BK908 hb); replace BK909 := Aside0.mk (zbb BK909 hb); replace BK923 := Aside0.mk (zbb BK923 hb); replace HB := Aside0.mk (below_step (zb1 HB) hb)
      (try clear hb)
      (try clear hb2)
      (try clear hk)
      (try clear hi)
      refine hK.out _ _ ⟨zc BK908 0, zc BK908 1, zc BK908 2, zc BK908 3, zc BK909 0, zc BK909 1, zc BK909 2, zc BK909 3⟩ (fun hHeld => ?_)
      clear hK K
      refine norm_ (a' := ?_) ?_ ?_
      rotate_left
      ·
       show Act.put _ (some 13) _ = _
       simp only [Act.put, List.setIfInBounds_toArray, List.set_cons_zero, List.set_cons_succ, i64_w, i32_w]; rfl
      refine one_ (i := 4) (N := some 14) #[true, true, true, true, true, false, false, false, true, false, false] rfl rfl (one_of HT_.out (by kernel_rfl)) (by decide) (fun K hK => ?_)
      refine goes_ Try.func36 (by kernel_rfl) rfl #[.agg #[.int .i64 t910, .int .i64 t911, .int .i64 t912, .int .i64 t913], .agg #[.int .i64 t914, .int .i64 t915, .int .i64 t916, .int .i64 t917]] (by rfl) rfl rfl zq6 ?_
      with_reducible refine (spec_MultiplyIntervals.calls k t910 t911 t912 t913 t914 t915 t916 t917 t918 t919 t920 t921 t922 _ A5.out).mono ?_
      rintro e w18 ⟨rfl, hb⟩
      refine ⟨_, rfl, ?_⟩
      replace BK908 := Aside0.mk (zbb BK908 hb); replace BK909 := Aside0.mk (zbb BK909 hb); replace BK923 := Aside0.mk (zbb BK923 hb); replace HB := Aside0.mk (below_step (zb1 HB) hb)
      (try clear hb)
      (try clear hb2)
      (try clear hk)
      (try clear hi)
      refine hK.out _ _ ⟨zc BK908 0, zc BK908 1, zc BK908 2, zc BK908 3, zc BK909 0, zc BK909 1, zc BK909 2, zc BK909 3⟩ (fun hHeld => ?_)
      clear hK K
      refine norm_ (a' := ?_) ?_ ?_
      rotate_left
      ·
       show Act.put _ (some 14) _ = _
       simp only [Act.put, List.setIfInBounds_toArray, List.set_cons_zero, List.set_cons_succ, i64_w, i32_w]; rfl
      refine zp (i := 5) (N := some 9) #[true, true, true, true, true, true, false, false, true, false, false] (any_of HT_.out (by kernel_rfl)) ?_
      refine zp (i := 6) (N := some 15) #[true, true, true, true, true, true, true, false, true, false, false] (any_of HT_.out (by kernel_rfl)) ?_
      refine zp (i := 7) (N := some 16) #[true, true, true, true, true, true, true, true, true, false, false] (any_of HT_.out (by kernel_rfl)) ?_
      exact norm_ (by simp only [putAll, Act.put, List.setIfInBounds_toArray, List.set_cons_zero, List.set_cons_succ]) (hCont (gb923) _ ⟨hHeld, (zq1 BK908), (zq1 BK909), (zq1 BK923), GW923.out, GE923.out, NB908_923.out, NB923_908.out, NB909_923.out, NB923_909.out, (zb1 HB)⟩)
    ·
     refine box_step ?hg (N := 5) ?hd (cs := #[.int .i64 0, .int .i64 0, .int .i64 0, .int .i64 0]) (t := 29) ?hr ?_; (case hd => rfl); (case hg => rfl); (case hr => first | (go_simp; done) | (go_simp; rfl))
     intro gb923 hg w15 hbox hb
     have n0_ := Aside0.mk (zbb BK908 hb)
     have n1_ := Aside0.mk (zbb BK909 hb)
     have n2_ := Aside0.mk (below_step (zb1 HB) hb)
     have BK923 := Aside0.mk (hbox)
     have GW923 := Aside0.mk (zge (zb1 HB) hg)
     have GE923 := Aside0.mk (zge (zb1 HB) hg)
     have NB908_923 := Aside0.mk (zlt BK908 hg)
     have NB923_908 := Aside0.mk (zgt BK908 hg)
     have NB909_923 := Aside0.mk (zlt BK909 hg)
     have NB923_909 := Aside0.mk (zgt BK909 hg)
     clear BK908 BK909 HB
     have BK908 := n0_; have BK909 := n1_; have HB := n2_
     clear n0_ n1_ n2_ hb hbox hg
     refine hK.out _ _ ⟨zc BK908 0, zc BK908 1, zc BK908 2, zc BK908 3, zc BK909 0, zc BK909 1, zc BK909 2, zc BK909 3⟩ (fun hHeld => ?_)
     clear hK K
     refine norm_ (a' := ?_) ?_ ?_
     rotate_left
     ·
      show Act.put _ (some 5) _ = _
      simp only [Act.put, List.setIfInBounds_toArray, List.set_cons_zero, List.set_cons_succ, i64_w, i32_w]; rfl
     refine one_ (i := 1) (N := some 11) #[true, true, true, false, false, false, false, false, true, false, false] rfl rfl (one_of HT_.out (by kernel_rfl)) (by decide) (fun K hK => ?_)
     refine goes_ Try.func16 (by kernel_rfl) rfl #[.agg #[.int .i64 a0_0, .int .i64 a0_1, .int .i64 a0_2, .int .i64 a0_3]] (by rfl) rfl rfl zq6 ?_
     with_reducible refine (laws_toInterval.calls a0_0 a0_1 a0_2 a0_3 t910 t911 t912 t913 _ A3.out).mono ?_
     rintro e w16 ⟨rfl, hb⟩
     refine ⟨_, rfl, ?_⟩
     replace BK908 := Aside0.mk (zbb BK908 hb); replace BK909 := Aside0.mk (zbb BK909 hb); replace BK923 := Aside0.mk (zbb BK923 hb); replace HB := Aside0.mk (below_step (zb1 HB) hb)
     (try clear hb)
     (try clear hb2)
     (try clear hk)
     (try clear hi)
     refine hK.out _ _ ⟨zc BK908 0, zc BK908 1, zc BK908 2, zc BK908 3, zc BK909 0, zc BK909 1, zc BK909 2, zc BK909 3⟩ (fun hHeld => ?_)
     clear hK K
     refine norm_ (a' := ?_) ?_ ?_
     rotate_left
     ·
      show Act.put _ (some 11) _ = _
      simp only [Act.put, List.setIfInBounds_toArray, List.set_cons_zero, List.set_cons_succ, i64_w, i32_w]; rfl
     refine one_ (i := 3) (N := some 13) #[true, true, true, true, false, false, false, false, true, false, false] rfl rfl (one_of HT_.out (by kernel_rfl)) (by decide) (fun K hK => ?_)
     refine goes_ Try.func16 (by kernel_rfl) rfl #[.agg #[.int .i64 a1_0, .int .i64 a1_1, .int .i64 a1_2, .int .i64 a1_3]] (by rfl) rfl rfl zq6 ?_
     with_reducible refine (laws_toInterval.calls a1_0 a1_1 a1_2 a1_3 t914 t915 t916 t917 _ A4.out).mono ?_
     rintro e w17 ⟨rfl, hb⟩
     refine ⟨_, rfl, ?_⟩
     replace BK908 := Aside0.mk (zbb BK908 hb); replace BK909 := Aside0.mk (zbb BK909 hb); replace BK923 := Aside0.mk (zbb BK923 hb); replace HB := Aside0.mk (below_step (zb1 HB) hb)
     (try clear hb)
     (try clear hb2)
     (try clear hk)
     (try clear hi)
     refine hK.out _ _ ⟨zc BK908 0, zc BK908 1, zc BK908 2, zc BK908 3, zc BK909 0, zc BK909 1, zc BK909 2, zc BK909 3⟩ (fun hHeld => ?_)
     clear hK K
     refine norm_ (a' := ?_) ?_ ?_
     rotate_left
     ·
      show Act.put _ (some 13) _ = _
      simp only [Act.put, List.setIfInBounds_toArray, List.set_cons_zero, List.set_cons_succ, i64_w, i32_w]; rfl
     refine one_ (i := 4) (N := some 14) #[true, true, true, true, true, false, false, false, true, false, false] rfl rfl (one_of HT_.out (by kernel_rfl)) (by decide) (fun K hK => ?_)
     refine goes_ Try.func36 (by kernel_rfl) rfl #[.agg #[.int .i64 t910, .int .i64 t911, .int .i64 t912, .int .i64 t913], .agg #[.int .i64 t914, .int .i64 t915, .int .i64 t916, .int .i64 t917]] (by rfl) rfl rfl zq6 ?_
     with_reducible refine (spec_MultiplyIntervals.calls k t910 t911 t912 t913 t914 t915 t916 t917 t918 t919 t920 t921 t922 _ A5.out).mono ?_
     rintro e w18 ⟨rfl, hb⟩
     refine ⟨_, rfl, ?_⟩
     replace BK908 := Aside0.mk (zbb BK908 hb); replace BK909 := Aside0.mk (zbb BK909 hb); replace BK923 := Aside0.mk (zbb BK923 hb); replace HB := Aside0.mk (below_step (zb1 HB) hb)
     (try clear hb)
     (try clear hb2)
     (try clear hk)
     (try clear hi)
     refine hK.out _ _ ⟨zc BK908 0, zc BK908 1, zc BK908 2, zc BK908 3, zc BK909 0, zc BK909 1, zc BK909 2, zc BK909 3⟩ (fun hHeld => ?_)
     clear hK K
     refine norm_ (a' := ?_) ?_ ?_
     rotate_left
     ·
      show Act.put _ (some 14) _ = _
      simp only [Act.put, List.setIfInBounds_toArray, List.set_cons_zero, List.set_cons_succ, i64_w, i32_w]; rfl
     refine zp (i := 5) (N := some 9) #[true, true, true, true, true, true, false, false, true, false, false] (any_of HT_.out (by kernel_rfl)) ?_
     refine zp (i := 6) (N := some 15) #[true, true, true, true, true, true, true, false, true, false, false] (any_of HT_.out (by kernel_rfl)) ?_
     refine zp (i := 7) (N := some 16) #[true, true, true, true, true, true, true, true, true, false, false] (any_of HT_.out (by kernel_rfl)) ?_
     exact norm_ (by simp only [putAll, Act.put, List.setIfInBounds_toArray, List.set_cons_zero, List.set_cons_succ]) (hCont (gb923) _ ⟨hHeld, (zq1 BK908), (zq1 BK909), (zq1 BK923), GW923.out, GE923.out, NB908_923.out, NB923_908.out, NB909_923.out, NB923_909.out, (zb1 HB)⟩)
   rintro gb923 w19 ⟨hS_, h0_, h1_, h2_, h3_, h4_, h5_, h6_, h7_, h8_, h9_⟩
   have BK923 : Aside0 (w19.heap[gb923]? = some (.cells #[.int .i64 0, .int .i64 0, .int .i64 0, .int .i64 0] 29 (0, 0))) := ⟨h2_⟩
   have GW923 : Aside0 (w.heap.size ≤ gb923) := ⟨h3_⟩
   have GE923 : Aside0 (w.heap.size ≤ gb923) := ⟨h4_⟩
   have NB908_923 : Aside0 (gb908 ≠ gb923) := ⟨h5_⟩
   have NB923_908 : Aside0 (gb923 ≠ gb908) := ⟨h6_⟩
   have NB909_923 : Aside0 (gb909 ≠ gb923) := ⟨h7_⟩
   have NB923_909 : Aside0 (gb923 ≠ gb909) := ⟨h8_⟩
   replace BK908 : Aside0 (w19.heap[gb908]? = some (.cells #[.int .i64 a0_0, .int .i64 a0_1, .int .i64 a0_2, .int .i64 a0_3] 25 (0, 0))) := ⟨h0_⟩; replace BK909 : Aside0 (w19.heap[gb909]? = some (.cells #[.int .i64 a1_0, .int .i64 a1_1, .int .i64 a1_2, .int .i64 a1_3] 25 (0, 0))) := ⟨h1_⟩; replace HB : Aside0 (Below w.heap.size w w19) := ⟨h9_⟩
   clear h0_ h1_ h2_ h3_ h4_ h5_ h6_ h7_ h8_ h9_
   have hHeld : w19.cell? ⟨gb908, 0, none⟩ = some (.int .i64 a0_0) ∧ w19.cell? ⟨gb908, 1, none⟩ = some (.int .i64 a0_1) ∧ w19.cell? ⟨gb908, 2, none⟩ = some (.int .i64 a0_2) ∧ w19.cell? ⟨gb908, 3, none⟩ = some (.int .i64 a0_3) ∧ w19.cell? ⟨gb909, 0, none⟩ = some (.int .i64 a1_0) ∧ w19.cell? ⟨gb909, 1, none⟩ = some (.int .i64 a1_1) ∧ w19.cell? ⟨gb909, 2, none⟩ = some (.int .i64 a1_2) ∧ w19.cell? ⟨gb909, 3, none⟩ = some (.int .i64 a1_3) := hS_
   refine norm_ (a' := ?_) ?_ ?_
   rotate_left
   ·
    simp only [putAll, Act.put, List.setIfInBounds_toArray, List.set_cons_zero, List.set_cons_succ]
    rfl
   refine one_ (i := 9) (N := none) #[true, true, true, true, true, true, true, true, true, true, false] rfl rfl (one_of HT_.out (by kernel_rfl)) (by decide) (fun K hK => ?_)
   have hs20 : w19.cell? ⟨gb923, 0, none⟩ = some (.int .i64 0) := zc BK923 0
   have hfs20 := blk_frozen BK923.out 0
   have hns20_0 := NB908_923.out
   have hns20_1 := NB909_923.out
   have hms20_0 := NB923_908.out
   have hms20_1 := NB923_909.out
   have hs21 : w19.cell? ⟨gb923, 1, none⟩ = some (.int .i64 0) := zc BK923 1
   have hfs21 := blk_frozen BK923.out 1
   have hns21_0 := NB908_923.out
   have hns21_1 := NB909_923.out
   have hms21_0 := NB923_908.out
   have hms21_1 := NB923_909.out
   have hs22 : w19.cell? ⟨gb923, 2, none⟩ = some (.int .i64 0) := zc BK923 2
   have hfs22 := blk_frozen BK923.out 2
   have hns22_0 := NB908_923.out
   have hns22_1 := NB909_923.out
   have hms22_0 := NB923_908.out
   have hms22_1 := NB923_909.out
   have hs23 : w19.cell? ⟨gb923, 3, none⟩ = some (.int .i64 0) := zc BK923 3
   have hfs23 := blk_frozen BK923.out 3
   have hns23_0 := NB908_923.out
   have hns23_1 := NB909_923.out
   have hms23_0 := NB923_908.out
   have hms23_1 := NB923_909.out
   refine skip_ (w1 := ?_) (by rfl) rfl ?_ ?_
   rotate_left
   ·
    go_simp
    rfl
   refine hK.out _ _ ⟨((cell_far (p := ⟨gb923, _, none⟩) NB908_923.out _).trans (((cell_far (p := ⟨gb923, _, none⟩) NB908_923.out _).trans (((cell_far (p := ⟨gb923, _, none⟩) NB908_923.out _).trans (((cell_far (p := ⟨gb923, _, none⟩) NB908_923.out _).trans (hHeld.1)))))))), ((cell_far (p := ⟨gb923, _, none⟩) NB908_923.out _).trans (((cell_far (p := ⟨gb923, _, none⟩) NB908_923.out _).trans (((cell_far (p := ⟨gb923, _, none⟩) NB908_923.out _).trans (((cell_far (p := ⟨gb923, _, none⟩) NB908_923.out _).trans (hHeld.2.1)))))))), ((cell_far (p := ⟨gb923, _, none⟩) NB908_923.out _).trans (((cell_far (p := ⟨gb923, _, none⟩) NB908_923.out _).trans (((cell_far (p := ⟨gb923, _, none⟩) NB908_923.out _).trans (((cell_far (p := ⟨gb923, _, none⟩) NB908_923.out _).trans (hHeld.2.2.1)))))))), ((cell_far (p := ⟨gb923, _, none⟩) NB908_923.out _).trans (((cell_far (p := ⟨gb923, _, none⟩) NB908_923.out _).trans (((cell_far (p := ⟨gb923, _, none⟩) NB908_923.out _).trans (((cell_far (p := ⟨gb923, _, none⟩) NB908_923.out _).trans (hHeld.2.2.2.1)))))))), ((cell_far (p := ⟨gb923, _, none⟩) NB909_923.out _).trans (((cell_far (p := ⟨gb923, _, none⟩) NB909_923.out _).trans (((cell_far (p := ⟨gb923, _, none⟩) NB909_923.out _).trans (((cell_far (p := ⟨gb923, _, none⟩) NB909_923.out _).trans (hHeld.2.2.2.2.1)))))))), ((cell_far (p := ⟨gb923, _, none⟩) NB909_923.out _).trans (((cell_far (p := ⟨gb923, _, none⟩) NB909_923.out _).trans (((cell_far (p := ⟨gb923, _, none⟩) NB909_923.out _).trans (((cell_far (p := ⟨gb923, _, none⟩) NB909_923.out _).trans (hHeld.2.2.2.2.2.1)))))))), ((cell_far (p := ⟨gb923, _, none⟩) NB909_923.out _).trans (((cell_far (p := ⟨gb923, _, none⟩) NB909_923.out _).trans (((cell_far (p := ⟨gb923, _, none⟩) NB909_923.out _).trans (((cell_far (p := ⟨gb923, _, none⟩) NB909_923.out _).trans (hHeld.2.2.2.2.2.2.1)))))))), ((cell_far (p := ⟨gb923, _, none⟩) NB909_923.out _).trans (((cell_far (p := ⟨gb923, _, none⟩) NB909_923.out _).trans (((cell_far (p := ⟨gb923, _, none⟩) NB909_923.out _).trans (((cell_far (p := ⟨gb923, _, none⟩) NB909_923.out _).trans (hHeld.2.2.2.2.2.2.2))))))))⟩ (fun hHeld => ?_)
   clear hK K
   refine zp (i := 10) (N := some 6) #[true, true, true, true, true, true, true, true, true, true, true] (any_of HT_.out (by kernel_rfl)) ?_
   refine done_ (done_of HT_.out (by kernel_rfl)) ?_
   try go_wp2
   have n0_ : Aside0 (((((w19.setCell ⟨gb923, 0, none⟩ (.int .i64 t918)).setCell ⟨gb923, 1, none⟩ (.int .i64 t919)).setCell ⟨gb923, 2, none⟩ (.int .i64 t920)).setCell ⟨gb923, 3, none⟩ (.int .i64 t921)).heap[gb908]? = some (.cells #[.int .i64 a0_0, .int .i64 a0_1, .int .i64 a0_2, .int .i64 a0_3] 25 (0, 0))) := ⟨zq5 BK908⟩
   have n1_ : Aside0 (((((w19.setCell ⟨gb923, 0, none⟩ (.int .i64 t918)).setCell ⟨gb923, 1, none⟩ (.int .i64 t919)).setCell ⟨gb923, 2, none⟩ (.int .i64 t920)).setCell ⟨gb923, 3, none⟩ (.int .i64 t921)).heap[gb909]? = some (.cells #[.int .i64 a1_0, .int .i64 a1_1, .int .i64 a1_2, .int .i64 a1_3] 25 (0, 0))) := ⟨zq5 BK909⟩
   have n2_ : Aside0 (((((w19.setCell ⟨gb923, 0, none⟩ (.int .i64 t918)).setCell ⟨gb923, 1, none⟩ (.int .i64 t919)).setCell ⟨gb923, 2, none⟩ (.int .i64 t920)).setCell ⟨gb923, 3, none⟩ (.int .i64 t921)).heap[gb923]? = some (.cells #[.int .i64 t918, .int .i64 t919, .int .i64 t920, .int .i64 t921] 29 (0, 0))) := ⟨by (with_reducible repeat (first | refine blk_drewN ?_ _ | refine blk_drew ?_ | refine blk_alloc ?_ _)); refine blk_put (cs := #[.int .i64 t918, .int .i64 t919, .int .i64 t920, .int .i64 0]) ?_ 3 _ rfl; (with_reducible repeat (first | refine blk_drewN ?_ _ | refine blk_drew ?_ | refine blk_alloc ?_ _)); refine blk_put (cs := #[.int .i64 t918, .int .i64 t919, .int .i64 0, .int .i64 0]) ?_ 2 _ rfl; (with_reducible repeat (first | refine blk_drewN ?_ _ | refine blk_drew ?_ | refine blk_alloc ?_ _)); refine blk_put (cs := #[.int .i64 t918, .int .i64 0, .int .i64 0, .int .i64 0]) ?_ 1 _ rfl; (with_reducible repeat (first | refine blk_drewN ?_ _ | refine blk_drew ?_ | refine blk_alloc ?_ _)); refine blk_put (cs := #[.int .i64 0, .int .i64 0, .int .i64 0, .int .i64 0]) ?_ 0 _ rfl; (with_reducible repeat (first | refine blk_drewN ?_ _ | refine blk_drew ?_ | refine blk_alloc ?_ _)); exact BK923.out⟩
   have n3_ : Aside0 (Below w.heap.size w ((((w19.setCell ⟨gb923, 0, none⟩ (.int .i64 t918)).setCell ⟨gb923, 1, none⟩ (.int .i64 t919)).setCell ⟨gb923, 2, none⟩ (.int .i64 t920)).setCell ⟨gb923, 3, none⟩ (.int .i64 t921))) := ⟨(zb1 HB)⟩
   (try clear BK908)
   (try clear BK909)
   (try clear BK923)
   (try clear HB)
   generalize ((((w19.setCell ⟨gb923, 0, none⟩ (.int .i64 t918)).setCell ⟨gb923, 1, none⟩ (.int .i64 t919)).setCell ⟨gb923, 2, none⟩ (.int .i64 t920)).setCell ⟨gb923, 3, none⟩ (.int .i64 t921)) = w24 at n0_ n1_ n2_ n3_ ⊢
   have BK908 := n0_; have BK909 := n1_; have BK923 := n2_; have HB := n3_
   clear n0_ n1_ n2_ n3_
   replace BK908 := Aside0.mk (blk_drew BK908.out); replace BK909 := Aside0.mk (blk_drew BK909.out); replace BK923 := Aside0.mk (blk_drew BK923.out); replace HB := Aside0.mk (below_drew1 HB.out)
   refine start_ (n := 11) (S := fun w' => w'.cell? ⟨gb908, 0, none⟩ = some (.int .i64 a0_0) ∧ w'.cell? ⟨gb908, 1, none⟩ = some (.int .i64 a0_1) ∧ w'.cell? ⟨gb908, 2, none⟩ = some (.int .i64 a0_2) ∧ w'.cell? ⟨gb908, 3, none⟩ = some (.int .i64 a0_3) ∧ w'.cell? ⟨gb909, 0, none⟩ = some (.int .i64 a1_0) ∧ w'.cell? ⟨gb909, 1, none⟩ = some (.int .i64 a1_1) ∧ w'.cell? ⟨gb909, 2, none⟩ = some (.int .i64 a1_2) ∧ w'.cell? ⟨gb909, 3, none⟩ = some (.int .i64 a1_3)) (ds := []) #[false, false, false, false, false, false, false, false, false, false, false] (by kernel_rfl) rfl rfl ⟨zc BK908 0, zc BK908 1, zc BK908 2, zc BK908 3, zc BK909 0, zc BK909 1, zc BK909 2, zc BK909 3⟩ (fun hHeld => ?_); refine with_tabW laws_FnExactMultiplyIntervals.tab2 laws_FnExactMultiplyIntervals.bits2 (fun HT_ HW_ => ?_)
   generalize w24.drew = w25 at BK908 BK909 BK923 HB hHeld ⊢
   refine take_ (i := 0) (N := some 18) (v := ?_) (a' := ?_) #[true, false, false, false, false, false, false, false, false, false, false] rfl rfl (take_ofW HT_.out HW_.out (by kernel_rfl)) (fun _ _ _ h => h) (Or.inl ⟨by rfl, ?_⟩) hHeld ?_ ?_
   rotate_left
   ·
    rintro w' ⟨s0, s1, s2, s3, s4, s5, s6, s7⟩
    go_simp
    with_reducible rfl
   rotate_left
   ·
    simp only [Act.put, List.setIfInBounds_toArray, List.set_cons_zero, List.set_cons_succ, i64_w, i32_w]
    rfl
   refine take_ (i := 2) (N := some 20) (v := ?_) (a' := ?_) #[true, false, true, false, false, false, false, false, false, false, false] rfl rfl (take_ofW HT_.out HW_.out (by kernel_rfl)) (fun _ _ _ h => h) (Or.inl ⟨by rfl, ?_⟩) hHeld ?_ ?_
   rotate_left
   ·
    rintro w' ⟨s0, s1, s2, s3, s4, s5, s6, s7⟩
    go_simp
    with_reducible rfl
   rotate_left
   ·
    simp only [Act.put, List.setIfInBounds_toArray, List.set_cons_zero, List.set_cons_succ, i64_w, i32_w]
    rfl
   refine join_ (σ := Nat) 2 #[true, true, true, true, true, true, true, true, true, false, false] (fun s_ => [(19, .agg #[.int .i64 t924, .int .i64 t925, .int .i64 t926, .int .i64 t927]), (21, .agg #[.int .i64 t928, .int .i64 t929, .int .i64 t930, .int .i64 t931]), (22, .tuple #[.agg #[.int .i64 t932, .int .i64 t933, .int .i64 t934, .int .i64 t935], .bool t936]), (7, .pointer (some ⟨s_, 0, none⟩)), (17, .tuple #[.agg #[.int .i64 t932, .int .i64 t933, .int .i64 t934, .int .i64 t935], .bool t936]), (23, .agg #[.int .i64 t932, .int .i64 t933, .int .i64 t934, .int .i64 t935]), (24, .bool t936)]) (fun s_ w' => (w'.cell? ⟨gb908, 0, none⟩ = some (.int .i64 a0_0) ∧ w'.cell? ⟨gb908, 1, none⟩ = some (.int .i64 a0_1) ∧ w'.cell? ⟨gb908, 2, none⟩ = some (.int .i64 a0_2) ∧ w'.cell? ⟨gb908, 3, none⟩ = some (.int .i64 a0_3) ∧ w'.cell? ⟨gb909, 0, none⟩ = some (.int .i64 a1_0) ∧ w'.cell? ⟨gb909, 1, none⟩ = some (.int .i64 a1_1) ∧ w'.cell? ⟨gb909, 2, none⟩ = some (.int .i64 a1_2) ∧ w'.cell? ⟨gb909, 3, none⟩ = some (.int .i64 a1_3)) ∧ (w'.heap[gb908]? = some (.cells #[.int .i64 a0_0, .int .i64 a0_1, .int .i64 a0_2, .int .i64 a0_3] 25 (0, 0))) ∧ (w'.heap[gb909]? = some (.cells #[.int .i64 a1_0, .int .i64 a1_1, .int .i64 a1_2, .int .i64 a1_3] 25 (0, 0))) ∧ (w'.heap[gb923]? = some (.cells #[.int .i64 t918, .int .i64 t919, .int .i64 t920, .int .i64 t921] 29 (0, 0))) ∧ (w'.heap[s_]? = some (.cells #[.int .i64 0, .int .i64 0, .int .i64 0, .int .i64 0] 29 (0, 0))) ∧ (w.heap.size ≤ s_) ∧ (w.heap.size ≤ s_) ∧ (gb908 ≠ s_) ∧ (s_ ≠ gb908) ∧ (gb909 ≠ s_) ∧ (s_ ≠ gb909) ∧ (gb923 ≠ s_) ∧ (s_ ≠ gb923) ∧ (Below w.heap.size w w')) ?_ ?_
   rotate_left
   ·
    intro hCont
    refine two_ (i := 1) (j := 8) (Ni := some 19) (Nj := some 7) #[true, true, true, false, false, false, false, false, false, false, false] #[true, false, true, false, false, false, false, false, true, false, false] rfl rfl rfl rfl (two_of HT_.out (by kernel_rfl)) (by decide) (by decide) (fun K hK => ?_) (fun K hK => ?_)
    ·
     refine goes_ Try.func16 (by kernel_rfl) rfl #[.agg #[.int .i64 a0_0, .int .i64 a0_1, .int .i64 a0_2, .int .i64 a0_3]] (by rfl) rfl rfl zq6 ?_
     with_reducible refine (laws_toInterval.calls a0_0 a0_1 a0_2 a0_3 t924 t925 t926 t927 _ A6.out).mono ?_
     rintro e w26 ⟨rfl, hb⟩
     refine ⟨_, rfl, ?_⟩
     replace BK908 := Aside0.mk (zbb BK908 hb); replace BK909 := Aside0.mk (zbb BK909 hb); replace BK923 := Aside0.mk (zbb BK923 hb); replace HB := Aside0.mk (below_step (zb1 HB) hb)
     (try clear hb)
     (try clear hb2)
     (try clear hk)
     (try clear hi)
     refine hK.out _ _ ⟨zc BK908 0, zc BK908 1, zc BK908 2, zc BK908 3, zc BK909 0, zc BK909 1, zc BK909 2, zc BK909 3⟩ (fun hHeld => ?_)
     clear hK K
     refine norm_ (a' := ?_) ?_ ?_
     rotate_left
     ·
      show Act.put _ (some 19) _ = _
      simp only [Act.put, List.setIfInBounds_toArray, List.set_cons_zero, List.set_cons_succ, i64_w, i32_w]; rfl
     refine two_ (i := 3) (j := 8) (Ni := some 21) (Nj := some 7) #[true, true, true, true, false, false, false, false, false, false, false] #[true, true, true, false, false, false, false, false, true, false, false] rfl rfl rfl rfl (two_of HT_.out (by kernel_rfl)) (by decide) (by decide) (fun K hK => ?_) (fun K hK => ?_)
     ·
      refine goes_ Try.func16 (by kernel_rfl) rfl #[.agg #[.int .i64 a1_0, .int .i64 a1_1, .int .i64 a1_2, .int .i64 a1_3]] (by rfl) rfl rfl zq6 ?_
      with_reducible refine (laws_toInterval.calls a1_0 a1_1 a1_2 a1_3 t928 t929 t930 t931 _ A7.out).mono ?_
      rintro e w27 ⟨rfl, hb⟩
      refine ⟨_, rfl, ?_⟩
      replace BK908 := Aside0.mk (zbb BK908 hb); replace BK909 := Aside0.mk (zbb BK909 hb); replace BK923 := Aside0.mk (zbb BK923 hb); replace HB := Aside0.mk (below_step (zb1 HB) hb)
      (try clear hb)
      (try clear hb2)
      (try clear hk)
      (try clear hi)
      refine hK.out _ _ ⟨zc BK908 0, zc BK908 1, zc BK908 2, zc BK908 3, zc BK909 0, zc BK909 1, zc BK909 2, zc BK909 3⟩ (fun hHeld => ?_)
      clear hK K
      refine norm_ (a' := ?_) ?_ ?_
      rotate_left
      ·
       show Act.put _ (some 21) _ = _
       simp only [Act.put, List.setIfInBounds_toArray, List.set_cons_zero, List.set_cons_succ, i64_w, i32_w]; rfl
      refine two_ (i := 4) (j := 8) (Ni := some 22) (Nj := some 7) #[true, true, true, true, true, false, false, false, false, false, false] #[true, true, true, true, false, false, false, false, true, false, false] rfl rfl rfl rfl (two_of HT_.out (by kernel_rfl)) (by decide) (by decide) (fun K hK => ?_) (fun K hK => ?_)
      ·
       refine goes_ Try.func37 (by kernel_rfl) rfl #[.agg #[.int .i64 t924, .int .i64 t925, .int .i64 t926, .int .i64 t927], .agg #[.int .i64 t928, .int .i64 t929, .int .i64 t930, .int .i64 t931]] (by rfl) rfl rfl zq6 ?_
       with_reducible refine (impl_MultiplyIntervals.calls k t924 t925 t926 t927 t928 t929 t930 t931 t932 t933 t934 t935 t936 _ A8.out).mono ?_
       rintro e w28 ⟨rfl, hb⟩
       refine ⟨_, rfl, ?_⟩
       replace BK908 := Aside0.mk (zbb BK908 hb); replace BK909 := Aside0.mk (zbb BK909 hb); replace BK923 := Aside0.mk (zbb BK923 hb); replace HB := Aside0.mk (below_step (zb1 HB) hb)
       (try clear hb)
       (try clear hb2)
       (try clear hk)
       (try clear hi)
       refine hK.out _ _ ⟨zc BK908 0, zc BK908 1, zc BK908 2, zc BK908 3, zc BK909 0, zc BK909 1, zc BK909 2, zc BK909 3⟩ (fun hHeld => ?_)
       clear hK K
       refine norm_ (a' := ?_) ?_ ?_
       rotate_left
       ·
        show Act.put _ (some 22) _ = _
        simp only [Act.put, List.setIfInBounds_toArray, List.set_cons_zero, List.set_cons_succ, i64_w, i32_w]; rfl
       refine zp (i := 5) (N := some 17) #[true, true, true, true, true, true, false, false, false, false, false] (any_of HT_.out (by kernel_rfl)) ?_
       refine zp (i := 6) (N := some 23) #[true, true, true, true, true, true, true, false, false, false, false] (any_of HT_.out (by kernel_rfl)) ?_
       refine zp (i := 7) (N := some 24) #[true, true, true, true, true, true, true, true, false, false, false] (any_of HT_.out (by kernel_rfl)) ?_
       refine one_ (i := 8) (N := some 7) #[true, true, true, true, true, true, true, true, true, false, false] rfl rfl (one_of HT_.out (by kernel_rfl)) (by decide) (fun K hK => ?_)
       refine box_step ?hg (N := 7) ?hd (cs := #[.int .i64 0, .int .i64 0, .int .i64 0, .int .i64 0]) (t := 29) ?hr ?_; (case hd => rfl); (case hg => rfl); (case hr => first | (go_simp; done) | (go_simp; rfl))
       intro gb937 hg w29 hbox hb
       have n0_ := Aside0.mk (zbb BK908 hb)
       have n1_ := Aside0.mk (zbb BK909 hb)
       have n2_ := Aside0.mk (zbb BK923 hb)
       have n3_ := Aside0.mk (below_step (zb1 HB) hb)
       have BK937 := Aside0.mk (hbox)
       have GW937 := Aside0.mk (zge (zb1 HB) hg)
       have GE937 := Aside0.mk (zge (zb1 HB) hg)
       have NB908_937 := Aside0.mk (zlt BK908 hg)
       have NB937_908 := Aside0.mk (zgt BK908 hg)
       have NB909_937 := Aside0.mk (zlt BK909 hg)
       have NB937_909 := Aside0.mk (zgt BK909 hg)
       have NB923_937 := Aside0.mk (zlt BK923 hg)
       have NB937_923 := Aside0.mk (zgt BK923 hg)
       clear BK908 BK909 BK923 HB
       have BK908 := n0_; have BK909 := n1_; have BK923 := n2_; have HB := n3_
       clear n0_ n1_ n2_ n3_ hb hbox hg
       refine hK.out _ _ ⟨zc BK908 0, zc BK908 1, zc BK908 2, zc BK908 3, zc BK909 0, zc BK909 1, zc BK909 2, zc BK909 3⟩ (fun hHeld => ?_)
       clear hK K
       refine norm_ (a' := ?_) ?_ ?_
       rotate_left
       ·
        show Act.put _ (some 7) _ = _
        simp only [Act.put, List.setIfInBounds_toArray, List.set_cons_zero, List.set_cons_succ, i64_w, i32_w]; rfl
       exact norm_ (by simp only [putAll, Act.put, List.setIfInBounds_toArray, List.set_cons_zero, List.set_cons_succ]) (hCont (gb937) _ ⟨hHeld, (zq1 BK908), (zq1 BK909), (zq1 BK923), (zq1 BK937), GW937.out, GE937.out, NB908_937.out, NB937_908.out, NB909_937.out, NB937_909.out, NB923_937.out, NB937_923.out, (zb1 HB)⟩)
      ·
       refine box_step ?hg (N := 7) ?hd (cs := #[.int .i64 0, .int .i64 0, .int .i64 0, .int .i64 0]) (t := 29) ?hr ?_; (case hd => rfl); (case hg => rfl); (case hr => first | (go_simp; done) | (go_simp; rfl))
       intro gb937 hg w28 hbox hb
       have n0_ := Aside0.mk (zbb BK908 hb)
       have n1_ := Aside0.mk (zbb BK909 hb)
       have n2_ := Aside0.mk (zbb BK923 hb)
       have n3_ := Aside0.mk (below_step (zb1 HB) hb)
       have BK937 := Aside0.mk (hbox)
       have GW937 := Aside0.mk (zge (zb1 HB) hg)
       have GE937 := Aside0.mk (zge (zb1 HB) hg)
       have NB908_937 := Aside0.mk (zlt BK908 hg)
       have NB937_908 := Aside0.mk (zgt BK908 hg)
       have NB909_937 := Aside0.mk (zlt BK909 hg)
       have NB937_909 := Aside0.mk (zgt BK909 hg)
       have NB923_937 := Aside0.mk (zlt BK923 hg)
       have NB937_923 := Aside0.mk (zgt BK923 hg)
       clear BK908 BK909 BK923 HB
       have BK908 := n0_; have BK909 := n1_; have BK923 := n2_; have HB := n3_
       clear n0_ n1_ n2_ n3_ hb hbox hg
       refine hK.out _ _ ⟨zc BK908 0, zc BK908 1, zc BK908 2, zc BK908 3, zc BK909 0, zc BK909 1, zc BK909 2, zc BK909 3⟩ (fun hHeld => ?_)
       clear hK K
       refine norm_ (a' := ?_) ?_ ?_
       rotate_left
       ·
        show Act.put _ (some 7) _ = _
        simp only [Act.put, List.setIfInBounds_toArray, List.set_cons_zero, List.set_cons_succ, i64_w, i32_w]; rfl
       refine one_ (i := 4) (N := some 22) #[true, true, true, true, true, false, false, false, true, false, false] rfl rfl (one_of HT_.out (by kernel_rfl)) (by decide) (fun K hK => ?_)
       refine goes_ Try.func37 (by kernel_rfl) rfl #[.agg #[.int .i64 t924, .int .i64 t925, .int .i64 t926, .int .i64 t927], .agg #[.int .i64 t928, .int .i64 t929, .int .i64 t930, .int .i64 t931]] (by rfl) rfl rfl zq6 ?_
       with_reducible refine (impl_MultiplyIntervals.calls k t924 t925 t926 t927 t928 t929 t930 t931 t932 t933 t934 t935 t936 _ A8.out).mono ?_
       rintro e w29 ⟨rfl, hb⟩
       refine ⟨_, rfl, ?_⟩
       replace BK908 := Aside0.mk (zbb BK908 hb); replace BK909 := Aside0.mk (zbb BK909 hb); replace BK923 := Aside0.mk (zbb BK923 hb); replace BK937 := Aside0.mk (zbb BK937 hb); replace HB := Aside0.mk (below_step (zb1 HB) hb)
       (try clear hb)
       (try clear hb2)
       (try clear hk)
       (try clear hi)
       refine hK.out _ _ ⟨zc BK908 0, zc BK908 1, zc BK908 2, zc BK908 3, zc BK909 0, zc BK909 1, zc BK909 2, zc BK909 3⟩ (fun hHeld => ?_)
       clear hK K
       refine norm_ (a' := ?_) ?_ ?_
       rotate_left
       ·
        show Act.put _ (some 22) _ = _
        simp only [Act.put, List.setIfInBounds_toArray, List.set_cons_zero, List.set_cons_succ, i64_w, i32_w]; rfl
       refine zp (i := 5) (N := some 17) #[true, true, true, true, true, true, false, false, true, false, false] (any_of HT_.out (by kernel_rfl)) ?_
       refine zp (i := 6) (N := some 23) #[true, true, true, true, true, true, true, false, true, false, false] (any_of HT_.out (by kernel_rfl)) ?_
       refine zp (i := 7) (N := some 24) #[true, true, true, true, true, true, true, true, true, false, false] (any_of HT_.out (by kernel_rfl)) ?_
       exact norm_ (by simp only [putAll, Act.put, List.setIfInBounds_toArray, List.set_cons_zero, List.set_cons_succ]) (hCont (gb937) _ ⟨hHeld, (zq1 BK908), (zq1 BK909), (zq1 BK923), (zq1 BK937), GW937.out, GE937.out, NB908_937.out, NB937_908.out, NB909_937.out, NB937_909.out, NB923_937.out, NB937_923.out, (zb1 HB)⟩)
     ·
      refine box_step ?hg (N := 7) ?hd (cs := #[.int .i64 0, .int .i64 0, .int .i64 0, .int .i64 0]) (t := 29) ?hr ?_; (case hd => rfl); (case hg => rfl); (case hr => first | (go_simp; done) | (go_simp; rfl))
      intro gb937 hg w27 hbox hb
      have n0_ := Aside0.mk (zbb BK908 hb)
      have n1_ := Aside0.mk (zbb BK909 hb)
      have n2_ := Aside0.mk (zbb BK923 hb)
      have n3_ := Aside0.mk (below_step (zb1 HB) hb)
      have BK937 := Aside0.mk (hbox)
      have GW937 := Aside0.mk (zge (zb1 HB) hg)
      have GE937 := Aside0.mk (zge (zb1 HB) hg)
      have NB908_937 := Aside0.mk (zlt BK908 hg)
      have NB937_908 := Aside0.mk (zgt BK908 hg)
      have NB909_937 := Aside0.mk (zlt BK909 hg)
      have NB937_909 := Aside0.mk (zgt BK909 hg)
      have NB923_937 := Aside0.mk (zlt BK923 hg)
      have NB937_923 := Aside0.mk (zgt BK923 hg)
      clear BK908 BK909 BK923 HB
      have BK908 := n0_; have BK909 := n1_; have BK923 := n2_; have HB := n3_
      clear n0_ n1_ n2_ n3_ hb hbox hg
      refine hK.out _ _ ⟨zc BK908 0, zc BK908 1, zc BK908 2, zc BK908 3, zc BK909 0, zc BK909 1, zc BK909 2, zc BK909 3⟩ (fun hHeld => ?_)
      clear hK K
      refine norm_ (a' := ?_) ?_ ?_
      rotate_left
      ·
       show Act.put _ (some 7) _ = _
       simp only [Act.put, List.setIfInBounds_toArray, List.set_cons_zero, List.set_cons_succ, i64_w, i32_w]; rfl
      refine one_ (i := 3) (N := some 21) #[true, true, true, true, false, false, false, false, true, false, false] rfl rfl (one_of HT_.out (by kernel_rfl)) (by decide) (fun K hK => ?_)
      refine goes_ Try.func16 (by kernel_rfl) rfl #[.agg #[.int .i64 a1_0, .int .i64 a1_1, .int .i64 a1_2, .int .i64 a1_3]] (by rfl) rfl rfl zq6 ?_
      with_reducible refine (laws_toInterval.calls a1_0 a1_1 a1_2 a1_3 t928 t929 t930 t931 _ A7.out).mono ?_
      rintro e w28 ⟨rfl, hb⟩
      refine ⟨_, rfl, ?_⟩
      replace BK908 := Aside0.mk (zbb BK908 hb); replace BK909 := Aside0.mk (zbb BK909 hb); replace BK923 := Aside0.mk (zbb BK923 hb); replace BK937 := Aside0.mk (zbb BK937 hb); replace HB := Aside0.mk (below_step (zb1 HB) hb)
      (try clear hb)
      (try clear hb2)
      (try clear hk)
      (try clear hi)
      refine hK.out _ _ ⟨zc BK908 0, zc BK908 1, zc BK908 2, zc BK908 3, zc BK909 0, zc BK909 1, zc BK909 2, zc BK909 3⟩ (fun hHeld => ?_)
      clear hK K
      refine norm_ (a' := ?_) ?_ ?_
      rotate_left
      ·
       show Act.put _ (some 21) _ = _
       simp only [Act.put, List.setIfInBounds_toArray, List.set_cons_zero, List.set_cons_succ, i64_w, i32_w]; rfl
      refine one_ (i := 4) (N := some 22) #[true, true, true, true, true, false, false, false, true, false, false] rfl rfl (one_of HT_.out (by kernel_rfl)) (by decide) (fun K hK => ?_)
      refine goes_ Try.func37 (by kernel_rfl) rfl #[.agg #[.int .i64 t924, .int .i64 t925, .int .i64 t926, .int .i64 t927], .agg #[.int .i64 t928, .int .i64 t929, .int .i64 t930, .int .i64 t931]] (by rfl) rfl rfl zq6 ?_
      with_reducible refine (impl_MultiplyIntervals.calls k t924 t925 t926 t927 t928 t929 t930 t931 t932 t933 t934 t935 t936 _ A8.out).mono ?_
      rintro e w29 ⟨rfl, hb⟩
      refine ⟨_, rfl, ?_⟩
      replace BK908 := Aside0.mk (zbb BK908 hb); replace BK909 := Aside0.mk (zbb BK909 hb); replace BK923 := Aside0.mk (zbb BK923 hb); replace BK937 := Aside0.mk (zbb BK937 hb); replace HB := Aside0.mk (below_step (zb1 HB) hb)
      (try clear hb)
      (try clear hb2)
      (try clear hk)
      (try clear hi)
      refine hK.out _ _ ⟨zc BK908 0, zc BK908 1, zc BK908 2, zc BK908 3, zc BK909 0, zc BK909 1, zc BK909 2, zc BK909 3⟩ (fun hHeld => ?_)
      clear hK K
      refine norm_ (a' := ?_) ?_ ?_
      rotate_left
      ·
       show Act.put _ (some 22) _ = _
       simp only [Act.put, List.setIfInBounds_toArray, List.set_cons_zero, List.set_cons_succ, i64_w, i32_w]; rfl
      refine zp (i := 5) (N := some 17) #[true, true, true, true, true, true, false, false, true, false, false] (any_of HT_.out (by kernel_rfl)) ?_
      refine zp (i := 6) (N := some 23) #[true, true, true, true, true, true, true, false, true, false, false] (any_of HT_.out (by kernel_rfl)) ?_
      refine zp (i := 7) (N := some 24) #[true, true, true, true, true, true, true, true, true, false, false] (any_of HT_.out (by kernel_rfl)) ?_
      exact norm_ (by simp only [putAll, Act.put, List.setIfInBounds_toArray, List.set_cons_zero, List.set_cons_succ]) (hCont (gb937) _ ⟨hHeld, (zq1 BK908), (zq1 BK909), (zq1 BK923), (zq1 BK937), GW937.out, GE937.out, NB908_937.out, NB937_908.out, NB909_937.out, NB937_909.out, NB923_937.out, NB937_923.out, (zb1 HB)⟩)
    ·
     refine box_step ?hg (N := 7) ?hd (cs := #[.int .i64 0, .int .i64 0, .int .i64 0, .int .i64 0]) (t := 29) ?hr ?_; (case hd => rfl); (case hg => rfl); (case hr => first | (go_simp; done) | (go_simp; rfl))
     intro gb937 hg w26 hbox hb
     have n0_ := Aside0.mk (zbb BK908 hb)
     have n1_ := Aside0.mk (zbb BK909 hb)
     have n2_ := Aside0.mk (zbb BK923 hb)
     have n3_ := Aside0.mk (below_step (zb1 HB) hb)
     have BK937 := Aside0.mk (hbox)
     have GW937 := Aside0.mk (zge (zb1 HB) hg)
     have GE937 := Aside0.mk (zge (zb1 HB) hg)
     have NB908_937 := Aside0.mk (zlt BK908 hg)
     have NB937_908 := Aside0.mk (zgt BK908 hg)
     have NB909_937 := Aside0.mk (zlt BK909 hg)
     have NB937_909 := Aside0.mk (zgt BK909 hg)
     have NB923_937 := Aside0.mk (zlt BK923 hg)
     have NB937_923 := Aside0.mk (zgt BK923 hg)
     clear BK908 BK909 BK923 HB
     have BK908 := n0_; have BK909 := n1_; have BK923 := n2_; have HB := n3_
     clear n0_ n1_ n2_ n3_ hb hbox hg
     refine hK.out _ _ ⟨zc BK908 0, zc BK908 1, zc BK908 2, zc BK908 3, zc BK909 0, zc BK909 1, zc BK909 2, zc BK909 3⟩ (fun hHeld => ?_)
     clear hK K
     refine norm_ (a' := ?_) ?_ ?_
     rotate_left
     ·
      show Act.put _ (some 7) _ = _
      simp only [Act.put, List.setIfInBounds_toArray, List.set_cons_zero, List.set_cons_succ, i64_w, i32_w]; rfl
     refine one_ (i := 1) (N := some 19) #[true, true, true, false, false, false, false, false, true, false, false] rfl rfl (one_of HT_.out (by kernel_rfl)) (by decide) (fun K hK => ?_)
     refine goes_ Try.func16 (by kernel_rfl) rfl #[.agg #[.int .i64 a0_0, .int .i64 a0_1, .int .i64 a0_2, .int .i64 a0_3]] (by rfl) rfl rfl zq6 ?_
     with_reducible refine (laws_toInterval.calls a0_0 a0_1 a0_2 a0_3 t924 t925 t926 t927 _ A6.out).mono ?_
     rintro e w27 ⟨rfl, hb⟩
     refine ⟨_, rfl, ?_⟩
     replace BK908 := Aside0.mk (zbb BK908 hb); replace BK909 := Aside0.mk (zbb BK909 hb); replace BK923 := Aside0.mk (zbb BK923 hb); replace BK937 := Aside0.mk (zbb BK937 hb); replace HB := Aside0.mk (below_step (zb1 HB) hb)
     (try clear hb)
     (try clear hb2)
     (try clear hk)
     (try clear hi)
     refine hK.out _ _ ⟨zc BK908 0, zc BK908 1, zc BK908 2, zc BK908 3, zc BK909 0, zc BK909 1, zc BK909 2, zc BK909 3⟩ (fun hHeld => ?_)
     clear hK K
     refine norm_ (a' := ?_) ?_ ?_
     rotate_left
     ·
      show Act.put _ (some 19) _ = _
      simp only [Act.put, List.setIfInBounds_toArray, List.set_cons_zero, List.set_cons_succ, i64_w, i32_w]; rfl
     refine one_ (i := 3) (N := some 21) #[true, true, true, true, false, false, false, false, true, false, false] rfl rfl (one_of HT_.out (by kernel_rfl)) (by decide) (fun K hK => ?_)
     refine goes_ Try.func16 (by kernel_rfl) rfl #[.agg #[.int .i64 a1_0, .int .i64 a1_1, .int .i64 a1_2, .int .i64 a1_3]] (by rfl) rfl rfl zq6 ?_
     with_reducible refine (laws_toInterval.calls a1_0 a1_1 a1_2 a1_3 t928 t929 t930 t931 _ A7.out).mono ?_
     rintro e w28 ⟨rfl, hb⟩
     refine ⟨_, rfl, ?_⟩
     replace BK908 := Aside0.mk (zbb BK908 hb); replace BK909 := Aside0.mk (zbb BK909 hb); replace BK923 := Aside0.mk (zbb BK923 hb); replace BK937 := Aside0.mk (zbb BK937 hb); replace HB := Aside0.mk (below_step (zb1 HB) hb)
     (try clear hb)
     (try clear hb2)
     (try clear hk)
     (try clear hi)
     refine hK.out _ _ ⟨zc BK908 0, zc BK908 1, zc BK908 2, zc BK908 3, zc BK909 0, zc BK909 1, zc BK909 2, zc BK909 3⟩ (fun hHeld => ?_)
     clear hK K
     refine norm_ (a' := ?_) ?_ ?_
     rotate_left
     ·
      show Act.put _ (some 21) _ = _
      simp only [Act.put, List.setIfInBounds_toArray, List.set_cons_zero, List.set_cons_succ, i64_w, i32_w]; rfl
     refine one_ (i := 4) (N := some 22) #[true, true, true, true, true, false, false, false, true, false, false] rfl rfl (one_of HT_.out (by kernel_rfl)) (by decide) (fun K hK => ?_)
     refine goes_ Try.func37 (by kernel_rfl) rfl #[.agg #[.int .i64 t924, .int .i64 t925, .int .i64 t926, .int .i64 t927], .agg #[.int .i64 t928, .int .i64 t929, .int .i64 t930, .int .i64 t931]] (by rfl) rfl rfl zq6 ?_
     with_reducible refine (impl_MultiplyIntervals.calls k t924 t925 t926 t927 t928 t929 t930 t931 t932 t933 t934 t935 t936 _ A8.out).mono ?_
     rintro e w29 ⟨rfl, hb⟩
     refine ⟨_, rfl, ?_⟩
     replace BK908 := Aside0.mk (zbb BK908 hb); replace BK909 := Aside0.mk (zbb BK909 hb); replace BK923 := Aside0.mk (zbb BK923 hb); replace BK937 := Aside0.mk (zbb BK937 hb); replace HB := Aside0.mk (below_step (zb1 HB) hb)
     (try clear hb)
     (try clear hb2)
     (try clear hk)
     (try clear hi)
     refine hK.out _ _ ⟨zc BK908 0, zc BK908 1, zc BK908 2, zc BK908 3, zc BK909 0, zc BK909 1, zc BK909 2, zc BK909 3⟩ (fun hHeld => ?_)
     clear hK K
     refine norm_ (a' := ?_) ?_ ?_
     rotate_left
     ·
      show Act.put _ (some 22) _ = _
      simp only [Act.put, List.setIfInBounds_toArray, List.set_cons_zero, List.set_cons_succ, i64_w, i32_w]; rfl
     refine zp (i := 5) (N := some 17) #[true, true, true, true, true, true, false, false, true, false, false] (any_of HT_.out (by kernel_rfl)) ?_
     refine zp (i := 6) (N := some 23) #[true, true, true, true, true, true, true, false, true, false, false] (any_of HT_.out (by kernel_rfl)) ?_
     refine zp (i := 7) (N := some 24) #[true, true, true, true, true, true, true, true, true, false, false] (any_of HT_.out (by kernel_rfl)) ?_
     exact norm_ (by simp only [putAll, Act.put, List.setIfInBounds_toArray, List.set_cons_zero, List.set_cons_succ]) (hCont (gb937) _ ⟨hHeld, (zq1 BK908), (zq1 BK909), (zq1 BK923), (zq1 BK937), GW937.out, GE937.out, NB908_937.out, NB937_908.out, NB909_937.out, NB937_909.out, NB923_937.out, NB937_923.out, (zb1 HB)⟩)
   rintro gb937 w30 ⟨hS_, h0_, h1_, h2_, h3_, h4_, h5_, h6_, h7_, h8_, h9_, h10_, h11_, h12_⟩
   have BK937 : Aside0 (w30.heap[gb937]? = some (.cells #[.int .i64 0, .int .i64 0, .int .i64 0, .int .i64 0] 29 (0, 0))) := ⟨h3_⟩
   have GW937 : Aside0 (w.heap.size ≤ gb937) := ⟨h4_⟩
   have GE937 : Aside0 (w.heap.size ≤ gb937) := ⟨h5_⟩
   have NB908_937 : Aside0 (gb908 ≠ gb937) := ⟨h6_⟩
   have NB937_908 : Aside0 (gb937 ≠ gb908) := ⟨h7_⟩
   have NB909_937 : Aside0 (gb909 ≠ gb937) := ⟨h8_⟩
   have NB937_909 : Aside0 (gb937 ≠ gb909) := ⟨h9_⟩
   have NB923_937 : Aside0 (gb923 ≠ gb937) := ⟨h10_⟩
   have NB937_923 : Aside0 (gb937 ≠ gb923) := ⟨h11_⟩
   replace BK908 : Aside0 (w30.heap[gb908]? = some (.cells #[.int .i64 a0_0, .int .i64 a0_1, .int .i64 a0_2, .int .i64 a0_3] 25 (0, 0))) := ⟨h0_⟩; replace BK909 : Aside0 (w30.heap[gb909]? = some (.cells #[.int .i64 a1_0, .int .i64 a1_1, .int .i64 a1_2, .int .i64 a1_3] 25 (0, 0))) := ⟨h1_⟩; replace BK923 : Aside0 (w30.heap[gb923]? = some (.cells #[.int .i64 t918, .int .i64 t919, .int .i64 t920, .int .i64 t921] 29 (0, 0))) := ⟨h2_⟩; replace HB : Aside0 (Below w.heap.size w w30) := ⟨h12_⟩
   clear h0_ h10_ h11_ h12_ h1_ h2_ h3_ h4_ h5_ h6_ h7_ h8_ h9_
   have hHeld : w30.cell? ⟨gb908, 0, none⟩ = some (.int .i64 a0_0) ∧ w30.cell? ⟨gb908, 1, none⟩ = some (.int .i64 a0_1) ∧ w30.cell? ⟨gb908, 2, none⟩ = some (.int .i64 a0_2) ∧ w30.cell? ⟨gb908, 3, none⟩ = some (.int .i64 a0_3) ∧ w30.cell? ⟨gb909, 0, none⟩ = some (.int .i64 a1_0) ∧ w30.cell? ⟨gb909, 1, none⟩ = some (.int .i64 a1_1) ∧ w30.cell? ⟨gb909, 2, none⟩ = some (.int .i64 a1_2) ∧ w30.cell? ⟨gb909, 3, none⟩ = some (.int .i64 a1_3) := hS_
   refine norm_ (a' := ?_) ?_ ?_
   rotate_left
   ·
    simp only [putAll, Act.put, List.setIfInBounds_toArray, List.set_cons_zero, List.set_cons_succ]
    rfl
   refine one_ (i := 9) (N := none) #[true, true, true, true, true, true, true, true, true, true, false] rfl rfl (one_of HT_.out (by kernel_rfl)) (by decide) (fun K hK => ?_)
   have hs31 : w30.cell? ⟨gb937, 0, none⟩ = some (.int .i64 0) := zc BK937 0
   have hfs31 := blk_frozen BK937.out 0
   have hns31_0 := NB908_937.out
   have hns31_1 := NB909_937.out
   have hns31_2 := NB923_937.out
   have hms31_0 := NB937_908.out
   have hms31_1 := NB937_909.out
   have hms31_2 := NB937_923.out
   have hs32 : w30.cell? ⟨gb937, 1, none⟩ = some (.int .i64 0) := zc BK937 1
   have hfs32 := blk_frozen BK937.out 1
   have hns32_0 := NB908_937.out
   have hns32_1 := NB909_937.out
   have hns32_2 := NB923_937.out
   have hms32_0 := NB937_908.out
   have hms32_1 := NB937_909.out
   have hms32_2 := NB937_923.out
   have hs33 : w30.cell? ⟨gb937, 2, none⟩ = some (.int .i64 0) := zc BK937 2
   have hfs33 := blk_frozen BK937.out 2
   have hns33_0 := NB908_937.out
   have hns33_1 := NB909_937.out
   have hns33_2 := NB923_937.out
   have hms33_0 := NB937_908.out
   have hms33_1 := NB937_909.out
   have hms33_2 := NB937_923.out
   have hs34 : w30.cell? ⟨gb937, 3, none⟩ = some (.int .i64 0) := zc BK937 3
   have hfs34 := blk_frozen BK937.out 3
   have hns34_0 := NB908_937.out
   have hns34_1 := NB909_937.out
   have hns34_2 := NB923_937.out
   have hms34_0 := NB937_908.out
   have hms34_1 := NB937_909.out
   have hms34_2 := NB937_923.out
   refine skip_ (w1 := ?_) (by rfl) rfl ?_ ?_
   rotate_left
   ·
    go_simp
    rfl
   refine hK.out _ _ ⟨((cell_far (p := ⟨gb937, _, none⟩) NB908_937.out _).trans (((cell_far (p := ⟨gb937, _, none⟩) NB908_937.out _).trans (((cell_far (p := ⟨gb937, _, none⟩) NB908_937.out _).trans (((cell_far (p := ⟨gb937, _, none⟩) NB908_937.out _).trans (hHeld.1)))))))), ((cell_far (p := ⟨gb937, _, none⟩) NB908_937.out _).trans (((cell_far (p := ⟨gb937, _, none⟩) NB908_937.out _).trans (((cell_far (p := ⟨gb937, _, none⟩) NB908_937.out _).trans (((cell_far (p := ⟨gb937, _, none⟩) NB908_937.out _).trans (hHeld.2.1)))))))), ((cell_far (p := ⟨gb937, _, none⟩) NB908_937.out _).trans (((cell_far (p := ⟨gb937, _, none⟩) NB908_937.out _).trans (((cell_far (p := ⟨gb937, _, none⟩) NB908_937.out _).trans (((cell_far (p := ⟨gb937, _, none⟩) NB908_937.out _).trans (hHeld.2.2.1)))))))), ((cell_far (p := ⟨gb937, _, none⟩) NB908_937.out _).trans (((cell_far (p := ⟨gb937, _, none⟩) NB908_937.out _).trans (((cell_far (p := ⟨gb937, _, none⟩) NB908_937.out _).trans (((cell_far (p := ⟨gb937, _, none⟩) NB908_937.out _).trans (hHeld.2.2.2.1)))))))), ((cell_far (p := ⟨gb937, _, none⟩) NB909_937.out _).trans (((cell_far (p := ⟨gb937, _, none⟩) NB909_937.out _).trans (((cell_far (p := ⟨gb937, _, none⟩) NB909_937.out _).trans (((cell_far (p := ⟨gb937, _, none⟩) NB909_937.out _).trans (hHeld.2.2.2.2.1)))))))), ((cell_far (p := ⟨gb937, _, none⟩) NB909_937.out _).trans (((cell_far (p := ⟨gb937, _, none⟩) NB909_937.out _).trans (((cell_far (p := ⟨gb937, _, none⟩) NB909_937.out _).trans (((cell_far (p := ⟨gb937, _, none⟩) NB909_937.out _).trans (hHeld.2.2.2.2.2.1)))))))), ((cell_far (p := ⟨gb937, _, none⟩) NB909_937.out _).trans (((cell_far (p := ⟨gb937, _, none⟩) NB909_937.out _).trans (((cell_far (p := ⟨gb937, _, none⟩) NB909_937.out _).trans (((cell_far (p := ⟨gb937, _, none⟩) NB909_937.out _).trans (hHeld.2.2.2.2.2.2.1)))))))), ((cell_far (p := ⟨gb937, _, none⟩) NB909_937.out _).trans (((cell_far (p := ⟨gb937, _, none⟩) NB909_937.out _).trans (((cell_far (p := ⟨gb937, _, none⟩) NB909_937.out _).trans (((cell_far (p := ⟨gb937, _, none⟩) NB909_937.out _).trans (hHeld.2.2.2.2.2.2.2))))))))⟩ (fun hHeld => ?_)
   clear hK K
   refine zp (i := 10) (N := some 8) #[true, true, true, true, true, true, true, true, true, true, true] (any_of HT_.out (by kernel_rfl)) ?_
   refine done_ (done_of HT_.out (by kernel_rfl)) ?_
   have hnb35 := NB937_908.out
   have hnc35 := NB908_937.out
   have hnb36 := NB937_909.out
   have hnc36 := NB909_937.out
   have hnb37 := NB937_923.out
   have hnc37 := NB923_937.out
   have hcz38_0 : w30.cell? ⟨gb937, 0, none⟩ = some (.int .i64 0) := zc BK937 0
   have hcz38_1 : w30.cell? ⟨gb937, 1, none⟩ = some (.int .i64 0) := zc BK937 1
   have hcz38_2 : w30.cell? ⟨gb937, 2, none⟩ = some (.int .i64 0) := zc BK937 2
   have hcz38_3 : w30.cell? ⟨gb937, 3, none⟩ = some (.int .i64 0) := zc BK937 3
   have hfz38_0 := blk_frozen BK937.out 0
   have hfz38_1 := blk_frozen BK937.out 1
   have hfz38_2 := blk_frozen BK937.out 2
   have hfz38_3 := blk_frozen BK937.out 3
   have hnb39 := NB923_908.out
   have hnc39 := NB908_923.out
   have hnb40 := NB923_909.out
   have hnc40 := NB909_923.out
   have hcz41_0 : w30.cell? ⟨gb923, 0, none⟩ = some (.int .i64 t918) := zc BK923 0
   have hcz41_1 : w30.cell? ⟨gb923, 1, none⟩ = some (.int .i64 t919) := zc BK923 1
   have hcz41_2 : w30.cell? ⟨gb923, 2, none⟩ = some (.int .i64 t920) := zc BK923 2
   have hcz41_3 : w30.cell? ⟨gb923, 3, none⟩ = some (.int .i64 t921) := zc BK923 3
   have hfz41_0 := blk_frozen BK923.out 0
   have hfz41_1 := blk_frozen BK923.out 1
   have hfz41_2 := blk_frozen BK923.out 2
   have hfz41_3 := blk_frozen BK923.out 3
   try go_wp2_with (first | ((with_reducible refine gate_callee (f := 24) rfl ?_); refine goesL_ (some 27) rfl rfl Try.func24 (by kernel_rfl) rfl #[.agg #[.int .i64 t932, .int .i64 t933, .int .i64 t934, .int .i64 t935], .agg #[.int .i64 t918, .int .i64 t919, .int .i64 t920, .int .i64 t921]] rfl zq6 ?_; (with_reducible refine (laws_eqInterval.calls t932 t933 t934 t935 t918 t919 t920 t921 true _ A9.out).mono ?_); rintro e w42 ⟨rfl, hb⟩; refine ⟨_, rfl, ?_⟩; replace BK908 := Aside0.mk (blk_below (g := gb908) (o := .cells #[.int .i64 a0_0, .int .i64 a0_1, .int .i64 a0_2, .int .i64 a0_3] 25 (0, 0)) (zq5 BK908) hb); replace BK909 := Aside0.mk (blk_below (g := gb909) (o := .cells #[.int .i64 a1_0, .int .i64 a1_1, .int .i64 a1_2, .int .i64 a1_3] 25 (0, 0)) (zq5 BK909) hb); replace BK923 := Aside0.mk (blk_below (g := gb923) (o := .cells #[.int .i64 t918, .int .i64 t919, .int .i64 t920, .int .i64 t921] 29 (0, 0)) (zq5 BK923) hb); replace BK937 := Aside0.mk (blk_below (g := gb937) (o := .cells #[.int .i64 t932, .int .i64 t933, .int .i64 t934, .int .i64 t935] 29 (0, 0)) (by (with_reducible repeat (first | refine blk_drewN ?_ _ | refine blk_drew ?_ | refine blk_alloc ?_ _)); refine blk_put (cs := #[.int .i64 t932, .int .i64 t933, .int .i64 t934, .int .i64 0]) ?_ 3 _ rfl; (with_reducible repeat (first | refine blk_drewN ?_ _ | refine blk_drew ?_ | refine blk_alloc ?_ _)); refine blk_put (cs := #[.int .i64 t932, .int .i64 t933, .int .i64 0, .int .i64 0]) ?_ 2 _ rfl; (with_reducible repeat (first | refine blk_drewN ?_ _ | refine blk_drew ?_ | refine blk_alloc ?_ _)); refine blk_put (cs := #[.int .i64 t932, .int .i64 0, .int .i64 0, .int .i64 0]) ?_ 1 _ rfl; (with_reducible repeat (first | refine blk_drewN ?_ _ | refine blk_drew ?_ | refine blk_alloc ?_ _)); refine blk_put (cs := #[.int .i64 0, .int .i64 0, .int .i64 0, .int .i64 0]) ?_ 0 _ rfl; (with_reducible repeat (first | refine blk_drewN ?_ _ | refine blk_drew ?_ | refine blk_alloc ?_ _)); exact BK937.out) hb); replace HB := Aside0.mk (below_step (zb1 HB) hb); (try clear hb); (try clear hb2); (try clear hk); (try clear hi)))
   go_ret
   exact ⟨by first | rfl | (simp [errW_none, errW_some] <;> rfl) | (simp [*, errW_none, errW_some] <;> rfl), (zb1 HB)⟩
 ·
  replace c10 := Bool.eq_false_iff.mpr c10
  subst c10
  have H1 : (none) = some r := by rw [if_neg (show ¬ (false = true) by decide)] at H; exact H
  clear H
  have H := H1
  clear H1
  exact absurd H (by simp)
end Go.Proofs.Ytinpcalgdiigiaa.PD
