-- Written by a program of this session (wip/mk/drv.py) out of the seat's translation; Lean checks it.
import Derived.Test.YtinpcalgdiigiaaQSubtractIntervalsPDx0
import Derived.Test.YtinpcalgdiigiaaQSubtractIntervalsPDx1
import Derived.Test.YtinpcalgdiigiaaQSubtractIntervalsPDx3
import Derived.Test.YtinpcalgdiigiaaQSubtractIntervalsPDx57
import Derived.Test.YtinpcalgdiigiaaQSubtractIntervalsPDx59
namespace Go.Proofs.Ytinpcalgdiigiaa.PD
open Go.RowKit Go.Proofs.YtinpcalgdiigiaaW.PrintWords Go.Proofs.YtinpcalgdiigiaaW.PrintLast Go.Proofs.YtinpcalgdiigiaaW.PrintMore
attribute [local go_sem] max2_int min2_int max_two min_two max_three min_three max_four min_four   -- for this text's walks alone
set_option linter.unusedVariables false
set_option linter.unusedSimpArgs false
/-! ### impl_reckoner_subtract: function 66 -/
theorem z66_0 {P Q : Prop} (h : Aside0 (Q)) (f : Q → P := by intro h_; repeat (first | (with_reducible first | exact h_ | apply IsS57.alloc | apply IsS57.drewN | apply IsS57.drew | apply IsS57.set_0) | exact h_)) : P := f h.out
theorem z66_1 {w W0 W1 : World} {g : Nat} {row : Option Nat} (h : Aside0 (KeepBut w W0 g row)) (f : KeepBut w W0 g row → KeepBut w W1 g row := by intro h_; repeat (first | (with_reducible first | exact h_ | apply KeepBut.set_ | apply keep_drewN | apply keep_drew | apply keep_alloc) | exact h_)) : KeepBut w W1 g row := f h.out
theorem z66_2 {w W0 W1 : World} {B : Nat} (h : Aside0 (Below B w W0)) (f : Below B w W0 → Below B w W1 := by intro h_; repeat (first | (with_reducible first | exact h_ | apply below_alloc | apply pw_below_drewN | apply below_drew1 | refine below_set ?_ (IsS57.ge (Aside0.out (by assumption)))) | exact h_)) : Below B w W1 := f h.out
theorem z66_3 {P Q : Prop} (h : Aside0 (Q)) (f : Q → P := by intro h_; repeat (first | (with_reducible first | exact h_ | apply IsS57.alloc | apply IsS57.drewN | apply IsS57.drew | apply IsS57.set_0 | refine IsS57.far ?_ (Aside0.out (by assumption)) _) | exact h_)) : P := f h.out
theorem z66_4 {w W0 W1 : World} {g : Nat} {row : Option Nat} (h : Aside0 (KeepBut w W0 g row)) (f : KeepBut w W0 g row → KeepBut w W1 g row := by intro h_; repeat (first | (with_reducible first | exact h_ | apply KeepBut.set_ | apply keep_drewN | apply keep_drew | apply keep_alloc | refine keep_far ?_ (Aside0.out (by assumption)) _) | exact h_)) : KeepBut w W1 g row := f h.out
theorem z66_5 {w W0 W1 : World} {B : Nat} (h : Aside0 (Below B w W0)) (f : Below B w W0 → Below B w W1 := by intro h_; repeat (first | (with_reducible first | exact h_ | apply below_alloc | apply pw_below_drewN | apply below_drew1 | refine below_set ?_ (IsS57.ge (Aside0.out (by assumption))) | refine below_set ?_ (Aside0.out (by assumption))) | exact h_)) : Below B w W1 := f h.out
def impl_reckoner_subtract.T1 : Bool × List (List Nat × List Nat) := (true, [([], []), ([], []), ([1], [1]), ([], []), ([3], [3]), ([4], [4]), ([0, 2, 5, 5], [0, 2, 5]), ([], []), ([], []), ([8], [8]), ([], []), ([10], [10]), ([11, 6], [11]), ([7, 9, 12, 12], [7, 9, 12]), ([6, 13], [6, 13]), ([14, 13, 0, 1, 2, 3, 4, 5, 6, 7, 8, 9, 10, 11, 12, 13, 14], [14])])
def impl_reckoner_subtract.B1 : List Nat := [0, 0, 2, 0, 8, 24, 63, 0, 0, 256, 0, 1024, 3199, 8191, 16383, 32767]
theorem impl_reckoner_subtract.tab1 : rtab .any (opsOf Try.f66 1) = impl_reckoner_subtract.T1 := by kernel_rfl
theorem impl_reckoner_subtract.bits1 : waitsOk impl_reckoner_subtract.T1.2 impl_reckoner_subtract.B1 = true := by kernel_rfl
set_option maxHeartbeats 8000000 in
set_option maxRecDepth 100000 in
theorem impl_reckoner_subtract.calls (k : Nat) (g : Nat) (s0_0 : Bool) (a1_0 : Int) (a1_1 : Int) (a1_2 : Int) (a1_3 : Int) (a2_0 : Int) (a2_1 : Int) (a2_2 : Int) (a2_3 : Int) (r1 : Int) (r2 : Int) (r3 : Int) (r4 : Int) (r5 : Bool) (w0 w : World) (hI : IsS57 w0 w g s0_0) (hB : Below w0.heap.size w0 w) (h : impl_reckoner_subtract.f k s0_0 a1_0 a1_1 a1_2 a1_3 a2_0 a2_1 a2_2 a2_3 = some (r1, r2, r3, r4, r5)) :
  Calls Try.prog 66 #[.pointer (some ⟨g, 0, none⟩), .agg #[.int .i64 a1_0, .int .i64 a1_1, .int .i64 a1_2, .int .i64 a1_3], .agg #[.int .i64 a2_0, .int .i64 a2_1, .int .i64 a2_2, .int .i64 a2_3]] w fun e w' => e = .returned (.agg #[.int .i64 r1, .int .i64 r2, .int .i64 r3, .int .i64 r4]) ∧ IsS57 w0 w' g r5 ∧ Below w0.heap.size w0 w' ∧ KeepBut w w' g none := by
 have hu29 := Try.underlying29
 have hu27 := Try.underlying27
 have HI0 := Aside0.mk hI
 have HK := Aside0.mk (KeepBut.refl w g none)
 have HL := Aside0.mk hB.size
 clear hI
 have HW0 := Aside0.mk hB.size
 have HB := Aside0.mk hB
 clear hB
 have H : ((impl_minus.f a2_2 a2_3).bind fun bt729 => ((impl_reckoner_sum.f k s0_0 a1_0 a1_1 bt729.1 bt729.2).bind fun bt731 => ((impl_minus.f a2_0 a2_1).bind fun bt734 => ((impl_reckoner_sum.f k bt731.2.2 a1_2 a1_3 bt734.1 bt734.2).bind fun bt736 => (some (bt731.1, bt731.2.1, bt736.1, bt736.2.1, bt736.2.2)))))) = some (r1, r2, r3, r4, r5) := h
 clear h
 replace H := Option.bind_eq_some_iff.mp H
 obtain ⟨⟨t729, t730⟩, A40, H⟩ := H
 replace H : ((impl_reckoner_sum.f k s0_0 a1_0 a1_1 t729 t730).bind fun bt731 => ((impl_minus.f a2_0 a2_1).bind fun bt734 => ((impl_reckoner_sum.f k bt731.2.2 a1_2 a1_3 bt734.1 bt734.2).bind fun bt736 => (some (bt731.1, bt731.2.1, bt736.1, bt736.2.1, bt736.2.2))))) = some (r1, r2, r3, r4, r5) := H
 have A4 := Aside0.mk A40
 clear A40
 replace H := Option.bind_eq_some_iff.mp H
 obtain ⟨⟨t731, t732, t733⟩, A50, H⟩ := H
 replace H : ((impl_minus.f a2_0 a2_1).bind fun bt734 => ((impl_reckoner_sum.f k t733 a1_2 a1_3 bt734.1 bt734.2).bind fun bt736 => (some (t731, t732, bt736.1, bt736.2.1, bt736.2.2)))) = some (r1, r2, r3, r4, r5) := H
 have A5 := Aside0.mk A50
 clear A50
 replace H := Option.bind_eq_some_iff.mp H
 obtain ⟨⟨t734, t735⟩, A60, H⟩ := H
 replace H : ((impl_reckoner_sum.f k t733 a1_2 a1_3 t734 t735).bind fun bt736 => (some (t731, t732, bt736.1, bt736.2.1, bt736.2.2))) = some (r1, r2, r3, r4, r5) := H
 have A6 := Aside0.mk A60
 clear A60
 replace H := Option.bind_eq_some_iff.mp H
 obtain ⟨⟨t736, t737, t738⟩, A70, H⟩ := H
 replace H : (some (t731, t732, t736, t737, t738)) = some (r1, r2, r3, r4, r5) := H
 have A7 := Aside0.mk A70
 clear A70
 simp only [Option.some.injEq, Prod.mk.injEq] at H
 obtain ⟨rfl, rfl, rfl, rfl, rfl⟩ := H
 go_enter Try.func66, Try.ntmps66
 try go_wp2_with (first | ((with_reducible refine gate_dst (N := 4) rfl ?_); refine box_event ?hg (N := 4) ?hd (cs := #[.int .i64 a1_0, .int .i64 a1_1, .int .i64 a1_2, .int .i64 a1_3]) (t := 29) ?hr ?_; (case hd => rfl); (case hg => rfl); (case hr => first | (go_simp; done) | (go_simp; rfl)); intro gb726 hg w8 hbox hb; have n0_ := Aside0.mk (IsS57.below (z66_0 HI0) hb); have n1_ := Aside0.mk (KeepBut.trans (z66_1 HK) (KeepBut.of_below hb g none) (.inl rfl)); have n2_ := Aside0.mk (below_step (z66_2 HB) hb); have n3_ := Aside0.mk (hbox); have n4_ := Aside0.mk ((by rw [hg]; exact (keep_size (w := w) (g := g) (row := none) (z66_1 HK)) : w.heap.size ≤ gb726)); have n5_ := Aside0.mk ((Nat.le_trans HW0.out (by rw [hg]; exact (keep_size (w := w) (g := g) (row := none) (z66_1 HK)) : w.heap.size ≤ gb726) : w0.heap.size ≤ gb726)); have n6_ := Aside0.mk ((by rw [hg]; exact Nat.ne_of_lt (IsS57.lt (show IsS57 w0 _ g s0_0 from (z66_0 HI0))) : g ≠ gb726)); have n7_ := Aside0.mk ((by rw [hg]; exact Nat.ne_of_gt (IsS57.lt (show IsS57 w0 _ g s0_0 from (z66_0 HI0))) : gb726 ≠ g)); clear HI0; clear HK; clear HB; have HI0 := n0_; have HK := n1_; have HB := n2_; have BK726 := n3_; have GW726 := n4_; have GE726 := n5_; have NB0_726 := n6_; have NB726_0 := n7_; clear n0_ n1_ n2_ n3_ n4_ n5_ n6_ n7_; clear hb hbox hg) | ((with_reducible refine gate_dst (N := 5) rfl ?_); refine box_event ?hg (N := 5) ?hd (cs := #[.int .i64 a2_0, .int .i64 a2_1, .int .i64 a2_2, .int .i64 a2_3]) (t := 29) ?hr ?_; (case hd => rfl); (case hg => rfl); (case hr => first | (go_simp; done) | (go_simp; rfl)); intro gb727 hg w9 hbox hb; have n0_ := Aside0.mk (IsS57.below (z66_3 HI0) hb); have n1_ := Aside0.mk (zbb BK726 hb); have n2_ := Aside0.mk (KeepBut.trans (z66_4 HK) (KeepBut.of_below hb g none) (.inl rfl)); have n3_ := Aside0.mk (below_step (z66_5 HB) hb); have n4_ := Aside0.mk (hbox); have n5_ := Aside0.mk ((by rw [hg]; exact (keep_size (w := w) (g := g) (row := none) (z66_4 HK)) : w.heap.size ≤ gb727)); have n6_ := Aside0.mk ((Nat.le_trans HW0.out (by rw [hg]; exact (keep_size (w := w) (g := g) (row := none) (z66_4 HK)) : w.heap.size ≤ gb727) : w0.heap.size ≤ gb727)); have n7_ := Aside0.mk (zlt BK726 hg); have n8_ := Aside0.mk (zgt BK726 hg); have n9_ := Aside0.mk ((by rw [hg]; exact Nat.ne_of_lt (IsS57.lt (show IsS57 w0 _ g s0_0 from (z66_3 HI0))) : g ≠ gb727)); have n10_ := Aside0.mk ((by rw [hg]; exact Nat.ne_of_gt (IsS57.lt (show IsS57 w0 _ g s0_0 from (z66_3 HI0))) : gb727 ≠ g)); clear HI0; clear BK726; clear HK; clear HB; have HI0 := n0_; have BK726 := n1_; have HK := n2_; have HB := n3_; have BK727 := n4_; have GW727 := n5_; have GE727 := n6_; have NB726_727 := n7_; have NB727_726 := n8_; have NB0_727 := n9_; have NB727_0 := n10_; clear n0_ n1_ n2_ n3_ n4_ n5_ n6_ n7_ n8_ n9_ n10_; clear hb hbox hg) | ((with_reducible refine gate_dst (N := 6) rfl ?_); refine box_event ?hg (N := 6) ?hd (cs := #[.int .i64 0, .int .i64 0, .int .i64 0, .int .i64 0]) (t := 29) ?hr ?_; (case hd => rfl); (case hg => rfl); (case hr => first | (go_simp; done) | (go_simp; rfl)); intro gb728 hg w10 hbox hb; have n0_ := Aside0.mk (IsS57.below (z66_3 HI0) hb); have n1_ := Aside0.mk (zbb BK726 hb); have n2_ := Aside0.mk (zbb BK727 hb); have n3_ := Aside0.mk (KeepBut.trans (z66_4 HK) (KeepBut.of_below hb g none) (.inl rfl)); have n4_ := Aside0.mk (below_step (z66_5 HB) hb); have n5_ := Aside0.mk (hbox); have n6_ := Aside0.mk ((by rw [hg]; exact (keep_size (w := w) (g := g) (row := none) (z66_4 HK)) : w.heap.size ≤ gb728)); have n7_ := Aside0.mk ((Nat.le_trans HW0.out (by rw [hg]; exact (keep_size (w := w) (g := g) (row := none) (z66_4 HK)) : w.heap.size ≤ gb728) : w0.heap.size ≤ gb728)); have n8_ := Aside0.mk (zlt BK726 hg); have n9_ := Aside0.mk (zgt BK726 hg); have n10_ := Aside0.mk (zlt BK727 hg); have n11_ := Aside0.mk (zgt BK727 hg); have n12_ := Aside0.mk ((by rw [hg]; exact Nat.ne_of_lt (IsS57.lt (show IsS57 w0 _ g s0_0 from (z66_3 HI0))) : g ≠ gb728)); have n13_ := Aside0.mk ((by rw [hg]; exact Nat.ne_of_gt (IsS57.lt (show IsS57 w0 _ g s0_0 from (z66_3 HI0))) : gb728 ≠ g)); clear HI0; clear BK726; clear BK727; clear HK; clear HB; have HI0 := n0_; have BK726 := n1_; have BK727 := n2_; have HK := n3_; have HB := n4_; have BK728 := n5_; have GW728 := n6_; have GE728 := n7_; have NB726_728 := n8_; have NB728_726 := n9_; have NB727_728 := n10_; have NB728_727 := n11_; have NB0_728 := n12_; have NB728_0 := n13_; clear n0_ n1_ n2_ n3_ n4_ n5_ n6_ n7_ n8_ n9_ n10_ n11_ n12_ n13_; clear hb hbox hg))
 have n0_ := Aside0.mk (blk_drew BK726.out)
 have n1_ := Aside0.mk (blk_drew BK727.out)
 have n2_ := Aside0.mk (blk_drew BK728.out)
 have n3_ := Aside0.mk (IsS57.drew HI0.out)
 have n4_ := Aside0.mk (keep_drew HK.out)
 have n5_ := Aside0.mk (below_drew1 HB.out)
 clear BK726 BK727 BK728 HI0 HK HB
 have BK726 := n0_; have BK727 := n1_; have BK728 := n2_; have HI0 := n3_; have HK := n4_; have HB := n5_
 clear n0_ n1_ n2_ n3_ n4_ n5_
 refine start_ (n := 16) (S := fun w' => w'.cell? ⟨gb726, 0, none⟩ = some (.int .i64 a1_0) ∧ w'.cell? ⟨gb726, 1, none⟩ = some (.int .i64 a1_1) ∧ w'.cell? ⟨gb726, 2, none⟩ = some (.int .i64 a1_2) ∧ w'.cell? ⟨gb726, 3, none⟩ = some (.int .i64 a1_3) ∧ w'.cell? ⟨gb727, 0, none⟩ = some (.int .i64 a2_0) ∧ w'.cell? ⟨gb727, 1, none⟩ = some (.int .i64 a2_1) ∧ w'.cell? ⟨gb727, 2, none⟩ = some (.int .i64 a2_2) ∧ w'.cell? ⟨gb727, 3, none⟩ = some (.int .i64 a2_3)) (ds := []) #[false, false, false, false, false, false, false, false, false, false, false, false, false, false, false, false] (by kernel_rfl) rfl rfl ⟨zc BK726 0, zc BK726 1, zc BK726 2, zc BK726 3, zc BK727 0, zc BK727 1, zc BK727 2, zc BK727 3⟩ (fun hHeld => ?_); refine with_tabW impl_reckoner_subtract.tab1 impl_reckoner_subtract.bits1 (fun HT_ HW_ => ?_)
 generalize w10.drew = w11 at BK726 BK727 BK728 HI0 HK HB hHeld ⊢
 refine pure_ (i := 0) (N := some 7) (v := ?_) (a' := ?_) #[true, false, false, false, false, false, false, false, false, false, false, false, false, false, false, false] rfl rfl (any_of HT_.out (by kernel_rfl)) (fun _ _ _ h => h) (Or.inl ⟨by rfl, ?_⟩) ?_ ?_
 rotate_left
 ·
  intro w'
  go_simp
  with_reducible rfl
 rotate_left
 ·
  simp only [Act.put, List.setIfInBounds_toArray, List.set_cons_zero, List.set_cons_succ, i64_w, i32_w]
  rfl
 refine pure_ (i := 1) (N := some 8) (v := ?_) (a' := ?_) #[true, true, false, false, false, false, false, false, false, false, false, false, false, false, false, false] rfl rfl (any_of HT_.out (by kernel_rfl)) (fun _ _ _ h => h) (Or.inl ⟨by rfl, ?_⟩) ?_ ?_
 rotate_left
 ·
  intro w'
  go_simp
  with_reducible rfl
 rotate_left
 ·
  simp only [Act.put, List.setIfInBounds_toArray, List.set_cons_zero, List.set_cons_succ, i64_w, i32_w]
  rfl
 refine pure_ (i := 3) (N := some 10) (v := ?_) (a' := ?_) #[true, true, false, true, false, false, false, false, false, false, false, false, false, false, false, false] rfl rfl (any_of HT_.out (by kernel_rfl)) (fun _ _ _ h => h) (Or.inl ⟨by rfl, ?_⟩) ?_ ?_
 rotate_left
 ·
  intro w'
  go_simp
  with_reducible rfl
 rotate_left
 ·
  simp only [Act.put, List.setIfInBounds_toArray, List.set_cons_zero, List.set_cons_succ, i64_w, i32_w]
  rfl
 refine pure_ (i := 7) (N := some 14) (v := ?_) (a' := ?_) #[true, true, false, true, false, false, false, true, false, false, false, false, false, false, false, false] rfl rfl (any_of HT_.out (by kernel_rfl)) (fun _ _ _ h => h) (Or.inl ⟨by rfl, ?_⟩) ?_ ?_
 rotate_left
 ·
  intro w'
  go_simp
  with_reducible rfl
 rotate_left
 ·
  simp only [Act.put, List.setIfInBounds_toArray, List.set_cons_zero, List.set_cons_succ, i64_w, i32_w]
  rfl
 refine pure_ (i := 8) (N := some 15) (v := ?_) (a' := ?_) #[true, true, false, true, false, false, false, true, true, false, false, false, false, false, false, false] rfl rfl (any_of HT_.out (by kernel_rfl)) (fun _ _ _ h => h) (Or.inl ⟨by rfl, ?_⟩) ?_ ?_
 rotate_left
 ·
  intro w'
  go_simp
  with_reducible rfl
 rotate_left
 ·
  simp only [Act.put, List.setIfInBounds_toArray, List.set_cons_zero, List.set_cons_succ, i64_w, i32_w]
  rfl
 refine pure_ (i := 10) (N := some 17) (v := ?_) (a' := ?_) #[true, true, false, true, false, false, false, true, true, false, true, false, false, false, false, false] rfl rfl (any_of HT_.out (by kernel_rfl)) (fun _ _ _ h => h) (Or.inl ⟨by rfl, ?_⟩) ?_ ?_
 rotate_left
 ·
  intro w'
  go_simp
  with_reducible rfl
 rotate_left
 ·
  simp only [Act.put, List.setIfInBounds_toArray, List.set_cons_zero, List.set_cons_succ, i64_w, i32_w]
  rfl
 refine take_ (i := 2) (N := some 9) (v := ?_) (a' := ?_) #[true, true, true, true, false, false, false, true, true, false, true, false, false, false, false, false] rfl rfl (take_ofW HT_.out HW_.out (by kernel_rfl)) (fun _ _ _ h => h) (Or.inl ⟨by rfl, ?_⟩) hHeld ?_ ?_
 rotate_left
 ·
  rintro w' ⟨s0, s1, s2, s3, s4, s5, s6, s7⟩
  go_simp
  with_reducible rfl
 rotate_left
 ·
  simp only [Act.put, List.setIfInBounds_toArray, List.set_cons_zero, List.set_cons_succ, i64_w, i32_w]
  rfl
 refine take_ (i := 4) (N := some 11) (v := ?_) (a' := ?_) #[true, true, true, true, true, false, false, true, true, false, true, false, false, false, false, false] rfl rfl (take_ofW HT_.out HW_.out (by kernel_rfl)) (fun _ _ _ h => h) (Or.inl ⟨by rfl, ?_⟩) hHeld ?_ ?_
 rotate_left
 ·
  rintro w' ⟨s0, s1, s2, s3, s4, s5, s6, s7⟩
  go_simp
  with_reducible rfl
 rotate_left
 ·
  simp only [Act.put, List.setIfInBounds_toArray, List.set_cons_zero, List.set_cons_succ, i64_w, i32_w]
  rfl
 refine take_ (i := 9) (N := some 16) (v := ?_) (a' := ?_) #[true, true, true, true, true, false, false, true, true, true, true, false, false, false, false, false] rfl rfl (take_ofW HT_.out HW_.out (by kernel_rfl)) (fun _ _ _ h => h) (Or.inl ⟨by rfl, ?_⟩) hHeld ?_ ?_
 rotate_left
 ·
  rintro w' ⟨s0, s1, s2, s3, s4, s5, s6, s7⟩
  go_simp
  with_reducible rfl
 rotate_left
 ·
  simp only [Act.put, List.setIfInBounds_toArray, List.set_cons_zero, List.set_cons_succ, i64_w, i32_w]
  rfl
 refine take_ (i := 11) (N := some 18) (v := ?_) (a' := ?_) #[true, true, true, true, true, false, false, true, true, true, true, true, false, false, false, false] rfl rfl (take_ofW HT_.out HW_.out (by kernel_rfl)) (fun _ _ _ h => h) (Or.inl ⟨by rfl, ?_⟩) hHeld ?_ ?_
 rotate_left
 ·
  rintro w' ⟨s0, s1, s2, s3, s4, s5, s6, s7⟩
  go_simp
  with_reducible rfl
 rotate_left
 ·
  simp only [Act.put, List.setIfInBounds_toArray, List.set_cons_zero, List.set_cons_succ, i64_w, i32_w]
  rfl
 refine one_ (i := 5) (N := some 12) #[true, true, true, true, true, true, false, true, true, true, true, true, false, false, false, false] rfl rfl (one_of HT_.out (by kernel_rfl)) (by decide) (fun K hK => ?_)
 refine goes_ Try.func61 (by kernel_rfl) rfl #[.agg #[.int .i64 a2_2, .int .i64 a2_3]] (by rfl) rfl rfl (by (try simp only [List.map_toArray, List.map_cons, List.map_nil]); first | done | rfl | (simp only [List.length_drop, List.length_take]; rfl)) ?_
 with_reducible refine (impl_minus.calls a2_2 a2_3 t729 t730 _ A4.out).mono ?_
 rintro e w12 ⟨rfl, hb⟩
 refine ⟨_, rfl, ?_⟩
 have n0_ := Aside0.mk (IsS57.below (z66_3 HI0) hb)
 have n1_ := Aside0.mk (zbb BK726 hb)
 have n2_ := Aside0.mk (zbb BK727 hb)
 have n3_ := Aside0.mk (zbb BK728 hb)
 have n4_ := Aside0.mk (KeepBut.trans (z66_4 HK) (KeepBut.of_below hb g none) (.inl rfl))
 have n5_ := Aside0.mk (below_step (z66_5 HB) hb)
 clear HI0 BK726 BK727 BK728 HK HB
 have HI0 := n0_; have BK726 := n1_; have BK727 := n2_; have BK728 := n3_; have HK := n4_; have HB := n5_
 clear n0_ n1_ n2_ n3_ n4_ n5_
 (try clear hb)
 (try clear hb2)
 (try clear hk)
 (try clear hi)
 refine hK.out _ _ ⟨zc BK726 0, zc BK726 1, zc BK726 2, zc BK726 3, zc BK727 0, zc BK727 1, zc BK727 2, zc BK727 3⟩ (fun hHeld => ?_)
 clear hK K
 refine norm_ (a' := ?_) ?_ ?_
 rotate_left
 ·
  show Act.put _ (some 12) _ = _
  simp only [Act.put, List.setIfInBounds_toArray, List.set_cons_zero, List.set_cons_succ, i64_w, i32_w]; rfl
 refine one_ (i := 6) (N := some 13) #[true, true, true, true, true, true, true, true, true, true, true, true, false, false, false, false] rfl rfl (one_of HT_.out (by kernel_rfl)) (by decide) (fun K hK => ?_)
 refine goes_ Try.func91 (by kernel_rfl) rfl #[.pointer (some ⟨g, 0, none⟩), .agg #[.int .i64 a1_0, .int .i64 a1_1], .agg #[.int .i64 t729, .int .i64 t730]] (by rfl) rfl rfl (by (try simp only [List.map_toArray, List.map_cons, List.map_nil]); first | done | rfl | (simp only [List.length_drop, List.length_take]; rfl)) ?_
 with_reducible refine (impl_reckoner_sum.calls k g s0_0 a1_0 a1_1 t729 t730 t731 t732 t733 w0 _ ?side1 ?side2 A5.out).mono ?_
 (case side1 => exact z66_3 HI0)
 (case side2 => exact z66_5 HB)
 rintro e w13 ⟨rfl, hi, hb, hk⟩
 refine ⟨_, rfl, ?_⟩
 have n0_ := Aside0.mk (KeepBut.blk hk (zq1 BK726) NB726_0.out (by simp))
 have n1_ := Aside0.mk (KeepBut.blk hk (zq1 BK727) NB727_0.out (by simp))
 have n2_ := Aside0.mk (KeepBut.blk hk (zq1 BK728) NB728_0.out (by simp))
 have n3_ := Aside0.mk (KeepBut.trans (z66_4 HK) hk (.inl rfl))
 have n4_ := Aside0.mk (hb)
 have n5_ := Aside0.mk (hi)
 clear BK726 BK727 BK728 HK HB HI0
 have BK726 := n0_; have BK727 := n1_; have BK728 := n2_; have HK := n3_; have HB := n4_; have HI0 := n5_
 clear n0_ n1_ n2_ n3_ n4_ n5_
 (try clear hb)
 (try clear hb2)
 (try clear hk)
 (try clear hi)
 refine hK.out _ _ ⟨zc BK726 0, zc BK726 1, zc BK726 2, zc BK726 3, zc BK727 0, zc BK727 1, zc BK727 2, zc BK727 3⟩ (fun hHeld => ?_)
 clear hK K
 refine norm_ (a' := ?_) ?_ ?_
 rotate_left
 ·
  show Act.put _ (some 13) _ = _
  simp only [Act.put, List.setIfInBounds_toArray, List.set_cons_zero, List.set_cons_succ, i64_w, i32_w]; rfl
 refine one_ (i := 12) (N := some 19) #[true, true, true, true, true, true, true, true, true, true, true, true, true, false, false, false] rfl rfl (one_of HT_.out (by kernel_rfl)) (by decide) (fun K hK => ?_)
 refine goes_ Try.func61 (by kernel_rfl) rfl #[.agg #[.int .i64 a2_0, .int .i64 a2_1]] (by rfl) rfl rfl (by (try simp only [List.map_toArray, List.map_cons, List.map_nil]); first | done | rfl | (simp only [List.length_drop, List.length_take]; rfl)) ?_
 with_reducible refine (impl_minus.calls a2_0 a2_1 t734 t735 _ A6.out).mono ?_
 rintro e w14 ⟨rfl, hb⟩
 refine ⟨_, rfl, ?_⟩
 have n0_ := Aside0.mk (IsS57.below (z66_3 HI0) hb)
 have n1_ := Aside0.mk (zbb BK726 hb)
 have n2_ := Aside0.mk (zbb BK727 hb)
 have n3_ := Aside0.mk (zbb BK728 hb)
 have n4_ := Aside0.mk (KeepBut.trans (z66_4 HK) (KeepBut.of_below hb g none) (.inl rfl))
 have n5_ := Aside0.mk (below_step (z66_5 HB) hb)
 clear HI0 BK726 BK727 BK728 HK HB
 have HI0 := n0_; have BK726 := n1_; have BK727 := n2_; have BK728 := n3_; have HK := n4_; have HB := n5_
 clear n0_ n1_ n2_ n3_ n4_ n5_
 (try clear hb)
 (try clear hb2)
 (try clear hk)
 (try clear hi)
 refine hK.out _ _ ⟨zc BK726 0, zc BK726 1, zc BK726 2, zc BK726 3, zc BK727 0, zc BK727 1, zc BK727 2, zc BK727 3⟩ (fun hHeld => ?_)
 clear hK K
 refine norm_ (a' := ?_) ?_ ?_
 rotate_left
 ·
  show Act.put _ (some 19) _ = _
  simp only [Act.put, List.setIfInBounds_toArray, List.set_cons_zero, List.set_cons_succ, i64_w, i32_w]; rfl
 refine one_ (i := 13) (N := some 20) #[true, true, true, true, true, true, true, true, true, true, true, true, true, true, false, false] rfl rfl (one_of HT_.out (by kernel_rfl)) (by decide) (fun K hK => ?_)
 refine goes_ Try.func91 (by kernel_rfl) rfl #[.pointer (some ⟨g, 0, none⟩), .agg #[.int .i64 a1_2, .int .i64 a1_3], .agg #[.int .i64 t734, .int .i64 t735]] (by rfl) rfl rfl (by (try simp only [List.map_toArray, List.map_cons, List.map_nil]); first | done | rfl | (simp only [List.length_drop, List.length_take]; rfl)) ?_
 with_reducible refine (impl_reckoner_sum.calls k g t733 a1_2 a1_3 t734 t735 t736 t737 t738 w0 _ ?side1 ?side2 A7.out).mono ?_
 (case side1 => exact z66_3 HI0)
 (case side2 => exact z66_5 HB)
 rintro e w15 ⟨rfl, hi, hb, hk⟩
 refine ⟨_, rfl, ?_⟩
 have n0_ := Aside0.mk (KeepBut.blk hk (zq1 BK726) NB726_0.out (by simp))
 have n1_ := Aside0.mk (KeepBut.blk hk (zq1 BK727) NB727_0.out (by simp))
 have n2_ := Aside0.mk (KeepBut.blk hk (zq1 BK728) NB728_0.out (by simp))
 have n3_ := Aside0.mk (KeepBut.trans (z66_4 HK) hk (.inl rfl))
 have n4_ := Aside0.mk (hb)
 have n5_ := Aside0.mk (hi)
 clear BK726 BK727 BK728 HK HB HI0
 have BK726 := n0_; have BK727 := n1_; have BK728 := n2_; have HK := n3_; have HB := n4_; have HI0 := n5_
 clear n0_ n1_ n2_ n3_ n4_ n5_
 (try clear hb)
 (try clear hb2)
 (try clear hk)
 (try clear hi)
 refine hK.out _ _ ⟨zc BK726 0, zc BK726 1, zc BK726 2, zc BK726 3, zc BK727 0, zc BK727 1, zc BK727 2, zc BK727 3⟩ (fun hHeld => ?_)
 clear hK K
 refine norm_ (a' := ?_) ?_ ?_
 rotate_left
 ·
  show Act.put _ (some 20) _ = _
  simp only [Act.put, List.setIfInBounds_toArray, List.set_cons_zero, List.set_cons_succ, i64_w, i32_w]; rfl
 refine pure_ (i := 14) (N := some 21) (v := ?_) (a' := ?_) #[true, true, true, true, true, true, true, true, true, true, true, true, true, true, true, false] rfl rfl (any_of HT_.out (by kernel_rfl)) (fun _ _ _ h => h) (Or.inl ⟨by rfl, ?_⟩) ?_ ?_
 rotate_left
 ·
  intro w'
  go_simp
  with_reducible rfl
 rotate_left
 ·
  simp only [Act.put, List.setIfInBounds_toArray, List.set_cons_zero, List.set_cons_succ, i64_w, i32_w]
  rfl
 refine one_ (i := 15) (N := none) #[true, true, true, true, true, true, true, true, true, true, true, true, true, true, true, true] rfl rfl (one_of HT_.out (by kernel_rfl)) (by decide) (fun K hK => ?_)
 have hs16 : w15.cell? ⟨gb728, 0, none⟩ = some (.int .i64 0) := zc BK728 0
 have hfs16 := blk_frozen BK728.out 0
 have hns16_0 := NB726_728.out
 have hns16_1 := NB727_728.out
 have hms16_0 := NB728_726.out
 have hms16_1 := NB728_727.out
 have hs17 : w15.cell? ⟨gb728, 1, none⟩ = some (.int .i64 0) := zc BK728 1
 have hfs17 := blk_frozen BK728.out 1
 have hns17_0 := NB726_728.out
 have hns17_1 := NB727_728.out
 have hms17_0 := NB728_726.out
 have hms17_1 := NB728_727.out
 have hs18 : w15.cell? ⟨gb728, 2, none⟩ = some (.int .i64 0) := zc BK728 2
 have hfs18 := blk_frozen BK728.out 2
 have hns18_0 := NB726_728.out
 have hns18_1 := NB727_728.out
 have hms18_0 := NB728_726.out
 have hms18_1 := NB728_727.out
 have hs19 : w15.cell? ⟨gb728, 3, none⟩ = some (.int .i64 0) := zc BK728 3
 have hfs19 := blk_frozen BK728.out 3
 have hns19_0 := NB726_728.out
 have hns19_1 := NB727_728.out
 have hms19_0 := NB728_726.out
 have hms19_1 := NB728_727.out
 refine skip_ (w1 := ?_) (by rfl) rfl ?_ ?_
 rotate_left
 ·
  go_simp
  rfl
 refine hK.out _ _ ⟨((cell_far (p := ⟨gb728, _, none⟩) NB726_728.out _).trans (((cell_far (p := ⟨gb728, _, none⟩) NB726_728.out _).trans (((cell_far (p := ⟨gb728, _, none⟩) NB726_728.out _).trans (((cell_far (p := ⟨gb728, _, none⟩) NB726_728.out _).trans (hHeld.1)))))))), ((cell_far (p := ⟨gb728, _, none⟩) NB726_728.out _).trans (((cell_far (p := ⟨gb728, _, none⟩) NB726_728.out _).trans (((cell_far (p := ⟨gb728, _, none⟩) NB726_728.out _).trans (((cell_far (p := ⟨gb728, _, none⟩) NB726_728.out _).trans (hHeld.2.1)))))))), ((cell_far (p := ⟨gb728, _, none⟩) NB726_728.out _).trans (((cell_far (p := ⟨gb728, _, none⟩) NB726_728.out _).trans (((cell_far (p := ⟨gb728, _, none⟩) NB726_728.out _).trans (((cell_far (p := ⟨gb728, _, none⟩) NB726_728.out _).trans (hHeld.2.2.1)))))))), ((cell_far (p := ⟨gb728, _, none⟩) NB726_728.out _).trans (((cell_far (p := ⟨gb728, _, none⟩) NB726_728.out _).trans (((cell_far (p := ⟨gb728, _, none⟩) NB726_728.out _).trans (((cell_far (p := ⟨gb728, _, none⟩) NB726_728.out _).trans (hHeld.2.2.2.1)))))))), ((cell_far (p := ⟨gb728, _, none⟩) NB727_728.out _).trans (((cell_far (p := ⟨gb728, _, none⟩) NB727_728.out _).trans (((cell_far (p := ⟨gb728, _, none⟩) NB727_728.out _).trans (((cell_far (p := ⟨gb728, _, none⟩) NB727_728.out _).trans (hHeld.2.2.2.2.1)))))))), ((cell_far (p := ⟨gb728, _, none⟩) NB727_728.out _).trans (((cell_far (p := ⟨gb728, _, none⟩) NB727_728.out _).trans (((cell_far (p := ⟨gb728, _, none⟩) NB727_728.out _).trans (((cell_far (p := ⟨gb728, _, none⟩) NB727_728.out _).trans (hHeld.2.2.2.2.2.1)))))))), ((cell_far (p := ⟨gb728, _, none⟩) NB727_728.out _).trans (((cell_far (p := ⟨gb728, _, none⟩) NB727_728.out _).trans (((cell_far (p := ⟨gb728, _, none⟩) NB727_728.out _).trans (((cell_far (p := ⟨gb728, _, none⟩) NB727_728.out _).trans (hHeld.2.2.2.2.2.2.1)))))))), ((cell_far (p := ⟨gb728, _, none⟩) NB727_728.out _).trans (((cell_far (p := ⟨gb728, _, none⟩) NB727_728.out _).trans (((cell_far (p := ⟨gb728, _, none⟩) NB727_728.out _).trans (((cell_far (p := ⟨gb728, _, none⟩) NB727_728.out _).trans (hHeld.2.2.2.2.2.2.2))))))))⟩ (fun hHeld => ?_)
 clear hK K
 refine done_ (done_of HT_.out (by kernel_rfl)) ?_
 try go_wp2
 refine bodyPost_ret (results_cell_row rfl _ _ gb728 29 #[.int .i64 t731, .int .i64 t732, .int .i64 t736, .int .i64 t737] (0, 0) _ rfl (by (with_reducible repeat (first | refine blk_drewN ?_ _ | refine blk_drew ?_ | refine blk_alloc ?_ _)); refine blk_put (cs := #[.int .i64 t731, .int .i64 t732, .int .i64 t736, .int .i64 0]) ?_ 3 _ rfl; (with_reducible repeat (first | refine blk_drewN ?_ _ | refine blk_drew ?_ | refine blk_alloc ?_ _)); refine blk_put (cs := #[.int .i64 t731, .int .i64 t732, .int .i64 0, .int .i64 0]) ?_ 2 _ rfl; (with_reducible repeat (first | refine blk_drewN ?_ _ | refine blk_drew ?_ | refine blk_alloc ?_ _)); refine blk_put (cs := #[.int .i64 t731, .int .i64 0, .int .i64 0, .int .i64 0]) ?_ 1 _ rfl; (with_reducible repeat (first | refine blk_drewN ?_ _ | refine blk_drew ?_ | refine blk_alloc ?_ _)); refine blk_put (cs := #[.int .i64 0, .int .i64 0, .int .i64 0, .int .i64 0]) ?_ 0 _ rfl; (with_reducible repeat (first | refine blk_drewN ?_ _ | refine blk_drew ?_ | refine blk_alloc ?_ _)); exact BK728.out) Try.underlying29 rfl (by kernel_rfl)) rfl ?_
 exact ⟨by first | rfl | (simp [errW_none, errW_some] <;> rfl) | (simp [*, errW_none, errW_some] <;> rfl), (z66_3 HI0), (z66_5 HB), (z66_4 HK)⟩
end Go.Proofs.Ytinpcalgdiigiaa.PD
