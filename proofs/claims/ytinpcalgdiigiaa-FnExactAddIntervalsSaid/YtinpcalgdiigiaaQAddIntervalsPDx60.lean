-- Written by a program of this session (wip/mk/drv.py) out of the seat's translation; Lean checks it.
import Derived.Test.YtinpcalgdiigiaaQAddIntervalsPDx0
import Derived.Test.YtinpcalgdiigiaaQAddIntervalsPDx1
import Derived.Test.YtinpcalgdiigiaaQAddIntervalsPDx57
import Derived.Test.YtinpcalgdiigiaaQAddIntervalsPDx59
namespace Go.Proofs.Ytinpcalgdiigiaa.PD
open Go.RowKit Go.Proofs.YtinpcalgdiigiaaW.PrintWords Go.Proofs.YtinpcalgdiigiaaW.PrintLast Go.Proofs.YtinpcalgdiigiaaW.PrintMore
attribute [local go_sem] max2_int min2_int max_two min_two max_three min_three max_four min_four   -- for this text's walks alone
set_option linter.unusedVariables false
set_option linter.unusedSimpArgs false
/-! ### impl_reckoner_add: function 64 -/
theorem z64_0 {P Q : Prop} (h : Aside0 (Q)) (f : Q → P := by intro h_; repeat (first | (with_reducible first | exact h_ | apply IsS57.alloc | apply IsS57.drewN | apply IsS57.drew | apply IsS57.set_0) | exact h_)) : P := f h.out
theorem z64_1 {w W0 W1 : World} {g : Nat} {row : Option Nat} (h : Aside0 (KeepBut w W0 g row)) (f : KeepBut w W0 g row → KeepBut w W1 g row := by intro h_; repeat (first | (with_reducible first | exact h_ | apply KeepBut.set_ | apply keep_drewN | apply keep_drew | apply keep_alloc) | exact h_)) : KeepBut w W1 g row := f h.out
theorem z64_2 {w W0 W1 : World} {B : Nat} (h : Aside0 (Below B w W0)) (f : Below B w W0 → Below B w W1 := by intro h_; repeat (first | (with_reducible first | exact h_ | apply below_alloc | apply pw_below_drewN | apply below_drew1 | refine below_set ?_ (IsS57.ge (Aside0.out (by assumption)))) | exact h_)) : Below B w W1 := f h.out
theorem z64_3 {P Q : Prop} (h : Aside0 (Q)) (f : Q → P := by intro h_; repeat (first | (with_reducible first | exact h_ | apply IsS57.alloc | apply IsS57.drewN | apply IsS57.drew | apply IsS57.set_0 | refine IsS57.far ?_ (Aside0.out (by assumption)) _) | exact h_)) : P := f h.out
theorem z64_4 {w W0 W1 : World} {g : Nat} {row : Option Nat} (h : Aside0 (KeepBut w W0 g row)) (f : KeepBut w W0 g row → KeepBut w W1 g row := by intro h_; repeat (first | (with_reducible first | exact h_ | apply KeepBut.set_ | apply keep_drewN | apply keep_drew | apply keep_alloc | refine keep_far ?_ (Aside0.out (by assumption)) _) | exact h_)) : KeepBut w W1 g row := f h.out
theorem z64_5 {w W0 W1 : World} {B : Nat} (h : Aside0 (Below B w W0)) (f : Below B w W0 → Below B w W1 := by intro h_; repeat (first | (with_reducible first | exact h_ | apply below_alloc | apply pw_below_drewN | apply below_drew1 | refine below_set ?_ (IsS57.ge (Aside0.out (by assumption))) | refine below_set ?_ (Aside0.out (by assumption))) | exact h_)) : Below B w W1 := f h.out
def impl_reckoner_add.T1 : Bool × List (List Nat × List Nat) := (true, [([], []), ([], []), ([1], [1]), ([], []), ([3], [3]), ([0, 2, 4], [0, 2, 4]), ([], []), ([], []), ([7], [7]), ([], []), ([9], [9]), ([6, 8, 10, 5], [6, 8, 10]), ([5, 11], [5, 11]), ([12, 11, 0, 1, 2, 3, 4, 5, 6, 7, 8, 9, 10, 11, 12], [12])])
def impl_reckoner_add.B1 : List Nat := [0, 0, 2, 0, 8, 31, 0, 0, 128, 0, 512, 2047, 4095, 8191]
theorem impl_reckoner_add.tab1 : rtab .any (opsOf Try.f64 1) = impl_reckoner_add.T1 := by kernel_rfl
theorem impl_reckoner_add.bits1 : waitsOk impl_reckoner_add.T1.2 impl_reckoner_add.B1 = true := by kernel_rfl
set_option maxHeartbeats 8000000 in
set_option maxRecDepth 100000 in
theorem impl_reckoner_add.calls (k : Nat) (g : Nat) (s0_0 : Bool) (a1_0 : Int) (a1_1 : Int) (a1_2 : Int) (a1_3 : Int) (a2_0 : Int) (a2_1 : Int) (a2_2 : Int) (a2_3 : Int) (r1 : Int) (r2 : Int) (r3 : Int) (r4 : Int) (r5 : Bool) (w0 w : World) (hI : IsS57 w0 w g s0_0) (hB : Below w0.heap.size w0 w) (h : impl_reckoner_add.f k s0_0 a1_0 a1_1 a1_2 a1_3 a2_0 a2_1 a2_2 a2_3 = some (r1, r2, r3, r4, r5)) :
  Calls Try.prog 64 #[.pointer (some ⟨g, 0, none⟩), .agg #[.int .i64 a1_0, .int .i64 a1_1, .int .i64 a1_2, .int .i64 a1_3], .agg #[.int .i64 a2_0, .int .i64 a2_1, .int .i64 a2_2, .int .i64 a2_3]] w fun e w' => e = .returned (.agg #[.int .i64 r1, .int .i64 r2, .int .i64 r3, .int .i64 r4]) ∧ IsS57 w0 w' g r5 ∧ Below w0.heap.size w0 w' ∧ KeepBut w w' g none := by
 have hu29 := Try.underlying29
 have hu27 := Try.underlying27
 have HI0 := Aside0.mk hI
 have HK := Aside0.mk (KeepBut.refl w g none)
 have HL := Aside0.mk hB.size
 clear hI
 have HW0 := Aside0.mk hB.size
 have HB := Aside0.mk hB
 clear hB
 have H : ((impl_reckoner_sum.f k s0_0 a1_0 a1_1 a2_0 a2_1).bind fun bt645 => ((impl_reckoner_sum.f k bt645.2.2 a1_2 a1_3 a2_2 a2_3).bind fun bt648 => (some (bt645.1, bt645.2.1, bt648.1, bt648.2.1, bt648.2.2)))) = some (r1, r2, r3, r4, r5) := h
 clear h
 replace H := Option.bind_eq_some_iff.mp H
 obtain ⟨⟨t645, t646, t647⟩, A40, H⟩ := H
 replace H : ((impl_reckoner_sum.f k t647 a1_2 a1_3 a2_2 a2_3).bind fun bt648 => (some (t645, t646, bt648.1, bt648.2.1, bt648.2.2))) = some (r1, r2, r3, r4, r5) := H
 have A4 := Aside0.mk A40
 clear A40
 replace H := Option.bind_eq_some_iff.mp H
 obtain ⟨⟨t648, t649, t650⟩, A50, H⟩ := H
 replace H : (some (t645, t646, t648, t649, t650)) = some (r1, r2, r3, r4, r5) := H
 have A5 := Aside0.mk A50
 clear A50
 simp only [Option.some.injEq, Prod.mk.injEq] at H
 obtain ⟨rfl, rfl, rfl, rfl, rfl⟩ := H
 go_enter Try.func64, Try.ntmps64
 try go_wp2_with (first | ((with_reducible refine gate_dst (N := 4) rfl ?_); refine box_event ?hg (N := 4) ?hd (cs := #[.int .i64 a1_0, .int .i64 a1_1, .int .i64 a1_2, .int .i64 a1_3]) (t := 29) ?hr ?_; (case hd => rfl); (case hg => rfl); (case hr => first | (go_simp; done) | (go_simp; rfl)); intro gb642 hg w6 hbox hb; have n0_ := Aside0.mk (IsS57.below (z64_0 HI0) hb); have n1_ := Aside0.mk (KeepBut.trans (z64_1 HK) (KeepBut.of_below hb g none) (.inl rfl)); have n2_ := Aside0.mk (below_step (z64_2 HB) hb); have n3_ := Aside0.mk (hbox); have n4_ := Aside0.mk ((by rw [hg]; exact (keep_size (w := w) (g := g) (row := none) (z64_1 HK)) : w.heap.size ≤ gb642)); have n5_ := Aside0.mk ((Nat.le_trans HW0.out (by rw [hg]; exact (keep_size (w := w) (g := g) (row := none) (z64_1 HK)) : w.heap.size ≤ gb642) : w0.heap.size ≤ gb642)); have n6_ := Aside0.mk ((by rw [hg]; exact Nat.ne_of_lt (IsS57.lt (show IsS57 w0 _ g s0_0 from (z64_0 HI0))) : g ≠ gb642)); have n7_ := Aside0.mk ((by rw [hg]; exact Nat.ne_of_gt (IsS57.lt (show IsS57 w0 _ g s0_0 from (z64_0 HI0))) : gb642 ≠ g)); clear HI0; clear HK; clear HB; have HI0 := n0_; have HK := n1_; have HB := n2_; have BK642 := n3_; have GW642 := n4_; have GE642 := n5_; have NB0_642 := n6_; have NB642_0 := n7_; clear n0_ n1_ n2_ n3_ n4_ n5_ n6_ n7_; clear hb hbox hg) | ((with_reducible refine gate_dst (N := 5) rfl ?_); refine box_event ?hg (N := 5) ?hd (cs := #[.int .i64 a2_0, .int .i64 a2_1, .int .i64 a2_2, .int .i64 a2_3]) (t := 29) ?hr ?_; (case hd => rfl); (case hg => rfl); (case hr => first | (go_simp; done) | (go_simp; rfl)); intro gb643 hg w7 hbox hb; have n0_ := Aside0.mk (IsS57.below (z64_3 HI0) hb); have n1_ := Aside0.mk (zbb BK642 hb); have n2_ := Aside0.mk (KeepBut.trans (z64_4 HK) (KeepBut.of_below hb g none) (.inl rfl)); have n3_ := Aside0.mk (below_step (z64_5 HB) hb); have n4_ := Aside0.mk (hbox); have n5_ := Aside0.mk ((by rw [hg]; exact (keep_size (w := w) (g := g) (row := none) (z64_4 HK)) : w.heap.size ≤ gb643)); have n6_ := Aside0.mk ((Nat.le_trans HW0.out (by rw [hg]; exact (keep_size (w := w) (g := g) (row := none) (z64_4 HK)) : w.heap.size ≤ gb643) : w0.heap.size ≤ gb643)); have n7_ := Aside0.mk (zlt BK642 hg); have n8_ := Aside0.mk (zgt BK642 hg); have n9_ := Aside0.mk ((by rw [hg]; exact Nat.ne_of_lt (IsS57.lt (show IsS57 w0 _ g s0_0 from (z64_3 HI0))) : g ≠ gb643)); have n10_ := Aside0.mk ((by rw [hg]; exact Nat.ne_of_gt (IsS57.lt (show IsS57 w0 _ g s0_0 from (z64_3 HI0))) : gb643 ≠ g)); clear HI0; clear BK642; clear HK; clear HB; have HI0 := n0_; have BK642 := n1_; have HK := n2_; have HB := n3_; have BK643 := n4_; have GW643 := n5_; have GE643 := n6_; have NB642_643 := n7_; have NB643_642 := n8_; have NB0_643 := n9_; have NB643_0 := n10_; clear n0_ n1_ n2_ n3_ n4_ n5_ n6_ n7_ n8_ n9_ n10_; clear hb hbox hg) | ((with_reducible refine gate_dst (N := 6) rfl ?_); refine box_event ?hg (N := 6) ?hd (cs := #[.int .i64 0, .int .i64 0, .int .i64 0, .int .i64 0]) (t := 29) ?hr ?_; (case hd => rfl); (case hg => rfl); (case hr => first | (go_simp; done) | (go_simp; rfl)); intro gb644 hg w8 hbox hb; have n0_ := Aside0.mk (IsS57.below (z64_3 HI0) hb); have n1_ := Aside0.mk (zbb BK642 hb); have n2_ := Aside0.mk (zbb BK643 hb); have n3_ := Aside0.mk (KeepBut.trans (z64_4 HK) (KeepBut.of_below hb g none) (.inl rfl)); have n4_ := Aside0.mk (below_step (z64_5 HB) hb); have n5_ := Aside0.mk (hbox); have n6_ := Aside0.mk ((by rw [hg]; exact (keep_size (w := w) (g := g) (row := none) (z64_4 HK)) : w.heap.size ≤ gb644)); have n7_ := Aside0.mk ((Nat.le_trans HW0.out (by rw [hg]; exact (keep_size (w := w) (g := g) (row := none) (z64_4 HK)) : w.heap.size ≤ gb644) : w0.heap.size ≤ gb644)); have n8_ := Aside0.mk (zlt BK642 hg); have n9_ := Aside0.mk (zgt BK642 hg); have n10_ := Aside0.mk (zlt BK643 hg); have n11_ := Aside0.mk (zgt BK643 hg); have n12_ := Aside0.mk ((by rw [hg]; exact Nat.ne_of_lt (IsS57.lt (show IsS57 w0 _ g s0_0 from (z64_3 HI0))) : g ≠ gb644)); have n13_ := Aside0.mk ((by rw [hg]; exact Nat.ne_of_gt (IsS57.lt (show IsS57 w0 _ g s0_0 from (z64_3 HI0))) : gb644 ≠ g)); clear HI0; clear BK642; clear BK643; clear HK; clear HB; have HI0 := n0_; have BK642 := n1_; have BK643 := n2_; have HK := n3_; have HB := n4_; have BK644 := n5_; have GW644 := n6_; have GE644 := n7_; have NB642_644 := n8_; have NB644_642 := n9_; have NB643_644 := n10_; have NB644_643 := n11_; have NB0_644 := n12_; have NB644_0 := n13_; clear n0_ n1_ n2_ n3_ n4_ n5_ n6_ n7_ n8_ n9_ n10_ n11_ n12_ n13_; clear hb hbox hg))
 have n0_ := Aside0.mk (blk_drew BK642.out)
 have n1_ := Aside0.mk (blk_drew BK643.out)
 have n2_ := Aside0.mk (blk_drew BK644.out)
 have n3_ := Aside0.mk (IsS57.drew HI0.out)
 have n4_ := Aside0.mk (keep_drew HK.out)
 have n5_ := Aside0.mk (below_drew1 HB.out)
 clear BK642 BK643 BK644 HI0 HK HB
 have BK642 := n0_; have BK643 := n1_; have BK644 := n2_; have HI0 := n3_; have HK := n4_; have HB := n5_
 clear n0_ n1_ n2_ n3_ n4_ n5_
 refine start_ (n := 14) (S := fun w' => w'.cell? ⟨gb642, 0, none⟩ = some (.int .i64 a1_0) ∧ w'.cell? ⟨gb642, 1, none⟩ = some (.int .i64 a1_1) ∧ w'.cell? ⟨gb642, 2, none⟩ = some (.int .i64 a1_2) ∧ w'.cell? ⟨gb642, 3, none⟩ = some (.int .i64 a1_3) ∧ w'.cell? ⟨gb643, 0, none⟩ = some (.int .i64 a2_0) ∧ w'.cell? ⟨gb643, 1, none⟩ = some (.int .i64 a2_1) ∧ w'.cell? ⟨gb643, 2, none⟩ = some (.int .i64 a2_2) ∧ w'.cell? ⟨gb643, 3, none⟩ = some (.int .i64 a2_3)) (ds := []) #[false, false, false, false, false, false, false, false, false, false, false, false, false, false] (by kernel_rfl) rfl rfl ⟨zc BK642 0, zc BK642 1, zc BK642 2, zc BK642 3, zc BK643 0, zc BK643 1, zc BK643 2, zc BK643 3⟩ (fun hHeld => ?_); refine with_tabW impl_reckoner_add.tab1 impl_reckoner_add.bits1 (fun HT_ HW_ => ?_)
 generalize w8.drew = w9 at BK642 BK643 BK644 HI0 HK HB hHeld ⊢
 refine pure_ (i := 0) (N := some 7) (v := ?_) (a' := ?_) #[true, false, false, false, false, false, false, false, false, false, false, false, false, false] rfl rfl (any_of HT_.out (by kernel_rfl)) (fun _ _ _ h => h) (Or.inl ⟨by rfl, ?_⟩) ?_ ?_
 rotate_left
 ·
  intro w'
  go_simp
  with_reducible rfl
 rotate_left
 ·
  simp only [Act.put, List.setIfInBounds_toArray, List.set_cons_zero, List.set_cons_succ, i64_w, i32_w]
  rfl
 refine pure_ (i := 1) (N := some 8) (v := ?_) (a' := ?_) #[true, true, false, false, false, false, false, false, false, false, false, false, false, false] rfl rfl (any_of HT_.out (by kernel_rfl)) (fun _ _ _ h => h) (Or.inl ⟨by rfl, ?_⟩) ?_ ?_
 rotate_left
 ·
  intro w'
  go_simp
  with_reducible rfl
 rotate_left
 ·
  simp only [Act.put, List.setIfInBounds_toArray, List.set_cons_zero, List.set_cons_succ, i64_w, i32_w]
  rfl
 refine pure_ (i := 3) (N := some 10) (v := ?_) (a' := ?_) #[true, true, false, true, false, false, false, false, false, false, false, false, false, false] rfl rfl (any_of HT_.out (by kernel_rfl)) (fun _ _ _ h => h) (Or.inl ⟨by rfl, ?_⟩) ?_ ?_
 rotate_left
 ·
  intro w'
  go_simp
  with_reducible rfl
 rotate_left
 ·
  simp only [Act.put, List.setIfInBounds_toArray, List.set_cons_zero, List.set_cons_succ, i64_w, i32_w]
  rfl
 refine pure_ (i := 6) (N := some 13) (v := ?_) (a' := ?_) #[true, true, false, true, false, false, true, false, false, false, false, false, false, false] rfl rfl (any_of HT_.out (by kernel_rfl)) (fun _ _ _ h => h) (Or.inl ⟨by rfl, ?_⟩) ?_ ?_
 rotate_left
 ·
  intro w'
  go_simp
  with_reducible rfl
 rotate_left
 ·
  simp only [Act.put, List.setIfInBounds_toArray, List.set_cons_zero, List.set_cons_succ, i64_w, i32_w]
  rfl
 refine pure_ (i := 7) (N := some 14) (v := ?_) (a' := ?_) #[true, true, false, true, false, false, true, true, false, false, false, false, false, false] rfl rfl (any_of HT_.out (by kernel_rfl)) (fun _ _ _ h => h) (Or.inl ⟨by rfl, ?_⟩) ?_ ?_
 rotate_left
 ·
  intro w'
  go_simp
  with_reducible rfl
 rotate_left
 ·
  simp only [Act.put, List.setIfInBounds_toArray, List.set_cons_zero, List.set_cons_succ, i64_w, i32_w]
  rfl
 refine pure_ (i := 9) (N := some 16) (v := ?_) (a' := ?_) #[true, true, false, true, false, false, true, true, false, true, false, false, false, false] rfl rfl (any_of HT_.out (by kernel_rfl)) (fun _ _ _ h => h) (Or.inl ⟨by rfl, ?_⟩) ?_ ?_
 rotate_left
 ·
  intro w'
  go_simp
  with_reducible rfl
 rotate_left
 ·
  simp only [Act.put, List.setIfInBounds_toArray, List.set_cons_zero, List.set_cons_succ, i64_w, i32_w]
  rfl
 refine take_ (i := 2) (N := some 9) (v := ?_) (a' := ?_) #[true, true, true, true, false, false, true, true, false, true, false, false, false, false] rfl rfl (take_ofW HT_.out HW_.out (by kernel_rfl)) (fun _ _ _ h => h) (Or.inl ⟨by rfl, ?_⟩) hHeld ?_ ?_
 rotate_left
 ·
  rintro w' ⟨s0, s1, s2, s3, s4, s5, s6, s7⟩
  go_simp
  with_reducible rfl
 rotate_left
 ·
  simp only [Act.put, List.setIfInBounds_toArray, List.set_cons_zero, List.set_cons_succ, i64_w, i32_w]
  rfl
 refine take_ (i := 4) (N := some 11) (v := ?_) (a' := ?_) #[true, true, true, true, true, false, true, true, false, true, false, false, false, false] rfl rfl (take_ofW HT_.out HW_.out (by kernel_rfl)) (fun _ _ _ h => h) (Or.inl ⟨by rfl, ?_⟩) hHeld ?_ ?_
 rotate_left
 ·
  rintro w' ⟨s0, s1, s2, s3, s4, s5, s6, s7⟩
  go_simp
  with_reducible rfl
 rotate_left
 ·
  simp only [Act.put, List.setIfInBounds_toArray, List.set_cons_zero, List.set_cons_succ, i64_w, i32_w]
  rfl
 refine take_ (i := 8) (N := some 15) (v := ?_) (a' := ?_) #[true, true, true, true, true, false, true, true, true, true, false, false, false, false] rfl rfl (take_ofW HT_.out HW_.out (by kernel_rfl)) (fun _ _ _ h => h) (Or.inl ⟨by rfl, ?_⟩) hHeld ?_ ?_
 rotate_left
 ·
  rintro w' ⟨s0, s1, s2, s3, s4, s5, s6, s7⟩
  go_simp
  with_reducible rfl
 rotate_left
 ·
  simp only [Act.put, List.setIfInBounds_toArray, List.set_cons_zero, List.set_cons_succ, i64_w, i32_w]
  rfl
 refine take_ (i := 10) (N := some 17) (v := ?_) (a' := ?_) #[true, true, true, true, true, false, true, true, true, true, true, false, false, false] rfl rfl (take_ofW HT_.out HW_.out (by kernel_rfl)) (fun _ _ _ h => h) (Or.inl ⟨by rfl, ?_⟩) hHeld ?_ ?_
 rotate_left
 ·
  rintro w' ⟨s0, s1, s2, s3, s4, s5, s6, s7⟩
  go_simp
  with_reducible rfl
 rotate_left
 ·
  simp only [Act.put, List.setIfInBounds_toArray, List.set_cons_zero, List.set_cons_succ, i64_w, i32_w]
  rfl
 refine one_ (i := 5) (N := some 12) #[true, true, true, true, true, true, true, true, true, true, true, false, false, false] rfl rfl (one_of HT_.out (by kernel_rfl)) (by decide) (fun K hK => ?_)
 refine goes_ Try.func91 (by kernel_rfl) rfl #[.pointer (some ⟨g, 0, none⟩), .agg #[.int .i64 a1_0, .int .i64 a1_1], .agg #[.int .i64 a2_0, .int .i64 a2_1]] (by rfl) rfl rfl (by (try simp only [List.map_toArray, List.map_cons, List.map_nil]); first | done | rfl | (simp only [List.length_drop, List.length_take]; rfl)) ?_
 with_reducible refine (impl_reckoner_sum.calls k g s0_0 a1_0 a1_1 a2_0 a2_1 t645 t646 t647 w0 _ ?side1 ?side2 A4.out).mono ?_
 (case side1 => exact z64_3 HI0)
 (case side2 => exact z64_5 HB)
 rintro e w10 ⟨rfl, hi, hb, hk⟩
 refine ⟨_, rfl, ?_⟩
 have n0_ := Aside0.mk (KeepBut.blk hk (zq1 BK642) NB642_0.out (by simp))
 have n1_ := Aside0.mk (KeepBut.blk hk (zq1 BK643) NB643_0.out (by simp))
 have n2_ := Aside0.mk (KeepBut.blk hk (zq1 BK644) NB644_0.out (by simp))
 have n3_ := Aside0.mk (KeepBut.trans (z64_4 HK) hk (.inl rfl))
 have n4_ := Aside0.mk (hb)
 have n5_ := Aside0.mk (hi)
 clear BK642 BK643 BK644 HK HB HI0
 have BK642 := n0_; have BK643 := n1_; have BK644 := n2_; have HK := n3_; have HB := n4_; have HI0 := n5_
 clear n0_ n1_ n2_ n3_ n4_ n5_
 (try clear hb)
 (try clear hb2)
 (try clear hk)
 (try clear hi)
 refine hK.out _ _ ⟨zc BK642 0, zc BK642 1, zc BK642 2, zc BK642 3, zc BK643 0, zc BK643 1, zc BK643 2, zc BK643 3⟩ (fun hHeld => ?_)
 clear hK K
 refine norm_ (a' := ?_) ?_ ?_
 rotate_left
 ·
  show Act.put _ (some 12) _ = _
  simp only [Act.put, List.setIfInBounds_toArray, List.set_cons_zero, List.set_cons_succ, i64_w, i32_w]; rfl
 refine one_ (i := 11) (N := some 18) #[true, true, true, true, true, true, true, true, true, true, true, true, false, false] rfl rfl (one_of HT_.out (by kernel_rfl)) (by decide) (fun K hK => ?_)
 refine goes_ Try.func91 (by kernel_rfl) rfl #[.pointer (some ⟨g, 0, none⟩), .agg #[.int .i64 a1_2, .int .i64 a1_3], .agg #[.int .i64 a2_2, .int .i64 a2_3]] (by rfl) rfl rfl (by (try simp only [List.map_toArray, List.map_cons, List.map_nil]); first | done | rfl | (simp only [List.length_drop, List.length_take]; rfl)) ?_
 with_reducible refine (impl_reckoner_sum.calls k g t647 a1_2 a1_3 a2_2 a2_3 t648 t649 t650 w0 _ ?side1 ?side2 A5.out).mono ?_
 (case side1 => exact z64_3 HI0)
 (case side2 => exact z64_5 HB)
 rintro e w11 ⟨rfl, hi, hb, hk⟩
 refine ⟨_, rfl, ?_⟩
 have n0_ := Aside0.mk (KeepBut.blk hk (zq1 BK642) NB642_0.out (by simp))
 have n1_ := Aside0.mk (KeepBut.blk hk (zq1 BK643) NB643_0.out (by simp))
 have n2_ := Aside0.mk (KeepBut.blk hk (zq1 BK644) NB644_0.out (by simp))
 have n3_ := Aside0.mk (KeepBut.trans (z64_4 HK) hk (.inl rfl))
 have n4_ := Aside0.mk (hb)
 have n5_ := Aside0.mk (hi)
 clear BK642 BK643 BK644 HK HB HI0
 have BK642 := n0_; have BK643 := n1_; have BK644 := n2_; have HK := n3_; have HB := n4_; have HI0 := n5_
 clear n0_ n1_ n2_ n3_ n4_ n5_
 (try clear hb)
 (try clear hb2)
 (try clear hk)
 (try clear hi)
 refine hK.out _ _ ⟨zc BK642 0, zc BK642 1, zc BK642 2, zc BK642 3, zc BK643 0, zc BK643 1, zc BK643 2, zc BK643 3⟩ (fun hHeld => ?_)
 clear hK K
 refine norm_ (a' := ?_) ?_ ?_
 rotate_left
 ·
  show Act.put _ (some 18) _ = _
  simp only [Act.put, List.setIfInBounds_toArray, List.set_cons_zero, List.set_cons_succ, i64_w, i32_w]; rfl
 refine pure_ (i := 12) (N := some 19) (v := ?_) (a' := ?_) #[true, true, true, true, true, true, true, true, true, true, true, true, true, false] rfl rfl (any_of HT_.out (by kernel_rfl)) (fun _ _ _ h => h) (Or.inl ⟨by rfl, ?_⟩) ?_ ?_
 rotate_left
 ·
  intro w'
  go_simp
  with_reducible rfl
 rotate_left
 ·
  simp only [Act.put, List.setIfInBounds_toArray, List.set_cons_zero, List.set_cons_succ, i64_w, i32_w]
  rfl
 refine one_ (i := 13) (N := none) #[true, true, true, true, true, true, true, true, true, true, true, true, true, true] rfl rfl (one_of HT_.out (by kernel_rfl)) (by decide) (fun K hK => ?_)
 have hs12 : w11.cell? ⟨gb644, 0, none⟩ = some (.int .i64 0) := zc BK644 0
 have hfs12 := blk_frozen BK644.out 0
 have hns12_0 := NB642_644.out
 have hns12_1 := NB643_644.out
 have hms12_0 := NB644_642.out
 have hms12_1 := NB644_643.out
 have hs13 : w11.cell? ⟨gb644, 1, none⟩ = some (.int .i64 0) := zc BK644 1
 have hfs13 := blk_frozen BK644.out 1
 have hns13_0 := NB642_644.out
 have hns13_1 := NB643_644.out
 have hms13_0 := NB644_642.out
 have hms13_1 := NB644_643.out
 have hs14 : w11.cell? ⟨gb644, 2, none⟩ = some (.int .i64 0) := zc BK644 2
 have hfs14 := blk_frozen BK644.out 2
 have hns14_0 := NB642_644.out
 have hns14_1 := NB643_644.out
 have hms14_0 := NB644_642.out
 have hms14_1 := NB644_643.out
 have hs15 : w11.cell? ⟨gb644, 3, none⟩ = some (.int .i64 0) := zc BK644 3
 have hfs15 := blk_frozen BK644.out 3
 have hns15_0 := NB642_644.out
 have hns15_1 := NB643_644.out
 have hms15_0 := NB644_642.out
 have hms15_1 := NB644_643.out
 refine skip_ (w1 := ?_) (by rfl) rfl ?_ ?_
 rotate_left
 ·
  go_simp
  rfl
 refine hK.out _ _ ⟨((cell_far (p := ⟨gb644, _, none⟩) NB642_644.out _).trans (((cell_far (p := ⟨gb644, _, none⟩) NB642_644.out _).trans (((cell_far (p := ⟨gb644, _, none⟩) NB642_644.out _).trans (((cell_far (p := ⟨gb644, _, none⟩) NB642_644.out _).trans (hHeld.1)))))))), ((cell_far (p := ⟨gb644, _, none⟩) NB642_644.out _).trans (((cell_far (p := ⟨gb644, _, none⟩) NB642_644.out _).trans (((cell_far (p := ⟨gb644, _, none⟩) NB642_644.out _).trans (((cell_far (p := ⟨gb644, _, none⟩) NB642_644.out _).trans (hHeld.2.1)))))))), ((cell_far (p := ⟨gb644, _, none⟩) NB642_644.out _).trans (((cell_far (p := ⟨gb644, _, none⟩) NB642_644.out _).trans (((cell_far (p := ⟨gb644, _, none⟩) NB642_644.out _).trans (((cell_far (p := ⟨gb644, _, none⟩) NB642_644.out _).trans (hHeld.2.2.1)))))))), ((cell_far (p := ⟨gb644, _, none⟩) NB642_644.out _).trans (((cell_far (p := ⟨gb644, _, none⟩) NB642_644.out _).trans (((cell_far (p := ⟨gb644, _, none⟩) NB642_644.out _).trans (((cell_far (p := ⟨gb644, _, none⟩) NB642_644.out _).trans (hHeld.2.2.2.1)))))))), ((cell_far (p := ⟨gb644, _, none⟩) NB643_644.out _).trans (((cell_far (p := ⟨gb644, _, none⟩) NB643_644.out _).trans (((cell_far (p := ⟨gb644, _, none⟩) NB643_644.out _).trans (((cell_far (p := ⟨gb644, _, none⟩) NB643_644.out _).trans (hHeld.2.2.2.2.1)))))))), ((cell_far (p := ⟨gb644, _, none⟩) NB643_644.out _).trans (((cell_far (p := ⟨gb644, _, none⟩) NB643_644.out _).trans (((cell_far (p := ⟨gb644, _, none⟩) NB643_644.out _).trans (((cell_far (p := ⟨gb644, _, none⟩) NB643_644.out _).trans (hHeld.2.2.2.2.2.1)))))))), ((cell_far (p := ⟨gb644, _, none⟩) NB643_644.out _).trans (((cell_far (p := ⟨gb644, _, none⟩) NB643_644.out _).trans (((cell_far (p := ⟨gb644, _, none⟩) NB643_644.out _).trans (((cell_far (p := ⟨gb644, _, none⟩) NB643_644.out _).trans (hHeld.2.2.2.2.2.2.1)))))))), ((cell_far (p := ⟨gb644, _, none⟩) NB643_644.out _).trans (((cell_far (p := ⟨gb644, _, none⟩) NB643_644.out _).trans (((cell_far (p := ⟨gb644, _, none⟩) NB643_644.out _).trans (((cell_far (p := ⟨gb644, _, none⟩) NB643_644.out _).trans (hHeld.2.2.2.2.2.2.2))))))))⟩ (fun hHeld => ?_)
 clear hK K
 refine done_ (done_of HT_.out (by kernel_rfl)) ?_
 try go_wp2
 refine bodyPost_ret (results_cell_row rfl _ _ gb644 29 #[.int .i64 t645, .int .i64 t646, .int .i64 t648, .int .i64 t649] (0, 0) _ rfl (by (with_reducible repeat (first | refine blk_drewN ?_ _ | refine blk_drew ?_ | refine blk_alloc ?_ _)); refine blk_put (cs := #[.int .i64 t645, .int .i64 t646, .int .i64 t648, .int .i64 0]) ?_ 3 _ rfl; (with_reducible repeat (first | refine blk_drewN ?_ _ | refine blk_drew ?_ | refine blk_alloc ?_ _)); refine blk_put (cs := #[.int .i64 t645, .int .i64 t646, .int .i64 0, .int .i64 0]) ?_ 2 _ rfl; (with_reducible repeat (first | refine blk_drewN ?_ _ | refine blk_drew ?_ | refine blk_alloc ?_ _)); refine blk_put (cs := #[.int .i64 t645, .int .i64 0, .int .i64 0, .int .i64 0]) ?_ 1 _ rfl; (with_reducible repeat (first | refine blk_drewN ?_ _ | refine blk_drew ?_ | refine blk_alloc ?_ _)); refine blk_put (cs := #[.int .i64 0, .int .i64 0, .int .i64 0, .int .i64 0]) ?_ 0 _ rfl; (with_reducible repeat (first | refine blk_drewN ?_ _ | refine blk_drew ?_ | refine blk_alloc ?_ _)); exact BK644.out) Try.underlying29 rfl (by kernel_rfl)) rfl ?_
 exact ⟨by first | rfl | (simp [errW_none, errW_some] <;> rfl) | (simp [*, errW_none, errW_some] <;> rfl), (z64_3 HI0), (z64_5 HB), (z64_4 HK)⟩
end Go.Proofs.Ytinpcalgdiigiaa.PD
