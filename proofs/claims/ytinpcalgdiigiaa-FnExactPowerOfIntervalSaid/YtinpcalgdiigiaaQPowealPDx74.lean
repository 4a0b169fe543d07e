-- By wip/mk/drv.py
import Derived.Test.YtinpcalgdiigiaaQPowealPDx0
import Derived.Test.YtinpcalgdiigiaaQPowealPDx1
import Derived.Test.YtinpcalgdiigiaaQPowealPDx3
import Derived.Test.YtinpcalgdiigiaaQPowealPDx4
import Derived.Test.YtinpcalgdiigiaaQPowealPDx25
import Derived.Test.YtinpcalgdiigiaaQPowealPDx26
import Derived.Test.YtinpcalgdiigiaaQPowealPDx41
import Derived.Test.YtinpcalgdiigiaaQPowealPDx67
import Derived.Test.YtinpcalgdiigiaaQPowealPDx88
namespace Go.Proofs.Ytinpcalgdiigiaa.PD
open Go.RowKit Go.Proofs.YtinpcalgdiigiaaW.PrintWords Go.Proofs.YtinpcalgdiigiaaW.PrintLast Go.Proofs.YtinpcalgdiigiaaW.PrintMore
attribute [local go_sem] max2_int min2_int max_two min_two max_three min_three max_four min_four
set_option linter.unusedVariables false
set_option linter.unusedSimpArgs false
/-! ### impl_reckoner_power: function 71 -/
theorem z71_0 {P Q : Prop} (h : Aside0 (Q)) (f : Q → P := by intro h_; repeat (first | (with_reducible first | exact h_ | apply IsS57.alloc | apply IsS57.drewN | apply IsS57.drew | apply IsS57.set_0) | exact h_)) : P := f h.out
theorem z71_1 {w W0 W1 : World} {g : Nat} {row : Option Nat} (h : Aside0 (KeepBut w W0 g row)) (f : KeepBut w W0 g row → KeepBut w W1 g row := by intro h_; repeat (first | (with_reducible first | exact h_ | apply KeepBut.set_ | apply keep_drewN | apply keep_drew | apply keep_alloc) | exact h_)) : KeepBut w W1 g row := f h.out
theorem z71_2 {w W0 W1 : World} {B : Nat} (h : Aside0 (Below B w W0)) (f : Below B w W0 → Below B w W1 := by intro h_; repeat (first | (with_reducible first | exact h_ | apply below_alloc | apply pw_below_drewN | apply below_drew1 | refine below_set ?_ (IsS57.ge (Aside0.out (by assumption)))) | exact h_)) : Below B w W1 := f h.out
theorem z71_3 {P Q : Prop} (h : Aside0 (Q)) (f : Q → P := by intro h_; repeat (first | (with_reducible first | exact h_ | apply IsS57.alloc | apply IsS57.drewN | apply IsS57.drew | apply IsS57.set_0 | refine IsS57.far ?_ (Aside0.out (by assumption)) _) | exact h_)) : P := f h.out
theorem z71_4 {w W0 W1 : World} {g : Nat} {row : Option Nat} (h : Aside0 (KeepBut w W0 g row)) (f : KeepBut w W0 g row → KeepBut w W1 g row := by intro h_; repeat (first | (with_reducible first | exact h_ | apply KeepBut.set_ | apply keep_drewN | apply keep_drew | apply keep_alloc | refine keep_far ?_ (Aside0.out (by assumption)) _) | exact h_)) : KeepBut w W1 g row := f h.out
theorem z71_5 {w W0 W1 : World} {B : Nat} (h : Aside0 (Below B w W0)) (f : Below B w W0 → Below B w W1 := by intro h_; repeat (first | (with_reducible first | exact h_ | apply below_alloc | apply pw_below_drewN | apply below_drew1 | refine below_set ?_ (IsS57.ge (Aside0.out (by assumption))) | refine below_set ?_ (Aside0.out (by assumption))) | exact h_)) : Below B w W1 := f h.out
def impl_reckoner_power.T3 : Bool × List (List Nat × List Nat) := (true, [([], []), ([0], [0]), ([], []), ([2], [2]), ([], []), ([], []), ([4, 1, 0, 1, 4, 5], [1, 4]), ([5, 3, 6, 0, 1, 2, 3, 4, 5, 6], [3, 5])])
def impl_reckoner_power.B3 : List Nat := [0, 1, 0, 4, 0, 0, 51, 127]
theorem impl_reckoner_power.tab3 : rtab .any (opsOf Try.f71 3) = impl_reckoner_power.T3 := by kernel_rfl
theorem impl_reckoner_power.bits3 : waitsOk impl_reckoner_power.T3.2 impl_reckoner_power.B3 = true := by kernel_rfl
def impl_reckoner_power.T6 : Bool × List (List Nat × List Nat) := (true, [([], []), ([], []), ([], []), ([2], [2]), ([0, 1, 3], [0, 1, 3]), ([], []), ([], []), ([], []), ([7], [7]), ([5, 6, 8, 4], [5, 6, 8]), ([4, 9, 0, 1, 2, 3, 4], [4]), ([9, 10, 0, 1, 2, 3, 4, 5, 6, 7, 8, 9, 10], [9])])
def impl_reckoner_power.B6 : List Nat := [0, 0, 0, 4, 15, 0, 0, 0, 128, 511, 1023, 2047]
theorem impl_reckoner_power.tab6 : rtab .any (opsOf Try.f71 6) = impl_reckoner_power.T6 := by kernel_rfl
theorem impl_reckoner_power.bits6 : waitsOk impl_reckoner_power.T6.2 impl_reckoner_power.B6 = true := by kernel_rfl
def impl_reckoner_power.T9 : Bool × List (List Nat × List Nat) := (true, [([], []), ([], []), ([0, 1], [0, 1]), ([], []), ([], []), ([3, 4, 2], [3, 4]), ([2, 5, 0, 1, 2, 3], [2]), ([5, 6, 0, 1, 2, 3, 4, 5, 6], [5])])
def impl_reckoner_power.B9 : List Nat := [0, 0, 3, 0, 0, 31, 63, 127]
theorem impl_reckoner_power.tab9 : rtab .any (opsOf Try.f71 9) = impl_reckoner_power.T9 := by kernel_rfl
theorem impl_reckoner_power.bits9 : waitsOk impl_reckoner_power.T9.2 impl_reckoner_power.B9 = true := by kernel_rfl
set_option maxHeartbeats 8000000 in
set_option maxRecDepth 100000 in
theorem impl_reckoner_power.calls (k : Nat) (g : Nat) (s0_0 : Bool) (a1_0 : Int) (a1_1 : Int) (a1_2 : Int) (a1_3 : Int) (a2 : Int) (r1 : Int) (r2 : Int) (r3 : Int) (r4 : Int) (r5 : Bool) (w0 w : World) (hI : IsS57 w0 w g s0_0) (hB : Below w0.heap.size w0 w) (h : impl_reckoner_power.f k s0_0 a1_0 a1_1 a1_2 a1_3 a2 = some (r1, r2, r3, r4, r5)) :
  Calls Try.prog 71 #[.pointer (some ⟨g, 0, none⟩), .agg #[.int .i64 a1_0, .int .i64 a1_1, .int .i64 a1_2, .int .i64 a1_3], .int .i64 a2] w fun e w' => e = .returned (.agg #[.int .i64 r1, .int .i64 r2, .int .i64 r3, .int .i64 r4]) ∧ IsS57 w0 w' g r5 ∧ Below w0.heap.size w0 w' ∧ KeepBut w w' g none := by
 have hu29 := Try.underlying29
 have hu27 := Try.underlying27
 have HI0 := Aside0.mk hI
 have HK := Aside0.mk (KeepBut.refl w g none)
 have HL := Aside0.mk hB.size
 clear hI
 have HW0 := Aside0.mk hB.size
 have HB := Aside0.mk hB
 clear hB
 have H : (if a2 = 0 then ((impl_integer.f 1).bind fun bt998 => ((impl_single.f bt998.1 bt998.2).bind fun bt1000 => (some (bt1000.1, bt1000.2.1, bt1000.2.2.1, bt1000.2.2.2, s0_0)))) else (impl_reckoner_power.l0 k a2 (wrap64 (a2 - 1)) 0 s0_0 a1_0 a1_1 a1_2 a1_3 a1_0 a1_1 a1_2 a1_3)) = some (r1, r2, r3, r4, r5) := h
 clear h
 by_cases c4 : a2 = 0
 ·
  rw [if_pos c4] at H
  have c4b0 : (a2 == 0) = true := beq_iff_eq.mpr c4
  have c4b1 : (a2 != 0) = false := bne_eq_false_iff_eq.mpr c4
  clear c4
  replace H := Option.bind_eq_some_iff.mp H
  obtain ⟨⟨t998, t999⟩, A50, H⟩ := H
  replace H : ((impl_single.f t998 t999).bind fun bt1000 => (some (bt1000.1, bt1000.2.1, bt1000.2.2.1, bt1000.2.2.2, s0_0))) = some (r1, r2, r3, r4, r5) := H
  have A5 := Aside0.mk A50
  clear A50
  replace H := Option.bind_eq_some_iff.mp H
  obtain ⟨⟨t1000, t1001, t1002, t1003⟩, A60, H⟩ := H
  replace H : (some (t1000, t1001, t1002, t1003, s0_0)) = some (r1, r2, r3, r4, r5) := H
  have A6 := Aside0.mk A60
  clear A60
  simp only [Option.some.injEq, Prod.mk.injEq] at H
  obtain ⟨rfl, rfl, rfl, rfl, rfl⟩ := H
  go_enter Try.func71, Try.ntmps71
  go_wp2_with (first | ((with_reducible refine gate_dst (N := 4) rfl ?_); refine zbe (N := 4) (cs := #[.int .i64 a1_0, .int .i64 a1_1, .int .i64 a1_2, .int .i64 a1_3]) (t := 29) ?_; intro gb996 hg w7 hbox hb; have BK996 := Aside0.mk (hbox); have GW996 := Aside0.mk ((by rw [hg]; exact (keep_size (w := w) (g := g) (row := none) (z71_1 HK)) : w.heap.size ≤ gb996)); have GE996 := Aside0.mk ((Nat.le_trans HW0.out (by rw [hg]; exact (keep_size (w := w) (g := g) (row := none) (z71_1 HK)) : w.heap.size ≤ gb996) : w0.heap.size ≤ gb996)); have NB0_996 := Aside0.mk ((by rw [hg]; exact Nat.ne_of_lt (IsS57.lt (show IsS57 w0 _ g s0_0 from (z71_0 HI0))) : g ≠ gb996)); have NB996_0 := Aside0.mk ((by rw [hg]; exact Nat.ne_of_gt (IsS57.lt (show IsS57 w0 _ g s0_0 from (z71_0 HI0))) : gb996 ≠ g)); replace HI0 := Aside0.mk (IsS57.below (z71_0 HI0) hb); replace HK := Aside0.mk (KeepBut.trans (z71_1 HK) (KeepBut.of_below hb g none) (.inl rfl)); replace HB := Aside0.mk (below_step (z71_2 HB) hb); clear hb hbox hg) | ((with_reducible refine gate_dst (N := 6) rfl ?_); refine zbe (N := 6) (cs := #[.int .i64 0, .int .i64 0, .int .i64 0, .int .i64 0]) (t := 29) ?_; intro gb997 hg w8 hbox hb; have BK997 := Aside0.mk (hbox); have GW997 := Aside0.mk ((by rw [hg]; exact (keep_size (w := w) (g := g) (row := none) (z71_4 HK)) : w.heap.size ≤ gb997)); have GE997 := Aside0.mk ((Nat.le_trans HW0.out (by rw [hg]; exact (keep_size (w := w) (g := g) (row := none) (z71_4 HK)) : w.heap.size ≤ gb997) : w0.heap.size ≤ gb997)); have NB996_997 := Aside0.mk (zlt BK996 hg); have NB997_996 := Aside0.mk (zgt BK996 hg); have NB0_997 := Aside0.mk ((by rw [hg]; exact Nat.ne_of_lt (IsS57.lt (show IsS57 w0 _ g s0_0 from (z71_3 HI0))) : g ≠ gb997)); have NB997_0 := Aside0.mk ((by rw [hg]; exact Nat.ne_of_gt (IsS57.lt (show IsS57 w0 _ g s0_0 from (z71_3 HI0))) : gb997 ≠ g)); replace HI0 := Aside0.mk (IsS57.below (z71_3 HI0) hb); replace BK996 := Aside0.mk (zbb BK996 hb); replace HK := Aside0.mk (KeepBut.trans (z71_4 HK) (KeepBut.of_below hb g none) (.inl rfl)); replace HB := Aside0.mk (below_step (z71_5 HB) hb); clear hb hbox hg) | ((with_reducible refine gate_callee (f := 98) rfl ?_); refine goesL_ (some 11) rfl rfl Try.func98 (by kernel_rfl) rfl #[.int .i64 1] rfl zq6 ?_; (with_reducible refine (impl_integer.calls 1 t998 t999 _ A5.out).mono ?_); rintro e w9 ⟨rfl, hb⟩; refine ⟨_, rfl, ?_⟩; replace HI0 := Aside0.mk (IsS57.below (z71_3 HI0) hb); replace BK996 := Aside0.mk (zbb BK996 hb); replace BK997 := Aside0.mk (zbb BK997 hb); replace HK := Aside0.mk (KeepBut.trans (z71_4 HK) (KeepBut.of_below hb g none) (.inl rfl)); replace HB := Aside0.mk (below_step (z71_5 HB) hb); (try clear hb); (try clear hb2); (try clear hk); (try clear hi)) | ((with_reducible refine gate_callee (f := 97) rfl ?_); refine goesL_ (some 12) rfl rfl Try.func97 (by kernel_rfl) rfl #[.agg #[.int .i64 t998, .int .i64 t999]] rfl zq6 ?_; (with_reducible refine (impl_single.calls t998 t999 t1000 t1001 t1002 t1003 _ A6.out).mono ?_); rintro e w10 ⟨rfl, hb⟩; refine ⟨_, rfl, ?_⟩; replace HI0 := Aside0.mk (IsS57.below (z71_3 HI0) hb); replace BK996 := Aside0.mk (zbb BK996 hb); replace BK997 := Aside0.mk (zbb BK997 hb); replace HK := Aside0.mk (KeepBut.trans (z71_4 HK) (KeepBut.of_below hb g none) (.inl rfl)); replace HB := Aside0.mk (below_step (z71_5 HB) hb); (try clear hb); (try clear hb2); (try clear hk); (try clear hi); have hnb11 := NB997_996.out; have hnc11 := NB996_997.out; have hnb12 := NB997_0.out; have hnc12 := NB0_997.out; have hcz13_0 : w10.cell? ⟨gb997, 0, none⟩ = some (.int .i64 0) := zc BK997 0; have hcz13_1 : w10.cell? ⟨gb997, 1, none⟩ = some (.int .i64 0) := zc BK997 1; have hcz13_2 : w10.cell? ⟨gb997, 2, none⟩ = some (.int .i64 0) := zc BK997 2; have hcz13_3 : w10.cell? ⟨gb997, 3, none⟩ = some (.int .i64 0) := zc BK997 3; have hfz13_0 := blk_frozen BK997.out 0; have hfz13_1 := blk_frozen BK997.out 1; have hfz13_2 := blk_frozen BK997.out 2; have hfz13_3 := blk_frozen BK997.out 3))
  refine bodyPost_ret (results_cell_row rfl _ _ gb997 29 #[.int .i64 t1000, .int .i64 t1001, .int .i64 t1002, .int .i64 t1003] (0, 0) _ rfl (by (with_reducible repeat (first | refine blk_drewN ?_ _ | refine blk_drew ?_ | refine blk_alloc ?_ _)); refine blk_put (cs := #[.int .i64 t1000, .int .i64 t1001, .int .i64 t1002, .int .i64 0]) ?_ 3 _ rfl; (with_reducible repeat (first | refine blk_drewN ?_ _ | refine blk_drew ?_ | refine blk_alloc ?_ _)); refine blk_put (cs := #[.int .i64 t1000, .int .i64 t1001, .int .i64 0, .int .i64 0]) ?_ 2 _ rfl; (with_reducible repeat (first | refine blk_drewN ?_ _ | refine blk_drew ?_ | refine blk_alloc ?_ _)); refine blk_put (cs := #[.int .i64 t1000, .int .i64 0, .int .i64 0, .int .i64 0]) ?_ 1 _ rfl; (with_reducible repeat (first | refine blk_drewN ?_ _ | refine blk_drew ?_ | refine blk_alloc ?_ _)); refine blk_put (cs := #[.int .i64 0, .int .i64 0, .int .i64 0, .int .i64 0]) ?_ 0 _ rfl; (with_reducible repeat (first | refine blk_drewN ?_ _ | refine blk_drew ?_ | refine blk_alloc ?_ _)); exact BK997.out) Try.underlying29 rfl (by kernel_rfl)) rfl ?_
  exact ⟨by first | rfl | (simp [errW_none, errW_some] <;> rfl) | (simp [*, errW_none, errW_some] <;> rfl), (z71_3 HI0), (z71_5 HB), (z71_4 HK)⟩
 ·
  rw [if_neg c4] at H
  have c4b0 : (a2 == 0) = false := beq_eq_false_iff_ne.mpr c4
  have c4b1 : (a2 != 0) = true := bne_iff_ne.mpr c4
  have H' := Aside0.mk H
  clear H
  go_enter Try.func71, Try.ntmps71
  try go_wp2_with (first | ((with_reducible refine gate_dst (N := 4) rfl ?_); refine zbe (N := 4) (cs := #[.int .i64 a1_0, .int .i64 a1_1, .int .i64 a1_2, .int .i64 a1_3]) (t := 29) ?_; intro gb996 hg w14 hbox hb; have BK996 := Aside0.mk (hbox); have GW996 := Aside0.mk ((by rw [hg]; exact (keep_size (w := w) (g := g) (row := none) (z71_1 HK)) : w.heap.size ≤ gb996)); have GE996 := Aside0.mk ((Nat.le_trans HW0.out (by rw [hg]; exact (keep_size (w := w) (g := g) (row := none) (z71_1 HK)) : w.heap.size ≤ gb996) : w0.heap.size ≤ gb996)); have NB0_996 := Aside0.mk ((by rw [hg]; exact Nat.ne_of_lt (IsS57.lt (show IsS57 w0 _ g s0_0 from (z71_0 HI0))) : g ≠ gb996)); have NB996_0 := Aside0.mk ((by rw [hg]; exact Nat.ne_of_gt (IsS57.lt (show IsS57 w0 _ g s0_0 from (z71_0 HI0))) : gb996 ≠ g)); replace HI0 := Aside0.mk (IsS57.below (z71_0 HI0) hb); replace HK := Aside0.mk (KeepBut.trans (z71_1 HK) (KeepBut.of_below hb g none) (.inl rfl)); replace HB := Aside0.mk (below_step (z71_2 HB) hb); clear hb hbox hg) | ((with_reducible refine gate_dst (N := 6) rfl ?_); refine zbe (N := 6) (cs := #[.int .i64 0, .int .i64 0, .int .i64 0, .int .i64 0]) (t := 29) ?_; intro gb997 hg w15 hbox hb; have BK997 := Aside0.mk (hbox); have GW997 := Aside0.mk ((by rw [hg]; exact (keep_size (w := w) (g := g) (row := none) (z71_4 HK)) : w.heap.size ≤ gb997)); have GE997 := Aside0.mk ((Nat.le_trans HW0.out (by rw [hg]; exact (keep_size (w := w) (g := g) (row := none) (z71_4 HK)) : w.heap.size ≤ gb997) : w0.heap.size ≤ gb997)); have NB996_997 := Aside0.mk (zlt BK996 hg); have NB997_996 := Aside0.mk (zgt BK996 hg); have NB0_997 := Aside0.mk ((by rw [hg]; exact Nat.ne_of_lt (IsS57.lt (show IsS57 w0 _ g s0_0 from (z71_3 HI0))) : g ≠ gb997)); have NB997_0 := Aside0.mk ((by rw [hg]; exact Nat.ne_of_gt (IsS57.lt (show IsS57 w0 _ g s0_0 from (z71_3 HI0))) : gb997 ≠ g)); replace HI0 := Aside0.mk (IsS57.below (z71_3 HI0) hb); replace BK996 := Aside0.mk (zbb BK996 hb); replace HK := Aside0.mk (KeepBut.trans (z71_4 HK) (KeepBut.of_below hb g none) (.inl rfl)); replace HB := Aside0.mk (below_step (z71_5 HB) hb); clear hb hbox hg))
  replace BK996 := Aside0.mk (blk_drew BK996.out); replace BK997 := Aside0.mk (blk_drew BK997.out); replace HI0 := Aside0.mk (IsS57.drew HI0.out); replace HK := Aside0.mk (keep_drew HK.out); replace HB := Aside0.mk (below_drew1 HB.out)
  refine start_ (n := 8) (S := fun w' => w'.cell? ⟨gb996, 0, none⟩ = some (.int .i64 a1_0) ∧ w'.cell? ⟨gb996, 1, none⟩ = some (.int .i64 a1_1) ∧ w'.cell? ⟨gb996, 2, none⟩ = some (.int .i64 a1_2) ∧ w'.cell? ⟨gb996, 3, none⟩ = some (.int .i64 a1_3)) (ds := []) #[false, false, false, false, false, false, false, false] (by kernel_rfl) rfl rfl ⟨zc BK996 0, zc BK996 1, zc BK996 2, zc BK996 3⟩ (fun hHeld => ?_); refine with_tabW impl_reckoner_power.tab3 impl_reckoner_power.bits3 (fun HT_ HW_ => ?_)
  generalize w15.drew = w16 at BK996 BK997 HI0 HK HB hHeld ⊢
  refine zp (i := 0) (N := some 13) #[true, false, false, false, false, false, false, false] (any_of HT_.out (by kernel_rfl)) ?_
  refine zp (i := 2) (N := some 15) #[true, false, true, false, false, false, false, false] (any_of HT_.out (by kernel_rfl)) ?_
  refine take_ (i := 1) (N := some 14) (v := ?_) (a' := ?_) #[true, true, true, false, false, false, false, false] rfl rfl (take_ofW HT_.out HW_.out (by kernel_rfl)) (fun _ _ _ h => h) (Or.inl ⟨by rfl, ?_⟩) hHeld ?_ ?_
  rotate_left
  ·
   rintro w' ⟨s0, s1, s2, s3⟩
   go_simp
   with_reducible rfl
  rotate_left
  ·
   simp only [Act.put, List.setIfInBounds_toArray, List.set_cons_zero, List.set_cons_succ, i64_w, i32_w]
   rfl
  refine take_ (i := 3) (N := some 16) (v := ?_) (a' := ?_) #[true, true, true, true, false, false, false, false] rfl rfl (take_ofW HT_.out HW_.out (by kernel_rfl)) (fun _ _ _ h => h) (Or.inl ⟨by rfl, ?_⟩) hHeld ?_ ?_
  rotate_left
  ·
   rintro w' ⟨s0, s1, s2, s3⟩
   go_simp
   with_reducible rfl
  rotate_left
  ·
   simp only [Act.put, List.setIfInBounds_toArray, List.set_cons_zero, List.set_cons_succ, i64_w, i32_w]
   rfl
  refine join_ (σ := Nat × Nat) 2 #[true, true, true, true, true, true, false, false] (fun s_ => [(7, .pointer (some ⟨s_.1, 0, none⟩)), (8, .pointer (some ⟨s_.2, 0, none⟩))]) (fun s_ w' => (w'.cell? ⟨gb996, 0, none⟩ = some (.int .i64 a1_0) ∧ w'.cell? ⟨gb996, 1, none⟩ = some (.int .i64 a1_1) ∧ w'.cell? ⟨gb996, 2, none⟩ = some (.int .i64 a1_2) ∧ w'.cell? ⟨gb996, 3, none⟩ = some (.int .i64 a1_3)) ∧ (w'.heap[s_.1]? = some (.cells #[.int .i64 0, .int .i64 0] 27 (0, 0))) ∧ (w'.heap[s_.2]? = some (.cells #[.int .i64 0, .int .i64 0] 27 (0, 0))) ∧ (w'.heap[gb996]? = some (.cells #[.int .i64 a1_0, .int .i64 a1_1, .int .i64 a1_2, .int .i64 a1_3] 29 (0, 0))) ∧ (w'.heap[gb997]? = some (.cells #[.int .i64 0, .int .i64 0, .int .i64 0, .int .i64 0] 29 (0, 0))) ∧ (w.heap.size ≤ s_.1) ∧ (w0.heap.size ≤ s_.1) ∧ (g ≠ s_.1) ∧ (s_.1 ≠ g) ∧ (s_.2 ≠ s_.1) ∧ (s_.1 ≠ s_.2) ∧ (gb996 ≠ s_.1) ∧ (s_.1 ≠ gb996) ∧ (gb997 ≠ s_.1) ∧ (s_.1 ≠ gb997) ∧ (w.heap.size ≤ s_.2) ∧ (w0.heap.size ≤ s_.2) ∧ (g ≠ s_.2) ∧ (s_.2 ≠ g) ∧ (gb996 ≠ s_.2) ∧ (s_.2 ≠ gb996) ∧ (gb997 ≠ s_.2) ∧ (s_.2 ≠ gb997) ∧ (IsS57 w0 w' g s0_0) ∧ (KeepBut w w' g none) ∧ (Below w0.heap.size w0 w')) ?_ ?_
  rotate_left
  ·
   intro hCont
   refine two_ (i := 4) (j := 5) (Ni := some 7) (Nj := some 8) #[true, true, true, true, true, false, false, false] #[true, true, true, true, false, true, false, false] rfl rfl rfl rfl (two_of HT_.out (by kernel_rfl)) (by decide) (by decide) (fun K hK => ?_) (fun K hK => ?_)
   ·
    refine box_step ?hg (N := 7) ?hd (cs := #[.int .i64 0, .int .i64 0]) (t := 27) ?hr ?_; (case hd => rfl); (case hg => rfl); (case hr => first | (go_simp; done) | (go_simp; rfl))
    intro gb1004 hg w17 hbox hb
    have n0_ := Aside0.mk (IsS57.below (z71_3 HI0) hb)
    have n1_ := Aside0.mk (zbb BK996 hb)
    have n2_ := Aside0.mk (zbb BK997 hb)
    have n3_ := Aside0.mk (KeepBut.trans (z71_4 HK) (KeepBut.of_below hb g none) (.inl rfl))
    have n4_ := Aside0.mk (below_step (z71_5 HB) hb)
    have BK1004 := Aside0.mk (hbox)
    have GW1004 := Aside0.mk ((by rw [hg]; exact (keep_size (w := w) (g := g) (row := none) (z71_4 HK)) : w.heap.size ≤ gb1004))
    have GE1004 := Aside0.mk ((Nat.le_trans HW0.out (by rw [hg]; exact (keep_size (w := w) (g := g) (row := none) (z71_4 HK)) : w.heap.size ≤ gb1004) : w0.heap.size ≤ gb1004))
    have NB996_1004 := Aside0.mk (zlt BK996 hg)
    have NB1004_996 := Aside0.mk (zgt BK996 hg)
    have NB997_1004 := Aside0.mk (zlt BK997 hg)
    have NB1004_997 := Aside0.mk (zgt BK997 hg)
    have NB0_1004 := Aside0.mk ((by rw [hg]; exact Nat.ne_of_lt (IsS57.lt (show IsS57 w0 _ g s0_0 from (z71_3 HI0))) : g ≠ gb1004))
    have NB1004_0 := Aside0.mk ((by rw [hg]; exact Nat.ne_of_gt (IsS57.lt (show IsS57 w0 _ g s0_0 from (z71_3 HI0))) : gb1004 ≠ g))
    clear HI0 BK996 BK997 HK HB
    have HI0 := n0_; have BK996 := n1_; have BK997 := n2_; have HK := n3_; have HB := n4_
    clear n0_ n1_ n2_ n3_ n4_ hb hbox hg
    refine hK.out _ _ ⟨zc BK996 0, zc BK996 1, zc BK996 2, zc BK996 3⟩ (fun hHeld => ?_)
    clear hK K
    refine norm_ (a' := ?_) ?_ ?_
    rotate_left
    ·
     show Act.put _ (some 7) _ = _
     simp only [Act.put, List.setIfInBounds_toArray, List.set_cons_zero, List.set_cons_succ, i64_w, i32_w]; rfl
    refine one_ (i := 5) (N := some 8) #[true, true, true, true, true, true, false, false] rfl rfl (one_of HT_.out (by kernel_rfl)) (by decide) (fun K hK => ?_)
    refine box_step ?hg (N := 8) ?hd (cs := #[.int .i64 0, .int .i64 0]) (t := 27) ?hr ?_; (case hd => rfl); (case hg => rfl); (case hr => first | (go_simp; done) | (go_simp; rfl))
    intro gb1005 hg w18 hbox hb
    have n0_ := Aside0.mk (IsS57.below (z71_3 HI0) hb)
    have n1_ := Aside0.mk (zbb BK996 hb)
    have n2_ := Aside0.mk (zbb BK997 hb)
    have n3_ := Aside0.mk (zbb BK1004 hb)
    have n4_ := Aside0.mk (KeepBut.trans (z71_4 HK) (KeepBut.of_below hb g none) (.inl rfl))
    have n5_ := Aside0.mk (below_step (z71_5 HB) hb)
    have BK1005 := Aside0.mk (hbox)
    have GW1005 := Aside0.mk ((by rw [hg]; exact (keep_size (w := w) (g := g) (row := none) (z71_4 HK)) : w.heap.size ≤ gb1005))
    have GE1005 := Aside0.mk ((Nat.le_trans HW0.out (by rw [hg]; exact (keep_size (w := w) (g := g) (row := none) (z71_4 HK)) : w.heap.size ≤ gb1005) : w0.heap.size ≤ gb1005))
    have NB996_1005 := Aside0.mk (zlt BK996 hg)
    have NB1005_996 := Aside0.mk (zgt BK996 hg)
    have NB997_1005 := Aside0.mk (zlt BK997 hg)
    have NB1005_997 := Aside0.mk (zgt BK997 hg)
    have NB1004_1005 := Aside0.mk (zlt BK1004 hg)
    have NB1005_1004 := Aside0.mk (zgt BK1004 hg)
    have NB0_1005 := Aside0.mk ((by rw [hg]; exact Nat.ne_of_lt (IsS57.lt (show IsS57 w0 _ g s0_0 from (z71_3 HI0))) : g ≠ gb1005))
    have NB1005_0 := Aside0.mk ((by rw [hg]; exact Nat.ne_of_gt (IsS57.lt (show IsS57 w0 _ g s0_0 from (z71_3 HI0))) : gb1005 ≠ g))
    clear HI0 BK996 BK997 BK1004 HK HB
    have HI0 := n0_; have BK996 := n1_; have BK997 := n2_; have BK1004 := n3_; have HK := n4_; have HB := n5_
    clear n0_ n1_ n2_ n3_ n4_ n5_ hb hbox hg
    refine hK.out _ _ ⟨zc BK996 0, zc BK996 1, zc BK996 2, zc BK996 3⟩ (fun hHeld => ?_)
    clear hK K
    refine norm_ (a' := ?_) ?_ ?_
    rotate_left
    ·
     show Act.put _ (some 8) _ = _
     simp only [Act.put, List.setIfInBounds_toArray, List.set_cons_zero, List.set_cons_succ, i64_w, i32_w]; rfl
    exact norm_ (by simp only [putAll, Act.put, List.setIfInBounds_toArray, List.set_cons_zero, List.set_cons_succ]) (hCont (gb1004, gb1005) _ ⟨hHeld, (zq1 BK1004), (zq1 BK1005), (zq1 BK996), (zq1 BK997), GW1004.out, GE1004.out, NB0_1004.out, NB1004_0.out, NB1005_1004.out, NB1004_1005.out, NB996_1004.out, NB1004_996.out, NB997_1004.out, NB1004_997.out, GW1005.out, GE1005.out, NB0_1005.out, NB1005_0.out, NB996_1005.out, NB1005_996.out, NB997_1005.out, NB1005_997.out, (z71_3 HI0), (z71_4 HK), (z71_5 HB)⟩)
   ·
    refine box_step ?hg (N := 8) ?hd (cs := #[.int .i64 0, .int .i64 0]) (t := 27) ?hr ?_; (case hd => rfl); (case hg => rfl); (case hr => first | (go_simp; done) | (go_simp; rfl))
    intro gb1005 hg w17 hbox hb
    have n0_ := Aside0.mk (IsS57.below (z71_3 HI0) hb)
    have n1_ := Aside0.mk (zbb BK996 hb)
    have n2_ := Aside0.mk (zbb BK997 hb)
    have n3_ := Aside0.mk (KeepBut.trans (z71_4 HK) (KeepBut.of_below hb g none) (.inl rfl))
    have n4_ := Aside0.mk (below_step (z71_5 HB) hb)
    have BK1005 := Aside0.mk (hbox)
    have GW1005 := Aside0.mk ((by rw [hg]; exact (keep_size (w := w) (g := g) (row := none) (z71_4 HK)) : w.heap.size ≤ gb1005))
    have GE1005 := Aside0.mk ((Nat.le_trans HW0.out (by rw [hg]; exact (keep_size (w := w) (g := g) (row := none) (z71_4 HK)) : w.heap.size ≤ gb1005) : w0.heap.size ≤ gb1005))
    have NB996_1005 := Aside0.mk (zlt BK996 hg)
    have NB1005_996 := Aside0.mk (zgt BK996 hg)
    have NB997_1005 := Aside0.mk (zlt BK997 hg)
    have NB1005_997 := Aside0.mk (zgt BK997 hg)
    have NB0_1005 := Aside0.mk ((by rw [hg]; exact Nat.ne_of_lt (IsS57.lt (show IsS57 w0 _ g s0_0 from (z71_3 HI0))) : g ≠ gb1005))
    have NB1005_0 := Aside0.mk ((by rw [hg]; exact Nat.ne_of_gt (IsS57.lt (show IsS57 w0 _ g s0_0 from (z71_3 HI0))) : gb1005 ≠ g))
    clear HI0 BK996 BK997 HK HB
    have HI0 := n0_; have BK996 := n1_; have BK997 := n2_; have HK := n3_; have HB := n4_
    clear n0_ n1_ n2_ n3_ n4_ hb hbox hg
    refine hK.out _ _ ⟨zc BK996 0, zc BK996 1, zc BK996 2, zc BK996 3⟩ (fun hHeld => ?_)
    clear hK K
    refine norm_ (a' := ?_) ?_ ?_
    rotate_left
    ·
     show Act.put _ (some 8) _ = _
     simp only [Act.put, List.setIfInBounds_toArray, List.set_cons_zero, List.set_cons_succ, i64_w, i32_w]; rfl
    refine one_ (i := 4) (N := some 7) #[true, true, true, true, true, true, false, false] rfl rfl (one_of HT_.out (by kernel_rfl)) (by decide) (fun K hK => ?_)
    refine box_step ?hg (N := 7) ?hd (cs := #[.int .i64 0, .int .i64 0]) (t := 27) ?hr ?_; (case hd => rfl); (case hg => rfl); (case hr => first | (go_simp; done) | (go_simp; rfl))
    intro gb1004 hg w18 hbox hb
    have n0_ := Aside0.mk (IsS57.below (z71_3 HI0) hb)
    have n1_ := Aside0.mk (zbb BK996 hb)
    have n2_ := Aside0.mk (zbb BK997 hb)
    have n3_ := Aside0.mk (zbb BK1005 hb)
    have n4_ := Aside0.mk (KeepBut.trans (z71_4 HK) (KeepBut.of_below hb g none) (.inl rfl))
    have n5_ := Aside0.mk (below_step (z71_5 HB) hb)
    have BK1004 := Aside0.mk (hbox)
    have GW1004 := Aside0.mk ((by rw [hg]; exact (keep_size (w := w) (g := g) (row := none) (z71_4 HK)) : w.heap.size ≤ gb1004))
    have GE1004 := Aside0.mk ((Nat.le_trans HW0.out (by rw [hg]; exact (keep_size (w := w) (g := g) (row := none) (z71_4 HK)) : w.heap.size ≤ gb1004) : w0.heap.size ≤ gb1004))
    have NB996_1004 := Aside0.mk (zlt BK996 hg)
    have NB1004_996 := Aside0.mk (zgt BK996 hg)
    have NB997_1004 := Aside0.mk (zlt BK997 hg)
    have NB1004_997 := Aside0.mk (zgt BK997 hg)
    have NB1005_1004 := Aside0.mk (zlt BK1005 hg)
    have NB1004_1005 := Aside0.mk (zgt BK1005 hg)
    have NB0_1004 := Aside0.mk ((by rw [hg]; exact Nat.ne_of_lt (IsS57.lt (show IsS57 w0 _ g s0_0 from (z71_3 HI0))) : g ≠ gb1004))
    have NB1004_0 := Aside0.mk ((by rw [hg]; exact Nat.ne_of_gt (IsS57.lt (show IsS57 w0 _ g s0_0 from (z71_3 HI0))) : gb1004 ≠ g))
    clear HI0 BK996 BK997 BK1005 HK HB
    have HI0 := n0_; have BK996 := n1_; have BK997 := n2_; have BK1005 := n3_; have HK := n4_; have HB := n5_
    clear n0_ n1_ n2_ n3_ n4_ n5_ hb hbox hg
    refine hK.out _ _ ⟨zc BK996 0, zc BK996 1, zc BK996 2, zc BK996 3⟩ (fun hHeld => ?_)
    clear hK K
    refine norm_ (a' := ?_) ?_ ?_
    rotate_left
    ·
     show Act.put _ (some 7) _ = _
     simp only [Act.put, List.setIfInBounds_toArray, List.set_cons_zero, List.set_cons_succ, i64_w, i32_w]; rfl
    exact norm_ (by simp only [putAll, Act.put, List.setIfInBounds_toArray, List.set_cons_zero, List.set_cons_succ]) (hCont (gb1004, gb1005) _ ⟨hHeld, (zq1 BK1004), (zq1 BK1005), (zq1 BK996), (zq1 BK997), GW1004.out, GE1004.out, NB0_1004.out, NB1004_0.out, NB1005_1004.out, NB1004_1005.out, NB996_1004.out, NB1004_996.out, NB997_1004.out, NB1004_997.out, GW1005.out, GE1005.out, NB0_1005.out, NB1005_0.out, NB996_1005.out, NB1005_996.out, NB997_1005.out, NB1005_997.out, (z71_3 HI0), (z71_4 HK), (z71_5 HB)⟩)
  rintro ⟨gb1004, gb1005⟩ w19 ⟨hS_, h0_, h1_, h2_, h3_, h4_, h5_, h6_, h7_, h8_, h9_, h10_, h11_, h12_, h13_, h14_, h15_, h16_, h17_, h18_, h19_, h20_, h21_, h22_, h23_, h24_⟩
  have BK1004 : Aside0 (w19.heap[gb1004]? = some (.cells #[.int .i64 0, .int .i64 0] 27 (0, 0))) := ⟨h0_⟩
  have BK1005 : Aside0 (w19.heap[gb1005]? = some (.cells #[.int .i64 0, .int .i64 0] 27 (0, 0))) := ⟨h1_⟩
  have GW1004 : Aside0 (w.heap.size ≤ gb1004) := ⟨h4_⟩
  have GE1004 : Aside0 (w0.heap.size ≤ gb1004) := ⟨h5_⟩
  have NB0_1004 : Aside0 (g ≠ gb1004) := ⟨h6_⟩
  have NB1004_0 : Aside0 (gb1004 ≠ g) := ⟨h7_⟩
  have NB1005_1004 : Aside0 (gb1005 ≠ gb1004) := ⟨h8_⟩
  have NB1004_1005 : Aside0 (gb1004 ≠ gb1005) := ⟨h9_⟩
  have NB996_1004 : Aside0 (gb996 ≠ gb1004) := ⟨h10_⟩
  have NB1004_996 : Aside0 (gb1004 ≠ gb996) := ⟨h11_⟩
  have NB997_1004 : Aside0 (gb997 ≠ gb1004) := ⟨h12_⟩
  have NB1004_997 : Aside0 (gb1004 ≠ gb997) := ⟨h13_⟩
  have GW1005 : Aside0 (w.heap.size ≤ gb1005) := ⟨h14_⟩
  have GE1005 : Aside0 (w0.heap.size ≤ gb1005) := ⟨h15_⟩
  have NB0_1005 : Aside0 (g ≠ gb1005) := ⟨h16_⟩
  have NB1005_0 : Aside0 (gb1005 ≠ g) := ⟨h17_⟩
  have NB996_1005 : Aside0 (gb996 ≠ gb1005) := ⟨h18_⟩
  have NB1005_996 : Aside0 (gb1005 ≠ gb996) := ⟨h19_⟩
  have NB997_1005 : Aside0 (gb997 ≠ gb1005) := ⟨h20_⟩
  have NB1005_997 : Aside0 (gb1005 ≠ gb997) := ⟨h21_⟩
  replace BK996 : Aside0 (w19.heap[gb996]? = some (.cells #[.int .i64 a1_0, .int .i64 a1_1, .int .i64 a1_2, .int .i64 a1_3] 29 (0, 0))) := ⟨h2_⟩; replace BK997 : Aside0 (w19.heap[gb997]? = some (.cells #[.int .i64 0, .int .i64 0, .int .i64 0, .int .i64 0] 29 (0, 0))) := ⟨h3_⟩; replace HI0 : Aside0 (IsS57 w0 w19 g s0_0) := ⟨h22_⟩; replace HK : Aside0 (KeepBut w w19 g none) := ⟨h23_⟩; replace HB : Aside0 (Below w0.heap.size w0 w19) := ⟨h24_⟩
  clear h0_ h10_ h11_ h12_ h13_ h14_ h15_ h16_ h17_ h18_ h19_ h1_ h20_ h21_ h22_ h23_ h24_ h2_ h3_ h4_ h5_ h6_ h7_ h8_ h9_
  have hHeld : w19.cell? ⟨gb996, 0, none⟩ = some (.int .i64 a1_0) ∧ w19.cell? ⟨gb996, 1, none⟩ = some (.int .i64 a1_1) ∧ w19.cell? ⟨gb996, 2, none⟩ = some (.int .i64 a1_2) ∧ w19.cell? ⟨gb996, 3, none⟩ = some (.int .i64 a1_3) := hS_
  refine norm_ (a' := ?_) ?_ ?_
  rotate_left
  ·
   simp only [putAll, Act.put, List.setIfInBounds_toArray, List.set_cons_zero, List.set_cons_succ]
   rfl
  refine one_ (i := 6) (N := none) #[true, true, true, true, true, true, true, false] rfl rfl (one_of HT_.out (by kernel_rfl)) (by decide) (fun K hK => ?_)
  have hs20 : w19.cell? ⟨gb1004, 0, none⟩ = some (.int .i64 0) := zc BK1004 0
  have hfs20 := blk_frozen BK1004.out 0
  have hns20_0 := NB996_1004.out
  have hns20_1 := NB997_1004.out
  have hns20_3 := NB1005_1004.out
  have hms20_0 := NB1004_996.out
  have hms20_1 := NB1004_997.out
  have hms20_3 := NB1004_1005.out
  have hs21 : w19.cell? ⟨gb1004, 1, none⟩ = some (.int .i64 0) := zc BK1004 1
  have hfs21 := blk_frozen BK1004.out 1
  have hns21_0 := NB996_1004.out
  have hns21_1 := NB997_1004.out
  have hns21_3 := NB1005_1004.out
  have hms21_0 := NB1004_996.out
  have hms21_1 := NB1004_997.out
  have hms21_3 := NB1004_1005.out
  refine skip_ (w1 := ?_) (by rfl) rfl ?_ ?_
  rotate_left
  ·
   go_simp
   rfl
  refine hK.out _ _ ⟨((cell_far (p := ⟨gb1004, _, none⟩) NB996_1004.out _).trans (((cell_far (p := ⟨gb1004, _, none⟩) NB996_1004.out _).trans (hHeld.1)))), ((cell_far (p := ⟨gb1004, _, none⟩) NB996_1004.out _).trans (((cell_far (p := ⟨gb1004, _, none⟩) NB996_1004.out _).trans (hHeld.2.1)))), ((cell_far (p := ⟨gb1004, _, none⟩) NB996_1004.out _).trans (((cell_far (p := ⟨gb1004, _, none⟩) NB996_1004.out _).trans (hHeld.2.2.1)))), ((cell_far (p := ⟨gb1004, _, none⟩) NB996_1004.out _).trans (((cell_far (p := ⟨gb1004, _, none⟩) NB996_1004.out _).trans (hHeld.2.2.2))))⟩ (fun hHeld => ?_)
  clear hK K
  refine one_ (i := 7) (N := none) #[true, true, true, true, true, true, true, true] rfl rfl (one_of HT_.out (by kernel_rfl)) (by decide) (fun K hK => ?_)
  have hs22 : w19.cell? ⟨gb1005, 0, none⟩ = some (.int .i64 0) := zc BK1005 0
  have hfs22 := blk_frozen BK1005.out 0
  have hns22_0 := NB996_1005.out
  have hns22_1 := NB997_1005.out
  have hns22_2 := NB1004_1005.out
  have hms22_0 := NB1005_996.out
  have hms22_1 := NB1005_997.out
  have hms22_2 := NB1005_1004.out
  have hs23 : w19.cell? ⟨gb1005, 1, none⟩ = some (.int .i64 0) := zc BK1005 1
  have hfs23 := blk_frozen BK1005.out 1
  have hns23_0 := NB996_1005.out
  have hns23_1 := NB997_1005.out
  have hns23_2 := NB1004_1005.out
  have hms23_0 := NB1005_996.out
  have hms23_1 := NB1005_997.out
  have hms23_2 := NB1005_1004.out
  refine skip_ (w1 := ?_) (by rfl) rfl ?_ ?_
  rotate_left
  ·
   go_simp
   rfl
  refine hK.out _ _ ⟨((cell_far (p := ⟨gb1005, _, none⟩) NB996_1005.out _).trans (((cell_far (p := ⟨gb1005, _, none⟩) NB996_1005.out _).trans (hHeld.1)))), ((cell_far (p := ⟨gb1005, _, none⟩) NB996_1005.out _).trans (((cell_far (p := ⟨gb1005, _, none⟩) NB996_1005.out _).trans (hHeld.2.1)))), ((cell_far (p := ⟨gb1005, _, none⟩) NB996_1005.out _).trans (((cell_far (p := ⟨gb1005, _, none⟩) NB996_1005.out _).trans (hHeld.2.2.1)))), ((cell_far (p := ⟨gb1005, _, none⟩) NB996_1005.out _).trans (((cell_far (p := ⟨gb1005, _, none⟩) NB996_1005.out _).trans (hHeld.2.2.2))))⟩ (fun hHeld => ?_)
  clear hK K
  refine done_ (done_of HT_.out (by kernel_rfl)) ?_
  try go_wp2
  go_loopg [19] k (fun kq v19 w' => ∃ (x19_1 : Int) (x1000_1 : Bool) (x1005000_1 : Int) (x1005001_1 : Int) (x1006000_1 : Int) (x1006001_1 : Int), v19 = .int .i64 x19_1 ∧ Aside0 (impl_reckoner_power.l0 kq a2 (wrap64 (a2 - 1)) x19_1 x1000_1 a1_0 a1_1 a1_2 a1_3 x1005000_1 x1005001_1 x1006000_1 x1006001_1 = some (r1, r2, r3, r4, r5)) ∧ Aside0 (kq ≤ k) ∧ Aside0 (w'.heap[gb996]? = some (.cells #[.int .i64 a1_0, .int .i64 a1_1, .int .i64 a1_2, .int .i64 a1_3] 29 (0, 0))) ∧ Aside0 (w'.heap[gb997]? = some (.cells #[.int .i64 0, .int .i64 0, .int .i64 0, .int .i64 0] 29 (0, 0))) ∧ Aside0 (w'.heap[gb1004]? = some (.cells #[.int .i64 x1005000_1, .int .i64 x1005001_1] 27 (0, 0))) ∧ Aside0 (w'.heap[gb1005]? = some (.cells #[.int .i64 x1006000_1, .int .i64 x1006001_1] 27 (0, 0))) ∧ Aside0 (IsS57 w0 w' g x1000_1) ∧ Aside0 (KeepBut w w' g none) ∧ Aside0 (Below w0.heap.size w0 w'))
  case atStart => exact ⟨(0), (s0_0), (a1_0), (a1_1), (a1_2), (a1_3), (by first | rfl | (simp; done) | (simp [*]; done)), H', ⟨Nat.le_refl _⟩, ⟨zq5 BK996⟩, ⟨zq5 BK997⟩, ⟨by (with_reducible repeat (first | refine blk_drewN ?_ _ | refine blk_drew ?_ | refine blk_alloc ?_ _)); refine blk_far ?_ NB1004_1005.out _; (with_reducible repeat (first | refine blk_drewN ?_ _ | refine blk_drew ?_ | refine blk_alloc ?_ _)); refine blk_far ?_ NB1004_1005.out _; (with_reducible repeat (first | refine blk_drewN ?_ _ | refine blk_drew ?_ | refine blk_alloc ?_ _)); refine blk_put (cs := #[.int .i64 a1_0, .int .i64 0]) ?_ 1 _ rfl; (with_reducible repeat (first | refine blk_drewN ?_ _ | refine blk_drew ?_ | refine blk_alloc ?_ _)); refine blk_put (cs := #[.int .i64 0, .int .i64 0]) ?_ 0 _ rfl; (with_reducible repeat (first | refine blk_drewN ?_ _ | refine blk_drew ?_ | refine blk_alloc ?_ _)); exact BK1004.out⟩, ⟨by (with_reducible repeat (first | refine blk_drewN ?_ _ | refine blk_drew ?_ | refine blk_alloc ?_ _)); refine blk_put (cs := #[.int .i64 a1_2, .int .i64 0]) ?_ 1 _ rfl; (with_reducible repeat (first | refine blk_drewN ?_ _ | refine blk_drew ?_ | refine blk_alloc ?_ _)); refine blk_put (cs := #[.int .i64 0, .int .i64 0]) ?_ 0 _ rfl; (with_reducible repeat (first | refine blk_drewN ?_ _ | refine blk_drew ?_ | refine blk_alloc ?_ _)); refine blk_far ?_ NB1005_1004.out _; (with_reducible repeat (first | refine blk_drewN ?_ _ | refine blk_drew ?_ | refine blk_alloc ?_ _)); refine blk_far ?_ NB1005_1004.out _; (with_reducible repeat (first | refine blk_drewN ?_ _ | refine blk_drew ?_ | refine blk_alloc ?_ _)); exact BK1005.out⟩, ⟨(z71_3 HI0)⟩, ⟨(z71_4 HK)⟩, ⟨(z71_5 HB)⟩⟩
  case round =>
   clear H'
   try clear c1
   try clear p2
   try clear c4
   try clear c4b0
   try clear c4b1
   try clear p6
   try clear c7
   try clear c9
   try clear c11
   try clear c12
   try clear hcz13_0
   try clear hcz13_1
   try clear hcz13_2
   try clear hcz13_3
   try clear hfz13_0
   try clear hfz13_1
   try clear hfz13_2
   try clear hfz13_3
   obtain ⟨x19_1, x1000_1, x1005000_1, x1005001_1, x1006000_1, x1006001_1, rfl, HA, HK1, BK996, BK997, BK1004, BK1005, HI0, HK, HB⟩ := hrel
   cases gk with
   | zero => exact absurd HA.out (by simp [impl_reckoner_power.l0])
   | succ k1 =>
    have H := HA.out
    clear HA
    simp only [impl_reckoner_power.l0] at H
    by_cases c24 : x19_1 < (wrap64 (a2 - 1))
    ·
     rw [if_pos c24] at H
     have c24b0 : decide (x19_1 < (wrap64 (a2 - 1))) = true := decide_eq_true c24
     clear c24
     replace H := Option.bind_eq_some_iff.mp H
     obtain ⟨⟨t1006, t1007, t1008⟩, A250, H⟩ := H
     replace H : ((impl_reckoner_product.f k1 t1008 x1006000_1 x1006001_1 a1_2 a1_3).bind fun bt1009 => (impl_reckoner_power.l0 k1 a2 (wrap64 (a2 - 1)) (wrap64 (x19_1 + 1)) bt1009.2.2 a1_0 a1_1 a1_2 a1_3 t1006 t1007 bt1009.1 bt1009.2.1)) = some (r1, r2, r3, r4, r5) := H
     have A25 := Aside0.mk A250
     clear A250
     replace H := Option.bind_eq_some_iff.mp H
     obtain ⟨⟨t1009, t1010, t1011⟩, A260, H⟩ := H
     replace H : (impl_reckoner_power.l0 k1 a2 (wrap64 (a2 - 1)) (wrap64 (x19_1 + 1)) t1011 a1_0 a1_1 a1_2 a1_3 t1006 t1007 t1009 t1010) = some (r1, r2, r3, r4, r5) := H
     have A26 := Aside0.mk A260
     clear A260
     have H' := Aside0.mk H
     clear H
     try go_wp2
     replace BK996 := Aside0.mk (blk_drew BK996.out); replace BK997 := Aside0.mk (blk_drew BK997.out); replace BK1004 := Aside0.mk (blk_drew BK1004.out); replace BK1005 := Aside0.mk (blk_drew BK1005.out); replace HI0 := Aside0.mk (IsS57.drew HI0.out); replace HK := Aside0.mk (keep_drew HK.out); replace HB := Aside0.mk (below_drew1 HB.out)
     refine start_ (n := 12) (S := fun w' => w'.cell? ⟨gb1004, 0, none⟩ = some (.int .i64 x1005000_1) ∧ w'.cell? ⟨gb1004, 1, none⟩ = some (.int .i64 x1005001_1) ∧ w'.cell? ⟨gb996, 0, none⟩ = some (.int .i64 a1_0) ∧ w'.cell? ⟨gb996, 1, none⟩ = some (.int .i64 a1_1) ∧ w'.cell? ⟨gb996, 2, none⟩ = some (.int .i64 a1_2) ∧ w'.cell? ⟨gb996, 3, none⟩ = some (.int .i64 a1_3) ∧ w'.cell? ⟨gb1005, 0, none⟩ = some (.int .i64 x1006000_1) ∧ w'.cell? ⟨gb1005, 1, none⟩ = some (.int .i64 x1006001_1)) (ds := [10, 11]) #[false, false, false, false, false, false, false, false, false, false, false, false] (by kernel_rfl) rfl rfl ⟨zc BK1004 0, zc BK1004 1, zc BK996 0, zc BK996 1, zc BK996 2, zc BK996 3, zc BK1005 0, zc BK1005 1⟩ (fun hHeld => ?_); refine with_tabW impl_reckoner_power.tab6 impl_reckoner_power.bits6 (fun HT_ HW_ => ?_)
     generalize wr.drew = w27 at BK996 BK997 BK1004 BK1005 HI0 HK HB hHeld ⊢
     refine zp (i := 0) (N := some 21) #[true, false, false, false, false, false, false, false, false, false, false, false] (any_of HT_.out (by kernel_rfl)) ?_
     refine zp (i := 2) (N := some 23) #[true, false, true, false, false, false, false, false, false, false, false, false] (any_of HT_.out (by kernel_rfl)) ?_
     refine zp (i := 5) (N := some 26) #[true, false, true, false, false, true, false, false, false, false, false, false] (any_of HT_.out (by kernel_rfl)) ?_
     refine zp (i := 7) (N := some 28) #[true, false, true, false, false, true, false, true, false, false, false, false] (any_of HT_.out (by kernel_rfl)) ?_
     refine take_ (i := 1) (N := some 22) (v := ?_) (a' := ?_) #[true, true, true, false, false, true, false, true, false, false, false, false] rfl rfl (take_ofW HT_.out HW_.out (by kernel_rfl)) (fun _ _ _ h => h) (Or.inl ⟨by rfl, ?_⟩) hHeld ?_ ?_
     rotate_left
     ·
      rintro w' ⟨s0, s1, s2, s3, s4, s5, s6, s7⟩
      go_simp
      with_reducible rfl
     rotate_left
     ·
      simp only [Act.put, List.setIfInBounds_toArray, List.set_cons_zero, List.set_cons_succ, i64_w, i32_w]
      rfl
     refine take_ (i := 3) (N := some 24) (v := ?_) (a' := ?_) #[true, true, true, true, false, true, false, true, false, false, false, false] rfl rfl (take_ofW HT_.out HW_.out (by kernel_rfl)) (fun _ _ _ h => h) (Or.inl ⟨by rfl, ?_⟩) hHeld ?_ ?_
     rotate_left
     ·
      rintro w' ⟨s0, s1, s2, s3, s4, s5, s6, s7⟩
      go_simp
      with_reducible rfl
     rotate_left
     ·
      simp only [Act.put, List.setIfInBounds_toArray, List.set_cons_zero, List.set_cons_succ, i64_w, i32_w]
      rfl
     refine take_ (i := 6) (N := some 27) (v := ?_) (a' := ?_) #[true, true, true, true, false, true, true, true, false, false, false, false] rfl rfl (take_ofW HT_.out HW_.out (by kernel_rfl)) (fun _ _ _ h => h) (Or.inl ⟨by rfl, ?_⟩) hHeld ?_ ?_
     rotate_left
     ·
      rintro w' ⟨s0, s1, s2, s3, s4, s5, s6, s7⟩
      go_simp
      with_reducible rfl
     rotate_left
     ·
      simp only [Act.put, List.setIfInBounds_toArray, List.set_cons_zero, List.set_cons_succ, i64_w, i32_w]
      rfl
     refine take_ (i := 8) (N := some 29) (v := ?_) (a' := ?_) #[true, true, true, true, false, true, true, true, true, false, false, false] rfl rfl (take_ofW HT_.out HW_.out (by kernel_rfl)) (fun _ _ _ h => h) (Or.inl ⟨by rfl, ?_⟩) hHeld ?_ ?_
     rotate_left
     ·
      rintro w' ⟨s0, s1, s2, s3, s4, s5, s6, s7⟩
      go_simp
      with_reducible rfl
     rotate_left
     ·
      simp only [Act.put, List.setIfInBounds_toArray, List.set_cons_zero, List.set_cons_succ, i64_w, i32_w]
      rfl
     refine one_ (i := 4) (N := some 25) #[true, true, true, true, true, true, true, true, true, false, false, false] rfl rfl (one_of HT_.out (by kernel_rfl)) (by decide) (fun K hK => ?_)
     refine goes_ Try.func94 (by kernel_rfl) rfl #[.pointer (some ⟨g, 0, none⟩), .agg #[.int .i64 x1005000_1, .int .i64 x1005001_1], .agg #[.int .i64 a1_0, .int .i64 a1_1]] (by rfl) rfl rfl zq6 ?_
     with_reducible refine (impl_reckoner_product.calls k1 g x1000_1 x1005000_1 x1005001_1 a1_0 a1_1 t1006 t1007 t1008 w0 _ ?side1 ?side2 A25.out).mono ?_
     (case side1 => exact z71_3 HI0)
     (case side2 => exact z71_5 HB)
     rintro e w28 ⟨rfl, hi, hb, hk⟩
     refine ⟨_, rfl, ?_⟩
     replace BK996 := Aside0.mk (KeepBut.blk hk (zq1 BK996) NB996_0.out (by simp)); replace BK997 := Aside0.mk (KeepBut.blk hk (zq1 BK997) NB997_0.out (by simp)); replace BK1004 := Aside0.mk (KeepBut.blk hk (zq1 BK1004) NB1004_0.out (by simp)); replace BK1005 := Aside0.mk (KeepBut.blk hk (zq1 BK1005) NB1005_0.out (by simp)); replace HK := Aside0.mk (KeepBut.trans (z71_4 HK) hk (.inl rfl)); replace HB := Aside0.mk (hb); replace HI0 := Aside0.mk (hi)
     (try clear hb)
     (try clear hb2)
     (try clear hk)
     (try clear hi)
     refine hK.out _ _ ⟨zc BK1004 0, zc BK1004 1, zc BK996 0, zc BK996 1, zc BK996 2, zc BK996 3, zc BK1005 0, zc BK1005 1⟩ (fun hHeld => ?_)
     clear hK K
     refine norm_ (a' := ?_) ?_ ?_
     rotate_left
     ·
      show Act.put _ (some 25) _ = _
      simp only [Act.put, List.setIfInBounds_toArray, List.set_cons_zero, List.set_cons_succ, i64_w, i32_w]; rfl
     refine one_ (i := 9) (N := some 30) #[true, true, true, true, true, true, true, true, true, true, false, false] rfl rfl (one_of HT_.out (by kernel_rfl)) (by decide) (fun K hK => ?_)
     refine goes_ Try.func94 (by kernel_rfl) rfl #[.pointer (some ⟨g, 0, none⟩), .agg #[.int .i64 x1006000_1, .int .i64 x1006001_1], .agg #[.int .i64 a1_2, .int .i64 a1_3]] (by rfl) rfl rfl zq6 ?_
     with_reducible refine (impl_reckoner_product.calls k1 g t1008 x1006000_1 x1006001_1 a1_2 a1_3 t1009 t1010 t1011 w0 _ ?side1 ?side2 A26.out).mono ?_
     (case side1 => exact z71_3 HI0)
     (case side2 => exact z71_5 HB)
     rintro e w29 ⟨rfl, hi, hb, hk⟩
     refine ⟨_, rfl, ?_⟩
     replace BK996 := Aside0.mk (KeepBut.blk hk (zq1 BK996) NB996_0.out (by simp)); replace BK997 := Aside0.mk (KeepBut.blk hk (zq1 BK997) NB997_0.out (by simp)); replace BK1004 := Aside0.mk (KeepBut.blk hk (zq1 BK1004) NB1004_0.out (by simp)); replace BK1005 := Aside0.mk (KeepBut.blk hk (zq1 BK1005) NB1005_0.out (by simp)); replace HK := Aside0.mk (KeepBut.trans (z71_4 HK) hk (.inl rfl)); replace HB := Aside0.mk (hb); replace HI0 := Aside0.mk (hi)
     (try clear hb)
     (try clear hb2)
     (try clear hk)
     (try clear hi)
     refine hK.out _ _ ⟨zc BK1004 0, zc BK1004 1, zc BK996 0, zc BK996 1, zc BK996 2, zc BK996 3, zc BK1005 0, zc BK1005 1⟩ (fun hHeld => ?_)
     clear hK K
     refine norm_ (a' := ?_) ?_ ?_
     rotate_left
     ·
      show Act.put _ (some 30) _ = _
      simp only [Act.put, List.setIfInBounds_toArray, List.set_cons_zero, List.set_cons_succ, i64_w, i32_w]; rfl
     refine last_ (i := 10) (N := none) #[true, true, true, true, true, true, true, true, true, true, true, false] rfl rfl (one_of HT_.out (by kernel_rfl)) (by decide) (fun K hK => ?_)
     have hs30 : w29.cell? ⟨gb1004, 0, none⟩ = some (.int .i64 x1005000_1) := zc BK1004 0
     have hfs30 := blk_frozen BK1004.out 0
     have hns30_0 := NB996_1004.out
     have hns30_1 := NB997_1004.out
     have hns30_3 := NB1005_1004.out
     have hms30_0 := NB1004_996.out
     have hms30_1 := NB1004_997.out
     have hms30_3 := NB1004_1005.out
     have hs31 : w29.cell? ⟨gb1004, 1, none⟩ = some (.int .i64 x1005001_1) := zc BK1004 1
     have hfs31 := blk_frozen BK1004.out 1
     have hns31_0 := NB996_1004.out
     have hns31_1 := NB997_1004.out
     have hns31_3 := NB1005_1004.out
     have hms31_0 := NB1004_996.out
     have hms31_1 := NB1004_997.out
     have hms31_3 := NB1004_1005.out
     refine skip_ (w1 := ?_) (by rfl) rfl ?_ ?_
     rotate_left
     ·
      go_simp
      rfl
     refine hK.out _ _ ?_
     clear hK K
     refine last_ (i := 11) (N := none) #[true, true, true, true, true, true, true, true, true, true, true, true] rfl rfl (one_of HT_.out (by kernel_rfl)) (by decide) (fun K hK => ?_)
     have hs32 : w29.cell? ⟨gb1005, 0, none⟩ = some (.int .i64 x1006000_1) := zc BK1005 0
     have hfs32 := blk_frozen BK1005.out 0
     have hns32_0 := NB996_1005.out
     have hns32_1 := NB997_1005.out
     have hns32_2 := NB1004_1005.out
     have hms32_0 := NB1005_996.out
     have hms32_1 := NB1005_997.out
     have hms32_2 := NB1005_1004.out
     have hs33 : w29.cell? ⟨gb1005, 1, none⟩ = some (.int .i64 x1006001_1) := zc BK1005 1
     have hfs33 := blk_frozen BK1005.out 1
     have hns33_0 := NB996_1005.out
     have hns33_1 := NB997_1005.out
     have hns33_2 := NB1004_1005.out
     have hms33_0 := NB1005_996.out
     have hms33_1 := NB1005_997.out
     have hms33_2 := NB1005_1004.out
     refine skip_ (w1 := ?_) (by rfl) rfl ?_ ?_
     rotate_left
     ·
      go_simp
      rfl
     refine hK.out _ _ ?_
     clear hK K
     refine done_ (done_of HT_.out (by kernel_rfl)) ?_
     try go_wp2
     go_roundg k1
     case measure => have := HK1.out; omega
     case rel => exact ⟨(wrap64 (x19_1 + 1)), (t1011), (t1006), (t1007), (t1009), (t1010), (by first | rfl | (simp; done) | (simp [*]; done)), H', ⟨by have := HK1.out; omega⟩, ⟨zq5 BK996⟩, ⟨zq5 BK997⟩, ⟨by (with_reducible repeat (first | refine blk_drewN ?_ _ | refine blk_drew ?_ | refine blk_alloc ?_ _)); refine blk_far ?_ NB1004_1005.out _; (with_reducible repeat (first | refine blk_drewN ?_ _ | refine blk_drew ?_ | refine blk_alloc ?_ _)); refine blk_far ?_ NB1004_1005.out _; (with_reducible repeat (first | refine blk_drewN ?_ _ | refine blk_drew ?_ | refine blk_alloc ?_ _)); refine blk_put (cs := #[.int .i64 t1006, .int .i64 x1005001_1]) ?_ 1 _ rfl; (with_reducible repeat (first | refine blk_drewN ?_ _ | refine blk_drew ?_ | refine blk_alloc ?_ _)); refine blk_put (cs := #[.int .i64 x1005000_1, .int .i64 x1005001_1]) ?_ 0 _ rfl; (with_reducible repeat (first | refine blk_drewN ?_ _ | refine blk_drew ?_ | refine blk_alloc ?_ _)); exact BK1004.out⟩, ⟨by (with_reducible repeat (first | refine blk_drewN ?_ _ | refine blk_drew ?_ | refine blk_alloc ?_ _)); refine blk_put (cs := #[.int .i64 t1009, .int .i64 x1006001_1]) ?_ 1 _ rfl; (with_reducible repeat (first | refine blk_drewN ?_ _ | refine blk_drew ?_ | refine blk_alloc ?_ _)); refine blk_put (cs := #[.int .i64 x1006000_1, .int .i64 x1006001_1]) ?_ 0 _ rfl; (with_reducible repeat (first | refine blk_drewN ?_ _ | refine blk_drew ?_ | refine blk_alloc ?_ _)); refine blk_far ?_ NB1005_1004.out _; (with_reducible repeat (first | refine blk_drewN ?_ _ | refine blk_drew ?_ | refine blk_alloc ?_ _)); refine blk_far ?_ NB1005_1004.out _; (with_reducible repeat (first | refine blk_drewN ?_ _ | refine blk_drew ?_ | refine blk_alloc ?_ _)); exact BK1005.out⟩, ⟨(z71_3 HI0)⟩, ⟨(z71_4 HK)⟩, ⟨(z71_5 HB)⟩⟩
    ·
     rw [if_neg c24] at H
     have c24b0 : decide (x19_1 < (wrap64 (a2 - 1))) = false := decide_eq_false c24
     clear c24
     by_cases c34 : (Int.tmod a2 2) = 0
     ·
      rw [if_pos c34] at H
      have c34b0 : ((Int.tmod a2 2) == 0) = true := beq_iff_eq.mpr c34
      have c34b1 : ((Int.tmod a2 2) != 0) = false := bne_eq_false_iff_eq.mpr c34
      clear c34
      replace H := Option.bind_eq_some_iff.mp H
      obtain ⟨⟨t1012, t1013⟩, A350, H⟩ := H
      replace H : ((impl_greater.f k1 x1005000_1 x1005001_1 x1006000_1 x1006001_1).bind fun bt1014 => ((impl_signOf.f a1_0 a1_1 a1_2 a1_3).bind fun t1016 => (if t1016 = 0 then ((impl_integer.f 0).bind fun bt1017 => ((impl_roundOut.f k1 bt1017.1 bt1017.2 bt1014.1 bt1014.2 16).bind fun bt1019 => (some (bt1019.1, bt1019.2.1, bt1019.2.2.1, bt1019.2.2.2, x1000_1)))) else ((impl_roundOut.f k1 t1012 t1013 bt1014.1 bt1014.2 16).bind fun bt1023 => (some (bt1023.1, bt1023.2.1, bt1023.2.2.1, bt1023.2.2.2, x1000_1)))))) = some (r1, r2, r3, r4, r5) := H
      have A35 := Aside0.mk A350
      clear A350
      replace H := Option.bind_eq_some_iff.mp H
      obtain ⟨⟨t1014, t1015⟩, A360, H⟩ := H
      replace H : ((impl_signOf.f a1_0 a1_1 a1_2 a1_3).bind fun t1016 => (if t1016 = 0 then ((impl_integer.f 0).bind fun bt1017 => ((impl_roundOut.f k1 bt1017.1 bt1017.2 t1014 t1015 16).bind fun bt1019 => (some (bt1019.1, bt1019.2.1, bt1019.2.2.1, bt1019.2.2.2, x1000_1)))) else ((impl_roundOut.f k1 t1012 t1013 t1014 t1015 16).bind fun bt1023 => (some (bt1023.1, bt1023.2.1, bt1023.2.2.1, bt1023.2.2.2, x1000_1))))) = some (r1, r2, r3, r4, r5) := H
      have A36 := Aside0.mk A360
      clear A360
      replace H := Option.bind_eq_some_iff.mp H
      obtain ⟨t1016, A370, H⟩ := H
      replace H : (if t1016 = 0 then ((impl_integer.f 0).bind fun bt1017 => ((impl_roundOut.f k1 bt1017.1 bt1017.2 t1014 t1015 16).bind fun bt1019 => (some (bt1019.1, bt1019.2.1, bt1019.2.2.1, bt1019.2.2.2, x1000_1)))) else ((impl_roundOut.f k1 t1012 t1013 t1014 t1015 16).bind fun bt1023 => (some (bt1023.1, bt1023.2.1, bt1023.2.2.1, bt1023.2.2.2, x1000_1)))) = some (r1, r2, r3, r4, r5) := H
      have A37 := Aside0.mk A370
      clear A370
      by_cases c38 : t1016 = 0
      ·
       rw [if_pos c38] at H
       have c38b0 : (t1016 == 0) = true := beq_iff_eq.mpr c38
       have c38b1 : (t1016 != 0) = false := bne_eq_false_iff_eq.mpr c38
       clear c38
       replace H := Option.bind_eq_some_iff.mp H
       obtain ⟨⟨t1017, t1018⟩, A390, H⟩ := H
       replace H : ((impl_roundOut.f k1 t1017 t1018 t1014 t1015 16).bind fun bt1019 => (some (bt1019.1, bt1019.2.1, bt1019.2.2.1, bt1019.2.2.2, x1000_1))) = some (r1, r2, r3, r4, r5) := H
       have A39 := Aside0.mk A390
       clear A390
       replace H := Option.bind_eq_some_iff.mp H
       obtain ⟨⟨t1019, t1020, t1021, t1022⟩, A400, H⟩ := H
       replace H : (some (t1019, t1020, t1021, t1022, x1000_1)) = some (r1, r2, r3, r4, r5) := H
       have A40 := Aside0.mk A400
       clear A400
       simp only [Option.some.injEq, Prod.mk.injEq] at H
       obtain ⟨rfl, rfl, rfl, rfl, rfl⟩ := H
       try go_wp2
       replace BK996 := Aside0.mk (blk_drew BK996.out); replace BK997 := Aside0.mk (blk_drew BK997.out); replace BK1004 := Aside0.mk (blk_drew BK1004.out); replace BK1005 := Aside0.mk (blk_drew BK1005.out); replace HI0 := Aside0.mk (IsS57.drew HI0.out); replace HK := Aside0.mk (keep_drew HK.out); replace HB := Aside0.mk (below_drew1 HB.out)
       refine start_ (n := 8) (S := fun w' => w'.cell? ⟨gb1004, 0, none⟩ = some (.int .i64 x1005000_1) ∧ w'.cell? ⟨gb1004, 1, none⟩ = some (.int .i64 x1005001_1) ∧ w'.cell? ⟨gb1005, 0, none⟩ = some (.int .i64 x1006000_1) ∧ w'.cell? ⟨gb1005, 1, none⟩ = some (.int .i64 x1006001_1)) (ds := [6, 7]) #[false, false, false, false, false, false, false, false] (by kernel_rfl) rfl rfl ⟨zc BK1004 0, zc BK1004 1, zc BK1005 0, zc BK1005 1⟩ (fun hHeld => ?_); refine with_tabW impl_reckoner_power.tab9 impl_reckoner_power.bits9 (fun HT_ HW_ => ?_)
       generalize wr.drew = w41 at BK996 BK997 BK1004 BK1005 HI0 HK HB hHeld ⊢
       refine take_ (i := 0) (N := some 35) (v := ?_) (a' := ?_) #[true, false, false, false, false, false, false, false] rfl rfl (take_ofW HT_.out HW_.out (by kernel_rfl)) (fun _ _ _ h => h) (Or.inl ⟨by rfl, ?_⟩) hHeld ?_ ?_
       rotate_left
       ·
        rintro w' ⟨s0, s1, s2, s3⟩
        go_simp
        with_reducible rfl
       rotate_left
       ·
        simp only [Act.put, List.setIfInBounds_toArray, List.set_cons_zero, List.set_cons_succ, i64_w, i32_w]
        rfl
       refine take_ (i := 1) (N := some 36) (v := ?_) (a' := ?_) #[true, true, false, false, false, false, false, false] rfl rfl (take_ofW HT_.out HW_.out (by kernel_rfl)) (fun _ _ _ h => h) (Or.inl ⟨by rfl, ?_⟩) hHeld ?_ ?_
       rotate_left
       ·
        rintro w' ⟨s0, s1, s2, s3⟩
        go_simp
        with_reducible rfl
       rotate_left
       ·
        simp only [Act.put, List.setIfInBounds_toArray, List.set_cons_zero, List.set_cons_succ, i64_w, i32_w]
        rfl
       refine take_ (i := 3) (N := some 38) (v := ?_) (a' := ?_) #[true, true, false, true, false, false, false, false] rfl rfl (take_ofW HT_.out HW_.out (by kernel_rfl)) (fun _ _ _ h => h) (Or.inl ⟨by rfl, ?_⟩) hHeld ?_ ?_
       rotate_left
       ·
        rintro w' ⟨s0, s1, s2, s3⟩
        go_simp
        with_reducible rfl
       rotate_left
       ·
        simp only [Act.put, List.setIfInBounds_toArray, List.set_cons_zero, List.set_cons_succ, i64_w, i32_w]
        rfl
       refine take_ (i := 4) (N := some 39) (v := ?_) (a' := ?_) #[true, true, false, true, true, false, false, false] rfl rfl (take_ofW HT_.out HW_.out (by kernel_rfl)) (fun _ _ _ h => h) (Or.inl ⟨by rfl, ?_⟩) hHeld ?_ ?_
       rotate_left
       ·
        rintro w' ⟨s0, s1, s2, s3⟩
        go_simp
        with_reducible rfl
       rotate_left
       ·
        simp only [Act.put, List.setIfInBounds_toArray, List.set_cons_zero, List.set_cons_succ, i64_w, i32_w]
        rfl
       refine one_ (i := 2) (N := some 37) #[true, true, true, true, true, false, false, false] rfl rfl (one_of HT_.out (by kernel_rfl)) (by decide) (fun K hK => ?_)
       refine goes_ Try.func51 (by kernel_rfl) rfl #[.agg #[.int .i64 x1005000_1, .int .i64 x1005001_1], .agg #[.int .i64 x1006000_1, .int .i64 x1006001_1]] (by rfl) rfl rfl zq6 ?_
       with_reducible refine (impl_lesser.calls k1 x1005000_1 x1005001_1 x1006000_1 x1006001_1 t1012 t1013 _ A35.out).mono ?_
       rintro e w42 ⟨rfl, hb⟩
       refine ⟨_, rfl, ?_⟩
       replace BK996 := Aside0.mk (zbb BK996 hb); replace BK997 := Aside0.mk (zbb BK997 hb); replace BK1004 := Aside0.mk (zbb BK1004 hb); replace BK1005 := Aside0.mk (zbb BK1005 hb); replace HI0 := Aside0.mk (IsS57.below (z71_3 HI0) hb); replace HK := Aside0.mk (KeepBut.trans (z71_4 HK) (KeepBut.of_below hb g none) (.inl rfl)); replace HB := Aside0.mk (below_step (z71_5 HB) hb)
       (try clear hb)
       (try clear hb2)
       (try clear hk)
       (try clear hi)
       refine hK.out _ _ ⟨zc BK1004 0, zc BK1004 1, zc BK1005 0, zc BK1005 1⟩ (fun hHeld => ?_)
       clear hK K
       refine norm_ (a' := ?_) ?_ ?_
       rotate_left
       ·
        show Act.put _ (some 37) _ = _
        simp only [Act.put, List.setIfInBounds_toArray, List.set_cons_zero, List.set_cons_succ, i64_w, i32_w]; rfl
       refine one_ (i := 5) (N := some 40) #[true, true, true, true, true, true, false, false] rfl rfl (one_of HT_.out (by kernel_rfl)) (by decide) (fun K hK => ?_)
       refine goes_ Try.func52 (by kernel_rfl) rfl #[.agg #[.int .i64 x1005000_1, .int .i64 x1005001_1], .agg #[.int .i64 x1006000_1, .int .i64 x1006001_1]] (by rfl) rfl rfl zq6 ?_
       with_reducible refine (impl_greater.calls k1 x1005000_1 x1005001_1 x1006000_1 x1006001_1 t1014 t1015 _ A36.out).mono ?_
       rintro e w43 ⟨rfl, hb⟩
       refine ⟨_, rfl, ?_⟩
       replace BK996 := Aside0.mk (zbb BK996 hb); replace BK997 := Aside0.mk (zbb BK997 hb); replace BK1004 := Aside0.mk (zbb BK1004 hb); replace BK1005 := Aside0.mk (zbb BK1005 hb); replace HI0 := Aside0.mk (IsS57.below (z71_3 HI0) hb); replace HK := Aside0.mk (KeepBut.trans (z71_4 HK) (KeepBut.of_below hb g none) (.inl rfl)); replace HB := Aside0.mk (below_step (z71_5 HB) hb)
       (try clear hb)
       (try clear hb2)
       (try clear hk)
       (try clear hi)
       refine hK.out _ _ ⟨zc BK1004 0, zc BK1004 1, zc BK1005 0, zc BK1005 1⟩ (fun hHeld => ?_)
       clear hK K
       refine norm_ (a' := ?_) ?_ ?_
       rotate_left
       ·
        show Act.put _ (some 40) _ = _
        simp only [Act.put, List.setIfInBounds_toArray, List.set_cons_zero, List.set_cons_succ, i64_w, i32_w]; rfl
       refine last_ (i := 6) (N := none) #[true, true, true, true, true, true, true, false] rfl rfl (one_of HT_.out (by kernel_rfl)) (by decide) (fun K hK => ?_)
       have hs44 : w43.cell? ⟨gb1004, 0, none⟩ = some (.int .i64 x1005000_1) := zc BK1004 0
       have hfs44 := blk_frozen BK1004.out 0
       have hns44_0 := NB996_1004.out
       have hns44_1 := NB997_1004.out
       have hns44_3 := NB1005_1004.out
       have hms44_0 := NB1004_996.out
       have hms44_1 := NB1004_997.out
       have hms44_3 := NB1004_1005.out
       have hs45 : w43.cell? ⟨gb1004, 1, none⟩ = some (.int .i64 x1005001_1) := zc BK1004 1
       have hfs45 := blk_frozen BK1004.out 1
       have hns45_0 := NB996_1004.out
       have hns45_1 := NB997_1004.out
       have hns45_3 := NB1005_1004.out
       have hms45_0 := NB1004_996.out
       have hms45_1 := NB1004_997.out
       have hms45_3 := NB1004_1005.out
       refine skip_ (w1 := ?_) (by rfl) rfl ?_ ?_
       rotate_left
       ·
        go_simp
        rfl
       refine hK.out _ _ ?_
       clear hK K
       refine last_ (i := 7) (N := none) #[true, true, true, true, true, true, true, true] rfl rfl (one_of HT_.out (by kernel_rfl)) (by decide) (fun K hK => ?_)
       have hs46 : w43.cell? ⟨gb1005, 0, none⟩ = some (.int .i64 x1006000_1) := zc BK1005 0
       have hfs46 := blk_frozen BK1005.out 0
       have hns46_0 := NB996_1005.out
       have hns46_1 := NB997_1005.out
       have hns46_2 := NB1004_1005.out
       have hms46_0 := NB1005_996.out
       have hms46_1 := NB1005_997.out
       have hms46_2 := NB1005_1004.out
       have hs47 : w43.cell? ⟨gb1005, 1, none⟩ = some (.int .i64 x1006001_1) := zc BK1005 1
       have hfs47 := blk_frozen BK1005.out 1
       have hns47_0 := NB996_1005.out
       have hns47_1 := NB997_1005.out
       have hns47_2 := NB1004_1005.out
       have hms47_0 := NB1005_996.out
       have hms47_1 := NB1005_997.out
       have hms47_2 := NB1005_1004.out
       refine skip_ (w1 := ?_) (by rfl) rfl ?_ ?_
       rotate_left
       ·
        go_simp
        rfl
       refine hK.out _ _ ?_
       clear hK K
       refine done_ (done_of HT_.out (by kernel_rfl)) ?_
       have hnb48 := NB996_997.out
       have hnc48 := NB997_996.out
       have hnb49 := NB996_1004.out
       have hnc49 := NB1004_996.out
       have hnb50 := NB996_1005.out
       have hnc50 := NB1005_996.out
       have hnb51 := NB996_0.out
       have hnc51 := NB0_996.out
       have hcz52_0 : w43.cell? ⟨gb996, 0, none⟩ = some (.int .i64 a1_0) := zc BK996 0
       have hcz52_1 : w43.cell? ⟨gb996, 1, none⟩ = some (.int .i64 a1_1) := zc BK996 1
       have hcz52_2 : w43.cell? ⟨gb996, 2, none⟩ = some (.int .i64 a1_2) := zc BK996 2
       have hcz52_3 : w43.cell? ⟨gb996, 3, none⟩ = some (.int .i64 a1_3) := zc BK996 3
       have hfz52_0 := blk_frozen BK996.out 0
       have hfz52_1 := blk_frozen BK996.out 1
       have hfz52_2 := blk_frozen BK996.out 2
       have hfz52_3 := blk_frozen BK996.out 3
       try go_wp2_with (first | ((with_reducible refine gate_callee (f := 49) rfl ?_); refine goesL_ (some 42) rfl rfl Try.func49 (by kernel_rfl) rfl #[.agg #[.int .i64 a1_0, .int .i64 a1_1, .int .i64 a1_2, .int .i64 a1_3]] rfl zq6 ?_; (with_reducible refine (impl_signOf.calls a1_0 a1_1 a1_2 a1_3 t1016 _ A37.out).mono ?_); rintro e w53 ⟨rfl, hb⟩; refine ⟨_, rfl, ?_⟩; replace BK996 := Aside0.mk (blk_below (g := gb996) (o := .cells #[.int .i64 a1_0, .int .i64 a1_1, .int .i64 a1_2, .int .i64 a1_3] 29 (0, 0)) (zq5 BK996) hb); replace BK997 := Aside0.mk (blk_below (g := gb997) (o := .cells #[.int .i64 0, .int .i64 0, .int .i64 0, .int .i64 0] 29 (0, 0)) (zq5 BK997) hb); replace BK1004 := Aside0.mk (blk_below (g := gb1004) (o := .cells #[.int .i64 t1012, .int .i64 t1013] 27 (0, 0)) (by (with_reducible repeat (first | refine blk_drewN ?_ _ | refine blk_drew ?_ | refine blk_alloc ?_ _)); refine blk_far ?_ NB1004_1005.out _; (with_reducible repeat (first | refine blk_drewN ?_ _ | refine blk_drew ?_ | refine blk_alloc ?_ _)); refine blk_far ?_ NB1004_1005.out _; (with_reducible repeat (first | refine blk_drewN ?_ _ | refine blk_drew ?_ | refine blk_alloc ?_ _)); refine blk_put (cs := #[.int .i64 t1012, .int .i64 x1005001_1]) ?_ 1 _ rfl; (with_reducible repeat (first | refine blk_drewN ?_ _ | refine blk_drew ?_ | refine blk_alloc ?_ _)); refine blk_put (cs := #[.int .i64 x1005000_1, .int .i64 x1005001_1]) ?_ 0 _ rfl; (with_reducible repeat (first | refine blk_drewN ?_ _ | refine blk_drew ?_ | refine blk_alloc ?_ _)); exact BK1004.out) hb); replace BK1005 := Aside0.mk (blk_below (g := gb1005) (o := .cells #[.int .i64 t1014, .int .i64 t1015] 27 (0, 0)) (by (with_reducible repeat (first | refine blk_drewN ?_ _ | refine blk_drew ?_ | refine blk_alloc ?_ _)); refine blk_put (cs := #[.int .i64 t1014, .int .i64 x1006001_1]) ?_ 1 _ rfl; (with_reducible repeat (first | refine blk_drewN ?_ _ | refine blk_drew ?_ | refine blk_alloc ?_ _)); refine blk_put (cs := #[.int .i64 x1006000_1, .int .i64 x1006001_1]) ?_ 0 _ rfl; (with_reducible repeat (first | refine blk_drewN ?_ _ | refine blk_drew ?_ | refine blk_alloc ?_ _)); refine blk_far ?_ NB1005_1004.out _; (with_reducible repeat (first | refine blk_drewN ?_ _ | refine blk_drew ?_ | refine blk_alloc ?_ _)); refine blk_far ?_ NB1005_1004.out _; (with_reducible repeat (first | refine blk_drewN ?_ _ | refine blk_drew ?_ | refine blk_alloc ?_ _)); exact BK1005.out) hb); replace HI0 := Aside0.mk (IsS57.below (show IsS57 w0 ((((w43.setCell ⟨gb1004, 0, none⟩ (.int .i64 t1012)).setCell ⟨gb1004, 1, none⟩ (.int .i64 t1013)).setCell ⟨gb1005, 0, none⟩ (.int .i64 t1014)).setCell ⟨gb1005, 1, none⟩ (.int .i64 t1015)) g x1000_1 from (z71_3 HI0)) hb); replace HK := Aside0.mk (KeepBut.trans (z71_4 HK) (KeepBut.of_below hb g none) (.inl rfl)); replace HB := Aside0.mk (below_step (z71_5 HB) hb); (try clear hb); (try clear hb2); (try clear hk); (try clear hi)) | ((with_reducible refine gate_callee (f := 98) rfl ?_); refine goesL_ (some 44) rfl rfl Try.func98 (by kernel_rfl) rfl #[.int .i64 0] rfl zq6 ?_; (with_reducible refine (impl_integer.calls 0 t1017 t1018 _ A39.out).mono ?_); rintro e w54 ⟨rfl, hb⟩; refine ⟨_, rfl, ?_⟩; replace BK996 := Aside0.mk (zbb BK996 hb); replace BK997 := Aside0.mk (zbb BK997 hb); replace BK1004 := Aside0.mk (zbb BK1004 hb); replace BK1005 := Aside0.mk (zbb BK1005 hb); replace HI0 := Aside0.mk (IsS57.below (z71_3 HI0) hb); replace HK := Aside0.mk (KeepBut.trans (z71_4 HK) (KeepBut.of_below hb g none) (.inl rfl)); replace HB := Aside0.mk (below_step (z71_5 HB) hb); (try clear hb); (try clear hb2); (try clear hk); (try clear hi); have hnb55 := NB1004_997.out; have hnc55 := NB997_1004.out; have hnb56 := NB1004_1005.out; have hnc56 := NB1005_1004.out; have hnb57 := NB1004_0.out; have hnc57 := NB0_1004.out; have hcz58_0 : w54.cell? ⟨gb1004, 0, none⟩ = some (.int .i64 t1012) := zc BK1004 0; have hcz58_1 : w54.cell? ⟨gb1004, 1, none⟩ = some (.int .i64 t1013) := zc BK1004 1; have hfz58_0 := blk_frozen BK1004.out 0; have hfz58_1 := blk_frozen BK1004.out 1; have hnb59 := NB1005_997.out; have hnc59 := NB997_1005.out; have hnb60 := NB1005_0.out; have hnc60 := NB0_1005.out; have hcz61_0 : w54.cell? ⟨gb1005, 0, none⟩ = some (.int .i64 t1014) := zc BK1005 0; have hcz61_1 : w54.cell? ⟨gb1005, 1, none⟩ = some (.int .i64 t1015) := zc BK1005 1; have hfz61_0 := blk_frozen BK1005.out 0; have hfz61_1 := blk_frozen BK1005.out 1) | ((with_reducible refine gate_callee (f := 58) rfl ?_); refine goesL_ (some 48) rfl rfl Try.func58 (by kernel_rfl) rfl #[.agg #[.int .i64 t1017, .int .i64 t1018, .int .i64 t1014, .int .i64 t1015], .int .i64 16] rfl zq6 ?_; (with_reducible refine (impl_roundOut.calls k1 t1017 t1018 t1014 t1015 16 t1019 t1020 t1021 t1022 _ A40.out).mono ?_); rintro e w62 ⟨rfl, hb⟩; refine ⟨_, rfl, ?_⟩; replace BK996 := Aside0.mk (blk_below (g := gb996) (o := .cells #[.int .i64 a1_0, .int .i64 a1_1, .int .i64 a1_2, .int .i64 a1_3] 29 (0, 0)) (zq5 BK996) hb); replace BK997 := Aside0.mk (blk_below (g := gb997) (o := .cells #[.int .i64 0, .int .i64 0, .int .i64 0, .int .i64 0] 29 (0, 0)) (zq5 BK997) hb); replace BK1004 := Aside0.mk (blk_below (g := gb1004) (o := .cells #[.int .i64 t1017, .int .i64 t1018] 27 (0, 0)) (by (with_reducible repeat (first | refine blk_drewN ?_ _ | refine blk_drew ?_ | refine blk_alloc ?_ _)); refine blk_put (cs := #[.int .i64 t1017, .int .i64 t1013]) ?_ 1 _ rfl; (with_reducible repeat (first | refine blk_drewN ?_ _ | refine blk_drew ?_ | refine blk_alloc ?_ _)); refine blk_put (cs := #[.int .i64 t1012, .int .i64 t1013]) ?_ 0 _ rfl; (with_reducible repeat (first | refine blk_drewN ?_ _ | refine blk_drew ?_ | refine blk_alloc ?_ _)); exact BK1004.out) hb); replace BK1005 := Aside0.mk (blk_below (g := gb1005) (o := .cells #[.int .i64 t1014, .int .i64 t1015] 27 (0, 0)) (zq5 BK1005) hb); replace HI0 := Aside0.mk (IsS57.below (show IsS57 w0 ((w54.setCell ⟨gb1004, 0, none⟩ (.int .i64 t1017)).setCell ⟨gb1004, 1, none⟩ (.int .i64 t1018)) g x1000_1 from (z71_3 HI0)) hb); replace HK := Aside0.mk (KeepBut.trans (z71_4 HK) (KeepBut.of_below hb g none) (.inl rfl)); replace HB := Aside0.mk (below_step (z71_5 HB) hb); (try clear hb); (try clear hb2); (try clear hk); (try clear hi); have hnb63 := NB997_0.out; have hnc63 := NB0_997.out; have hcz64_0 : w62.cell? ⟨gb997, 0, none⟩ = some (.int .i64 0) := zc BK997 0; have hcz64_1 : w62.cell? ⟨gb997, 1, none⟩ = some (.int .i64 0) := zc BK997 1; have hcz64_2 : w62.cell? ⟨gb997, 2, none⟩ = some (.int .i64 0) := zc BK997 2; have hcz64_3 : w62.cell? ⟨gb997, 3, none⟩ = some (.int .i64 0) := zc BK997 3; have hfz64_0 := blk_frozen BK997.out 0; have hfz64_1 := blk_frozen BK997.out 1; have hfz64_2 := blk_frozen BK997.out 2; have hfz64_3 := blk_frozen BK997.out 3))
       refine bodyPost_ret (results_cell_row rfl _ _ gb997 29 #[.int .i64 t1019, .int .i64 t1020, .int .i64 t1021, .int .i64 t1022] (0, 0) _ rfl (by (with_reducible repeat (first | refine blk_drewN ?_ _ | refine blk_drew ?_ | refine blk_alloc ?_ _)); refine blk_put (cs := #[.int .i64 t1019, .int .i64 t1020, .int .i64 t1021, .int .i64 0]) ?_ 3 _ rfl; (with_reducible repeat (first | refine blk_drewN ?_ _ | refine blk_drew ?_ | refine blk_alloc ?_ _)); refine blk_put (cs := #[.int .i64 t1019, .int .i64 t1020, .int .i64 0, .int .i64 0]) ?_ 2 _ rfl; (with_reducible repeat (first | refine blk_drewN ?_ _ | refine blk_drew ?_ | refine blk_alloc ?_ _)); refine blk_put (cs := #[.int .i64 t1019, .int .i64 0, .int .i64 0, .int .i64 0]) ?_ 1 _ rfl; (with_reducible repeat (first | refine blk_drewN ?_ _ | refine blk_drew ?_ | refine blk_alloc ?_ _)); refine blk_put (cs := #[.int .i64 0, .int .i64 0, .int .i64 0, .int .i64 0]) ?_ 0 _ rfl; (with_reducible repeat (first | refine blk_drewN ?_ _ | refine blk_drew ?_ | refine blk_alloc ?_ _)); exact BK997.out) Try.underlying29 rfl (by kernel_rfl)) rfl ?_
       exact ⟨by first | rfl | (simp [errW_none, errW_some] <;> rfl) | (simp [*, errW_none, errW_some] <;> rfl), (z71_3 HI0), (z71_5 HB), (z71_4 HK)⟩
      ·
       rw [if_neg c38] at H
       have c38b0 : (t1016 == 0) = false := beq_eq_false_iff_ne.mpr c38
       have c38b1 : (t1016 != 0) = true := bne_iff_ne.mpr c38
       replace H := Option.bind_eq_some_iff.mp H
       obtain ⟨⟨t1023, t1024, t1025, t1026⟩, A650, H⟩ := H
       replace H : (some (t1023, t1024, t1025, t1026, x1000_1)) = some (r1, r2, r3, r4, r5) := H
       have A65 := Aside0.mk A650
       clear A650
       simp only [Option.some.injEq, Prod.mk.injEq] at H
       obtain ⟨rfl, rfl, rfl, rfl, rfl⟩ := H
       try go_wp2
       replace BK996 := Aside0.mk (blk_drew BK996.out); replace BK997 := Aside0.mk (blk_drew BK997.out); replace BK1004 := Aside0.mk (blk_drew BK1004.out); replace BK1005 := Aside0.mk (blk_drew BK1005.out); replace HI0 := Aside0.mk (IsS57.drew HI0.out); replace HK := Aside0.mk (keep_drew HK.out); replace HB := Aside0.mk (below_drew1 HB.out)
       refine start_ (n := 8) (S := fun w' => w'.cell? ⟨gb1004, 0, none⟩ = some (.int .i64 x1005000_1) ∧ w'.cell? ⟨gb1004, 1, none⟩ = some (.int .i64 x1005001_1) ∧ w'.cell? ⟨gb1005, 0, none⟩ = some (.int .i64 x1006000_1) ∧ w'.cell? ⟨gb1005, 1, none⟩ = some (.int .i64 x1006001_1)) (ds := [6, 7]) #[false, false, false, false, false, false, false, false] (by kernel_rfl) rfl rfl ⟨zc BK1004 0, zc BK1004 1, zc BK1005 0, zc BK1005 1⟩ (fun hHeld => ?_); refine with_tabW impl_reckoner_power.tab9 impl_reckoner_power.bits9 (fun HT_ HW_ => ?_)
       generalize wr.drew = w66 at BK996 BK997 BK1004 BK1005 HI0 HK HB hHeld ⊢
       refine take_ (i := 0) (N := some 35) (v := ?_) (a' := ?_) #[true, false, false, false, false, false, false, false] rfl rfl (take_ofW HT_.out HW_.out (by kernel_rfl)) (fun _ _ _ h => h) (Or.inl ⟨by rfl, ?_⟩) hHeld ?_ ?_
       rotate_left
       ·
        rintro w' ⟨s0, s1, s2, s3⟩
        go_simp
        with_reducible rfl
       rotate_left
       ·
        simp only [Act.put, List.setIfInBounds_toArray, List.set_cons_zero, List.set_cons_succ, i64_w, i32_w]
        rfl
       refine take_ (i := 1) (N := some 36) (v := ?_) (a' := ?_) #[true, true, false, false, false, false, false, false] rfl rfl (take_ofW HT_.out HW_.out (by kernel_rfl)) (fun _ _ _ h => h) (Or.inl ⟨by rfl, ?_⟩) hHeld ?_ ?_
       rotate_left
       ·
        rintro w' ⟨s0, s1, s2, s3⟩
        go_simp
        with_reducible rfl
       rotate_left
       ·
        simp only [Act.put, List.setIfInBounds_toArray, List.set_cons_zero, List.set_cons_succ, i64_w, i32_w]
        rfl
       refine take_ (i := 3) (N := some 38) (v := ?_) (a' := ?_) #[true, true, false, true, false, false, false, false] rfl rfl (take_ofW HT_.out HW_.out (by kernel_rfl)) (fun _ _ _ h => h) (Or.inl ⟨by rfl, ?_⟩) hHeld ?_ ?_
       rotate_left
       ·
        rintro w' ⟨s0, s1, s2, s3⟩
        go_simp
        with_reducible rfl
       rotate_left
       ·
        simp only [Act.put, List.setIfInBounds_toArray, List.set_cons_zero, List.set_cons_succ, i64_w, i32_w]
        rfl
       refine take_ (i := 4) (N := some 39) (v := ?_) (a' := ?_) #[true, true, false, true, true, false, false, false] rfl rfl (take_ofW HT_.out HW_.out (by kernel_rfl)) (fun _ _ _ h => h) (Or.inl ⟨by rfl, ?_⟩) hHeld ?_ ?_
       rotate_left
       ·
        rintro w' ⟨s0, s1, s2, s3⟩
        go_simp
        with_reducible rfl
       rotate_left
       ·
        simp only [Act.put, List.setIfInBounds_toArray, List.set_cons_zero, List.set_cons_succ, i64_w, i32_w]
        rfl
       refine one_ (i := 2) (N := some 37) #[true, true, true, true, true, false, false, false] rfl rfl (one_of HT_.out (by kernel_rfl)) (by decide) (fun K hK => ?_)
       refine goes_ Try.func51 (by kernel_rfl) rfl #[.agg #[.int .i64 x1005000_1, .int .i64 x1005001_1], .agg #[.int .i64 x1006000_1, .int .i64 x1006001_1]] (by rfl) rfl rfl zq6 ?_
       with_reducible refine (impl_lesser.calls k1 x1005000_1 x1005001_1 x1006000_1 x1006001_1 t1012 t1013 _ A35.out).mono ?_
       rintro e w67 ⟨rfl, hb⟩
       refine ⟨_, rfl, ?_⟩
       replace BK996 := Aside0.mk (zbb BK996 hb); replace BK997 := Aside0.mk (zbb BK997 hb); replace BK1004 := Aside0.mk (zbb BK1004 hb); replace BK1005 := Aside0.mk (zbb BK1005 hb); replace HI0 := Aside0.mk (IsS57.below (z71_3 HI0) hb); replace HK := Aside0.mk (KeepBut.trans (z71_4 HK) (KeepBut.of_below hb g none) (.inl rfl)); replace HB := Aside0.mk (below_step (z71_5 HB) hb)
       (try clear hb)
       (try clear hb2)
       (try clear hk)
       (try clear hi)
       refine hK.out _ _ ⟨zc BK1004 0, zc BK1004 1, zc BK1005 0, zc BK1005 1⟩ (fun hHeld => ?_)
       clear hK K
       refine norm_ (a' := ?_) ?_ ?_
       rotate_left
       ·
        show Act.put _ (some 37) _ = _
        simp only [Act.put, List.setIfInBounds_toArray, List.set_cons_zero, List.set_cons_succ, i64_w, i32_w]; rfl
       refine one_ (i := 5) (N := some 40) #[true, true, true, true, true, true, false, false] rfl rfl (one_of HT_.out (by kernel_rfl)) (by decide) (fun K hK => ?_)
       refine goes_ Try.func52 (by kernel_rfl) rfl #[.agg #[.int .i64 x1005000_1, .int .i64 x1005001_1], .agg #[.int .i64 x1006000_1, .int .i64 x1006001_1]] (by rfl) rfl rfl zq6 ?_
       with_reducible refine (impl_greater.calls k1 x1005000_1 x1005001_1 x1006000_1 x1006001_1 t1014 t1015 _ A36.out).mono ?_
       rintro e w68 ⟨rfl, hb⟩
       refine ⟨_, rfl, ?_⟩
       replace BK996 := Aside0.mk (zbb BK996 hb); replace BK997 := Aside0.mk (zbb BK997 hb); replace BK1004 := Aside0.mk (zbb BK1004 hb); replace BK1005 := Aside0.mk (zbb BK1005 hb); replace HI0 := Aside0.mk (IsS57.below (z71_3 HI0) hb); replace HK := Aside0.mk (KeepBut.trans (z71_4 HK) (KeepBut.of_below hb g none) (.inl rfl)); replace HB := Aside0.mk (below_step (z71_5 HB) hb)
       (try clear hb)
       (try clear hb2)
       (try clear hk)
       (try clear hi)
       refine hK.out _ _ ⟨zc BK1004 0, zc BK1004 1, zc BK1005 0, zc BK1005 1⟩ (fun hHeld => ?_)
       clear hK K
       refine norm_ (a' := ?_) ?_ ?_
       rotate_left
       ·
        show Act.put _ (some 40) _ = _
        simp only [Act.put, List.setIfInBounds_toArray, List.set_cons_zero, List.set_cons_succ, i64_w, i32_w]; rfl
       refine last_ (i := 6) (N := none) #[true, true, true, true, true, true, true, false] rfl rfl (one_of HT_.out (by kernel_rfl)) (by decide) (fun K hK => ?_)
       have hs69 : w68.cell? ⟨gb1004, 0, none⟩ = some (.int .i64 x1005000_1) := zc BK1004 0
       have hfs69 := blk_frozen BK1004.out 0
       have hns69_0 := NB996_1004.out
       have hns69_1 := NB997_1004.out
       have hns69_3 := NB1005_1004.out
       have hms69_0 := NB1004_996.out
       have hms69_1 := NB1004_997.out
       have hms69_3 := NB1004_1005.out
       have hs70 : w68.cell? ⟨gb1004, 1, none⟩ = some (.int .i64 x1005001_1) := zc BK1004 1
       have hfs70 := blk_frozen BK1004.out 1
       have hns70_0 := NB996_1004.out
       have hns70_1 := NB997_1004.out
       have hns70_3 := NB1005_1004.out
       have hms70_0 := NB1004_996.out
       have hms70_1 := NB1004_997.out
       have hms70_3 := NB1004_1005.out
       refine skip_ (w1 := ?_) (by rfl) rfl ?_ ?_
       rotate_left
       ·
        go_simp
        rfl
       refine hK.out _ _ ?_
       clear hK K
       refine last_ (i := 7) (N := none) #[true, true, true, true, true, true, true, true] rfl rfl (one_of HT_.out (by kernel_rfl)) (by decide) (fun K hK => ?_)
       have hs71 : w68.cell? ⟨gb1005, 0, none⟩ = some (.int .i64 x1006000_1) := zc BK1005 0
       have hfs71 := blk_frozen BK1005.out 0
       have hns71_0 := NB996_1005.out
       have hns71_1 := NB997_1005.out
       have hns71_2 := NB1004_1005.out
       have hms71_0 := NB1005_996.out
       have hms71_1 := NB1005_997.out
       have hms71_2 := NB1005_1004.out
       have hs72 : w68.cell? ⟨gb1005, 1, none⟩ = some (.int .i64 x1006001_1) := zc BK1005 1
       have hfs72 := blk_frozen BK1005.out 1
       have hns72_0 := NB996_1005.out
       have hns72_1 := NB997_1005.out
       have hns72_2 := NB1004_1005.out
       have hms72_0 := NB1005_996.out
       have hms72_1 := NB1005_997.out
       have hms72_2 := NB1005_1004.out
       refine skip_ (w1 := ?_) (by rfl) rfl ?_ ?_
       rotate_left
       ·
        go_simp
        rfl
       refine hK.out _ _ ?_
       clear hK K
       refine done_ (done_of HT_.out (by kernel_rfl)) ?_
       have hnb73 := NB996_997.out
       have hnc73 := NB997_996.out
       have hnb74 := NB996_1004.out
       have hnc74 := NB1004_996.out
       have hnb75 := NB996_1005.out
       have hnc75 := NB1005_996.out
       have hnb76 := NB996_0.out
       have hnc76 := NB0_996.out
       have hcz77_0 : w68.cell? ⟨gb996, 0, none⟩ = some (.int .i64 a1_0) := zc BK996 0
       have hcz77_1 : w68.cell? ⟨gb996, 1, none⟩ = some (.int .i64 a1_1) := zc BK996 1
       have hcz77_2 : w68.cell? ⟨gb996, 2, none⟩ = some (.int .i64 a1_2) := zc BK996 2
       have hcz77_3 : w68.cell? ⟨gb996, 3, none⟩ = some (.int .i64 a1_3) := zc BK996 3
       have hfz77_0 := blk_frozen BK996.out 0
       have hfz77_1 := blk_frozen BK996.out 1
       have hfz77_2 := blk_frozen BK996.out 2
       have hfz77_3 := blk_frozen BK996.out 3
       try go_wp2_with (first | ((with_reducible refine gate_callee (f := 49) rfl ?_); refine goesL_ (some 42) rfl rfl Try.func49 (by kernel_rfl) rfl #[.agg #[.int .i64 a1_0, .int .i64 a1_1, .int .i64 a1_2, .int .i64 a1_3]] rfl zq6 ?_; (with_reducible refine (impl_signOf.calls a1_0 a1_1 a1_2 a1_3 t1016 _ A37.out).mono ?_); rintro e w78 ⟨rfl, hb⟩; refine ⟨_, rfl, ?_⟩; replace BK996 := Aside0.mk (blk_below (g := gb996) (o := .cells #[.int .i64 a1_0, .int .i64 a1_1, .int .i64 a1_2, .int .i64 a1_3] 29 (0, 0)) (zq5 BK996) hb); replace BK997 := Aside0.mk (blk_below (g := gb997) (o := .cells #[.int .i64 0, .int .i64 0, .int .i64 0, .int .i64 0] 29 (0, 0)) (zq5 BK997) hb); replace BK1004 := Aside0.mk (blk_below (g := gb1004) (o := .cells #[.int .i64 t1012, .int .i64 t1013] 27 (0, 0)) (by (with_reducible repeat (first | refine blk_drewN ?_ _ | refine blk_drew ?_ | refine blk_alloc ?_ _)); refine blk_far ?_ NB1004_1005.out _; (with_reducible repeat (first | refine blk_drewN ?_ _ | refine blk_drew ?_ | refine blk_alloc ?_ _)); refine blk_far ?_ NB1004_1005.out _; (with_reducible repeat (first | refine blk_drewN ?_ _ | refine blk_drew ?_ | refine blk_alloc ?_ _)); refine blk_put (cs := #[.int .i64 t1012, .int .i64 x1005001_1]) ?_ 1 _ rfl; (with_reducible repeat (first | refine blk_drewN ?_ _ | refine blk_drew ?_ | refine blk_alloc ?_ _)); refine blk_put (cs := #[.int .i64 x1005000_1, .int .i64 x1005001_1]) ?_ 0 _ rfl; (with_reducible repeat (first | refine blk_drewN ?_ _ | refine blk_drew ?_ | refine blk_alloc ?_ _)); exact BK1004.out) hb); replace BK1005 := Aside0.mk (blk_below (g := gb1005) (o := .cells #[.int .i64 t1014, .int .i64 t1015] 27 (0, 0)) (by (with_reducible repeat (first | refine blk_drewN ?_ _ | refine blk_drew ?_ | refine blk_alloc ?_ _)); refine blk_put (cs := #[.int .i64 t1014, .int .i64 x1006001_1]) ?_ 1 _ rfl; (with_reducible repeat (first | refine blk_drewN ?_ _ | refine blk_drew ?_ | refine blk_alloc ?_ _)); refine blk_put (cs := #[.int .i64 x1006000_1, .int .i64 x1006001_1]) ?_ 0 _ rfl; (with_reducible repeat (first | refine blk_drewN ?_ _ | refine blk_drew ?_ | refine blk_alloc ?_ _)); refine blk_far ?_ NB1005_1004.out _; (with_reducible repeat (first | refine blk_drewN ?_ _ | refine blk_drew ?_ | refine blk_alloc ?_ _)); refine blk_far ?_ NB1005_1004.out _; (with_reducible repeat (first | refine blk_drewN ?_ _ | refine blk_drew ?_ | refine blk_alloc ?_ _)); exact BK1005.out) hb); replace HI0 := Aside0.mk (IsS57.below (show IsS57 w0 ((((w68.setCell ⟨gb1004, 0, none⟩ (.int .i64 t1012)).setCell ⟨gb1004, 1, none⟩ (.int .i64 t1013)).setCell ⟨gb1005, 0, none⟩ (.int .i64 t1014)).setCell ⟨gb1005, 1, none⟩ (.int .i64 t1015)) g x1000_1 from (z71_3 HI0)) hb); replace HK := Aside0.mk (KeepBut.trans (z71_4 HK) (KeepBut.of_below hb g none) (.inl rfl)); replace HB := Aside0.mk (below_step (z71_5 HB) hb); (try clear hb); (try clear hb2); (try clear hk); (try clear hi); have hnb79 := NB1004_997.out; have hnc79 := NB997_1004.out; have hnb80 := NB1004_1005.out; have hnc80 := NB1005_1004.out; have hnb81 := NB1004_0.out; have hnc81 := NB0_1004.out; have hcz82_0 : w78.cell? ⟨gb1004, 0, none⟩ = some (.int .i64 t1012) := zc BK1004 0; have hcz82_1 : w78.cell? ⟨gb1004, 1, none⟩ = some (.int .i64 t1013) := zc BK1004 1; have hfz82_0 := blk_frozen BK1004.out 0; have hfz82_1 := blk_frozen BK1004.out 1; have hnb83 := NB1005_997.out; have hnc83 := NB997_1005.out; have hnb84 := NB1005_0.out; have hnc84 := NB0_1005.out; have hcz85_0 : w78.cell? ⟨gb1005, 0, none⟩ = some (.int .i64 t1014) := zc BK1005 0; have hcz85_1 : w78.cell? ⟨gb1005, 1, none⟩ = some (.int .i64 t1015) := zc BK1005 1; have hfz85_0 := blk_frozen BK1005.out 0; have hfz85_1 := blk_frozen BK1005.out 1) | ((with_reducible refine gate_callee (f := 58) rfl ?_); refine goesL_ (some 48) rfl rfl Try.func58 (by kernel_rfl) rfl #[.agg #[.int .i64 t1012, .int .i64 t1013, .int .i64 t1014, .int .i64 t1015], .int .i64 16] rfl zq6 ?_; (with_reducible refine (impl_roundOut.calls k1 t1012 t1013 t1014 t1015 16 t1023 t1024 t1025 t1026 _ A65.out).mono ?_); rintro e w86 ⟨rfl, hb⟩; refine ⟨_, rfl, ?_⟩; replace BK996 := Aside0.mk (zbb BK996 hb); replace BK997 := Aside0.mk (zbb BK997 hb); replace BK1004 := Aside0.mk (zbb BK1004 hb); replace BK1005 := Aside0.mk (zbb BK1005 hb); replace HI0 := Aside0.mk (IsS57.below (z71_3 HI0) hb); replace HK := Aside0.mk (KeepBut.trans (z71_4 HK) (KeepBut.of_below hb g none) (.inl rfl)); replace HB := Aside0.mk (below_step (z71_5 HB) hb); (try clear hb); (try clear hb2); (try clear hk); (try clear hi); have hnb87 := NB997_0.out; have hnc87 := NB0_997.out; have hcz88_0 : w86.cell? ⟨gb997, 0, none⟩ = some (.int .i64 0) := zc BK997 0; have hcz88_1 : w86.cell? ⟨gb997, 1, none⟩ = some (.int .i64 0) := zc BK997 1; have hcz88_2 : w86.cell? ⟨gb997, 2, none⟩ = some (.int .i64 0) := zc BK997 2; have hcz88_3 : w86.cell? ⟨gb997, 3, none⟩ = some (.int .i64 0) := zc BK997 3; have hfz88_0 := blk_frozen BK997.out 0; have hfz88_1 := blk_frozen BK997.out 1; have hfz88_2 := blk_frozen BK997.out 2; have hfz88_3 := blk_frozen BK997.out 3))
       refine bodyPost_ret (results_cell_row rfl _ _ gb997 29 #[.int .i64 t1023, .int .i64 t1024, .int .i64 t1025, .int .i64 t1026] (0, 0) _ rfl (by (with_reducible repeat (first | refine blk_drewN ?_ _ | refine blk_drew ?_ | refine blk_alloc ?_ _)); refine blk_put (cs := #[.int .i64 t1023, .int .i64 t1024, .int .i64 t1025, .int .i64 0]) ?_ 3 _ rfl; (with_reducible repeat (first | refine blk_drewN ?_ _ | refine blk_drew ?_ | refine blk_alloc ?_ _)); refine blk_put (cs := #[.int .i64 t1023, .int .i64 t1024, .int .i64 0, .int .i64 0]) ?_ 2 _ rfl; (with_reducible repeat (first | refine blk_drewN ?_ _ | refine blk_drew ?_ | refine blk_alloc ?_ _)); refine blk_put (cs := #[.int .i64 t1023, .int .i64 0, .int .i64 0, .int .i64 0]) ?_ 1 _ rfl; (with_reducible repeat (first | refine blk_drewN ?_ _ | refine blk_drew ?_ | refine blk_alloc ?_ _)); refine blk_put (cs := #[.int .i64 0, .int .i64 0, .int .i64 0, .int .i64 0]) ?_ 0 _ rfl; (with_reducible repeat (first | refine blk_drewN ?_ _ | refine blk_drew ?_ | refine blk_alloc ?_ _)); exact BK997.out) Try.underlying29 rfl (by kernel_rfl)) rfl ?_
       exact ⟨by first | rfl | (simp [errW_none, errW_some] <;> rfl) | (simp [*, errW_none, errW_some] <;> rfl), (z71_3 HI0), (z71_5 HB), (z71_4 HK)⟩
     ·
      rw [if_neg c34] at H
      have c34b0 : ((Int.tmod a2 2) == 0) = false := beq_eq_false_iff_ne.mpr c34
      have c34b1 : ((Int.tmod a2 2) != 0) = true := bne_iff_ne.mpr c34
      replace H := Option.bind_eq_some_iff.mp H
      obtain ⟨⟨t1027, t1028, t1029, t1030⟩, A890, H⟩ := H
      replace H : (some (t1027, t1028, t1029, t1030, x1000_1)) = some (r1, r2, r3, r4, r5) := H
      have A89 := Aside0.mk A890
      clear A890
      simp only [Option.some.injEq, Prod.mk.injEq] at H
      obtain ⟨rfl, rfl, rfl, rfl, rfl⟩ := H
      have hnb90 := NB1004_996.out
      have hnc90 := NB996_1004.out
      have hnb91 := NB1004_997.out
      have hnc91 := NB997_1004.out
      have hnb92 := NB1004_1005.out
      have hnc92 := NB1005_1004.out
      have hnb93 := NB1004_0.out
      have hnc93 := NB0_1004.out
      have hcz94_0 : wr.cell? ⟨gb1004, 0, none⟩ = some (.int .i64 x1005000_1) := zc BK1004 0
      have hcz94_1 : wr.cell? ⟨gb1004, 1, none⟩ = some (.int .i64 x1005001_1) := zc BK1004 1
      have hfz94_0 := blk_frozen BK1004.out 0
      have hfz94_1 := blk_frozen BK1004.out 1
      have hnb95 := NB1005_996.out
      have hnc95 := NB996_1005.out
      have hnb96 := NB1005_997.out
      have hnc96 := NB997_1005.out
      have hnb97 := NB1005_0.out
      have hnc97 := NB0_1005.out
      have hcz98_0 : wr.cell? ⟨gb1005, 0, none⟩ = some (.int .i64 x1006000_1) := zc BK1005 0
      have hcz98_1 : wr.cell? ⟨gb1005, 1, none⟩ = some (.int .i64 x1006001_1) := zc BK1005 1
      have hfz98_0 := blk_frozen BK1005.out 0
      have hfz98_1 := blk_frozen BK1005.out 1
      go_wp2_with (first | ((with_reducible refine gate_callee (f := 58) rfl ?_); refine goesL_ (some 48) rfl rfl Try.func58 (by kernel_rfl) rfl #[.agg #[.int .i64 x1005000_1, .int .i64 x1005001_1, .int .i64 x1006000_1, .int .i64 x1006001_1], .int .i64 16] rfl zq6 ?_; (with_reducible refine (impl_roundOut.calls k1 x1005000_1 x1005001_1 x1006000_1 x1006001_1 16 t1027 t1028 t1029 t1030 _ A89.out).mono ?_); rintro e w99 ⟨rfl, hb⟩; refine ⟨_, rfl, ?_⟩; replace BK996 := Aside0.mk (zbb BK996 hb); replace BK997 := Aside0.mk (zbb BK997 hb); replace BK1004 := Aside0.mk (zbb BK1004 hb); replace BK1005 := Aside0.mk (zbb BK1005 hb); replace HI0 := Aside0.mk (IsS57.below (z71_3 HI0) hb); replace HK := Aside0.mk (KeepBut.trans (z71_4 HK) (KeepBut.of_below hb g none) (.inl rfl)); replace HB := Aside0.mk (below_step (z71_5 HB) hb); (try clear hb); (try clear hb2); (try clear hk); (try clear hi); have hnb100 := NB997_996.out; have hnc100 := NB996_997.out; have hnb101 := NB997_0.out; have hnc101 := NB0_997.out; have hcz102_0 : w99.cell? ⟨gb997, 0, none⟩ = some (.int .i64 0) := zc BK997 0; have hcz102_1 : w99.cell? ⟨gb997, 1, none⟩ = some (.int .i64 0) := zc BK997 1; have hcz102_2 : w99.cell? ⟨gb997, 2, none⟩ = some (.int .i64 0) := zc BK997 2; have hcz102_3 : w99.cell? ⟨gb997, 3, none⟩ = some (.int .i64 0) := zc BK997 3; have hfz102_0 := blk_frozen BK997.out 0; have hfz102_1 := blk_frozen BK997.out 1; have hfz102_2 := blk_frozen BK997.out 2; have hfz102_3 := blk_frozen BK997.out 3))
      refine bodyPost_ret (results_cell_row rfl _ _ gb997 29 #[.int .i64 t1027, .int .i64 t1028, .int .i64 t1029, .int .i64 t1030] (0, 0) _ rfl (by (with_reducible repeat (first | refine blk_drewN ?_ _ | refine blk_drew ?_ | refine blk_alloc ?_ _)); refine blk_put (cs := #[.int .i64 t1027, .int .i64 t1028, .int .i64 t1029, .int .i64 0]) ?_ 3 _ rfl; (with_reducible repeat (first | refine blk_drewN ?_ _ | refine blk_drew ?_ | refine blk_alloc ?_ _)); refine blk_put (cs := #[.int .i64 t1027, .int .i64 t1028, .int .i64 0, .int .i64 0]) ?_ 2 _ rfl; (with_reducible repeat (first | refine blk_drewN ?_ _ | refine blk_drew ?_ | refine blk_alloc ?_ _)); refine blk_put (cs := #[.int .i64 t1027, .int .i64 0, .int .i64 0, .int .i64 0]) ?_ 1 _ rfl; (with_reducible repeat (first | refine blk_drewN ?_ _ | refine blk_drew ?_ | refine blk_alloc ?_ _)); refine blk_put (cs := #[.int .i64 0, .int .i64 0, .int .i64 0, .int .i64 0]) ?_ 0 _ rfl; (with_reducible repeat (first | refine blk_drewN ?_ _ | refine blk_drew ?_ | refine blk_alloc ?_ _)); exact BK997.out) Try.underlying29 rfl (by kernel_rfl)) rfl ?_
      exact ⟨by first | rfl | (simp [errW_none, errW_some] <;> rfl) | (simp [*, errW_none, errW_some] <;> rfl), (z71_3 HI0), (z71_5 HB), (z71_4 HK)⟩
end Go.Proofs.Ytinpcalgdiigiaa.PD
