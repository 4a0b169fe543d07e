-- By wip/mk/drv.py
import Derived.Test.YtinpcalgdiigiaaQMultlsPDx0
import Derived.Test.YtinpcalgdiigiaaQMultlsPDx1
import Derived.Test.YtinpcalgdiigiaaQMultlsPDx25
import Derived.Test.YtinpcalgdiigiaaQMultlsPDx26
import Derived.Test.YtinpcalgdiigiaaQMultlsPDx41
import Derived.Test.YtinpcalgdiigiaaQMultlsPDx67
import Derived.Test.YtinpcalgdiigiaaQMultlsPDx88
namespace Go.Proofs.Ytinpcalgdiigiaa.PD
open Go.RowKit Go.Proofs.YtinpcalgdiigiaaW.PrintWords Go.Proofs.YtinpcalgdiigiaaW.PrintLast Go.Proofs.YtinpcalgdiigiaaW.PrintMore
attribute [local go_sem] max2_int min2_int max_two min_two max_three min_three max_four min_four
set_option linter.unusedVariables false
set_option linter.unusedSimpArgs false
/-! ### impl_reckoner_multiply: function 68 -/
theorem z68_0 {P Q : Prop} (h : Aside0 (Q)) (f : Q → P := by intro h_; repeat (first | (with_reducible first | exact h_ | apply IsS57.alloc | apply IsS57.drewN | apply IsS57.drew | apply IsS57.set_0) | exact h_)) : P := f h.out
theorem z68_1 {w W0 W1 : World} {g : Nat} {row : Option Nat} (h : Aside0 (KeepBut w W0 g row)) (f : KeepBut w W0 g row → KeepBut w W1 g row := by intro h_; repeat (first | (with_reducible first | exact h_ | apply KeepBut.set_ | apply keep_drewN | apply keep_drew | apply keep_alloc) | exact h_)) : KeepBut w W1 g row := f h.out
theorem z68_2 {w W0 W1 : World} {B : Nat} (h : Aside0 (Below B w W0)) (f : Below B w W0 → Below B w W1 := by intro h_; repeat (first | (with_reducible first | exact h_ | apply below_alloc | apply pw_below_drewN | apply below_drew1 | refine below_set ?_ (IsS57.ge (Aside0.out (by assumption)))) | exact h_)) : Below B w W1 := f h.out
theorem z68_3 {P Q : Prop} (h : Aside0 (Q)) (f : Q → P := by intro h_; repeat (first | (with_reducible first | exact h_ | apply IsS57.alloc | apply IsS57.drewN | apply IsS57.drew | apply IsS57.set_0 | refine IsS57.far ?_ (Aside0.out (by assumption)) _) | exact h_)) : P := f h.out
theorem z68_4 {w W0 W1 : World} {g : Nat} {row : Option Nat} (h : Aside0 (KeepBut w W0 g row)) (f : KeepBut w W0 g row → KeepBut w W1 g row := by intro h_; repeat (first | (with_reducible first | exact h_ | apply KeepBut.set_ | apply keep_drewN | apply keep_drew | apply keep_alloc | refine keep_far ?_ (Aside0.out (by assumption)) _) | exact h_)) : KeepBut w W1 g row := f h.out
theorem z68_5 {w W0 W1 : World} {B : Nat} (h : Aside0 (Below B w W0)) (f : Below B w W0 → Below B w W1 := by intro h_; repeat (first | (with_reducible first | exact h_ | apply below_alloc | apply pw_below_drewN | apply below_drew1 | refine below_set ?_ (IsS57.ge (Aside0.out (by assumption))) | refine below_set ?_ (Aside0.out (by assumption))) | exact h_)) : Below B w W1 := f h.out
def impl_reckoner_multiply.T1 : Bool × List (List Nat × List Nat) := (true, [([], []), ([], []), ([1], [1]), ([], []), ([3], [3]), ([0, 2, 4], [0, 2, 4]), ([], []), ([], []), ([7], [7]), ([], []), ([9], [9]), ([6, 8, 10, 5], [6, 8, 10]), ([], []), ([], []), ([12, 5, 11, 0, 1, 2, 3, 4, 5, 12, 13], [5, 12]), ([13, 11, 14, 0, 1, 2, 3, 4, 5, 6, 7, 8, 9, 10, 11, 12, 13, 14], [11, 13])])
def impl_reckoner_multiply.B1 : List Nat := [0, 0, 2, 0, 8, 31, 0, 0, 128, 0, 512, 2047, 0, 0, 16383, 32767]
theorem impl_reckoner_multiply.tab1 : rtab .any (opsOf Try.f68 1) = impl_reckoner_multiply.T1 := by kernel_rfl
theorem impl_reckoner_multiply.bits1 : waitsOk impl_reckoner_multiply.T1.2 impl_reckoner_multiply.B1 = true := by kernel_rfl
def impl_reckoner_multiply.T2 : Bool × List (List Nat × List Nat) := (true, [([], []), ([], []), ([1], [1]), ([], []), ([3], [3]), ([0, 2, 4], [0, 2, 4]), ([], []), ([], []), ([7], [7]), ([], []), ([9], [9]), ([6, 8, 10, 5], [6, 8, 10]), ([], []), ([], []), ([12, 5, 11, 0, 1, 2, 3, 4, 5, 12, 13], [5, 12]), ([13, 11, 14, 0, 1, 2, 3, 4, 5, 6, 7, 8, 9, 10, 11, 12, 13, 14], [11, 13])])
def impl_reckoner_multiply.B2 : List Nat := [0, 0, 2, 0, 8, 31, 0, 0, 128, 0, 512, 2047, 0, 0, 16383, 32767]
theorem impl_reckoner_multiply.tab2 : rtab .any (opsOf Try.f68 2) = impl_reckoner_multiply.T2 := by kernel_rfl
theorem impl_reckoner_multiply.bits2 : waitsOk impl_reckoner_multiply.T2.2 impl_reckoner_multiply.B2 = true := by kernel_rfl
def impl_reckoner_multiply.T3 : Bool × List (List Nat × List Nat) := (true, [([], []), ([], []), ([0, 1], [0, 1]), ([], []), ([], []), ([3, 4, 2], [3, 4]), ([2, 5, 5], [2, 5]), ([], []), ([], []), ([7, 8, 6], [7, 8]), ([], []), ([], []), ([10, 11, 9], [10, 11]), ([9, 12, 12], [9, 12]), ([6, 13], [6, 13]), ([14, 13], [14]), ([15, 15, 0, 1, 2, 3, 4, 5, 6, 7, 8, 9, 10, 11, 12, 13, 14, 15], [15])])
def impl_reckoner_multiply.B3 : List Nat := [0, 0, 3, 0, 0, 31, 63, 0, 0, 511, 0, 0, 4095, 8191, 16383, 32767, 65535]
theorem impl_reckoner_multiply.tab3 : rtab .any (opsOf Try.f68 3) = impl_reckoner_multiply.T3 := by kernel_rfl
theorem impl_reckoner_multiply.bits3 : waitsOk impl_reckoner_multiply.T3.2 impl_reckoner_multiply.B3 = true := by kernel_rfl
set_option maxHeartbeats 8000000 in
set_option maxRecDepth 100000 in
theorem impl_reckoner_multiply.calls (k : Nat) (g : Nat) (s0_0 : Bool) (a1_0 : Int) (a1_1 : Int) (a1_2 : Int) (a1_3 : Int) (a2_0 : Int) (a2_1 : Int) (a2_2 : Int) (a2_3 : Int) (r1 : Int) (r2 : Int) (r3 : Int) (r4 : Int) (r5 : Bool) (w0 w : World) (hI : IsS57 w0 w g s0_0) (hB : Below w0.heap.size w0 w) (h : impl_reckoner_multiply.f k s0_0 a1_0 a1_1 a1_2 a1_3 a2_0 a2_1 a2_2 a2_3 = some (r1, r2, r3, r4, r5)) :
  Calls Try.prog 68 #[.pointer (some ⟨g, 0, none⟩), .agg #[.int .i64 a1_0, .int .i64 a1_1, .int .i64 a1_2, .int .i64 a1_3], .agg #[.int .i64 a2_0, .int .i64 a2_1, .int .i64 a2_2, .int .i64 a2_3]] w fun e w' => e = .returned (.agg #[.int .i64 r1, .int .i64 r2, .int .i64 r3, .int .i64 r4]) ∧ IsS57 w0 w' g r5 ∧ Below w0.heap.size w0 w' ∧ KeepBut w w' g none := by
 have hu29 := Try.underlying29
 have hu27 := Try.underlying27
 have HI0 := Aside0.mk hI
 have HK := Aside0.mk (KeepBut.refl w g none)
 have HL := Aside0.mk hB.size
 clear hI
 have HW0 := Aside0.mk hB.size
 have HB := Aside0.mk hB
 clear hB
 have H : ((impl_reckoner_product.f k s0_0 a1_0 a1_1 a2_0 a2_1).bind fun bt859 => ((impl_reckoner_product.f k bt859.2.2 a1_0 a1_1 a2_2 a2_3).bind fun bt862 => ((impl_reckoner_product.f k bt862.2.2 a1_2 a1_3 a2_0 a2_1).bind fun bt867 => ((impl_reckoner_product.f k bt867.2.2 a1_2 a1_3 a2_2 a2_3).bind fun bt870 => ((impl_lesser.f k bt859.1 bt859.2.1 bt862.1 bt862.2.1).bind fun bt875 => ((impl_lesser.f k bt867.1 bt867.2.1 bt870.1 bt870.2.1).bind fun bt877 => ((impl_lesser.f k bt875.1 bt875.2 bt877.1 bt877.2).bind fun bt879 => ((impl_greater.f k bt859.1 bt859.2.1 bt862.1 bt862.2.1).bind fun bt881 => ((impl_greater.f k bt867.1 bt867.2.1 bt870.1 bt870.2.1).bind fun bt883 => ((impl_greater.f k bt881.1 bt881.2 bt883.1 bt883.2).bind fun bt885 => ((impl_roundOut.f k bt879.1 bt879.2 bt885.1 bt885.2 16).bind fun bt887 => (some (bt887.1, bt887.2.1, bt887.2.2.1, bt887.2.2.2, bt870.2.2))))))))))))) = some (r1, r2, r3, r4, r5) := h
 clear h
 replace H := Option.bind_eq_some_iff.mp H
 obtain ⟨⟨t859, t860, t861⟩, A40, H⟩ := H
 replace H : ((impl_reckoner_product.f k t861 a1_0 a1_1 a2_2 a2_3).bind fun bt862 => ((impl_reckoner_product.f k bt862.2.2 a1_2 a1_3 a2_0 a2_1).bind fun bt867 => ((impl_reckoner_product.f k bt867.2.2 a1_2 a1_3 a2_2 a2_3).bind fun bt870 => ((impl_lesser.f k t859 t860 bt862.1 bt862.2.1).bind fun bt875 => ((impl_lesser.f k bt867.1 bt867.2.1 bt870.1 bt870.2.1).bind fun bt877 => ((impl_lesser.f k bt875.1 bt875.2 bt877.1 bt877.2).bind fun bt879 => ((impl_greater.f k t859 t860 bt862.1 bt862.2.1).bind fun bt881 => ((impl_greater.f k bt867.1 bt867.2.1 bt870.1 bt870.2.1).bind fun bt883 => ((impl_greater.f k bt881.1 bt881.2 bt883.1 bt883.2).bind fun bt885 => ((impl_roundOut.f k bt879.1 bt879.2 bt885.1 bt885.2 16).bind fun bt887 => (some (bt887.1, bt887.2.1, bt887.2.2.1, bt887.2.2.2, bt870.2.2)))))))))))) = some (r1, r2, r3, r4, r5) := H
 have A4 := Aside0.mk A40
 clear A40
 replace H := Option.bind_eq_some_iff.mp H
 obtain ⟨⟨t862, t863, t864⟩, A50, H⟩ := H
 replace H : ((impl_reckoner_product.f k t864 a1_2 a1_3 a2_0 a2_1).bind fun bt867 => ((impl_reckoner_product.f k bt867.2.2 a1_2 a1_3 a2_2 a2_3).bind fun bt870 => ((impl_lesser.f k t859 t860 t862 t863).bind fun bt875 => ((impl_lesser.f k bt867.1 bt867.2.1 bt870.1 bt870.2.1).bind fun bt877 => ((impl_lesser.f k bt875.1 bt875.2 bt877.1 bt877.2).bind fun bt879 => ((impl_greater.f k t859 t860 t862 t863).bind fun bt881 => ((impl_greater.f k bt867.1 bt867.2.1 bt870.1 bt870.2.1).bind fun bt883 => ((impl_greater.f k bt881.1 bt881.2 bt883.1 bt883.2).bind fun bt885 => ((impl_roundOut.f k bt879.1 bt879.2 bt885.1 bt885.2 16).bind fun bt887 => (some (bt887.1, bt887.2.1, bt887.2.2.1, bt887.2.2.2, bt870.2.2))))))))))) = some (r1, r2, r3, r4, r5) := H
 have A5 := Aside0.mk A50
 clear A50
 replace H := Option.bind_eq_some_iff.mp H
 obtain ⟨⟨t867, t868, t869⟩, A60, H⟩ := H
 replace H : ((impl_reckoner_product.f k t869 a1_2 a1_3 a2_2 a2_3).bind fun bt870 => ((impl_lesser.f k t859 t860 t862 t863).bind fun bt875 => ((impl_lesser.f k t867 t868 bt870.1 bt870.2.1).bind fun bt877 => ((impl_lesser.f k bt875.1 bt875.2 bt877.1 bt877.2).bind fun bt879 => ((impl_greater.f k t859 t860 t862 t863).bind fun bt881 => ((impl_greater.f k t867 t868 bt870.1 bt870.2.1).bind fun bt883 => ((impl_greater.f k bt881.1 bt881.2 bt883.1 bt883.2).bind fun bt885 => ((impl_roundOut.f k bt879.1 bt879.2 bt885.1 bt885.2 16).bind fun bt887 => (some (bt887.1, bt887.2.1, bt887.2.2.1, bt887.2.2.2, bt870.2.2)))))))))) = some (r1, r2, r3, r4, r5) := H
 have A6 := Aside0.mk A60
 clear A60
 replace H := Option.bind_eq_some_iff.mp H
 obtain ⟨⟨t870, t871, t872⟩, A70, H⟩ := H
 replace H : ((impl_lesser.f k t859 t860 t862 t863).bind fun bt875 => ((impl_lesser.f k t867 t868 t870 t871).bind fun bt877 => ((impl_lesser.f k bt875.1 bt875.2 bt877.1 bt877.2).bind fun bt879 => ((impl_greater.f k t859 t860 t862 t863).bind fun bt881 => ((impl_greater.f k t867 t868 t870 t871).bind fun bt883 => ((impl_greater.f k bt881.1 bt881.2 bt883.1 bt883.2).bind fun bt885 => ((impl_roundOut.f k bt879.1 bt879.2 bt885.1 bt885.2 16).bind fun bt887 => (some (bt887.1, bt887.2.1, bt887.2.2.1, bt887.2.2.2, t872))))))))) = some (r1, r2, r3, r4, r5) := H
 have A7 := Aside0.mk A70
 clear A70
 replace H := Option.bind_eq_some_iff.mp H
 obtain ⟨⟨t875, t876⟩, A80, H⟩ := H
 replace H : ((impl_lesser.f k t867 t868 t870 t871).bind fun bt877 => ((impl_lesser.f k t875 t876 bt877.1 bt877.2).bind fun bt879 => ((impl_greater.f k t859 t860 t862 t863).bind fun bt881 => ((impl_greater.f k t867 t868 t870 t871).bind fun bt883 => ((impl_greater.f k bt881.1 bt881.2 bt883.1 bt883.2).bind fun bt885 => ((impl_roundOut.f k bt879.1 bt879.2 bt885.1 bt885.2 16).bind fun bt887 => (some (bt887.1, bt887.2.1, bt887.2.2.1, bt887.2.2.2, t872)))))))) = some (r1, r2, r3, r4, r5) := H
 have A8 := Aside0.mk A80
 clear A80
 replace H := Option.bind_eq_some_iff.mp H
 obtain ⟨⟨t877, t878⟩, A90, H⟩ := H
 replace H : ((impl_lesser.f k t875 t876 t877 t878).bind fun bt879 => ((impl_greater.f k t859 t860 t862 t863).bind fun bt881 => ((impl_greater.f k t867 t868 t870 t871).bind fun bt883 => ((impl_greater.f k bt881.1 bt881.2 bt883.1 bt883.2).bind fun bt885 => ((impl_roundOut.f k bt879.1 bt879.2 bt885.1 bt885.2 16).bind fun bt887 => (some (bt887.1, bt887.2.1, bt887.2.2.1, bt887.2.2.2, t872))))))) = some (r1, r2, r3, r4, r5) := H
 have A9 := Aside0.mk A90
 clear A90
 replace H := Option.bind_eq_some_iff.mp H
 obtain ⟨⟨t879, t880⟩, A100, H⟩ := H
 replace H : ((impl_greater.f k t859 t860 t862 t863).bind fun bt881 => ((impl_greater.f k t867 t868 t870 t871).bind fun bt883 => ((impl_greater.f k bt881.1 bt881.2 bt883.1 bt883.2).bind fun bt885 => ((impl_roundOut.f k t879 t880 bt885.1 bt885.2 16).bind fun bt887 => (some (bt887.1, bt887.2.1, bt887.2.2.1, bt887.2.2.2, t872)))))) = some (r1, r2, r3, r4, r5) := H
 have A10 := Aside0.mk A100
 clear A100
 replace H := Option.bind_eq_some_iff.mp H
 obtain ⟨⟨t881, t882⟩, A110, H⟩ := H
 replace H : ((impl_greater.f k t867 t868 t870 t871).bind fun bt883 => ((impl_greater.f k t881 t882 bt883.1 bt883.2).bind fun bt885 => ((impl_roundOut.f k t879 t880 bt885.1 bt885.2 16).bind fun bt887 => (some (bt887.1, bt887.2.1, bt887.2.2.1, bt887.2.2.2, t872))))) = some (r1, r2, r3, r4, r5) := H
 have A11 := Aside0.mk A110
 clear A110
 replace H := Option.bind_eq_some_iff.mp H
 obtain ⟨⟨t883, t884⟩, A120, H⟩ := H
 replace H : ((impl_greater.f k t881 t882 t883 t884).bind fun bt885 => ((impl_roundOut.f k t879 t880 bt885.1 bt885.2 16).bind fun bt887 => (some (bt887.1, bt887.2.1, bt887.2.2.1, bt887.2.2.2, t872)))) = some (r1, r2, r3, r4, r5) := H
 have A12 := Aside0.mk A120
 clear A120
 replace H := Option.bind_eq_some_iff.mp H
 obtain ⟨⟨t885, t886⟩, A130, H⟩ := H
 replace H : ((impl_roundOut.f k t879 t880 t885 t886 16).bind fun bt887 => (some (bt887.1, bt887.2.1, bt887.2.2.1, bt887.2.2.2, t872))) = some (r1, r2, r3, r4, r5) := H
 have A13 := Aside0.mk A130
 clear A130
 replace H := Option.bind_eq_some_iff.mp H
 obtain ⟨⟨t887, t888, t889, t890⟩, A140, H⟩ := H
 replace H : (some (t887, t888, t889, t890, t872)) = some (r1, r2, r3, r4, r5) := H
 have A14 := Aside0.mk A140
 clear A140
 simp only [Option.some.injEq, Prod.mk.injEq] at H
 obtain ⟨rfl, rfl, rfl, rfl, rfl⟩ := H
 go_enter Try.func68, Try.ntmps68
 try go_wp2_with (first | ((with_reducible refine gate_dst (N := 4) rfl ?_); refine zbe (N := 4) (cs := #[.int .i64 a1_0, .int .i64 a1_1, .int .i64 a1_2, .int .i64 a1_3]) (t := 29) ?_; intro gb856 hg w15 hbox hb; have BK856 := Aside0.mk (hbox); have GW856 := Aside0.mk ((by rw [hg]; exact (keep_size (w := w) (g := g) (row := none) (z68_1 HK)) : w.heap.size ≤ gb856)); have GE856 := Aside0.mk ((Nat.le_trans HW0.out (by rw [hg]; exact (keep_size (w := w) (g := g) (row := none) (z68_1 HK)) : w.heap.size ≤ gb856) : w0.heap.size ≤ gb856)); have NB0_856 := Aside0.mk ((by rw [hg]; exact Nat.ne_of_lt (IsS57.lt (show IsS57 w0 _ g s0_0 from (z68_0 HI0))) : g ≠ gb856)); have NB856_0 := Aside0.mk ((by rw [hg]; exact Nat.ne_of_gt (IsS57.lt (show IsS57 w0 _ g s0_0 from (z68_0 HI0))) : gb856 ≠ g)); replace HI0 := Aside0.mk (IsS57.below (z68_0 HI0) hb); replace HK := Aside0.mk (KeepBut.trans (z68_1 HK) (KeepBut.of_below hb g none) (.inl rfl)); replace HB := Aside0.mk (below_step (z68_2 HB) hb); clear hb hbox hg) | ((with_reducible refine gate_dst (N := 5) rfl ?_); refine zbe (N := 5) (cs := #[.int .i64 a2_0, .int .i64 a2_1, .int .i64 a2_2, .int .i64 a2_3]) (t := 29) ?_; intro gb857 hg w16 hbox hb; have BK857 := Aside0.mk (hbox); have GW857 := Aside0.mk ((by rw [hg]; exact (keep_size (w := w) (g := g) (row := none) (z68_4 HK)) : w.heap.size ≤ gb857)); have GE857 := Aside0.mk ((Nat.le_trans HW0.out (by rw [hg]; exact (keep_size (w := w) (g := g) (row := none) (z68_4 HK)) : w.heap.size ≤ gb857) : w0.heap.size ≤ gb857)); have NB856_857 := Aside0.mk (zlt BK856 hg); have NB857_856 := Aside0.mk (zgt BK856 hg); have NB0_857 := Aside0.mk ((by rw [hg]; exact Nat.ne_of_lt (IsS57.lt (show IsS57 w0 _ g s0_0 from (z68_3 HI0))) : g ≠ gb857)); have NB857_0 := Aside0.mk ((by rw [hg]; exact Nat.ne_of_gt (IsS57.lt (show IsS57 w0 _ g s0_0 from (z68_3 HI0))) : gb857 ≠ g)); replace HI0 := Aside0.mk (IsS57.below (z68_3 HI0) hb); replace BK856 := Aside0.mk (zbb BK856 hb); replace HK := Aside0.mk (KeepBut.trans (z68_4 HK) (KeepBut.of_below hb g none) (.inl rfl)); replace HB := Aside0.mk (below_step (z68_5 HB) hb); clear hb hbox hg) | ((with_reducible refine gate_dst (N := 6) rfl ?_); refine zbe (N := 6) (cs := #[.int .i64 0, .int .i64 0, .int .i64 0, .int .i64 0]) (t := 29) ?_; intro gb858 hg w17 hbox hb; have BK858 := Aside0.mk (hbox); have GW858 := Aside0.mk ((by rw [hg]; exact (keep_size (w := w) (g := g) (row := none) (z68_4 HK)) : w.heap.size ≤ gb858)); have GE858 := Aside0.mk ((Nat.le_trans HW0.out (by rw [hg]; exact (keep_size (w := w) (g := g) (row := none) (z68_4 HK)) : w.heap.size ≤ gb858) : w0.heap.size ≤ gb858)); have NB856_858 := Aside0.mk (zlt BK856 hg); have NB858_856 := Aside0.mk (zgt BK856 hg); have NB857_858 := Aside0.mk (zlt BK857 hg); have NB858_857 := Aside0.mk (zgt BK857 hg); have NB0_858 := Aside0.mk ((by rw [hg]; exact Nat.ne_of_lt (IsS57.lt (show IsS57 w0 _ g s0_0 from (z68_3 HI0))) : g ≠ gb858)); have NB858_0 := Aside0.mk ((by rw [hg]; exact Nat.ne_of_gt (IsS57.lt (show IsS57 w0 _ g s0_0 from (z68_3 HI0))) : gb858 ≠ g)); replace HI0 := Aside0.mk (IsS57.below (z68_3 HI0) hb); replace BK856 := Aside0.mk (zbb BK856 hb); replace BK857 := Aside0.mk (zbb BK857 hb); replace HK := Aside0.mk (KeepBut.trans (z68_4 HK) (KeepBut.of_below hb g none) (.inl rfl)); replace HB := Aside0.mk (below_step (z68_5 HB) hb); clear hb hbox hg))
 replace BK856 := Aside0.mk (blk_drew BK856.out); replace BK857 := Aside0.mk (blk_drew BK857.out); replace BK858 := Aside0.mk (blk_drew BK858.out); replace HI0 := Aside0.mk (IsS57.drew HI0.out); replace HK := Aside0.mk (keep_drew HK.out); replace HB := Aside0.mk (below_drew1 HB.out)
 refine start_ (n := 16) (S := fun w' => w'.cell? ⟨gb856, 0, none⟩ = some (.int .i64 a1_0) ∧ w'.cell? ⟨gb856, 1, none⟩ = some (.int .i64 a1_1) ∧ w'.cell? ⟨gb856, 2, none⟩ = some (.int .i64 a1_2) ∧ w'.cell? ⟨gb856, 3, none⟩ = some (.int .i64 a1_3) ∧ w'.cell? ⟨gb857, 0, none⟩ = some (.int .i64 a2_0) ∧ w'.cell? ⟨gb857, 1, none⟩ = some (.int .i64 a2_1) ∧ w'.cell? ⟨gb857, 2, none⟩ = some (.int .i64 a2_2) ∧ w'.cell? ⟨gb857, 3, none⟩ = some (.int .i64 a2_3)) (ds := []) #[false, false, false, false, false, false, false, false, false, false, false, false, false, false, false, false] (by kernel_rfl) rfl rfl ⟨zc BK856 0, zc BK856 1, zc BK856 2, zc BK856 3, zc BK857 0, zc BK857 1, zc BK857 2, zc BK857 3⟩ (fun hHeld => ?_); refine with_tabW impl_reckoner_multiply.tab1 impl_reckoner_multiply.bits1 (fun HT_ HW_ => ?_)
 generalize w17.drew = w18 at BK856 BK857 BK858 HI0 HK HB hHeld ⊢
 refine zp (i := 0) (N := some 11) #[true, false, false, false, false, false, false, false, false, false, false, false, false, false, false, false] (any_of HT_.out (by kernel_rfl)) ?_
 refine zp (i := 1) (N := some 12) #[true, true, false, false, false, false, false, false, false, false, false, false, false, false, false, false] (any_of HT_.out (by kernel_rfl)) ?_
 refine zp (i := 3) (N := some 14) #[true, true, false, true, false, false, false, false, false, false, false, false, false, false, false, false] (any_of HT_.out (by kernel_rfl)) ?_
 refine zp (i := 6) (N := some 17) #[true, true, false, true, false, false, true, false, false, false, false, false, false, false, false, false] (any_of HT_.out (by kernel_rfl)) ?_
 refine zp (i := 7) (N := some 18) #[true, true, false, true, false, false, true, true, false, false, false, false, false, false, false, false] (any_of HT_.out (by kernel_rfl)) ?_
 refine zp (i := 9) (N := some 20) #[true, true, false, true, false, false, true, true, false, true, false, false, false, false, false, false] (any_of HT_.out (by kernel_rfl)) ?_
 refine take_ (i := 2) (N := some 13) (v := ?_) (a' := ?_) #[true, true, true, true, false, false, true, true, false, true, false, false, false, false, false, false] rfl rfl (take_ofW HT_.out HW_.out (by kernel_rfl)) (fun _ _ _ h => h) (Or.inl ⟨by rfl, ?_⟩) hHeld ?_ ?_
 rotate_left
 ·
  rintro w' ⟨s0, s1, s2, s3, s4, s5, s6, s7⟩
  go_simp
  with_reducible rfl
 rotate_left
 ·
  simp only [Act.put, List.setIfInBounds_toArray, List.set_cons_zero, List.set_cons_succ, i64_w, i32_w]
  rfl
 refine take_ (i := 4) (N := some 15) (v := ?_) (a' := ?_) #[true, true, true, true, true, false, true, true, false, true, false, false, false, false, false, false] rfl rfl (take_ofW HT_.out HW_.out (by kernel_rfl)) (fun _ _ _ h => h) (Or.inl ⟨by rfl, ?_⟩) hHeld ?_ ?_
 rotate_left
 ·
  rintro w' ⟨s0, s1, s2, s3, s4, s5, s6, s7⟩
  go_simp
  with_reducible rfl
 rotate_left
 ·
  simp only [Act.put, List.setIfInBounds_toArray, List.set_cons_zero, List.set_cons_succ, i64_w, i32_w]
  rfl
 refine take_ (i := 8) (N := some 19) (v := ?_) (a' := ?_) #[true, true, true, true, true, false, true, true, true, true, false, false, false, false, false, false] rfl rfl (take_ofW HT_.out HW_.out (by kernel_rfl)) (fun _ _ _ h => h) (Or.inl ⟨by rfl, ?_⟩) hHeld ?_ ?_
 rotate_left
 ·
  rintro w' ⟨s0, s1, s2, s3, s4, s5, s6, s7⟩
  go_simp
  with_reducible rfl
 rotate_left
 ·
  simp only [Act.put, List.setIfInBounds_toArray, List.set_cons_zero, List.set_cons_succ, i64_w, i32_w]
  rfl
 refine take_ (i := 10) (N := some 21) (v := ?_) (a' := ?_) #[true, true, true, true, true, false, true, true, true, true, true, false, false, false, false, false] rfl rfl (take_ofW HT_.out HW_.out (by kernel_rfl)) (fun _ _ _ h => h) (Or.inl ⟨by rfl, ?_⟩) hHeld ?_ ?_
 rotate_left
 ·
  rintro w' ⟨s0, s1, s2, s3, s4, s5, s6, s7⟩
  go_simp
  with_reducible rfl
 rotate_left
 ·
  simp only [Act.put, List.setIfInBounds_toArray, List.set_cons_zero, List.set_cons_succ, i64_w, i32_w]
  rfl
 refine join_ (σ := Nat × Nat) 2 #[true, true, true, true, true, true, true, true, true, true, true, true, true, true, false, false] (fun s_ => [(16, .agg #[.int .i64 t859, .int .i64 t860]), (22, .agg #[.int .i64 t862, .int .i64 t863]), (7, .pointer (some ⟨s_.1, 0, none⟩)), (8, .pointer (some ⟨s_.2, 0, none⟩))]) (fun s_ w' => (w'.cell? ⟨gb856, 0, none⟩ = some (.int .i64 a1_0) ∧ w'.cell? ⟨gb856, 1, none⟩ = some (.int .i64 a1_1) ∧ w'.cell? ⟨gb856, 2, none⟩ = some (.int .i64 a1_2) ∧ w'.cell? ⟨gb856, 3, none⟩ = some (.int .i64 a1_3) ∧ w'.cell? ⟨gb857, 0, none⟩ = some (.int .i64 a2_0) ∧ w'.cell? ⟨gb857, 1, none⟩ = some (.int .i64 a2_1) ∧ w'.cell? ⟨gb857, 2, none⟩ = some (.int .i64 a2_2) ∧ w'.cell? ⟨gb857, 3, none⟩ = some (.int .i64 a2_3)) ∧ (w'.heap[gb856]? = some (.cells #[.int .i64 a1_0, .int .i64 a1_1, .int .i64 a1_2, .int .i64 a1_3] 29 (0, 0))) ∧ (w'.heap[gb857]? = some (.cells #[.int .i64 a2_0, .int .i64 a2_1, .int .i64 a2_2, .int .i64 a2_3] 29 (0, 0))) ∧ (w'.heap[gb858]? = some (.cells #[.int .i64 0, .int .i64 0, .int .i64 0, .int .i64 0] 29 (0, 0))) ∧ (w'.heap[s_.1]? = some (.cells #[.int .i64 0, .int .i64 0] 27 (0, 0))) ∧ (w'.heap[s_.2]? = some (.cells #[.int .i64 0, .int .i64 0] 27 (0, 0))) ∧ (w.heap.size ≤ s_.1) ∧ (w0.heap.size ≤ s_.1) ∧ (g ≠ s_.1) ∧ (s_.1 ≠ g) ∧ (gb856 ≠ s_.1) ∧ (s_.1 ≠ gb856) ∧ (gb857 ≠ s_.1) ∧ (s_.1 ≠ gb857) ∧ (gb858 ≠ s_.1) ∧ (s_.1 ≠ gb858) ∧ (s_.2 ≠ s_.1) ∧ (s_.1 ≠ s_.2) ∧ (w.heap.size ≤ s_.2) ∧ (w0.heap.size ≤ s_.2) ∧ (g ≠ s_.2) ∧ (s_.2 ≠ g) ∧ (gb856 ≠ s_.2) ∧ (s_.2 ≠ gb856) ∧ (gb857 ≠ s_.2) ∧ (s_.2 ≠ gb857) ∧ (gb858 ≠ s_.2) ∧ (s_.2 ≠ gb858) ∧ (IsS57 w0 w' g t864) ∧ (KeepBut w w' g none) ∧ (Below w0.heap.size w0 w')) ?_ ?_
 rotate_left
 ·
  intro hJ5_11_12_13
  refine join_ (σ := Nat) 3 #[true, true, true, true, true, true, true, true, true, true, true, true, true, false, false, false] (fun s_ => [(16, .agg #[.int .i64 t859, .int .i64 t860]), (22, .agg #[.int .i64 t862, .int .i64 t863]), (7, .pointer (some ⟨s_, 0, none⟩))]) (fun s_ w' => (w'.cell? ⟨gb856, 0, none⟩ = some (.int .i64 a1_0) ∧ w'.cell? ⟨gb856, 1, none⟩ = some (.int .i64 a1_1) ∧ w'.cell? ⟨gb856, 2, none⟩ = some (.int .i64 a1_2) ∧ w'.cell? ⟨gb856, 3, none⟩ = some (.int .i64 a1_3) ∧ w'.cell? ⟨gb857, 0, none⟩ = some (.int .i64 a2_0) ∧ w'.cell? ⟨gb857, 1, none⟩ = some (.int .i64 a2_1) ∧ w'.cell? ⟨gb857, 2, none⟩ = some (.int .i64 a2_2) ∧ w'.cell? ⟨gb857, 3, none⟩ = some (.int .i64 a2_3)) ∧ (w'.heap[gb856]? = some (.cells #[.int .i64 a1_0, .int .i64 a1_1, .int .i64 a1_2, .int .i64 a1_3] 29 (0, 0))) ∧ (w'.heap[gb857]? = some (.cells #[.int .i64 a2_0, .int .i64 a2_1, .int .i64 a2_2, .int .i64 a2_3] 29 (0, 0))) ∧ (w'.heap[gb858]? = some (.cells #[.int .i64 0, .int .i64 0, .int .i64 0, .int .i64 0] 29 (0, 0))) ∧ (w'.heap[s_]? = some (.cells #[.int .i64 0, .int .i64 0] 27 (0, 0))) ∧ (w.heap.size ≤ s_) ∧ (w0.heap.size ≤ s_) ∧ (g ≠ s_) ∧ (s_ ≠ g) ∧ (gb856 ≠ s_) ∧ (s_ ≠ gb856) ∧ (gb857 ≠ s_) ∧ (s_ ≠ gb857) ∧ (gb858 ≠ s_) ∧ (s_ ≠ gb858) ∧ (IsS57 w0 w' g t864) ∧ (KeepBut w w' g none) ∧ (Below w0.heap.size w0 w')) ?_ ?_
  rotate_left
  ·
   intro hJ5_11_12
   refine join_ (σ := Nat) 3 #[true, true, true, true, true, true, true, true, true, true, true, true, false, true, false, false] (fun s_ => [(16, .agg #[.int .i64 t859, .int .i64 t860]), (22, .agg #[.int .i64 t862, .int .i64 t863]), (8, .pointer (some ⟨s_, 0, none⟩))]) (fun s_ w' => (w'.cell? ⟨gb856, 0, none⟩ = some (.int .i64 a1_0) ∧ w'.cell? ⟨gb856, 1, none⟩ = some (.int .i64 a1_1) ∧ w'.cell? ⟨gb856, 2, none⟩ = some (.int .i64 a1_2) ∧ w'.cell? ⟨gb856, 3, none⟩ = some (.int .i64 a1_3) ∧ w'.cell? ⟨gb857, 0, none⟩ = some (.int .i64 a2_0) ∧ w'.cell? ⟨gb857, 1, none⟩ = some (.int .i64 a2_1) ∧ w'.cell? ⟨gb857, 2, none⟩ = some (.int .i64 a2_2) ∧ w'.cell? ⟨gb857, 3, none⟩ = some (.int .i64 a2_3)) ∧ (w'.heap[gb856]? = some (.cells #[.int .i64 a1_0, .int .i64 a1_1, .int .i64 a1_2, .int .i64 a1_3] 29 (0, 0))) ∧ (w'.heap[gb857]? = some (.cells #[.int .i64 a2_0, .int .i64 a2_1, .int .i64 a2_2, .int .i64 a2_3] 29 (0, 0))) ∧ (w'.heap[gb858]? = some (.cells #[.int .i64 0, .int .i64 0, .int .i64 0, .int .i64 0] 29 (0, 0))) ∧ (w'.heap[s_]? = some (.cells #[.int .i64 0, .int .i64 0] 27 (0, 0))) ∧ (w.heap.size ≤ s_) ∧ (w0.heap.size ≤ s_) ∧ (g ≠ s_) ∧ (s_ ≠ g) ∧ (gb856 ≠ s_) ∧ (s_ ≠ gb856) ∧ (gb857 ≠ s_) ∧ (s_ ≠ gb857) ∧ (gb858 ≠ s_) ∧ (s_ ≠ gb858) ∧ (IsS57 w0 w' g t864) ∧ (KeepBut w w' g none) ∧ (Below w0.heap.size w0 w')) ?_ ?_
   rotate_left
   ·
    intro hJ5_11_13
    refine join_ (σ := Nat × Nat) 3 #[true, true, true, true, true, true, true, true, true, true, true, false, true, true, false, false] (fun s_ => [(16, .agg #[.int .i64 t859, .int .i64 t860]), (7, .pointer (some ⟨s_.1, 0, none⟩)), (8, .pointer (some ⟨s_.2, 0, none⟩))]) (fun s_ w' => (w'.cell? ⟨gb856, 0, none⟩ = some (.int .i64 a1_0) ∧ w'.cell? ⟨gb856, 1, none⟩ = some (.int .i64 a1_1) ∧ w'.cell? ⟨gb856, 2, none⟩ = some (.int .i64 a1_2) ∧ w'.cell? ⟨gb856, 3, none⟩ = some (.int .i64 a1_3) ∧ w'.cell? ⟨gb857, 0, none⟩ = some (.int .i64 a2_0) ∧ w'.cell? ⟨gb857, 1, none⟩ = some (.int .i64 a2_1) ∧ w'.cell? ⟨gb857, 2, none⟩ = some (.int .i64 a2_2) ∧ w'.cell? ⟨gb857, 3, none⟩ = some (.int .i64 a2_3)) ∧ (w'.heap[gb856]? = some (.cells #[.int .i64 a1_0, .int .i64 a1_1, .int .i64 a1_2, .int .i64 a1_3] 29 (0, 0))) ∧ (w'.heap[gb857]? = some (.cells #[.int .i64 a2_0, .int .i64 a2_1, .int .i64 a2_2, .int .i64 a2_3] 29 (0, 0))) ∧ (w'.heap[gb858]? = some (.cells #[.int .i64 0, .int .i64 0, .int .i64 0, .int .i64 0] 29 (0, 0))) ∧ (w'.heap[s_.1]? = some (.cells #[.int .i64 0, .int .i64 0] 27 (0, 0))) ∧ (w'.heap[s_.2]? = some (.cells #[.int .i64 0, .int .i64 0] 27 (0, 0))) ∧ (w.heap.size ≤ s_.1) ∧ (w0.heap.size ≤ s_.1) ∧ (g ≠ s_.1) ∧ (s_.1 ≠ g) ∧ (gb856 ≠ s_.1) ∧ (s_.1 ≠ gb856) ∧ (gb857 ≠ s_.1) ∧ (s_.1 ≠ gb857) ∧ (gb858 ≠ s_.1) ∧ (s_.1 ≠ gb858) ∧ (s_.2 ≠ s_.1) ∧ (s_.1 ≠ s_.2) ∧ (w.heap.size ≤ s_.2) ∧ (w0.heap.size ≤ s_.2) ∧ (g ≠ s_.2) ∧ (s_.2 ≠ g) ∧ (gb856 ≠ s_.2) ∧ (s_.2 ≠ gb856) ∧ (gb857 ≠ s_.2) ∧ (s_.2 ≠ gb857) ∧ (gb858 ≠ s_.2) ∧ (s_.2 ≠ gb858) ∧ (IsS57 w0 w' g t861) ∧ (KeepBut w w' g none) ∧ (Below w0.heap.size w0 w')) ?_ ?_
    rotate_left
    ·
     intro hJ5_12_13
     refine join_ (σ := Unit) 4 #[true, true, true, true, true, true, true, true, true, true, true, true, false, false, false, false] (fun s_ => [(16, .agg #[.int .i64 t859, .int .i64 t860]), (22, .agg #[.int .i64 t862, .int .i64 t863])]) (fun s_ w' => (w'.cell? ⟨gb856, 0, none⟩ = some (.int .i64 a1_0) ∧ w'.cell? ⟨gb856, 1, none⟩ = some (.int .i64 a1_1) ∧ w'.cell? ⟨gb856, 2, none⟩ = some (.int .i64 a1_2) ∧ w'.cell? ⟨gb856, 3, none⟩ = some (.int .i64 a1_3) ∧ w'.cell? ⟨gb857, 0, none⟩ = some (.int .i64 a2_0) ∧ w'.cell? ⟨gb857, 1, none⟩ = some (.int .i64 a2_1) ∧ w'.cell? ⟨gb857, 2, none⟩ = some (.int .i64 a2_2) ∧ w'.cell? ⟨gb857, 3, none⟩ = some (.int .i64 a2_3)) ∧ (w'.heap[gb856]? = some (.cells #[.int .i64 a1_0, .int .i64 a1_1, .int .i64 a1_2, .int .i64 a1_3] 29 (0, 0))) ∧ (w'.heap[gb857]? = some (.cells #[.int .i64 a2_0, .int .i64 a2_1, .int .i64 a2_2, .int .i64 a2_3] 29 (0, 0))) ∧ (w'.heap[gb858]? = some (.cells #[.int .i64 0, .int .i64 0, .int .i64 0, .int .i64 0] 29 (0, 0))) ∧ (IsS57 w0 w' g t864) ∧ (KeepBut w w' g none) ∧ (Below w0.heap.size w0 w')) ?_ ?_
     rotate_left
     ·
      intro hJ5_11
      refine join_ (σ := Nat) 4 #[true, true, true, true, true, true, true, true, true, true, true, false, true, false, false, false] (fun s_ => [(16, .agg #[.int .i64 t859, .int .i64 t860]), (7, .pointer (some ⟨s_, 0, none⟩))]) (fun s_ w' => (w'.cell? ⟨gb856, 0, none⟩ = some (.int .i64 a1_0) ∧ w'.cell? ⟨gb856, 1, none⟩ = some (.int .i64 a1_1) ∧ w'.cell? ⟨gb856, 2, none⟩ = some (.int .i64 a1_2) ∧ w'.cell? ⟨gb856, 3, none⟩ = some (.int .i64 a1_3) ∧ w'.cell? ⟨gb857, 0, none⟩ = some (.int .i64 a2_0) ∧ w'.cell? ⟨gb857, 1, none⟩ = some (.int .i64 a2_1) ∧ w'.cell? ⟨gb857, 2, none⟩ = some (.int .i64 a2_2) ∧ w'.cell? ⟨gb857, 3, none⟩ = some (.int .i64 a2_3)) ∧ (w'.heap[gb856]? = some (.cells #[.int .i64 a1_0, .int .i64 a1_1, .int .i64 a1_2, .int .i64 a1_3] 29 (0, 0))) ∧ (w'.heap[gb857]? = some (.cells #[.int .i64 a2_0, .int .i64 a2_1, .int .i64 a2_2, .int .i64 a2_3] 29 (0, 0))) ∧ (w'.heap[gb858]? = some (.cells #[.int .i64 0, .int .i64 0, .int .i64 0, .int .i64 0] 29 (0, 0))) ∧ (w'.heap[s_]? = some (.cells #[.int .i64 0, .int .i64 0] 27 (0, 0))) ∧ (w.heap.size ≤ s_) ∧ (w0.heap.size ≤ s_) ∧ (g ≠ s_) ∧ (s_ ≠ g) ∧ (gb856 ≠ s_) ∧ (s_ ≠ gb856) ∧ (gb857 ≠ s_) ∧ (s_ ≠ gb857) ∧ (gb858 ≠ s_) ∧ (s_ ≠ gb858) ∧ (IsS57 w0 w' g t861) ∧ (KeepBut w w' g none) ∧ (Below w0.heap.size w0 w')) ?_ ?_
      rotate_left
      ·
       intro hJ5_12
       refine join_ (σ := Nat) 4 #[true, true, true, true, true, true, true, true, true, true, true, false, false, true, false, false] (fun s_ => [(16, .agg #[.int .i64 t859, .int .i64 t860]), (8, .pointer (some ⟨s_, 0, none⟩))]) (fun s_ w' => (w'.cell? ⟨gb856, 0, none⟩ = some (.int .i64 a1_0) ∧ w'.cell? ⟨gb856, 1, none⟩ = some (.int .i64 a1_1) ∧ w'.cell? ⟨gb856, 2, none⟩ = some (.int .i64 a1_2) ∧ w'.cell? ⟨gb856, 3, none⟩ = some (.int .i64 a1_3) ∧ w'.cell? ⟨gb857, 0, none⟩ = some (.int .i64 a2_0) ∧ w'.cell? ⟨gb857, 1, none⟩ = some (.int .i64 a2_1) ∧ w'.cell? ⟨gb857, 2, none⟩ = some (.int .i64 a2_2) ∧ w'.cell? ⟨gb857, 3, none⟩ = some (.int .i64 a2_3)) ∧ (w'.heap[gb856]? = some (.cells #[.int .i64 a1_0, .int .i64 a1_1, .int .i64 a1_2, .int .i64 a1_3] 29 (0, 0))) ∧ (w'.heap[gb857]? = some (.cells #[.int .i64 a2_0, .int .i64 a2_1, .int .i64 a2_2, .int .i64 a2_3] 29 (0, 0))) ∧ (w'.heap[gb858]? = some (.cells #[.int .i64 0, .int .i64 0, .int .i64 0, .int .i64 0] 29 (0, 0))) ∧ (w'.heap[s_]? = some (.cells #[.int .i64 0, .int .i64 0] 27 (0, 0))) ∧ (w.heap.size ≤ s_) ∧ (w0.heap.size ≤ s_) ∧ (g ≠ s_) ∧ (s_ ≠ g) ∧ (gb856 ≠ s_) ∧ (s_ ≠ gb856) ∧ (gb857 ≠ s_) ∧ (s_ ≠ gb857) ∧ (gb858 ≠ s_) ∧ (s_ ≠ gb858) ∧ (IsS57 w0 w' g t861) ∧ (KeepBut w w' g none) ∧ (Below w0.heap.size w0 w')) ?_ ?_
       rotate_left
       ·
        intro hJ5_13
        refine join_ (σ := Nat × Nat) 4 #[true, true, true, true, true, false, true, true, true, true, true, false, true, true, false, false] (fun s_ => [(7, .pointer (some ⟨s_.1, 0, none⟩)), (8, .pointer (some ⟨s_.2, 0, none⟩))]) (fun s_ w' => (w'.cell? ⟨gb856, 0, none⟩ = some (.int .i64 a1_0) ∧ w'.cell? ⟨gb856, 1, none⟩ = some (.int .i64 a1_1) ∧ w'.cell? ⟨gb856, 2, none⟩ = some (.int .i64 a1_2) ∧ w'.cell? ⟨gb856, 3, none⟩ = some (.int .i64 a1_3) ∧ w'.cell? ⟨gb857, 0, none⟩ = some (.int .i64 a2_0) ∧ w'.cell? ⟨gb857, 1, none⟩ = some (.int .i64 a2_1) ∧ w'.cell? ⟨gb857, 2, none⟩ = some (.int .i64 a2_2) ∧ w'.cell? ⟨gb857, 3, none⟩ = some (.int .i64 a2_3)) ∧ (w'.heap[gb856]? = some (.cells #[.int .i64 a1_0, .int .i64 a1_1, .int .i64 a1_2, .int .i64 a1_3] 29 (0, 0))) ∧ (w'.heap[gb857]? = some (.cells #[.int .i64 a2_0, .int .i64 a2_1, .int .i64 a2_2, .int .i64 a2_3] 29 (0, 0))) ∧ (w'.heap[gb858]? = some (.cells #[.int .i64 0, .int .i64 0, .int .i64 0, .int .i64 0] 29 (0, 0))) ∧ (w'.heap[s_.1]? = some (.cells #[.int .i64 0, .int .i64 0] 27 (0, 0))) ∧ (w'.heap[s_.2]? = some (.cells #[.int .i64 0, .int .i64 0] 27 (0, 0))) ∧ (w.heap.size ≤ s_.1) ∧ (w0.heap.size ≤ s_.1) ∧ (g ≠ s_.1) ∧ (s_.1 ≠ g) ∧ (gb856 ≠ s_.1) ∧ (s_.1 ≠ gb856) ∧ (gb857 ≠ s_.1) ∧ (s_.1 ≠ gb857) ∧ (gb858 ≠ s_.1) ∧ (s_.1 ≠ gb858) ∧ (s_.2 ≠ s_.1) ∧ (s_.1 ≠ s_.2) ∧ (w.heap.size ≤ s_.2) ∧ (w0.heap.size ≤ s_.2) ∧ (g ≠ s_.2) ∧ (s_.2 ≠ g) ∧ (gb856 ≠ s_.2) ∧ (s_.2 ≠ gb856) ∧ (gb857 ≠ s_.2) ∧ (s_.2 ≠ gb857) ∧ (gb858 ≠ s_.2) ∧ (s_.2 ≠ gb858) ∧ (IsS57 w0 w' g s0_0) ∧ (KeepBut w w' g none) ∧ (Below w0.heap.size w0 w')) ?_ ?_
        rotate_left
        ·
         intro hJ12_13
         refine join_ (σ := Unit) 5 #[true, true, true, true, true, true, true, true, true, true, true, false, false, false, false, false] (fun s_ => [(16, .agg #[.int .i64 t859, .int .i64 t860])]) (fun s_ w' => (w'.cell? ⟨gb856, 0, none⟩ = some (.int .i64 a1_0) ∧ w'.cell? ⟨gb856, 1, none⟩ = some (.int .i64 a1_1) ∧ w'.cell? ⟨gb856, 2, none⟩ = some (.int .i64 a1_2) ∧ w'.cell? ⟨gb856, 3, none⟩ = some (.int .i64 a1_3) ∧ w'.cell? ⟨gb857, 0, none⟩ = some (.int .i64 a2_0) ∧ w'.cell? ⟨gb857, 1, none⟩ = some (.int .i64 a2_1) ∧ w'.cell? ⟨gb857, 2, none⟩ = some (.int .i64 a2_2) ∧ w'.cell? ⟨gb857, 3, none⟩ = some (.int .i64 a2_3)) ∧ (w'.heap[gb856]? = some (.cells #[.int .i64 a1_0, .int .i64 a1_1, .int .i64 a1_2, .int .i64 a1_3] 29 (0, 0))) ∧ (w'.heap[gb857]? = some (.cells #[.int .i64 a2_0, .int .i64 a2_1, .int .i64 a2_2, .int .i64 a2_3] 29 (0, 0))) ∧ (w'.heap[gb858]? = some (.cells #[.int .i64 0, .int .i64 0, .int .i64 0, .int .i64 0] 29 (0, 0))) ∧ (IsS57 w0 w' g t861) ∧ (KeepBut w w' g none) ∧ (Below w0.heap.size w0 w')) ?_ ?_
         rotate_left
         ·
          intro hJ5
          refine join_ (σ := Nat) 5 #[true, true, true, true, true, false, true, true, true, true, true, false, true, false, false, false] (fun s_ => [(7, .pointer (some ⟨s_, 0, none⟩))]) (fun s_ w' => (w'.cell? ⟨gb856, 0, none⟩ = some (.int .i64 a1_0) ∧ w'.cell? ⟨gb856, 1, none⟩ = some (.int .i64 a1_1) ∧ w'.cell? ⟨gb856, 2, none⟩ = some (.int .i64 a1_2) ∧ w'.cell? ⟨gb856, 3, none⟩ = some (.int .i64 a1_3) ∧ w'.cell? ⟨gb857, 0, none⟩ = some (.int .i64 a2_0) ∧ w'.cell? ⟨gb857, 1, none⟩ = some (.int .i64 a2_1) ∧ w'.cell? ⟨gb857, 2, none⟩ = some (.int .i64 a2_2) ∧ w'.cell? ⟨gb857, 3, none⟩ = some (.int .i64 a2_3)) ∧ (w'.heap[gb856]? = some (.cells #[.int .i64 a1_0, .int .i64 a1_1, .int .i64 a1_2, .int .i64 a1_3] 29 (0, 0))) ∧ (w'.heap[gb857]? = some (.cells #[.int .i64 a2_0, .int .i64 a2_1, .int .i64 a2_2, .int .i64 a2_3] 29 (0, 0))) ∧ (w'.heap[gb858]? = some (.cells #[.int .i64 0, .int .i64 0, .int .i64 0, .int .i64 0] 29 (0, 0))) ∧ (w'.heap[s_]? = some (.cells #[.int .i64 0, .int .i64 0] 27 (0, 0))) ∧ (w.heap.size ≤ s_) ∧ (w0.heap.size ≤ s_) ∧ (g ≠ s_) ∧ (s_ ≠ g) ∧ (gb856 ≠ s_) ∧ (s_ ≠ gb856) ∧ (gb857 ≠ s_) ∧ (s_ ≠ gb857) ∧ (gb858 ≠ s_) ∧ (s_ ≠ gb858) ∧ (IsS57 w0 w' g s0_0) ∧ (KeepBut w w' g none) ∧ (Below w0.heap.size w0 w')) ?_ ?_
          rotate_left
          ·
           intro hJ12
           refine join_ (σ := Nat) 5 #[true, true, true, true, true, false, true, true, true, true, true, false, false, true, false, false] (fun s_ => [(8, .pointer (some ⟨s_, 0, none⟩))]) (fun s_ w' => (w'.cell? ⟨gb856, 0, none⟩ = some (.int .i64 a1_0) ∧ w'.cell? ⟨gb856, 1, none⟩ = some (.int .i64 a1_1) ∧ w'.cell? ⟨gb856, 2, none⟩ = some (.int .i64 a1_2) ∧ w'.cell? ⟨gb856, 3, none⟩ = some (.int .i64 a1_3) ∧ w'.cell? ⟨gb857, 0, none⟩ = some (.int .i64 a2_0) ∧ w'.cell? ⟨gb857, 1, none⟩ = some (.int .i64 a2_1) ∧ w'.cell? ⟨gb857, 2, none⟩ = some (.int .i64 a2_2) ∧ w'.cell? ⟨gb857, 3, none⟩ = some (.int .i64 a2_3)) ∧ (w'.heap[gb856]? = some (.cells #[.int .i64 a1_0, .int .i64 a1_1, .int .i64 a1_2, .int .i64 a1_3] 29 (0, 0))) ∧ (w'.heap[gb857]? = some (.cells #[.int .i64 a2_0, .int .i64 a2_1, .int .i64 a2_2, .int .i64 a2_3] 29 (0, 0))) ∧ (w'.heap[gb858]? = some (.cells #[.int .i64 0, .int .i64 0, .int .i64 0, .int .i64 0] 29 (0, 0))) ∧ (w'.heap[s_]? = some (.cells #[.int .i64 0, .int .i64 0] 27 (0, 0))) ∧ (w.heap.size ≤ s_) ∧ (w0.heap.size ≤ s_) ∧ (g ≠ s_) ∧ (s_ ≠ g) ∧ (gb856 ≠ s_) ∧ (s_ ≠ gb856) ∧ (gb857 ≠ s_) ∧ (s_ ≠ gb857) ∧ (gb858 ≠ s_) ∧ (s_ ≠ gb858) ∧ (IsS57 w0 w' g s0_0) ∧ (KeepBut w w' g none) ∧ (Below w0.heap.size w0 w')) ?_ ?_
           rotate_left
           ·
            intro hJ13
            refine three_ (i := 5) (j := 12) (k := 13) (Ni := some 16) (Nj := some 7) (Nk := some 8) #[true, true, true, true, true, true, true, true, true, true, true, false, false, false, false, false] #[true, true, true, true, true, false, true, true, true, true, true, false, true, false, false, false] #[true, true, true, true, true, false, true, true, true, true, true, false, false, true, false, false] rfl rfl rfl rfl rfl rfl (three_of HT_.out (by kernel_rfl)) (by decide) (by decide) (by decide) (fun K hK => ?_) (fun K hK => ?_) (fun K hK => ?_)
            ·
             refine goes_ Try.func94 (by kernel_rfl) rfl #[.pointer (some ⟨g, 0, none⟩), .agg #[.int .i64 a1_0, .int .i64 a1_1], .agg #[.int .i64 a2_0, .int .i64 a2_1]] (by rfl) rfl rfl zq6 ?_
             with_reducible refine (impl_reckoner_product.calls k g s0_0 a1_0 a1_1 a2_0 a2_1 t859 t860 t861 w0 _ ?side1 ?side2 A4.out).mono ?_
             (case side1 => exact z68_3 HI0)
             (case side2 => exact z68_5 HB)
             rintro e w19 ⟨rfl, hi, hb, hk⟩
             refine ⟨_, rfl, ?_⟩
             replace BK856 := Aside0.mk (KeepBut.blk hk (zq1 BK856) NB856_0.out (by simp)); replace BK857 := Aside0.mk (KeepBut.blk hk (zq1 BK857) NB857_0.out (by simp)); replace BK858 := Aside0.mk (KeepBut.blk hk (zq1 BK858) NB858_0.out (by simp)); replace HK := Aside0.mk (KeepBut.trans (z68_4 HK) hk (.inl rfl)); replace HB := Aside0.mk (hb); replace HI0 := Aside0.mk (hi)
             (try clear hb)
             (try clear hb2)
             (try clear hk)
             (try clear hi)
             refine hK.out _ _ ⟨zc BK856 0, zc BK856 1, zc BK856 2, zc BK856 3, zc BK857 0, zc BK857 1, zc BK857 2, zc BK857 3⟩ (fun hHeld => ?_)
             clear hK K
             refine norm_ (a' := ?_) ?_ ?_
             rotate_left
             ·
              show Act.put _ (some 16) _ = _
              simp only [Act.put, List.setIfInBounds_toArray, List.set_cons_zero, List.set_cons_succ, i64_w, i32_w]; rfl
             exact norm_ zq4 (hJ5 () _ ⟨hHeld, (zq1 BK856), (zq1 BK857), (zq1 BK858), (z68_3 HI0), (z68_4 HK), (z68_5 HB)⟩)
            ·
             refine box_step ?hg (N := 7) ?hd (cs := #[.int .i64 0, .int .i64 0]) (t := 27) ?hr ?_; (case hd => rfl); (case hg => rfl); (case hr => first | (go_simp; done) | (go_simp; rfl))
             intro gb865 hg w19 hbox hb
             have n0_ := Aside0.mk (IsS57.below (z68_3 HI0) hb)
             have n1_ := Aside0.mk (zbb BK856 hb)
             have n2_ := Aside0.mk (zbb BK857 hb)
             have n3_ := Aside0.mk (zbb BK858 hb)
             have n4_ := Aside0.mk (KeepBut.trans (z68_4 HK) (KeepBut.of_below hb g none) (.inl rfl))
             have n5_ := Aside0.mk (below_step (z68_5 HB) hb)
             have BK865 := Aside0.mk (hbox)
             have GW865 := Aside0.mk ((by rw [hg]; exact (keep_size (w := w) (g := g) (row := none) (z68_4 HK)) : w.heap.size ≤ gb865))
             have GE865 := Aside0.mk ((Nat.le_trans HW0.out (by rw [hg]; exact (keep_size (w := w) (g := g) (row := none) (z68_4 HK)) : w.heap.size ≤ gb865) : w0.heap.size ≤ gb865))
             have NB856_865 := Aside0.mk (zlt BK856 hg)
             have NB865_856 := Aside0.mk (zgt BK856 hg)
             have NB857_865 := Aside0.mk (zlt BK857 hg)
             have NB865_857 := Aside0.mk (zgt BK857 hg)
             have NB858_865 := Aside0.mk (zlt BK858 hg)
             have NB865_858 := Aside0.mk (zgt BK858 hg)
             have NB0_865 := Aside0.mk ((by rw [hg]; exact Nat.ne_of_lt (IsS57.lt (show IsS57 w0 _ g s0_0 from (z68_3 HI0))) : g ≠ gb865))
             have NB865_0 := Aside0.mk ((by rw [hg]; exact Nat.ne_of_gt (IsS57.lt (show IsS57 w0 _ g s0_0 from (z68_3 HI0))) : gb865 ≠ g))
             clear HI0 BK856 BK857 BK858 HK HB
             have HI0 := n0_; have BK856 := n1_; have BK857 := n2_; have BK858 := n3_; have HK := n4_; have HB := n5_
             clear n0_ n1_ n2_ n3_ n4_ n5_ hb hbox hg
             refine hK.out _ _ ⟨zc BK856 0, zc BK856 1, zc BK856 2, zc BK856 3, zc BK857 0, zc BK857 1, zc BK857 2, zc BK857 3⟩ (fun hHeld => ?_)
             clear hK K
             refine norm_ (a' := ?_) ?_ ?_
             rotate_left
             ·
              show Act.put _ (some 7) _ = _
              simp only [Act.put, List.setIfInBounds_toArray, List.set_cons_zero, List.set_cons_succ, i64_w, i32_w]; rfl
             exact norm_ zq4 (hJ12 (gb865) _ ⟨hHeld, (zq1 BK856), (zq1 BK857), (zq1 BK858), (zq1 BK865), GW865.out, GE865.out, NB0_865.out, NB865_0.out, NB856_865.out, NB865_856.out, NB857_865.out, NB865_857.out, NB858_865.out, NB865_858.out, (z68_3 HI0), (z68_4 HK), (z68_5 HB)⟩)
            ·
             refine box_step ?hg (N := 8) ?hd (cs := #[.int .i64 0, .int .i64 0]) (t := 27) ?hr ?_; (case hd => rfl); (case hg => rfl); (case hr => first | (go_simp; done) | (go_simp; rfl))
             intro gb866 hg w19 hbox hb
             have n0_ := Aside0.mk (IsS57.below (z68_3 HI0) hb)
             have n1_ := Aside0.mk (zbb BK856 hb)
             have n2_ := Aside0.mk (zbb BK857 hb)
             have n3_ := Aside0.mk (zbb BK858 hb)
             have n4_ := Aside0.mk (KeepBut.trans (z68_4 HK) (KeepBut.of_below hb g none) (.inl rfl))
             have n5_ := Aside0.mk (below_step (z68_5 HB) hb)
             have BK866 := Aside0.mk (hbox)
             have GW866 := Aside0.mk ((by rw [hg]; exact (keep_size (w := w) (g := g) (row := none) (z68_4 HK)) : w.heap.size ≤ gb866))
             have GE866 := Aside0.mk ((Nat.le_trans HW0.out (by rw [hg]; exact (keep_size (w := w) (g := g) (row := none) (z68_4 HK)) : w.heap.size ≤ gb866) : w0.heap.size ≤ gb866))
             have NB856_866 := Aside0.mk (zlt BK856 hg)
             have NB866_856 := Aside0.mk (zgt BK856 hg)
             have NB857_866 := Aside0.mk (zlt BK857 hg)
             have NB866_857 := Aside0.mk (zgt BK857 hg)
             have NB858_866 := Aside0.mk (zlt BK858 hg)
             have NB866_858 := Aside0.mk (zgt BK858 hg)
             have NB0_866 := Aside0.mk ((by rw [hg]; exact Nat.ne_of_lt (IsS57.lt (show IsS57 w0 _ g s0_0 from (z68_3 HI0))) : g ≠ gb866))
             have NB866_0 := Aside0.mk ((by rw [hg]; exact Nat.ne_of_gt (IsS57.lt (show IsS57 w0 _ g s0_0 from (z68_3 HI0))) : gb866 ≠ g))
             clear HI0 BK856 BK857 BK858 HK HB
             have HI0 := n0_; have BK856 := n1_; have BK857 := n2_; have BK858 := n3_; have HK := n4_; have HB := n5_
             clear n0_ n1_ n2_ n3_ n4_ n5_ hb hbox hg
             refine hK.out _ _ ⟨zc BK856 0, zc BK856 1, zc BK856 2, zc BK856 3, zc BK857 0, zc BK857 1, zc BK857 2, zc BK857 3⟩ (fun hHeld => ?_)
             clear hK K
             refine norm_ (a' := ?_) ?_ ?_
             rotate_left
             ·
              show Act.put _ (some 8) _ = _
              simp only [Act.put, List.setIfInBounds_toArray, List.set_cons_zero, List.set_cons_succ, i64_w, i32_w]; rfl
             exact norm_ zq4 (hJ13 (gb866) _ ⟨hHeld, (zq1 BK856), (zq1 BK857), (zq1 BK858), (zq1 BK866), GW866.out, GE866.out, NB0_866.out, NB866_0.out, NB856_866.out, NB866_856.out, NB857_866.out, NB866_857.out, NB858_866.out, NB866_858.out, (z68_3 HI0), (z68_4 HK), (z68_5 HB)⟩)
           ·
            rintro gb866 w20 ⟨hS_, h0_, h1_, h2_, h3_, h4_, h5_, h6_, h7_, h8_, h9_, h10_, h11_, h12_, h13_, h14_, h15_, h16_⟩
            have BK866 : Aside0 (w20.heap[gb866]? = some (.cells #[.int .i64 0, .int .i64 0] 27 (0, 0))) := ⟨h3_⟩
            have GW866 : Aside0 (w.heap.size ≤ gb866) := ⟨h4_⟩
            have GE866 : Aside0 (w0.heap.size ≤ gb866) := ⟨h5_⟩
            have NB0_866 : Aside0 (g ≠ gb866) := ⟨h6_⟩
            have NB866_0 : Aside0 (gb866 ≠ g) := ⟨h7_⟩
            have NB856_866 : Aside0 (gb856 ≠ gb866) := ⟨h8_⟩
            have NB866_856 : Aside0 (gb866 ≠ gb856) := ⟨h9_⟩
            have NB857_866 : Aside0 (gb857 ≠ gb866) := ⟨h10_⟩
            have NB866_857 : Aside0 (gb866 ≠ gb857) := ⟨h11_⟩
            have NB858_866 : Aside0 (gb858 ≠ gb866) := ⟨h12_⟩
            have NB866_858 : Aside0 (gb866 ≠ gb858) := ⟨h13_⟩
            replace BK856 : Aside0 (w20.heap[gb856]? = some (.cells #[.int .i64 a1_0, .int .i64 a1_1, .int .i64 a1_2, .int .i64 a1_3] 29 (0, 0))) := ⟨h0_⟩; replace BK857 : Aside0 (w20.heap[gb857]? = some (.cells #[.int .i64 a2_0, .int .i64 a2_1, .int .i64 a2_2, .int .i64 a2_3] 29 (0, 0))) := ⟨h1_⟩; replace BK858 : Aside0 (w20.heap[gb858]? = some (.cells #[.int .i64 0, .int .i64 0, .int .i64 0, .int .i64 0] 29 (0, 0))) := ⟨h2_⟩; replace HI0 : Aside0 (IsS57 w0 w20 g s0_0) := ⟨h14_⟩; replace HK : Aside0 (KeepBut w w20 g none) := ⟨h15_⟩; replace HB : Aside0 (Below w0.heap.size w0 w20) := ⟨h16_⟩
            clear h0_ h10_ h11_ h12_ h13_ h14_ h15_ h16_ h1_ h2_ h3_ h4_ h5_ h6_ h7_ h8_ h9_
            have hHeld : w20.cell? ⟨gb856, 0, none⟩ = some (.int .i64 a1_0) ∧ w20.cell? ⟨gb856, 1, none⟩ = some (.int .i64 a1_1) ∧ w20.cell? ⟨gb856, 2, none⟩ = some (.int .i64 a1_2) ∧ w20.cell? ⟨gb856, 3, none⟩ = some (.int .i64 a1_3) ∧ w20.cell? ⟨gb857, 0, none⟩ = some (.int .i64 a2_0) ∧ w20.cell? ⟨gb857, 1, none⟩ = some (.int .i64 a2_1) ∧ w20.cell? ⟨gb857, 2, none⟩ = some (.int .i64 a2_2) ∧ w20.cell? ⟨gb857, 3, none⟩ = some (.int .i64 a2_3) := hS_
            refine norm_ (a' := ?_) ?_ ?_
            rotate_left
            ·
             simp only [putAll, Act.put, List.setIfInBounds_toArray, List.set_cons_zero, List.set_cons_succ]
             rfl
            refine two_ (i := 5) (j := 12) (Ni := some 16) (Nj := some 7) #[true, true, true, true, true, true, true, true, true, true, true, false, false, true, false, false] #[true, true, true, true, true, false, true, true, true, true, true, false, true, true, false, false] rfl rfl rfl rfl (two_of HT_.out (by kernel_rfl)) (by decide) (by decide) (fun K hK => ?_) (fun K hK => ?_)
            ·
             refine goes_ Try.func94 (by kernel_rfl) rfl #[.pointer (some ⟨g, 0, none⟩), .agg #[.int .i64 a1_0, .int .i64 a1_1], .agg #[.int .i64 a2_0, .int .i64 a2_1]] (by rfl) rfl rfl zq6 ?_
             with_reducible refine (impl_reckoner_product.calls k g s0_0 a1_0 a1_1 a2_0 a2_1 t859 t860 t861 w0 _ ?side1 ?side2 A4.out).mono ?_
             (case side1 => exact z68_3 HI0)
             (case side2 => exact z68_5 HB)
             rintro e w21 ⟨rfl, hi, hb, hk⟩
             refine ⟨_, rfl, ?_⟩
             replace BK856 := Aside0.mk (KeepBut.blk hk (zq1 BK856) NB856_0.out (by simp)); replace BK857 := Aside0.mk (KeepBut.blk hk (zq1 BK857) NB857_0.out (by simp)); replace BK858 := Aside0.mk (KeepBut.blk hk (zq1 BK858) NB858_0.out (by simp)); replace BK866 := Aside0.mk (KeepBut.blk hk (zq1 BK866) NB866_0.out (by simp)); replace HK := Aside0.mk (KeepBut.trans (z68_4 HK) hk (.inl rfl)); replace HB := Aside0.mk (hb); replace HI0 := Aside0.mk (hi)
             (try clear hb)
             (try clear hb2)
             (try clear hk)
             (try clear hi)
             refine hK.out _ _ ⟨zc BK856 0, zc BK856 1, zc BK856 2, zc BK856 3, zc BK857 0, zc BK857 1, zc BK857 2, zc BK857 3⟩ (fun hHeld => ?_)
             clear hK K
             refine norm_ (a' := ?_) ?_ ?_
             rotate_left
             ·
              show Act.put _ (some 16) _ = _
              simp only [Act.put, List.setIfInBounds_toArray, List.set_cons_zero, List.set_cons_succ, i64_w, i32_w]; rfl
             exact norm_ zq4 (hJ5_13 (gb866) _ ⟨hHeld, (zq1 BK856), (zq1 BK857), (zq1 BK858), (zq1 BK866), GW866.out, GE866.out, NB0_866.out, NB866_0.out, NB856_866.out, NB866_856.out, NB857_866.out, NB866_857.out, NB858_866.out, NB866_858.out, (z68_3 HI0), (z68_4 HK), (z68_5 HB)⟩)
            ·
             refine box_step ?hg (N := 7) ?hd (cs := #[.int .i64 0, .int .i64 0]) (t := 27) ?hr ?_; (case hd => rfl); (case hg => rfl); (case hr => first | (go_simp; done) | (go_simp; rfl))
             intro gb865 hg w21 hbox hb
             have n0_ := Aside0.mk (IsS57.below (z68_3 HI0) hb)
             have n1_ := Aside0.mk (zbb BK856 hb)
             have n2_ := Aside0.mk (zbb BK857 hb)
             have n3_ := Aside0.mk (zbb BK858 hb)
             have n4_ := Aside0.mk (zbb BK866 hb)
             have n5_ := Aside0.mk (KeepBut.trans (z68_4 HK) (KeepBut.of_below hb g none) (.inl rfl))
             have n6_ := Aside0.mk (below_step (z68_5 HB) hb)
             have BK865 := Aside0.mk (hbox)
             have GW865 := Aside0.mk ((by rw [hg]; exact (keep_size (w := w) (g := g) (row := none) (z68_4 HK)) : w.heap.size ≤ gb865))
             have GE865 := Aside0.mk ((Nat.le_trans HW0.out (by rw [hg]; exact (keep_size (w := w) (g := g) (row := none) (z68_4 HK)) : w.heap.size ≤ gb865) : w0.heap.size ≤ gb865))
             have NB856_865 := Aside0.mk (zlt BK856 hg)
             have NB865_856 := Aside0.mk (zgt BK856 hg)
             have NB857_865 := Aside0.mk (zlt BK857 hg)
             have NB865_857 := Aside0.mk (zgt BK857 hg)
             have NB858_865 := Aside0.mk (zlt BK858 hg)
             have NB865_858 := Aside0.mk (zgt BK858 hg)
             have NB866_865 := Aside0.mk (zlt BK866 hg)
             have NB865_866 := Aside0.mk (zgt BK866 hg)
             have NB0_865 := Aside0.mk ((by rw [hg]; exact Nat.ne_of_lt (IsS57.lt (show IsS57 w0 _ g s0_0 from (z68_3 HI0))) : g ≠ gb865))
             have NB865_0 := Aside0.mk ((by rw [hg]; exact Nat.ne_of_gt (IsS57.lt (show IsS57 w0 _ g s0_0 from (z68_3 HI0))) : gb865 ≠ g))
             clear HI0 BK856 BK857 BK858 BK866 HK HB
             have HI0 := n0_; have BK856 := n1_; have BK857 := n2_; have BK858 := n3_; have BK866 := n4_; have HK := n5_; have HB := n6_
             clear n0_ n1_ n2_ n3_ n4_ n5_ n6_ hb hbox hg
             refine hK.out _ _ ⟨zc BK856 0, zc BK856 1, zc BK856 2, zc BK856 3, zc BK857 0, zc BK857 1, zc BK857 2, zc BK857 3⟩ (fun hHeld => ?_)
             clear hK K
             refine norm_ (a' := ?_) ?_ ?_
             rotate_left
             ·
              show Act.put _ (some 7) _ = _
              simp only [Act.put, List.setIfInBounds_toArray, List.set_cons_zero, List.set_cons_succ, i64_w, i32_w]; rfl
             exact norm_ zq4 (hJ12_13 (gb865, gb866) _ ⟨hHeld, (zq1 BK856), (zq1 BK857), (zq1 BK858), (zq1 BK865), (zq1 BK866), GW865.out, GE865.out, NB0_865.out, NB865_0.out, NB856_865.out, NB865_856.out, NB857_865.out, NB865_857.out, NB858_865.out, NB865_858.out, NB866_865.out, NB865_866.out, GW866.out, GE866.out, NB0_866.out, NB866_0.out, NB856_866.out, NB866_856.out, NB857_866.out, NB866_857.out, NB858_866.out, NB866_858.out, (z68_3 HI0), (z68_4 HK), (z68_5 HB)⟩)
          ·
           rintro gb865 w20 ⟨hS_, h0_, h1_, h2_, h3_, h4_, h5_, h6_, h7_, h8_, h9_, h10_, h11_, h12_, h13_, h14_, h15_, h16_⟩
           have BK865 : Aside0 (w20.heap[gb865]? = some (.cells #[.int .i64 0, .int .i64 0] 27 (0, 0))) := ⟨h3_⟩
           have GW865 : Aside0 (w.heap.size ≤ gb865) := ⟨h4_⟩
           have GE865 : Aside0 (w0.heap.size ≤ gb865) := ⟨h5_⟩
           have NB0_865 : Aside0 (g ≠ gb865) := ⟨h6_⟩
           have NB865_0 : Aside0 (gb865 ≠ g) := ⟨h7_⟩
           have NB856_865 : Aside0 (gb856 ≠ gb865) := ⟨h8_⟩
           have NB865_856 : Aside0 (gb865 ≠ gb856) := ⟨h9_⟩
           have NB857_865 : Aside0 (gb857 ≠ gb865) := ⟨h10_⟩
           have NB865_857 : Aside0 (gb865 ≠ gb857) := ⟨h11_⟩
           have NB858_865 : Aside0 (gb858 ≠ gb865) := ⟨h12_⟩
           have NB865_858 : Aside0 (gb865 ≠ gb858) := ⟨h13_⟩
           replace BK856 : Aside0 (w20.heap[gb856]? = some (.cells #[.int .i64 a1_0, .int .i64 a1_1, .int .i64 a1_2, .int .i64 a1_3] 29 (0, 0))) := ⟨h0_⟩; replace BK857 : Aside0 (w20.heap[gb857]? = some (.cells #[.int .i64 a2_0, .int .i64 a2_1, .int .i64 a2_2, .int .i64 a2_3] 29 (0, 0))) := ⟨h1_⟩; replace BK858 : Aside0 (w20.heap[gb858]? = some (.cells #[.int .i64 0, .int .i64 0, .int .i64 0, .int .i64 0] 29 (0, 0))) := ⟨h2_⟩; replace HI0 : Aside0 (IsS57 w0 w20 g s0_0) := ⟨h14_⟩; replace HK : Aside0 (KeepBut w w20 g none) := ⟨h15_⟩; replace HB : Aside0 (Below w0.heap.size w0 w20) := ⟨h16_⟩
           clear h0_ h10_ h11_ h12_ h13_ h14_ h15_ h16_ h1_ h2_ h3_ h4_ h5_ h6_ h7_ h8_ h9_
           have hHeld : w20.cell? ⟨gb856, 0, none⟩ = some (.int .i64 a1_0) ∧ w20.cell? ⟨gb856, 1, none⟩ = some (.int .i64 a1_1) ∧ w20.cell? ⟨gb856, 2, none⟩ = some (.int .i64 a1_2) ∧ w20.cell? ⟨gb856, 3, none⟩ = some (.int .i64 a1_3) ∧ w20.cell? ⟨gb857, 0, none⟩ = some (.int .i64 a2_0) ∧ w20.cell? ⟨gb857, 1, none⟩ = some (.int .i64 a2_1) ∧ w20.cell? ⟨gb857, 2, none⟩ = some (.int .i64 a2_2) ∧ w20.cell? ⟨gb857, 3, none⟩ = some (.int .i64 a2_3) := hS_
           refine norm_ (a' := ?_) ?_ ?_
           rotate_left
           ·
            simp only [putAll, Act.put, List.setIfInBounds_toArray, List.set_cons_zero, List.set_cons_succ]
            rfl
           refine two_ (i := 5) (j := 13) (Ni := some 16) (Nj := some 8) #[true, true, true, true, true, true, true, true, true, true, true, false, true, false, false, false] #[true, true, true, true, true, false, true, true, true, true, true, false, true, true, false, false] rfl rfl rfl rfl (two_of HT_.out (by kernel_rfl)) (by decide) (by decide) (fun K hK => ?_) (fun K hK => ?_)
           ·
            refine goes_ Try.func94 (by kernel_rfl) rfl #[.pointer (some ⟨g, 0, none⟩), .agg #[.int .i64 a1_0, .int .i64 a1_1], .agg #[.int .i64 a2_0, .int .i64 a2_1]] (by rfl) rfl rfl zq6 ?_
            with_reducible refine (impl_reckoner_product.calls k g s0_0 a1_0 a1_1 a2_0 a2_1 t859 t860 t861 w0 _ ?side1 ?side2 A4.out).mono ?_
            (case side1 => exact z68_3 HI0)
            (case side2 => exact z68_5 HB)
            rintro e w21 ⟨rfl, hi, hb, hk⟩
            refine ⟨_, rfl, ?_⟩
            replace BK856 := Aside0.mk (KeepBut.blk hk (zq1 BK856) NB856_0.out (by simp)); replace BK857 := Aside0.mk (KeepBut.blk hk (zq1 BK857) NB857_0.out (by simp)); replace BK858 := Aside0.mk (KeepBut.blk hk (zq1 BK858) NB858_0.out (by simp)); replace BK865 := Aside0.mk (KeepBut.blk hk (zq1 BK865) NB865_0.out (by simp)); replace HK := Aside0.mk (KeepBut.trans (z68_4 HK) hk (.inl rfl)); replace HB := Aside0.mk (hb); replace HI0 := Aside0.mk (hi)
            (try clear hb)
            (try clear hb2)
            (try clear hk)
            (try clear hi)
            refine hK.out _ _ ⟨zc BK856 0, zc BK856 1, zc BK856 2, zc BK856 3, zc BK857 0, zc BK857 1, zc BK857 2, zc BK857 3⟩ (fun hHeld => ?_)
            clear hK K
            refine norm_ (a' := ?_) ?_ ?_
            rotate_left
            ·
             show Act.put _ (some 16) _ = _
             simp only [Act.put, List.setIfInBounds_toArray, List.set_cons_zero, List.set_cons_succ, i64_w, i32_w]; rfl
            exact norm_ zq4 (hJ5_12 (gb865) _ ⟨hHeld, (zq1 BK856), (zq1 BK857), (zq1 BK858), (zq1 BK865), GW865.out, GE865.out, NB0_865.out, NB865_0.out, NB856_865.out, NB865_856.out, NB857_865.out, NB865_857.out, NB858_865.out, NB865_858.out, (z68_3 HI0), (z68_4 HK), (z68_5 HB)⟩)
           ·
            refine box_step ?hg (N := 8) ?hd (cs := #[.int .i64 0, .int .i64 0]) (t := 27) ?hr ?_; (case hd => rfl); (case hg => rfl); (case hr => first | (go_simp; done) | (go_simp; rfl))
            intro gb866 hg w21 hbox hb
            have n0_ := Aside0.mk (IsS57.below (z68_3 HI0) hb)
            have n1_ := Aside0.mk (zbb BK856 hb)
            have n2_ := Aside0.mk (zbb BK857 hb)
            have n3_ := Aside0.mk (zbb BK858 hb)
            have n4_ := Aside0.mk (zbb BK865 hb)
            have n5_ := Aside0.mk (KeepBut.trans (z68_4 HK) (KeepBut.of_below hb g none) (.inl rfl))
            have n6_ := Aside0.mk (below_step (z68_5 HB) hb)
            have BK866 := Aside0.mk (hbox)
            have GW866 := Aside0.mk ((by rw [hg]; exact (keep_size (w := w) (g := g) (row := none) (z68_4 HK)) : w.heap.size ≤ gb866))
            have GE866 := Aside0.mk ((Nat.le_trans HW0.out (by rw [hg]; exact (keep_size (w := w) (g := g) (row := none) (z68_4 HK)) : w.heap.size ≤ gb866) : w0.heap.size ≤ gb866))
            have NB856_866 := Aside0.mk (zlt BK856 hg)
            have NB866_856 := Aside0.mk (zgt BK856 hg)
            have NB857_866 := Aside0.mk (zlt BK857 hg)
            have NB866_857 := Aside0.mk (zgt BK857 hg)
            have NB858_866 := Aside0.mk (zlt BK858 hg)
            have NB866_858 := Aside0.mk (zgt BK858 hg)
            have NB865_866 := Aside0.mk (zlt BK865 hg)
            have NB866_865 := Aside0.mk (zgt BK865 hg)
            have NB0_866 := Aside0.mk ((by rw [hg]; exact Nat.ne_of_lt (IsS57.lt (show IsS57 w0 _ g s0_0 from (z68_3 HI0))) : g ≠ gb866))
            have NB866_0 := Aside0.mk ((by rw [hg]; exact Nat.ne_of_gt (IsS57.lt (show IsS57 w0 _ g s0_0 from (z68_3 HI0))) : gb866 ≠ g))
            clear HI0 BK856 BK857 BK858 BK865 HK HB
            have HI0 := n0_; have BK856 := n1_; have BK857 := n2_; have BK858 := n3_; have BK865 := n4_; have HK := n5_; have HB := n6_
            clear n0_ n1_ n2_ n3_ n4_ n5_ n6_ hb hbox hg
            refine hK.out _ _ ⟨zc BK856 0, zc BK856 1, zc BK856 2, zc BK856 3, zc BK857 0, zc BK857 1, zc BK857 2, zc BK857 3⟩ (fun hHeld => ?_)
            clear hK K
            refine norm_ (a' := ?_) ?_ ?_
            rotate_left
            ·
             show Act.put _ (some 8) _ = _
             simp only [Act.put, List.setIfInBounds_toArray, List.set_cons_zero, List.set_cons_succ, i64_w, i32_w]; rfl
            exact norm_ zq4 (hJ12_13 (gb865, gb866) _ ⟨hHeld, (zq1 BK856), (zq1 BK857), (zq1 BK858), (zq1 BK865), (zq1 BK866), GW865.out, GE865.out, NB0_865.out, NB865_0.out, NB856_865.out, NB865_856.out, NB857_865.out, NB865_857.out, NB858_865.out, NB865_858.out, NB866_865.out, NB865_866.out, GW866.out, GE866.out, NB0_866.out, NB866_0.out, NB856_866.out, NB866_856.out, NB857_866.out, NB866_857.out, NB858_866.out, NB866_858.out, (z68_3 HI0), (z68_4 HK), (z68_5 HB)⟩)
         ·
          rintro _ w20 ⟨hS_, h0_, h1_, h2_, h3_, h4_, h5_⟩
          replace BK856 : Aside0 (w20.heap[gb856]? = some (.cells #[.int .i64 a1_0, .int .i64 a1_1, .int .i64 a1_2, .int .i64 a1_3] 29 (0, 0))) := ⟨h0_⟩; replace BK857 : Aside0 (w20.heap[gb857]? = some (.cells #[.int .i64 a2_0, .int .i64 a2_1, .int .i64 a2_2, .int .i64 a2_3] 29 (0, 0))) := ⟨h1_⟩; replace BK858 : Aside0 (w20.heap[gb858]? = some (.cells #[.int .i64 0, .int .i64 0, .int .i64 0, .int .i64 0] 29 (0, 0))) := ⟨h2_⟩; replace HI0 : Aside0 (IsS57 w0 w20 g t861) := ⟨h3_⟩; replace HK : Aside0 (KeepBut w w20 g none) := ⟨h4_⟩; replace HB : Aside0 (Below w0.heap.size w0 w20) := ⟨h5_⟩
          clear h0_ h1_ h2_ h3_ h4_ h5_
          have hHeld : w20.cell? ⟨gb856, 0, none⟩ = some (.int .i64 a1_0) ∧ w20.cell? ⟨gb856, 1, none⟩ = some (.int .i64 a1_1) ∧ w20.cell? ⟨gb856, 2, none⟩ = some (.int .i64 a1_2) ∧ w20.cell? ⟨gb856, 3, none⟩ = some (.int .i64 a1_3) ∧ w20.cell? ⟨gb857, 0, none⟩ = some (.int .i64 a2_0) ∧ w20.cell? ⟨gb857, 1, none⟩ = some (.int .i64 a2_1) ∧ w20.cell? ⟨gb857, 2, none⟩ = some (.int .i64 a2_2) ∧ w20.cell? ⟨gb857, 3, none⟩ = some (.int .i64 a2_3) := hS_
          refine norm_ (a' := ?_) ?_ ?_
          rotate_left
          ·
           simp only [putAll, Act.put, List.setIfInBounds_toArray, List.set_cons_zero, List.set_cons_succ]
           rfl
          refine three_ (i := 11) (j := 12) (k := 13) (Ni := some 22) (Nj := some 7) (Nk := some 8) #[true, true, true, true, true, true, true, true, true, true, true, true, false, false, false, false] #[true, true, true, true, true, true, true, true, true, true, true, false, true, false, false, false] #[true, true, true, true, true, true, true, true, true, true, true, false, false, true, false, false] rfl rfl rfl rfl rfl rfl (three_of HT_.out (by kernel_rfl)) (by decide) (by decide) (by decide) (fun K hK => ?_) (fun K hK => ?_) (fun K hK => ?_)
          ·
           refine goes_ Try.func94 (by kernel_rfl) rfl #[.pointer (some ⟨g, 0, none⟩), .agg #[.int .i64 a1_0, .int .i64 a1_1], .agg #[.int .i64 a2_2, .int .i64 a2_3]] (by rfl) rfl rfl zq6 ?_
           with_reducible refine (impl_reckoner_product.calls k g t861 a1_0 a1_1 a2_2 a2_3 t862 t863 t864 w0 _ ?side1 ?side2 A5.out).mono ?_
           (case side1 => exact z68_3 HI0)
           (case side2 => exact z68_5 HB)
           rintro e w21 ⟨rfl, hi, hb, hk⟩
           refine ⟨_, rfl, ?_⟩
           replace BK856 := Aside0.mk (KeepBut.blk hk (zq1 BK856) NB856_0.out (by simp)); replace BK857 := Aside0.mk (KeepBut.blk hk (zq1 BK857) NB857_0.out (by simp)); replace BK858 := Aside0.mk (KeepBut.blk hk (zq1 BK858) NB858_0.out (by simp)); replace HK := Aside0.mk (KeepBut.trans (z68_4 HK) hk (.inl rfl)); replace HB := Aside0.mk (hb); replace HI0 := Aside0.mk (hi)
           (try clear hb)
           (try clear hb2)
           (try clear hk)
           (try clear hi)
           refine hK.out _ _ ⟨zc BK856 0, zc BK856 1, zc BK856 2, zc BK856 3, zc BK857 0, zc BK857 1, zc BK857 2, zc BK857 3⟩ (fun hHeld => ?_)
           clear hK K
           refine norm_ (a' := ?_) ?_ ?_
           rotate_left
           ·
            show Act.put _ (some 22) _ = _
            simp only [Act.put, List.setIfInBounds_toArray, List.set_cons_zero, List.set_cons_succ, i64_w, i32_w]; rfl
           exact norm_ zq4 (hJ5_11 () _ ⟨hHeld, (zq1 BK856), (zq1 BK857), (zq1 BK858), (z68_3 HI0), (z68_4 HK), (z68_5 HB)⟩)
          ·
           refine box_step ?hg (N := 7) ?hd (cs := #[.int .i64 0, .int .i64 0]) (t := 27) ?hr ?_; (case hd => rfl); (case hg => rfl); (case hr => first | (go_simp; done) | (go_simp; rfl))
           intro gb865 hg w21 hbox hb
           have n0_ := Aside0.mk (IsS57.below (z68_3 HI0) hb)
           have n1_ := Aside0.mk (zbb BK856 hb)
           have n2_ := Aside0.mk (zbb BK857 hb)
           have n3_ := Aside0.mk (zbb BK858 hb)
           have n4_ := Aside0.mk (KeepBut.trans (z68_4 HK) (KeepBut.of_below hb g none) (.inl rfl))
           have n5_ := Aside0.mk (below_step (z68_5 HB) hb)
           have BK865 := Aside0.mk (hbox)
           have GW865 := Aside0.mk ((by rw [hg]; exact (keep_size (w := w) (g := g) (row := none) (z68_4 HK)) : w.heap.size ≤ gb865))
           have GE865 := Aside0.mk ((Nat.le_trans HW0.out (by rw [hg]; exact (keep_size (w := w) (g := g) (row := none) (z68_4 HK)) : w.heap.size ≤ gb865) : w0.heap.size ≤ gb865))
           have NB856_865 := Aside0.mk (zlt BK856 hg)
           have NB865_856 := Aside0.mk (zgt BK856 hg)
           have NB857_865 := Aside0.mk (zlt BK857 hg)
           have NB865_857 := Aside0.mk (zgt BK857 hg)
           have NB858_865 := Aside0.mk (zlt BK858 hg)
           have NB865_858 := Aside0.mk (zgt BK858 hg)
           have NB0_865 := Aside0.mk ((by rw [hg]; exact Nat.ne_of_lt (IsS57.lt (show IsS57 w0 _ g t861 from (z68_3 HI0))) : g ≠ gb865))
           have NB865_0 := Aside0.mk ((by rw [hg]; exact Nat.ne_of_gt (IsS57.lt (show IsS57 w0 _ g t861 from (z68_3 HI0))) : gb865 ≠ g))
           clear HI0 BK856 BK857 BK858 HK HB
           have HI0 := n0_; have BK856 := n1_; have BK857 := n2_; have BK858 := n3_; have HK := n4_; have HB := n5_
           clear n0_ n1_ n2_ n3_ n4_ n5_ hb hbox hg
           refine hK.out _ _ ⟨zc BK856 0, zc BK856 1, zc BK856 2, zc BK856 3, zc BK857 0, zc BK857 1, zc BK857 2, zc BK857 3⟩ (fun hHeld => ?_)
           clear hK K
           refine norm_ (a' := ?_) ?_ ?_
           rotate_left
           ·
            show Act.put _ (some 7) _ = _
            simp only [Act.put, List.setIfInBounds_toArray, List.set_cons_zero, List.set_cons_succ, i64_w, i32_w]; rfl
           exact norm_ zq4 (hJ5_12 (gb865) _ ⟨hHeld, (zq1 BK856), (zq1 BK857), (zq1 BK858), (zq1 BK865), GW865.out, GE865.out, NB0_865.out, NB865_0.out, NB856_865.out, NB865_856.out, NB857_865.out, NB865_857.out, NB858_865.out, NB865_858.out, (z68_3 HI0), (z68_4 HK), (z68_5 HB)⟩)
          ·
           refine box_step ?hg (N := 8) ?hd (cs := #[.int .i64 0, .int .i64 0]) (t := 27) ?hr ?_; (case hd => rfl); (case hg => rfl); (case hr => first | (go_simp; done) | (go_simp; rfl))
           intro gb866 hg w21 hbox hb
           have n0_ := Aside0.mk (IsS57.below (z68_3 HI0) hb)
           have n1_ := Aside0.mk (zbb BK856 hb)
           have n2_ := Aside0.mk (zbb BK857 hb)
           have n3_ := Aside0.mk (zbb BK858 hb)
           have n4_ := Aside0.mk (KeepBut.trans (z68_4 HK) (KeepBut.of_below hb g none) (.inl rfl))
           have n5_ := Aside0.mk (below_step (z68_5 HB) hb)
           have BK866 := Aside0.mk (hbox)
           have GW866 := Aside0.mk ((by rw [hg]; exact (keep_size (w := w) (g := g) (row := none) (z68_4 HK)) : w.heap.size ≤ gb866))
           have GE866 := Aside0.mk ((Nat.le_trans HW0.out (by rw [hg]; exact (keep_size (w := w) (g := g) (row := none) (z68_4 HK)) : w.heap.size ≤ gb866) : w0.heap.size ≤ gb866))
           have NB856_866 := Aside0.mk (zlt BK856 hg)
           have NB866_856 := Aside0.mk (zgt BK856 hg)
           have NB857_866 := Aside0.mk (zlt BK857 hg)
           have NB866_857 := Aside0.mk (zgt BK857 hg)
           have NB858_866 := Aside0.mk (zlt BK858 hg)
           have NB866_858 := Aside0.mk (zgt BK858 hg)
           have NB0_866 := Aside0.mk ((by rw [hg]; exact Nat.ne_of_lt (IsS57.lt (show IsS57 w0 _ g t861 from (z68_3 HI0))) : g ≠ gb866))
           have NB866_0 := Aside0.mk ((by rw [hg]; exact Nat.ne_of_gt (IsS57.lt (show IsS57 w0 _ g t861 from (z68_3 HI0))) : gb866 ≠ g))
           clear HI0 BK856 BK857 BK858 HK HB
           have HI0 := n0_; have BK856 := n1_; have BK857 := n2_; have BK858 := n3_; have HK := n4_; have HB := n5_
           clear n0_ n1_ n2_ n3_ n4_ n5_ hb hbox hg
           refine hK.out _ _ ⟨zc BK856 0, zc BK856 1, zc BK856 2, zc BK856 3, zc BK857 0, zc BK857 1, zc BK857 2, zc BK857 3⟩ (fun hHeld => ?_)
           clear hK K
           refine norm_ (a' := ?_) ?_ ?_
           rotate_left
           ·
            show Act.put _ (some 8) _ = _
            simp only [Act.put, List.setIfInBounds_toArray, List.set_cons_zero, List.set_cons_succ, i64_w, i32_w]; rfl
           exact norm_ zq4 (hJ5_13 (gb866) _ ⟨hHeld, (zq1 BK856), (zq1 BK857), (zq1 BK858), (zq1 BK866), GW866.out, GE866.out, NB0_866.out, NB866_0.out, NB856_866.out, NB866_856.out, NB857_866.out, NB866_857.out, NB858_866.out, NB866_858.out, (z68_3 HI0), (z68_4 HK), (z68_5 HB)⟩)
        ·
         rintro ⟨gb865, gb866⟩ w21 ⟨hS_, h0_, h1_, h2_, h3_, h4_, h5_, h6_, h7_, h8_, h9_, h10_, h11_, h12_, h13_, h14_, h15_, h16_, h17_, h18_, h19_, h20_, h21_, h22_, h23_, h24_, h25_, h26_, h27_, h28_, h29_⟩
         have BK865 : Aside0 (w21.heap[gb865]? = some (.cells #[.int .i64 0, .int .i64 0] 27 (0, 0))) := ⟨h3_⟩
         have BK866 : Aside0 (w21.heap[gb866]? = some (.cells #[.int .i64 0, .int .i64 0] 27 (0, 0))) := ⟨h4_⟩
         have GW865 : Aside0 (w.heap.size ≤ gb865) := ⟨h5_⟩
         have GE865 : Aside0 (w0.heap.size ≤ gb865) := ⟨h6_⟩
         have NB0_865 : Aside0 (g ≠ gb865) := ⟨h7_⟩
         have NB865_0 : Aside0 (gb865 ≠ g) := ⟨h8_⟩
         have NB856_865 : Aside0 (gb856 ≠ gb865) := ⟨h9_⟩
         have NB865_856 : Aside0 (gb865 ≠ gb856) := ⟨h10_⟩
         have NB857_865 : Aside0 (gb857 ≠ gb865) := ⟨h11_⟩
         have NB865_857 : Aside0 (gb865 ≠ gb857) := ⟨h12_⟩
         have NB858_865 : Aside0 (gb858 ≠ gb865) := ⟨h13_⟩
         have NB865_858 : Aside0 (gb865 ≠ gb858) := ⟨h14_⟩
         have NB866_865 : Aside0 (gb866 ≠ gb865) := ⟨h15_⟩
         have NB865_866 : Aside0 (gb865 ≠ gb866) := ⟨h16_⟩
         have GW866 : Aside0 (w.heap.size ≤ gb866) := ⟨h17_⟩
         have GE866 : Aside0 (w0.heap.size ≤ gb866) := ⟨h18_⟩
         have NB0_866 : Aside0 (g ≠ gb866) := ⟨h19_⟩
         have NB866_0 : Aside0 (gb866 ≠ g) := ⟨h20_⟩
         have NB856_866 : Aside0 (gb856 ≠ gb866) := ⟨h21_⟩
         have NB866_856 : Aside0 (gb866 ≠ gb856) := ⟨h22_⟩
         have NB857_866 : Aside0 (gb857 ≠ gb866) := ⟨h23_⟩
         have NB866_857 : Aside0 (gb866 ≠ gb857) := ⟨h24_⟩
         have NB858_866 : Aside0 (gb858 ≠ gb866) := ⟨h25_⟩
         have NB866_858 : Aside0 (gb866 ≠ gb858) := ⟨h26_⟩
         replace BK856 : Aside0 (w21.heap[gb856]? = some (.cells #[.int .i64 a1_0, .int .i64 a1_1, .int .i64 a1_2, .int .i64 a1_3] 29 (0, 0))) := ⟨h0_⟩; replace BK857 : Aside0 (w21.heap[gb857]? = some (.cells #[.int .i64 a2_0, .int .i64 a2_1, .int .i64 a2_2, .int .i64 a2_3] 29 (0, 0))) := ⟨h1_⟩; replace BK858 : Aside0 (w21.heap[gb858]? = some (.cells #[.int .i64 0, .int .i64 0, .int .i64 0, .int .i64 0] 29 (0, 0))) := ⟨h2_⟩; replace HI0 : Aside0 (IsS57 w0 w21 g s0_0) := ⟨h27_⟩; replace HK : Aside0 (KeepBut w w21 g none) := ⟨h28_⟩; replace HB : Aside0 (Below w0.heap.size w0 w21) := ⟨h29_⟩
         clear h0_ h10_ h11_ h12_ h13_ h14_ h15_ h16_ h17_ h18_ h19_ h1_ h20_ h21_ h22_ h23_ h24_ h25_ h26_ h27_ h28_ h29_ h2_ h3_ h4_ h5_ h6_ h7_ h8_ h9_
         have hHeld : w21.cell? ⟨gb856, 0, none⟩ = some (.int .i64 a1_0) ∧ w21.cell? ⟨gb856, 1, none⟩ = some (.int .i64 a1_1) ∧ w21.cell? ⟨gb856, 2, none⟩ = some (.int .i64 a1_2) ∧ w21.cell? ⟨gb856, 3, none⟩ = some (.int .i64 a1_3) ∧ w21.cell? ⟨gb857, 0, none⟩ = some (.int .i64 a2_0) ∧ w21.cell? ⟨gb857, 1, none⟩ = some (.int .i64 a2_1) ∧ w21.cell? ⟨gb857, 2, none⟩ = some (.int .i64 a2_2) ∧ w21.cell? ⟨gb857, 3, none⟩ = some (.int .i64 a2_3) := hS_
         refine norm_ (a' := ?_) ?_ ?_
         rotate_left
         ·
          simp only [putAll, Act.put, List.setIfInBounds_toArray, List.set_cons_zero, List.set_cons_succ]
          rfl
         refine one_ (i := 5) (N := some 16) #[true, true, true, true, true, true, true, true, true, true, true, false, true, true, false, false] rfl rfl (one_of HT_.out (by kernel_rfl)) (by decide) (fun K hK => ?_)
         refine goes_ Try.func94 (by kernel_rfl) rfl #[.pointer (some ⟨g, 0, none⟩), .agg #[.int .i64 a1_0, .int .i64 a1_1], .agg #[.int .i64 a2_0, .int .i64 a2_1]] (by rfl) rfl rfl zq6 ?_
         with_reducible refine (impl_reckoner_product.calls k g s0_0 a1_0 a1_1 a2_0 a2_1 t859 t860 t861 w0 _ ?side1 ?side2 A4.out).mono ?_
         (case side1 => exact z68_3 HI0)
         (case side2 => exact z68_5 HB)
         rintro e w22 ⟨rfl, hi, hb, hk⟩
         refine ⟨_, rfl, ?_⟩
         replace BK856 := Aside0.mk (KeepBut.blk hk (zq1 BK856) NB856_0.out (by simp)); replace BK857 := Aside0.mk (KeepBut.blk hk (zq1 BK857) NB857_0.out (by simp)); replace BK858 := Aside0.mk (KeepBut.blk hk (zq1 BK858) NB858_0.out (by simp)); replace BK865 := Aside0.mk (KeepBut.blk hk (zq1 BK865) NB865_0.out (by simp)); replace BK866 := Aside0.mk (KeepBut.blk hk (zq1 BK866) NB866_0.out (by simp)); replace HK := Aside0.mk (KeepBut.trans (z68_4 HK) hk (.inl rfl)); replace HB := Aside0.mk (hb); replace HI0 := Aside0.mk (hi)
         (try clear hb)
         (try clear hb2)
         (try clear hk)
         (try clear hi)
         refine hK.out _ _ ⟨zc BK856 0, zc BK856 1, zc BK856 2, zc BK856 3, zc BK857 0, zc BK857 1, zc BK857 2, zc BK857 3⟩ (fun hHeld => ?_)
         clear hK K
         refine norm_ (a' := ?_) ?_ ?_
         rotate_left
         ·
          show Act.put _ (some 16) _ = _
          simp only [Act.put, List.setIfInBounds_toArray, List.set_cons_zero, List.set_cons_succ, i64_w, i32_w]; rfl
         exact norm_ zq4 (hJ5_12_13 (gb865, gb866) _ ⟨hHeld, (zq1 BK856), (zq1 BK857), (zq1 BK858), (zq1 BK865), (zq1 BK866), GW865.out, GE865.out, NB0_865.out, NB865_0.out, NB856_865.out, NB865_856.out, NB857_865.out, NB865_857.out, NB858_865.out, NB865_858.out, NB866_865.out, NB865_866.out, GW866.out, GE866.out, NB0_866.out, NB866_0.out, NB856_866.out, NB866_856.out, NB857_866.out, NB866_857.out, NB858_866.out, NB866_858.out, (z68_3 HI0), (z68_4 HK), (z68_5 HB)⟩)
       ·
        rintro gb866 w21 ⟨hS_, h0_, h1_, h2_, h3_, h4_, h5_, h6_, h7_, h8_, h9_, h10_, h11_, h12_, h13_, h14_, h15_, h16_⟩
        have BK866 : Aside0 (w21.heap[gb866]? = some (.cells #[.int .i64 0, .int .i64 0] 27 (0, 0))) := ⟨h3_⟩
        have GW866 : Aside0 (w.heap.size ≤ gb866) := ⟨h4_⟩
        have GE866 : Aside0 (w0.heap.size ≤ gb866) := ⟨h5_⟩
        have NB0_866 : Aside0 (g ≠ gb866) := ⟨h6_⟩
        have NB866_0 : Aside0 (gb866 ≠ g) := ⟨h7_⟩
        have NB856_866 : Aside0 (gb856 ≠ gb866) := ⟨h8_⟩
        have NB866_856 : Aside0 (gb866 ≠ gb856) := ⟨h9_⟩
        have NB857_866 : Aside0 (gb857 ≠ gb866) := ⟨h10_⟩
        have NB866_857 : Aside0 (gb866 ≠ gb857) := ⟨h11_⟩
        have NB858_866 : Aside0 (gb858 ≠ gb866) := ⟨h12_⟩
        have NB866_858 : Aside0 (gb866 ≠ gb858) := ⟨h13_⟩
        replace BK856 : Aside0 (w21.heap[gb856]? = some (.cells #[.int .i64 a1_0, .int .i64 a1_1, .int .i64 a1_2, .int .i64 a1_3] 29 (0, 0))) := ⟨h0_⟩; replace BK857 : Aside0 (w21.heap[gb857]? = some (.cells #[.int .i64 a2_0, .int .i64 a2_1, .int .i64 a2_2, .int .i64 a2_3] 29 (0, 0))) := ⟨h1_⟩; replace BK858 : Aside0 (w21.heap[gb858]? = some (.cells #[.int .i64 0, .int .i64 0, .int .i64 0, .int .i64 0] 29 (0, 0))) := ⟨h2_⟩; replace HI0 : Aside0 (IsS57 w0 w21 g t861) := ⟨h14_⟩; replace HK : Aside0 (KeepBut w w21 g none) := ⟨h15_⟩; replace HB : Aside0 (Below w0.heap.size w0 w21) := ⟨h16_⟩
        clear h0_ h10_ h11_ h12_ h13_ h14_ h15_ h16_ h1_ h2_ h3_ h4_ h5_ h6_ h7_ h8_ h9_
        have hHeld : w21.cell? ⟨gb856, 0, none⟩ = some (.int .i64 a1_0) ∧ w21.cell? ⟨gb856, 1, none⟩ = some (.int .i64 a1_1) ∧ w21.cell? ⟨gb856, 2, none⟩ = some (.int .i64 a1_2) ∧ w21.cell? ⟨gb856, 3, none⟩ = some (.int .i64 a1_3) ∧ w21.cell? ⟨gb857, 0, none⟩ = some (.int .i64 a2_0) ∧ w21.cell? ⟨gb857, 1, none⟩ = some (.int .i64 a2_1) ∧ w21.cell? ⟨gb857, 2, none⟩ = some (.int .i64 a2_2) ∧ w21.cell? ⟨gb857, 3, none⟩ = some (.int .i64 a2_3) := hS_
        refine norm_ (a' := ?_) ?_ ?_
        rotate_left
        ·
         simp only [putAll, Act.put, List.setIfInBounds_toArray, List.set_cons_zero, List.set_cons_succ]
         rfl
        refine two_ (i := 11) (j := 12) (Ni := some 22) (Nj := some 7) #[true, true, true, true, true, true, true, true, true, true, true, true, false, true, false, false] #[true, true, true, true, true, true, true, true, true, true, true, false, true, true, false, false] rfl rfl rfl rfl (two_of HT_.out (by kernel_rfl)) (by decide) (by decide) (fun K hK => ?_) (fun K hK => ?_)
        ·
         refine goes_ Try.func94 (by kernel_rfl) rfl #[.pointer (some ⟨g, 0, none⟩), .agg #[.int .i64 a1_0, .int .i64 a1_1], .agg #[.int .i64 a2_2, .int .i64 a2_3]] (by rfl) rfl rfl zq6 ?_
         with_reducible refine (impl_reckoner_product.calls k g t861 a1_0 a1_1 a2_2 a2_3 t862 t863 t864 w0 _ ?side1 ?side2 A5.out).mono ?_
         (case side1 => exact z68_3 HI0)
         (case side2 => exact z68_5 HB)
         rintro e w22 ⟨rfl, hi, hb, hk⟩
         refine ⟨_, rfl, ?_⟩
         replace BK856 := Aside0.mk (KeepBut.blk hk (zq1 BK856) NB856_0.out (by simp)); replace BK857 := Aside0.mk (KeepBut.blk hk (zq1 BK857) NB857_0.out (by simp)); replace BK858 := Aside0.mk (KeepBut.blk hk (zq1 BK858) NB858_0.out (by simp)); replace BK866 := Aside0.mk (KeepBut.blk hk (zq1 BK866) NB866_0.out (by simp)); replace HK := Aside0.mk (KeepBut.trans (z68_4 HK) hk (.inl rfl)); replace HB := Aside0.mk (hb); replace HI0 := Aside0.mk (hi)
         (try clear hb)
         (try clear hb2)
         (try clear hk)
         (try clear hi)
         refine hK.out _ _ ⟨zc BK856 0, zc BK856 1, zc BK856 2, zc BK856 3, zc BK857 0, zc BK857 1, zc BK857 2, zc BK857 3⟩ (fun hHeld => ?_)
         clear hK K
         refine norm_ (a' := ?_) ?_ ?_
         rotate_left
         ·
          show Act.put _ (some 22) _ = _
          simp only [Act.put, List.setIfInBounds_toArray, List.set_cons_zero, List.set_cons_succ, i64_w, i32_w]; rfl
         exact norm_ zq4 (hJ5_11_13 (gb866) _ ⟨hHeld, (zq1 BK856), (zq1 BK857), (zq1 BK858), (zq1 BK866), GW866.out, GE866.out, NB0_866.out, NB866_0.out, NB856_866.out, NB866_856.out, NB857_866.out, NB866_857.out, NB858_866.out, NB866_858.out, (z68_3 HI0), (z68_4 HK), (z68_5 HB)⟩)
        ·
         refine box_step ?hg (N := 7) ?hd (cs := #[.int .i64 0, .int .i64 0]) (t := 27) ?hr ?_; (case hd => rfl); (case hg => rfl); (case hr => first | (go_simp; done) | (go_simp; rfl))
         intro gb865 hg w22 hbox hb
         have n0_ := Aside0.mk (IsS57.below (z68_3 HI0) hb)
         have n1_ := Aside0.mk (zbb BK856 hb)
         have n2_ := Aside0.mk (zbb BK857 hb)
         have n3_ := Aside0.mk (zbb BK858 hb)
         have n4_ := Aside0.mk (zbb BK866 hb)
         have n5_ := Aside0.mk (KeepBut.trans (z68_4 HK) (KeepBut.of_below hb g none) (.inl rfl))
         have n6_ := Aside0.mk (below_step (z68_5 HB) hb)
         have BK865 := Aside0.mk (hbox)
         have GW865 := Aside0.mk ((by rw [hg]; exact (keep_size (w := w) (g := g) (row := none) (z68_4 HK)) : w.heap.size ≤ gb865))
         have GE865 := Aside0.mk ((Nat.le_trans HW0.out (by rw [hg]; exact (keep_size (w := w) (g := g) (row := none) (z68_4 HK)) : w.heap.size ≤ gb865) : w0.heap.size ≤ gb865))
         have NB856_865 := Aside0.mk (zlt BK856 hg)
         have NB865_856 := Aside0.mk (zgt BK856 hg)
         have NB857_865 := Aside0.mk (zlt BK857 hg)
         have NB865_857 := Aside0.mk (zgt BK857 hg)
         have NB858_865 := Aside0.mk (zlt BK858 hg)
         have NB865_858 := Aside0.mk (zgt BK858 hg)
         have NB866_865 := Aside0.mk (zlt BK866 hg)
         have NB865_866 := Aside0.mk (zgt BK866 hg)
         have NB0_865 := Aside0.mk ((by rw [hg]; exact Nat.ne_of_lt (IsS57.lt (show IsS57 w0 _ g t861 from (z68_3 HI0))) : g ≠ gb865))
         have NB865_0 := Aside0.mk ((by rw [hg]; exact Nat.ne_of_gt (IsS57.lt (show IsS57 w0 _ g t861 from (z68_3 HI0))) : gb865 ≠ g))
         clear HI0 BK856 BK857 BK858 BK866 HK HB
         have HI0 := n0_; have BK856 := n1_; have BK857 := n2_; have BK858 := n3_; have BK866 := n4_; have HK := n5_; have HB := n6_
         clear n0_ n1_ n2_ n3_ n4_ n5_ n6_ hb hbox hg
         refine hK.out _ _ ⟨zc BK856 0, zc BK856 1, zc BK856 2, zc BK856 3, zc BK857 0, zc BK857 1, zc BK857 2, zc BK857 3⟩ (fun hHeld => ?_)
         clear hK K
         refine norm_ (a' := ?_) ?_ ?_
         rotate_left
         ·
          show Act.put _ (some 7) _ = _
          simp only [Act.put, List.setIfInBounds_toArray, List.set_cons_zero, List.set_cons_succ, i64_w, i32_w]; rfl
         exact norm_ zq4 (hJ5_12_13 (gb865, gb866) _ ⟨hHeld, (zq1 BK856), (zq1 BK857), (zq1 BK858), (zq1 BK865), (zq1 BK866), GW865.out, GE865.out, NB0_865.out, NB865_0.out, NB856_865.out, NB865_856.out, NB857_865.out, NB865_857.out, NB858_865.out, NB865_858.out, NB866_865.out, NB865_866.out, GW866.out, GE866.out, NB0_866.out, NB866_0.out, NB856_866.out, NB866_856.out, NB857_866.out, NB866_857.out, NB858_866.out, NB866_858.out, (z68_3 HI0), (z68_4 HK), (z68_5 HB)⟩)
      ·
       rintro gb865 w21 ⟨hS_, h0_, h1_, h2_, h3_, h4_, h5_, h6_, h7_, h8_, h9_, h10_, h11_, h12_, h13_, h14_, h15_, h16_⟩
       have BK865 : Aside0 (w21.heap[gb865]? = some (.cells #[.int .i64 0, .int .i64 0] 27 (0, 0))) := ⟨h3_⟩
       have GW865 : Aside0 (w.heap.size ≤ gb865) := ⟨h4_⟩
       have GE865 : Aside0 (w0.heap.size ≤ gb865) := ⟨h5_⟩
       have NB0_865 : Aside0 (g ≠ gb865) := ⟨h6_⟩
       have NB865_0 : Aside0 (gb865 ≠ g) := ⟨h7_⟩
       have NB856_865 : Aside0 (gb856 ≠ gb865) := ⟨h8_⟩
       have NB865_856 : Aside0 (gb865 ≠ gb856) := ⟨h9_⟩
       have NB857_865 : Aside0 (gb857 ≠ gb865) := ⟨h10_⟩
       have NB865_857 : Aside0 (gb865 ≠ gb857) := ⟨h11_⟩
       have NB858_865 : Aside0 (gb858 ≠ gb865) := ⟨h12_⟩
       have NB865_858 : Aside0 (gb865 ≠ gb858) := ⟨h13_⟩
       replace BK856 : Aside0 (w21.heap[gb856]? = some (.cells #[.int .i64 a1_0, .int .i64 a1_1, .int .i64 a1_2, .int .i64 a1_3] 29 (0, 0))) := ⟨h0_⟩; replace BK857 : Aside0 (w21.heap[gb857]? = some (.cells #[.int .i64 a2_0, .int .i64 a2_1, .int .i64 a2_2, .int .i64 a2_3] 29 (0, 0))) := ⟨h1_⟩; replace BK858 : Aside0 (w21.heap[gb858]? = some (.cells #[.int .i64 0, .int .i64 0, .int .i64 0, .int .i64 0] 29 (0, 0))) := ⟨h2_⟩; replace HI0 : Aside0 (IsS57 w0 w21 g t861) := ⟨h14_⟩; replace HK : Aside0 (KeepBut w w21 g none) := ⟨h15_⟩; replace HB : Aside0 (Below w0.heap.size w0 w21) := ⟨h16_⟩
       clear h0_ h10_ h11_ h12_ h13_ h14_ h15_ h16_ h1_ h2_ h3_ h4_ h5_ h6_ h7_ h8_ h9_
       have hHeld : w21.cell? ⟨gb856, 0, none⟩ = some (.int .i64 a1_0) ∧ w21.cell? ⟨gb856, 1, none⟩ = some (.int .i64 a1_1) ∧ w21.cell? ⟨gb856, 2, none⟩ = some (.int .i64 a1_2) ∧ w21.cell? ⟨gb856, 3, none⟩ = some (.int .i64 a1_3) ∧ w21.cell? ⟨gb857, 0, none⟩ = some (.int .i64 a2_0) ∧ w21.cell? ⟨gb857, 1, none⟩ = some (.int .i64 a2_1) ∧ w21.cell? ⟨gb857, 2, none⟩ = some (.int .i64 a2_2) ∧ w21.cell? ⟨gb857, 3, none⟩ = some (.int .i64 a2_3) := hS_
       refine norm_ (a' := ?_) ?_ ?_
       rotate_left
       ·
        simp only [putAll, Act.put, List.setIfInBounds_toArray, List.set_cons_zero, List.set_cons_succ]
        rfl
       refine two_ (i := 11) (j := 13) (Ni := some 22) (Nj := some 8) #[true, true, true, true, true, true, true, true, true, true, true, true, true, false, false, false] #[true, true, true, true, true, true, true, true, true, true, true, false, true, true, false, false] rfl rfl rfl rfl (two_of HT_.out (by kernel_rfl)) (by decide) (by decide) (fun K hK => ?_) (fun K hK => ?_)
       ·
        refine goes_ Try.func94 (by kernel_rfl) rfl #[.pointer (some ⟨g, 0, none⟩), .agg #[.int .i64 a1_0, .int .i64 a1_1], .agg #[.int .i64 a2_2, .int .i64 a2_3]] (by rfl) rfl rfl zq6 ?_
        with_reducible refine (impl_reckoner_product.calls k g t861 a1_0 a1_1 a2_2 a2_3 t862 t863 t864 w0 _ ?side1 ?side2 A5.out).mono ?_
        (case side1 => exact z68_3 HI0)
        (case side2 => exact z68_5 HB)
        rintro e w22 ⟨rfl, hi, hb, hk⟩
        refine ⟨_, rfl, ?_⟩
        replace BK856 := Aside0.mk (KeepBut.blk hk (zq1 BK856) NB856_0.out (by simp)); replace BK857 := Aside0.mk (KeepBut.blk hk (zq1 BK857) NB857_0.out (by simp)); replace BK858 := Aside0.mk (KeepBut.blk hk (zq1 BK858) NB858_0.out (by simp)); replace BK865 := Aside0.mk (KeepBut.blk hk (zq1 BK865) NB865_0.out (by simp)); replace HK := Aside0.mk (KeepBut.trans (z68_4 HK) hk (.inl rfl)); replace HB := Aside0.mk (hb); replace HI0 := Aside0.mk (hi)
        (try clear hb)
        (try clear hb2)
        (try clear hk)
        (try clear hi)
        refine hK.out _ _ ⟨zc BK856 0, zc BK856 1, zc BK856 2, zc BK856 3, zc BK857 0, zc BK857 1, zc BK857 2, zc BK857 3⟩ (fun hHeld => ?_)
        clear hK K
        refine norm_ (a' := ?_) ?_ ?_
        rotate_left
        ·
         show Act.put _ (some 22) _ = _
         simp only [Act.put, List.setIfInBounds_toArray, List.set_cons_zero, List.set_cons_succ, i64_w, i32_w]; rfl
        exact norm_ zq4 (hJ5_11_12 (gb865) _ ⟨hHeld, (zq1 BK856), (zq1 BK857), (zq1 BK858), (zq1 BK865), GW865.out, GE865.out, NB0_865.out, NB865_0.out, NB856_865.out, NB865_856.out, NB857_865.out, NB865_857.out, NB858_865.out, NB865_858.out, (z68_3 HI0), (z68_4 HK), (z68_5 HB)⟩)
       ·
        refine box_step ?hg (N := 8) ?hd (cs := #[.int .i64 0, .int .i64 0]) (t := 27) ?hr ?_; (case hd => rfl); (case hg => rfl); (case hr => first | (go_simp; done) | (go_simp; rfl))
        intro gb866 hg w22 hbox hb
        have n0_ := Aside0.mk (IsS57.below (z68_3 HI0) hb)
        have n1_ := Aside0.mk (zbb BK856 hb)
        have n2_ := Aside0.mk (zbb BK857 hb)
        have n3_ := Aside0.mk (zbb BK858 hb)
        have n4_ := Aside0.mk (zbb BK865 hb)
        have n5_ := Aside0.mk (KeepBut.trans (z68_4 HK) (KeepBut.of_below hb g none) (.inl rfl))
        have n6_ := Aside0.mk (below_step (z68_5 HB) hb)
        have BK866 := Aside0.mk (hbox)
        have GW866 := Aside0.mk ((by rw [hg]; exact (keep_size (w := w) (g := g) (row := none) (z68_4 HK)) : w.heap.size ≤ gb866))
        have GE866 := Aside0.mk ((Nat.le_trans HW0.out (by rw [hg]; exact (keep_size (w := w) (g := g) (row := none) (z68_4 HK)) : w.heap.size ≤ gb866) : w0.heap.size ≤ gb866))
        have NB856_866 := Aside0.mk (zlt BK856 hg)
        have NB866_856 := Aside0.mk (zgt BK856 hg)
        have NB857_866 := Aside0.mk (zlt BK857 hg)
        have NB866_857 := Aside0.mk (zgt BK857 hg)
        have NB858_866 := Aside0.mk (zlt BK858 hg)
        have NB866_858 := Aside0.mk (zgt BK858 hg)
        have NB865_866 := Aside0.mk (zlt BK865 hg)
        have NB866_865 := Aside0.mk (zgt BK865 hg)
        have NB0_866 := Aside0.mk ((by rw [hg]; exact Nat.ne_of_lt (IsS57.lt (show IsS57 w0 _ g t861 from (z68_3 HI0))) : g ≠ gb866))
        have NB866_0 := Aside0.mk ((by rw [hg]; exact Nat.ne_of_gt (IsS57.lt (show IsS57 w0 _ g t861 from (z68_3 HI0))) : gb866 ≠ g))
        clear HI0 BK856 BK857 BK858 BK865 HK HB
        have HI0 := n0_; have BK856 := n1_; have BK857 := n2_; have BK858 := n3_; have BK865 := n4_; have HK := n5_; have HB := n6_
        clear n0_ n1_ n2_ n3_ n4_ n5_ n6_ hb hbox hg
        refine hK.out _ _ ⟨zc BK856 0, zc BK856 1, zc BK856 2, zc BK856 3, zc BK857 0, zc BK857 1, zc BK857 2, zc BK857 3⟩ (fun hHeld => ?_)
        clear hK K
        refine norm_ (a' := ?_) ?_ ?_
        rotate_left
        ·
         show Act.put _ (some 8) _ = _
         simp only [Act.put, List.setIfInBounds_toArray, List.set_cons_zero, List.set_cons_succ, i64_w, i32_w]; rfl
        exact norm_ zq4 (hJ5_12_13 (gb865, gb866) _ ⟨hHeld, (zq1 BK856), (zq1 BK857), (zq1 BK858), (zq1 BK865), (zq1 BK866), GW865.out, GE865.out, NB0_865.out, NB865_0.out, NB856_865.out, NB865_856.out, NB857_865.out, NB865_857.out, NB858_865.out, NB865_858.out, NB866_865.out, NB865_866.out, GW866.out, GE866.out, NB0_866.out, NB866_0.out, NB856_866.out, NB866_856.out, NB857_866.out, NB866_857.out, NB858_866.out, NB866_858.out, (z68_3 HI0), (z68_4 HK), (z68_5 HB)⟩)
     ·
      rintro _ w21 ⟨hS_, h0_, h1_, h2_, h3_, h4_, h5_⟩
      replace BK856 : Aside0 (w21.heap[gb856]? = some (.cells #[.int .i64 a1_0, .int .i64 a1_1, .int .i64 a1_2, .int .i64 a1_3] 29 (0, 0))) := ⟨h0_⟩; replace BK857 : Aside0 (w21.heap[gb857]? = some (.cells #[.int .i64 a2_0, .int .i64 a2_1, .int .i64 a2_2, .int .i64 a2_3] 29 (0, 0))) := ⟨h1_⟩; replace BK858 : Aside0 (w21.heap[gb858]? = some (.cells #[.int .i64 0, .int .i64 0, .int .i64 0, .int .i64 0] 29 (0, 0))) := ⟨h2_⟩; replace HI0 : Aside0 (IsS57 w0 w21 g t864) := ⟨h3_⟩; replace HK : Aside0 (KeepBut w w21 g none) := ⟨h4_⟩; replace HB : Aside0 (Below w0.heap.size w0 w21) := ⟨h5_⟩
      clear h0_ h1_ h2_ h3_ h4_ h5_
      have hHeld : w21.cell? ⟨gb856, 0, none⟩ = some (.int .i64 a1_0) ∧ w21.cell? ⟨gb856, 1, none⟩ = some (.int .i64 a1_1) ∧ w21.cell? ⟨gb856, 2, none⟩ = some (.int .i64 a1_2) ∧ w21.cell? ⟨gb856, 3, none⟩ = some (.int .i64 a1_3) ∧ w21.cell? ⟨gb857, 0, none⟩ = some (.int .i64 a2_0) ∧ w21.cell? ⟨gb857, 1, none⟩ = some (.int .i64 a2_1) ∧ w21.cell? ⟨gb857, 2, none⟩ = some (.int .i64 a2_2) ∧ w21.cell? ⟨gb857, 3, none⟩ = some (.int .i64 a2_3) := hS_
      refine norm_ (a' := ?_) ?_ ?_
      rotate_left
      ·
       simp only [putAll, Act.put, List.setIfInBounds_toArray, List.set_cons_zero, List.set_cons_succ]
       rfl
      refine two_ (i := 12) (j := 13) (Ni := some 7) (Nj := some 8) #[true, true, true, true, true, true, true, true, true, true, true, true, true, false, false, false] #[true, true, true, true, true, true, true, true, true, true, true, true, false, true, false, false] rfl rfl rfl rfl (two_of HT_.out (by kernel_rfl)) (by decide) (by decide) (fun K hK => ?_) (fun K hK => ?_)
      ·
       refine box_step ?hg (N := 7) ?hd (cs := #[.int .i64 0, .int .i64 0]) (t := 27) ?hr ?_; (case hd => rfl); (case hg => rfl); (case hr => first | (go_simp; done) | (go_simp; rfl))
       intro gb865 hg w22 hbox hb
       have n0_ := Aside0.mk (IsS57.below (z68_3 HI0) hb)
       have n1_ := Aside0.mk (zbb BK856 hb)
       have n2_ := Aside0.mk (zbb BK857 hb)
       have n3_ := Aside0.mk (zbb BK858 hb)
       have n4_ := Aside0.mk (KeepBut.trans (z68_4 HK) (KeepBut.of_below hb g none) (.inl rfl))
       have n5_ := Aside0.mk (below_step (z68_5 HB) hb)
       have BK865 := Aside0.mk (hbox)
       have GW865 := Aside0.mk ((by rw [hg]; exact (keep_size (w := w) (g := g) (row := none) (z68_4 HK)) : w.heap.size ≤ gb865))
       have GE865 := Aside0.mk ((Nat.le_trans HW0.out (by rw [hg]; exact (keep_size (w := w) (g := g) (row := none) (z68_4 HK)) : w.heap.size ≤ gb865) : w0.heap.size ≤ gb865))
       have NB856_865 := Aside0.mk (zlt BK856 hg)
       have NB865_856 := Aside0.mk (zgt BK856 hg)
       have NB857_865 := Aside0.mk (zlt BK857 hg)
       have NB865_857 := Aside0.mk (zgt BK857 hg)
       have NB858_865 := Aside0.mk (zlt BK858 hg)
       have NB865_858 := Aside0.mk (zgt BK858 hg)
       have NB0_865 := Aside0.mk ((by rw [hg]; exact Nat.ne_of_lt (IsS57.lt (show IsS57 w0 _ g t864 from (z68_3 HI0))) : g ≠ gb865))
       have NB865_0 := Aside0.mk ((by rw [hg]; exact Nat.ne_of_gt (IsS57.lt (show IsS57 w0 _ g t864 from (z68_3 HI0))) : gb865 ≠ g))
       clear HI0 BK856 BK857 BK858 HK HB
       have HI0 := n0_; have BK856 := n1_; have BK857 := n2_; have BK858 := n3_; have HK := n4_; have HB := n5_
       clear n0_ n1_ n2_ n3_ n4_ n5_ hb hbox hg
       refine hK.out _ _ ⟨zc BK856 0, zc BK856 1, zc BK856 2, zc BK856 3, zc BK857 0, zc BK857 1, zc BK857 2, zc BK857 3⟩ (fun hHeld => ?_)
       clear hK K
       refine norm_ (a' := ?_) ?_ ?_
       rotate_left
       ·
        show Act.put _ (some 7) _ = _
        simp only [Act.put, List.setIfInBounds_toArray, List.set_cons_zero, List.set_cons_succ, i64_w, i32_w]; rfl
       exact norm_ zq4 (hJ5_11_12 (gb865) _ ⟨hHeld, (zq1 BK856), (zq1 BK857), (zq1 BK858), (zq1 BK865), GW865.out, GE865.out, NB0_865.out, NB865_0.out, NB856_865.out, NB865_856.out, NB857_865.out, NB865_857.out, NB858_865.out, NB865_858.out, (z68_3 HI0), (z68_4 HK), (z68_5 HB)⟩)
      ·
       refine box_step ?hg (N := 8) ?hd (cs := #[.int .i64 0, .int .i64 0]) (t := 27) ?hr ?_; (case hd => rfl); (case hg => rfl); (case hr => first | (go_simp; done) | (go_simp; rfl))
       intro gb866 hg w22 hbox hb
       have n0_ := Aside0.mk (IsS57.below (z68_3 HI0) hb)
       have n1_ := Aside0.mk (zbb BK856 hb)
       have n2_ := Aside0.mk (zbb BK857 hb)
       have n3_ := Aside0.mk (zbb BK858 hb)
       have n4_ := Aside0.mk (KeepBut.trans (z68_4 HK) (KeepBut.of_below hb g none) (.inl rfl))
       have n5_ := Aside0.mk (below_step (z68_5 HB) hb)
       have BK866 := Aside0.mk (hbox)
       have GW866 := Aside0.mk ((by rw [hg]; exact (keep_size (w := w) (g := g) (row := none) (z68_4 HK)) : w.heap.size ≤ gb866))
       have GE866 := Aside0.mk ((Nat.le_trans HW0.out (by rw [hg]; exact (keep_size (w := w) (g := g) (row := none) (z68_4 HK)) : w.heap.size ≤ gb866) : w0.heap.size ≤ gb866))
       have NB856_866 := Aside0.mk (zlt BK856 hg)
       have NB866_856 := Aside0.mk (zgt BK856 hg)
       have NB857_866 := Aside0.mk (zlt BK857 hg)
       have NB866_857 := Aside0.mk (zgt BK857 hg)
       have NB858_866 := Aside0.mk (zlt BK858 hg)
       have NB866_858 := Aside0.mk (zgt BK858 hg)
       have NB0_866 := Aside0.mk ((by rw [hg]; exact Nat.ne_of_lt (IsS57.lt (show IsS57 w0 _ g t864 from (z68_3 HI0))) : g ≠ gb866))
       have NB866_0 := Aside0.mk ((by rw [hg]; exact Nat.ne_of_gt (IsS57.lt (show IsS57 w0 _ g t864 from (z68_3 HI0))) : gb866 ≠ g))
       clear HI0 BK856 BK857 BK858 HK HB
       have HI0 := n0_; have BK856 := n1_; have BK857 := n2_; have BK858 := n3_; have HK := n4_; have HB := n5_
       clear n0_ n1_ n2_ n3_ n4_ n5_ hb hbox hg
       refine hK.out _ _ ⟨zc BK856 0, zc BK856 1, zc BK856 2, zc BK856 3, zc BK857 0, zc BK857 1, zc BK857 2, zc BK857 3⟩ (fun hHeld => ?_)
       clear hK K
       refine norm_ (a' := ?_) ?_ ?_
       rotate_left
       ·
        show Act.put _ (some 8) _ = _
        simp only [Act.put, List.setIfInBounds_toArray, List.set_cons_zero, List.set_cons_succ, i64_w, i32_w]; rfl
       exact norm_ zq4 (hJ5_11_13 (gb866) _ ⟨hHeld, (zq1 BK856), (zq1 BK857), (zq1 BK858), (zq1 BK866), GW866.out, GE866.out, NB0_866.out, NB866_0.out, NB856_866.out, NB866_856.out, NB857_866.out, NB866_857.out, NB858_866.out, NB866_858.out, (z68_3 HI0), (z68_4 HK), (z68_5 HB)⟩)
    ·
     rintro ⟨gb865, gb866⟩ w22 ⟨hS_, h0_, h1_, h2_, h3_, h4_, h5_, h6_, h7_, h8_, h9_, h10_, h11_, h12_, h13_, h14_, h15_, h16_, h17_, h18_, h19_, h20_, h21_, h22_, h23_, h24_, h25_, h26_, h27_, h28_, h29_⟩
     have BK865 : Aside0 (w22.heap[gb865]? = some (.cells #[.int .i64 0, .int .i64 0] 27 (0, 0))) := ⟨h3_⟩
     have BK866 : Aside0 (w22.heap[gb866]? = some (.cells #[.int .i64 0, .int .i64 0] 27 (0, 0))) := ⟨h4_⟩
     have GW865 : Aside0 (w.heap.size ≤ gb865) := ⟨h5_⟩
     have GE865 : Aside0 (w0.heap.size ≤ gb865) := ⟨h6_⟩
     have NB0_865 : Aside0 (g ≠ gb865) := ⟨h7_⟩
     have NB865_0 : Aside0 (gb865 ≠ g) := ⟨h8_⟩
     have NB856_865 : Aside0 (gb856 ≠ gb865) := ⟨h9_⟩
     have NB865_856 : Aside0 (gb865 ≠ gb856) := ⟨h10_⟩
     have NB857_865 : Aside0 (gb857 ≠ gb865) := ⟨h11_⟩
     have NB865_857 : Aside0 (gb865 ≠ gb857) := ⟨h12_⟩
     have NB858_865 : Aside0 (gb858 ≠ gb865) := ⟨h13_⟩
     have NB865_858 : Aside0 (gb865 ≠ gb858) := ⟨h14_⟩
     have NB866_865 : Aside0 (gb866 ≠ gb865) := ⟨h15_⟩
     have NB865_866 : Aside0 (gb865 ≠ gb866) := ⟨h16_⟩
     have GW866 : Aside0 (w.heap.size ≤ gb866) := ⟨h17_⟩
     have GE866 : Aside0 (w0.heap.size ≤ gb866) := ⟨h18_⟩
     have NB0_866 : Aside0 (g ≠ gb866) := ⟨h19_⟩
     have NB866_0 : Aside0 (gb866 ≠ g) := ⟨h20_⟩
     have NB856_866 : Aside0 (gb856 ≠ gb866) := ⟨h21_⟩
     have NB866_856 : Aside0 (gb866 ≠ gb856) := ⟨h22_⟩
     have NB857_866 : Aside0 (gb857 ≠ gb866) := ⟨h23_⟩
     have NB866_857 : Aside0 (gb866 ≠ gb857) := ⟨h24_⟩
     have NB858_866 : Aside0 (gb858 ≠ gb866) := ⟨h25_⟩
     have NB866_858 : Aside0 (gb866 ≠ gb858) := ⟨h26_⟩
     replace BK856 : Aside0 (w22.heap[gb856]? = some (.cells #[.int .i64 a1_0, .int .i64 a1_1, .int .i64 a1_2, .int .i64 a1_3] 29 (0, 0))) := ⟨h0_⟩; replace BK857 : Aside0 (w22.heap[gb857]? = some (.cells #[.int .i64 a2_0, .int .i64 a2_1, .int .i64 a2_2, .int .i64 a2_3] 29 (0, 0))) := ⟨h1_⟩; replace BK858 : Aside0 (w22.heap[gb858]? = some (.cells #[.int .i64 0, .int .i64 0, .int .i64 0, .int .i64 0] 29 (0, 0))) := ⟨h2_⟩; replace HI0 : Aside0 (IsS57 w0 w22 g t861) := ⟨h27_⟩; replace HK : Aside0 (KeepBut w w22 g none) := ⟨h28_⟩; replace HB : Aside0 (Below w0.heap.size w0 w22) := ⟨h29_⟩
     clear h0_ h10_ h11_ h12_ h13_ h14_ h15_ h16_ h17_ h18_ h19_ h1_ h20_ h21_ h22_ h23_ h24_ h25_ h26_ h27_ h28_ h29_ h2_ h3_ h4_ h5_ h6_ h7_ h8_ h9_
     have hHeld : w22.cell? ⟨gb856, 0, none⟩ = some (.int .i64 a1_0) ∧ w22.cell? ⟨gb856, 1, none⟩ = some (.int .i64 a1_1) ∧ w22.cell? ⟨gb856, 2, none⟩ = some (.int .i64 a1_2) ∧ w22.cell? ⟨gb856, 3, none⟩ = some (.int .i64 a1_3) ∧ w22.cell? ⟨gb857, 0, none⟩ = some (.int .i64 a2_0) ∧ w22.cell? ⟨gb857, 1, none⟩ = some (.int .i64 a2_1) ∧ w22.cell? ⟨gb857, 2, none⟩ = some (.int .i64 a2_2) ∧ w22.cell? ⟨gb857, 3, none⟩ = some (.int .i64 a2_3) := hS_
     refine norm_ (a' := ?_) ?_ ?_
     rotate_left
     ·
      simp only [putAll, Act.put, List.setIfInBounds_toArray, List.set_cons_zero, List.set_cons_succ]
      rfl
     refine one_ (i := 11) (N := some 22) #[true, true, true, true, true, true, true, true, true, true, true, true, true, true, false, false] rfl rfl (one_of HT_.out (by kernel_rfl)) (by decide) (fun K hK => ?_)
     refine goes_ Try.func94 (by kernel_rfl) rfl #[.pointer (some ⟨g, 0, none⟩), .agg #[.int .i64 a1_0, .int .i64 a1_1], .agg #[.int .i64 a2_2, .int .i64 a2_3]] (by rfl) rfl rfl zq6 ?_
     with_reducible refine (impl_reckoner_product.calls k g t861 a1_0 a1_1 a2_2 a2_3 t862 t863 t864 w0 _ ?side1 ?side2 A5.out).mono ?_
     (case side1 => exact z68_3 HI0)
     (case side2 => exact z68_5 HB)
     rintro e w23 ⟨rfl, hi, hb, hk⟩
     refine ⟨_, rfl, ?_⟩
     replace BK856 := Aside0.mk (KeepBut.blk hk (zq1 BK856) NB856_0.out (by simp)); replace BK857 := Aside0.mk (KeepBut.blk hk (zq1 BK857) NB857_0.out (by simp)); replace BK858 := Aside0.mk (KeepBut.blk hk (zq1 BK858) NB858_0.out (by simp)); replace BK865 := Aside0.mk (KeepBut.blk hk (zq1 BK865) NB865_0.out (by simp)); replace BK866 := Aside0.mk (KeepBut.blk hk (zq1 BK866) NB866_0.out (by simp)); replace HK := Aside0.mk (KeepBut.trans (z68_4 HK) hk (.inl rfl)); replace HB := Aside0.mk (hb); replace HI0 := Aside0.mk (hi)
     (try clear hb)
     (try clear hb2)
     (try clear hk)
     (try clear hi)
     refine hK.out _ _ ⟨zc BK856 0, zc BK856 1, zc BK856 2, zc BK856 3, zc BK857 0, zc BK857 1, zc BK857 2, zc BK857 3⟩ (fun hHeld => ?_)
     clear hK K
     refine norm_ (a' := ?_) ?_ ?_
     rotate_left
     ·
      show Act.put _ (some 22) _ = _
      simp only [Act.put, List.setIfInBounds_toArray, List.set_cons_zero, List.set_cons_succ, i64_w, i32_w]; rfl
     exact norm_ zq4 (hJ5_11_12_13 (gb865, gb866) _ ⟨hHeld, (zq1 BK856), (zq1 BK857), (zq1 BK858), (zq1 BK865), (zq1 BK866), GW865.out, GE865.out, NB0_865.out, NB865_0.out, NB856_865.out, NB865_856.out, NB857_865.out, NB865_857.out, NB858_865.out, NB865_858.out, NB866_865.out, NB865_866.out, GW866.out, GE866.out, NB0_866.out, NB866_0.out, NB856_866.out, NB866_856.out, NB857_866.out, NB866_857.out, NB858_866.out, NB866_858.out, (z68_3 HI0), (z68_4 HK), (z68_5 HB)⟩)
   ·
    rintro gb866 w22 ⟨hS_, h0_, h1_, h2_, h3_, h4_, h5_, h6_, h7_, h8_, h9_, h10_, h11_, h12_, h13_, h14_, h15_, h16_⟩
    have BK866 : Aside0 (w22.heap[gb866]? = some (.cells #[.int .i64 0, .int .i64 0] 27 (0, 0))) := ⟨h3_⟩
    have GW866 : Aside0 (w.heap.size ≤ gb866) := ⟨h4_⟩
    have GE866 : Aside0 (w0.heap.size ≤ gb866) := ⟨h5_⟩
    have NB0_866 : Aside0 (g ≠ gb866) := ⟨h6_⟩
    have NB866_0 : Aside0 (gb866 ≠ g) := ⟨h7_⟩
    have NB856_866 : Aside0 (gb856 ≠ gb866) := ⟨h8_⟩
    have NB866_856 : Aside0 (gb866 ≠ gb856) := ⟨h9_⟩
    have NB857_866 : Aside0 (gb857 ≠ gb866) := ⟨h10_⟩
    have NB866_857 : Aside0 (gb866 ≠ gb857) := ⟨h11_⟩
    have NB858_866 : Aside0 (gb858 ≠ gb866) := ⟨h12_⟩
    have NB866_858 : Aside0 (gb866 ≠ gb858) := ⟨h13_⟩
    replace BK856 : Aside0 (w22.heap[gb856]? = some (.cells #[.int .i64 a1_0, .int .i64 a1_1, .int .i64 a1_2, .int .i64 a1_3] 29 (0, 0))) := ⟨h0_⟩; replace BK857 : Aside0 (w22.heap[gb857]? = some (.cells #[.int .i64 a2_0, .int .i64 a2_1, .int .i64 a2_2, .int .i64 a2_3] 29 (0, 0))) := ⟨h1_⟩; replace BK858 : Aside0 (w22.heap[gb858]? = some (.cells #[.int .i64 0, .int .i64 0, .int .i64 0, .int .i64 0] 29 (0, 0))) := ⟨h2_⟩; replace HI0 : Aside0 (IsS57 w0 w22 g t864) := ⟨h14_⟩; replace HK : Aside0 (KeepBut w w22 g none) := ⟨h15_⟩; replace HB : Aside0 (Below w0.heap.size w0 w22) := ⟨h16_⟩
    clear h0_ h10_ h11_ h12_ h13_ h14_ h15_ h16_ h1_ h2_ h3_ h4_ h5_ h6_ h7_ h8_ h9_
    have hHeld : w22.cell? ⟨gb856, 0, none⟩ = some (.int .i64 a1_0) ∧ w22.cell? ⟨gb856, 1, none⟩ = some (.int .i64 a1_1) ∧ w22.cell? ⟨gb856, 2, none⟩ = some (.int .i64 a1_2) ∧ w22.cell? ⟨gb856, 3, none⟩ = some (.int .i64 a1_3) ∧ w22.cell? ⟨gb857, 0, none⟩ = some (.int .i64 a2_0) ∧ w22.cell? ⟨gb857, 1, none⟩ = some (.int .i64 a2_1) ∧ w22.cell? ⟨gb857, 2, none⟩ = some (.int .i64 a2_2) ∧ w22.cell? ⟨gb857, 3, none⟩ = some (.int .i64 a2_3) := hS_
    refine norm_ (a' := ?_) ?_ ?_
    rotate_left
    ·
     simp only [putAll, Act.put, List.setIfInBounds_toArray, List.set_cons_zero, List.set_cons_succ]
     rfl
    refine one_ (i := 12) (N := some 7) #[true, true, true, true, true, true, true, true, true, true, true, true, true, true, false, false] rfl rfl (one_of HT_.out (by kernel_rfl)) (by decide) (fun K hK => ?_)
    refine box_step ?hg (N := 7) ?hd (cs := #[.int .i64 0, .int .i64 0]) (t := 27) ?hr ?_; (case hd => rfl); (case hg => rfl); (case hr => first | (go_simp; done) | (go_simp; rfl))
    intro gb865 hg w23 hbox hb
    have n0_ := Aside0.mk (IsS57.below (z68_3 HI0) hb)
    have n1_ := Aside0.mk (zbb BK856 hb)
    have n2_ := Aside0.mk (zbb BK857 hb)
    have n3_ := Aside0.mk (zbb BK858 hb)
    have n4_ := Aside0.mk (zbb BK866 hb)
    have n5_ := Aside0.mk (KeepBut.trans (z68_4 HK) (KeepBut.of_below hb g none) (.inl rfl))
    have n6_ := Aside0.mk (below_step (z68_5 HB) hb)
    have BK865 := Aside0.mk (hbox)
    have GW865 := Aside0.mk ((by rw [hg]; exact (keep_size (w := w) (g := g) (row := none) (z68_4 HK)) : w.heap.size ≤ gb865))
    have GE865 := Aside0.mk ((Nat.le_trans HW0.out (by rw [hg]; exact (keep_size (w := w) (g := g) (row := none) (z68_4 HK)) : w.heap.size ≤ gb865) : w0.heap.size ≤ gb865))
    have NB856_865 := Aside0.mk (zlt BK856 hg)
    have NB865_856 := Aside0.mk (zgt BK856 hg)
    have NB857_865 := Aside0.mk (zlt BK857 hg)
    have NB865_857 := Aside0.mk (zgt BK857 hg)
    have NB858_865 := Aside0.mk (zlt BK858 hg)
    have NB865_858 := Aside0.mk (zgt BK858 hg)
    have NB866_865 := Aside0.mk (zlt BK866 hg)
    have NB865_866 := Aside0.mk (zgt BK866 hg)
    have NB0_865 := Aside0.mk ((by rw [hg]; exact Nat.ne_of_lt (IsS57.lt (show IsS57 w0 _ g t864 from (z68_3 HI0))) : g ≠ gb865))
    have NB865_0 := Aside0.mk ((by rw [hg]; exact Nat.ne_of_gt (IsS57.lt (show IsS57 w0 _ g t864 from (z68_3 HI0))) : gb865 ≠ g))
    clear HI0 BK856 BK857 BK858 BK866 HK HB
    have HI0 := n0_; have BK856 := n1_; have BK857 := n2_; have BK858 := n3_; have BK866 := n4_; have HK := n5_; have HB := n6_
    clear n0_ n1_ n2_ n3_ n4_ n5_ n6_ hb hbox hg
    refine hK.out _ _ ⟨zc BK856 0, zc BK856 1, zc BK856 2, zc BK856 3, zc BK857 0, zc BK857 1, zc BK857 2, zc BK857 3⟩ (fun hHeld => ?_)
    clear hK K
    refine norm_ (a' := ?_) ?_ ?_
    rotate_left
    ·
     show Act.put _ (some 7) _ = _
     simp only [Act.put, List.setIfInBounds_toArray, List.set_cons_zero, List.set_cons_succ, i64_w, i32_w]; rfl
    exact norm_ zq4 (hJ5_11_12_13 (gb865, gb866) _ ⟨hHeld, (zq1 BK856), (zq1 BK857), (zq1 BK858), (zq1 BK865), (zq1 BK866), GW865.out, GE865.out, NB0_865.out, NB865_0.out, NB856_865.out, NB865_856.out, NB857_865.out, NB865_857.out, NB858_865.out, NB865_858.out, NB866_865.out, NB865_866.out, GW866.out, GE866.out, NB0_866.out, NB866_0.out, NB856_866.out, NB866_856.out, NB857_866.out, NB866_857.out, NB858_866.out, NB866_858.out, (z68_3 HI0), (z68_4 HK), (z68_5 HB)⟩)
  ·
   rintro gb865 w22 ⟨hS_, h0_, h1_, h2_, h3_, h4_, h5_, h6_, h7_, h8_, h9_, h10_, h11_, h12_, h13_, h14_, h15_, h16_⟩
   have BK865 : Aside0 (w22.heap[gb865]? = some (.cells #[.int .i64 0, .int .i64 0] 27 (0, 0))) := ⟨h3_⟩
   have GW865 : Aside0 (w.heap.size ≤ gb865) := ⟨h4_⟩
   have GE865 : Aside0 (w0.heap.size ≤ gb865) := ⟨h5_⟩
   have NB0_865 : Aside0 (g ≠ gb865) := ⟨h6_⟩
   have NB865_0 : Aside0 (gb865 ≠ g) := ⟨h7_⟩
   have NB856_865 : Aside0 (gb856 ≠ gb865) := ⟨h8_⟩
   have NB865_856 : Aside0 (gb865 ≠ gb856) := ⟨h9_⟩
   have NB857_865 : Aside0 (gb857 ≠ gb865) := ⟨h10_⟩
   have NB865_857 : Aside0 (gb865 ≠ gb857) := ⟨h11_⟩
   have NB858_865 : Aside0 (gb858 ≠ gb865) := ⟨h12_⟩
   have NB865_858 : Aside0 (gb865 ≠ gb858) := ⟨h13_⟩
   replace BK856 : Aside0 (w22.heap[gb856]? = some (.cells #[.int .i64 a1_0, .int .i64 a1_1, .int .i64 a1_2, .int .i64 a1_3] 29 (0, 0))) := ⟨h0_⟩; replace BK857 : Aside0 (w22.heap[gb857]? = some (.cells #[.int .i64 a2_0, .int .i64 a2_1, .int .i64 a2_2, .int .i64 a2_3] 29 (0, 0))) := ⟨h1_⟩; replace BK858 : Aside0 (w22.heap[gb858]? = some (.cells #[.int .i64 0, .int .i64 0, .int .i64 0, .int .i64 0] 29 (0, 0))) := ⟨h2_⟩; replace HI0 : Aside0 (IsS57 w0 w22 g t864) := ⟨h14_⟩; replace HK : Aside0 (KeepBut w w22 g none) := ⟨h15_⟩; replace HB : Aside0 (Below w0.heap.size w0 w22) := ⟨h16_⟩
   clear h0_ h10_ h11_ h12_ h13_ h14_ h15_ h16_ h1_ h2_ h3_ h4_ h5_ h6_ h7_ h8_ h9_
   have hHeld : w22.cell? ⟨gb856, 0, none⟩ = some (.int .i64 a1_0) ∧ w22.cell? ⟨gb856, 1, none⟩ = some (.int .i64 a1_1) ∧ w22.cell? ⟨gb856, 2, none⟩ = some (.int .i64 a1_2) ∧ w22.cell? ⟨gb856, 3, none⟩ = some (.int .i64 a1_3) ∧ w22.cell? ⟨gb857, 0, none⟩ = some (.int .i64 a2_0) ∧ w22.cell? ⟨gb857, 1, none⟩ = some (.int .i64 a2_1) ∧ w22.cell? ⟨gb857, 2, none⟩ = some (.int .i64 a2_2) ∧ w22.cell? ⟨gb857, 3, none⟩ = some (.int .i64 a2_3) := hS_
   refine norm_ (a' := ?_) ?_ ?_
   rotate_left
   ·
    simp only [putAll, Act.put, List.setIfInBounds_toArray, List.set_cons_zero, List.set_cons_succ]
    rfl
   refine one_ (i := 13) (N := some 8) #[true, true, true, true, true, true, true, true, true, true, true, true, true, true, false, false] rfl rfl (one_of HT_.out (by kernel_rfl)) (by decide) (fun K hK => ?_)
   refine box_step ?hg (N := 8) ?hd (cs := #[.int .i64 0, .int .i64 0]) (t := 27) ?hr ?_; (case hd => rfl); (case hg => rfl); (case hr => first | (go_simp; done) | (go_simp; rfl))
   intro gb866 hg w23 hbox hb
   have n0_ := Aside0.mk (IsS57.below (z68_3 HI0) hb)
   have n1_ := Aside0.mk (zbb BK856 hb)
   have n2_ := Aside0.mk (zbb BK857 hb)
   have n3_ := Aside0.mk (zbb BK858 hb)
   have n4_ := Aside0.mk (zbb BK865 hb)
   have n5_ := Aside0.mk (KeepBut.trans (z68_4 HK) (KeepBut.of_below hb g none) (.inl rfl))
   have n6_ := Aside0.mk (below_step (z68_5 HB) hb)
   have BK866 := Aside0.mk (hbox)
   have GW866 := Aside0.mk ((by rw [hg]; exact (keep_size (w := w) (g := g) (row := none) (z68_4 HK)) : w.heap.size ≤ gb866))
   have GE866 := Aside0.mk ((Nat.le_trans HW0.out (by rw [hg]; exact (keep_size (w := w) (g := g) (row := none) (z68_4 HK)) : w.heap.size ≤ gb866) : w0.heap.size ≤ gb866))
   have NB856_866 := Aside0.mk (zlt BK856 hg)
   have NB866_856 := Aside0.mk (zgt BK856 hg)
   have NB857_866 := Aside0.mk (zlt BK857 hg)
   have NB866_857 := Aside0.mk (zgt BK857 hg)
   have NB858_866 := Aside0.mk (zlt BK858 hg)
   have NB866_858 := Aside0.mk (zgt BK858 hg)
   have NB865_866 := Aside0.mk (zlt BK865 hg)
   have NB866_865 := Aside0.mk (zgt BK865 hg)
   have NB0_866 := Aside0.mk ((by rw [hg]; exact Nat.ne_of_lt (IsS57.lt (show IsS57 w0 _ g t864 from (z68_3 HI0))) : g ≠ gb866))
   have NB866_0 := Aside0.mk ((by rw [hg]; exact Nat.ne_of_gt (IsS57.lt (show IsS57 w0 _ g t864 from (z68_3 HI0))) : gb866 ≠ g))
   clear HI0 BK856 BK857 BK858 BK865 HK HB
   have HI0 := n0_; have BK856 := n1_; have BK857 := n2_; have BK858 := n3_; have BK865 := n4_; have HK := n5_; have HB := n6_
   clear n0_ n1_ n2_ n3_ n4_ n5_ n6_ hb hbox hg
   refine hK.out _ _ ⟨zc BK856 0, zc BK856 1, zc BK856 2, zc BK856 3, zc BK857 0, zc BK857 1, zc BK857 2, zc BK857 3⟩ (fun hHeld => ?_)
   clear hK K
   refine norm_ (a' := ?_) ?_ ?_
   rotate_left
   ·
    show Act.put _ (some 8) _ = _
    simp only [Act.put, List.setIfInBounds_toArray, List.set_cons_zero, List.set_cons_succ, i64_w, i32_w]; rfl
   exact norm_ zq4 (hJ5_11_12_13 (gb865, gb866) _ ⟨hHeld, (zq1 BK856), (zq1 BK857), (zq1 BK858), (zq1 BK865), (zq1 BK866), GW865.out, GE865.out, NB0_865.out, NB865_0.out, NB856_865.out, NB865_856.out, NB857_865.out, NB865_857.out, NB858_865.out, NB865_858.out, NB866_865.out, NB865_866.out, GW866.out, GE866.out, NB0_866.out, NB866_0.out, NB856_866.out, NB866_856.out, NB857_866.out, NB866_857.out, NB858_866.out, NB866_858.out, (z68_3 HI0), (z68_4 HK), (z68_5 HB)⟩)
 rintro ⟨gb865, gb866⟩ w23 ⟨hS_, h0_, h1_, h2_, h3_, h4_, h5_, h6_, h7_, h8_, h9_, h10_, h11_, h12_, h13_, h14_, h15_, h16_, h17_, h18_, h19_, h20_, h21_, h22_, h23_, h24_, h25_, h26_, h27_, h28_, h29_⟩
 have BK865 : Aside0 (w23.heap[gb865]? = some (.cells #[.int .i64 0, .int .i64 0] 27 (0, 0))) := ⟨h3_⟩
 have BK866 : Aside0 (w23.heap[gb866]? = some (.cells #[.int .i64 0, .int .i64 0] 27 (0, 0))) := ⟨h4_⟩
 have GW865 : Aside0 (w.heap.size ≤ gb865) := ⟨h5_⟩
 have GE865 : Aside0 (w0.heap.size ≤ gb865) := ⟨h6_⟩
 have NB0_865 : Aside0 (g ≠ gb865) := ⟨h7_⟩
 have NB865_0 : Aside0 (gb865 ≠ g) := ⟨h8_⟩
 have NB856_865 : Aside0 (gb856 ≠ gb865) := ⟨h9_⟩
 have NB865_856 : Aside0 (gb865 ≠ gb856) := ⟨h10_⟩
 have NB857_865 : Aside0 (gb857 ≠ gb865) := ⟨h11_⟩
 have NB865_857 : Aside0 (gb865 ≠ gb857) := ⟨h12_⟩
 have NB858_865 : Aside0 (gb858 ≠ gb865) := ⟨h13_⟩
 have NB865_858 : Aside0 (gb865 ≠ gb858) := ⟨h14_⟩
 have NB866_865 : Aside0 (gb866 ≠ gb865) := ⟨h15_⟩
 have NB865_866 : Aside0 (gb865 ≠ gb866) := ⟨h16_⟩
 have GW866 : Aside0 (w.heap.size ≤ gb866) := ⟨h17_⟩
 have GE866 : Aside0 (w0.heap.size ≤ gb866) := ⟨h18_⟩
 have NB0_866 : Aside0 (g ≠ gb866) := ⟨h19_⟩
 have NB866_0 : Aside0 (gb866 ≠ g) := ⟨h20_⟩
 have NB856_866 : Aside0 (gb856 ≠ gb866) := ⟨h21_⟩
 have NB866_856 : Aside0 (gb866 ≠ gb856) := ⟨h22_⟩
 have NB857_866 : Aside0 (gb857 ≠ gb866) := ⟨h23_⟩
 have NB866_857 : Aside0 (gb866 ≠ gb857) := ⟨h24_⟩
 have NB858_866 : Aside0 (gb858 ≠ gb866) := ⟨h25_⟩
 have NB866_858 : Aside0 (gb866 ≠ gb858) := ⟨h26_⟩
 replace BK856 : Aside0 (w23.heap[gb856]? = some (.cells #[.int .i64 a1_0, .int .i64 a1_1, .int .i64 a1_2, .int .i64 a1_3] 29 (0, 0))) := ⟨h0_⟩; replace BK857 : Aside0 (w23.heap[gb857]? = some (.cells #[.int .i64 a2_0, .int .i64 a2_1, .int .i64 a2_2, .int .i64 a2_3] 29 (0, 0))) := ⟨h1_⟩; replace BK858 : Aside0 (w23.heap[gb858]? = some (.cells #[.int .i64 0, .int .i64 0, .int .i64 0, .int .i64 0] 29 (0, 0))) := ⟨h2_⟩; replace HI0 : Aside0 (IsS57 w0 w23 g t864) := ⟨h27_⟩; replace HK : Aside0 (KeepBut w w23 g none) := ⟨h28_⟩; replace HB : Aside0 (Below w0.heap.size w0 w23) := ⟨h29_⟩
 clear h0_ h10_ h11_ h12_ h13_ h14_ h15_ h16_ h17_ h18_ h19_ h1_ h20_ h21_ h22_ h23_ h24_ h25_ h26_ h27_ h28_ h29_ h2_ h3_ h4_ h5_ h6_ h7_ h8_ h9_
 have hHeld : w23.cell? ⟨gb856, 0, none⟩ = some (.int .i64 a1_0) ∧ w23.cell? ⟨gb856, 1, none⟩ = some (.int .i64 a1_1) ∧ w23.cell? ⟨gb856, 2, none⟩ = some (.int .i64 a1_2) ∧ w23.cell? ⟨gb856, 3, none⟩ = some (.int .i64 a1_3) ∧ w23.cell? ⟨gb857, 0, none⟩ = some (.int .i64 a2_0) ∧ w23.cell? ⟨gb857, 1, none⟩ = some (.int .i64 a2_1) ∧ w23.cell? ⟨gb857, 2, none⟩ = some (.int .i64 a2_2) ∧ w23.cell? ⟨gb857, 3, none⟩ = some (.int .i64 a2_3) := hS_
 refine norm_ (a' := ?_) ?_ ?_
 rotate_left
 ·
  simp only [putAll, Act.put, List.setIfInBounds_toArray, List.set_cons_zero, List.set_cons_succ]
  rfl
 refine one_ (i := 14) (N := none) #[true, true, true, true, true, true, true, true, true, true, true, true, true, true, true, false] rfl rfl (one_of HT_.out (by kernel_rfl)) (by decide) (fun K hK => ?_)
 have hs24 : w23.cell? ⟨gb865, 0, none⟩ = some (.int .i64 0) := zc BK865 0
 have hfs24 := blk_frozen BK865.out 0
 have hns24_0 := NB856_865.out
 have hns24_1 := NB857_865.out
 have hns24_2 := NB858_865.out
 have hns24_4 := NB866_865.out
 have hms24_0 := NB865_856.out
 have hms24_1 := NB865_857.out
 have hms24_2 := NB865_858.out
 have hms24_4 := NB865_866.out
 have hs25 : w23.cell? ⟨gb865, 1, none⟩ = some (.int .i64 0) := zc BK865 1
 have hfs25 := blk_frozen BK865.out 1
 have hns25_0 := NB856_865.out
 have hns25_1 := NB857_865.out
 have hns25_2 := NB858_865.out
 have hns25_4 := NB866_865.out
 have hms25_0 := NB865_856.out
 have hms25_1 := NB865_857.out
 have hms25_2 := NB865_858.out
 have hms25_4 := NB865_866.out
 refine skip_ (w1 := ?_) (by rfl) rfl ?_ ?_
 rotate_left
 ·
  go_simp
  rfl
 refine hK.out _ _ ⟨((cell_far (p := ⟨gb865, _, none⟩) NB856_865.out _).trans (((cell_far (p := ⟨gb865, _, none⟩) NB856_865.out _).trans (hHeld.1)))), ((cell_far (p := ⟨gb865, _, none⟩) NB856_865.out _).trans (((cell_far (p := ⟨gb865, _, none⟩) NB856_865.out _).trans (hHeld.2.1)))), ((cell_far (p := ⟨gb865, _, none⟩) NB856_865.out _).trans (((cell_far (p := ⟨gb865, _, none⟩) NB856_865.out _).trans (hHeld.2.2.1)))), ((cell_far (p := ⟨gb865, _, none⟩) NB856_865.out _).trans (((cell_far (p := ⟨gb865, _, none⟩) NB856_865.out _).trans (hHeld.2.2.2.1)))), ((cell_far (p := ⟨gb865, _, none⟩) NB857_865.out _).trans (((cell_far (p := ⟨gb865, _, none⟩) NB857_865.out _).trans (hHeld.2.2.2.2.1)))), ((cell_far (p := ⟨gb865, _, none⟩) NB857_865.out _).trans (((cell_far (p := ⟨gb865, _, none⟩) NB857_865.out _).trans (hHeld.2.2.2.2.2.1)))), ((cell_far (p := ⟨gb865, _, none⟩) NB857_865.out _).trans (((cell_far (p := ⟨gb865, _, none⟩) NB857_865.out _).trans (hHeld.2.2.2.2.2.2.1)))), ((cell_far (p := ⟨gb865, _, none⟩) NB857_865.out _).trans (((cell_far (p := ⟨gb865, _, none⟩) NB857_865.out _).trans (hHeld.2.2.2.2.2.2.2))))⟩ (fun hHeld => ?_)
 clear hK K
 refine one_ (i := 15) (N := none) #[true, true, true, true, true, true, true, true, true, true, true, true, true, true, true, true] rfl rfl (one_of HT_.out (by kernel_rfl)) (by decide) (fun K hK => ?_)
 have hs26 : w23.cell? ⟨gb866, 0, none⟩ = some (.int .i64 0) := zc BK866 0
 have hfs26 := blk_frozen BK866.out 0
 have hns26_0 := NB856_866.out
 have hns26_1 := NB857_866.out
 have hns26_2 := NB858_866.out
 have hns26_3 := NB865_866.out
 have hms26_0 := NB866_856.out
 have hms26_1 := NB866_857.out
 have hms26_2 := NB866_858.out
 have hms26_3 := NB866_865.out
 have hs27 : w23.cell? ⟨gb866, 1, none⟩ = some (.int .i64 0) := zc BK866 1
 have hfs27 := blk_frozen BK866.out 1
 have hns27_0 := NB856_866.out
 have hns27_1 := NB857_866.out
 have hns27_2 := NB858_866.out
 have hns27_3 := NB865_866.out
 have hms27_0 := NB866_856.out
 have hms27_1 := NB866_857.out
 have hms27_2 := NB866_858.out
 have hms27_3 := NB866_865.out
 refine skip_ (w1 := ?_) (by rfl) rfl ?_ ?_
 rotate_left
 ·
  go_simp
  rfl
 refine hK.out _ _ ⟨((cell_far (p := ⟨gb866, _, none⟩) NB856_866.out _).trans (((cell_far (p := ⟨gb866, _, none⟩) NB856_866.out _).trans (hHeld.1)))), ((cell_far (p := ⟨gb866, _, none⟩) NB856_866.out _).trans (((cell_far (p := ⟨gb866, _, none⟩) NB856_866.out _).trans (hHeld.2.1)))), ((cell_far (p := ⟨gb866, _, none⟩) NB856_866.out _).trans (((cell_far (p := ⟨gb866, _, none⟩) NB856_866.out _).trans (hHeld.2.2.1)))), ((cell_far (p := ⟨gb866, _, none⟩) NB856_866.out _).trans (((cell_far (p := ⟨gb866, _, none⟩) NB856_866.out _).trans (hHeld.2.2.2.1)))), ((cell_far (p := ⟨gb866, _, none⟩) NB857_866.out _).trans (((cell_far (p := ⟨gb866, _, none⟩) NB857_866.out _).trans (hHeld.2.2.2.2.1)))), ((cell_far (p := ⟨gb866, _, none⟩) NB857_866.out _).trans (((cell_far (p := ⟨gb866, _, none⟩) NB857_866.out _).trans (hHeld.2.2.2.2.2.1)))), ((cell_far (p := ⟨gb866, _, none⟩) NB857_866.out _).trans (((cell_far (p := ⟨gb866, _, none⟩) NB857_866.out _).trans (hHeld.2.2.2.2.2.2.1)))), ((cell_far (p := ⟨gb866, _, none⟩) NB857_866.out _).trans (((cell_far (p := ⟨gb866, _, none⟩) NB857_866.out _).trans (hHeld.2.2.2.2.2.2.2))))⟩ (fun hHeld => ?_)
 clear hK K
 refine done_ (done_of HT_.out (by kernel_rfl)) ?_
 try go_wp2
 have n0_ : Aside0 (((((w23.setCell ⟨gb865, 0, none⟩ (.int .i64 t859)).setCell ⟨gb865, 1, none⟩ (.int .i64 t860)).setCell ⟨gb866, 0, none⟩ (.int .i64 t862)).setCell ⟨gb866, 1, none⟩ (.int .i64 t863)).heap[gb856]? = some (.cells #[.int .i64 a1_0, .int .i64 a1_1, .int .i64 a1_2, .int .i64 a1_3] 29 (0, 0))) := ⟨zq5 BK856⟩
 have n1_ : Aside0 (((((w23.setCell ⟨gb865, 0, none⟩ (.int .i64 t859)).setCell ⟨gb865, 1, none⟩ (.int .i64 t860)).setCell ⟨gb866, 0, none⟩ (.int .i64 t862)).setCell ⟨gb866, 1, none⟩ (.int .i64 t863)).heap[gb857]? = some (.cells #[.int .i64 a2_0, .int .i64 a2_1, .int .i64 a2_2, .int .i64 a2_3] 29 (0, 0))) := ⟨zq5 BK857⟩
 have n2_ : Aside0 (((((w23.setCell ⟨gb865, 0, none⟩ (.int .i64 t859)).setCell ⟨gb865, 1, none⟩ (.int .i64 t860)).setCell ⟨gb866, 0, none⟩ (.int .i64 t862)).setCell ⟨gb866, 1, none⟩ (.int .i64 t863)).heap[gb858]? = some (.cells #[.int .i64 0, .int .i64 0, .int .i64 0, .int .i64 0] 29 (0, 0))) := ⟨zq5 BK858⟩
 have n3_ : Aside0 (((((w23.setCell ⟨gb865, 0, none⟩ (.int .i64 t859)).setCell ⟨gb865, 1, none⟩ (.int .i64 t860)).setCell ⟨gb866, 0, none⟩ (.int .i64 t862)).setCell ⟨gb866, 1, none⟩ (.int .i64 t863)).heap[gb865]? = some (.cells #[.int .i64 t859, .int .i64 t860] 27 (0, 0))) := ⟨by (with_reducible repeat (first | refine blk_drewN ?_ _ | refine blk_drew ?_ | refine blk_alloc ?_ _)); refine blk_far ?_ NB865_866.out _; (with_reducible repeat (first | refine blk_drewN ?_ _ | refine blk_drew ?_ | refine blk_alloc ?_ _)); refine blk_far ?_ NB865_866.out _; (with_reducible repeat (first | refine blk_drewN ?_ _ | refine blk_drew ?_ | refine blk_alloc ?_ _)); refine blk_put (cs := #[.int .i64 t859, .int .i64 0]) ?_ 1 _ rfl; (with_reducible repeat (first | refine blk_drewN ?_ _ | refine blk_drew ?_ | refine blk_alloc ?_ _)); refine blk_put (cs := #[.int .i64 0, .int .i64 0]) ?_ 0 _ rfl; (with_reducible repeat (first | refine blk_drewN ?_ _ | refine blk_drew ?_ | refine blk_alloc ?_ _)); exact BK865.out⟩
 have n4_ : Aside0 (((((w23.setCell ⟨gb865, 0, none⟩ (.int .i64 t859)).setCell ⟨gb865, 1, none⟩ (.int .i64 t860)).setCell ⟨gb866, 0, none⟩ (.int .i64 t862)).setCell ⟨gb866, 1, none⟩ (.int .i64 t863)).heap[gb866]? = some (.cells #[.int .i64 t862, .int .i64 t863] 27 (0, 0))) := ⟨by (with_reducible repeat (first | refine blk_drewN ?_ _ | refine blk_drew ?_ | refine blk_alloc ?_ _)); refine blk_put (cs := #[.int .i64 t862, .int .i64 0]) ?_ 1 _ rfl; (with_reducible repeat (first | refine blk_drewN ?_ _ | refine blk_drew ?_ | refine blk_alloc ?_ _)); refine blk_put (cs := #[.int .i64 0, .int .i64 0]) ?_ 0 _ rfl; (with_reducible repeat (first | refine blk_drewN ?_ _ | refine blk_drew ?_ | refine blk_alloc ?_ _)); refine blk_far ?_ NB866_865.out _; (with_reducible repeat (first | refine blk_drewN ?_ _ | refine blk_drew ?_ | refine blk_alloc ?_ _)); refine blk_far ?_ NB866_865.out _; (with_reducible repeat (first | refine blk_drewN ?_ _ | refine blk_drew ?_ | refine blk_alloc ?_ _)); exact BK866.out⟩
 have n5_ : Aside0 (IsS57 w0 ((((w23.setCell ⟨gb865, 0, none⟩ (.int .i64 t859)).setCell ⟨gb865, 1, none⟩ (.int .i64 t860)).setCell ⟨gb866, 0, none⟩ (.int .i64 t862)).setCell ⟨gb866, 1, none⟩ (.int .i64 t863)) g t864) := ⟨(z68_3 HI0)⟩
 have n6_ : Aside0 (KeepBut w ((((w23.setCell ⟨gb865, 0, none⟩ (.int .i64 t859)).setCell ⟨gb865, 1, none⟩ (.int .i64 t860)).setCell ⟨gb866, 0, none⟩ (.int .i64 t862)).setCell ⟨gb866, 1, none⟩ (.int .i64 t863)) g none) := ⟨(z68_4 HK)⟩
 have n7_ : Aside0 (Below w0.heap.size w0 ((((w23.setCell ⟨gb865, 0, none⟩ (.int .i64 t859)).setCell ⟨gb865, 1, none⟩ (.int .i64 t860)).setCell ⟨gb866, 0, none⟩ (.int .i64 t862)).setCell ⟨gb866, 1, none⟩ (.int .i64 t863))) := ⟨(z68_5 HB)⟩
 (try clear BK856)
 (try clear BK857)
 (try clear BK858)
 (try clear BK865)
 (try clear BK866)
 (try clear HI0)
 (try clear HK)
 (try clear HB)
 generalize ((((w23.setCell ⟨gb865, 0, none⟩ (.int .i64 t859)).setCell ⟨gb865, 1, none⟩ (.int .i64 t860)).setCell ⟨gb866, 0, none⟩ (.int .i64 t862)).setCell ⟨gb866, 1, none⟩ (.int .i64 t863)) = w28 at n0_ n1_ n2_ n3_ n4_ n5_ n6_ n7_ ⊢
 have BK856 := n0_; have BK857 := n1_; have BK858 := n2_; have BK865 := n3_; have BK866 := n4_; have HI0 := n5_; have HK := n6_; have HB := n7_
 clear n0_ n1_ n2_ n3_ n4_ n5_ n6_ n7_
 replace BK856 := Aside0.mk (blk_drew BK856.out); replace BK857 := Aside0.mk (blk_drew BK857.out); replace BK858 := Aside0.mk (blk_drew BK858.out); replace BK865 := Aside0.mk (blk_drew BK865.out); replace BK866 := Aside0.mk (blk_drew BK866.out); replace HI0 := Aside0.mk (IsS57.drew HI0.out); replace HK := Aside0.mk (keep_drew HK.out); replace HB := Aside0.mk (below_drew1 HB.out)
 refine start_ (n := 16) (S := fun w' => w'.cell? ⟨gb856, 0, none⟩ = some (.int .i64 a1_0) ∧ w'.cell? ⟨gb856, 1, none⟩ = some (.int .i64 a1_1) ∧ w'.cell? ⟨gb856, 2, none⟩ = some (.int .i64 a1_2) ∧ w'.cell? ⟨gb856, 3, none⟩ = some (.int .i64 a1_3) ∧ w'.cell? ⟨gb857, 0, none⟩ = some (.int .i64 a2_0) ∧ w'.cell? ⟨gb857, 1, none⟩ = some (.int .i64 a2_1) ∧ w'.cell? ⟨gb857, 2, none⟩ = some (.int .i64 a2_2) ∧ w'.cell? ⟨gb857, 3, none⟩ = some (.int .i64 a2_3)) (ds := []) #[false, false, false, false, false, false, false, false, false, false, false, false, false, false, false, false] (by kernel_rfl) rfl rfl ⟨zc BK856 0, zc BK856 1, zc BK856 2, zc BK856 3, zc BK857 0, zc BK857 1, zc BK857 2, zc BK857 3⟩ (fun hHeld => ?_); refine with_tabW impl_reckoner_multiply.tab2 impl_reckoner_multiply.bits2 (fun HT_ HW_ => ?_)
 generalize w28.drew = w29 at BK856 BK857 BK858 BK865 BK866 HI0 HK HB hHeld ⊢
 refine zp (i := 0) (N := some 23) #[true, false, false, false, false, false, false, false, false, false, false, false, false, false, false, false] (any_of HT_.out (by kernel_rfl)) ?_
 refine zp (i := 1) (N := some 24) #[true, true, false, false, false, false, false, false, false, false, false, false, false, false, false, false] (any_of HT_.out (by kernel_rfl)) ?_
 refine zp (i := 3) (N := some 26) #[true, true, false, true, false, false, false, false, false, false, false, false, false, false, false, false] (any_of HT_.out (by kernel_rfl)) ?_
 refine zp (i := 6) (N := some 29) #[true, true, false, true, false, false, true, false, false, false, false, false, false, false, false, false] (any_of HT_.out (by kernel_rfl)) ?_
 refine zp (i := 7) (N := some 30) #[true, true, false, true, false, false, true, true, false, false, false, false, false, false, false, false] (any_of HT_.out (by kernel_rfl)) ?_
 refine zp (i := 9) (N := some 32) #[true, true, false, true, false, false, true, true, false, true, false, false, false, false, false, false] (any_of HT_.out (by kernel_rfl)) ?_
 refine take_ (i := 2) (N := some 25) (v := ?_) (a' := ?_) #[true, true, true, true, false, false, true, true, false, true, false, false, false, false, false, false] rfl rfl (take_ofW HT_.out HW_.out (by kernel_rfl)) (fun _ _ _ h => h) (Or.inl ⟨by rfl, ?_⟩) hHeld ?_ ?_
 rotate_left
 ·
  rintro w' ⟨s0, s1, s2, s3, s4, s5, s6, s7⟩
  go_simp
  with_reducible rfl
 rotate_left
 ·
  simp only [Act.put, List.setIfInBounds_toArray, List.set_cons_zero, List.set_cons_succ, i64_w, i32_w]
  rfl
 refine take_ (i := 4) (N := some 27) (v := ?_) (a' := ?_) #[true, true, true, true, true, false, true, true, false, true, false, false, false, false, false, false] rfl rfl (take_ofW HT_.out HW_.out (by kernel_rfl)) (fun _ _ _ h => h) (Or.inl ⟨by rfl, ?_⟩) hHeld ?_ ?_
 rotate_left
 ·
  rintro w' ⟨s0, s1, s2, s3, s4, s5, s6, s7⟩
  go_simp
  with_reducible rfl
 rotate_left
 ·
  simp only [Act.put, List.setIfInBounds_toArray, List.set_cons_zero, List.set_cons_succ, i64_w, i32_w]
  rfl
 refine take_ (i := 8) (N := some 31) (v := ?_) (a' := ?_) #[true, true, true, true, true, false, true, true, true, true, false, false, false, false, false, false] rfl rfl (take_ofW HT_.out HW_.out (by kernel_rfl)) (fun _ _ _ h => h) (Or.inl ⟨by rfl, ?_⟩) hHeld ?_ ?_
 rotate_left
 ·
  rintro w' ⟨s0, s1, s2, s3, s4, s5, s6, s7⟩
  go_simp
  with_reducible rfl
 rotate_left
 ·
  simp only [Act.put, List.setIfInBounds_toArray, List.set_cons_zero, List.set_cons_succ, i64_w, i32_w]
  rfl
 refine take_ (i := 10) (N := some 33) (v := ?_) (a' := ?_) #[true, true, true, true, true, false, true, true, true, true, true, false, false, false, false, false] rfl rfl (take_ofW HT_.out HW_.out (by kernel_rfl)) (fun _ _ _ h => h) (Or.inl ⟨by rfl, ?_⟩) hHeld ?_ ?_
 rotate_left
 ·
  rintro w' ⟨s0, s1, s2, s3, s4, s5, s6, s7⟩
  go_simp
  with_reducible rfl
 rotate_left
 ·
  simp only [Act.put, List.setIfInBounds_toArray, List.set_cons_zero, List.set_cons_succ, i64_w, i32_w]
  rfl
 refine join_ (σ := Nat × Nat) 2 #[true, true, true, true, true, true, true, true, true, true, true, true, true, true, false, false] (fun s_ => [(28, .agg #[.int .i64 t867, .int .i64 t868]), (34, .agg #[.int .i64 t870, .int .i64 t871]), (9, .pointer (some ⟨s_.1, 0, none⟩)), (10, .pointer (some ⟨s_.2, 0, none⟩))]) (fun s_ w' => (w'.cell? ⟨gb856, 0, none⟩ = some (.int .i64 a1_0) ∧ w'.cell? ⟨gb856, 1, none⟩ = some (.int .i64 a1_1) ∧ w'.cell? ⟨gb856, 2, none⟩ = some (.int .i64 a1_2) ∧ w'.cell? ⟨gb856, 3, none⟩ = some (.int .i64 a1_3) ∧ w'.cell? ⟨gb857, 0, none⟩ = some (.int .i64 a2_0) ∧ w'.cell? ⟨gb857, 1, none⟩ = some (.int .i64 a2_1) ∧ w'.cell? ⟨gb857, 2, none⟩ = some (.int .i64 a2_2) ∧ w'.cell? ⟨gb857, 3, none⟩ = some (.int .i64 a2_3)) ∧ (w'.heap[gb856]? = some (.cells #[.int .i64 a1_0, .int .i64 a1_1, .int .i64 a1_2, .int .i64 a1_3] 29 (0, 0))) ∧ (w'.heap[gb857]? = some (.cells #[.int .i64 a2_0, .int .i64 a2_1, .int .i64 a2_2, .int .i64 a2_3] 29 (0, 0))) ∧ (w'.heap[gb858]? = some (.cells #[.int .i64 0, .int .i64 0, .int .i64 0, .int .i64 0] 29 (0, 0))) ∧ (w'.heap[gb865]? = some (.cells #[.int .i64 t859, .int .i64 t860] 27 (0, 0))) ∧ (w'.heap[gb866]? = some (.cells #[.int .i64 t862, .int .i64 t863] 27 (0, 0))) ∧ (w'.heap[s_.1]? = some (.cells #[.int .i64 0, .int .i64 0] 27 (0, 0))) ∧ (w'.heap[s_.2]? = some (.cells #[.int .i64 0, .int .i64 0] 27 (0, 0))) ∧ (w.heap.size ≤ s_.1) ∧ (w0.heap.size ≤ s_.1) ∧ (g ≠ s_.1) ∧ (s_.1 ≠ g) ∧ (gb856 ≠ s_.1) ∧ (s_.1 ≠ gb856) ∧ (gb857 ≠ s_.1) ∧ (s_.1 ≠ gb857) ∧ (gb858 ≠ s_.1) ∧ (s_.1 ≠ gb858) ∧ (gb865 ≠ s_.1) ∧ (s_.1 ≠ gb865) ∧ (gb866 ≠ s_.1) ∧ (s_.1 ≠ gb866) ∧ (s_.2 ≠ s_.1) ∧ (s_.1 ≠ s_.2) ∧ (w.heap.size ≤ s_.2) ∧ (w0.heap.size ≤ s_.2) ∧ (g ≠ s_.2) ∧ (s_.2 ≠ g) ∧ (gb856 ≠ s_.2) ∧ (s_.2 ≠ gb856) ∧ (gb857 ≠ s_.2) ∧ (s_.2 ≠ gb857) ∧ (gb858 ≠ s_.2) ∧ (s_.2 ≠ gb858) ∧ (gb865 ≠ s_.2) ∧ (s_.2 ≠ gb865) ∧ (gb866 ≠ s_.2) ∧ (s_.2 ≠ gb866) ∧ (IsS57 w0 w' g t872) ∧ (KeepBut w w' g none) ∧ (Below w0.heap.size w0 w')) ?_ ?_
 rotate_left
 ·
  intro hJ5_11_12_13
  refine join_ (σ := Nat) 3 #[true, true, true, true, true, true, true, true, true, true, true, true, true, false, false, false] (fun s_ => [(28, .agg #[.int .i64 t867, .int .i64 t868]), (34, .agg #[.int .i64 t870, .int .i64 t871]), (9, .pointer (some ⟨s_, 0, none⟩))]) (fun s_ w' => (w'.cell? ⟨gb856, 0, none⟩ = some (.int .i64 a1_0) ∧ w'.cell? ⟨gb856, 1, none⟩ = some (.int .i64 a1_1) ∧ w'.cell? ⟨gb856, 2, none⟩ = some (.int .i64 a1_2) ∧ w'.cell? ⟨gb856, 3, none⟩ = some (.int .i64 a1_3) ∧ w'.cell? ⟨gb857, 0, none⟩ = some (.int .i64 a2_0) ∧ w'.cell? ⟨gb857, 1, none⟩ = some (.int .i64 a2_1) ∧ w'.cell? ⟨gb857, 2, none⟩ = some (.int .i64 a2_2) ∧ w'.cell? ⟨gb857, 3, none⟩ = some (.int .i64 a2_3)) ∧ (w'.heap[gb856]? = some (.cells #[.int .i64 a1_0, .int .i64 a1_1, .int .i64 a1_2, .int .i64 a1_3] 29 (0, 0))) ∧ (w'.heap[gb857]? = some (.cells #[.int .i64 a2_0, .int .i64 a2_1, .int .i64 a2_2, .int .i64 a2_3] 29 (0, 0))) ∧ (w'.heap[gb858]? = some (.cells #[.int .i64 0, .int .i64 0, .int .i64 0, .int .i64 0] 29 (0, 0))) ∧ (w'.heap[gb865]? = some (.cells #[.int .i64 t859, .int .i64 t860] 27 (0, 0))) ∧ (w'.heap[gb866]? = some (.cells #[.int .i64 t862, .int .i64 t863] 27 (0, 0))) ∧ (w'.heap[s_]? = some (.cells #[.int .i64 0, .int .i64 0] 27 (0, 0))) ∧ (w.heap.size ≤ s_) ∧ (w0.heap.size ≤ s_) ∧ (g ≠ s_) ∧ (s_ ≠ g) ∧ (gb856 ≠ s_) ∧ (s_ ≠ gb856) ∧ (gb857 ≠ s_) ∧ (s_ ≠ gb857) ∧ (gb858 ≠ s_) ∧ (s_ ≠ gb858) ∧ (gb865 ≠ s_) ∧ (s_ ≠ gb865) ∧ (gb866 ≠ s_) ∧ (s_ ≠ gb866) ∧ (IsS57 w0 w' g t872) ∧ (KeepBut w w' g none) ∧ (Below w0.heap.size w0 w')) ?_ ?_
  rotate_left
  ·
   intro hJ5_11_12
   refine join_ (σ := Nat) 3 #[true, true, true, true, true, true, true, true, true, true, true, true, false, true, false, false] (fun s_ => [(28, .agg #[.int .i64 t867, .int .i64 t868]), (34, .agg #[.int .i64 t870, .int .i64 t871]), (10, .pointer (some ⟨s_, 0, none⟩))]) (fun s_ w' => (w'.cell? ⟨gb856, 0, none⟩ = some (.int .i64 a1_0) ∧ w'.cell? ⟨gb856, 1, none⟩ = some (.int .i64 a1_1) ∧ w'.cell? ⟨gb856, 2, none⟩ = some (.int .i64 a1_2) ∧ w'.cell? ⟨gb856, 3, none⟩ = some (.int .i64 a1_3) ∧ w'.cell? ⟨gb857, 0, none⟩ = some (.int .i64 a2_0) ∧ w'.cell? ⟨gb857, 1, none⟩ = some (.int .i64 a2_1) ∧ w'.cell? ⟨gb857, 2, none⟩ = some (.int .i64 a2_2) ∧ w'.cell? ⟨gb857, 3, none⟩ = some (.int .i64 a2_3)) ∧ (w'.heap[gb856]? = some (.cells #[.int .i64 a1_0, .int .i64 a1_1, .int .i64 a1_2, .int .i64 a1_3] 29 (0, 0))) ∧ (w'.heap[gb857]? = some (.cells #[.int .i64 a2_0, .int .i64 a2_1, .int .i64 a2_2, .int .i64 a2_3] 29 (0, 0))) ∧ (w'.heap[gb858]? = some (.cells #[.int .i64 0, .int .i64 0, .int .i64 0, .int .i64 0] 29 (0, 0))) ∧ (w'.heap[gb865]? = some (.cells #[.int .i64 t859, .int .i64 t860] 27 (0, 0))) ∧ (w'.heap[gb866]? = some (.cells #[.int .i64 t862, .int .i64 t863] 27 (0, 0))) ∧ (w'.heap[s_]? = some (.cells #[.int .i64 0, .int .i64 0] 27 (0, 0))) ∧ (w.heap.size ≤ s_) ∧ (w0.heap.size ≤ s_) ∧ (g ≠ s_) ∧ (s_ ≠ g) ∧ (gb856 ≠ s_) ∧ (s_ ≠ gb856) ∧ (gb857 ≠ s_) ∧ (s_ ≠ gb857) ∧ (gb858 ≠ s_) ∧ (s_ ≠ gb858) ∧ (gb865 ≠ s_) ∧ (s_ ≠ gb865) ∧ (gb866 ≠ s_) ∧ (s_ ≠ gb866) ∧ (IsS57 w0 w' g t872) ∧ (KeepBut w w' g none) ∧ (Below w0.heap.size w0 w')) ?_ ?_
   rotate_left
   ·
    intro hJ5_11_13
    refine join_ (σ := Nat × Nat) 3 #[true, true, true, true, true, true, true, true, true, true, true, false, true, true, false, false] (fun s_ => [(28, .agg #[.int .i64 t867, .int .i64 t868]), (9, .pointer (some ⟨s_.1, 0, none⟩)), (10, .pointer (some ⟨s_.2, 0, none⟩))]) (fun s_ w' => (w'.cell? ⟨gb856, 0, none⟩ = some (.int .i64 a1_0) ∧ w'.cell? ⟨gb856, 1, none⟩ = some (.int .i64 a1_1) ∧ w'.cell? ⟨gb856, 2, none⟩ = some (.int .i64 a1_2) ∧ w'.cell? ⟨gb856, 3, none⟩ = some (.int .i64 a1_3) ∧ w'.cell? ⟨gb857, 0, none⟩ = some (.int .i64 a2_0) ∧ w'.cell? ⟨gb857, 1, none⟩ = some (.int .i64 a2_1) ∧ w'.cell? ⟨gb857, 2, none⟩ = some (.int .i64 a2_2) ∧ w'.cell? ⟨gb857, 3, none⟩ = some (.int .i64 a2_3)) ∧ (w'.heap[gb856]? = some (.cells #[.int .i64 a1_0, .int .i64 a1_1, .int .i64 a1_2, .int .i64 a1_3] 29 (0, 0))) ∧ (w'.heap[gb857]? = some (.cells #[.int .i64 a2_0, .int .i64 a2_1, .int .i64 a2_2, .int .i64 a2_3] 29 (0, 0))) ∧ (w'.heap[gb858]? = some (.cells #[.int .i64 0, .int .i64 0, .int .i64 0, .int .i64 0] 29 (0, 0))) ∧ (w'.heap[gb865]? = some (.cells #[.int .i64 t859, .int .i64 t860] 27 (0, 0))) ∧ (w'.heap[gb866]? = some (.cells #[.int .i64 t862, .int .i64 t863] 27 (0, 0))) ∧ (w'.heap[s_.1]? = some (.cells #[.int .i64 0, .int .i64 0] 27 (0, 0))) ∧ (w'.heap[s_.2]? = some (.cells #[.int .i64 0, .int .i64 0] 27 (0, 0))) ∧ (w.heap.size ≤ s_.1) ∧ (w0.heap.size ≤ s_.1) ∧ (g ≠ s_.1) ∧ (s_.1 ≠ g) ∧ (gb856 ≠ s_.1) ∧ (s_.1 ≠ gb856) ∧ (gb857 ≠ s_.1) ∧ (s_.1 ≠ gb857) ∧ (gb858 ≠ s_.1) ∧ (s_.1 ≠ gb858) ∧ (gb865 ≠ s_.1) ∧ (s_.1 ≠ gb865) ∧ (gb866 ≠ s_.1) ∧ (s_.1 ≠ gb866) ∧ (s_.2 ≠ s_.1) ∧ (s_.1 ≠ s_.2) ∧ (w.heap.size ≤ s_.2) ∧ (w0.heap.size ≤ s_.2) ∧ (g ≠ s_.2) ∧ (s_.2 ≠ g) ∧ (gb856 ≠ s_.2) ∧ (s_.2 ≠ gb856) ∧ (gb857 ≠ s_.2) ∧ (s_.2 ≠ gb857) ∧ (gb858 ≠ s_.2) ∧ (s_.2 ≠ gb858) ∧ (gb865 ≠ s_.2) ∧ (s_.2 ≠ gb865) ∧ (gb866 ≠ s_.2) ∧ (s_.2 ≠ gb866) ∧ (IsS57 w0 w' g t869) ∧ (KeepBut w w' g none) ∧ (Below w0.heap.size w0 w')) ?_ ?_
    rotate_left
    ·
     intro hJ5_12_13
     refine join_ (σ := Unit) 4 #[true, true, true, true, true, true, true, true, true, true, true, true, false, false, false, false] (fun s_ => [(28, .agg #[.int .i64 t867, .int .i64 t868]), (34, .agg #[.int .i64 t870, .int .i64 t871])]) (fun s_ w' => (w'.cell? ⟨gb856, 0, none⟩ = some (.int .i64 a1_0) ∧ w'.cell? ⟨gb856, 1, none⟩ = some (.int .i64 a1_1) ∧ w'.cell? ⟨gb856, 2, none⟩ = some (.int .i64 a1_2) ∧ w'.cell? ⟨gb856, 3, none⟩ = some (.int .i64 a1_3) ∧ w'.cell? ⟨gb857, 0, none⟩ = some (.int .i64 a2_0) ∧ w'.cell? ⟨gb857, 1, none⟩ = some (.int .i64 a2_1) ∧ w'.cell? ⟨gb857, 2, none⟩ = some (.int .i64 a2_2) ∧ w'.cell? ⟨gb857, 3, none⟩ = some (.int .i64 a2_3)) ∧ (w'.heap[gb856]? = some (.cells #[.int .i64 a1_0, .int .i64 a1_1, .int .i64 a1_2, .int .i64 a1_3] 29 (0, 0))) ∧ (w'.heap[gb857]? = some (.cells #[.int .i64 a2_0, .int .i64 a2_1, .int .i64 a2_2, .int .i64 a2_3] 29 (0, 0))) ∧ (w'.heap[gb858]? = some (.cells #[.int .i64 0, .int .i64 0, .int .i64 0, .int .i64 0] 29 (0, 0))) ∧ (w'.heap[gb865]? = some (.cells #[.int .i64 t859, .int .i64 t860] 27 (0, 0))) ∧ (w'.heap[gb866]? = some (.cells #[.int .i64 t862, .int .i64 t863] 27 (0, 0))) ∧ (IsS57 w0 w' g t872) ∧ (KeepBut w w' g none) ∧ (Below w0.heap.size w0 w')) ?_ ?_
     rotate_left
     ·
      intro hJ5_11
      refine join_ (σ := Nat) 4 #[true, true, true, true, true, true, true, true, true, true, true, false, true, false, false, false] (fun s_ => [(28, .agg #[.int .i64 t867, .int .i64 t868]), (9, .pointer (some ⟨s_, 0, none⟩))]) (fun s_ w' => (w'.cell? ⟨gb856, 0, none⟩ = some (.int .i64 a1_0) ∧ w'.cell? ⟨gb856, 1, none⟩ = some (.int .i64 a1_1) ∧ w'.cell? ⟨gb856, 2, none⟩ = some (.int .i64 a1_2) ∧ w'.cell? ⟨gb856, 3, none⟩ = some (.int .i64 a1_3) ∧ w'.cell? ⟨gb857, 0, none⟩ = some (.int .i64 a2_0) ∧ w'.cell? ⟨gb857, 1, none⟩ = some (.int .i64 a2_1) ∧ w'.cell? ⟨gb857, 2, none⟩ = some (.int .i64 a2_2) ∧ w'.cell? ⟨gb857, 3, none⟩ = some (.int .i64 a2_3)) ∧ (w'.heap[gb856]? = some (.cells #[.int .i64 a1_0, .int .i64 a1_1, .int .i64 a1_2, .int .i64 a1_3] 29 (0, 0))) ∧ (w'.heap[gb857]? = some (.cells #[.int .i64 a2_0, .int .i64 a2_1, .int .i64 a2_2, .int .i64 a2_3] 29 (0, 0))) ∧ (w'.heap[gb858]? = some (.cells #[.int .i64 0, .int .i64 0, .int .i64 0, .int .i64 0] 29 (0, 0))) ∧ (w'.heap[gb865]? = some (.cells #[.int .i64 t859, .int .i64 t860] 27 (0, 0))) ∧ (w'.heap[gb866]? = some (.cells #[.int .i64 t862, .int .i64 t863] 27 (0, 0))) ∧ (w'.heap[s_]? = some (.cells #[.int .i64 0, .int .i64 0] 27 (0, 0))) ∧ (w.heap.size ≤ s_) ∧ (w0.heap.size ≤ s_) ∧ (g ≠ s_) ∧ (s_ ≠ g) ∧ (gb856 ≠ s_) ∧ (s_ ≠ gb856) ∧ (gb857 ≠ s_) ∧ (s_ ≠ gb857) ∧ (gb858 ≠ s_) ∧ (s_ ≠ gb858) ∧ (gb865 ≠ s_) ∧ (s_ ≠ gb865) ∧ (gb866 ≠ s_) ∧ (s_ ≠ gb866) ∧ (IsS57 w0 w' g t869) ∧ (KeepBut w w' g none) ∧ (Below w0.heap.size w0 w')) ?_ ?_
      rotate_left
      ·
       intro hJ5_12
       refine join_ (σ := Nat) 4 #[true, true, true, true, true, true, true, true, true, true, true, false, false, true, false, false] (fun s_ => [(28, .agg #[.int .i64 t867, .int .i64 t868]), (10, .pointer (some ⟨s_, 0, none⟩))]) (fun s_ w' => (w'.cell? ⟨gb856, 0, none⟩ = some (.int .i64 a1_0) ∧ w'.cell? ⟨gb856, 1, none⟩ = some (.int .i64 a1_1) ∧ w'.cell? ⟨gb856, 2, none⟩ = some (.int .i64 a1_2) ∧ w'.cell? ⟨gb856, 3, none⟩ = some (.int .i64 a1_3) ∧ w'.cell? ⟨gb857, 0, none⟩ = some (.int .i64 a2_0) ∧ w'.cell? ⟨gb857, 1, none⟩ = some (.int .i64 a2_1) ∧ w'.cell? ⟨gb857, 2, none⟩ = some (.int .i64 a2_2) ∧ w'.cell? ⟨gb857, 3, none⟩ = some (.int .i64 a2_3)) ∧ (w'.heap[gb856]? = some (.cells #[.int .i64 a1_0, .int .i64 a1_1, .int .i64 a1_2, .int .i64 a1_3] 29 (0, 0))) ∧ (w'.heap[gb857]? = some (.cells #[.int .i64 a2_0, .int .i64 a2_1, .int .i64 a2_2, .int .i64 a2_3] 29 (0, 0))) ∧ (w'.heap[gb858]? = some (.cells #[.int .i64 0, .int .i64 0, .int .i64 0, .int .i64 0] 29 (0, 0))) ∧ (w'.heap[gb865]? = some (.cells #[.int .i64 t859, .int .i64 t860] 27 (0, 0))) ∧ (w'.heap[gb866]? = some (.cells #[.int .i64 t862, .int .i64 t863] 27 (0, 0))) ∧ (w'.heap[s_]? = some (.cells #[.int .i64 0, .int .i64 0] 27 (0, 0))) ∧ (w.heap.size ≤ s_) ∧ (w0.heap.size ≤ s_) ∧ (g ≠ s_) ∧ (s_ ≠ g) ∧ (gb856 ≠ s_) ∧ (s_ ≠ gb856) ∧ (gb857 ≠ s_) ∧ (s_ ≠ gb857) ∧ (gb858 ≠ s_) ∧ (s_ ≠ gb858) ∧ (gb865 ≠ s_) ∧ (s_ ≠ gb865) ∧ (gb866 ≠ s_) ∧ (s_ ≠ gb866) ∧ (IsS57 w0 w' g t869) ∧ (KeepBut w w' g none) ∧ (Below w0.heap.size w0 w')) ?_ ?_
       rotate_left
       ·
        intro hJ5_13
        refine join_ (σ := Nat × Nat) 4 #[true, true, true, true, true, false, true, true, true, true, true, false, true, true, false, false] (fun s_ => [(9, .pointer (some ⟨s_.1, 0, none⟩)), (10, .pointer (some ⟨s_.2, 0, none⟩))]) (fun s_ w' => (w'.cell? ⟨gb856, 0, none⟩ = some (.int .i64 a1_0) ∧ w'.cell? ⟨gb856, 1, none⟩ = some (.int .i64 a1_1) ∧ w'.cell? ⟨gb856, 2, none⟩ = some (.int .i64 a1_2) ∧ w'.cell? ⟨gb856, 3, none⟩ = some (.int .i64 a1_3) ∧ w'.cell? ⟨gb857, 0, none⟩ = some (.int .i64 a2_0) ∧ w'.cell? ⟨gb857, 1, none⟩ = some (.int .i64 a2_1) ∧ w'.cell? ⟨gb857, 2, none⟩ = some (.int .i64 a2_2) ∧ w'.cell? ⟨gb857, 3, none⟩ = some (.int .i64 a2_3)) ∧ (w'.heap[gb856]? = some (.cells #[.int .i64 a1_0, .int .i64 a1_1, .int .i64 a1_2, .int .i64 a1_3] 29 (0, 0))) ∧ (w'.heap[gb857]? = some (.cells #[.int .i64 a2_0, .int .i64 a2_1, .int .i64 a2_2, .int .i64 a2_3] 29 (0, 0))) ∧ (w'.heap[gb858]? = some (.cells #[.int .i64 0, .int .i64 0, .int .i64 0, .int .i64 0] 29 (0, 0))) ∧ (w'.heap[gb865]? = some (.cells #[.int .i64 t859, .int .i64 t860] 27 (0, 0))) ∧ (w'.heap[gb866]? = some (.cells #[.int .i64 t862, .int .i64 t863] 27 (0, 0))) ∧ (w'.heap[s_.1]? = some (.cells #[.int .i64 0, .int .i64 0] 27 (0, 0))) ∧ (w'.heap[s_.2]? = some (.cells #[.int .i64 0, .int .i64 0] 27 (0, 0))) ∧ (w.heap.size ≤ s_.1) ∧ (w0.heap.size ≤ s_.1) ∧ (g ≠ s_.1) ∧ (s_.1 ≠ g) ∧ (gb856 ≠ s_.1) ∧ (s_.1 ≠ gb856) ∧ (gb857 ≠ s_.1) ∧ (s_.1 ≠ gb857) ∧ (gb858 ≠ s_.1) ∧ (s_.1 ≠ gb858) ∧ (gb865 ≠ s_.1) ∧ (s_.1 ≠ gb865) ∧ (gb866 ≠ s_.1) ∧ (s_.1 ≠ gb866) ∧ (s_.2 ≠ s_.1) ∧ (s_.1 ≠ s_.2) ∧ (w.heap.size ≤ s_.2) ∧ (w0.heap.size ≤ s_.2) ∧ (g ≠ s_.2) ∧ (s_.2 ≠ g) ∧ (gb856 ≠ s_.2) ∧ (s_.2 ≠ gb856) ∧ (gb857 ≠ s_.2) ∧ (s_.2 ≠ gb857) ∧ (gb858 ≠ s_.2) ∧ (s_.2 ≠ gb858) ∧ (gb865 ≠ s_.2) ∧ (s_.2 ≠ gb865) ∧ (gb866 ≠ s_.2) ∧ (s_.2 ≠ gb866) ∧ (IsS57 w0 w' g t864) ∧ (KeepBut w w' g none) ∧ (Below w0.heap.size w0 w')) ?_ ?_
        rotate_left
        ·
         intro hJ12_13
         refine join_ (σ := Unit) 5 #[true, true, true, true, true, true, true, true, true, true, true, false, false, false, false, false] (fun s_ => [(28, .agg #[.int .i64 t867, .int .i64 t868])]) (fun s_ w' => (w'.cell? ⟨gb856, 0, none⟩ = some (.int .i64 a1_0) ∧ w'.cell? ⟨gb856, 1, none⟩ = some (.int .i64 a1_1) ∧ w'.cell? ⟨gb856, 2, none⟩ = some (.int .i64 a1_2) ∧ w'.cell? ⟨gb856, 3, none⟩ = some (.int .i64 a1_3) ∧ w'.cell? ⟨gb857, 0, none⟩ = some (.int .i64 a2_0) ∧ w'.cell? ⟨gb857, 1, none⟩ = some (.int .i64 a2_1) ∧ w'.cell? ⟨gb857, 2, none⟩ = some (.int .i64 a2_2) ∧ w'.cell? ⟨gb857, 3, none⟩ = some (.int .i64 a2_3)) ∧ (w'.heap[gb856]? = some (.cells #[.int .i64 a1_0, .int .i64 a1_1, .int .i64 a1_2, .int .i64 a1_3] 29 (0, 0))) ∧ (w'.heap[gb857]? = some (.cells #[.int .i64 a2_0, .int .i64 a2_1, .int .i64 a2_2, .int .i64 a2_3] 29 (0, 0))) ∧ (w'.heap[gb858]? = some (.cells #[.int .i64 0, .int .i64 0, .int .i64 0, .int .i64 0] 29 (0, 0))) ∧ (w'.heap[gb865]? = some (.cells #[.int .i64 t859, .int .i64 t860] 27 (0, 0))) ∧ (w'.heap[gb866]? = some (.cells #[.int .i64 t862, .int .i64 t863] 27 (0, 0))) ∧ (IsS57 w0 w' g t869) ∧ (KeepBut w w' g none) ∧ (Below w0.heap.size w0 w')) ?_ ?_
         rotate_left
         ·
          intro hJ5
          refine join_ (σ := Nat) 5 #[true, true, true, true, true, false, true, true, true, true, true, false, true, false, false, false] (fun s_ => [(9, .pointer (some ⟨s_, 0, none⟩))]) (fun s_ w' => (w'.cell? ⟨gb856, 0, none⟩ = some (.int .i64 a1_0) ∧ w'.cell? ⟨gb856, 1, none⟩ = some (.int .i64 a1_1) ∧ w'.cell? ⟨gb856, 2, none⟩ = some (.int .i64 a1_2) ∧ w'.cell? ⟨gb856, 3, none⟩ = some (.int .i64 a1_3) ∧ w'.cell? ⟨gb857, 0, none⟩ = some (.int .i64 a2_0) ∧ w'.cell? ⟨gb857, 1, none⟩ = some (.int .i64 a2_1) ∧ w'.cell? ⟨gb857, 2, none⟩ = some (.int .i64 a2_2) ∧ w'.cell? ⟨gb857, 3, none⟩ = some (.int .i64 a2_3)) ∧ (w'.heap[gb856]? = some (.cells #[.int .i64 a1_0, .int .i64 a1_1, .int .i64 a1_2, .int .i64 a1_3] 29 (0, 0))) ∧ (w'.heap[gb857]? = some (.cells #[.int .i64 a2_0, .int .i64 a2_1, .int .i64 a2_2, .int .i64 a2_3] 29 (0, 0))) ∧ (w'.heap[gb858]? = some (.cells #[.int .i64 0, .int .i64 0, .int .i64 0, .int .i64 0] 29 (0, 0))) ∧ (w'.heap[gb865]? = some (.cells #[.int .i64 t859, .int .i64 t860] 27 (0, 0))) ∧ (w'.heap[gb866]? = some (.cells #[.int .i64 t862, .int .i64 t863] 27 (0, 0))) ∧ (w'.heap[s_]? = some (.cells #[.int .i64 0, .int .i64 0] 27 (0, 0))) ∧ (w.heap.size ≤ s_) ∧ (w0.heap.size ≤ s_) ∧ (g ≠ s_) ∧ (s_ ≠ g) ∧ (gb856 ≠ s_) ∧ (s_ ≠ gb856) ∧ (gb857 ≠ s_) ∧ (s_ ≠ gb857) ∧ (gb858 ≠ s_) ∧ (s_ ≠ gb858) ∧ (gb865 ≠ s_) ∧ (s_ ≠ gb865) ∧ (gb866 ≠ s_) ∧ (s_ ≠ gb866) ∧ (IsS57 w0 w' g t864) ∧ (KeepBut w w' g none) ∧ (Below w0.heap.size w0 w')) ?_ ?_
          rotate_left
          ·
           intro hJ12
           refine join_ (σ := Nat) 5 #[true, true, true, true, true, false, true, true, true, true, true, false, false, true, false, false] (fun s_ => [(10, .pointer (some ⟨s_, 0, none⟩))]) (fun s_ w' => (w'.cell? ⟨gb856, 0, none⟩ = some (.int .i64 a1_0) ∧ w'.cell? ⟨gb856, 1, none⟩ = some (.int .i64 a1_1) ∧ w'.cell? ⟨gb856, 2, none⟩ = some (.int .i64 a1_2) ∧ w'.cell? ⟨gb856, 3, none⟩ = some (.int .i64 a1_3) ∧ w'.cell? ⟨gb857, 0, none⟩ = some (.int .i64 a2_0) ∧ w'.cell? ⟨gb857, 1, none⟩ = some (.int .i64 a2_1) ∧ w'.cell? ⟨gb857, 2, none⟩ = some (.int .i64 a2_2) ∧ w'.cell? ⟨gb857, 3, none⟩ = some (.int .i64 a2_3)) ∧ (w'.heap[gb856]? = some (.cells #[.int .i64 a1_0, .int .i64 a1_1, .int .i64 a1_2, .int .i64 a1_3] 29 (0, 0))) ∧ (w'.heap[gb857]? = some (.cells #[.int .i64 a2_0, .int .i64 a2_1, .int .i64 a2_2, .int .i64 a2_3] 29 (0, 0))) ∧ (w'.heap[gb858]? = some (.cells #[.int .i64 0, .int .i64 0, .int .i64 0, .int .i64 0] 29 (0, 0))) ∧ (w'.heap[gb865]? = some (.cells #[.int .i64 t859, .int .i64 t860] 27 (0, 0))) ∧ (w'.heap[gb866]? = some (.cells #[.int .i64 t862, .int .i64 t863] 27 (0, 0))) ∧ (w'.heap[s_]? = some (.cells #[.int .i64 0, .int .i64 0] 27 (0, 0))) ∧ (w.heap.size ≤ s_) ∧ (w0.heap.size ≤ s_) ∧ (g ≠ s_) ∧ (s_ ≠ g) ∧ (gb856 ≠ s_) ∧ (s_ ≠ gb856) ∧ (gb857 ≠ s_) ∧ (s_ ≠ gb857) ∧ (gb858 ≠ s_) ∧ (s_ ≠ gb858) ∧ (gb865 ≠ s_) ∧ (s_ ≠ gb865) ∧ (gb866 ≠ s_) ∧ (s_ ≠ gb866) ∧ (IsS57 w0 w' g t864) ∧ (KeepBut w w' g none) ∧ (Below w0.heap.size w0 w')) ?_ ?_
           rotate_left
           ·
            intro hJ13
            refine three_ (i := 5) (j := 12) (k := 13) (Ni := some 28) (Nj := some 9) (Nk := some 10) #[true, true, true, true, true, true, true, true, true, true, true, false, false, false, false, false] #[true, true, true, true, true, false, true, true, true, true, true, false, true, false, false, false] #[true, true, true, true, true, false, true, true, true, true, true, false, false, true, false, false] rfl rfl rfl rfl rfl rfl (three_of HT_.out (by kernel_rfl)) (by decide) (by decide) (by decide) (fun K hK => ?_) (fun K hK => ?_) (fun K hK => ?_)
            ·
             refine goes_ Try.func94 (by kernel_rfl) rfl #[.pointer (some ⟨g, 0, none⟩), .agg #[.int .i64 a1_2, .int .i64 a1_3], .agg #[.int .i64 a2_0, .int .i64 a2_1]] (by rfl) rfl rfl zq6 ?_
             with_reducible refine (impl_reckoner_product.calls k g t864 a1_2 a1_3 a2_0 a2_1 t867 t868 t869 w0 _ ?side1 ?side2 A6.out).mono ?_
             (case side1 => exact z68_3 HI0)
             (case side2 => exact z68_5 HB)
             rintro e w30 ⟨rfl, hi, hb, hk⟩
             refine ⟨_, rfl, ?_⟩
             replace BK856 := Aside0.mk (KeepBut.blk hk (zq1 BK856) NB856_0.out (by simp)); replace BK857 := Aside0.mk (KeepBut.blk hk (zq1 BK857) NB857_0.out (by simp)); replace BK858 := Aside0.mk (KeepBut.blk hk (zq1 BK858) NB858_0.out (by simp)); replace BK865 := Aside0.mk (KeepBut.blk hk (zq1 BK865) NB865_0.out (by simp)); replace BK866 := Aside0.mk (KeepBut.blk hk (zq1 BK866) NB866_0.out (by simp)); replace HK := Aside0.mk (KeepBut.trans (z68_4 HK) hk (.inl rfl)); replace HB := Aside0.mk (hb); replace HI0 := Aside0.mk (hi)
             (try clear hb)
             (try clear hb2)
             (try clear hk)
             (try clear hi)
             refine hK.out _ _ ⟨zc BK856 0, zc BK856 1, zc BK856 2, zc BK856 3, zc BK857 0, zc BK857 1, zc BK857 2, zc BK857 3⟩ (fun hHeld => ?_)
             clear hK K
             refine norm_ (a' := ?_) ?_ ?_
             rotate_left
             ·
              show Act.put _ (some 28) _ = _
              simp only [Act.put, List.setIfInBounds_toArray, List.set_cons_zero, List.set_cons_succ, i64_w, i32_w]; rfl
             exact norm_ zq4 (hJ5 () _ ⟨hHeld, (zq1 BK856), (zq1 BK857), (zq1 BK858), (zq1 BK865), (zq1 BK866), (z68_3 HI0), (z68_4 HK), (z68_5 HB)⟩)
            ·
             refine box_step ?hg (N := 9) ?hd (cs := #[.int .i64 0, .int .i64 0]) (t := 27) ?hr ?_; (case hd => rfl); (case hg => rfl); (case hr => first | (go_simp; done) | (go_simp; rfl))
             intro gb873 hg w30 hbox hb
             have n0_ := Aside0.mk (IsS57.below (z68_3 HI0) hb)
             have n1_ := Aside0.mk (zbb BK856 hb)
             have n2_ := Aside0.mk (zbb BK857 hb)
             have n3_ := Aside0.mk (zbb BK858 hb)
             have n4_ := Aside0.mk (zbb BK865 hb)
             have n5_ := Aside0.mk (zbb BK866 hb)
             have n6_ := Aside0.mk (KeepBut.trans (z68_4 HK) (KeepBut.of_below hb g none) (.inl rfl))
             have n7_ := Aside0.mk (below_step (z68_5 HB) hb)
             have BK873 := Aside0.mk (hbox)
             have GW873 := Aside0.mk ((by rw [hg]; exact (keep_size (w := w) (g := g) (row := none) (z68_4 HK)) : w.heap.size ≤ gb873))
             have GE873 := Aside0.mk ((Nat.le_trans HW0.out (by rw [hg]; exact (keep_size (w := w) (g := g) (row := none) (z68_4 HK)) : w.heap.size ≤ gb873) : w0.heap.size ≤ gb873))
             have NB856_873 := Aside0.mk (zlt BK856 hg)
             have NB873_856 := Aside0.mk (zgt BK856 hg)
             have NB857_873 := Aside0.mk (zlt BK857 hg)
             have NB873_857 := Aside0.mk (zgt BK857 hg)
             have NB858_873 := Aside0.mk (zlt BK858 hg)
             have NB873_858 := Aside0.mk (zgt BK858 hg)
             have NB865_873 := Aside0.mk (zlt BK865 hg)
             have NB873_865 := Aside0.mk (zgt BK865 hg)
             have NB866_873 := Aside0.mk (zlt BK866 hg)
             have NB873_866 := Aside0.mk (zgt BK866 hg)
             have NB0_873 := Aside0.mk ((by rw [hg]; exact Nat.ne_of_lt (IsS57.lt (show IsS57 w0 _ g t864 from (z68_3 HI0))) : g ≠ gb873))
             have NB873_0 := Aside0.mk ((by rw [hg]; exact Nat.ne_of_gt (IsS57.lt (show IsS57 w0 _ g t864 from (z68_3 HI0))) : gb873 ≠ g))
             clear HI0 BK856 BK857 BK858 BK865 BK866 HK HB
             have HI0 := n0_; have BK856 := n1_; have BK857 := n2_; have BK858 := n3_; have BK865 := n4_; have BK866 := n5_; have HK := n6_; have HB := n7_
             clear n0_ n1_ n2_ n3_ n4_ n5_ n6_ n7_ hb hbox hg
             refine hK.out _ _ ⟨zc BK856 0, zc BK856 1, zc BK856 2, zc BK856 3, zc BK857 0, zc BK857 1, zc BK857 2, zc BK857 3⟩ (fun hHeld => ?_)
             clear hK K
             refine norm_ (a' := ?_) ?_ ?_
             rotate_left
             ·
              show Act.put _ (some 9) _ = _
              simp only [Act.put, List.setIfInBounds_toArray, List.set_cons_zero, List.set_cons_succ, i64_w, i32_w]; rfl
             exact norm_ zq4 (hJ12 (gb873) _ ⟨hHeld, (zq1 BK856), (zq1 BK857), (zq1 BK858), (zq1 BK865), (zq1 BK866), (zq1 BK873), GW873.out, GE873.out, NB0_873.out, NB873_0.out, NB856_873.out, NB873_856.out, NB857_873.out, NB873_857.out, NB858_873.out, NB873_858.out, NB865_873.out, NB873_865.out, NB866_873.out, NB873_866.out, (z68_3 HI0), (z68_4 HK), (z68_5 HB)⟩)
            ·
             refine box_step ?hg (N := 10) ?hd (cs := #[.int .i64 0, .int .i64 0]) (t := 27) ?hr ?_; (case hd => rfl); (case hg => rfl); (case hr => first | (go_simp; done) | (go_simp; rfl))
             intro gb874 hg w30 hbox hb
             have n0_ := Aside0.mk (IsS57.below (z68_3 HI0) hb)
             have n1_ := Aside0.mk (zbb BK856 hb)
             have n2_ := Aside0.mk (zbb BK857 hb)
             have n3_ := Aside0.mk (zbb BK858 hb)
             have n4_ := Aside0.mk (zbb BK865 hb)
             have n5_ := Aside0.mk (zbb BK866 hb)
             have n6_ := Aside0.mk (KeepBut.trans (z68_4 HK) (KeepBut.of_below hb g none) (.inl rfl))
             have n7_ := Aside0.mk (below_step (z68_5 HB) hb)
             have BK874 := Aside0.mk (hbox)
             have GW874 := Aside0.mk ((by rw [hg]; exact (keep_size (w := w) (g := g) (row := none) (z68_4 HK)) : w.heap.size ≤ gb874))
             have GE874 := Aside0.mk ((Nat.le_trans HW0.out (by rw [hg]; exact (keep_size (w := w) (g := g) (row := none) (z68_4 HK)) : w.heap.size ≤ gb874) : w0.heap.size ≤ gb874))
             have NB856_874 := Aside0.mk (zlt BK856 hg)
             have NB874_856 := Aside0.mk (zgt BK856 hg)
             have NB857_874 := Aside0.mk (zlt BK857 hg)
             have NB874_857 := Aside0.mk (zgt BK857 hg)
             have NB858_874 := Aside0.mk (zlt BK858 hg)
             have NB874_858 := Aside0.mk (zgt BK858 hg)
             have NB865_874 := Aside0.mk (zlt BK865 hg)
             have NB874_865 := Aside0.mk (zgt BK865 hg)
             have NB866_874 := Aside0.mk (zlt BK866 hg)
             have NB874_866 := Aside0.mk (zgt BK866 hg)
             have NB0_874 := Aside0.mk ((by rw [hg]; exact Nat.ne_of_lt (IsS57.lt (show IsS57 w0 _ g t864 from (z68_3 HI0))) : g ≠ gb874))
             have NB874_0 := Aside0.mk ((by rw [hg]; exact Nat.ne_of_gt (IsS57.lt (show IsS57 w0 _ g t864 from (z68_3 HI0))) : gb874 ≠ g))
             clear HI0 BK856 BK857 BK858 BK865 BK866 HK HB
             have HI0 := n0_; have BK856 := n1_; have BK857 := n2_; have BK858 := n3_; have BK865 := n4_; have BK866 := n5_; have HK := n6_; have HB := n7_
             clear n0_ n1_ n2_ n3_ n4_ n5_ n6_ n7_ hb hbox hg
             refine hK.out _ _ ⟨zc BK856 0, zc BK856 1, zc BK856 2, zc BK856 3, zc BK857 0, zc BK857 1, zc BK857 2, zc BK857 3⟩ (fun hHeld => ?_)
             clear hK K
             refine norm_ (a' := ?_) ?_ ?_
             rotate_left
             ·
              show Act.put _ (some 10) _ = _
              simp only [Act.put, List.setIfInBounds_toArray, List.set_cons_zero, List.set_cons_succ, i64_w, i32_w]; rfl
             exact norm_ zq4 (hJ13 (gb874) _ ⟨hHeld, (zq1 BK856), (zq1 BK857), (zq1 BK858), (zq1 BK865), (zq1 BK866), (zq1 BK874), GW874.out, GE874.out, NB0_874.out, NB874_0.out, NB856_874.out, NB874_856.out, NB857_874.out, NB874_857.out, NB858_874.out, NB874_858.out, NB865_874.out, NB874_865.out, NB866_874.out, NB874_866.out, (z68_3 HI0), (z68_4 HK), (z68_5 HB)⟩)
           ·
            rintro gb874 w31 ⟨hS_, h0_, h1_, h2_, h3_, h4_, h5_, h6_, h7_, h8_, h9_, h10_, h11_, h12_, h13_, h14_, h15_, h16_, h17_, h18_, h19_, h20_, h21_, h22_⟩
            have BK874 : Aside0 (w31.heap[gb874]? = some (.cells #[.int .i64 0, .int .i64 0] 27 (0, 0))) := ⟨h5_⟩
            have GW874 : Aside0 (w.heap.size ≤ gb874) := ⟨h6_⟩
            have GE874 : Aside0 (w0.heap.size ≤ gb874) := ⟨h7_⟩
            have NB0_874 : Aside0 (g ≠ gb874) := ⟨h8_⟩
            have NB874_0 : Aside0 (gb874 ≠ g) := ⟨h9_⟩
            have NB856_874 : Aside0 (gb856 ≠ gb874) := ⟨h10_⟩
            have NB874_856 : Aside0 (gb874 ≠ gb856) := ⟨h11_⟩
            have NB857_874 : Aside0 (gb857 ≠ gb874) := ⟨h12_⟩
            have NB874_857 : Aside0 (gb874 ≠ gb857) := ⟨h13_⟩
            have NB858_874 : Aside0 (gb858 ≠ gb874) := ⟨h14_⟩
            have NB874_858 : Aside0 (gb874 ≠ gb858) := ⟨h15_⟩
            have NB865_874 : Aside0 (gb865 ≠ gb874) := ⟨h16_⟩
            have NB874_865 : Aside0 (gb874 ≠ gb865) := ⟨h17_⟩
            have NB866_874 : Aside0 (gb866 ≠ gb874) := ⟨h18_⟩
            have NB874_866 : Aside0 (gb874 ≠ gb866) := ⟨h19_⟩
            replace BK856 : Aside0 (w31.heap[gb856]? = some (.cells #[.int .i64 a1_0, .int .i64 a1_1, .int .i64 a1_2, .int .i64 a1_3] 29 (0, 0))) := ⟨h0_⟩; replace BK857 : Aside0 (w31.heap[gb857]? = some (.cells #[.int .i64 a2_0, .int .i64 a2_1, .int .i64 a2_2, .int .i64 a2_3] 29 (0, 0))) := ⟨h1_⟩; replace BK858 : Aside0 (w31.heap[gb858]? = some (.cells #[.int .i64 0, .int .i64 0, .int .i64 0, .int .i64 0] 29 (0, 0))) := ⟨h2_⟩; replace BK865 : Aside0 (w31.heap[gb865]? = some (.cells #[.int .i64 t859, .int .i64 t860] 27 (0, 0))) := ⟨h3_⟩; replace BK866 : Aside0 (w31.heap[gb866]? = some (.cells #[.int .i64 t862, .int .i64 t863] 27 (0, 0))) := ⟨h4_⟩; replace HI0 : Aside0 (IsS57 w0 w31 g t864) := ⟨h20_⟩; replace HK : Aside0 (KeepBut w w31 g none) := ⟨h21_⟩; replace HB : Aside0 (Below w0.heap.size w0 w31) := ⟨h22_⟩
            clear h0_ h10_ h11_ h12_ h13_ h14_ h15_ h16_ h17_ h18_ h19_ h1_ h20_ h21_ h22_ h2_ h3_ h4_ h5_ h6_ h7_ h8_ h9_
            have hHeld : w31.cell? ⟨gb856, 0, none⟩ = some (.int .i64 a1_0) ∧ w31.cell? ⟨gb856, 1, none⟩ = some (.int .i64 a1_1) ∧ w31.cell? ⟨gb856, 2, none⟩ = some (.int .i64 a1_2) ∧ w31.cell? ⟨gb856, 3, none⟩ = some (.int .i64 a1_3) ∧ w31.cell? ⟨gb857, 0, none⟩ = some (.int .i64 a2_0) ∧ w31.cell? ⟨gb857, 1, none⟩ = some (.int .i64 a2_1) ∧ w31.cell? ⟨gb857, 2, none⟩ = some (.int .i64 a2_2) ∧ w31.cell? ⟨gb857, 3, none⟩ = some (.int .i64 a2_3) := hS_
            refine norm_ (a' := ?_) ?_ ?_
            rotate_left
            ·
             simp only [putAll, Act.put, List.setIfInBounds_toArray, List.set_cons_zero, List.set_cons_succ]
             rfl
            refine two_ (i := 5) (j := 12) (Ni := some 28) (Nj := some 9) #[true, true, true, true, true, true, true, true, true, true, true, false, false, true, false, false] #[true, true, true, true, true, false, true, true, true, true, true, false, true, true, false, false] rfl rfl rfl rfl (two_of HT_.out (by kernel_rfl)) (by decide) (by decide) (fun K hK => ?_) (fun K hK => ?_)
            ·
             refine goes_ Try.func94 (by kernel_rfl) rfl #[.pointer (some ⟨g, 0, none⟩), .agg #[.int .i64 a1_2, .int .i64 a1_3], .agg #[.int .i64 a2_0, .int .i64 a2_1]] (by rfl) rfl rfl zq6 ?_
             with_reducible refine (impl_reckoner_product.calls k g t864 a1_2 a1_3 a2_0 a2_1 t867 t868 t869 w0 _ ?side1 ?side2 A6.out).mono ?_
             (case side1 => exact z68_3 HI0)
             (case side2 => exact z68_5 HB)
             rintro e w32 ⟨rfl, hi, hb, hk⟩
             refine ⟨_, rfl, ?_⟩
             replace BK856 := Aside0.mk (KeepBut.blk hk (zq1 BK856) NB856_0.out (by simp)); replace BK857 := Aside0.mk (KeepBut.blk hk (zq1 BK857) NB857_0.out (by simp)); replace BK858 := Aside0.mk (KeepBut.blk hk (zq1 BK858) NB858_0.out (by simp)); replace BK865 := Aside0.mk (KeepBut.blk hk (zq1 BK865) NB865_0.out (by simp)); replace BK866 := Aside0.mk (KeepBut.blk hk (zq1 BK866) NB866_0.out (by simp)); replace BK874 := Aside0.mk (KeepBut.blk hk (zq1 BK874) NB874_0.out (by simp)); replace HK := Aside0.mk (KeepBut.trans (z68_4 HK) hk (.inl rfl)); replace HB := Aside0.mk (hb); replace HI0 := Aside0.mk (hi)
             (try clear hb)
             (try clear hb2)
             (try clear hk)
             (try clear hi)
             refine hK.out _ _ ⟨zc BK856 0, zc BK856 1, zc BK856 2, zc BK856 3, zc BK857 0, zc BK857 1, zc BK857 2, zc BK857 3⟩ (fun hHeld => ?_)
             clear hK K
             refine norm_ (a' := ?_) ?_ ?_
             rotate_left
             ·
              show Act.put _ (some 28) _ = _
              simp only [Act.put, List.setIfInBounds_toArray, List.set_cons_zero, List.set_cons_succ, i64_w, i32_w]; rfl
             exact norm_ zq4 (hJ5_13 (gb874) _ ⟨hHeld, (zq1 BK856), (zq1 BK857), (zq1 BK858), (zq1 BK865), (zq1 BK866), (zq1 BK874), GW874.out, GE874.out, NB0_874.out, NB874_0.out, NB856_874.out, NB874_856.out, NB857_874.out, NB874_857.out, NB858_874.out, NB874_858.out, NB865_874.out, NB874_865.out, NB866_874.out, NB874_866.out, (z68_3 HI0), (z68_4 HK), (z68_5 HB)⟩)
            ·
             refine box_step ?hg (N := 9) ?hd (cs := #[.int .i64 0, .int .i64 0]) (t := 27) ?hr ?_; (case hd => rfl); (case hg => rfl); (case hr => first | (go_simp; done) | (go_simp; rfl))
             intro gb873 hg w32 hbox hb
             have n0_ := Aside0.mk (IsS57.below (z68_3 HI0) hb)
             have n1_ := Aside0.mk (zbb BK856 hb)
             have n2_ := Aside0.mk (zbb BK857 hb)
             have n3_ := Aside0.mk (zbb BK858 hb)
             have n4_ := Aside0.mk (zbb BK865 hb)
             have n5_ := Aside0.mk (zbb BK866 hb)
             have n6_ := Aside0.mk (zbb BK874 hb)
             have n7_ := Aside0.mk (KeepBut.trans (z68_4 HK) (KeepBut.of_below hb g none) (.inl rfl))
             have n8_ := Aside0.mk (below_step (z68_5 HB) hb)
             have BK873 := Aside0.mk (hbox)
             have GW873 := Aside0.mk ((by rw [hg]; exact (keep_size (w := w) (g := g) (row := none) (z68_4 HK)) : w.heap.size ≤ gb873))
             have GE873 := Aside0.mk ((Nat.le_trans HW0.out (by rw [hg]; exact (keep_size (w := w) (g := g) (row := none) (z68_4 HK)) : w.heap.size ≤ gb873) : w0.heap.size ≤ gb873))
             have NB856_873 := Aside0.mk (zlt BK856 hg)
             have NB873_856 := Aside0.mk (zgt BK856 hg)
             have NB857_873 := Aside0.mk (zlt BK857 hg)
             have NB873_857 := Aside0.mk (zgt BK857 hg)
             have NB858_873 := Aside0.mk (zlt BK858 hg)
             have NB873_858 := Aside0.mk (zgt BK858 hg)
             have NB865_873 := Aside0.mk (zlt BK865 hg)
             have NB873_865 := Aside0.mk (zgt BK865 hg)
             have NB866_873 := Aside0.mk (zlt BK866 hg)
             have NB873_866 := Aside0.mk (zgt BK866 hg)
             have NB874_873 := Aside0.mk (zlt BK874 hg)
             have NB873_874 := Aside0.mk (zgt BK874 hg)
             have NB0_873 := Aside0.mk ((by rw [hg]; exact Nat.ne_of_lt (IsS57.lt (show IsS57 w0 _ g t864 from (z68_3 HI0))) : g ≠ gb873))
             have NB873_0 := Aside0.mk ((by rw [hg]; exact Nat.ne_of_gt (IsS57.lt (show IsS57 w0 _ g t864 from (z68_3 HI0))) : gb873 ≠ g))
             clear HI0 BK856 BK857 BK858 BK865 BK866 BK874 HK HB
             have HI0 := n0_; have BK856 := n1_; have BK857 := n2_; have BK858 := n3_; have BK865 := n4_; have BK866 := n5_; have BK874 := n6_; have HK := n7_; have HB := n8_
             clear n0_ n1_ n2_ n3_ n4_ n5_ n6_ n7_ n8_ hb hbox hg
             refine hK.out _ _ ⟨zc BK856 0, zc BK856 1, zc BK856 2, zc BK856 3, zc BK857 0, zc BK857 1, zc BK857 2, zc BK857 3⟩ (fun hHeld => ?_)
             clear hK K
             refine norm_ (a' := ?_) ?_ ?_
             rotate_left
             ·
              show Act.put _ (some 9) _ = _
              simp only [Act.put, List.setIfInBounds_toArray, List.set_cons_zero, List.set_cons_succ, i64_w, i32_w]; rfl
             exact norm_ zq4 (hJ12_13 (gb873, gb874) _ ⟨hHeld, (zq1 BK856), (zq1 BK857), (zq1 BK858), (zq1 BK865), (zq1 BK866), (zq1 BK873), (zq1 BK874), GW873.out, GE873.out, NB0_873.out, NB873_0.out, NB856_873.out, NB873_856.out, NB857_873.out, NB873_857.out, NB858_873.out, NB873_858.out, NB865_873.out, NB873_865.out, NB866_873.out, NB873_866.out, NB874_873.out, NB873_874.out, GW874.out, GE874.out, NB0_874.out, NB874_0.out, NB856_874.out, NB874_856.out, NB857_874.out, NB874_857.out, NB858_874.out, NB874_858.out, NB865_874.out, NB874_865.out, NB866_874.out, NB874_866.out, (z68_3 HI0), (z68_4 HK), (z68_5 HB)⟩)
          ·
           rintro gb873 w31 ⟨hS_, h0_, h1_, h2_, h3_, h4_, h5_, h6_, h7_, h8_, h9_, h10_, h11_, h12_, h13_, h14_, h15_, h16_, h17_, h18_, h19_, h20_, h21_, h22_⟩
           have BK873 : Aside0 (w31.heap[gb873]? = some (.cells #[.int .i64 0, .int .i64 0] 27 (0, 0))) := ⟨h5_⟩
           have GW873 : Aside0 (w.heap.size ≤ gb873) := ⟨h6_⟩
           have GE873 : Aside0 (w0.heap.size ≤ gb873) := ⟨h7_⟩
           have NB0_873 : Aside0 (g ≠ gb873) := ⟨h8_⟩
           have NB873_0 : Aside0 (gb873 ≠ g) := ⟨h9_⟩
           have NB856_873 : Aside0 (gb856 ≠ gb873) := ⟨h10_⟩
           have NB873_856 : Aside0 (gb873 ≠ gb856) := ⟨h11_⟩
           have NB857_873 : Aside0 (gb857 ≠ gb873) := ⟨h12_⟩
           have NB873_857 : Aside0 (gb873 ≠ gb857) := ⟨h13_⟩
           have NB858_873 : Aside0 (gb858 ≠ gb873) := ⟨h14_⟩
           have NB873_858 : Aside0 (gb873 ≠ gb858) := ⟨h15_⟩
           have NB865_873 : Aside0 (gb865 ≠ gb873) := ⟨h16_⟩
           have NB873_865 : Aside0 (gb873 ≠ gb865) := ⟨h17_⟩
           have NB866_873 : Aside0 (gb866 ≠ gb873) := ⟨h18_⟩
           have NB873_866 : Aside0 (gb873 ≠ gb866) := ⟨h19_⟩
           replace BK856 : Aside0 (w31.heap[gb856]? = some (.cells #[.int .i64 a1_0, .int .i64 a1_1, .int .i64 a1_2, .int .i64 a1_3] 29 (0, 0))) := ⟨h0_⟩; replace BK857 : Aside0 (w31.heap[gb857]? = some (.cells #[.int .i64 a2_0, .int .i64 a2_1, .int .i64 a2_2, .int .i64 a2_3] 29 (0, 0))) := ⟨h1_⟩; replace BK858 : Aside0 (w31.heap[gb858]? = some (.cells #[.int .i64 0, .int .i64 0, .int .i64 0, .int .i64 0] 29 (0, 0))) := ⟨h2_⟩; replace BK865 : Aside0 (w31.heap[gb865]? = some (.cells #[.int .i64 t859, .int .i64 t860] 27 (0, 0))) := ⟨h3_⟩; replace BK866 : Aside0 (w31.heap[gb866]? = some (.cells #[.int .i64 t862, .int .i64 t863] 27 (0, 0))) := ⟨h4_⟩; replace HI0 : Aside0 (IsS57 w0 w31 g t864) := ⟨h20_⟩; replace HK : Aside0 (KeepBut w w31 g none) := ⟨h21_⟩; replace HB : Aside0 (Below w0.heap.size w0 w31) := ⟨h22_⟩
           clear h0_ h10_ h11_ h12_ h13_ h14_ h15_ h16_ h17_ h18_ h19_ h1_ h20_ h21_ h22_ h2_ h3_ h4_ h5_ h6_ h7_ h8_ h9_
           have hHeld : w31.cell? ⟨gb856, 0, none⟩ = some (.int .i64 a1_0) ∧ w31.cell? ⟨gb856, 1, none⟩ = some (.int .i64 a1_1) ∧ w31.cell? ⟨gb856, 2, none⟩ = some (.int .i64 a1_2) ∧ w31.cell? ⟨gb856, 3, none⟩ = some (.int .i64 a1_3) ∧ w31.cell? ⟨gb857, 0, none⟩ = some (.int .i64 a2_0) ∧ w31.cell? ⟨gb857, 1, none⟩ = some (.int .i64 a2_1) ∧ w31.cell? ⟨gb857, 2, none⟩ = some (.int .i64 a2_2) ∧ w31.cell? ⟨gb857, 3, none⟩ = some (.int .i64 a2_3) := hS_
           refine norm_ (a' := ?_) ?_ ?_
           rotate_left
           ·
            simp only [putAll, Act.put, List.setIfInBounds_toArray, List.set_cons_zero, List.set_cons_succ]
            rfl
           refine two_ (i := 5) (j := 13) (Ni := some 28) (Nj := some 10) #[true, true, true, true, true, true, true, true, true, true, true, false, true, false, false, false] #[true, true, true, true, true, false, true, true, true, true, true, false, true, true, false, false] rfl rfl rfl rfl (two_of HT_.out (by kernel_rfl)) (by decide) (by decide) (fun K hK => ?_) (fun K hK => ?_)
           ·
            refine goes_ Try.func94 (by kernel_rfl) rfl #[.pointer (some ⟨g, 0, none⟩), .agg #[.int .i64 a1_2, .int .i64 a1_3], .agg #[.int .i64 a2_0, .int .i64 a2_1]] (by rfl) rfl rfl zq6 ?_
            with_reducible refine (impl_reckoner_product.calls k g t864 a1_2 a1_3 a2_0 a2_1 t867 t868 t869 w0 _ ?side1 ?side2 A6.out).mono ?_
            (case side1 => exact z68_3 HI0)
            (case side2 => exact z68_5 HB)
            rintro e w32 ⟨rfl, hi, hb, hk⟩
            refine ⟨_, rfl, ?_⟩
            replace BK856 := Aside0.mk (KeepBut.blk hk (zq1 BK856) NB856_0.out (by simp)); replace BK857 := Aside0.mk (KeepBut.blk hk (zq1 BK857) NB857_0.out (by simp)); replace BK858 := Aside0.mk (KeepBut.blk hk (zq1 BK858) NB858_0.out (by simp)); replace BK865 := Aside0.mk (KeepBut.blk hk (zq1 BK865) NB865_0.out (by simp)); replace BK866 := Aside0.mk (KeepBut.blk hk (zq1 BK866) NB866_0.out (by simp)); replace BK873 := Aside0.mk (KeepBut.blk hk (zq1 BK873) NB873_0.out (by simp)); replace HK := Aside0.mk (KeepBut.trans (z68_4 HK) hk (.inl rfl)); replace HB := Aside0.mk (hb); replace HI0 := Aside0.mk (hi)
            (try clear hb)
            (try clear hb2)
            (try clear hk)
            (try clear hi)
            refine hK.out _ _ ⟨zc BK856 0, zc BK856 1, zc BK856 2, zc BK856 3, zc BK857 0, zc BK857 1, zc BK857 2, zc BK857 3⟩ (fun hHeld => ?_)
            clear hK K
            refine norm_ (a' := ?_) ?_ ?_
            rotate_left
            ·
             show Act.put _ (some 28) _ = _
             simp only [Act.put, List.setIfInBounds_toArray, List.set_cons_zero, List.set_cons_succ, i64_w, i32_w]; rfl
            exact norm_ zq4 (hJ5_12 (gb873) _ ⟨hHeld, (zq1 BK856), (zq1 BK857), (zq1 BK858), (zq1 BK865), (zq1 BK866), (zq1 BK873), GW873.out, GE873.out, NB0_873.out, NB873_0.out, NB856_873.out, NB873_856.out, NB857_873.out, NB873_857.out, NB858_873.out, NB873_858.out, NB865_873.out, NB873_865.out, NB866_873.out, NB873_866.out, (z68_3 HI0), (z68_4 HK), (z68_5 HB)⟩)
           ·
            refine box_step ?hg (N := 10) ?hd (cs := #[.int .i64 0, .int .i64 0]) (t := 27) ?hr ?_; (case hd => rfl); (case hg => rfl); (case hr => first | (go_simp; done) | (go_simp; rfl))
            intro gb874 hg w32 hbox hb
            have n0_ := Aside0.mk (IsS57.below (z68_3 HI0) hb)
            have n1_ := Aside0.mk (zbb BK856 hb)
            have n2_ := Aside0.mk (zbb BK857 hb)
            have n3_ := Aside0.mk (zbb BK858 hb)
            have n4_ := Aside0.mk (zbb BK865 hb)
            have n5_ := Aside0.mk (zbb BK866 hb)
            have n6_ := Aside0.mk (zbb BK873 hb)
            have n7_ := Aside0.mk (KeepBut.trans (z68_4 HK) (KeepBut.of_below hb g none) (.inl rfl))
            have n8_ := Aside0.mk (below_step (z68_5 HB) hb)
            have BK874 := Aside0.mk (hbox)
            have GW874 := Aside0.mk ((by rw [hg]; exact (keep_size (w := w) (g := g) (row := none) (z68_4 HK)) : w.heap.size ≤ gb874))
            have GE874 := Aside0.mk ((Nat.le_trans HW0.out (by rw [hg]; exact (keep_size (w := w) (g := g) (row := none) (z68_4 HK)) : w.heap.size ≤ gb874) : w0.heap.size ≤ gb874))
            have NB856_874 := Aside0.mk (zlt BK856 hg)
            have NB874_856 := Aside0.mk (zgt BK856 hg)
            have NB857_874 := Aside0.mk (zlt BK857 hg)
            have NB874_857 := Aside0.mk (zgt BK857 hg)
            have NB858_874 := Aside0.mk (zlt BK858 hg)
            have NB874_858 := Aside0.mk (zgt BK858 hg)
            have NB865_874 := Aside0.mk (zlt BK865 hg)
            have NB874_865 := Aside0.mk (zgt BK865 hg)
            have NB866_874 := Aside0.mk (zlt BK866 hg)
            have NB874_866 := Aside0.mk (zgt BK866 hg)
            have NB873_874 := Aside0.mk (zlt BK873 hg)
            have NB874_873 := Aside0.mk (zgt BK873 hg)
            have NB0_874 := Aside0.mk ((by rw [hg]; exact Nat.ne_of_lt (IsS57.lt (show IsS57 w0 _ g t864 from (z68_3 HI0))) : g ≠ gb874))
            have NB874_0 := Aside0.mk ((by rw [hg]; exact Nat.ne_of_gt (IsS57.lt (show IsS57 w0 _ g t864 from (z68_3 HI0))) : gb874 ≠ g))
            clear HI0 BK856 BK857 BK858 BK865 BK866 BK873 HK HB
            have HI0 := n0_; have BK856 := n1_; have BK857 := n2_; have BK858 := n3_; have BK865 := n4_; have BK866 := n5_; have BK873 := n6_; have HK := n7_; have HB := n8_
            clear n0_ n1_ n2_ n3_ n4_ n5_ n6_ n7_ n8_ hb hbox hg
            refine hK.out _ _ ⟨zc BK856 0, zc BK856 1, zc BK856 2, zc BK856 3, zc BK857 0, zc BK857 1, zc BK857 2, zc BK857 3⟩ (fun hHeld => ?_)
            clear hK K
            refine norm_ (a' := ?_) ?_ ?_
            rotate_left
            ·
             show Act.put _ (some 10) _ = _
             simp only [Act.put, List.setIfInBounds_toArray, List.set_cons_zero, List.set_cons_succ, i64_w, i32_w]; rfl
            exact norm_ zq4 (hJ12_13 (gb873, gb874) _ ⟨hHeld, (zq1 BK856), (zq1 BK857), (zq1 BK858), (zq1 BK865), (zq1 BK866), (zq1 BK873), (zq1 BK874), GW873.out, GE873.out, NB0_873.out, NB873_0.out, NB856_873.out, NB873_856.out, NB857_873.out, NB873_857.out, NB858_873.out, NB873_858.out, NB865_873.out, NB873_865.out, NB866_873.out, NB873_866.out, NB874_873.out, NB873_874.out, GW874.out, GE874.out, NB0_874.out, NB874_0.out, NB856_874.out, NB874_856.out, NB857_874.out, NB874_857.out, NB858_874.out, NB874_858.out, NB865_874.out, NB874_865.out, NB866_874.out, NB874_866.out, (z68_3 HI0), (z68_4 HK), (z68_5 HB)⟩)
         ·
          rintro _ w31 ⟨hS_, h0_, h1_, h2_, h3_, h4_, h5_, h6_, h7_⟩
          replace BK856 : Aside0 (w31.heap[gb856]? = some (.cells #[.int .i64 a1_0, .int .i64 a1_1, .int .i64 a1_2, .int .i64 a1_3] 29 (0, 0))) := ⟨h0_⟩; replace BK857 : Aside0 (w31.heap[gb857]? = some (.cells #[.int .i64 a2_0, .int .i64 a2_1, .int .i64 a2_2, .int .i64 a2_3] 29 (0, 0))) := ⟨h1_⟩; replace BK858 : Aside0 (w31.heap[gb858]? = some (.cells #[.int .i64 0, .int .i64 0, .int .i64 0, .int .i64 0] 29 (0, 0))) := ⟨h2_⟩; replace BK865 : Aside0 (w31.heap[gb865]? = some (.cells #[.int .i64 t859, .int .i64 t860] 27 (0, 0))) := ⟨h3_⟩; replace BK866 : Aside0 (w31.heap[gb866]? = some (.cells #[.int .i64 t862, .int .i64 t863] 27 (0, 0))) := ⟨h4_⟩; replace HI0 : Aside0 (IsS57 w0 w31 g t869) := ⟨h5_⟩; replace HK : Aside0 (KeepBut w w31 g none) := ⟨h6_⟩; replace HB : Aside0 (Below w0.heap.size w0 w31) := ⟨h7_⟩
          clear h0_ h1_ h2_ h3_ h4_ h5_ h6_ h7_
          have hHeld : w31.cell? ⟨gb856, 0, none⟩ = some (.int .i64 a1_0) ∧ w31.cell? ⟨gb856, 1, none⟩ = some (.int .i64 a1_1) ∧ w31.cell? ⟨gb856, 2, none⟩ = some (.int .i64 a1_2) ∧ w31.cell? ⟨gb856, 3, none⟩ = some (.int .i64 a1_3) ∧ w31.cell? ⟨gb857, 0, none⟩ = some (.int .i64 a2_0) ∧ w31.cell? ⟨gb857, 1, none⟩ = some (.int .i64 a2_1) ∧ w31.cell? ⟨gb857, 2, none⟩ = some (.int .i64 a2_2) ∧ w31.cell? ⟨gb857, 3, none⟩ = some (.int .i64 a2_3) := hS_
          refine norm_ (a' := ?_) ?_ ?_
          rotate_left
          ·
           simp only [putAll, Act.put, List.setIfInBounds_toArray, List.set_cons_zero, List.set_cons_succ]
           rfl
          refine three_ (i := 11) (j := 12) (k := 13) (Ni := some 34) (Nj := some 9) (Nk := some 10) #[true, true, true, true, true, true, true, true, true, true, true, true, false, false, false, false] #[true, true, true, true, true, true, true, true, true, true, true, false, true, false, false, false] #[true, true, true, true, true, true, true, true, true, true, true, false, false, true, false, false] rfl rfl rfl rfl rfl rfl (three_of HT_.out (by kernel_rfl)) (by decide) (by decide) (by decide) (fun K hK => ?_) (fun K hK => ?_) (fun K hK => ?_)
          ·
           refine goes_ Try.func94 (by kernel_rfl) rfl #[.pointer (some ⟨g, 0, none⟩), .agg #[.int .i64 a1_2, .int .i64 a1_3], .agg #[.int .i64 a2_2, .int .i64 a2_3]] (by rfl) rfl rfl zq6 ?_
           with_reducible refine (impl_reckoner_product.calls k g t869 a1_2 a1_3 a2_2 a2_3 t870 t871 t872 w0 _ ?side1 ?side2 A7.out).mono ?_
           (case side1 => exact z68_3 HI0)
           (case side2 => exact z68_5 HB)
           rintro e w32 ⟨rfl, hi, hb, hk⟩
           refine ⟨_, rfl, ?_⟩
           replace BK856 := Aside0.mk (KeepBut.blk hk (zq1 BK856) NB856_0.out (by simp)); replace BK857 := Aside0.mk (KeepBut.blk hk (zq1 BK857) NB857_0.out (by simp)); replace BK858 := Aside0.mk (KeepBut.blk hk (zq1 BK858) NB858_0.out (by simp)); replace BK865 := Aside0.mk (KeepBut.blk hk (zq1 BK865) NB865_0.out (by simp)); replace BK866 := Aside0.mk (KeepBut.blk hk (zq1 BK866) NB866_0.out (by simp)); replace HK := Aside0.mk (KeepBut.trans (z68_4 HK) hk (.inl rfl)); replace HB := Aside0.mk (hb); replace HI0 := Aside0.mk (hi)
           (try clear hb)
           (try clear hb2)
           (try clear hk)
           (try clear hi)
           refine hK.out _ _ ⟨zc BK856 0, zc BK856 1, zc BK856 2, zc BK856 3, zc BK857 0, zc BK857 1, zc BK857 2, zc BK857 3⟩ (fun hHeld => ?_)
           clear hK K
           refine norm_ (a' := ?_) ?_ ?_
           rotate_left
           ·
            show Act.put _ (some 34) _ = _
            simp only [Act.put, List.setIfInBounds_toArray, List.set_cons_zero, List.set_cons_succ, i64_w, i32_w]; rfl
           exact norm_ zq4 (hJ5_11 () _ ⟨hHeld, (zq1 BK856), (zq1 BK857), (zq1 BK858), (zq1 BK865), (zq1 BK866), (z68_3 HI0), (z68_4 HK), (z68_5 HB)⟩)
          ·
           refine box_step ?hg (N := 9) ?hd (cs := #[.int .i64 0, .int .i64 0]) (t := 27) ?hr ?_; (case hd => rfl); (case hg => rfl); (case hr => first | (go_simp; done) | (go_simp; rfl))
           intro gb873 hg w32 hbox hb
           have n0_ := Aside0.mk (IsS57.below (z68_3 HI0) hb)
           have n1_ := Aside0.mk (zbb BK856 hb)
           have n2_ := Aside0.mk (zbb BK857 hb)
           have n3_ := Aside0.mk (zbb BK858 hb)
           have n4_ := Aside0.mk (zbb BK865 hb)
           have n5_ := Aside0.mk (zbb BK866 hb)
           have n6_ := Aside0.mk (KeepBut.trans (z68_4 HK) (KeepBut.of_below hb g none) (.inl rfl))
           have n7_ := Aside0.mk (below_step (z68_5 HB) hb)
           have BK873 := Aside0.mk (hbox)
           have GW873 := Aside0.mk ((by rw [hg]; exact (keep_size (w := w) (g := g) (row := none) (z68_4 HK)) : w.heap.size ≤ gb873))
           have GE873 := Aside0.mk ((Nat.le_trans HW0.out (by rw [hg]; exact (keep_size (w := w) (g := g) (row := none) (z68_4 HK)) : w.heap.size ≤ gb873) : w0.heap.size ≤ gb873))
           have NB856_873 := Aside0.mk (zlt BK856 hg)
           have NB873_856 := Aside0.mk (zgt BK856 hg)
           have NB857_873 := Aside0.mk (zlt BK857 hg)
           have NB873_857 := Aside0.mk (zgt BK857 hg)
           have NB858_873 := Aside0.mk (zlt BK858 hg)
           have NB873_858 := Aside0.mk (zgt BK858 hg)
           have NB865_873 := Aside0.mk (zlt BK865 hg)
           have NB873_865 := Aside0.mk (zgt BK865 hg)
           have NB866_873 := Aside0.mk (zlt BK866 hg)
           have NB873_866 := Aside0.mk (zgt BK866 hg)
           have NB0_873 := Aside0.mk ((by rw [hg]; exact Nat.ne_of_lt (IsS57.lt (show IsS57 w0 _ g t869 from (z68_3 HI0))) : g ≠ gb873))
           have NB873_0 := Aside0.mk ((by rw [hg]; exact Nat.ne_of_gt (IsS57.lt (show IsS57 w0 _ g t869 from (z68_3 HI0))) : gb873 ≠ g))
           clear HI0 BK856 BK857 BK858 BK865 BK866 HK HB
           have HI0 := n0_; have BK856 := n1_; have BK857 := n2_; have BK858 := n3_; have BK865 := n4_; have BK866 := n5_; have HK := n6_; have HB := n7_
           clear n0_ n1_ n2_ n3_ n4_ n5_ n6_ n7_ hb hbox hg
           refine hK.out _ _ ⟨zc BK856 0, zc BK856 1, zc BK856 2, zc BK856 3, zc BK857 0, zc BK857 1, zc BK857 2, zc BK857 3⟩ (fun hHeld => ?_)
           clear hK K
           refine norm_ (a' := ?_) ?_ ?_
           rotate_left
           ·
            show Act.put _ (some 9) _ = _
            simp only [Act.put, List.setIfInBounds_toArray, List.set_cons_zero, List.set_cons_succ, i64_w, i32_w]; rfl
           exact norm_ zq4 (hJ5_12 (gb873) _ ⟨hHeld, (zq1 BK856), (zq1 BK857), (zq1 BK858), (zq1 BK865), (zq1 BK866), (zq1 BK873), GW873.out, GE873.out, NB0_873.out, NB873_0.out, NB856_873.out, NB873_856.out, NB857_873.out, NB873_857.out, NB858_873.out, NB873_858.out, NB865_873.out, NB873_865.out, NB866_873.out, NB873_866.out, (z68_3 HI0), (z68_4 HK), (z68_5 HB)⟩)
          ·
           refine box_step ?hg (N := 10) ?hd (cs := #[.int .i64 0, .int .i64 0]) (t := 27) ?hr ?_; (case hd => rfl); (case hg => rfl); (case hr => first | (go_simp; done) | (go_simp; rfl))
           intro gb874 hg w32 hbox hb
           have n0_ := Aside0.mk (IsS57.below (z68_3 HI0) hb)
           have n1_ := Aside0.mk (zbb BK856 hb)
           have n2_ := Aside0.mk (zbb BK857 hb)
           have n3_ := Aside0.mk (zbb BK858 hb)
           have n4_ := Aside0.mk (zbb BK865 hb)
           have n5_ := Aside0.mk (zbb BK866 hb)
           have n6_ := Aside0.mk (KeepBut.trans (z68_4 HK) (KeepBut.of_below hb g none) (.inl rfl))
           have n7_ := Aside0.mk (below_step (z68_5 HB) hb)
           have BK874 := Aside0.mk (hbox)
           have GW874 := Aside0.mk ((by rw [hg]; exact (keep_size (w := w) (g := g) (row := none) (z68_4 HK)) : w.heap.size ≤ gb874))
           have GE874 := Aside0.mk ((Nat.le_trans HW0.out (by rw [hg]; exact (keep_size (w := w) (g := g) (row := none) (z68_4 HK)) : w.heap.size ≤ gb874) : w0.heap.size ≤ gb874))
           have NB856_874 := Aside0.mk (zlt BK856 hg)
           have NB874_856 := Aside0.mk (zgt BK856 hg)
           have NB857_874 := Aside0.mk (zlt BK857 hg)
           have NB874_857 := Aside0.mk (zgt BK857 hg)
           have NB858_874 := Aside0.mk (zlt BK858 hg)
           have NB874_858 := Aside0.mk (zgt BK858 hg)
           have NB865_874 := Aside0.mk (zlt BK865 hg)
           have NB874_865 := Aside0.mk (zgt BK865 hg)
           have NB866_874 := Aside0.mk (zlt BK866 hg)
           have NB874_866 := Aside0.mk (zgt BK866 hg)
           have NB0_874 := Aside0.mk ((by rw [hg]; exact Nat.ne_of_lt (IsS57.lt (show IsS57 w0 _ g t869 from (z68_3 HI0))) : g ≠ gb874))
           have NB874_0 := Aside0.mk ((by rw [hg]; exact Nat.ne_of_gt (IsS57.lt (show IsS57 w0 _ g t869 from (z68_3 HI0))) : gb874 ≠ g))
           clear HI0 BK856 BK857 BK858 BK865 BK866 HK HB
           have HI0 := n0_; have BK856 := n1_; have BK857 := n2_; have BK858 := n3_; have BK865 := n4_; have BK866 := n5_; have HK := n6_; have HB := n7_
           clear n0_ n1_ n2_ n3_ n4_ n5_ n6_ n7_ hb hbox hg
           refine hK.out _ _ ⟨zc BK856 0, zc BK856 1, zc BK856 2, zc BK856 3, zc BK857 0, zc BK857 1, zc BK857 2, zc BK857 3⟩ (fun hHeld => ?_)
           clear hK K
           refine norm_ (a' := ?_) ?_ ?_
           rotate_left
           ·
            show Act.put _ (some 10) _ = _
            simp only [Act.put, List.setIfInBounds_toArray, List.set_cons_zero, List.set_cons_succ, i64_w, i32_w]; rfl
           exact norm_ zq4 (hJ5_13 (gb874) _ ⟨hHeld, (zq1 BK856), (zq1 BK857), (zq1 BK858), (zq1 BK865), (zq1 BK866), (zq1 BK874), GW874.out, GE874.out, NB0_874.out, NB874_0.out, NB856_874.out, NB874_856.out, NB857_874.out, NB874_857.out, NB858_874.out, NB874_858.out, NB865_874.out, NB874_865.out, NB866_874.out, NB874_866.out, (z68_3 HI0), (z68_4 HK), (z68_5 HB)⟩)
        ·
         rintro ⟨gb873, gb874⟩ w32 ⟨hS_, h0_, h1_, h2_, h3_, h4_, h5_, h6_, h7_, h8_, h9_, h10_, h11_, h12_, h13_, h14_, h15_, h16_, h17_, h18_, h19_, h20_, h21_, h22_, h23_, h24_, h25_, h26_, h27_, h28_, h29_, h30_, h31_, h32_, h33_, h34_, h35_, h36_, h37_, h38_, h39_⟩
         have BK873 : Aside0 (w32.heap[gb873]? = some (.cells #[.int .i64 0, .int .i64 0] 27 (0, 0))) := ⟨h5_⟩
         have BK874 : Aside0 (w32.heap[gb874]? = some (.cells #[.int .i64 0, .int .i64 0] 27 (0, 0))) := ⟨h6_⟩
         have GW873 : Aside0 (w.heap.size ≤ gb873) := ⟨h7_⟩
         have GE873 : Aside0 (w0.heap.size ≤ gb873) := ⟨h8_⟩
         have NB0_873 : Aside0 (g ≠ gb873) := ⟨h9_⟩
         have NB873_0 : Aside0 (gb873 ≠ g) := ⟨h10_⟩
         have NB856_873 : Aside0 (gb856 ≠ gb873) := ⟨h11_⟩
         have NB873_856 : Aside0 (gb873 ≠ gb856) := ⟨h12_⟩
         have NB857_873 : Aside0 (gb857 ≠ gb873) := ⟨h13_⟩
         have NB873_857 : Aside0 (gb873 ≠ gb857) := ⟨h14_⟩
         have NB858_873 : Aside0 (gb858 ≠ gb873) := ⟨h15_⟩
         have NB873_858 : Aside0 (gb873 ≠ gb858) := ⟨h16_⟩
         have NB865_873 : Aside0 (gb865 ≠ gb873) := ⟨h17_⟩
         have NB873_865 : Aside0 (gb873 ≠ gb865) := ⟨h18_⟩
         have NB866_873 : Aside0 (gb866 ≠ gb873) := ⟨h19_⟩
         have NB873_866 : Aside0 (gb873 ≠ gb866) := ⟨h20_⟩
         have NB874_873 : Aside0 (gb874 ≠ gb873) := ⟨h21_⟩
         have NB873_874 : Aside0 (gb873 ≠ gb874) := ⟨h22_⟩
         have GW874 : Aside0 (w.heap.size ≤ gb874) := ⟨h23_⟩
         have GE874 : Aside0 (w0.heap.size ≤ gb874) := ⟨h24_⟩
         have NB0_874 : Aside0 (g ≠ gb874) := ⟨h25_⟩
         have NB874_0 : Aside0 (gb874 ≠ g) := ⟨h26_⟩
         have NB856_874 : Aside0 (gb856 ≠ gb874) := ⟨h27_⟩
         have NB874_856 : Aside0 (gb874 ≠ gb856) := ⟨h28_⟩
         have NB857_874 : Aside0 (gb857 ≠ gb874) := ⟨h29_⟩
         have NB874_857 : Aside0 (gb874 ≠ gb857) := ⟨h30_⟩
         have NB858_874 : Aside0 (gb858 ≠ gb874) := ⟨h31_⟩
         have NB874_858 : Aside0 (gb874 ≠ gb858) := ⟨h32_⟩
         have NB865_874 : Aside0 (gb865 ≠ gb874) := ⟨h33_⟩
         have NB874_865 : Aside0 (gb874 ≠ gb865) := ⟨h34_⟩
         have NB866_874 : Aside0 (gb866 ≠ gb874) := ⟨h35_⟩
         have NB874_866 : Aside0 (gb874 ≠ gb866) := ⟨h36_⟩
         replace BK856 : Aside0 (w32.heap[gb856]? = some (.cells #[.int .i64 a1_0, .int .i64 a1_1, .int .i64 a1_2, .int .i64 a1_3] 29 (0, 0))) := ⟨h0_⟩; replace BK857 : Aside0 (w32.heap[gb857]? = some (.cells #[.int .i64 a2_0, .int .i64 a2_1, .int .i64 a2_2, .int .i64 a2_3] 29 (0, 0))) := ⟨h1_⟩; replace BK858 : Aside0 (w32.heap[gb858]? = some (.cells #[.int .i64 0, .int .i64 0, .int .i64 0, .int .i64 0] 29 (0, 0))) := ⟨h2_⟩; replace BK865 : Aside0 (w32.heap[gb865]? = some (.cells #[.int .i64 t859, .int .i64 t860] 27 (0, 0))) := ⟨h3_⟩; replace BK866 : Aside0 (w32.heap[gb866]? = some (.cells #[.int .i64 t862, .int .i64 t863] 27 (0, 0))) := ⟨h4_⟩; replace HI0 : Aside0 (IsS57 w0 w32 g t864) := ⟨h37_⟩; replace HK : Aside0 (KeepBut w w32 g none) := ⟨h38_⟩; replace HB : Aside0 (Below w0.heap.size w0 w32) := ⟨h39_⟩
         clear h0_ h10_ h11_ h12_ h13_ h14_ h15_ h16_ h17_ h18_ h19_ h1_ h20_ h21_ h22_ h23_ h24_ h25_ h26_ h27_ h28_ h29_ h2_ h30_ h31_ h32_ h33_ h34_ h35_ h36_ h37_ h38_ h39_ h3_ h4_ h5_ h6_ h7_ h8_ h9_
         have hHeld : w32.cell? ⟨gb856, 0, none⟩ = some (.int .i64 a1_0) ∧ w32.cell? ⟨gb856, 1, none⟩ = some (.int .i64 a1_1) ∧ w32.cell? ⟨gb856, 2, none⟩ = some (.int .i64 a1_2) ∧ w32.cell? ⟨gb856, 3, none⟩ = some (.int .i64 a1_3) ∧ w32.cell? ⟨gb857, 0, none⟩ = some (.int .i64 a2_0) ∧ w32.cell? ⟨gb857, 1, none⟩ = some (.int .i64 a2_1) ∧ w32.cell? ⟨gb857, 2, none⟩ = some (.int .i64 a2_2) ∧ w32.cell? ⟨gb857, 3, none⟩ = some (.int .i64 a2_3) := hS_
         refine norm_ (a' := ?_) ?_ ?_
         rotate_left
         ·
          simp only [putAll, Act.put, List.setIfInBounds_toArray, List.set_cons_zero, List.set_cons_succ]
          rfl
         refine one_ (i := 5) (N := some 28) #[true, true, true, true, true, true, true, true, true, true, true, false, true, true, false, false] rfl rfl (one_of HT_.out (by kernel_rfl)) (by decide) (fun K hK => ?_)
         refine goes_ Try.func94 (by kernel_rfl) rfl #[.pointer (some ⟨g, 0, none⟩), .agg #[.int .i64 a1_2, .int .i64 a1_3], .agg #[.int .i64 a2_0, .int .i64 a2_1]] (by rfl) rfl rfl zq6 ?_
         with_reducible refine (impl_reckoner_product.calls k g t864 a1_2 a1_3 a2_0 a2_1 t867 t868 t869 w0 _ ?side1 ?side2 A6.out).mono ?_
         (case side1 => exact z68_3 HI0)
         (case side2 => exact z68_5 HB)
         rintro e w33 ⟨rfl, hi, hb, hk⟩
         refine ⟨_, rfl, ?_⟩
         replace BK856 := Aside0.mk (KeepBut.blk hk (zq1 BK856) NB856_0.out (by simp)); replace BK857 := Aside0.mk (KeepBut.blk hk (zq1 BK857) NB857_0.out (by simp)); replace BK858 := Aside0.mk (KeepBut.blk hk (zq1 BK858) NB858_0.out (by simp)); replace BK865 := Aside0.mk (KeepBut.blk hk (zq1 BK865) NB865_0.out (by simp)); replace BK866 := Aside0.mk (KeepBut.blk hk (zq1 BK866) NB866_0.out (by simp)); replace BK873 := Aside0.mk (KeepBut.blk hk (zq1 BK873) NB873_0.out (by simp)); replace BK874 := Aside0.mk (KeepBut.blk hk (zq1 BK874) NB874_0.out (by simp)); replace HK := Aside0.mk (KeepBut.trans (z68_4 HK) hk (.inl rfl)); replace HB := Aside0.mk (hb); replace HI0 := Aside0.mk (hi)
         (try clear hb)
         (try clear hb2)
         (try clear hk)
         (try clear hi)
         refine hK.out _ _ ⟨zc BK856 0, zc BK856 1, zc BK856 2, zc BK856 3, zc BK857 0, zc BK857 1, zc BK857 2, zc BK857 3⟩ (fun hHeld => ?_)
         clear hK K
         refine norm_ (a' := ?_) ?_ ?_
         rotate_left
         ·
          show Act.put _ (some 28) _ = _
          simp only [Act.put, List.setIfInBounds_toArray, List.set_cons_zero, List.set_cons_succ, i64_w, i32_w]; rfl
         exact norm_ zq4 (hJ5_12_13 (gb873, gb874) _ ⟨hHeld, (zq1 BK856), (zq1 BK857), (zq1 BK858), (zq1 BK865), (zq1 BK866), (zq1 BK873), (zq1 BK874), GW873.out, GE873.out, NB0_873.out, NB873_0.out, NB856_873.out, NB873_856.out, NB857_873.out, NB873_857.out, NB858_873.out, NB873_858.out, NB865_873.out, NB873_865.out, NB866_873.out, NB873_866.out, NB874_873.out, NB873_874.out, GW874.out, GE874.out, NB0_874.out, NB874_0.out, NB856_874.out, NB874_856.out, NB857_874.out, NB874_857.out, NB858_874.out, NB874_858.out, NB865_874.out, NB874_865.out, NB866_874.out, NB874_866.out, (z68_3 HI0), (z68_4 HK), (z68_5 HB)⟩)
       ·
        rintro gb874 w32 ⟨hS_, h0_, h1_, h2_, h3_, h4_, h5_, h6_, h7_, h8_, h9_, h10_, h11_, h12_, h13_, h14_, h15_, h16_, h17_, h18_, h19_, h20_, h21_, h22_⟩
        have BK874 : Aside0 (w32.heap[gb874]? = some (.cells #[.int .i64 0, .int .i64 0] 27 (0, 0))) := ⟨h5_⟩
        have GW874 : Aside0 (w.heap.size ≤ gb874) := ⟨h6_⟩
        have GE874 : Aside0 (w0.heap.size ≤ gb874) := ⟨h7_⟩
        have NB0_874 : Aside0 (g ≠ gb874) := ⟨h8_⟩
        have NB874_0 : Aside0 (gb874 ≠ g) := ⟨h9_⟩
        have NB856_874 : Aside0 (gb856 ≠ gb874) := ⟨h10_⟩
        have NB874_856 : Aside0 (gb874 ≠ gb856) := ⟨h11_⟩
        have NB857_874 : Aside0 (gb857 ≠ gb874) := ⟨h12_⟩
        have NB874_857 : Aside0 (gb874 ≠ gb857) := ⟨h13_⟩
        have NB858_874 : Aside0 (gb858 ≠ gb874) := ⟨h14_⟩
        have NB874_858 : Aside0 (gb874 ≠ gb858) := ⟨h15_⟩
        have NB865_874 : Aside0 (gb865 ≠ gb874) := ⟨h16_⟩
        have NB874_865 : Aside0 (gb874 ≠ gb865) := ⟨h17_⟩
        have NB866_874 : Aside0 (gb866 ≠ gb874) := ⟨h18_⟩
        have NB874_866 : Aside0 (gb874 ≠ gb866) := ⟨h19_⟩
        replace BK856 : Aside0 (w32.heap[gb856]? = some (.cells #[.int .i64 a1_0, .int .i64 a1_1, .int .i64 a1_2, .int .i64 a1_3] 29 (0, 0))) := ⟨h0_⟩; replace BK857 : Aside0 (w32.heap[gb857]? = some (.cells #[.int .i64 a2_0, .int .i64 a2_1, .int .i64 a2_2, .int .i64 a2_3] 29 (0, 0))) := ⟨h1_⟩; replace BK858 : Aside0 (w32.heap[gb858]? = some (.cells #[.int .i64 0, .int .i64 0, .int .i64 0, .int .i64 0] 29 (0, 0))) := ⟨h2_⟩; replace BK865 : Aside0 (w32.heap[gb865]? = some (.cells #[.int .i64 t859, .int .i64 t860] 27 (0, 0))) := ⟨h3_⟩; replace BK866 : Aside0 (w32.heap[gb866]? = some (.cells #[.int .i64 t862, .int .i64 t863] 27 (0, 0))) := ⟨h4_⟩; replace HI0 : Aside0 (IsS57 w0 w32 g t869) := ⟨h20_⟩; replace HK : Aside0 (KeepBut w w32 g none) := ⟨h21_⟩; replace HB : Aside0 (Below w0.heap.size w0 w32) := ⟨h22_⟩
        clear h0_ h10_ h11_ h12_ h13_ h14_ h15_ h16_ h17_ h18_ h19_ h1_ h20_ h21_ h22_ h2_ h3_ h4_ h5_ h6_ h7_ h8_ h9_
        have hHeld : w32.cell? ⟨gb856, 0, none⟩ = some (.int .i64 a1_0) ∧ w32.cell? ⟨gb856, 1, none⟩ = some (.int .i64 a1_1) ∧ w32.cell? ⟨gb856, 2, none⟩ = some (.int .i64 a1_2) ∧ w32.cell? ⟨gb856, 3, none⟩ = some (.int .i64 a1_3) ∧ w32.cell? ⟨gb857, 0, none⟩ = some (.int .i64 a2_0) ∧ w32.cell? ⟨gb857, 1, none⟩ = some (.int .i64 a2_1) ∧ w32.cell? ⟨gb857, 2, none⟩ = some (.int .i64 a2_2) ∧ w32.cell? ⟨gb857, 3, none⟩ = some (.int .i64 a2_3) := hS_
        refine norm_ (a' := ?_) ?_ ?_
        rotate_left
        ·
         simp only [putAll, Act.put, List.setIfInBounds_toArray, List.set_cons_zero, List.set_cons_succ]
         rfl
        refine two_ (i := 11) (j := 12) (Ni := some 34) (Nj := some 9) #[true, true, true, true, true, true, true, true, true, true, true, true, false, true, false, false] #[true, true, true, true, true, true, true, true, true, true, true, false, true, true, false, false] rfl rfl rfl rfl (two_of HT_.out (by kernel_rfl)) (by decide) (by decide) (fun K hK => ?_) (fun K hK => ?_)
        ·
         refine goes_ Try.func94 (by kernel_rfl) rfl #[.pointer (some ⟨g, 0, none⟩), .agg #[.int .i64 a1_2, .int .i64 a1_3], .agg #[.int .i64 a2_2, .int .i64 a2_3]] (by rfl) rfl rfl zq6 ?_
         with_reducible refine (impl_reckoner_product.calls k g t869 a1_2 a1_3 a2_2 a2_3 t870 t871 t872 w0 _ ?side1 ?side2 A7.out).mono ?_
         (case side1 => exact z68_3 HI0)
         (case side2 => exact z68_5 HB)
         rintro e w33 ⟨rfl, hi, hb, hk⟩
         refine ⟨_, rfl, ?_⟩
         replace BK856 := Aside0.mk (KeepBut.blk hk (zq1 BK856) NB856_0.out (by simp)); replace BK857 := Aside0.mk (KeepBut.blk hk (zq1 BK857) NB857_0.out (by simp)); replace BK858 := Aside0.mk (KeepBut.blk hk (zq1 BK858) NB858_0.out (by simp)); replace BK865 := Aside0.mk (KeepBut.blk hk (zq1 BK865) NB865_0.out (by simp)); replace BK866 := Aside0.mk (KeepBut.blk hk (zq1 BK866) NB866_0.out (by simp)); replace BK874 := Aside0.mk (KeepBut.blk hk (zq1 BK874) NB874_0.out (by simp)); replace HK := Aside0.mk (KeepBut.trans (z68_4 HK) hk (.inl rfl)); replace HB := Aside0.mk (hb); replace HI0 := Aside0.mk (hi)
         (try clear hb)
         (try clear hb2)
         (try clear hk)
         (try clear hi)
         refine hK.out _ _ ⟨zc BK856 0, zc BK856 1, zc BK856 2, zc BK856 3, zc BK857 0, zc BK857 1, zc BK857 2, zc BK857 3⟩ (fun hHeld => ?_)
         clear hK K
         refine norm_ (a' := ?_) ?_ ?_
         rotate_left
         ·
          show Act.put _ (some 34) _ = _
          simp only [Act.put, List.setIfInBounds_toArray, List.set_cons_zero, List.set_cons_succ, i64_w, i32_w]; rfl
         exact norm_ zq4 (hJ5_11_13 (gb874) _ ⟨hHeld, (zq1 BK856), (zq1 BK857), (zq1 BK858), (zq1 BK865), (zq1 BK866), (zq1 BK874), GW874.out, GE874.out, NB0_874.out, NB874_0.out, NB856_874.out, NB874_856.out, NB857_874.out, NB874_857.out, NB858_874.out, NB874_858.out, NB865_874.out, NB874_865.out, NB866_874.out, NB874_866.out, (z68_3 HI0), (z68_4 HK), (z68_5 HB)⟩)
        ·
         refine box_step ?hg (N := 9) ?hd (cs := #[.int .i64 0, .int .i64 0]) (t := 27) ?hr ?_; (case hd => rfl); (case hg => rfl); (case hr => first | (go_simp; done) | (go_simp; rfl))
         intro gb873 hg w33 hbox hb
         have n0_ := Aside0.mk (IsS57.below (z68_3 HI0) hb)
         have n1_ := Aside0.mk (zbb BK856 hb)
         have n2_ := Aside0.mk (zbb BK857 hb)
         have n3_ := Aside0.mk (zbb BK858 hb)
         have n4_ := Aside0.mk (zbb BK865 hb)
         have n5_ := Aside0.mk (zbb BK866 hb)
         have n6_ := Aside0.mk (zbb BK874 hb)
         have n7_ := Aside0.mk (KeepBut.trans (z68_4 HK) (KeepBut.of_below hb g none) (.inl rfl))
         have n8_ := Aside0.mk (below_step (z68_5 HB) hb)
         have BK873 := Aside0.mk (hbox)
         have GW873 := Aside0.mk ((by rw [hg]; exact (keep_size (w := w) (g := g) (row := none) (z68_4 HK)) : w.heap.size ≤ gb873))
         have GE873 := Aside0.mk ((Nat.le_trans HW0.out (by rw [hg]; exact (keep_size (w := w) (g := g) (row := none) (z68_4 HK)) : w.heap.size ≤ gb873) : w0.heap.size ≤ gb873))
         have NB856_873 := Aside0.mk (zlt BK856 hg)
         have NB873_856 := Aside0.mk (zgt BK856 hg)
         have NB857_873 := Aside0.mk (zlt BK857 hg)
         have NB873_857 := Aside0.mk (zgt BK857 hg)
         have NB858_873 := Aside0.mk (zlt BK858 hg)
         have NB873_858 := Aside0.mk (zgt BK858 hg)
         have NB865_873 := Aside0.mk (zlt BK865 hg)
         have NB873_865 := Aside0.mk (zgt BK865 hg)
         have NB866_873 := Aside0.mk (zlt BK866 hg)
         have NB873_866 := Aside0.mk (zgt BK866 hg)
         have NB874_873 := Aside0.mk (zlt BK874 hg)
         have NB873_874 := Aside0.mk (zgt BK874 hg)
         have NB0_873 := Aside0.mk ((by rw [hg]; exact Nat.ne_of_lt (IsS57.lt (show IsS57 w0 _ g t869 from (z68_3 HI0))) : g ≠ gb873))
         have NB873_0 := Aside0.mk ((by rw [hg]; exact Nat.ne_of_gt (IsS57.lt (show IsS57 w0 _ g t869 from (z68_3 HI0))) : gb873 ≠ g))
         clear HI0 BK856 BK857 BK858 BK865 BK866 BK874 HK HB
         have HI0 := n0_; have BK856 := n1_; have BK857 := n2_; have BK858 := n3_; have BK865 := n4_; have BK866 := n5_; have BK874 := n6_; have HK := n7_; have HB := n8_
         clear n0_ n1_ n2_ n3_ n4_ n5_ n6_ n7_ n8_ hb hbox hg
         refine hK.out _ _ ⟨zc BK856 0, zc BK856 1, zc BK856 2, zc BK856 3, zc BK857 0, zc BK857 1, zc BK857 2, zc BK857 3⟩ (fun hHeld => ?_)
         clear hK K
         refine norm_ (a' := ?_) ?_ ?_
         rotate_left
         ·
          show Act.put _ (some 9) _ = _
          simp only [Act.put, List.setIfInBounds_toArray, List.set_cons_zero, List.set_cons_succ, i64_w, i32_w]; rfl
         exact norm_ zq4 (hJ5_12_13 (gb873, gb874) _ ⟨hHeld, (zq1 BK856), (zq1 BK857), (zq1 BK858), (zq1 BK865), (zq1 BK866), (zq1 BK873), (zq1 BK874), GW873.out, GE873.out, NB0_873.out, NB873_0.out, NB856_873.out, NB873_856.out, NB857_873.out, NB873_857.out, NB858_873.out, NB873_858.out, NB865_873.out, NB873_865.out, NB866_873.out, NB873_866.out, NB874_873.out, NB873_874.out, GW874.out, GE874.out, NB0_874.out, NB874_0.out, NB856_874.out, NB874_856.out, NB857_874.out, NB874_857.out, NB858_874.out, NB874_858.out, NB865_874.out, NB874_865.out, NB866_874.out, NB874_866.out, (z68_3 HI0), (z68_4 HK), (z68_5 HB)⟩)
      ·
       rintro gb873 w32 ⟨hS_, h0_, h1_, h2_, h3_, h4_, h5_, h6_, h7_, h8_, h9_, h10_, h11_, h12_, h13_, h14_, h15_, h16_, h17_, h18_, h19_, h20_, h21_, h22_⟩
       have BK873 : Aside0 (w32.heap[gb873]? = some (.cells #[.int .i64 0, .int .i64 0] 27 (0, 0))) := ⟨h5_⟩
       have GW873 : Aside0 (w.heap.size ≤ gb873) := ⟨h6_⟩
       have GE873 : Aside0 (w0.heap.size ≤ gb873) := ⟨h7_⟩
       have NB0_873 : Aside0 (g ≠ gb873) := ⟨h8_⟩
       have NB873_0 : Aside0 (gb873 ≠ g) := ⟨h9_⟩
       have NB856_873 : Aside0 (gb856 ≠ gb873) := ⟨h10_⟩
       have NB873_856 : Aside0 (gb873 ≠ gb856) := ⟨h11_⟩
       have NB857_873 : Aside0 (gb857 ≠ gb873) := ⟨h12_⟩
       have NB873_857 : Aside0 (gb873 ≠ gb857) := ⟨h13_⟩
       have NB858_873 : Aside0 (gb858 ≠ gb873) := ⟨h14_⟩
       have NB873_858 : Aside0 (gb873 ≠ gb858) := ⟨h15_⟩
       have NB865_873 : Aside0 (gb865 ≠ gb873) := ⟨h16_⟩
       have NB873_865 : Aside0 (gb873 ≠ gb865) := ⟨h17_⟩
       have NB866_873 : Aside0 (gb866 ≠ gb873) := ⟨h18_⟩
       have NB873_866 : Aside0 (gb873 ≠ gb866) := ⟨h19_⟩
       replace BK856 : Aside0 (w32.heap[gb856]? = some (.cells #[.int .i64 a1_0, .int .i64 a1_1, .int .i64 a1_2, .int .i64 a1_3] 29 (0, 0))) := ⟨h0_⟩; replace BK857 : Aside0 (w32.heap[gb857]? = some (.cells #[.int .i64 a2_0, .int .i64 a2_1, .int .i64 a2_2, .int .i64 a2_3] 29 (0, 0))) := ⟨h1_⟩; replace BK858 : Aside0 (w32.heap[gb858]? = some (.cells #[.int .i64 0, .int .i64 0, .int .i64 0, .int .i64 0] 29 (0, 0))) := ⟨h2_⟩; replace BK865 : Aside0 (w32.heap[gb865]? = some (.cells #[.int .i64 t859, .int .i64 t860] 27 (0, 0))) := ⟨h3_⟩; replace BK866 : Aside0 (w32.heap[gb866]? = some (.cells #[.int .i64 t862, .int .i64 t863] 27 (0, 0))) := ⟨h4_⟩; replace HI0 : Aside0 (IsS57 w0 w32 g t869) := ⟨h20_⟩; replace HK : Aside0 (KeepBut w w32 g none) := ⟨h21_⟩; replace HB : Aside0 (Below w0.heap.size w0 w32) := ⟨h22_⟩
       clear h0_ h10_ h11_ h12_ h13_ h14_ h15_ h16_ h17_ h18_ h19_ h1_ h20_ h21_ h22_ h2_ h3_ h4_ h5_ h6_ h7_ h8_ h9_
       have hHeld : w32.cell? ⟨gb856, 0, none⟩ = some (.int .i64 a1_0) ∧ w32.cell? ⟨gb856, 1, none⟩ = some (.int .i64 a1_1) ∧ w32.cell? ⟨gb856, 2, none⟩ = some (.int .i64 a1_2) ∧ w32.cell? ⟨gb856, 3, none⟩ = some (.int .i64 a1_3) ∧ w32.cell? ⟨gb857, 0, none⟩ = some (.int .i64 a2_0) ∧ w32.cell? ⟨gb857, 1, none⟩ = some (.int .i64 a2_1) ∧ w32.cell? ⟨gb857, 2, none⟩ = some (.int .i64 a2_2) ∧ w32.cell? ⟨gb857, 3, none⟩ = some (.int .i64 a2_3) := hS_
       refine norm_ (a' := ?_) ?_ ?_
       rotate_left
       ·
        simp only [putAll, Act.put, List.setIfInBounds_toArray, List.set_cons_zero, List.set_cons_succ]
        rfl
       refine two_ (i := 11) (j := 13) (Ni := some 34) (Nj := some 10) #[true, true, true, true, true, true, true, true, true, true, true, true, true, false, false, false] #[true, true, true, true, true, true, true, true, true, true, true, false, true, true, false, false] rfl rfl rfl rfl (two_of HT_.out (by kernel_rfl)) (by decide) (by decide) (fun K hK => ?_) (fun K hK => ?_)
       ·
        refine goes_ Try.func94 (by kernel_rfl) rfl #[.pointer (some ⟨g, 0, none⟩), .agg #[.int .i64 a1_2, .int .i64 a1_3], .agg #[.int .i64 a2_2, .int .i64 a2_3]] (by rfl) rfl rfl zq6 ?_
        with_reducible refine (impl_reckoner_product.calls k g t869 a1_2 a1_3 a2_2 a2_3 t870 t871 t872 w0 _ ?side1 ?side2 A7.out).mono ?_
        (case side1 => exact z68_3 HI0)
        (case side2 => exact z68_5 HB)
        rintro e w33 ⟨rfl, hi, hb, hk⟩
        refine ⟨_, rfl, ?_⟩
        replace BK856 := Aside0.mk (KeepBut.blk hk (zq1 BK856) NB856_0.out (by simp)); replace BK857 := Aside0.mk (KeepBut.blk hk (zq1 BK857) NB857_0.out (by simp)); replace BK858 := Aside0.mk (KeepBut.blk hk (zq1 BK858) NB858_0.out (by simp)); replace BK865 := Aside0.mk (KeepBut.blk hk (zq1 BK865) NB865_0.out (by simp)); replace BK866 := Aside0.mk (KeepBut.blk hk (zq1 BK866) NB866_0.out (by simp)); replace BK873 := Aside0.mk (KeepBut.blk hk (zq1 BK873) NB873_0.out (by simp)); replace HK := Aside0.mk (KeepBut.trans (z68_4 HK) hk (.inl rfl)); replace HB := Aside0.mk (hb); replace HI0 := Aside0.mk (hi)
        (try clear hb)
        (try clear hb2)
        (try clear hk)
        (try clear hi)
        refine hK.out _ _ ⟨zc BK856 0, zc BK856 1, zc BK856 2, zc BK856 3, zc BK857 0, zc BK857 1, zc BK857 2, zc BK857 3⟩ (fun hHeld => ?_)
        clear hK K
        refine norm_ (a' := ?_) ?_ ?_
        rotate_left
        ·
         show Act.put _ (some 34) _ = _
         simp only [Act.put, List.setIfInBounds_toArray, List.set_cons_zero, List.set_cons_succ, i64_w, i32_w]; rfl
        exact norm_ zq4 (hJ5_11_12 (gb873) _ ⟨hHeld, (zq1 BK856), (zq1 BK857), (zq1 BK858), (zq1 BK865), (zq1 BK866), (zq1 BK873), GW873.out, GE873.out, NB0_873.out, NB873_0.out, NB856_873.out, NB873_856.out, NB857_873.out, NB873_857.out, NB858_873.out, NB873_858.out, NB865_873.out, NB873_865.out, NB866_873.out, NB873_866.out, (z68_3 HI0), (z68_4 HK), (z68_5 HB)⟩)
       ·
        refine box_step ?hg (N := 10) ?hd (cs := #[.int .i64 0, .int .i64 0]) (t := 27) ?hr ?_; (case hd => rfl); (case hg => rfl); (case hr => first | (go_simp; done) | (go_simp; rfl))
        intro gb874 hg w33 hbox hb
        have n0_ := Aside0.mk (IsS57.below (z68_3 HI0) hb)
        have n1_ := Aside0.mk (zbb BK856 hb)
        have n2_ := Aside0.mk (zbb BK857 hb)
        have n3_ := Aside0.mk (zbb BK858 hb)
        have n4_ := Aside0.mk (zbb BK865 hb)
        have n5_ := Aside0.mk (zbb BK866 hb)
        have n6_ := Aside0.mk (zbb BK873 hb)
        have n7_ := Aside0.mk (KeepBut.trans (z68_4 HK) (KeepBut.of_below hb g none) (.inl rfl))
        have n8_ := Aside0.mk (below_step (z68_5 HB) hb)
        have BK874 := Aside0.mk (hbox)
        have GW874 := Aside0.mk ((by rw [hg]; exact (keep_size (w := w) (g := g) (row := none) (z68_4 HK)) : w.heap.size ≤ gb874))
        have GE874 := Aside0.mk ((Nat.le_trans HW0.out (by rw [hg]; exact (keep_size (w := w) (g := g) (row := none) (z68_4 HK)) : w.heap.size ≤ gb874) : w0.heap.size ≤ gb874))
        have NB856_874 := Aside0.mk (zlt BK856 hg)
        have NB874_856 := Aside0.mk (zgt BK856 hg)
        have NB857_874 := Aside0.mk (zlt BK857 hg)
        have NB874_857 := Aside0.mk (zgt BK857 hg)
        have NB858_874 := Aside0.mk (zlt BK858 hg)
        have NB874_858 := Aside0.mk (zgt BK858 hg)
        have NB865_874 := Aside0.mk (zlt BK865 hg)
        have NB874_865 := Aside0.mk (zgt BK865 hg)
        have NB866_874 := Aside0.mk (zlt BK866 hg)
        have NB874_866 := Aside0.mk (zgt BK866 hg)
        have NB873_874 := Aside0.mk (zlt BK873 hg)
        have NB874_873 := Aside0.mk (zgt BK873 hg)
        have NB0_874 := Aside0.mk ((by rw [hg]; exact Nat.ne_of_lt (IsS57.lt (show IsS57 w0 _ g t869 from (z68_3 HI0))) : g ≠ gb874))
        have NB874_0 := Aside0.mk ((by rw [hg]; exact Nat.ne_of_gt (IsS57.lt (show IsS57 w0 _ g t869 from (z68_3 HI0))) : gb874 ≠ g))
        clear HI0 BK856 BK857 BK858 BK865 BK866 BK873 HK HB
        have HI0 := n0_; have BK856 := n1_; have BK857 := n2_; have BK858 := n3_; have BK865 := n4_; have BK866 := n5_; have BK873 := n6_; have HK := n7_; have HB := n8_
        clear n0_ n1_ n2_ n3_ n4_ n5_ n6_ n7_ n8_ hb hbox hg
        refine hK.out _ _ ⟨zc BK856 0, zc BK856 1, zc BK856 2, zc BK856 3, zc BK857 0, zc BK857 1, zc BK857 2, zc BK857 3⟩ (fun hHeld => ?_)
        clear hK K
        refine norm_ (a' := ?_) ?_ ?_
        rotate_left
        ·
         show Act.put _ (some 10) _ = _
         simp only [Act.put, List.setIfInBounds_toArray, List.set_cons_zero, List.set_cons_succ, i64_w, i32_w]; rfl
        exact norm_ zq4 (hJ5_12_13 (gb873, gb874) _ ⟨hHeld, (zq1 BK856), (zq1 BK857), (zq1 BK858), (zq1 BK865), (zq1 BK866), (zq1 BK873), (zq1 BK874), GW873.out, GE873.out, NB0_873.out, NB873_0.out, NB856_873.out, NB873_856.out, NB857_873.out, NB873_857.out, NB858_873.out, NB873_858.out, NB865_873.out, NB873_865.out, NB866_873.out, NB873_866.out, NB874_873.out, NB873_874.out, GW874.out, GE874.out, NB0_874.out, NB874_0.out, NB856_874.out, NB874_856.out, NB857_874.out, NB874_857.out, NB858_874.out, NB874_858.out, NB865_874.out, NB874_865.out, NB866_874.out, NB874_866.out, (z68_3 HI0), (z68_4 HK), (z68_5 HB)⟩)
     ·
      rintro _ w32 ⟨hS_, h0_, h1_, h2_, h3_, h4_, h5_, h6_, h7_⟩
      replace BK856 : Aside0 (w32.heap[gb856]? = some (.cells #[.int .i64 a1_0, .int .i64 a1_1, .int .i64 a1_2, .int .i64 a1_3] 29 (0, 0))) := ⟨h0_⟩; replace BK857 : Aside0 (w32.heap[gb857]? = some (.cells #[.int .i64 a2_0, .int .i64 a2_1, .int .i64 a2_2, .int .i64 a2_3] 29 (0, 0))) := ⟨h1_⟩; replace BK858 : Aside0 (w32.heap[gb858]? = some (.cells #[.int .i64 0, .int .i64 0, .int .i64 0, .int .i64 0] 29 (0, 0))) := ⟨h2_⟩; replace BK865 : Aside0 (w32.heap[gb865]? = some (.cells #[.int .i64 t859, .int .i64 t860] 27 (0, 0))) := ⟨h3_⟩; replace BK866 : Aside0 (w32.heap[gb866]? = some (.cells #[.int .i64 t862, .int .i64 t863] 27 (0, 0))) := ⟨h4_⟩; replace HI0 : Aside0 (IsS57 w0 w32 g t872) := ⟨h5_⟩; replace HK : Aside0 (KeepBut w w32 g none) := ⟨h6_⟩; replace HB : Aside0 (Below w0.heap.size w0 w32) := ⟨h7_⟩
      clear h0_ h1_ h2_ h3_ h4_ h5_ h6_ h7_
      have hHeld : w32.cell? ⟨gb856, 0, none⟩ = some (.int .i64 a1_0) ∧ w32.cell? ⟨gb856, 1, none⟩ = some (.int .i64 a1_1) ∧ w32.cell? ⟨gb856, 2, none⟩ = some (.int .i64 a1_2) ∧ w32.cell? ⟨gb856, 3, none⟩ = some (.int .i64 a1_3) ∧ w32.cell? ⟨gb857, 0, none⟩ = some (.int .i64 a2_0) ∧ w32.cell? ⟨gb857, 1, none⟩ = some (.int .i64 a2_1) ∧ w32.cell? ⟨gb857, 2, none⟩ = some (.int .i64 a2_2) ∧ w32.cell? ⟨gb857, 3, none⟩ = some (.int .i64 a2_3) := hS_
      refine norm_ (a' := ?_) ?_ ?_
      rotate_left
      ·
       simp only [putAll, Act.put, List.setIfInBounds_toArray, List.set_cons_zero, List.set_cons_succ]
       rfl
      refine two_ (i := 12) (j := 13) (Ni := some 9) (Nj := some 10) #[true, true, true, true, true, true, true, true, true, true, true, true, true, false, false, false] #[true, true, true, true, true, true, true, true, true, true, true, true, false, true, false, false] rfl rfl rfl rfl (two_of HT_.out (by kernel_rfl)) (by decide) (by decide) (fun K hK => ?_) (fun K hK => ?_)
      ·
       refine box_step ?hg (N := 9) ?hd (cs := #[.int .i64 0, .int .i64 0]) (t := 27) ?hr ?_; (case hd => rfl); (case hg => rfl); (case hr => first | (go_simp; done) | (go_simp; rfl))
       intro gb873 hg w33 hbox hb
       have n0_ := Aside0.mk (IsS57.below (z68_3 HI0) hb)
       have n1_ := Aside0.mk (zbb BK856 hb)
       have n2_ := Aside0.mk (zbb BK857 hb)
       have n3_ := Aside0.mk (zbb BK858 hb)
       have n4_ := Aside0.mk (zbb BK865 hb)
       have n5_ := Aside0.mk (zbb BK866 hb)
       have n6_ := Aside0.mk (KeepBut.trans (z68_4 HK) (KeepBut.of_below hb g none) (.inl rfl))
       have n7_ := Aside0.mk (below_step (z68_5 HB) hb)
       have BK873 := Aside0.mk (hbox)
       have GW873 := Aside0.mk ((by rw [hg]; exact (keep_size (w := w) (g := g) (row := none) (z68_4 HK)) : w.heap.size ≤ gb873))
       have GE873 := Aside0.mk ((Nat.le_trans HW0.out (by rw [hg]; exact (keep_size (w := w) (g := g) (row := none) (z68_4 HK)) : w.heap.size ≤ gb873) : w0.heap.size ≤ gb873))
       have NB856_873 := Aside0.mk (zlt BK856 hg)
       have NB873_856 := Aside0.mk (zgt BK856 hg)
       have NB857_873 := Aside0.mk (zlt BK857 hg)
       have NB873_857 := Aside0.mk (zgt BK857 hg)
       have NB858_873 := Aside0.mk (zlt BK858 hg)
       have NB873_858 := Aside0.mk (zgt BK858 hg)
       have NB865_873 := Aside0.mk (zlt BK865 hg)
       have NB873_865 := Aside0.mk (zgt BK865 hg)
       have NB866_873 := Aside0.mk (zlt BK866 hg)
       have NB873_866 := Aside0.mk (zgt BK866 hg)
       have NB0_873 := Aside0.mk ((by rw [hg]; exact Nat.ne_of_lt (IsS57.lt (show IsS57 w0 _ g t872 from (z68_3 HI0))) : g ≠ gb873))
       have NB873_0 := Aside0.mk ((by rw [hg]; exact Nat.ne_of_gt (IsS57.lt (show IsS57 w0 _ g t872 from (z68_3 HI0))) : gb873 ≠ g))
       clear HI0 BK856 BK857 BK858 BK865 BK866 HK HB
       have HI0 := n0_; have BK856 := n1_; have BK857 := n2_; have BK858 := n3_; have BK865 := n4_; have BK866 := n5_; have HK := n6_; have HB := n7_
       clear n0_ n1_ n2_ n3_ n4_ n5_ n6_ n7_ hb hbox hg
       refine hK.out _ _ ⟨zc BK856 0, zc BK856 1, zc BK856 2, zc BK856 3, zc BK857 0, zc BK857 1, zc BK857 2, zc BK857 3⟩ (fun hHeld => ?_)
       clear hK K
       refine norm_ (a' := ?_) ?_ ?_
       rotate_left
       ·
        show Act.put _ (some 9) _ = _
        simp only [Act.put, List.setIfInBounds_toArray, List.set_cons_zero, List.set_cons_succ, i64_w, i32_w]; rfl
       exact norm_ zq4 (hJ5_11_12 (gb873) _ ⟨hHeld, (zq1 BK856), (zq1 BK857), (zq1 BK858), (zq1 BK865), (zq1 BK866), (zq1 BK873), GW873.out, GE873.out, NB0_873.out, NB873_0.out, NB856_873.out, NB873_856.out, NB857_873.out, NB873_857.out, NB858_873.out, NB873_858.out, NB865_873.out, NB873_865.out, NB866_873.out, NB873_866.out, (z68_3 HI0), (z68_4 HK), (z68_5 HB)⟩)
      ·
       refine box_step ?hg (N := 10) ?hd (cs := #[.int .i64 0, .int .i64 0]) (t := 27) ?hr ?_; (case hd => rfl); (case hg => rfl); (case hr => first | (go_simp; done) | (go_simp; rfl))
       intro gb874 hg w33 hbox hb
       have n0_ := Aside0.mk (IsS57.below (z68_3 HI0) hb)
       have n1_ := Aside0.mk (zbb BK856 hb)
       have n2_ := Aside0.mk (zbb BK857 hb)
       have n3_ := Aside0.mk (zbb BK858 hb)
       have n4_ := Aside0.mk (zbb BK865 hb)
       have n5_ := Aside0.mk (zbb BK866 hb)
       have n6_ := Aside0.mk (KeepBut.trans (z68_4 HK) (KeepBut.of_below hb g none) (.inl rfl))
       have n7_ := Aside0.mk (below_step (z68_5 HB) hb)
       have BK874 := Aside0.mk (hbox)
       have GW874 := Aside0.mk ((by rw [hg]; exact (keep_size (w := w) (g := g) (row := none) (z68_4 HK)) : w.heap.size ≤ gb874))
       have GE874 := Aside0.mk ((Nat.le_trans HW0.out (by rw [hg]; exact (keep_size (w := w) (g := g) (row := none) (z68_4 HK)) : w.heap.size ≤ gb874) : w0.heap.size ≤ gb874))
       have NB856_874 := Aside0.mk (zlt BK856 hg)
       have NB874_856 := Aside0.mk (zgt BK856 hg)
       have NB857_874 := Aside0.mk (zlt BK857 hg)
       have NB874_857 := Aside0.mk (zgt BK857 hg)
       have NB858_874 := Aside0.mk (zlt BK858 hg)
       have NB874_858 := Aside0.mk (zgt BK858 hg)
       have NB865_874 := Aside0.mk (zlt BK865 hg)
       have NB874_865 := Aside0.mk (zgt BK865 hg)
       have NB866_874 := Aside0.mk (zlt BK866 hg)
       have NB874_866 := Aside0.mk (zgt BK866 hg)
       have NB0_874 := Aside0.mk ((by rw [hg]; exact Nat.ne_of_lt (IsS57.lt (show IsS57 w0 _ g t872 from (z68_3 HI0))) : g ≠ gb874))
       have NB874_0 := Aside0.mk ((by rw [hg]; exact Nat.ne_of_gt (IsS57.lt (show IsS57 w0 _ g t872 from (z68_3 HI0))) : gb874 ≠ g))
       clear HI0 BK856 BK857 BK858 BK865 BK866 HK HB
       have HI0 := n0_; have BK856 := n1_; have BK857 := n2_; have BK858 := n3_; have BK865 := n4_; have BK866 := n5_; have HK := n6_; have HB := n7_
       clear n0_ n1_ n2_ n3_ n4_ n5_ n6_ n7_ hb hbox hg
       refine hK.out _ _ ⟨zc BK856 0, zc BK856 1, zc BK856 2, zc BK856 3, zc BK857 0, zc BK857 1, zc BK857 2, zc BK857 3⟩ (fun hHeld => ?_)
       clear hK K
       refine norm_ (a' := ?_) ?_ ?_
       rotate_left
       ·
        show Act.put _ (some 10) _ = _
        simp only [Act.put, List.setIfInBounds_toArray, List.set_cons_zero, List.set_cons_succ, i64_w, i32_w]; rfl
       exact norm_ zq4 (hJ5_11_13 (gb874) _ ⟨hHeld, (zq1 BK856), (zq1 BK857), (zq1 BK858), (zq1 BK865), (zq1 BK866), (zq1 BK874), GW874.out, GE874.out, NB0_874.out, NB874_0.out, NB856_874.out, NB874_856.out, NB857_874.out, NB874_857.out, NB858_874.out, NB874_858.out, NB865_874.out, NB874_865.out, NB866_874.out, NB874_866.out, (z68_3 HI0), (z68_4 HK), (z68_5 HB)⟩)
    ·
     rintro ⟨gb873, gb874⟩ w33 ⟨hS_, h0_, h1_, h2_, h3_, h4_, h5_, h6_, h7_, h8_, h9_, h10_, h11_, h12_, h13_, h14_, h15_, h16_, h17_, h18_, h19_, h20_, h21_, h22_, h23_, h24_, h25_, h26_, h27_, h28_, h29_, h30_, h31_, h32_, h33_, h34_, h35_, h36_, h37_, h38_, h39_⟩
     have BK873 : Aside0 (w33.heap[gb873]? = some (.cells #[.int .i64 0, .int .i64 0] 27 (0, 0))) := ⟨h5_⟩
     have BK874 : Aside0 (w33.heap[gb874]? = some (.cells #[.int .i64 0, .int .i64 0] 27 (0, 0))) := ⟨h6_⟩
     have GW873 : Aside0 (w.heap.size ≤ gb873) := ⟨h7_⟩
     have GE873 : Aside0 (w0.heap.size ≤ gb873) := ⟨h8_⟩
     have NB0_873 : Aside0 (g ≠ gb873) := ⟨h9_⟩
     have NB873_0 : Aside0 (gb873 ≠ g) := ⟨h10_⟩
     have NB856_873 : Aside0 (gb856 ≠ gb873) := ⟨h11_⟩
     have NB873_856 : Aside0 (gb873 ≠ gb856) := ⟨h12_⟩
     have NB857_873 : Aside0 (gb857 ≠ gb873) := ⟨h13_⟩
     have NB873_857 : Aside0 (gb873 ≠ gb857) := ⟨h14_⟩
     have NB858_873 : Aside0 (gb858 ≠ gb873) := ⟨h15_⟩
     have NB873_858 : Aside0 (gb873 ≠ gb858) := ⟨h16_⟩
     have NB865_873 : Aside0 (gb865 ≠ gb873) := ⟨h17_⟩
     have NB873_865 : Aside0 (gb873 ≠ gb865) := ⟨h18_⟩
     have NB866_873 : Aside0 (gb866 ≠ gb873) := ⟨h19_⟩
     have NB873_866 : Aside0 (gb873 ≠ gb866) := ⟨h20_⟩
     have NB874_873 : Aside0 (gb874 ≠ gb873) := ⟨h21_⟩
     have NB873_874 : Aside0 (gb873 ≠ gb874) := ⟨h22_⟩
     have GW874 : Aside0 (w.heap.size ≤ gb874) := ⟨h23_⟩
     have GE874 : Aside0 (w0.heap.size ≤ gb874) := ⟨h24_⟩
     have NB0_874 : Aside0 (g ≠ gb874) := ⟨h25_⟩
     have NB874_0 : Aside0 (gb874 ≠ g) := ⟨h26_⟩
     have NB856_874 : Aside0 (gb856 ≠ gb874) := ⟨h27_⟩
     have NB874_856 : Aside0 (gb874 ≠ gb856) := ⟨h28_⟩
     have NB857_874 : Aside0 (gb857 ≠ gb874) := ⟨h29_⟩
     have NB874_857 : Aside0 (gb874 ≠ gb857) := ⟨h30_⟩
     have NB858_874 : Aside0 (gb858 ≠ gb874) := ⟨h31_⟩
     have NB874_858 : Aside0 (gb874 ≠ gb858) := ⟨h32_⟩
     have NB865_874 : Aside0 (gb865 ≠ gb874) := ⟨h33_⟩
     have NB874_865 : Aside0 (gb874 ≠ gb865) := ⟨h34_⟩
     have NB866_874 : Aside0 (gb866 ≠ gb874) := ⟨h35_⟩
     have NB874_866 : Aside0 (gb874 ≠ gb866) := ⟨h36_⟩
     replace BK856 : Aside0 (w33.heap[gb856]? = some (.cells #[.int .i64 a1_0, .int .i64 a1_1, .int .i64 a1_2, .int .i64 a1_3] 29 (0, 0))) := ⟨h0_⟩; replace BK857 : Aside0 (w33.heap[gb857]? = some (.cells #[.int .i64 a2_0, .int .i64 a2_1, .int .i64 a2_2, .int .i64 a2_3] 29 (0, 0))) := ⟨h1_⟩; replace BK858 : Aside0 (w33.heap[gb858]? = some (.cells #[.int .i64 0, .int .i64 0, .int .i64 0, .int .i64 0] 29 (0, 0))) := ⟨h2_⟩; replace BK865 : Aside0 (w33.heap[gb865]? = some (.cells #[.int .i64 t859, .int .i64 t860] 27 (0, 0))) := ⟨h3_⟩; replace BK866 : Aside0 (w33.heap[gb866]? = some (.cells #[.int .i64 t862, .int .i64 t863] 27 (0, 0))) := ⟨h4_⟩; replace HI0 : Aside0 (IsS57 w0 w33 g t869) := ⟨h37_⟩; replace HK : Aside0 (KeepBut w w33 g none) := ⟨h38_⟩; replace HB : Aside0 (Below w0.heap.size w0 w33) := ⟨h39_⟩
     clear h0_ h10_ h11_ h12_ h13_ h14_ h15_ h16_ h17_ h18_ h19_ h1_ h20_ h21_ h22_ h23_ h24_ h25_ h26_ h27_ h28_ h29_ h2_ h30_ h31_ h32_ h33_ h34_ h35_ h36_ h37_ h38_ h39_ h3_ h4_ h5_ h6_ h7_ h8_ h9_
     have hHeld : w33.cell? ⟨gb856, 0, none⟩ = some (.int .i64 a1_0) ∧ w33.cell? ⟨gb856, 1, none⟩ = some (.int .i64 a1_1) ∧ w33.cell? ⟨gb856, 2, none⟩ = some (.int .i64 a1_2) ∧ w33.cell? ⟨gb856, 3, none⟩ = some (.int .i64 a1_3) ∧ w33.cell? ⟨gb857, 0, none⟩ = some (.int .i64 a2_0) ∧ w33.cell? ⟨gb857, 1, none⟩ = some (.int .i64 a2_1) ∧ w33.cell? ⟨gb857, 2, none⟩ = some (.int .i64 a2_2) ∧ w33.cell? ⟨gb857, 3, none⟩ = some (.int .i64 a2_3) := hS_
     refine norm_ (a' := ?_) ?_ ?_
     rotate_left
     ·
      simp only [putAll, Act.put, List.setIfInBounds_toArray, List.set_cons_zero, List.set_cons_succ]
      rfl
     refine one_ (i := 11) (N := some 34) #[true, true, true, true, true, true, true, true, true, true, true, true, true, true, false, false] rfl rfl (one_of HT_.out (by kernel_rfl)) (by decide) (fun K hK => ?_)
     refine goes_ Try.func94 (by kernel_rfl) rfl #[.pointer (some ⟨g, 0, none⟩), .agg #[.int .i64 a1_2, .int .i64 a1_3], .agg #[.int .i64 a2_2, .int .i64 a2_3]] (by rfl) rfl rfl zq6 ?_
     with_reducible refine (impl_reckoner_product.calls k g t869 a1_2 a1_3 a2_2 a2_3 t870 t871 t872 w0 _ ?side1 ?side2 A7.out).mono ?_
     (case side1 => exact z68_3 HI0)
     (case side2 => exact z68_5 HB)
     rintro e w34 ⟨rfl, hi, hb, hk⟩
     refine ⟨_, rfl, ?_⟩
     replace BK856 := Aside0.mk (KeepBut.blk hk (zq1 BK856) NB856_0.out (by simp)); replace BK857 := Aside0.mk (KeepBut.blk hk (zq1 BK857) NB857_0.out (by simp)); replace BK858 := Aside0.mk (KeepBut.blk hk (zq1 BK858) NB858_0.out (by simp)); replace BK865 := Aside0.mk (KeepBut.blk hk (zq1 BK865) NB865_0.out (by simp)); replace BK866 := Aside0.mk (KeepBut.blk hk (zq1 BK866) NB866_0.out (by simp)); replace BK873 := Aside0.mk (KeepBut.blk hk (zq1 BK873) NB873_0.out (by simp)); replace BK874 := Aside0.mk (KeepBut.blk hk (zq1 BK874) NB874_0.out (by simp)); replace HK := Aside0.mk (KeepBut.trans (z68_4 HK) hk (.inl rfl)); replace HB := Aside0.mk (hb); replace HI0 := Aside0.mk (hi)
     (try clear hb)
     (try clear hb2)
     (try clear hk)
     (try clear hi)
     refine hK.out _ _ ⟨zc BK856 0, zc BK856 1, zc BK856 2, zc BK856 3, zc BK857 0, zc BK857 1, zc BK857 2, zc BK857 3⟩ (fun hHeld => ?_)
     clear hK K
     refine norm_ (a' := ?_) ?_ ?_
     rotate_left
     ·
      show Act.put _ (some 34) _ = _
      simp only [Act.put, List.setIfInBounds_toArray, List.set_cons_zero, List.set_cons_succ, i64_w, i32_w]; rfl
     exact norm_ zq4 (hJ5_11_12_13 (gb873, gb874) _ ⟨hHeld, (zq1 BK856), (zq1 BK857), (zq1 BK858), (zq1 BK865), (zq1 BK866), (zq1 BK873), (zq1 BK874), GW873.out, GE873.out, NB0_873.out, NB873_0.out, NB856_873.out, NB873_856.out, NB857_873.out, NB873_857.out, NB858_873.out, NB873_858.out, NB865_873.out, NB873_865.out, NB866_873.out, NB873_866.out, NB874_873.out, NB873_874.out, GW874.out, GE874.out, NB0_874.out, NB874_0.out, NB856_874.out, NB874_856.out, NB857_874.out, NB874_857.out, NB858_874.out, NB874_858.out, NB865_874.out, NB874_865.out, NB866_874.out, NB874_866.out, (z68_3 HI0), (z68_4 HK), (z68_5 HB)⟩)
   ·
    rintro gb874 w33 ⟨hS_, h0_, h1_, h2_, h3_, h4_, h5_, h6_, h7_, h8_, h9_, h10_, h11_, h12_, h13_, h14_, h15_, h16_, h17_, h18_, h19_, h20_, h21_, h22_⟩
    have BK874 : Aside0 (w33.heap[gb874]? = some (.cells #[.int .i64 0, .int .i64 0] 27 (0, 0))) := ⟨h5_⟩
    have GW874 : Aside0 (w.heap.size ≤ gb874) := ⟨h6_⟩
    have GE874 : Aside0 (w0.heap.size ≤ gb874) := ⟨h7_⟩
    have NB0_874 : Aside0 (g ≠ gb874) := ⟨h8_⟩
    have NB874_0 : Aside0 (gb874 ≠ g) := ⟨h9_⟩
    have NB856_874 : Aside0 (gb856 ≠ gb874) := ⟨h10_⟩
    have NB874_856 : Aside0 (gb874 ≠ gb856) := ⟨h11_⟩
    have NB857_874 : Aside0 (gb857 ≠ gb874) := ⟨h12_⟩
    have NB874_857 : Aside0 (gb874 ≠ gb857) := ⟨h13_⟩
    have NB858_874 : Aside0 (gb858 ≠ gb874) := ⟨h14_⟩
    have NB874_858 : Aside0 (gb874 ≠ gb858) := ⟨h15_⟩
    have NB865_874 : Aside0 (gb865 ≠ gb874) := ⟨h16_⟩
    have NB874_865 : Aside0 (gb874 ≠ gb865) := ⟨h17_⟩
    have NB866_874 : Aside0 (gb866 ≠ gb874) := ⟨h18_⟩
    have NB874_866 : Aside0 (gb874 ≠ gb866) := ⟨h19_⟩
    replace BK856 : Aside0 (w33.heap[gb856]? = some (.cells #[.int .i64 a1_0, .int .i64 a1_1, .int .i64 a1_2, .int .i64 a1_3] 29 (0, 0))) := ⟨h0_⟩; replace BK857 : Aside0 (w33.heap[gb857]? = some (.cells #[.int .i64 a2_0, .int .i64 a2_1, .int .i64 a2_2, .int .i64 a2_3] 29 (0, 0))) := ⟨h1_⟩; replace BK858 : Aside0 (w33.heap[gb858]? = some (.cells #[.int .i64 0, .int .i64 0, .int .i64 0, .int .i64 0] 29 (0, 0))) := ⟨h2_⟩; replace BK865 : Aside0 (w33.heap[gb865]? = some (.cells #[.int .i64 t859, .int .i64 t860] 27 (0, 0))) := ⟨h3_⟩; replace BK866 : Aside0 (w33.heap[gb866]? = some (.cells #[.int .i64 t862, .int .i64 t863] 27 (0, 0))) := ⟨h4_⟩; replace HI0 : Aside0 (IsS57 w0 w33 g t872) := ⟨h20_⟩; replace HK : Aside0 (KeepBut w w33 g none) := ⟨h21_⟩; replace HB : Aside0 (Below w0.heap.size w0 w33) := ⟨h22_⟩
    clear h0_ h10_ h11_ h12_ h13_ h14_ h15_ h16_ h17_ h18_ h19_ h1_ h20_ h21_ h22_ h2_ h3_ h4_ h5_ h6_ h7_ h8_ h9_
    have hHeld : w33.cell? ⟨gb856, 0, none⟩ = some (.int .i64 a1_0) ∧ w33.cell? ⟨gb856, 1, none⟩ = some (.int .i64 a1_1) ∧ w33.cell? ⟨gb856, 2, none⟩ = some (.int .i64 a1_2) ∧ w33.cell? ⟨gb856, 3, none⟩ = some (.int .i64 a1_3) ∧ w33.cell? ⟨gb857, 0, none⟩ = some (.int .i64 a2_0) ∧ w33.cell? ⟨gb857, 1, none⟩ = some (.int .i64 a2_1) ∧ w33.cell? ⟨gb857, 2, none⟩ = some (.int .i64 a2_2) ∧ w33.cell? ⟨gb857, 3, none⟩ = some (.int .i64 a2_3) := hS_
    refine norm_ (a' := ?_) ?_ ?_
    rotate_left
    ·
     simp only [putAll, Act.put, List.setIfInBounds_toArray, List.set_cons_zero, List.set_cons_succ]
     rfl
    refine one_ (i := 12) (N := some 9) #[true, true, true, true, true, true, true, true, true, true, true, true, true, true, false, false] rfl rfl (one_of HT_.out (by kernel_rfl)) (by decide) (fun K hK => ?_)
    refine box_step ?hg (N := 9) ?hd (cs := #[.int .i64 0, .int .i64 0]) (t := 27) ?hr ?_; (case hd => rfl); (case hg => rfl); (case hr => first | (go_simp; done) | (go_simp; rfl))
    intro gb873 hg w34 hbox hb
    have n0_ := Aside0.mk (IsS57.below (z68_3 HI0) hb)
    have n1_ := Aside0.mk (zbb BK856 hb)
    have n2_ := Aside0.mk (zbb BK857 hb)
    have n3_ := Aside0.mk (zbb BK858 hb)
    have n4_ := Aside0.mk (zbb BK865 hb)
    have n5_ := Aside0.mk (zbb BK866 hb)
    have n6_ := Aside0.mk (zbb BK874 hb)
    have n7_ := Aside0.mk (KeepBut.trans (z68_4 HK) (KeepBut.of_below hb g none) (.inl rfl))
    have n8_ := Aside0.mk (below_step (z68_5 HB) hb)
    have BK873 := Aside0.mk (hbox)
    have GW873 := Aside0.mk ((by rw [hg]; exact (keep_size (w := w) (g := g) (row := none) (z68_4 HK)) : w.heap.size ≤ gb873))
    have GE873 := Aside0.mk ((Nat.le_trans HW0.out (by rw [hg]; exact (keep_size (w := w) (g := g) (row := none) (z68_4 HK)) : w.heap.size ≤ gb873) : w0.heap.size ≤ gb873))
    have NB856_873 := Aside0.mk (zlt BK856 hg)
    have NB873_856 := Aside0.mk (zgt BK856 hg)
    have NB857_873 := Aside0.mk (zlt BK857 hg)
    have NB873_857 := Aside0.mk (zgt BK857 hg)
    have NB858_873 := Aside0.mk (zlt BK858 hg)
    have NB873_858 := Aside0.mk (zgt BK858 hg)
    have NB865_873 := Aside0.mk (zlt BK865 hg)
    have NB873_865 := Aside0.mk (zgt BK865 hg)
    have NB866_873 := Aside0.mk (zlt BK866 hg)
    have NB873_866 := Aside0.mk (zgt BK866 hg)
    have NB874_873 := Aside0.mk (zlt BK874 hg)
    have NB873_874 := Aside0.mk (zgt BK874 hg)
    have NB0_873 := Aside0.mk ((by rw [hg]; exact Nat.ne_of_lt (IsS57.lt (show IsS57 w0 _ g t872 from (z68_3 HI0))) : g ≠ gb873))
    have NB873_0 := Aside0.mk ((by rw [hg]; exact Nat.ne_of_gt (IsS57.lt (show IsS57 w0 _ g t872 from (z68_3 HI0))) : gb873 ≠ g))
    clear HI0 BK856 BK857 BK858 BK865 BK866 BK874 HK HB
    have HI0 := n0_; have BK856 := n1_; have BK857 := n2_; have BK858 := n3_; have BK865 := n4_; have BK866 := n5_; have BK874 := n6_; have HK := n7_; have HB := n8_
    clear n0_ n1_ n2_ n3_ n4_ n5_ n6_ n7_ n8_ hb hbox hg
    refine hK.out _ _ ⟨zc BK856 0, zc BK856 1, zc BK856 2, zc BK856 3, zc BK857 0, zc BK857 1, zc BK857 2, zc BK857 3⟩ (fun hHeld => ?_)
    clear hK K
    refine norm_ (a' := ?_) ?_ ?_
    rotate_left
    ·
     show Act.put _ (some 9) _ = _
     simp only [Act.put, List.setIfInBounds_toArray, List.set_cons_zero, List.set_cons_succ, i64_w, i32_w]; rfl
    exact norm_ zq4 (hJ5_11_12_13 (gb873, gb874) _ ⟨hHeld, (zq1 BK856), (zq1 BK857), (zq1 BK858), (zq1 BK865), (zq1 BK866), (zq1 BK873), (zq1 BK874), GW873.out, GE873.out, NB0_873.out, NB873_0.out, NB856_873.out, NB873_856.out, NB857_873.out, NB873_857.out, NB858_873.out, NB873_858.out, NB865_873.out, NB873_865.out, NB866_873.out, NB873_866.out, NB874_873.out, NB873_874.out, GW874.out, GE874.out, NB0_874.out, NB874_0.out, NB856_874.out, NB874_856.out, NB857_874.out, NB874_857.out, NB858_874.out, NB874_858.out, NB865_874.out, NB874_865.out, NB866_874.out, NB874_866.out, (z68_3 HI0), (z68_4 HK), (z68_5 HB)⟩)
  ·
   rintro gb873 w33 ⟨hS_, h0_, h1_, h2_, h3_, h4_, h5_, h6_, h7_, h8_, h9_, h10_, h11_, h12_, h13_, h14_, h15_, h16_, h17_, h18_, h19_, h20_, h21_, h22_⟩
   have BK873 : Aside0 (w33.heap[gb873]? = some (.cells #[.int .i64 0, .int .i64 0] 27 (0, 0))) := ⟨h5_⟩
   have GW873 : Aside0 (w.heap.size ≤ gb873) := ⟨h6_⟩
   have GE873 : Aside0 (w0.heap.size ≤ gb873) := ⟨h7_⟩
   have NB0_873 : Aside0 (g ≠ gb873) := ⟨h8_⟩
   have NB873_0 : Aside0 (gb873 ≠ g) := ⟨h9_⟩
   have NB856_873 : Aside0 (gb856 ≠ gb873) := ⟨h10_⟩
   have NB873_856 : Aside0 (gb873 ≠ gb856) := ⟨h11_⟩
   have NB857_873 : Aside0 (gb857 ≠ gb873) := ⟨h12_⟩
   have NB873_857 : Aside0 (gb873 ≠ gb857) := ⟨h13_⟩
   have NB858_873 : Aside0 (gb858 ≠ gb873) := ⟨h14_⟩
   have NB873_858 : Aside0 (gb873 ≠ gb858) := ⟨h15_⟩
   have NB865_873 : Aside0 (gb865 ≠ gb873) := ⟨h16_⟩
   have NB873_865 : Aside0 (gb873 ≠ gb865) := ⟨h17_⟩
   have NB866_873 : Aside0 (gb866 ≠ gb873) := ⟨h18_⟩
   have NB873_866 : Aside0 (gb873 ≠ gb866) := ⟨h19_⟩
   replace BK856 : Aside0 (w33.heap[gb856]? = some (.cells #[.int .i64 a1_0, .int .i64 a1_1, .int .i64 a1_2, .int .i64 a1_3] 29 (0, 0))) := ⟨h0_⟩; replace BK857 : Aside0 (w33.heap[gb857]? = some (.cells #[.int .i64 a2_0, .int .i64 a2_1, .int .i64 a2_2, .int .i64 a2_3] 29 (0, 0))) := ⟨h1_⟩; replace BK858 : Aside0 (w33.heap[gb858]? = some (.cells #[.int .i64 0, .int .i64 0, .int .i64 0, .int .i64 0] 29 (0, 0))) := ⟨h2_⟩; replace BK865 : Aside0 (w33.heap[gb865]? = some (.cells #[.int .i64 t859, .int .i64 t860] 27 (0, 0))) := ⟨h3_⟩; replace BK866 : Aside0 (w33.heap[gb866]? = some (.cells #[.int .i64 t862, .int .i64 t863] 27 (0, 0))) := ⟨h4_⟩; replace HI0 : Aside0 (IsS57 w0 w33 g t872) := ⟨h20_⟩; replace HK : Aside0 (KeepBut w w33 g none) := ⟨h21_⟩; replace HB : Aside0 (Below w0.heap.size w0 w33) := ⟨h22_⟩
   clear h0_ h10_ h11_ h12_ h13_ h14_ h15_ h16_ h17_ h18_ h19_ h1_ h20_ h21_ h22_ h2_ h3_ h4_ h5_ h6_ h7_ h8_ h9_
   have hHeld : w33.cell? ⟨gb856, 0, none⟩ = some (.int .i64 a1_0) ∧ w33.cell? ⟨gb856, 1, none⟩ = some (.int .i64 a1_1) ∧ w33.cell? ⟨gb856, 2, none⟩ = some (.int .i64 a1_2) ∧ w33.cell? ⟨gb856, 3, none⟩ = some (.int .i64 a1_3) ∧ w33.cell? ⟨gb857, 0, none⟩ = some (.int .i64 a2_0) ∧ w33.cell? ⟨gb857, 1, none⟩ = some (.int .i64 a2_1) ∧ w33.cell? ⟨gb857, 2, none⟩ = some (.int .i64 a2_2) ∧ w33.cell? ⟨gb857, 3, none⟩ = some (.int .i64 a2_3) := hS_
   refine norm_ (a' := ?_) ?_ ?_
   rotate_left
   ·
    simp only [putAll, Act.put, List.setIfInBounds_toArray, List.set_cons_zero, List.set_cons_succ]
    rfl
   refine one_ (i := 13) (N := some 10) #[true, true, true, true, true, true, true, true, true, true, true, true, true, true, false, false] rfl rfl (one_of HT_.out (by kernel_rfl)) (by decide) (fun K hK => ?_)
   refine box_step ?hg (N := 10) ?hd (cs := #[.int .i64 0, .int .i64 0]) (t := 27) ?hr ?_; (case hd => rfl); (case hg => rfl); (case hr => first | (go_simp; done) | (go_simp; rfl))
   intro gb874 hg w34 hbox hb
   have n0_ := Aside0.mk (IsS57.below (z68_3 HI0) hb)
   have n1_ := Aside0.mk (zbb BK856 hb)
   have n2_ := Aside0.mk (zbb BK857 hb)
   have n3_ := Aside0.mk (zbb BK858 hb)
   have n4_ := Aside0.mk (zbb BK865 hb)
   have n5_ := Aside0.mk (zbb BK866 hb)
   have n6_ := Aside0.mk (zbb BK873 hb)
   have n7_ := Aside0.mk (KeepBut.trans (z68_4 HK) (KeepBut.of_below hb g none) (.inl rfl))
   have n8_ := Aside0.mk (below_step (z68_5 HB) hb)
   have BK874 := Aside0.mk (hbox)
   have GW874 := Aside0.mk ((by rw [hg]; exact (keep_size (w := w) (g := g) (row := none) (z68_4 HK)) : w.heap.size ≤ gb874))
   have GE874 := Aside0.mk ((Nat.le_trans HW0.out (by rw [hg]; exact (keep_size (w := w) (g := g) (row := none) (z68_4 HK)) : w.heap.size ≤ gb874) : w0.heap.size ≤ gb874))
   have NB856_874 := Aside0.mk (zlt BK856 hg)
   have NB874_856 := Aside0.mk (zgt BK856 hg)
   have NB857_874 := Aside0.mk (zlt BK857 hg)
   have NB874_857 := Aside0.mk (zgt BK857 hg)
   have NB858_874 := Aside0.mk (zlt BK858 hg)
   have NB874_858 := Aside0.mk (zgt BK858 hg)
   have NB865_874 := Aside0.mk (zlt BK865 hg)
   have NB874_865 := Aside0.mk (zgt BK865 hg)
   have NB866_874 := Aside0.mk (zlt BK866 hg)
   have NB874_866 := Aside0.mk (zgt BK866 hg)
   have NB873_874 := Aside0.mk (zlt BK873 hg)
   have NB874_873 := Aside0.mk (zgt BK873 hg)
   have NB0_874 := Aside0.mk ((by rw [hg]; exact Nat.ne_of_lt (IsS57.lt (show IsS57 w0 _ g t872 from (z68_3 HI0))) : g ≠ gb874))
   have NB874_0 := Aside0.mk ((by rw [hg]; exact Nat.ne_of_gt (IsS57.lt (show IsS57 w0 _ g t872 from (z68_3 HI0))) : gb874 ≠ g))
   clear HI0 BK856 BK857 BK858 BK865 BK866 BK873 HK HB
   have HI0 := n0_; have BK856 := n1_; have BK857 := n2_; have BK858 := n3_; have BK865 := n4_; have BK866 := n5_; have BK873 := n6_; have HK := n7_; have HB := n8_
   clear n0_ n1_ n2_ n3_ n4_ n5_ n6_ n7_ n8_ hb hbox hg
   refine hK.out _ _ ⟨zc BK856 0, zc BK856 1, zc BK856 2, zc BK856 3, zc BK857 0, zc BK857 1, zc BK857 2, zc BK857 3⟩ (fun hHeld => ?_)
   clear hK K
   refine norm_ (a' := ?_) ?_ ?_
   rotate_left
   ·
    show Act.put _ (some 10) _ = _
    simp only [Act.put, List.setIfInBounds_toArray, List.set_cons_zero, List.set_cons_succ, i64_w, i32_w]; rfl
   exact norm_ zq4 (hJ5_11_12_13 (gb873, gb874) _ ⟨hHeld, (zq1 BK856), (zq1 BK857), (zq1 BK858), (zq1 BK865), (zq1 BK866), (zq1 BK873), (zq1 BK874), GW873.out, GE873.out, NB0_873.out, NB873_0.out, NB856_873.out, NB873_856.out, NB857_873.out, NB873_857.out, NB858_873.out, NB873_858.out, NB865_873.out, NB873_865.out, NB866_873.out, NB873_866.out, NB874_873.out, NB873_874.out, GW874.out, GE874.out, NB0_874.out, NB874_0.out, NB856_874.out, NB874_856.out, NB857_874.out, NB874_857.out, NB858_874.out, NB874_858.out, NB865_874.out, NB874_865.out, NB866_874.out, NB874_866.out, (z68_3 HI0), (z68_4 HK), (z68_5 HB)⟩)
 rintro ⟨gb873, gb874⟩ w34 ⟨hS_, h0_, h1_, h2_, h3_, h4_, h5_, h6_, h7_, h8_, h9_, h10_, h11_, h12_, h13_, h14_, h15_, h16_, h17_, h18_, h19_, h20_, h21_, h22_, h23_, h24_, h25_, h26_, h27_, h28_, h29_, h30_, h31_, h32_, h33_, h34_, h35_, h36_, h37_, h38_, h39_⟩
 have BK873 : Aside0 (w34.heap[gb873]? = some (.cells #[.int .i64 0, .int .i64 0] 27 (0, 0))) := ⟨h5_⟩
 have BK874 : Aside0 (w34.heap[gb874]? = some (.cells #[.int .i64 0, .int .i64 0] 27 (0, 0))) := ⟨h6_⟩
 have GW873 : Aside0 (w.heap.size ≤ gb873) := ⟨h7_⟩
 have GE873 : Aside0 (w0.heap.size ≤ gb873) := ⟨h8_⟩
 have NB0_873 : Aside0 (g ≠ gb873) := ⟨h9_⟩
 have NB873_0 : Aside0 (gb873 ≠ g) := ⟨h10_⟩
 have NB856_873 : Aside0 (gb856 ≠ gb873) := ⟨h11_⟩
 have NB873_856 : Aside0 (gb873 ≠ gb856) := ⟨h12_⟩
 have NB857_873 : Aside0 (gb857 ≠ gb873) := ⟨h13_⟩
 have NB873_857 : Aside0 (gb873 ≠ gb857) := ⟨h14_⟩
 have NB858_873 : Aside0 (gb858 ≠ gb873) := ⟨h15_⟩
 have NB873_858 : Aside0 (gb873 ≠ gb858) := ⟨h16_⟩
 have NB865_873 : Aside0 (gb865 ≠ gb873) := ⟨h17_⟩
 have NB873_865 : Aside0 (gb873 ≠ gb865) := ⟨h18_⟩
 have NB866_873 : Aside0 (gb866 ≠ gb873) := ⟨h19_⟩
 have NB873_866 : Aside0 (gb873 ≠ gb866) := ⟨h20_⟩
 have NB874_873 : Aside0 (gb874 ≠ gb873) := ⟨h21_⟩
 have NB873_874 : Aside0 (gb873 ≠ gb874) := ⟨h22_⟩
 have GW874 : Aside0 (w.heap.size ≤ gb874) := ⟨h23_⟩
 have GE874 : Aside0 (w0.heap.size ≤ gb874) := ⟨h24_⟩
 have NB0_874 : Aside0 (g ≠ gb874) := ⟨h25_⟩
 have NB874_0 : Aside0 (gb874 ≠ g) := ⟨h26_⟩
 have NB856_874 : Aside0 (gb856 ≠ gb874) := ⟨h27_⟩
 have NB874_856 : Aside0 (gb874 ≠ gb856) := ⟨h28_⟩
 have NB857_874 : Aside0 (gb857 ≠ gb874) := ⟨h29_⟩
 have NB874_857 : Aside0 (gb874 ≠ gb857) := ⟨h30_⟩
 have NB858_874 : Aside0 (gb858 ≠ gb874) := ⟨h31_⟩
 have NB874_858 : Aside0 (gb874 ≠ gb858) := ⟨h32_⟩
 have NB865_874 : Aside0 (gb865 ≠ gb874) := ⟨h33_⟩
 have NB874_865 : Aside0 (gb874 ≠ gb865) := ⟨h34_⟩
 have NB866_874 : Aside0 (gb866 ≠ gb874) := ⟨h35_⟩
 have NB874_866 : Aside0 (gb874 ≠ gb866) := ⟨h36_⟩
 replace BK856 : Aside0 (w34.heap[gb856]? = some (.cells #[.int .i64 a1_0, .int .i64 a1_1, .int .i64 a1_2, .int .i64 a1_3] 29 (0, 0))) := ⟨h0_⟩; replace BK857 : Aside0 (w34.heap[gb857]? = some (.cells #[.int .i64 a2_0, .int .i64 a2_1, .int .i64 a2_2, .int .i64 a2_3] 29 (0, 0))) := ⟨h1_⟩; replace BK858 : Aside0 (w34.heap[gb858]? = some (.cells #[.int .i64 0, .int .i64 0, .int .i64 0, .int .i64 0] 29 (0, 0))) := ⟨h2_⟩; replace BK865 : Aside0 (w34.heap[gb865]? = some (.cells #[.int .i64 t859, .int .i64 t860] 27 (0, 0))) := ⟨h3_⟩; replace BK866 : Aside0 (w34.heap[gb866]? = some (.cells #[.int .i64 t862, .int .i64 t863] 27 (0, 0))) := ⟨h4_⟩; replace HI0 : Aside0 (IsS57 w0 w34 g t872) := ⟨h37_⟩; replace HK : Aside0 (KeepBut w w34 g none) := ⟨h38_⟩; replace HB : Aside0 (Below w0.heap.size w0 w34) := ⟨h39_⟩
 clear h0_ h10_ h11_ h12_ h13_ h14_ h15_ h16_ h17_ h18_ h19_ h1_ h20_ h21_ h22_ h23_ h24_ h25_ h26_ h27_ h28_ h29_ h2_ h30_ h31_ h32_ h33_ h34_ h35_ h36_ h37_ h38_ h39_ h3_ h4_ h5_ h6_ h7_ h8_ h9_
 have hHeld : w34.cell? ⟨gb856, 0, none⟩ = some (.int .i64 a1_0) ∧ w34.cell? ⟨gb856, 1, none⟩ = some (.int .i64 a1_1) ∧ w34.cell? ⟨gb856, 2, none⟩ = some (.int .i64 a1_2) ∧ w34.cell? ⟨gb856, 3, none⟩ = some (.int .i64 a1_3) ∧ w34.cell? ⟨gb857, 0, none⟩ = some (.int .i64 a2_0) ∧ w34.cell? ⟨gb857, 1, none⟩ = some (.int .i64 a2_1) ∧ w34.cell? ⟨gb857, 2, none⟩ = some (.int .i64 a2_2) ∧ w34.cell? ⟨gb857, 3, none⟩ = some (.int .i64 a2_3) := hS_
 refine norm_ (a' := ?_) ?_ ?_
 rotate_left
 ·
  simp only [putAll, Act.put, List.setIfInBounds_toArray, List.set_cons_zero, List.set_cons_succ]
  rfl
 refine one_ (i := 14) (N := none) #[true, true, true, true, true, true, true, true, true, true, true, true, true, true, true, false] rfl rfl (one_of HT_.out (by kernel_rfl)) (by decide) (fun K hK => ?_)
 have hs35 : w34.cell? ⟨gb873, 0, none⟩ = some (.int .i64 0) := zc BK873 0
 have hfs35 := blk_frozen BK873.out 0
 have hns35_0 := NB856_873.out
 have hns35_1 := NB857_873.out
 have hns35_2 := NB858_873.out
 have hns35_3 := NB865_873.out
 have hns35_4 := NB866_873.out
 have hns35_6 := NB874_873.out
 have hms35_0 := NB873_856.out
 have hms35_1 := NB873_857.out
 have hms35_2 := NB873_858.out
 have hms35_3 := NB873_865.out
 have hms35_4 := NB873_866.out
 have hms35_6 := NB873_874.out
 have hs36 : w34.cell? ⟨gb873, 1, none⟩ = some (.int .i64 0) := zc BK873 1
 have hfs36 := blk_frozen BK873.out 1
 have hns36_0 := NB856_873.out
 have hns36_1 := NB857_873.out
 have hns36_2 := NB858_873.out
 have hns36_3 := NB865_873.out
 have hns36_4 := NB866_873.out
 have hns36_6 := NB874_873.out
 have hms36_0 := NB873_856.out
 have hms36_1 := NB873_857.out
 have hms36_2 := NB873_858.out
 have hms36_3 := NB873_865.out
 have hms36_4 := NB873_866.out
 have hms36_6 := NB873_874.out
 refine skip_ (w1 := ?_) (by rfl) rfl ?_ ?_
 rotate_left
 ·
  go_simp
  rfl
 refine hK.out _ _ ⟨((cell_far (p := ⟨gb873, _, none⟩) NB856_873.out _).trans (((cell_far (p := ⟨gb873, _, none⟩) NB856_873.out _).trans (hHeld.1)))), ((cell_far (p := ⟨gb873, _, none⟩) NB856_873.out _).trans (((cell_far (p := ⟨gb873, _, none⟩) NB856_873.out _).trans (hHeld.2.1)))), ((cell_far (p := ⟨gb873, _, none⟩) NB856_873.out _).trans (((cell_far (p := ⟨gb873, _, none⟩) NB856_873.out _).trans (hHeld.2.2.1)))), ((cell_far (p := ⟨gb873, _, none⟩) NB856_873.out _).trans (((cell_far (p := ⟨gb873, _, none⟩) NB856_873.out _).trans (hHeld.2.2.2.1)))), ((cell_far (p := ⟨gb873, _, none⟩) NB857_873.out _).trans (((cell_far (p := ⟨gb873, _, none⟩) NB857_873.out _).trans (hHeld.2.2.2.2.1)))), ((cell_far (p := ⟨gb873, _, none⟩) NB857_873.out _).trans (((cell_far (p := ⟨gb873, _, none⟩) NB857_873.out _).trans (hHeld.2.2.2.2.2.1)))), ((cell_far (p := ⟨gb873, _, none⟩) NB857_873.out _).trans (((cell_far (p := ⟨gb873, _, none⟩) NB857_873.out _).trans (hHeld.2.2.2.2.2.2.1)))), ((cell_far (p := ⟨gb873, _, none⟩) NB857_873.out _).trans (((cell_far (p := ⟨gb873, _, none⟩) NB857_873.out _).trans (hHeld.2.2.2.2.2.2.2))))⟩ (fun hHeld => ?_)
 clear hK K
 refine one_ (i := 15) (N := none) #[true, true, true, true, true, true, true, true, true, true, true, true, true, true, true, true] rfl rfl (one_of HT_.out (by kernel_rfl)) (by decide) (fun K hK => ?_)
 have hs37 : w34.cell? ⟨gb874, 0, none⟩ = some (.int .i64 0) := zc BK874 0
 have hfs37 := blk_frozen BK874.out 0
 have hns37_0 := NB856_874.out
 have hns37_1 := NB857_874.out
 have hns37_2 := NB858_874.out
 have hns37_3 := NB865_874.out
 have hns37_4 := NB866_874.out
 have hns37_5 := NB873_874.out
 have hms37_0 := NB874_856.out
 have hms37_1 := NB874_857.out
 have hms37_2 := NB874_858.out
 have hms37_3 := NB874_865.out
 have hms37_4 := NB874_866.out
 have hms37_5 := NB874_873.out
 have hs38 : w34.cell? ⟨gb874, 1, none⟩ = some (.int .i64 0) := zc BK874 1
 have hfs38 := blk_frozen BK874.out 1
 have hns38_0 := NB856_874.out
 have hns38_1 := NB857_874.out
 have hns38_2 := NB858_874.out
 have hns38_3 := NB865_874.out
 have hns38_4 := NB866_874.out
 have hns38_5 := NB873_874.out
 have hms38_0 := NB874_856.out
 have hms38_1 := NB874_857.out
 have hms38_2 := NB874_858.out
 have hms38_3 := NB874_865.out
 have hms38_4 := NB874_866.out
 have hms38_5 := NB874_873.out
 refine skip_ (w1 := ?_) (by rfl) rfl ?_ ?_
 rotate_left
 ·
  go_simp
  rfl
 refine hK.out _ _ ⟨((cell_far (p := ⟨gb874, _, none⟩) NB856_874.out _).trans (((cell_far (p := ⟨gb874, _, none⟩) NB856_874.out _).trans (hHeld.1)))), ((cell_far (p := ⟨gb874, _, none⟩) NB856_874.out _).trans (((cell_far (p := ⟨gb874, _, none⟩) NB856_874.out _).trans (hHeld.2.1)))), ((cell_far (p := ⟨gb874, _, none⟩) NB856_874.out _).trans (((cell_far (p := ⟨gb874, _, none⟩) NB856_874.out _).trans (hHeld.2.2.1)))), ((cell_far (p := ⟨gb874, _, none⟩) NB856_874.out _).trans (((cell_far (p := ⟨gb874, _, none⟩) NB856_874.out _).trans (hHeld.2.2.2.1)))), ((cell_far (p := ⟨gb874, _, none⟩) NB857_874.out _).trans (((cell_far (p := ⟨gb874, _, none⟩) NB857_874.out _).trans (hHeld.2.2.2.2.1)))), ((cell_far (p := ⟨gb874, _, none⟩) NB857_874.out _).trans (((cell_far (p := ⟨gb874, _, none⟩) NB857_874.out _).trans (hHeld.2.2.2.2.2.1)))), ((cell_far (p := ⟨gb874, _, none⟩) NB857_874.out _).trans (((cell_far (p := ⟨gb874, _, none⟩) NB857_874.out _).trans (hHeld.2.2.2.2.2.2.1)))), ((cell_far (p := ⟨gb874, _, none⟩) NB857_874.out _).trans (((cell_far (p := ⟨gb874, _, none⟩) NB857_874.out _).trans (hHeld.2.2.2.2.2.2.2))))⟩ (fun hHeld => ?_)
 clear hK K
 refine done_ (done_of HT_.out (by kernel_rfl)) ?_
 try go_wp2
 have n0_ : Aside0 (((((w34.setCell ⟨gb873, 0, none⟩ (.int .i64 t867)).setCell ⟨gb873, 1, none⟩ (.int .i64 t868)).setCell ⟨gb874, 0, none⟩ (.int .i64 t870)).setCell ⟨gb874, 1, none⟩ (.int .i64 t871)).heap[gb856]? = some (.cells #[.int .i64 a1_0, .int .i64 a1_1, .int .i64 a1_2, .int .i64 a1_3] 29 (0, 0))) := ⟨zq5 BK856⟩
 have n1_ : Aside0 (((((w34.setCell ⟨gb873, 0, none⟩ (.int .i64 t867)).setCell ⟨gb873, 1, none⟩ (.int .i64 t868)).setCell ⟨gb874, 0, none⟩ (.int .i64 t870)).setCell ⟨gb874, 1, none⟩ (.int .i64 t871)).heap[gb857]? = some (.cells #[.int .i64 a2_0, .int .i64 a2_1, .int .i64 a2_2, .int .i64 a2_3] 29 (0, 0))) := ⟨zq5 BK857⟩
 have n2_ : Aside0 (((((w34.setCell ⟨gb873, 0, none⟩ (.int .i64 t867)).setCell ⟨gb873, 1, none⟩ (.int .i64 t868)).setCell ⟨gb874, 0, none⟩ (.int .i64 t870)).setCell ⟨gb874, 1, none⟩ (.int .i64 t871)).heap[gb858]? = some (.cells #[.int .i64 0, .int .i64 0, .int .i64 0, .int .i64 0] 29 (0, 0))) := ⟨zq5 BK858⟩
 have n3_ : Aside0 (((((w34.setCell ⟨gb873, 0, none⟩ (.int .i64 t867)).setCell ⟨gb873, 1, none⟩ (.int .i64 t868)).setCell ⟨gb874, 0, none⟩ (.int .i64 t870)).setCell ⟨gb874, 1, none⟩ (.int .i64 t871)).heap[gb865]? = some (.cells #[.int .i64 t859, .int .i64 t860] 27 (0, 0))) := ⟨zq5 BK865⟩
 have n4_ : Aside0 (((((w34.setCell ⟨gb873, 0, none⟩ (.int .i64 t867)).setCell ⟨gb873, 1, none⟩ (.int .i64 t868)).setCell ⟨gb874, 0, none⟩ (.int .i64 t870)).setCell ⟨gb874, 1, none⟩ (.int .i64 t871)).heap[gb866]? = some (.cells #[.int .i64 t862, .int .i64 t863] 27 (0, 0))) := ⟨zq5 BK866⟩
 have n5_ : Aside0 (((((w34.setCell ⟨gb873, 0, none⟩ (.int .i64 t867)).setCell ⟨gb873, 1, none⟩ (.int .i64 t868)).setCell ⟨gb874, 0, none⟩ (.int .i64 t870)).setCell ⟨gb874, 1, none⟩ (.int .i64 t871)).heap[gb873]? = some (.cells #[.int .i64 t867, .int .i64 t868] 27 (0, 0))) := ⟨by (with_reducible repeat (first | refine blk_drewN ?_ _ | refine blk_drew ?_ | refine blk_alloc ?_ _)); refine blk_far ?_ NB873_874.out _; (with_reducible repeat (first | refine blk_drewN ?_ _ | refine blk_drew ?_ | refine blk_alloc ?_ _)); refine blk_far ?_ NB873_874.out _; (with_reducible repeat (first | refine blk_drewN ?_ _ | refine blk_drew ?_ | refine blk_alloc ?_ _)); refine blk_put (cs := #[.int .i64 t867, .int .i64 0]) ?_ 1 _ rfl; (with_reducible repeat (first | refine blk_drewN ?_ _ | refine blk_drew ?_ | refine blk_alloc ?_ _)); refine blk_put (cs := #[.int .i64 0, .int .i64 0]) ?_ 0 _ rfl; (with_reducible repeat (first | refine blk_drewN ?_ _ | refine blk_drew ?_ | refine blk_alloc ?_ _)); exact BK873.out⟩
 have n6_ : Aside0 (((((w34.setCell ⟨gb873, 0, none⟩ (.int .i64 t867)).setCell ⟨gb873, 1, none⟩ (.int .i64 t868)).setCell ⟨gb874, 0, none⟩ (.int .i64 t870)).setCell ⟨gb874, 1, none⟩ (.int .i64 t871)).heap[gb874]? = some (.cells #[.int .i64 t870, .int .i64 t871] 27 (0, 0))) := ⟨by (with_reducible repeat (first | refine blk_drewN ?_ _ | refine blk_drew ?_ | refine blk_alloc ?_ _)); refine blk_put (cs := #[.int .i64 t870, .int .i64 0]) ?_ 1 _ rfl; (with_reducible repeat (first | refine blk_drewN ?_ _ | refine blk_drew ?_ | refine blk_alloc ?_ _)); refine blk_put (cs := #[.int .i64 0, .int .i64 0]) ?_ 0 _ rfl; (with_reducible repeat (first | refine blk_drewN ?_ _ | refine blk_drew ?_ | refine blk_alloc ?_ _)); refine blk_far ?_ NB874_873.out _; (with_reducible repeat (first | refine blk_drewN ?_ _ | refine blk_drew ?_ | refine blk_alloc ?_ _)); refine blk_far ?_ NB874_873.out _; (with_reducible repeat (first | refine blk_drewN ?_ _ | refine blk_drew ?_ | refine blk_alloc ?_ _)); exact BK874.out⟩
 have n7_ : Aside0 (IsS57 w0 ((((w34.setCell ⟨gb873, 0, none⟩ (.int .i64 t867)).setCell ⟨gb873, 1, none⟩ (.int .i64 t868)).setCell ⟨gb874, 0, none⟩ (.int .i64 t870)).setCell ⟨gb874, 1, none⟩ (.int .i64 t871)) g t872) := ⟨(z68_3 HI0)⟩
 have n8_ : Aside0 (KeepBut w ((((w34.setCell ⟨gb873, 0, none⟩ (.int .i64 t867)).setCell ⟨gb873, 1, none⟩ (.int .i64 t868)).setCell ⟨gb874, 0, none⟩ (.int .i64 t870)).setCell ⟨gb874, 1, none⟩ (.int .i64 t871)) g none) := ⟨(z68_4 HK)⟩
 have n9_ : Aside0 (Below w0.heap.size w0 ((((w34.setCell ⟨gb873, 0, none⟩ (.int .i64 t867)).setCell ⟨gb873, 1, none⟩ (.int .i64 t868)).setCell ⟨gb874, 0, none⟩ (.int .i64 t870)).setCell ⟨gb874, 1, none⟩ (.int .i64 t871))) := ⟨(z68_5 HB)⟩
 (try clear BK856)
 (try clear BK857)
 (try clear BK858)
 (try clear BK865)
 (try clear BK866)
 (try clear BK873)
 (try clear BK874)
 (try clear HI0)
 (try clear HK)
 (try clear HB)
 generalize ((((w34.setCell ⟨gb873, 0, none⟩ (.int .i64 t867)).setCell ⟨gb873, 1, none⟩ (.int .i64 t868)).setCell ⟨gb874, 0, none⟩ (.int .i64 t870)).setCell ⟨gb874, 1, none⟩ (.int .i64 t871)) = w39 at n0_ n1_ n2_ n3_ n4_ n5_ n6_ n7_ n8_ n9_ ⊢
 have BK856 := n0_; have BK857 := n1_; have BK858 := n2_; have BK865 := n3_; have BK866 := n4_; have BK873 := n5_; have BK874 := n6_; have HI0 := n7_; have HK := n8_; have HB := n9_
 clear n0_ n1_ n2_ n3_ n4_ n5_ n6_ n7_ n8_ n9_
 replace BK856 := Aside0.mk (blk_drew BK856.out); replace BK857 := Aside0.mk (blk_drew BK857.out); replace BK858 := Aside0.mk (blk_drew BK858.out); replace BK865 := Aside0.mk (blk_drew BK865.out); replace BK866 := Aside0.mk (blk_drew BK866.out); replace BK873 := Aside0.mk (blk_drew BK873.out); replace BK874 := Aside0.mk (blk_drew BK874.out); replace HI0 := Aside0.mk (IsS57.drew HI0.out); replace HK := Aside0.mk (keep_drew HK.out); replace HB := Aside0.mk (below_drew1 HB.out)
 refine start_ (n := 17) (S := fun w' => w'.cell? ⟨gb865, 0, none⟩ = some (.int .i64 t859) ∧ w'.cell? ⟨gb865, 1, none⟩ = some (.int .i64 t860) ∧ w'.cell? ⟨gb866, 0, none⟩ = some (.int .i64 t862) ∧ w'.cell? ⟨gb866, 1, none⟩ = some (.int .i64 t863) ∧ w'.cell? ⟨gb873, 0, none⟩ = some (.int .i64 t867) ∧ w'.cell? ⟨gb873, 1, none⟩ = some (.int .i64 t868) ∧ w'.cell? ⟨gb874, 0, none⟩ = some (.int .i64 t870) ∧ w'.cell? ⟨gb874, 1, none⟩ = some (.int .i64 t871)) (ds := []) #[false, false, false, false, false, false, false, false, false, false, false, false, false, false, false, false, false] (by kernel_rfl) rfl rfl ⟨zc BK865 0, zc BK865 1, zc BK866 0, zc BK866 1, zc BK873 0, zc BK873 1, zc BK874 0, zc BK874 1⟩ (fun hHeld => ?_); refine with_tabW impl_reckoner_multiply.tab3 impl_reckoner_multiply.bits3 (fun HT_ HW_ => ?_)
 generalize w39.drew = w40 at BK856 BK857 BK858 BK865 BK866 BK873 BK874 HI0 HK HB hHeld ⊢
 refine take_ (i := 0) (N := some 35) (v := ?_) (a' := ?_) #[true, false, false, false, false, false, false, false, false, false, false, false, false, false, false, false, false] rfl rfl (take_ofW HT_.out HW_.out (by kernel_rfl)) (fun _ _ _ h => h) (Or.inl ⟨by rfl, ?_⟩) hHeld ?_ ?_
 rotate_left
 ·
  rintro w' ⟨s0, s1, s2, s3, s4, s5, s6, s7⟩
  go_simp
  with_reducible rfl
 rotate_left
 ·
  simp only [Act.put, List.setIfInBounds_toArray, List.set_cons_zero, List.set_cons_succ, i64_w, i32_w]
  rfl
 refine take_ (i := 1) (N := some 36) (v := ?_) (a' := ?_) #[true, true, false, false, false, false, false, false, false, false, false, false, false, false, false, false, false] rfl rfl (take_ofW HT_.out HW_.out (by kernel_rfl)) (fun _ _ _ h => h) (Or.inl ⟨by rfl, ?_⟩) hHeld ?_ ?_
 rotate_left
 ·
  rintro w' ⟨s0, s1, s2, s3, s4, s5, s6, s7⟩
  go_simp
  with_reducible rfl
 rotate_left
 ·
  simp only [Act.put, List.setIfInBounds_toArray, List.set_cons_zero, List.set_cons_succ, i64_w, i32_w]
  rfl
 refine take_ (i := 3) (N := some 38) (v := ?_) (a' := ?_) #[true, true, false, true, false, false, false, false, false, false, false, false, false, false, false, false, false] rfl rfl (take_ofW HT_.out HW_.out (by kernel_rfl)) (fun _ _ _ h => h) (Or.inl ⟨by rfl, ?_⟩) hHeld ?_ ?_
 rotate_left
 ·
  rintro w' ⟨s0, s1, s2, s3, s4, s5, s6, s7⟩
  go_simp
  with_reducible rfl
 rotate_left
 ·
  simp only [Act.put, List.setIfInBounds_toArray, List.set_cons_zero, List.set_cons_succ, i64_w, i32_w]
  rfl
 refine take_ (i := 4) (N := some 39) (v := ?_) (a' := ?_) #[true, true, false, true, true, false, false, false, false, false, false, false, false, false, false, false, false] rfl rfl (take_ofW HT_.out HW_.out (by kernel_rfl)) (fun _ _ _ h => h) (Or.inl ⟨by rfl, ?_⟩) hHeld ?_ ?_
 rotate_left
 ·
  rintro w' ⟨s0, s1, s2, s3, s4, s5, s6, s7⟩
  go_simp
  with_reducible rfl
 rotate_left
 ·
  simp only [Act.put, List.setIfInBounds_toArray, List.set_cons_zero, List.set_cons_succ, i64_w, i32_w]
  rfl
 refine take_ (i := 7) (N := some 42) (v := ?_) (a' := ?_) #[true, true, false, true, true, false, false, true, false, false, false, false, false, false, false, false, false] rfl rfl (take_ofW HT_.out HW_.out (by kernel_rfl)) (fun _ _ _ h => h) (Or.inl ⟨by rfl, ?_⟩) hHeld ?_ ?_
 rotate_left
 ·
  rintro w' ⟨s0, s1, s2, s3, s4, s5, s6, s7⟩
  go_simp
  with_reducible rfl
 rotate_left
 ·
  simp only [Act.put, List.setIfInBounds_toArray, List.set_cons_zero, List.set_cons_succ, i64_w, i32_w]
  rfl
 refine take_ (i := 8) (N := some 43) (v := ?_) (a' := ?_) #[true, true, false, true, true, false, false, true, true, false, false, false, false, false, false, false, false] rfl rfl (take_ofW HT_.out HW_.out (by kernel_rfl)) (fun _ _ _ h => h) (Or.inl ⟨by rfl, ?_⟩) hHeld ?_ ?_
 rotate_left
 ·
  rintro w' ⟨s0, s1, s2, s3, s4, s5, s6, s7⟩
  go_simp
  with_reducible rfl
 rotate_left
 ·
  simp only [Act.put, List.setIfInBounds_toArray, List.set_cons_zero, List.set_cons_succ, i64_w, i32_w]
  rfl
 refine take_ (i := 10) (N := some 45) (v := ?_) (a' := ?_) #[true, true, false, true, true, false, false, true, true, false, true, false, false, false, false, false, false] rfl rfl (take_ofW HT_.out HW_.out (by kernel_rfl)) (fun _ _ _ h => h) (Or.inl ⟨by rfl, ?_⟩) hHeld ?_ ?_
 rotate_left
 ·
  rintro w' ⟨s0, s1, s2, s3, s4, s5, s6, s7⟩
  go_simp
  with_reducible rfl
 rotate_left
 ·
  simp only [Act.put, List.setIfInBounds_toArray, List.set_cons_zero, List.set_cons_succ, i64_w, i32_w]
  rfl
 refine take_ (i := 11) (N := some 46) (v := ?_) (a' := ?_) #[true, true, false, true, true, false, false, true, true, false, true, true, false, false, false, false, false] rfl rfl (take_ofW HT_.out HW_.out (by kernel_rfl)) (fun _ _ _ h => h) (Or.inl ⟨by rfl, ?_⟩) hHeld ?_ ?_
 rotate_left
 ·
  rintro w' ⟨s0, s1, s2, s3, s4, s5, s6, s7⟩
  go_simp
  with_reducible rfl
 rotate_left
 ·
  simp only [Act.put, List.setIfInBounds_toArray, List.set_cons_zero, List.set_cons_succ, i64_w, i32_w]
  rfl
 refine one_ (i := 2) (N := some 37) #[true, true, true, true, true, false, false, true, true, false, true, true, false, false, false, false, false] rfl rfl (one_of HT_.out (by kernel_rfl)) (by decide) (fun K hK => ?_)
 refine goes_ Try.func51 (by kernel_rfl) rfl #[.agg #[.int .i64 t859, .int .i64 t860], .agg #[.int .i64 t862, .int .i64 t863]] (by rfl) rfl rfl zq6 ?_
 with_reducible refine (impl_lesser.calls k t859 t860 t862 t863 t875 t876 _ A8.out).mono ?_
 rintro e w41 ⟨rfl, hb⟩
 refine ⟨_, rfl, ?_⟩
 replace HI0 := Aside0.mk (IsS57.below (z68_3 HI0) hb); replace BK856 := Aside0.mk (zbb BK856 hb); replace BK857 := Aside0.mk (zbb BK857 hb); replace BK858 := Aside0.mk (zbb BK858 hb); replace BK865 := Aside0.mk (zbb BK865 hb); replace BK866 := Aside0.mk (zbb BK866 hb); replace BK873 := Aside0.mk (zbb BK873 hb); replace BK874 := Aside0.mk (zbb BK874 hb); replace HK := Aside0.mk (KeepBut.trans (z68_4 HK) (KeepBut.of_below hb g none) (.inl rfl)); replace HB := Aside0.mk (below_step (z68_5 HB) hb)
 (try clear hb)
 (try clear hb2)
 (try clear hk)
 (try clear hi)
 refine hK.out _ _ ⟨zc BK865 0, zc BK865 1, zc BK866 0, zc BK866 1, zc BK873 0, zc BK873 1, zc BK874 0, zc BK874 1⟩ (fun hHeld => ?_)
 clear hK K
 refine norm_ (a' := ?_) ?_ ?_
 rotate_left
 ·
  show Act.put _ (some 37) _ = _
  simp only [Act.put, List.setIfInBounds_toArray, List.set_cons_zero, List.set_cons_succ, i64_w, i32_w]; rfl
 refine one_ (i := 5) (N := some 40) #[true, true, true, true, true, true, false, true, true, false, true, true, false, false, false, false, false] rfl rfl (one_of HT_.out (by kernel_rfl)) (by decide) (fun K hK => ?_)
 refine goes_ Try.func51 (by kernel_rfl) rfl #[.agg #[.int .i64 t867, .int .i64 t868], .agg #[.int .i64 t870, .int .i64 t871]] (by rfl) rfl rfl zq6 ?_
 with_reducible refine (impl_lesser.calls k t867 t868 t870 t871 t877 t878 _ A9.out).mono ?_
 rintro e w42 ⟨rfl, hb⟩
 refine ⟨_, rfl, ?_⟩
 replace HI0 := Aside0.mk (IsS57.below (z68_3 HI0) hb); replace BK856 := Aside0.mk (zbb BK856 hb); replace BK857 := Aside0.mk (zbb BK857 hb); replace BK858 := Aside0.mk (zbb BK858 hb); replace BK865 := Aside0.mk (zbb BK865 hb); replace BK866 := Aside0.mk (zbb BK866 hb); replace BK873 := Aside0.mk (zbb BK873 hb); replace BK874 := Aside0.mk (zbb BK874 hb); replace HK := Aside0.mk (KeepBut.trans (z68_4 HK) (KeepBut.of_below hb g none) (.inl rfl)); replace HB := Aside0.mk (below_step (z68_5 HB) hb)
 (try clear hb)
 (try clear hb2)
 (try clear hk)
 (try clear hi)
 refine hK.out _ _ ⟨zc BK865 0, zc BK865 1, zc BK866 0, zc BK866 1, zc BK873 0, zc BK873 1, zc BK874 0, zc BK874 1⟩ (fun hHeld => ?_)
 clear hK K
 refine norm_ (a' := ?_) ?_ ?_
 rotate_left
 ·
  show Act.put _ (some 40) _ = _
  simp only [Act.put, List.setIfInBounds_toArray, List.set_cons_zero, List.set_cons_succ, i64_w, i32_w]; rfl
 refine one_ (i := 6) (N := some 41) #[true, true, true, true, true, true, true, true, true, false, true, true, false, false, false, false, false] rfl rfl (one_of HT_.out (by kernel_rfl)) (by decide) (fun K hK => ?_)
 refine goes_ Try.func51 (by kernel_rfl) rfl #[.agg #[.int .i64 t875, .int .i64 t876], .agg #[.int .i64 t877, .int .i64 t878]] (by rfl) rfl rfl zq6 ?_
 with_reducible refine (impl_lesser.calls k t875 t876 t877 t878 t879 t880 _ A10.out).mono ?_
 rintro e w43 ⟨rfl, hb⟩
 refine ⟨_, rfl, ?_⟩
 replace HI0 := Aside0.mk (IsS57.below (z68_3 HI0) hb); replace BK856 := Aside0.mk (zbb BK856 hb); replace BK857 := Aside0.mk (zbb BK857 hb); replace BK858 := Aside0.mk (zbb BK858 hb); replace BK865 := Aside0.mk (zbb BK865 hb); replace BK866 := Aside0.mk (zbb BK866 hb); replace BK873 := Aside0.mk (zbb BK873 hb); replace BK874 := Aside0.mk (zbb BK874 hb); replace HK := Aside0.mk (KeepBut.trans (z68_4 HK) (KeepBut.of_below hb g none) (.inl rfl)); replace HB := Aside0.mk (below_step (z68_5 HB) hb)
 (try clear hb)
 (try clear hb2)
 (try clear hk)
 (try clear hi)
 refine hK.out _ _ ⟨zc BK865 0, zc BK865 1, zc BK866 0, zc BK866 1, zc BK873 0, zc BK873 1, zc BK874 0, zc BK874 1⟩ (fun hHeld => ?_)
 clear hK K
 refine norm_ (a' := ?_) ?_ ?_
 rotate_left
 ·
  show Act.put _ (some 41) _ = _
  simp only [Act.put, List.setIfInBounds_toArray, List.set_cons_zero, List.set_cons_succ, i64_w, i32_w]; rfl
 refine one_ (i := 9) (N := some 44) #[true, true, true, true, true, true, true, true, true, true, true, true, false, false, false, false, false] rfl rfl (one_of HT_.out (by kernel_rfl)) (by decide) (fun K hK => ?_)
 refine goes_ Try.func52 (by kernel_rfl) rfl #[.agg #[.int .i64 t859, .int .i64 t860], .agg #[.int .i64 t862, .int .i64 t863]] (by rfl) rfl rfl zq6 ?_
 with_reducible refine (impl_greater.calls k t859 t860 t862 t863 t881 t882 _ A11.out).mono ?_
 rintro e w44 ⟨rfl, hb⟩
 refine ⟨_, rfl, ?_⟩
 replace HI0 := Aside0.mk (IsS57.below (z68_3 HI0) hb); replace BK856 := Aside0.mk (zbb BK856 hb); replace BK857 := Aside0.mk (zbb BK857 hb); replace BK858 := Aside0.mk (zbb BK858 hb); replace BK865 := Aside0.mk (zbb BK865 hb); replace BK866 := Aside0.mk (zbb BK866 hb); replace BK873 := Aside0.mk (zbb BK873 hb); replace BK874 := Aside0.mk (zbb BK874 hb); replace HK := Aside0.mk (KeepBut.trans (z68_4 HK) (KeepBut.of_below hb g none) (.inl rfl)); replace HB := Aside0.mk (below_step (z68_5 HB) hb)
 (try clear hb)
 (try clear hb2)
 (try clear hk)
 (try clear hi)
 refine hK.out _ _ ⟨zc BK865 0, zc BK865 1, zc BK866 0, zc BK866 1, zc BK873 0, zc BK873 1, zc BK874 0, zc BK874 1⟩ (fun hHeld => ?_)
 clear hK K
 refine norm_ (a' := ?_) ?_ ?_
 rotate_left
 ·
  show Act.put _ (some 44) _ = _
  simp only [Act.put, List.setIfInBounds_toArray, List.set_cons_zero, List.set_cons_succ, i64_w, i32_w]; rfl
 refine one_ (i := 12) (N := some 47) #[true, true, true, true, true, true, true, true, true, true, true, true, true, false, false, false, false] rfl rfl (one_of HT_.out (by kernel_rfl)) (by decide) (fun K hK => ?_)
 refine goes_ Try.func52 (by kernel_rfl) rfl #[.agg #[.int .i64 t867, .int .i64 t868], .agg #[.int .i64 t870, .int .i64 t871]] (by rfl) rfl rfl zq6 ?_
 with_reducible refine (impl_greater.calls k t867 t868 t870 t871 t883 t884 _ A12.out).mono ?_
 rintro e w45 ⟨rfl, hb⟩
 refine ⟨_, rfl, ?_⟩
 replace HI0 := Aside0.mk (IsS57.below (z68_3 HI0) hb); replace BK856 := Aside0.mk (zbb BK856 hb); replace BK857 := Aside0.mk (zbb BK857 hb); replace BK858 := Aside0.mk (zbb BK858 hb); replace BK865 := Aside0.mk (zbb BK865 hb); replace BK866 := Aside0.mk (zbb BK866 hb); replace BK873 := Aside0.mk (zbb BK873 hb); replace BK874 := Aside0.mk (zbb BK874 hb); replace HK := Aside0.mk (KeepBut.trans (z68_4 HK) (KeepBut.of_below hb g none) (.inl rfl)); replace HB := Aside0.mk (below_step (z68_5 HB) hb)
 (try clear hb)
 (try clear hb2)
 (try clear hk)
 (try clear hi)
 refine hK.out _ _ ⟨zc BK865 0, zc BK865 1, zc BK866 0, zc BK866 1, zc BK873 0, zc BK873 1, zc BK874 0, zc BK874 1⟩ (fun hHeld => ?_)
 clear hK K
 refine norm_ (a' := ?_) ?_ ?_
 rotate_left
 ·
  show Act.put _ (some 47) _ = _
  simp only [Act.put, List.setIfInBounds_toArray, List.set_cons_zero, List.set_cons_succ, i64_w, i32_w]; rfl
 refine one_ (i := 13) (N := some 48) #[true, true, true, true, true, true, true, true, true, true, true, true, true, true, false, false, false] rfl rfl (one_of HT_.out (by kernel_rfl)) (by decide) (fun K hK => ?_)
 refine goes_ Try.func52 (by kernel_rfl) rfl #[.agg #[.int .i64 t881, .int .i64 t882], .agg #[.int .i64 t883, .int .i64 t884]] (by rfl) rfl rfl zq6 ?_
 with_reducible refine (impl_greater.calls k t881 t882 t883 t884 t885 t886 _ A13.out).mono ?_
 rintro e w46 ⟨rfl, hb⟩
 refine ⟨_, rfl, ?_⟩
 replace HI0 := Aside0.mk (IsS57.below (z68_3 HI0) hb); replace BK856 := Aside0.mk (zbb BK856 hb); replace BK857 := Aside0.mk (zbb BK857 hb); replace BK858 := Aside0.mk (zbb BK858 hb); replace BK865 := Aside0.mk (zbb BK865 hb); replace BK866 := Aside0.mk (zbb BK866 hb); replace BK873 := Aside0.mk (zbb BK873 hb); replace BK874 := Aside0.mk (zbb BK874 hb); replace HK := Aside0.mk (KeepBut.trans (z68_4 HK) (KeepBut.of_below hb g none) (.inl rfl)); replace HB := Aside0.mk (below_step (z68_5 HB) hb)
 (try clear hb)
 (try clear hb2)
 (try clear hk)
 (try clear hi)
 refine hK.out _ _ ⟨zc BK865 0, zc BK865 1, zc BK866 0, zc BK866 1, zc BK873 0, zc BK873 1, zc BK874 0, zc BK874 1⟩ (fun hHeld => ?_)
 clear hK K
 refine norm_ (a' := ?_) ?_ ?_
 rotate_left
 ·
  show Act.put _ (some 48) _ = _
  simp only [Act.put, List.setIfInBounds_toArray, List.set_cons_zero, List.set_cons_succ, i64_w, i32_w]; rfl
 refine zp (i := 14) (N := some 49) #[true, true, true, true, true, true, true, true, true, true, true, true, true, true, true, false, false] (any_of HT_.out (by kernel_rfl)) ?_
 refine one_ (i := 15) (N := some 50) #[true, true, true, true, true, true, true, true, true, true, true, true, true, true, true, true, false] rfl rfl (one_of HT_.out (by kernel_rfl)) (by decide) (fun K hK => ?_)
 refine goes_ Try.func58 (by kernel_rfl) rfl #[.agg #[.int .i64 t879, .int .i64 t880, .int .i64 t885, .int .i64 t886], .int .i64 16] (by rfl) rfl rfl zq6 ?_
 with_reducible refine (impl_roundOut.calls k t879 t880 t885 t886 16 t887 t888 t889 t890 _ A14.out).mono ?_
 rintro e w47 ⟨rfl, hb⟩
 refine ⟨_, rfl, ?_⟩
 replace HI0 := Aside0.mk (IsS57.below (z68_3 HI0) hb); replace BK856 := Aside0.mk (zbb BK856 hb); replace BK857 := Aside0.mk (zbb BK857 hb); replace BK858 := Aside0.mk (zbb BK858 hb); replace BK865 := Aside0.mk (zbb BK865 hb); replace BK866 := Aside0.mk (zbb BK866 hb); replace BK873 := Aside0.mk (zbb BK873 hb); replace BK874 := Aside0.mk (zbb BK874 hb); replace HK := Aside0.mk (KeepBut.trans (z68_4 HK) (KeepBut.of_below hb g none) (.inl rfl)); replace HB := Aside0.mk (below_step (z68_5 HB) hb)
 (try clear hb)
 (try clear hb2)
 (try clear hk)
 (try clear hi)
 refine hK.out _ _ ⟨zc BK865 0, zc BK865 1, zc BK866 0, zc BK866 1, zc BK873 0, zc BK873 1, zc BK874 0, zc BK874 1⟩ (fun hHeld => ?_)
 clear hK K
 refine norm_ (a' := ?_) ?_ ?_
 rotate_left
 ·
  show Act.put _ (some 50) _ = _
  simp only [Act.put, List.setIfInBounds_toArray, List.set_cons_zero, List.set_cons_succ, i64_w, i32_w]; rfl
 refine one_ (i := 16) (N := none) #[true, true, true, true, true, true, true, true, true, true, true, true, true, true, true, true, true] rfl rfl (one_of HT_.out (by kernel_rfl)) (by decide) (fun K hK => ?_)
 have hs48 : w47.cell? ⟨gb858, 0, none⟩ = some (.int .i64 0) := zc BK858 0
 have hfs48 := blk_frozen BK858.out 0
 have hns48_0 := NB856_858.out
 have hns48_1 := NB857_858.out
 have hns48_3 := NB865_858.out
 have hns48_4 := NB866_858.out
 have hns48_5 := NB873_858.out
 have hns48_6 := NB874_858.out
 have hms48_0 := NB858_856.out
 have hms48_1 := NB858_857.out
 have hms48_3 := NB858_865.out
 have hms48_4 := NB858_866.out
 have hms48_5 := NB858_873.out
 have hms48_6 := NB858_874.out
 have hs49 : w47.cell? ⟨gb858, 1, none⟩ = some (.int .i64 0) := zc BK858 1
 have hfs49 := blk_frozen BK858.out 1
 have hns49_0 := NB856_858.out
 have hns49_1 := NB857_858.out
 have hns49_3 := NB865_858.out
 have hns49_4 := NB866_858.out
 have hns49_5 := NB873_858.out
 have hns49_6 := NB874_858.out
 have hms49_0 := NB858_856.out
 have hms49_1 := NB858_857.out
 have hms49_3 := NB858_865.out
 have hms49_4 := NB858_866.out
 have hms49_5 := NB858_873.out
 have hms49_6 := NB858_874.out
 have hs50 : w47.cell? ⟨gb858, 2, none⟩ = some (.int .i64 0) := zc BK858 2
 have hfs50 := blk_frozen BK858.out 2
 have hns50_0 := NB856_858.out
 have hns50_1 := NB857_858.out
 have hns50_3 := NB865_858.out
 have hns50_4 := NB866_858.out
 have hns50_5 := NB873_858.out
 have hns50_6 := NB874_858.out
 have hms50_0 := NB858_856.out
 have hms50_1 := NB858_857.out
 have hms50_3 := NB858_865.out
 have hms50_4 := NB858_866.out
 have hms50_5 := NB858_873.out
 have hms50_6 := NB858_874.out
 have hs51 : w47.cell? ⟨gb858, 3, none⟩ = some (.int .i64 0) := zc BK858 3
 have hfs51 := blk_frozen BK858.out 3
 have hns51_0 := NB856_858.out
 have hns51_1 := NB857_858.out
 have hns51_3 := NB865_858.out
 have hns51_4 := NB866_858.out
 have hns51_5 := NB873_858.out
 have hns51_6 := NB874_858.out
 have hms51_0 := NB858_856.out
 have hms51_1 := NB858_857.out
 have hms51_3 := NB858_865.out
 have hms51_4 := NB858_866.out
 have hms51_5 := NB858_873.out
 have hms51_6 := NB858_874.out
 refine skip_ (w1 := ?_) (by rfl) rfl ?_ ?_
 rotate_left
 ·
  go_simp
  rfl
 refine hK.out _ _ ⟨((cell_far (p := ⟨gb858, _, none⟩) NB865_858.out _).trans (((cell_far (p := ⟨gb858, _, none⟩) NB865_858.out _).trans (((cell_far (p := ⟨gb858, _, none⟩) NB865_858.out _).trans (((cell_far (p := ⟨gb858, _, none⟩) NB865_858.out _).trans (hHeld.1)))))))), ((cell_far (p := ⟨gb858, _, none⟩) NB865_858.out _).trans (((cell_far (p := ⟨gb858, _, none⟩) NB865_858.out _).trans (((cell_far (p := ⟨gb858, _, none⟩) NB865_858.out _).trans (((cell_far (p := ⟨gb858, _, none⟩) NB865_858.out _).trans (hHeld.2.1)))))))), ((cell_far (p := ⟨gb858, _, none⟩) NB866_858.out _).trans (((cell_far (p := ⟨gb858, _, none⟩) NB866_858.out _).trans (((cell_far (p := ⟨gb858, _, none⟩) NB866_858.out _).trans (((cell_far (p := ⟨gb858, _, none⟩) NB866_858.out _).trans (hHeld.2.2.1)))))))), ((cell_far (p := ⟨gb858, _, none⟩) NB866_858.out _).trans (((cell_far (p := ⟨gb858, _, none⟩) NB866_858.out _).trans (((cell_far (p := ⟨gb858, _, none⟩) NB866_858.out _).trans (((cell_far (p := ⟨gb858, _, none⟩) NB866_858.out _).trans (hHeld.2.2.2.1)))))))), ((cell_far (p := ⟨gb858, _, none⟩) NB873_858.out _).trans (((cell_far (p := ⟨gb858, _, none⟩) NB873_858.out _).trans (((cell_far (p := ⟨gb858, _, none⟩) NB873_858.out _).trans (((cell_far (p := ⟨gb858, _, none⟩) NB873_858.out _).trans (hHeld.2.2.2.2.1)))))))), ((cell_far (p := ⟨gb858, _, none⟩) NB873_858.out _).trans (((cell_far (p := ⟨gb858, _, none⟩) NB873_858.out _).trans (((cell_far (p := ⟨gb858, _, none⟩) NB873_858.out _).trans (((cell_far (p := ⟨gb858, _, none⟩) NB873_858.out _).trans (hHeld.2.2.2.2.2.1)))))))), ((cell_far (p := ⟨gb858, _, none⟩) NB874_858.out _).trans (((cell_far (p := ⟨gb858, _, none⟩) NB874_858.out _).trans (((cell_far (p := ⟨gb858, _, none⟩) NB874_858.out _).trans (((cell_far (p := ⟨gb858, _, none⟩) NB874_858.out _).trans (hHeld.2.2.2.2.2.2.1)))))))), ((cell_far (p := ⟨gb858, _, none⟩) NB874_858.out _).trans (((cell_far (p := ⟨gb858, _, none⟩) NB874_858.out _).trans (((cell_far (p := ⟨gb858, _, none⟩) NB874_858.out _).trans (((cell_far (p := ⟨gb858, _, none⟩) NB874_858.out _).trans (hHeld.2.2.2.2.2.2.2))))))))⟩ (fun hHeld => ?_)
 clear hK K
 refine done_ (done_of HT_.out (by kernel_rfl)) ?_
 try go_wp2
 refine bodyPost_ret (results_cell_row rfl _ _ gb858 29 #[.int .i64 t887, .int .i64 t888, .int .i64 t889, .int .i64 t890] (0, 0) _ rfl (by (with_reducible repeat (first | refine blk_drewN ?_ _ | refine blk_drew ?_ | refine blk_alloc ?_ _)); refine blk_put (cs := #[.int .i64 t887, .int .i64 t888, .int .i64 t889, .int .i64 0]) ?_ 3 _ rfl; (with_reducible repeat (first | refine blk_drewN ?_ _ | refine blk_drew ?_ | refine blk_alloc ?_ _)); refine blk_put (cs := #[.int .i64 t887, .int .i64 t888, .int .i64 0, .int .i64 0]) ?_ 2 _ rfl; (with_reducible repeat (first | refine blk_drewN ?_ _ | refine blk_drew ?_ | refine blk_alloc ?_ _)); refine blk_put (cs := #[.int .i64 t887, .int .i64 0, .int .i64 0, .int .i64 0]) ?_ 1 _ rfl; (with_reducible repeat (first | refine blk_drewN ?_ _ | refine blk_drew ?_ | refine blk_alloc ?_ _)); refine blk_put (cs := #[.int .i64 0, .int .i64 0, .int .i64 0, .int .i64 0]) ?_ 0 _ rfl; (with_reducible repeat (first | refine blk_drewN ?_ _ | refine blk_drew ?_ | refine blk_alloc ?_ _)); exact BK858.out) Try.underlying29 rfl (by kernel_rfl)) rfl ?_
 exact ⟨by first | rfl | (simp [errW_none, errW_some] <;> rfl) | (simp [*, errW_none, errW_some] <;> rfl), (z68_3 HI0), (z68_5 HB), (z68_4 HK)⟩
end Go.Proofs.Ytinpcalgdiigiaa.PD
