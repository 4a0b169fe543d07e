-- By wip/mk/drv.py
import Derived.Test.YtinpcalgdiigiaaQPowealPDx0
import Derived.Test.YtinpcalgdiigiaaQPowealPDx1
import Derived.Test.YtinpcalgdiigiaaQPowealPDx4
import Derived.Test.YtinpcalgdiigiaaQPowealPDx39
namespace Go.Proofs.Ytinpcalgdiigiaa.PD
open Go.RowKit Go.Proofs.YtinpcalgdiigiaaW.PrintWords Go.Proofs.YtinpcalgdiigiaaW.PrintLast Go.Proofs.YtinpcalgdiigiaaW.PrintMore
attribute [local go_sem] max2_int min2_int max_two min_two max_three min_three max_four min_four
set_option linter.unusedVariables false
set_option linter.unusedSimpArgs false
/-! ### impl_productOf: function 114 -/
def impl_productOf.T1 : Bool × List (List Nat × List Nat) := (true, [([], []), ([0], [0]), ([], []), ([2], [2]), ([1, 3], [1, 3]), ([], []), ([5], [5]), ([], []), ([7], [7]), ([6, 8], [6, 8]), ([4, 9, 4], [4, 9]), ([10], [10]), ([10], [10]), ([11, 10, 0, 1, 2, 3, 4, 5, 6, 7, 8, 9, 10, 11, 12], [11]), ([12, 13, 0, 1, 2, 3, 4, 5, 6, 7, 8, 9, 10, 11, 12, 13], [12])])
def impl_productOf.B1 : List Nat := [0, 1, 0, 4, 15, 0, 32, 0, 128, 480, 1023, 2047, 2047, 8191, 16383]
theorem impl_productOf.tab1 : rtab .any (opsOf Try.f114 1) = impl_productOf.T1 := by kernel_rfl
theorem impl_productOf.bits1 : waitsOk impl_productOf.T1.2 impl_productOf.B1 = true := by kernel_rfl
set_option maxHeartbeats 8000000 in
set_option maxRecDepth 100000 in
theorem impl_productOf.calls (k : Nat) (a0_0 : Int) (a0_1 : Int) (a1_0 : Int) (a1_1 : Int) (r1 : Int) (r2 : Int) (r3 : Bool) (w : World) (h : impl_productOf.f k a0_0 a0_1 a1_0 a1_1 = some (r1, r2, r3)) :
  Calls Try.prog 114 #[.agg #[.int .i64 a0_0, .int .i64 a0_1], .agg #[.int .i64 a1_0, .int .i64 a1_1]] w fun e w' => e = .returned (.tuple #[.agg #[.int .i64 r1, .int .i64 r2], .bool r3]) ∧ Below w.heap.size w w' := by
 have hu27 := Try.underlying27
 have HB := Aside0.mk (Below.refl w.heap.size w)
 have H : ((impl_timesWide.f a0_0 a1_0).bind fun bt841 => ((impl_wide_fit.f k bt841.1 bt841.2.1 bt841.2.2 (wrap64 (a0_1 + a1_1))).bind fun bt844 => (some (bt844.1, bt844.2.1, bt844.2.2)))) = some (r1, r2, r3) := h
 clear h
 replace H := Option.bind_eq_some_iff.mp H
 obtain ⟨⟨t841, t842, t843⟩, A30, H⟩ := H
 replace H : ((impl_wide_fit.f k t841 t842 t843 (wrap64 (a0_1 + a1_1))).bind fun bt844 => (some (bt844.1, bt844.2.1, bt844.2.2))) = some (r1, r2, r3) := H
 have A3 := Aside0.mk A30
 clear A30
 replace H := Option.bind_eq_some_iff.mp H
 obtain ⟨⟨t844, t845, t846⟩, A40, H⟩ := H
 replace H : (some (t844, t845, t846)) = some (r1, r2, r3) := H
 have A4 := Aside0.mk A40
 clear A40
 simp only [Option.some.injEq, Prod.mk.injEq] at H
 obtain ⟨rfl, rfl, rfl⟩ := H
 go_enter Try.func114, Try.ntmps114
 try go_wp2_with (first | ((with_reducible refine gate_dst (N := 2) rfl ?_); refine zbe (N := 2) (cs := #[.int .i64 a0_0, .int .i64 a0_1]) (t := 27) ?_; intro gb838 hg w5 hbox hb; have BK838 := Aside0.mk (hbox); have GW838 := Aside0.mk (zge (zb0 HB) hg); have GE838 := GW838; replace HB := Aside0.mk (below_step (zb0 HB) hb); clear hb hbox hg) | ((with_reducible refine gate_dst (N := 3) rfl ?_); refine zbe (N := 3) (cs := #[.int .i64 a1_0, .int .i64 a1_1]) (t := 27) ?_; intro gb839 hg w6 hbox hb; have BK839 := Aside0.mk (hbox); have GW839 := Aside0.mk (zge (zb1 HB) hg); have GE839 := GW839; have NB838_839 := Aside0.mk (zlt BK838 hg); have NB839_838 := Aside0.mk (zgt BK838 hg); replace BK838 := Aside0.mk (zbb BK838 hb); replace HB := Aside0.mk (below_step (zb1 HB) hb); clear hb hbox hg) | ((with_reducible refine gate_dst (N := 4) rfl ?_); refine zbe (N := 4) (cs := #[.int .i64 0, .int .i64 0]) (t := 27) ?_; intro gb840 hg w7 hbox hb; have BK840 := Aside0.mk (hbox); have GW840 := Aside0.mk (zge (zb1 HB) hg); have GE840 := GW840; have NB838_840 := Aside0.mk (zlt BK838 hg); have NB840_838 := Aside0.mk (zgt BK838 hg); have NB839_840 := Aside0.mk (zlt BK839 hg); have NB840_839 := Aside0.mk (zgt BK839 hg); replace BK838 := Aside0.mk (zbb BK838 hb); replace BK839 := Aside0.mk (zbb BK839 hb); replace HB := Aside0.mk (below_step (zb1 HB) hb); clear hb hbox hg))
 replace BK838 := Aside0.mk (blk_drew BK838.out); replace BK839 := Aside0.mk (blk_drew BK839.out); replace BK840 := Aside0.mk (blk_drew BK840.out); replace HB := Aside0.mk (below_drew1 HB.out)
 refine start_ (n := 15) (S := fun w' => w'.cell? ⟨gb838, 0, none⟩ = some (.int .i64 a0_0) ∧ w'.cell? ⟨gb838, 1, none⟩ = some (.int .i64 a0_1) ∧ w'.cell? ⟨gb839, 0, none⟩ = some (.int .i64 a1_0) ∧ w'.cell? ⟨gb839, 1, none⟩ = some (.int .i64 a1_1)) (ds := []) #[false, false, false, false, false, false, false, false, false, false, false, false, false, false, false] (by kernel_rfl) rfl rfl ⟨zc BK838 0, zc BK838 1, zc BK839 0, zc BK839 1⟩ (fun hHeld => ?_); refine with_tabW impl_productOf.tab1 impl_productOf.bits1 (fun HT_ HW_ => ?_)
 generalize w7.drew = w8 at BK838 BK839 BK840 HB hHeld ⊢
 refine zp (i := 0) (N := some 6) #[true, false, false, false, false, false, false, false, false, false, false, false, false, false, false] (any_of HT_.out (by kernel_rfl)) ?_
 refine zp (i := 2) (N := some 8) #[true, false, true, false, false, false, false, false, false, false, false, false, false, false, false] (any_of HT_.out (by kernel_rfl)) ?_
 refine zp (i := 5) (N := some 11) #[true, false, true, false, false, true, false, false, false, false, false, false, false, false, false] (any_of HT_.out (by kernel_rfl)) ?_
 refine zp (i := 7) (N := some 13) #[true, false, true, false, false, true, false, true, false, false, false, false, false, false, false] (any_of HT_.out (by kernel_rfl)) ?_
 refine take_ (i := 1) (N := some 7) (v := ?_) (a' := ?_) #[true, true, true, false, false, true, false, true, false, false, false, false, false, false, false] rfl rfl (take_ofW HT_.out HW_.out (by kernel_rfl)) (fun _ _ _ h => h) (Or.inl ⟨by rfl, ?_⟩) hHeld ?_ ?_
 rotate_left
 ·
  rintro w' ⟨s0, s1, s2, s3⟩
  go_simp
  with_reducible rfl
 rotate_left
 ·
  simp only [Act.put, List.setIfInBounds_toArray, List.set_cons_zero, List.set_cons_succ, i64_w, i32_w]
  rfl
 refine take_ (i := 3) (N := some 9) (v := ?_) (a' := ?_) #[true, true, true, true, false, true, false, true, false, false, false, false, false, false, false] rfl rfl (take_ofW HT_.out HW_.out (by kernel_rfl)) (fun _ _ _ h => h) (Or.inl ⟨by rfl, ?_⟩) hHeld ?_ ?_
 rotate_left
 ·
  rintro w' ⟨s0, s1, s2, s3⟩
  go_simp
  with_reducible rfl
 rotate_left
 ·
  simp only [Act.put, List.setIfInBounds_toArray, List.set_cons_zero, List.set_cons_succ, i64_w, i32_w]
  rfl
 refine take_ (i := 6) (N := some 12) (v := ?_) (a' := ?_) #[true, true, true, true, false, true, true, true, false, false, false, false, false, false, false] rfl rfl (take_ofW HT_.out HW_.out (by kernel_rfl)) (fun _ _ _ h => h) (Or.inl ⟨by rfl, ?_⟩) hHeld ?_ ?_
 rotate_left
 ·
  rintro w' ⟨s0, s1, s2, s3⟩
  go_simp
  with_reducible rfl
 rotate_left
 ·
  simp only [Act.put, List.setIfInBounds_toArray, List.set_cons_zero, List.set_cons_succ, i64_w, i32_w]
  rfl
 refine take_ (i := 8) (N := some 14) (v := ?_) (a' := ?_) #[true, true, true, true, false, true, true, true, true, false, false, false, false, false, false] rfl rfl (take_ofW HT_.out HW_.out (by kernel_rfl)) (fun _ _ _ h => h) (Or.inl ⟨by rfl, ?_⟩) hHeld ?_ ?_
 rotate_left
 ·
  rintro w' ⟨s0, s1, s2, s3⟩
  go_simp
  with_reducible rfl
 rotate_left
 ·
  simp only [Act.put, List.setIfInBounds_toArray, List.set_cons_zero, List.set_cons_succ, i64_w, i32_w]
  rfl
 refine zp (i := 9) (N := some 15) #[true, true, true, true, false, true, true, true, true, true, false, false, false, false, false] (any_of HT_.out (by kernel_rfl)) ?_
 refine one_ (i := 4) (N := some 10) #[true, true, true, true, true, true, true, true, true, true, false, false, false, false, false] rfl rfl (one_of HT_.out (by kernel_rfl)) (by decide) (fun K hK => ?_)
 refine goes_ Try.func119 (by kernel_rfl) rfl #[.int .i64 a0_0, .int .i64 a1_0] (by rfl) rfl rfl zq6 ?_
 with_reducible refine (impl_timesWide.calls a0_0 a1_0 t841 t842 t843 _ A3.out).mono ?_
 rintro e w9 ⟨rfl, hb⟩
 refine ⟨_, rfl, ?_⟩
 replace BK838 := Aside0.mk (zbb BK838 hb); replace BK839 := Aside0.mk (zbb BK839 hb); replace BK840 := Aside0.mk (zbb BK840 hb); replace HB := Aside0.mk (below_step (zb1 HB) hb)
 (try clear hb)
 (try clear hb2)
 (try clear hk)
 (try clear hi)
 refine hK.out _ _ ⟨zc BK838 0, zc BK838 1, zc BK839 0, zc BK839 1⟩ (fun hHeld => ?_)
 clear hK K
 refine norm_ (a' := ?_) ?_ ?_
 rotate_left
 ·
  show Act.put _ (some 10) _ = _
  simp only [Act.put, List.setIfInBounds_toArray, List.set_cons_zero, List.set_cons_succ, i64_w, i32_w]; rfl
 refine one_ (i := 10) (N := some 16) #[true, true, true, true, true, true, true, true, true, true, true, false, false, false, false] rfl rfl (one_of HT_.out (by kernel_rfl)) (by decide) (fun K hK => ?_)
 refine goes_ Try.func89 (by kernel_rfl) rfl #[.agg #[.bool t841, .int .u64 t842, .int .u64 t843], .int .i64 (wrap64 (a0_1 + a1_1))] (by rfl) rfl rfl zq6 ?_
 with_reducible refine (impl_wide_fit.calls k t841 t842 t843 (wrap64 (a0_1 + a1_1)) t844 t845 t846 _ A4.out).mono ?_
 rintro e w10 ⟨rfl, hb⟩
 refine ⟨_, rfl, ?_⟩
 replace BK838 := Aside0.mk (zbb BK838 hb); replace BK839 := Aside0.mk (zbb BK839 hb); replace BK840 := Aside0.mk (zbb BK840 hb); replace HB := Aside0.mk (below_step (zb1 HB) hb)
 (try clear hb)
 (try clear hb2)
 (try clear hk)
 (try clear hi)
 refine hK.out _ _ ⟨zc BK838 0, zc BK838 1, zc BK839 0, zc BK839 1⟩ (fun hHeld => ?_)
 clear hK K
 refine norm_ (a' := ?_) ?_ ?_
 rotate_left
 ·
  show Act.put _ (some 16) _ = _
  simp only [Act.put, List.setIfInBounds_toArray, List.set_cons_zero, List.set_cons_succ, i64_w, i32_w]; rfl
 refine zp (i := 11) (N := some 17) #[true, true, true, true, true, true, true, true, true, true, true, true, false, false, false] (any_of HT_.out (by kernel_rfl)) ?_
 refine zp (i := 12) (N := some 18) #[true, true, true, true, true, true, true, true, true, true, true, true, true, false, false] (any_of HT_.out (by kernel_rfl)) ?_
 refine one_ (i := 13) (N := none) #[true, true, true, true, true, true, true, true, true, true, true, true, true, true, false] rfl rfl (one_of HT_.out (by kernel_rfl)) (by decide) (fun K hK => ?_)
 have hs11 : w10.cell? ⟨gb840, 0, none⟩ = some (.int .i64 0) := zc BK840 0
 have hfs11 := blk_frozen BK840.out 0
 have hns11_0 := NB838_840.out
 have hns11_1 := NB839_840.out
 have hms11_0 := NB840_838.out
 have hms11_1 := NB840_839.out
 have hs12 : w10.cell? ⟨gb840, 1, none⟩ = some (.int .i64 0) := zc BK840 1
 have hfs12 := blk_frozen BK840.out 1
 have hns12_0 := NB838_840.out
 have hns12_1 := NB839_840.out
 have hms12_0 := NB840_838.out
 have hms12_1 := NB840_839.out
 refine skip_ (w1 := ?_) (by rfl) rfl ?_ ?_
 rotate_left
 ·
  go_simp
  rfl
 refine hK.out _ _ ⟨((cell_far (p := ⟨gb840, _, none⟩) NB838_840.out _).trans (((cell_far (p := ⟨gb840, _, none⟩) NB838_840.out _).trans (hHeld.1)))), ((cell_far (p := ⟨gb840, _, none⟩) NB838_840.out _).trans (((cell_far (p := ⟨gb840, _, none⟩) NB838_840.out _).trans (hHeld.2.1)))), ((cell_far (p := ⟨gb840, _, none⟩) NB839_840.out _).trans (((cell_far (p := ⟨gb840, _, none⟩) NB839_840.out _).trans (hHeld.2.2.1)))), ((cell_far (p := ⟨gb840, _, none⟩) NB839_840.out _).trans (((cell_far (p := ⟨gb840, _, none⟩) NB839_840.out _).trans (hHeld.2.2.2))))⟩ (fun hHeld => ?_)
 clear hK K
 refine zp (i := 14) (N := some 5) #[true, true, true, true, true, true, true, true, true, true, true, true, true, true, true] (any_of HT_.out (by kernel_rfl)) ?_
 refine done_ (done_of HT_.out (by kernel_rfl)) ?_
 try go_wp2
 refine bodyPost_ret (results_ct rfl _ _ gb840 27 #[.int .i64 t844, .int .i64 t845] (0, 0) _ rfl (by (with_reducible repeat (first | refine blk_drewN ?_ _ | refine blk_drew ?_ | refine blk_alloc ?_ _)); refine blk_put (cs := #[.int .i64 t844, .int .i64 0]) ?_ 1 _ rfl; (with_reducible repeat (first | refine blk_drewN ?_ _ | refine blk_drew ?_ | refine blk_alloc ?_ _)); refine blk_put (cs := #[.int .i64 0, .int .i64 0]) ?_ 0 _ rfl; (with_reducible repeat (first | refine blk_drewN ?_ _ | refine blk_drew ?_ | refine blk_alloc ?_ _)); exact BK840.out) Try.underlying27 rfl (by kernel_rfl)) rfl ?_
 exact ⟨by first | rfl | (simp [errW_none, errW_some] <;> rfl) | (simp [*, errW_none, errW_some] <;> rfl), (zb1 HB)⟩
end Go.Proofs.Ytinpcalgdiigiaa.PD
