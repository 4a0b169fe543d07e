-- By wip/mk/drv.py
import Derived.Test.YtinpcalgdiigiaaQPowealPDx0
import Derived.Test.YtinpcalgdiigiaaQPowealPDx1
import Derived.Test.YtinpcalgdiigiaaQPowealPDx4
import Derived.Test.YtinpcalgdiigiaaQPowealPDx40
namespace Go.Proofs.Ytinpcalgdiigiaa.PD
open Go.RowKit Go.Proofs.YtinpcalgdiigiaaW.PrintWords Go.Proofs.YtinpcalgdiigiaaW.PrintLast Go.Proofs.YtinpcalgdiigiaaW.PrintMore
attribute [local go_sem] max2_int min2_int max_two min_two max_three min_three max_four min_four
set_option linter.unusedVariables false
set_option linter.unusedSimpArgs false
/-! ### impl_roundOut: function 58 -/
def impl_roundOut.T1 : Bool × List (List Nat × List Nat) := (true, [([], []), ([0], [0]), ([], []), ([1, 2], [1, 2]), ([], []), ([4], [4]), ([5, 3], [5]), ([], []), ([6, 7, 6], [6, 7]), ([8, 8], [8]), ([3, 9], [3, 9]), ([10, 9, 0, 1, 2, 3, 4, 5, 6, 7, 8, 9, 10], [10])])
def impl_roundOut.B1 : List Nat := [0, 1, 0, 7, 0, 16, 63, 0, 255, 511, 1023, 2047]
theorem impl_roundOut.tab1 : rtab .any (opsOf Try.f58 1) = impl_roundOut.T1 := by kernel_rfl
theorem impl_roundOut.bits1 : waitsOk impl_roundOut.T1.2 impl_roundOut.B1 = true := by kernel_rfl
set_option maxHeartbeats 8000000 in
set_option maxRecDepth 100000 in
theorem impl_roundOut.calls (k : Nat) (a0_0 : Int) (a0_1 : Int) (a0_2 : Int) (a0_3 : Int) (a1 : Int) (r1 : Int) (r2 : Int) (r3 : Int) (r4 : Int) (w : World) (h : impl_roundOut.f k a0_0 a0_1 a0_2 a0_3 a1 = some (r1, r2, r3, r4)) :
  Calls Try.prog 58 #[.agg #[.int .i64 a0_0, .int .i64 a0_1, .int .i64 a0_2, .int .i64 a0_3], .int .i64 a1] w fun e w' => e = .returned (.agg #[.int .i64 r1, .int .i64 r2, .int .i64 r3, .int .i64 r4]) ∧ Below w.heap.size w w' := by
 have hu29 := Try.underlying29
 have hu27 := Try.underlying27
 have HB := Aside0.mk (Below.refl w.heap.size w)
 have H : ((impl_roundDown.f k a0_0 a0_1 a1).bind fun bt475 => ((impl_minus.f a0_2 a0_3).bind fun bt477 => ((impl_roundDown.f k bt477.1 bt477.2 a1).bind fun bt479 => ((impl_minus.f bt479.1 bt479.2).bind fun bt481 => (some (bt475.1, bt475.2, bt481.1, bt481.2)))))) = some (r1, r2, r3, r4) := h
 clear h
 replace H := Option.bind_eq_some_iff.mp H
 obtain ⟨⟨t475, t476⟩, A30, H⟩ := H
 replace H : ((impl_minus.f a0_2 a0_3).bind fun bt477 => ((impl_roundDown.f k bt477.1 bt477.2 a1).bind fun bt479 => ((impl_minus.f bt479.1 bt479.2).bind fun bt481 => (some (t475, t476, bt481.1, bt481.2))))) = some (r1, r2, r3, r4) := H
 have A3 := Aside0.mk A30
 clear A30
 replace H := Option.bind_eq_some_iff.mp H
 obtain ⟨⟨t477, t478⟩, A40, H⟩ := H
 replace H : ((impl_roundDown.f k t477 t478 a1).bind fun bt479 => ((impl_minus.f bt479.1 bt479.2).bind fun bt481 => (some (t475, t476, bt481.1, bt481.2)))) = some (r1, r2, r3, r4) := H
 have A4 := Aside0.mk A40
 clear A40
 replace H := Option.bind_eq_some_iff.mp H
 obtain ⟨⟨t479, t480⟩, A50, H⟩ := H
 replace H : ((impl_minus.f t479 t480).bind fun bt481 => (some (t475, t476, bt481.1, bt481.2))) = some (r1, r2, r3, r4) := H
 have A5 := Aside0.mk A50
 clear A50
 replace H := Option.bind_eq_some_iff.mp H
 obtain ⟨⟨t481, t482⟩, A60, H⟩ := H
 replace H : (some (t475, t476, t481, t482)) = some (r1, r2, r3, r4) := H
 have A6 := Aside0.mk A60
 clear A60
 simp only [Option.some.injEq, Prod.mk.injEq] at H
 obtain ⟨rfl, rfl, rfl, rfl⟩ := H
 go_enter Try.func58, Try.ntmps58
 try go_wp2_with (first | ((with_reducible refine gate_dst (N := 2) rfl ?_); refine zbe (N := 2) (cs := #[.int .i64 a0_0, .int .i64 a0_1, .int .i64 a0_2, .int .i64 a0_3]) (t := 29) ?_; intro gb473 hg w7 hbox hb; have BK473 := Aside0.mk (hbox); have GW473 := Aside0.mk (zge (zb0 HB) hg); have GE473 := GW473; replace HB := Aside0.mk (below_step (zb0 HB) hb); clear hb hbox hg) | ((with_reducible refine gate_dst (N := 4) rfl ?_); refine zbe (N := 4) (cs := #[.int .i64 0, .int .i64 0, .int .i64 0, .int .i64 0]) (t := 29) ?_; intro gb474 hg w8 hbox hb; have BK474 := Aside0.mk (hbox); have GW474 := Aside0.mk (zge (zb1 HB) hg); have GE474 := GW474; have NB473_474 := Aside0.mk (zlt BK473 hg); have NB474_473 := Aside0.mk (zgt BK473 hg); replace BK473 := Aside0.mk (zbb BK473 hb); replace HB := Aside0.mk (below_step (zb1 HB) hb); clear hb hbox hg))
 replace BK473 := Aside0.mk (blk_drew BK473.out); replace BK474 := Aside0.mk (blk_drew BK474.out); replace HB := Aside0.mk (below_drew1 HB.out)
 refine start_ (n := 12) (S := fun w' => w'.cell? ⟨gb473, 0, none⟩ = some (.int .i64 a0_0) ∧ w'.cell? ⟨gb473, 1, none⟩ = some (.int .i64 a0_1) ∧ w'.cell? ⟨gb473, 2, none⟩ = some (.int .i64 a0_2) ∧ w'.cell? ⟨gb473, 3, none⟩ = some (.int .i64 a0_3)) (ds := []) #[false, false, false, false, false, false, false, false, false, false, false, false] (by kernel_rfl) rfl rfl ⟨zc BK473 0, zc BK473 1, zc BK473 2, zc BK473 3⟩ (fun hHeld => ?_); refine with_tabW impl_roundOut.tab1 impl_roundOut.bits1 (fun HT_ HW_ => ?_)
 generalize w8.drew = w9 at BK473 BK474 HB hHeld ⊢
 refine zp (i := 0) (N := some 5) #[true, false, false, false, false, false, false, false, false, false, false, false] (any_of HT_.out (by kernel_rfl)) ?_
 refine zp (i := 2) (N := some 7) #[true, false, true, false, false, false, false, false, false, false, false, false] (any_of HT_.out (by kernel_rfl)) ?_
 refine zp (i := 4) (N := some 9) #[true, false, true, false, true, false, false, false, false, false, false, false] (any_of HT_.out (by kernel_rfl)) ?_
 refine zp (i := 7) (N := some 12) #[true, false, true, false, true, false, false, true, false, false, false, false] (any_of HT_.out (by kernel_rfl)) ?_
 refine take_ (i := 1) (N := some 6) (v := ?_) (a' := ?_) #[true, true, true, false, true, false, false, true, false, false, false, false] rfl rfl (take_ofW HT_.out HW_.out (by kernel_rfl)) (fun _ _ _ h => h) (Or.inl ⟨by rfl, ?_⟩) hHeld ?_ ?_
 rotate_left
 ·
  rintro w' ⟨s0, s1, s2, s3⟩
  go_simp
  with_reducible rfl
 rotate_left
 ·
  simp only [Act.put, List.setIfInBounds_toArray, List.set_cons_zero, List.set_cons_succ, i64_w, i32_w]
  rfl
 refine take_ (i := 5) (N := some 10) (v := ?_) (a' := ?_) #[true, true, true, false, true, true, false, true, false, false, false, false] rfl rfl (take_ofW HT_.out HW_.out (by kernel_rfl)) (fun _ _ _ h => h) (Or.inl ⟨by rfl, ?_⟩) hHeld ?_ ?_
 rotate_left
 ·
  rintro w' ⟨s0, s1, s2, s3⟩
  go_simp
  with_reducible rfl
 rotate_left
 ·
  simp only [Act.put, List.setIfInBounds_toArray, List.set_cons_zero, List.set_cons_succ, i64_w, i32_w]
  rfl
 refine one_ (i := 3) (N := some 8) #[true, true, true, true, true, true, false, true, false, false, false, false] rfl rfl (one_of HT_.out (by kernel_rfl)) (by decide) (fun K hK => ?_)
 refine goes_ Try.func85 (by kernel_rfl) rfl #[.agg #[.int .i64 a0_0, .int .i64 a0_1], .int .i64 a1] (by rfl) rfl rfl zq6 ?_
 with_reducible refine (impl_roundDown.calls k a0_0 a0_1 a1 t475 t476 _ A3.out).mono ?_
 rintro e w10 ⟨rfl, hb⟩
 refine ⟨_, rfl, ?_⟩
 replace BK473 := Aside0.mk (zbb BK473 hb); replace BK474 := Aside0.mk (zbb BK474 hb); replace HB := Aside0.mk (below_step (zb1 HB) hb)
 (try clear hb)
 (try clear hb2)
 (try clear hk)
 (try clear hi)
 refine hK.out _ _ ⟨zc BK473 0, zc BK473 1, zc BK473 2, zc BK473 3⟩ (fun hHeld => ?_)
 clear hK K
 refine norm_ (a' := ?_) ?_ ?_
 rotate_left
 ·
  show Act.put _ (some 8) _ = _
  simp only [Act.put, List.setIfInBounds_toArray, List.set_cons_zero, List.set_cons_succ, i64_w, i32_w]; rfl
 refine one_ (i := 6) (N := some 11) #[true, true, true, true, true, true, true, true, false, false, false, false] rfl rfl (one_of HT_.out (by kernel_rfl)) (by decide) (fun K hK => ?_)
 refine goes_ Try.func61 (by kernel_rfl) rfl #[.agg #[.int .i64 a0_2, .int .i64 a0_3]] (by rfl) rfl rfl zq6 ?_
 with_reducible refine (impl_minus.calls a0_2 a0_3 t477 t478 _ A4.out).mono ?_
 rintro e w11 ⟨rfl, hb⟩
 refine ⟨_, rfl, ?_⟩
 replace BK473 := Aside0.mk (zbb BK473 hb); replace BK474 := Aside0.mk (zbb BK474 hb); replace HB := Aside0.mk (below_step (zb1 HB) hb)
 (try clear hb)
 (try clear hb2)
 (try clear hk)
 (try clear hi)
 refine hK.out _ _ ⟨zc BK473 0, zc BK473 1, zc BK473 2, zc BK473 3⟩ (fun hHeld => ?_)
 clear hK K
 refine norm_ (a' := ?_) ?_ ?_
 rotate_left
 ·
  show Act.put _ (some 11) _ = _
  simp only [Act.put, List.setIfInBounds_toArray, List.set_cons_zero, List.set_cons_succ, i64_w, i32_w]; rfl
 refine one_ (i := 8) (N := some 13) #[true, true, true, true, true, true, true, true, true, false, false, false] rfl rfl (one_of HT_.out (by kernel_rfl)) (by decide) (fun K hK => ?_)
 refine goes_ Try.func85 (by kernel_rfl) rfl #[.agg #[.int .i64 t477, .int .i64 t478], .int .i64 a1] (by rfl) rfl rfl zq6 ?_
 with_reducible refine (impl_roundDown.calls k t477 t478 a1 t479 t480 _ A5.out).mono ?_
 rintro e w12 ⟨rfl, hb⟩
 refine ⟨_, rfl, ?_⟩
 replace BK473 := Aside0.mk (zbb BK473 hb); replace BK474 := Aside0.mk (zbb BK474 hb); replace HB := Aside0.mk (below_step (zb1 HB) hb)
 (try clear hb)
 (try clear hb2)
 (try clear hk)
 (try clear hi)
 refine hK.out _ _ ⟨zc BK473 0, zc BK473 1, zc BK473 2, zc BK473 3⟩ (fun hHeld => ?_)
 clear hK K
 refine norm_ (a' := ?_) ?_ ?_
 rotate_left
 ·
  show Act.put _ (some 13) _ = _
  simp only [Act.put, List.setIfInBounds_toArray, List.set_cons_zero, List.set_cons_succ, i64_w, i32_w]; rfl
 refine one_ (i := 9) (N := some 14) #[true, true, true, true, true, true, true, true, true, true, false, false] rfl rfl (one_of HT_.out (by kernel_rfl)) (by decide) (fun K hK => ?_)
 refine goes_ Try.func61 (by kernel_rfl) rfl #[.agg #[.int .i64 t479, .int .i64 t480]] (by rfl) rfl rfl zq6 ?_
 with_reducible refine (impl_minus.calls t479 t480 t481 t482 _ A6.out).mono ?_
 rintro e w13 ⟨rfl, hb⟩
 refine ⟨_, rfl, ?_⟩
 replace BK473 := Aside0.mk (zbb BK473 hb); replace BK474 := Aside0.mk (zbb BK474 hb); replace HB := Aside0.mk (below_step (zb1 HB) hb)
 (try clear hb)
 (try clear hb2)
 (try clear hk)
 (try clear hi)
 refine hK.out _ _ ⟨zc BK473 0, zc BK473 1, zc BK473 2, zc BK473 3⟩ (fun hHeld => ?_)
 clear hK K
 refine norm_ (a' := ?_) ?_ ?_
 rotate_left
 ·
  show Act.put _ (some 14) _ = _
  simp only [Act.put, List.setIfInBounds_toArray, List.set_cons_zero, List.set_cons_succ, i64_w, i32_w]; rfl
 refine zp (i := 10) (N := some 15) #[true, true, true, true, true, true, true, true, true, true, true, false] (any_of HT_.out (by kernel_rfl)) ?_
 refine one_ (i := 11) (N := none) #[true, true, true, true, true, true, true, true, true, true, true, true] rfl rfl (one_of HT_.out (by kernel_rfl)) (by decide) (fun K hK => ?_)
 have hs14 : w13.cell? ⟨gb474, 0, none⟩ = some (.int .i64 0) := zc BK474 0
 have hfs14 := blk_frozen BK474.out 0
 have hns14_0 := NB473_474.out
 have hms14_0 := NB474_473.out
 have hs15 : w13.cell? ⟨gb474, 1, none⟩ = some (.int .i64 0) := zc BK474 1
 have hfs15 := blk_frozen BK474.out 1
 have hns15_0 := NB473_474.out
 have hms15_0 := NB474_473.out
 have hs16 : w13.cell? ⟨gb474, 2, none⟩ = some (.int .i64 0) := zc BK474 2
 have hfs16 := blk_frozen BK474.out 2
 have hns16_0 := NB473_474.out
 have hms16_0 := NB474_473.out
 have hs17 : w13.cell? ⟨gb474, 3, none⟩ = some (.int .i64 0) := zc BK474 3
 have hfs17 := blk_frozen BK474.out 3
 have hns17_0 := NB473_474.out
 have hms17_0 := NB474_473.out
 refine skip_ (w1 := ?_) (by rfl) rfl ?_ ?_
 rotate_left
 ·
  go_simp
  rfl
 refine hK.out _ _ ⟨((cell_far (p := ⟨gb474, _, none⟩) NB473_474.out _).trans (((cell_far (p := ⟨gb474, _, none⟩) NB473_474.out _).trans (((cell_far (p := ⟨gb474, _, none⟩) NB473_474.out _).trans (((cell_far (p := ⟨gb474, _, none⟩) NB473_474.out _).trans (hHeld.1)))))))), ((cell_far (p := ⟨gb474, _, none⟩) NB473_474.out _).trans (((cell_far (p := ⟨gb474, _, none⟩) NB473_474.out _).trans (((cell_far (p := ⟨gb474, _, none⟩) NB473_474.out _).trans (((cell_far (p := ⟨gb474, _, none⟩) NB473_474.out _).trans (hHeld.2.1)))))))), ((cell_far (p := ⟨gb474, _, none⟩) NB473_474.out _).trans (((cell_far (p := ⟨gb474, _, none⟩) NB473_474.out _).trans (((cell_far (p := ⟨gb474, _, none⟩) NB473_474.out _).trans (((cell_far (p := ⟨gb474, _, none⟩) NB473_474.out _).trans (hHeld.2.2.1)))))))), ((cell_far (p := ⟨gb474, _, none⟩) NB473_474.out _).trans (((cell_far (p := ⟨gb474, _, none⟩) NB473_474.out _).trans (((cell_far (p := ⟨gb474, _, none⟩) NB473_474.out _).trans (((cell_far (p := ⟨gb474, _, none⟩) NB473_474.out _).trans (hHeld.2.2.2))))))))⟩ (fun hHeld => ?_)
 clear hK K
 refine done_ (done_of HT_.out (by kernel_rfl)) ?_
 try go_wp2
 refine bodyPost_ret (results_cell_row rfl _ _ gb474 29 #[.int .i64 t475, .int .i64 t476, .int .i64 t481, .int .i64 t482] (0, 0) _ rfl (by (with_reducible repeat (first | refine blk_drewN ?_ _ | refine blk_drew ?_ | refine blk_alloc ?_ _)); refine blk_put (cs := #[.int .i64 t475, .int .i64 t476, .int .i64 t481, .int .i64 0]) ?_ 3 _ rfl; (with_reducible repeat (first | refine blk_drewN ?_ _ | refine blk_drew ?_ | refine blk_alloc ?_ _)); refine blk_put (cs := #[.int .i64 t475, .int .i64 t476, .int .i64 0, .int .i64 0]) ?_ 2 _ rfl; (with_reducible repeat (first | refine blk_drewN ?_ _ | refine blk_drew ?_ | refine blk_alloc ?_ _)); refine blk_put (cs := #[.int .i64 t475, .int .i64 0, .int .i64 0, .int .i64 0]) ?_ 1 _ rfl; (with_reducible repeat (first | refine blk_drewN ?_ _ | refine blk_drew ?_ | refine blk_alloc ?_ _)); refine blk_put (cs := #[.int .i64 0, .int .i64 0, .int .i64 0, .int .i64 0]) ?_ 0 _ rfl; (with_reducible repeat (first | refine blk_drewN ?_ _ | refine blk_drew ?_ | refine blk_alloc ?_ _)); exact BK474.out) Try.underlying29 rfl (by kernel_rfl)) rfl ?_
 exact ⟨by first | rfl | (simp [errW_none, errW_some] <;> rfl) | (simp [*, errW_none, errW_some] <;> rfl), (zb1 HB)⟩
end Go.Proofs.Ytinpcalgdiigiaa.PD
