-- By wip/mk/drv.py
import Derived.Test.YtinpcalgdiigiaaQPowealPDx0
import Derived.Test.YtinpcalgdiigiaaQPowealPDx1
import Derived.Test.YtinpcalgdiigiaaQPowealPDx2
import Derived.Test.YtinpcalgdiigiaaQPowealPDx34
namespace Go.Proofs.Ytinpcalgdiigiaa.PD
open Go.RowKit Go.Proofs.YtinpcalgdiigiaaW.PrintWords Go.Proofs.YtinpcalgdiigiaaW.PrintLast Go.Proofs.YtinpcalgdiigiaaW.PrintMore
attribute [local go_sem] max2_int min2_int max_two min_two max_three min_three max_four min_four
set_option linter.unusedVariables false
set_option linter.unusedSimpArgs false
/-! ### spec_dyRound: function 83 -/
def spec_dyRound.T3 : Bool × List (List Nat × List Nat) := (true, [([], []), ([0], [0]), ([], []), ([2], [2]), ([], []), ([3, 4], [3, 4]), ([5], [5]), ([1, 6, 6], [1, 6]), ([], []), ([7, 8, 7], [7, 8]), ([9], [9]), ([10], [10]), ([10], [10]), ([], []), ([13, 11, 9, 0, 1, 2, 3, 4, 5, 6, 7, 8, 9, 10, 11, 13], [11, 13]), ([12, 14, 0, 1, 2, 3, 4, 5, 6, 7, 8, 9, 10, 11, 12, 13, 14], [12])])
def spec_dyRound.B3 : List Nat := [0, 1, 0, 4, 0, 28, 60, 127, 0, 511, 1023, 2047, 2047, 0, 12287, 32767]
theorem spec_dyRound.tab3 : rtab .any (opsOf Try.f83 3) = spec_dyRound.T3 := by kernel_rfl
theorem spec_dyRound.bits3 : waitsOk spec_dyRound.T3.2 spec_dyRound.B3 = true := by kernel_rfl
set_option maxHeartbeats 8000000 in
set_option maxRecDepth 100000 in
theorem spec_dyRound.calls (k : Nat) (a0_0 : Int) (a0_1 : Int) (a1 : Int) (r1 : Int) (r2 : Int) (w : World) (h : spec_dyRound.f k a0_0 a0_1 a1 = some (r1, r2)) :
  Calls Try.prog 83 #[.agg #[.int .i64 a0_0, .int .i64 a0_1], .int .i64 a1] w fun e w' => e = .returned (.agg #[.int .i64 r1, .int .i64 r2]) ∧ Below w.heap.size w w' := by
 have hu27 := Try.underlying27
 have HB := Aside0.mk (Below.refl w.heap.size w)
 have H : (if a0_1 ≤ a1 then (some (a0_0, a0_1)) else ((spec_dyPower.f (wrap64 (a0_1 - a1))).bind fun t426 => ((spec_dyDown.f a0_0 t426).bind fun t427 => ((spec_dyMake.f k t427 a1).bind fun bt428 => (some (bt428.1, bt428.2.1)))))) = some (r1, r2) := h
 clear h
 by_cases c3 : a0_1 ≤ a1
 ·
  rw [if_pos c3] at H
  have c3b0 : decide (a0_1 ≤ a1) = true := decide_eq_true c3
  clear c3
  simp only [Option.some.injEq, Prod.mk.injEq] at H
  obtain ⟨rfl, rfl⟩ := H
  go_enter Try.func83, Try.ntmps83
  go_wp2_with (first | ((with_reducible refine gate_dst (N := 2) rfl ?_); refine zbe (N := 2) (cs := #[.int .i64 a0_0, .int .i64 a0_1]) (t := 27) ?_; intro gb424 hg w4 hbox hb; have BK424 := Aside0.mk (hbox); have GW424 := Aside0.mk (zge (zb0 HB) hg); have GE424 := GW424; replace HB := Aside0.mk (below_step (zb0 HB) hb); clear hb hbox hg) | ((with_reducible refine gate_dst (N := 4) rfl ?_); refine zbe (N := 4) (cs := #[.int .i64 0, .int .i64 0]) (t := 27) ?_; intro gb425 hg w5 hbox hb; have BK425 := Aside0.mk (hbox); have GW425 := Aside0.mk (zge (zb1 HB) hg); have GE425 := GW425; have NB424_425 := Aside0.mk (zlt BK424 hg); have NB425_424 := Aside0.mk (zgt BK424 hg); replace BK424 := Aside0.mk (zbb BK424 hb); replace HB := Aside0.mk (below_step (zb1 HB) hb); clear hb hbox hg; have hnb6 := NB424_425.out; have hnc6 := NB425_424.out; have hcz7_0 : w5.cell? ⟨gb424, 0, none⟩ = some (.int .i64 a0_0) := zc BK424 0; have hcz7_1 : w5.cell? ⟨gb424, 1, none⟩ = some (.int .i64 a0_1) := zc BK424 1; have hfz7_0 := blk_frozen BK424.out 0; have hfz7_1 := blk_frozen BK424.out 1; have hcz8_0 : w5.cell? ⟨gb425, 0, none⟩ = some (.int .i64 0) := zc BK425 0; have hcz8_1 : w5.cell? ⟨gb425, 1, none⟩ = some (.int .i64 0) := zc BK425 1; have hfz8_0 := blk_frozen BK425.out 0; have hfz8_1 := blk_frozen BK425.out 1))
  refine bodyPost_ret (results_cell_row rfl _ _ gb425 27 #[.int .i64 a0_0, .int .i64 a0_1] (0, 0) _ rfl (by (with_reducible repeat (first | refine blk_drewN ?_ _ | refine blk_drew ?_ | refine blk_alloc ?_ _)); refine blk_put (cs := #[.int .i64 a0_0, .int .i64 0]) ?_ 1 _ rfl; (with_reducible repeat (first | refine blk_drewN ?_ _ | refine blk_drew ?_ | refine blk_alloc ?_ _)); refine blk_put (cs := #[.int .i64 0, .int .i64 0]) ?_ 0 _ rfl; (with_reducible repeat (first | refine blk_drewN ?_ _ | refine blk_drew ?_ | refine blk_alloc ?_ _)); exact BK425.out) Try.underlying27 rfl (by kernel_rfl)) rfl ?_
  exact ⟨by first | rfl | (simp [errW_none, errW_some] <;> rfl) | (simp [*, errW_none, errW_some] <;> rfl), (zb1 HB)⟩
 ·
  rw [if_neg c3] at H
  have c3b0 : decide (a0_1 ≤ a1) = false := decide_eq_false c3
  clear c3
  replace H := Option.bind_eq_some_iff.mp H
  obtain ⟨t426, A90, H⟩ := H
  replace H : ((spec_dyDown.f a0_0 t426).bind fun t427 => ((spec_dyMake.f k t427 a1).bind fun bt428 => (some (bt428.1, bt428.2.1)))) = some (r1, r2) := H
  have A9 := Aside0.mk A90
  clear A90
  replace H := Option.bind_eq_some_iff.mp H
  obtain ⟨t427, A100, H⟩ := H
  replace H : ((spec_dyMake.f k t427 a1).bind fun bt428 => (some (bt428.1, bt428.2.1))) = some (r1, r2) := H
  have A10 := Aside0.mk A100
  clear A100
  replace H := Option.bind_eq_some_iff.mp H
  obtain ⟨⟨t428, t429, t430⟩, A110, H⟩ := H
  replace H : (some (t428, t429)) = some (r1, r2) := H
  have A11 := Aside0.mk A110
  clear A110
  simp only [Option.some.injEq, Prod.mk.injEq] at H
  obtain ⟨rfl, rfl⟩ := H
  go_enter Try.func83, Try.ntmps83
  try go_wp2_with (first | ((with_reducible refine gate_dst (N := 2) rfl ?_); refine zbe (N := 2) (cs := #[.int .i64 a0_0, .int .i64 a0_1]) (t := 27) ?_; intro gb424 hg w12 hbox hb; have BK424 := Aside0.mk (hbox); have GW424 := Aside0.mk (zge (zb0 HB) hg); have GE424 := GW424; replace HB := Aside0.mk (below_step (zb0 HB) hb); clear hb hbox hg) | ((with_reducible refine gate_dst (N := 4) rfl ?_); refine zbe (N := 4) (cs := #[.int .i64 0, .int .i64 0]) (t := 27) ?_; intro gb425 hg w13 hbox hb; have BK425 := Aside0.mk (hbox); have GW425 := Aside0.mk (zge (zb1 HB) hg); have GE425 := GW425; have NB424_425 := Aside0.mk (zlt BK424 hg); have NB425_424 := Aside0.mk (zgt BK424 hg); replace BK424 := Aside0.mk (zbb BK424 hb); replace HB := Aside0.mk (below_step (zb1 HB) hb); clear hb hbox hg; have hnb14 := NB424_425.out; have hnc14 := NB425_424.out; have hcz15_0 : w13.cell? ⟨gb424, 0, none⟩ = some (.int .i64 a0_0) := zc BK424 0; have hcz15_1 : w13.cell? ⟨gb424, 1, none⟩ = some (.int .i64 a0_1) := zc BK424 1; have hfz15_0 := blk_frozen BK424.out 0; have hfz15_1 := blk_frozen BK424.out 1))
  replace BK424 := Aside0.mk (blk_drew BK424.out); replace BK425 := Aside0.mk (blk_drew BK425.out); replace HB := Aside0.mk (below_drew1 HB.out)
  refine start_ (n := 16) (S := fun w' => w'.cell? ⟨gb424, 0, none⟩ = some (.int .i64 a0_0) ∧ w'.cell? ⟨gb424, 1, none⟩ = some (.int .i64 a0_1)) (ds := []) #[false, false, false, false, false, false, false, false, false, false, false, false, false, false, false, false] (by kernel_rfl) rfl rfl ⟨zc BK424 0, zc BK424 1⟩ (fun hHeld => ?_); refine with_tabW spec_dyRound.tab3 spec_dyRound.bits3 (fun HT_ HW_ => ?_)
  generalize w13.drew = w16 at BK424 BK425 HB hHeld ⊢
  refine zp (i := 0) (N := some 13) #[true, false, false, false, false, false, false, false, false, false, false, false, false, false, false, false] (any_of HT_.out (by kernel_rfl)) ?_
  refine zp (i := 2) (N := some 15) #[true, false, true, false, false, false, false, false, false, false, false, false, false, false, false, false] (any_of HT_.out (by kernel_rfl)) ?_
  refine zp (i := 4) (N := some 17) #[true, false, true, false, true, false, false, false, false, false, false, false, false, false, false, false] (any_of HT_.out (by kernel_rfl)) ?_
  refine zp (i := 8) (N := some 21) #[true, false, true, false, true, false, false, false, true, false, false, false, false, false, false, false] (any_of HT_.out (by kernel_rfl)) ?_
  refine take_ (i := 1) (N := some 14) (v := ?_) (a' := ?_) #[true, true, true, false, true, false, false, false, true, false, false, false, false, false, false, false] rfl rfl (take_ofW HT_.out HW_.out (by kernel_rfl)) (fun _ _ _ h => h) (Or.inl ⟨by rfl, ?_⟩) hHeld ?_ ?_
  rotate_left
  ·
   rintro w' ⟨s0, s1⟩
   go_simp
   with_reducible rfl
  rotate_left
  ·
   simp only [Act.put, List.setIfInBounds_toArray, List.set_cons_zero, List.set_cons_succ, i64_w, i32_w]
   rfl
  refine take_ (i := 3) (N := some 16) (v := ?_) (a' := ?_) #[true, true, true, true, true, false, false, false, true, false, false, false, false, false, false, false] rfl rfl (take_ofW HT_.out HW_.out (by kernel_rfl)) (fun _ _ _ h => h) (Or.inl ⟨by rfl, ?_⟩) hHeld ?_ ?_
  rotate_left
  ·
   rintro w' ⟨s0, s1⟩
   go_simp
   with_reducible rfl
  rotate_left
  ·
   simp only [Act.put, List.setIfInBounds_toArray, List.set_cons_zero, List.set_cons_succ, i64_w, i32_w]
   rfl
  refine zp (i := 5) (N := some 18) #[true, true, true, true, true, true, false, false, true, false, false, false, false, false, false, false] (any_of HT_.out (by kernel_rfl)) ?_
  refine join_ (σ := Nat) 2 #[true, true, true, true, true, true, true, true, true, true, true, true, true, true, false, false] (fun s_ => [(19, .int .i64 t426), (20, .int .i64 t427), (22, .tuple #[.agg #[.int .i64 t428, .int .i64 t429], .bool t430]), (5, .pointer (some ⟨s_, 0, none⟩)), (12, .tuple #[.agg #[.int .i64 t428, .int .i64 t429], .bool t430]), (23, .agg #[.int .i64 t428, .int .i64 t429]), (24, .bool t430)]) (fun s_ w' => (w'.cell? ⟨gb424, 0, none⟩ = some (.int .i64 a0_0) ∧ w'.cell? ⟨gb424, 1, none⟩ = some (.int .i64 a0_1)) ∧ (w'.heap[gb424]? = some (.cells #[.int .i64 a0_0, .int .i64 a0_1] 27 (0, 0))) ∧ (w'.heap[gb425]? = some (.cells #[.int .i64 0, .int .i64 0] 27 (0, 0))) ∧ (w'.heap[s_]? = some (.cells #[.int .i64 0, .int .i64 0] 27 (0, 0))) ∧ (w.heap.size ≤ s_) ∧ (w.heap.size ≤ s_) ∧ (gb424 ≠ s_) ∧ (s_ ≠ gb424) ∧ (gb425 ≠ s_) ∧ (s_ ≠ gb425) ∧ (Below w.heap.size w w')) ?_ ?_
  rotate_left
  ·
   intro hCont
   refine two_ (i := 6) (j := 13) (Ni := some 19) (Nj := some 5) #[true, true, true, true, true, true, true, false, true, false, false, false, false, false, false, false] #[true, true, true, true, true, true, false, false, true, false, false, false, false, true, false, false] rfl rfl rfl rfl (two_of HT_.out (by kernel_rfl)) (by decide) (by decide) (fun K hK => ?_) (fun K hK => ?_)
   ·
    refine goes_ Try.func103 (by kernel_rfl) rfl #[.int .i64 (wrap64 (a0_1 - a1))] (by rfl) rfl rfl zq6 ?_
    with_reducible refine (spec_dyPower.calls (wrap64 (a0_1 - a1)) t426 _ A9.out).mono ?_
    rintro e w' ⟨rfl, ⟨nd, rfl⟩⟩
    refine ⟨_, rfl, ?_⟩
    refine hK.out _ _ ⟨zc BK424 0, zc BK424 1⟩ (fun hHeld => ?_)
    clear hK K
    refine norm_ (a' := ?_) ?_ ?_
    rotate_left
    ·
     show Act.put _ (some 19) _ = _
     simp only [Act.put, List.setIfInBounds_toArray, List.set_cons_zero, List.set_cons_succ, i64_w, i32_w]; rfl
    refine two_ (i := 7) (j := 13) (Ni := some 20) (Nj := some 5) #[true, true, true, true, true, true, true, true, true, false, false, false, false, false, false, false] #[true, true, true, true, true, true, true, false, true, false, false, false, false, true, false, false] rfl rfl rfl rfl (two_of HT_.out (by kernel_rfl)) (by decide) (by decide) (fun K hK => ?_) (fun K hK => ?_)
    ·
     refine goes_ Try.func108 (by kernel_rfl) rfl #[.int .i64 a0_0, .int .i64 t426] (by rfl) rfl rfl zq6 ?_
     with_reducible refine (spec_dyDown.calls a0_0 t426 t427 _ A10.out).mono ?_
     rintro e w' ⟨rfl, ⟨nd, rfl⟩⟩
     refine ⟨_, rfl, ?_⟩
     refine hK.out _ _ ⟨zc BK424 0, zc BK424 1⟩ (fun hHeld => ?_)
     clear hK K
     refine norm_ (a' := ?_) ?_ ?_
     rotate_left
     ·
      show Act.put _ (some 20) _ = _
      simp only [Act.put, List.setIfInBounds_toArray, List.set_cons_zero, List.set_cons_succ, i64_w, i32_w]; rfl
     refine two_ (i := 9) (j := 13) (Ni := some 22) (Nj := some 5) #[true, true, true, true, true, true, true, true, true, true, false, false, false, false, false, false] #[true, true, true, true, true, true, true, true, true, false, false, false, false, true, false, false] rfl rfl rfl rfl (two_of HT_.out (by kernel_rfl)) (by decide) (by decide) (fun K hK => ?_) (fun K hK => ?_)
     ·
      refine goes_ Try.func107 (by kernel_rfl) rfl #[.int .i64 t427, .int .i64 a1] (by rfl) rfl rfl zq6 ?_
      with_reducible refine (spec_dyMake.calls k t427 a1 t428 t429 t430 _ A11.out).mono ?_
      rintro e w17 ⟨rfl, hb⟩
      refine ⟨_, rfl, ?_⟩
      replace BK424 := Aside0.mk (zbb BK424 hb); replace BK425 := Aside0.mk (zbb BK425 hb); replace HB := Aside0.mk (below_step (zb1 HB) hb)
      (try clear hb)
      (try clear hb2)
      (try clear hk)
      (try clear hi)
      refine hK.out _ _ ⟨zc BK424 0, zc BK424 1⟩ (fun hHeld => ?_)
      clear hK K
      refine norm_ (a' := ?_) ?_ ?_
      rotate_left
      ·
       show Act.put _ (some 22) _ = _
       simp only [Act.put, List.setIfInBounds_toArray, List.set_cons_zero, List.set_cons_succ, i64_w, i32_w]; rfl
      refine zp (i := 10) (N := some 12) #[true, true, true, true, true, true, true, true, true, true, true, false, false, false, false, false] (any_of HT_.out (by kernel_rfl)) ?_
      refine zp (i := 11) (N := some 23) #[true, true, true, true, true, true, true, true, true, true, true, true, false, false, false, false] (any_of HT_.out (by kernel_rfl)) ?_
      refine zp (i := 12) (N := some 24) #[true, true, true, true, true, true, true, true, true, true, true, true, true, false, false, false] (any_of HT_.out (by kernel_rfl)) ?_
      refine one_ (i := 13) (N := some 5) #[true, true, true, true, true, true, true, true, true, true, true, true, true, true, false, false] rfl rfl (one_of HT_.out (by kernel_rfl)) (by decide) (fun K hK => ?_)
      refine box_step ?hg (N := 5) ?hd (cs := #[.int .i64 0, .int .i64 0]) (t := 27) ?hr ?_; (case hd => rfl); (case hg => rfl); (case hr => first | (go_simp; done) | (go_simp; rfl))
      intro gb431 hg w18 hbox hb
      have n0_ := Aside0.mk (zbb BK424 hb)
      have n1_ := Aside0.mk (zbb BK425 hb)
      have n2_ := Aside0.mk (below_step (zb1 HB) hb)
      have BK431 := Aside0.mk (hbox)
      have GW431 := Aside0.mk (zge (zb1 HB) hg)
      have GE431 := Aside0.mk (zge (zb1 HB) hg)
      have NB424_431 := Aside0.mk (zlt BK424 hg)
      have NB431_424 := Aside0.mk (zgt BK424 hg)
      have NB425_431 := Aside0.mk (zlt BK425 hg)
      have NB431_425 := Aside0.mk (zgt BK425 hg)
      clear BK424 BK425 HB
      have BK424 := n0_; have BK425 := n1_; have HB := n2_
      clear n0_ n1_ n2_ hb hbox hg
      refine hK.out _ _ ⟨zc BK424 0, zc BK424 1⟩ (fun hHeld => ?_)
      clear hK K
      refine norm_ (a' := ?_) ?_ ?_
      rotate_left
      ·
       show Act.put _ (some 5) _ = _
       simp only [Act.put, List.setIfInBounds_toArray, List.set_cons_zero, List.set_cons_succ, i64_w, i32_w]; rfl
      exact norm_ (by simp only [putAll, Act.put, List.setIfInBounds_toArray, List.set_cons_zero, List.set_cons_succ]) (hCont (gb431) _ ⟨hHeld, (zq1 BK424), (zq1 BK425), (zq1 BK431), GW431.out, GE431.out, NB424_431.out, NB431_424.out, NB425_431.out, NB431_425.out, (zb1 HB)⟩)
     ·
      refine box_step ?hg (N := 5) ?hd (cs := #[.int .i64 0, .int .i64 0]) (t := 27) ?hr ?_; (case hd => rfl); (case hg => rfl); (case hr => first | (go_simp; done) | (go_simp; rfl))
      intro gb431 hg w17 hbox hb
      have n0_ := Aside0.mk (zbb BK424 hb)
      have n1_ := Aside0.mk (zbb BK425 hb)
      have n2_ := Aside0.mk (below_step (zb1 HB) hb)
      have BK431 := Aside0.mk (hbox)
      have GW431 := Aside0.mk (zge (zb1 HB) hg)
      have GE431 := Aside0.mk (zge (zb1 HB) hg)
      have NB424_431 := Aside0.mk (zlt BK424 hg)
      have NB431_424 := Aside0.mk (zgt BK424 hg)
      have NB425_431 := Aside0.mk (zlt BK425 hg)
      have NB431_425 := Aside0.mk (zgt BK425 hg)
      clear BK424 BK425 HB
      have BK424 := n0_; have BK425 := n1_; have HB := n2_
      clear n0_ n1_ n2_ hb hbox hg
      refine hK.out _ _ ⟨zc BK424 0, zc BK424 1⟩ (fun hHeld => ?_)
      clear hK K
      refine norm_ (a' := ?_) ?_ ?_
      rotate_left
      ·
       show Act.put _ (some 5) _ = _
       simp only [Act.put, List.setIfInBounds_toArray, List.set_cons_zero, List.set_cons_succ, i64_w, i32_w]; rfl
      refine one_ (i := 9) (N := some 22) #[true, true, true, true, true, true, true, true, true, true, false, false, false, true, false, false] rfl rfl (one_of HT_.out (by kernel_rfl)) (by decide) (fun K hK => ?_)
      refine goes_ Try.func107 (by kernel_rfl) rfl #[.int .i64 t427, .int .i64 a1] (by rfl) rfl rfl zq6 ?_
      with_reducible refine (spec_dyMake.calls k t427 a1 t428 t429 t430 _ A11.out).mono ?_
      rintro e w18 ⟨rfl, hb⟩
      refine ⟨_, rfl, ?_⟩
      replace BK424 := Aside0.mk (zbb BK424 hb); replace BK425 := Aside0.mk (zbb BK425 hb); replace BK431 := Aside0.mk (zbb BK431 hb); replace HB := Aside0.mk (below_step (zb1 HB) hb)
      (try clear hb)
      (try clear hb2)
      (try clear hk)
      (try clear hi)
      refine hK.out _ _ ⟨zc BK424 0, zc BK424 1⟩ (fun hHeld => ?_)
      clear hK K
      refine norm_ (a' := ?_) ?_ ?_
      rotate_left
      ·
       show Act.put _ (some 22) _ = _
       simp only [Act.put, List.setIfInBounds_toArray, List.set_cons_zero, List.set_cons_succ, i64_w, i32_w]; rfl
      refine zp (i := 10) (N := some 12) #[true, true, true, true, true, true, true, true, true, true, true, false, false, true, false, false] (any_of HT_.out (by kernel_rfl)) ?_
      refine zp (i := 11) (N := some 23) #[true, true, true, true, true, true, true, true, true, true, true, true, false, true, false, false] (any_of HT_.out (by kernel_rfl)) ?_
      refine zp (i := 12) (N := some 24) #[true, true, true, true, true, true, true, true, true, true, true, true, true, true, false, false] (any_of HT_.out (by kernel_rfl)) ?_
      exact norm_ (by simp only [putAll, Act.put, List.setIfInBounds_toArray, List.set_cons_zero, List.set_cons_succ]) (hCont (gb431) _ ⟨hHeld, (zq1 BK424), (zq1 BK425), (zq1 BK431), GW431.out, GE431.out, NB424_431.out, NB431_424.out, NB425_431.out, NB431_425.out, (zb1 HB)⟩)
    ·
     refine box_step ?hg (N := 5) ?hd (cs := #[.int .i64 0, .int .i64 0]) (t := 27) ?hr ?_; (case hd => rfl); (case hg => rfl); (case hr => first | (go_simp; done) | (go_simp; rfl))
     intro gb431 hg w17 hbox hb
     have n0_ := Aside0.mk (zbb BK424 hb)
     have n1_ := Aside0.mk (zbb BK425 hb)
     have n2_ := Aside0.mk (below_step (zb1 HB) hb)
     have BK431 := Aside0.mk (hbox)
     have GW431 := Aside0.mk (zge (zb1 HB) hg)
     have GE431 := Aside0.mk (zge (zb1 HB) hg)
     have NB424_431 := Aside0.mk (zlt BK424 hg)
     have NB431_424 := Aside0.mk (zgt BK424 hg)
     have NB425_431 := Aside0.mk (zlt BK425 hg)
     have NB431_425 := Aside0.mk (zgt BK425 hg)
     clear BK424 BK425 HB
     have BK424 := n0_; have BK425 := n1_; have HB := n2_
     clear n0_ n1_ n2_ hb hbox hg
     refine hK.out _ _ ⟨zc BK424 0, zc BK424 1⟩ (fun hHeld => ?_)
     clear hK K
     refine norm_ (a' := ?_) ?_ ?_
     rotate_left
     ·
      show Act.put _ (some 5) _ = _
      simp only [Act.put, List.setIfInBounds_toArray, List.set_cons_zero, List.set_cons_succ, i64_w, i32_w]; rfl
     refine one_ (i := 7) (N := some 20) #[true, true, true, true, true, true, true, true, true, false, false, false, false, true, false, false] rfl rfl (one_of HT_.out (by kernel_rfl)) (by decide) (fun K hK => ?_)
     refine goes_ Try.func108 (by kernel_rfl) rfl #[.int .i64 a0_0, .int .i64 t426] (by rfl) rfl rfl zq6 ?_
     with_reducible refine (spec_dyDown.calls a0_0 t426 t427 _ A10.out).mono ?_
     rintro e w' ⟨rfl, ⟨nd, rfl⟩⟩
     refine ⟨_, rfl, ?_⟩
     refine hK.out _ _ ⟨zc BK424 0, zc BK424 1⟩ (fun hHeld => ?_)
     clear hK K
     refine norm_ (a' := ?_) ?_ ?_
     rotate_left
     ·
      show Act.put _ (some 20) _ = _
      simp only [Act.put, List.setIfInBounds_toArray, List.set_cons_zero, List.set_cons_succ, i64_w, i32_w]; rfl
     refine one_ (i := 9) (N := some 22) #[true, true, true, true, true, true, true, true, true, true, false, false, false, true, false, false] rfl rfl (one_of HT_.out (by kernel_rfl)) (by decide) (fun K hK => ?_)
     refine goes_ Try.func107 (by kernel_rfl) rfl #[.int .i64 t427, .int .i64 a1] (by rfl) rfl rfl zq6 ?_
     with_reducible refine (spec_dyMake.calls k t427 a1 t428 t429 t430 _ A11.out).mono ?_
     rintro e w18 ⟨rfl, hb⟩
     refine ⟨_, rfl, ?_⟩
     replace BK424 := Aside0.mk (zbb BK424 hb); replace BK425 := Aside0.mk (zbb BK425 hb); replace BK431 := Aside0.mk (zbb BK431 hb); replace HB := Aside0.mk (below_step (zb1 HB) hb)
     (try clear hb)
     (try clear hb2)
     (try clear hk)
     (try clear hi)
     refine hK.out _ _ ⟨zc BK424 0, zc BK424 1⟩ (fun hHeld => ?_)
     clear hK K
     refine norm_ (a' := ?_) ?_ ?_
     rotate_left
     ·
      show Act.put _ (some 22) _ = _
      simp only [Act.put, List.setIfInBounds_toArray, List.set_cons_zero, List.set_cons_succ, i64_w, i32_w]; rfl
     refine zp (i := 10) (N := some 12) #[true, true, true, true, true, true, true, true, true, true, true, false, false, true, false, false] (any_of HT_.out (by kernel_rfl)) ?_
     refine zp (i := 11) (N := some 23) #[true, true, true, true, true, true, true, true, true, true, true, true, false, true, false, false] (any_of HT_.out (by kernel_rfl)) ?_
     refine zp (i := 12) (N := some 24) #[true, true, true, true, true, true, true, true, true, true, true, true, true, true, false, false] (any_of HT_.out (by kernel_rfl)) ?_
     exact norm_ (by simp only [putAll, Act.put, List.setIfInBounds_toArray, List.set_cons_zero, List.set_cons_succ]) (hCont (gb431) _ ⟨hHeld, (zq1 BK424), (zq1 BK425), (zq1 BK431), GW431.out, GE431.out, NB424_431.out, NB431_424.out, NB425_431.out, NB431_425.out, (zb1 HB)⟩)
   ·
    refine box_step ?hg (N := 5) ?hd (cs := #[.int .i64 0, .int .i64 0]) (t := 27) ?hr ?_; (case hd => rfl); (case hg => rfl); (case hr => first | (go_simp; done) | (go_simp; rfl))
    intro gb431 hg w17 hbox hb
    have n0_ := Aside0.mk (zbb BK424 hb)
    have n1_ := Aside0.mk (zbb BK425 hb)
    have n2_ := Aside0.mk (below_step (zb1 HB) hb)
    have BK431 := Aside0.mk (hbox)
    have GW431 := Aside0.mk (zge (zb1 HB) hg)
    have GE431 := Aside0.mk (zge (zb1 HB) hg)
    have NB424_431 := Aside0.mk (zlt BK424 hg)
    have NB431_424 := Aside0.mk (zgt BK424 hg)
    have NB425_431 := Aside0.mk (zlt BK425 hg)
    have NB431_425 := Aside0.mk (zgt BK425 hg)
    clear BK424 BK425 HB
    have BK424 := n0_; have BK425 := n1_; have HB := n2_
    clear n0_ n1_ n2_ hb hbox hg
    refine hK.out _ _ ⟨zc BK424 0, zc BK424 1⟩ (fun hHeld => ?_)
    clear hK K
    refine norm_ (a' := ?_) ?_ ?_
    rotate_left
    ·
     show Act.put _ (some 5) _ = _
     simp only [Act.put, List.setIfInBounds_toArray, List.set_cons_zero, List.set_cons_succ, i64_w, i32_w]; rfl
    refine one_ (i := 6) (N := some 19) #[true, true, true, true, true, true, true, false, true, false, false, false, false, true, false, false] rfl rfl (one_of HT_.out (by kernel_rfl)) (by decide) (fun K hK => ?_)
    refine goes_ Try.func103 (by kernel_rfl) rfl #[.int .i64 (wrap64 (a0_1 - a1))] (by rfl) rfl rfl zq6 ?_
    with_reducible refine (spec_dyPower.calls (wrap64 (a0_1 - a1)) t426 _ A9.out).mono ?_
    rintro e w' ⟨rfl, ⟨nd, rfl⟩⟩
    refine ⟨_, rfl, ?_⟩
    refine hK.out _ _ ⟨zc BK424 0, zc BK424 1⟩ (fun hHeld => ?_)
    clear hK K
    refine norm_ (a' := ?_) ?_ ?_
    rotate_left
    ·
     show Act.put _ (some 19) _ = _
     simp only [Act.put, List.setIfInBounds_toArray, List.set_cons_zero, List.set_cons_succ, i64_w, i32_w]; rfl
    refine one_ (i := 7) (N := some 20) #[true, true, true, true, true, true, true, true, true, false, false, false, false, true, false, false] rfl rfl (one_of HT_.out (by kernel_rfl)) (by decide) (fun K hK => ?_)
    refine goes_ Try.func108 (by kernel_rfl) rfl #[.int .i64 a0_0, .int .i64 t426] (by rfl) rfl rfl zq6 ?_
    with_reducible refine (spec_dyDown.calls a0_0 t426 t427 _ A10.out).mono ?_
    rintro e w' ⟨rfl, ⟨nd, rfl⟩⟩
    refine ⟨_, rfl, ?_⟩
    refine hK.out _ _ ⟨zc BK424 0, zc BK424 1⟩ (fun hHeld => ?_)
    clear hK K
    refine norm_ (a' := ?_) ?_ ?_
    rotate_left
    ·
     show Act.put _ (some 20) _ = _
     simp only [Act.put, List.setIfInBounds_toArray, List.set_cons_zero, List.set_cons_succ, i64_w, i32_w]; rfl
    refine one_ (i := 9) (N := some 22) #[true, true, true, true, true, true, true, true, true, true, false, false, false, true, false, false] rfl rfl (one_of HT_.out (by kernel_rfl)) (by decide) (fun K hK => ?_)
    refine goes_ Try.func107 (by kernel_rfl) rfl #[.int .i64 t427, .int .i64 a1] (by rfl) rfl rfl zq6 ?_
    with_reducible refine (spec_dyMake.calls k t427 a1 t428 t429 t430 _ A11.out).mono ?_
    rintro e w18 ⟨rfl, hb⟩
    refine ⟨_, rfl, ?_⟩
    replace BK424 := Aside0.mk (zbb BK424 hb); replace BK425 := Aside0.mk (zbb BK425 hb); replace BK431 := Aside0.mk (zbb BK431 hb); replace HB := Aside0.mk (below_step (zb1 HB) hb)
    (try clear hb)
    (try clear hb2)
    (try clear hk)
    (try clear hi)
    refine hK.out _ _ ⟨zc BK424 0, zc BK424 1⟩ (fun hHeld => ?_)
    clear hK K
    refine norm_ (a' := ?_) ?_ ?_
    rotate_left
    ·
     show Act.put _ (some 22) _ = _
     simp only [Act.put, List.setIfInBounds_toArray, List.set_cons_zero, List.set_cons_succ, i64_w, i32_w]; rfl
    refine zp (i := 10) (N := some 12) #[true, true, true, true, true, true, true, true, true, true, true, false, false, true, false, false] (any_of HT_.out (by kernel_rfl)) ?_
    refine zp (i := 11) (N := some 23) #[true, true, true, true, true, true, true, true, true, true, true, true, false, true, false, false] (any_of HT_.out (by kernel_rfl)) ?_
    refine zp (i := 12) (N := some 24) #[true, true, true, true, true, true, true, true, true, true, true, true, true, true, false, false] (any_of HT_.out (by kernel_rfl)) ?_
    exact norm_ (by simp only [putAll, Act.put, List.setIfInBounds_toArray, List.set_cons_zero, List.set_cons_succ]) (hCont (gb431) _ ⟨hHeld, (zq1 BK424), (zq1 BK425), (zq1 BK431), GW431.out, GE431.out, NB424_431.out, NB431_424.out, NB425_431.out, NB431_425.out, (zb1 HB)⟩)
  rintro gb431 w19 ⟨hS_, h0_, h1_, h2_, h3_, h4_, h5_, h6_, h7_, h8_, h9_⟩
  have BK431 : Aside0 (w19.heap[gb431]? = some (.cells #[.int .i64 0, .int .i64 0] 27 (0, 0))) := ⟨h2_⟩
  have GW431 : Aside0 (w.heap.size ≤ gb431) := ⟨h3_⟩
  have GE431 : Aside0 (w.heap.size ≤ gb431) := ⟨h4_⟩
  have NB424_431 : Aside0 (gb424 ≠ gb431) := ⟨h5_⟩
  have NB431_424 : Aside0 (gb431 ≠ gb424) := ⟨h6_⟩
  have NB425_431 : Aside0 (gb425 ≠ gb431) := ⟨h7_⟩
  have NB431_425 : Aside0 (gb431 ≠ gb425) := ⟨h8_⟩
  replace BK424 : Aside0 (w19.heap[gb424]? = some (.cells #[.int .i64 a0_0, .int .i64 a0_1] 27 (0, 0))) := ⟨h0_⟩; replace BK425 : Aside0 (w19.heap[gb425]? = some (.cells #[.int .i64 0, .int .i64 0] 27 (0, 0))) := ⟨h1_⟩; replace HB : Aside0 (Below w.heap.size w w19) := ⟨h9_⟩
  clear h0_ h1_ h2_ h3_ h4_ h5_ h6_ h7_ h8_ h9_
  have hHeld : w19.cell? ⟨gb424, 0, none⟩ = some (.int .i64 a0_0) ∧ w19.cell? ⟨gb424, 1, none⟩ = some (.int .i64 a0_1) := hS_
  refine norm_ (a' := ?_) ?_ ?_
  rotate_left
  ·
   simp only [putAll, Act.put, List.setIfInBounds_toArray, List.set_cons_zero, List.set_cons_succ]
   rfl
  refine one_ (i := 14) (N := none) #[true, true, true, true, true, true, true, true, true, true, true, true, true, true, true, false] rfl rfl (one_of HT_.out (by kernel_rfl)) (by decide) (fun K hK => ?_)
  have hs20 : w19.cell? ⟨gb431, 0, none⟩ = some (.int .i64 0) := zc BK431 0
  have hfs20 := blk_frozen BK431.out 0
  have hns20_0 := NB424_431.out
  have hns20_1 := NB425_431.out
  have hms20_0 := NB431_424.out
  have hms20_1 := NB431_425.out
  have hs21 : w19.cell? ⟨gb431, 1, none⟩ = some (.int .i64 0) := zc BK431 1
  have hfs21 := blk_frozen BK431.out 1
  have hns21_0 := NB424_431.out
  have hns21_1 := NB425_431.out
  have hms21_0 := NB431_424.out
  have hms21_1 := NB431_425.out
  refine skip_ (w1 := ?_) (by rfl) rfl ?_ ?_
  rotate_left
  ·
   go_simp
   rfl
  refine hK.out _ _ ⟨((cell_far (p := ⟨gb431, _, none⟩) NB424_431.out _).trans (((cell_far (p := ⟨gb431, _, none⟩) NB424_431.out _).trans (hHeld.1)))), ((cell_far (p := ⟨gb431, _, none⟩) NB424_431.out _).trans (((cell_far (p := ⟨gb431, _, none⟩) NB424_431.out _).trans (hHeld.2))))⟩ (fun hHeld => ?_)
  clear hK K
  refine zp (i := 15) (N := some 6) #[true, true, true, true, true, true, true, true, true, true, true, true, true, true, true, true] (any_of HT_.out (by kernel_rfl)) ?_
  refine done_ (done_of HT_.out (by kernel_rfl)) ?_
  have hnb22 := NB431_424.out
  have hnc22 := NB424_431.out
  have hnb23 := NB431_425.out
  have hnc23 := NB425_431.out
  have hcz24_0 : w19.cell? ⟨gb431, 0, none⟩ = some (.int .i64 0) := zc BK431 0
  have hcz24_1 : w19.cell? ⟨gb431, 1, none⟩ = some (.int .i64 0) := zc BK431 1
  have hfz24_0 := blk_frozen BK431.out 0
  have hfz24_1 := blk_frozen BK431.out 1
  have hcz25_0 : w19.cell? ⟨gb425, 0, none⟩ = some (.int .i64 0) := zc BK425 0
  have hcz25_1 : w19.cell? ⟨gb425, 1, none⟩ = some (.int .i64 0) := zc BK425 1
  have hfz25_0 := blk_frozen BK425.out 0
  have hfz25_1 := blk_frozen BK425.out 1
  try go_wp2
  refine bodyPost_ret (results_cell_row rfl _ _ gb425 27 #[.int .i64 t428, .int .i64 t429] (0, 0) _ rfl (by (with_reducible repeat (first | refine blk_drewN ?_ _ | refine blk_drew ?_ | refine blk_alloc ?_ _)); refine blk_put (cs := #[.int .i64 t428, .int .i64 0]) ?_ 1 _ rfl; (with_reducible repeat (first | refine blk_drewN ?_ _ | refine blk_drew ?_ | refine blk_alloc ?_ _)); refine blk_put (cs := #[.int .i64 0, .int .i64 0]) ?_ 0 _ rfl; (with_reducible repeat (first | refine blk_drewN ?_ _ | refine blk_drew ?_ | refine blk_alloc ?_ _)); refine blk_far ?_ NB425_431.out _; (with_reducible repeat (first | refine blk_drewN ?_ _ | refine blk_drew ?_ | refine blk_alloc ?_ _)); refine blk_far ?_ NB425_431.out _; (with_reducible repeat (first | refine blk_drewN ?_ _ | refine blk_drew ?_ | refine blk_alloc ?_ _)); exact BK425.out) Try.underlying27 rfl (by kernel_rfl)) rfl ?_
  exact ⟨by first | rfl | (simp [errW_none, errW_some] <;> rfl) | (simp [*, errW_none, errW_some] <;> rfl), (zb1 HB)⟩
end Go.Proofs.Ytinpcalgdiigiaa.PD
