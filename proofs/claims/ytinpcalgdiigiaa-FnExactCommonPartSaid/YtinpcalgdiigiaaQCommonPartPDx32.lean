-- Written by a program of this session (wip/mk/drv.py) out of the seat's translation; Lean checks it.
import Derived.Test.YtinpcalgdiigiaaQCommonPartPDx0
import Derived.Test.YtinpcalgdiigiaaQCommonPartPDx1
import Derived.Test.YtinpcalgdiigiaaQCommonPartPDx6
import Derived.Test.YtinpcalgdiigiaaQCommonPartPDx24
namespace Go.Proofs.Ytinpcalgdiigiaa.PD
open Go.RowKit Go.Proofs.YtinpcalgdiigiaaW.PrintWords Go.Proofs.YtinpcalgdiigiaaW.PrintLast Go.Proofs.YtinpcalgdiigiaaW.PrintMore
attribute [local go_sem] max2_int min2_int max_two min_two max_three min_three max_four min_four   -- for this text's walks alone
set_option linter.unusedVariables false
set_option linter.unusedSimpArgs false
/-! ### spec_ivCommon: function 53 -/
theorem z53_0 {w W0 W1 : World} {B : Nat} (h : Aside0 (Below B w W0)) (f : Below B w W0 → Below B w W1 := by intro h_; repeat (first | (with_reducible first | exact h_ | apply below_alloc | apply pw_below_drewN | apply below_drew1) | exact h_)) : Below B w W1 := f h.out
theorem z53_1 {w W0 W1 : World} {B : Nat} (h : Aside0 (Below B w W0)) (f : Below B w W0 → Below B w W1 := by intro h_; repeat (first | (with_reducible first | exact h_ | apply below_alloc | apply pw_below_drewN | apply below_drew1 | refine below_set ?_ (Aside0.out (by assumption))) | exact h_)) : Below B w W1 := f h.out
def spec_ivCommon.T1 : Bool × List (List Nat × List Nat) := (true, [([], []), ([0], [0]), ([], []), ([2], [2]), ([1, 3], [1, 3]), ([4], [4]), ([5], [5]), ([], []), ([7], [7]), ([], []), ([9], [9]), ([8, 10], [8, 10]), ([11, 5], [11]), ([12], [12]), ([6, 13], [6, 13]), ([], []), ([15, 14, 12, 0, 1, 2, 3, 4, 5, 6, 7, 8, 9, 10, 11, 12, 13, 14, 15], [14, 15])])
def spec_ivCommon.B1 : List Nat := [0, 1, 0, 4, 15, 31, 63, 0, 128, 0, 512, 1920, 4031, 8127, 16383, 0, 65535]
theorem spec_ivCommon.tab1 : rtab .any (opsOf Try.f53 1) = spec_ivCommon.T1 := by kernel_rfl
theorem spec_ivCommon.bits1 : waitsOk spec_ivCommon.T1.2 spec_ivCommon.B1 = true := by kernel_rfl
set_option maxHeartbeats 8000000 in
set_option maxRecDepth 100000 in
theorem spec_ivCommon.calls (k : Nat) (a0_0 : Int) (a0_1 : Int) (a0_2 : Int) (a0_3 : Int) (a1_0 : Int) (a1_1 : Int) (a1_2 : Int) (a1_3 : Int) (r1 : Int) (r2 : Int) (r3 : Int) (r4 : Int) (r5 : Bool) (w : World) (h : spec_ivCommon.f k a0_0 a0_1 a0_2 a0_3 a1_0 a1_1 a1_2 a1_3 = some (r1, r2, r3, r4, r5)) :
  Calls Try.prog 53 #[.agg #[.int .i64 a0_0, .int .i64 a0_1, .int .i64 a0_2, .int .i64 a0_3], .agg #[.int .i64 a1_0, .int .i64 a1_1, .int .i64 a1_2, .int .i64 a1_3]] w fun e w' => e = .returned (.tuple #[.agg #[.int .i64 r1, .int .i64 r2, .int .i64 r3, .int .i64 r4], .bool r5]) ∧ Below w.heap.size w w' := by
 have hu29 := Try.underlying29
 have hu27 := Try.underlying27
 have HB := Aside0.mk (Below.refl w.heap.size w)
 have H : ((spec_ivEnds.f k (([(⟨a0_0, a0_1⟩ : S27), (⟨a1_0, a1_1⟩ : S27)] : List (S27)))).bind fun bt347 => ((spec_ivEnds.f k (([(⟨a0_2, a0_3⟩ : S27), (⟨a1_2, a1_3⟩ : S27)] : List (S27)))).bind fun bt354 => ((spec_dyCmp.f k bt347.2.2.1 bt347.2.2.2 bt354.1 bt354.2.1).bind fun t359 => (if t359 > 0 then (some (0, 0, 0, 0, false)) else (some (bt347.2.2.1, bt347.2.2.2, bt354.1, bt354.2.1, true)))))) = some (r1, r2, r3, r4, r5) := h
 clear h
 obtain ⟨y344, hy344⟩ : ∃ y_ : List (S27), y_ = (([(⟨a0_0, a0_1⟩ : S27), (⟨a1_0, a1_1⟩ : S27)] : List (S27))) := ⟨_, rfl⟩
 replace H : ((spec_ivEnds.f k y344).bind fun bt347 => ((spec_ivEnds.f k (([(⟨a0_2, a0_3⟩ : S27), (⟨a1_2, a1_3⟩ : S27)] : List (S27)))).bind fun bt354 => ((spec_dyCmp.f k bt347.2.2.1 bt347.2.2.2 bt354.1 bt354.2.1).bind fun t359 => (if t359 > 0 then (some (0, 0, 0, 0, false)) else (some (bt347.2.2.1, bt347.2.2.2, bt354.1, bt354.2.1, true)))))) = some (r1, r2, r3, r4, r5) := by first | (rw [hy344]; with_reducible exact H) | (have H2_ := (Option.bind_some _ _).symm.trans H; rw [hy344]; with_reducible exact H2_) | (have H2_ := (Option.bind_some _ _).symm.trans H; with_reducible exact H2_) | with_reducible exact H | (rw [hy344]; exact H) | exact H
 have Ny344 := Aside0.mk hy344
 clear hy344
 replace H := Option.bind_eq_some_iff.mp H
 obtain ⟨⟨t347, t348, t349, t350⟩, A30, H⟩ := H
 replace H : ((spec_ivEnds.f k (([(⟨a0_2, a0_3⟩ : S27), (⟨a1_2, a1_3⟩ : S27)] : List (S27)))).bind fun bt354 => ((spec_dyCmp.f k t349 t350 bt354.1 bt354.2.1).bind fun t359 => (if t359 > 0 then (some (0, 0, 0, 0, false)) else (some (t349, t350, bt354.1, bt354.2.1, true))))) = some (r1, r2, r3, r4, r5) := H
 have A3 := Aside0.mk A30
 clear A30
 obtain ⟨y351, hy351⟩ : ∃ y_ : List (S27), y_ = (([(⟨a0_2, a0_3⟩ : S27), (⟨a1_2, a1_3⟩ : S27)] : List (S27))) := ⟨_, rfl⟩
 replace H : ((spec_ivEnds.f k y351).bind fun bt354 => ((spec_dyCmp.f k t349 t350 bt354.1 bt354.2.1).bind fun t359 => (if t359 > 0 then (some (0, 0, 0, 0, false)) else (some (t349, t350, bt354.1, bt354.2.1, true))))) = some (r1, r2, r3, r4, r5) := by first | (rw [hy351]; with_reducible exact H) | (have H2_ := (Option.bind_some _ _).symm.trans H; rw [hy351]; with_reducible exact H2_) | (have H2_ := (Option.bind_some _ _).symm.trans H; with_reducible exact H2_) | with_reducible exact H | (rw [hy351]; exact H) | exact H
 have Ny351 := Aside0.mk hy351
 clear hy351
 replace H := Option.bind_eq_some_iff.mp H
 obtain ⟨⟨t354, t355, t356, t357⟩, A40, H⟩ := H
 replace H : ((spec_dyCmp.f k t349 t350 t354 t355).bind fun t359 => (if t359 > 0 then (some (0, 0, 0, 0, false)) else (some (t349, t350, t354, t355, true)))) = some (r1, r2, r3, r4, r5) := H
 have A4 := Aside0.mk A40
 clear A40
 replace H := Option.bind_eq_some_iff.mp H
 obtain ⟨t359, A50, H⟩ := H
 replace H : (if t359 > 0 then (some (0, 0, 0, 0, false)) else (some (t349, t350, t354, t355, true))) = some (r1, r2, r3, r4, r5) := H
 have A5 := Aside0.mk A50
 clear A50
 by_cases c6 : t359 > 0
 ·
  rw [if_pos c6] at H
  have c6b0 : decide (0 < t359) = true := decide_eq_true c6
  clear c6
  simp only [Option.some.injEq, Prod.mk.injEq] at H
  obtain ⟨rfl, rfl, rfl, rfl, rfl⟩ := H
  go_enter Try.func53, Try.ntmps53
  try go_wp2_with (first | ((with_reducible refine gate_dst (N := 2) rfl ?_); refine box_event ?hg (N := 2) ?hd (cs := #[.int .i64 a0_0, .int .i64 a0_1, .int .i64 a0_2, .int .i64 a0_3]) (t := 29) ?hr ?_; (case hd => rfl); (case hg => rfl); (case hr => first | (go_simp; done) | (go_simp; rfl)); intro gb341 hg w7 hbox hb; have n0_ := Aside0.mk (below_step (z53_0 HB) hb); have n1_ := Aside0.mk (hbox); have n2_ := Aside0.mk ((by rw [hg]; exact (below_size (z53_0 HB)) : w.heap.size ≤ gb341)); have n3_ := Aside0.mk ((by rw [hg]; exact (below_size (z53_0 HB)) : w.heap.size ≤ gb341)); clear HB; have HB := n0_; have BK341 := n1_; have GW341 := n2_; have GE341 := n3_; clear n0_ n1_ n2_ n3_; clear hb hbox hg) | ((with_reducible refine gate_dst (N := 3) rfl ?_); refine box_event ?hg (N := 3) ?hd (cs := #[.int .i64 a1_0, .int .i64 a1_1, .int .i64 a1_2, .int .i64 a1_3]) (t := 29) ?hr ?_; (case hd => rfl); (case hg => rfl); (case hr => first | (go_simp; done) | (go_simp; rfl)); intro gb342 hg w8 hbox hb; have n0_ := Aside0.mk (zbb BK341 hb); have n1_ := Aside0.mk (below_step (z53_1 HB) hb); have n2_ := Aside0.mk (hbox); have n3_ := Aside0.mk ((by rw [hg]; exact (below_size (z53_1 HB)) : w.heap.size ≤ gb342)); have n4_ := Aside0.mk ((by rw [hg]; exact (below_size (z53_1 HB)) : w.heap.size ≤ gb342)); have n5_ := Aside0.mk (zlt BK341 hg); have n6_ := Aside0.mk (zgt BK341 hg); clear BK341; clear HB; have BK341 := n0_; have HB := n1_; have BK342 := n2_; have GW342 := n3_; have GE342 := n4_; have NB341_342 := n5_; have NB342_341 := n6_; clear n0_ n1_ n2_ n3_ n4_ n5_ n6_; clear hb hbox hg) | ((with_reducible refine gate_dst (N := 4) rfl ?_); refine box_event ?hg (N := 4) ?hd (cs := #[.int .i64 0, .int .i64 0, .int .i64 0, .int .i64 0]) (t := 29) ?hr ?_; (case hd => rfl); (case hg => rfl); (case hr => first | (go_simp; done) | (go_simp; rfl)); intro gb343 hg w9 hbox hb; have n0_ := Aside0.mk (zbb BK341 hb); have n1_ := Aside0.mk (zbb BK342 hb); have n2_ := Aside0.mk (below_step (z53_1 HB) hb); have n3_ := Aside0.mk (hbox); have n4_ := Aside0.mk ((by rw [hg]; exact (below_size (z53_1 HB)) : w.heap.size ≤ gb343)); have n5_ := Aside0.mk ((by rw [hg]; exact (below_size (z53_1 HB)) : w.heap.size ≤ gb343)); have n6_ := Aside0.mk (zlt BK341 hg); have n7_ := Aside0.mk (zgt BK341 hg); have n8_ := Aside0.mk (zlt BK342 hg); have n9_ := Aside0.mk (zgt BK342 hg); clear BK341; clear BK342; clear HB; have BK341 := n0_; have BK342 := n1_; have HB := n2_; have BK343 := n3_; have GW343 := n4_; have GE343 := n5_; have NB341_343 := n6_; have NB343_341 := n7_; have NB342_343 := n8_; have NB343_342 := n9_; clear n0_ n1_ n2_ n3_ n4_ n5_ n6_ n7_ n8_ n9_; clear hb hbox hg))
  have n0_ := Aside0.mk (blk_drew BK341.out)
  have n1_ := Aside0.mk (blk_drew BK342.out)
  have n2_ := Aside0.mk (blk_drew BK343.out)
  have n3_ := Aside0.mk (below_drew1 HB.out)
  clear BK341 BK342 BK343 HB
  have BK341 := n0_; have BK342 := n1_; have BK343 := n2_; have HB := n3_
  clear n0_ n1_ n2_ n3_
  refine start_ (n := 17) (S := fun w' => w'.cell? ⟨gb341, 0, none⟩ = some (.int .i64 a0_0) ∧ w'.cell? ⟨gb341, 1, none⟩ = some (.int .i64 a0_1) ∧ w'.cell? ⟨gb341, 2, none⟩ = some (.int .i64 a0_2) ∧ w'.cell? ⟨gb341, 3, none⟩ = some (.int .i64 a0_3) ∧ w'.cell? ⟨gb342, 0, none⟩ = some (.int .i64 a1_0) ∧ w'.cell? ⟨gb342, 1, none⟩ = some (.int .i64 a1_1) ∧ w'.cell? ⟨gb342, 2, none⟩ = some (.int .i64 a1_2) ∧ w'.cell? ⟨gb342, 3, none⟩ = some (.int .i64 a1_3)) (ds := []) #[false, false, false, false, false, false, false, false, false, false, false, false, false, false, false, false, false] (by kernel_rfl) rfl rfl ⟨zc BK341 0, zc BK341 1, zc BK341 2, zc BK341 3, zc BK342 0, zc BK342 1, zc BK342 2, zc BK342 3⟩ (fun hHeld => ?_); refine with_tabW spec_ivCommon.tab1 spec_ivCommon.bits1 (fun HT_ HW_ => ?_)
  generalize w9.drew = w10 at BK341 BK342 BK343 HB hHeld ⊢
  refine pure_ (i := 0) (N := some 7) (v := ?_) (a' := ?_) #[true, false, false, false, false, false, false, false, false, false, false, false, false, false, false, false, false] rfl rfl (any_of HT_.out (by kernel_rfl)) (fun _ _ _ h => h) (Or.inl ⟨by rfl, ?_⟩) ?_ ?_
  rotate_left
  ·
   intro w'
   first | (go_simp; with_reducible rfl) | (go_simp; simp only [Instr.field]; go_simp; simp only [asAgg]; go_simp; rfl)
  rotate_left
  ·
   simp only [Act.put, List.setIfInBounds_toArray, List.set_cons_zero, List.set_cons_succ, i64_w, i32_w]
   rfl
  refine pure_ (i := 2) (N := some 9) (v := ?_) (a' := ?_) #[true, false, true, false, false, false, false, false, false, false, false, false, false, false, false, false, false] rfl rfl (any_of HT_.out (by kernel_rfl)) (fun _ _ _ h => h) (Or.inl ⟨by rfl, ?_⟩) ?_ ?_
  rotate_left
  ·
   intro w'
   first | (go_simp; with_reducible rfl) | (go_simp; simp only [Instr.field]; go_simp; simp only [asAgg]; go_simp; rfl)
  rotate_left
  ·
   simp only [Act.put, List.setIfInBounds_toArray, List.set_cons_zero, List.set_cons_succ, i64_w, i32_w]
   rfl
  refine pure_ (i := 7) (N := some 14) (v := ?_) (a' := ?_) #[true, false, true, false, false, false, false, true, false, false, false, false, false, false, false, false, false] rfl rfl (any_of HT_.out (by kernel_rfl)) (fun _ _ _ h => h) (Or.inl ⟨by rfl, ?_⟩) ?_ ?_
  rotate_left
  ·
   intro w'
   first | (go_simp; with_reducible rfl) | (go_simp; simp only [Instr.field]; go_simp; simp only [asAgg]; go_simp; rfl)
  rotate_left
  ·
   simp only [Act.put, List.setIfInBounds_toArray, List.set_cons_zero, List.set_cons_succ, i64_w, i32_w]
   rfl
  refine pure_ (i := 9) (N := some 16) (v := ?_) (a' := ?_) #[true, false, true, false, false, false, false, true, false, true, false, false, false, false, false, false, false] rfl rfl (any_of HT_.out (by kernel_rfl)) (fun _ _ _ h => h) (Or.inl ⟨by rfl, ?_⟩) ?_ ?_
  rotate_left
  ·
   intro w'
   first | (go_simp; with_reducible rfl) | (go_simp; simp only [Instr.field]; go_simp; simp only [asAgg]; go_simp; rfl)
  rotate_left
  ·
   simp only [Act.put, List.setIfInBounds_toArray, List.set_cons_zero, List.set_cons_succ, i64_w, i32_w]
   rfl
  refine take_ (i := 1) (N := some 8) (v := ?_) (a' := ?_) #[true, true, true, false, false, false, false, true, false, true, false, false, false, false, false, false, false] rfl rfl (take_ofW HT_.out HW_.out (by kernel_rfl)) (fun _ _ _ h => h) (Or.inl ⟨by rfl, ?_⟩) hHeld ?_ ?_
  rotate_left
  ·
   rintro w' ⟨s0, s1, s2, s3, s4, s5, s6, s7⟩
   first | (go_simp; with_reducible rfl) | (go_simp; simp only [Instr.field]; go_simp; simp only [asAgg]; go_simp; rfl)
  rotate_left
  ·
   simp only [Act.put, List.setIfInBounds_toArray, List.set_cons_zero, List.set_cons_succ, i64_w, i32_w]
   rfl
  refine take_ (i := 3) (N := some 10) (v := ?_) (a' := ?_) #[true, true, true, true, false, false, false, true, false, true, false, false, false, false, false, false, false] rfl rfl (take_ofW HT_.out HW_.out (by kernel_rfl)) (fun _ _ _ h => h) (Or.inl ⟨by rfl, ?_⟩) hHeld ?_ ?_
  rotate_left
  ·
   rintro w' ⟨s0, s1, s2, s3, s4, s5, s6, s7⟩
   first | (go_simp; with_reducible rfl) | (go_simp; simp only [Instr.field]; go_simp; simp only [asAgg]; go_simp; rfl)
  rotate_left
  ·
   simp only [Act.put, List.setIfInBounds_toArray, List.set_cons_zero, List.set_cons_succ, i64_w, i32_w]
   rfl
  refine take_ (i := 8) (N := some 15) (v := ?_) (a' := ?_) #[true, true, true, true, false, false, false, true, true, true, false, false, false, false, false, false, false] rfl rfl (take_ofW HT_.out HW_.out (by kernel_rfl)) (fun _ _ _ h => h) (Or.inl ⟨by rfl, ?_⟩) hHeld ?_ ?_
  rotate_left
  ·
   rintro w' ⟨s0, s1, s2, s3, s4, s5, s6, s7⟩
   first | (go_simp; with_reducible rfl) | (go_simp; simp only [Instr.field]; go_simp; simp only [asAgg]; go_simp; rfl)
  rotate_left
  ·
   simp only [Act.put, List.setIfInBounds_toArray, List.set_cons_zero, List.set_cons_succ, i64_w, i32_w]
   rfl
  refine take_ (i := 10) (N := some 17) (v := ?_) (a' := ?_) #[true, true, true, true, false, false, false, true, true, true, true, false, false, false, false, false, false] rfl rfl (take_ofW HT_.out HW_.out (by kernel_rfl)) (fun _ _ _ h => h) (Or.inl ⟨by rfl, ?_⟩) hHeld ?_ ?_
  rotate_left
  ·
   rintro w' ⟨s0, s1, s2, s3, s4, s5, s6, s7⟩
   first | (go_simp; with_reducible rfl) | (go_simp; simp only [Instr.field]; go_simp; simp only [asAgg]; go_simp; rfl)
  rotate_left
  ·
   simp only [Act.put, List.setIfInBounds_toArray, List.set_cons_zero, List.set_cons_succ, i64_w, i32_w]
   rfl
  refine join_ (σ := Value × Value × Nat) 1 #[true, true, true, true, true, true, true, true, true, true, true, true, true, true, true, true, false] (fun s_ => [(11, s_.1), (12, .agg #[.int .i64 t347, .int .i64 t348, .int .i64 t349, .int .i64 t350]), (18, s_.2.1), (19, .agg #[.int .i64 t354, .int .i64 t355, .int .i64 t356, .int .i64 t357]), (6, .pointer (some ⟨s_.2.2, 0, none⟩)), (13, .agg #[.int .i64 t349, .int .i64 t350]), (20, .agg #[.int .i64 t354, .int .i64 t355]), (21, .agg #[.int .i64 t349, .int .i64 t350, .int .i64 t354, .int .i64 t355])]) (fun s_ w' => (w'.cell? ⟨gb341, 0, none⟩ = some (.int .i64 a0_0) ∧ w'.cell? ⟨gb341, 1, none⟩ = some (.int .i64 a0_1) ∧ w'.cell? ⟨gb341, 2, none⟩ = some (.int .i64 a0_2) ∧ w'.cell? ⟨gb341, 3, none⟩ = some (.int .i64 a0_3) ∧ w'.cell? ⟨gb342, 0, none⟩ = some (.int .i64 a1_0) ∧ w'.cell? ⟨gb342, 1, none⟩ = some (.int .i64 a1_1) ∧ w'.cell? ⟨gb342, 2, none⟩ = some (.int .i64 a1_2) ∧ w'.cell? ⟨gb342, 3, none⟩ = some (.int .i64 a1_3)) ∧ (Kd.R k27 27 w' w.heap.size (fun k_ => some k_ ≠ (s_.2.1 : Value).ownBlock) s_.1 y344) ∧ (Kd.R k27 27 w' w.heap.size (fun k_ => some k_ ≠ (s_.1 : Value).ownBlock) s_.2.1 y351) ∧ (w'.heap[gb341]? = some (.cells #[.int .i64 a0_0, .int .i64 a0_1, .int .i64 a0_2, .int .i64 a0_3] 29 (0, 0))) ∧ (w'.heap[gb342]? = some (.cells #[.int .i64 a1_0, .int .i64 a1_1, .int .i64 a1_2, .int .i64 a1_3] 29 (0, 0))) ∧ (w'.heap[gb343]? = some (.cells #[.int .i64 0, .int .i64 0, .int .i64 0, .int .i64 0] 29 (0, 0))) ∧ (w'.heap[s_.2.2]? = some (.cells #[.int .i64 0, .int .i64 0, .int .i64 0, .int .i64 0] 29 (0, 0))) ∧ (w.heap.size ≤ s_.2.2) ∧ (w.heap.size ≤ s_.2.2) ∧ (gb341 ≠ s_.2.2) ∧ (s_.2.2 ≠ gb341) ∧ (gb342 ≠ s_.2.2) ∧ (s_.2.2 ≠ gb342) ∧ (gb343 ≠ s_.2.2) ∧ (s_.2.2 ≠ gb343) ∧ (Below w.heap.size w w')) ?_ ?_
  rotate_left
  ·
   intro hJ4_5_11_12_15
   refine join_ (σ := Value × Value) 2 #[true, true, true, true, true, true, true, true, true, true, true, true, true, true, true, false, false] (fun s_ => [(11, s_.1), (12, .agg #[.int .i64 t347, .int .i64 t348, .int .i64 t349, .int .i64 t350]), (18, s_.2), (19, .agg #[.int .i64 t354, .int .i64 t355, .int .i64 t356, .int .i64 t357]), (13, .agg #[.int .i64 t349, .int .i64 t350]), (20, .agg #[.int .i64 t354, .int .i64 t355]), (21, .agg #[.int .i64 t349, .int .i64 t350, .int .i64 t354, .int .i64 t355])]) (fun s_ w' => (w'.cell? ⟨gb341, 0, none⟩ = some (.int .i64 a0_0) ∧ w'.cell? ⟨gb341, 1, none⟩ = some (.int .i64 a0_1) ∧ w'.cell? ⟨gb341, 2, none⟩ = some (.int .i64 a0_2) ∧ w'.cell? ⟨gb341, 3, none⟩ = some (.int .i64 a0_3) ∧ w'.cell? ⟨gb342, 0, none⟩ = some (.int .i64 a1_0) ∧ w'.cell? ⟨gb342, 1, none⟩ = some (.int .i64 a1_1) ∧ w'.cell? ⟨gb342, 2, none⟩ = some (.int .i64 a1_2) ∧ w'.cell? ⟨gb342, 3, none⟩ = some (.int .i64 a1_3)) ∧ (Kd.R k27 27 w' w.heap.size (fun k_ => some k_ ≠ (s_.2 : Value).ownBlock) s_.1 y344) ∧ (Kd.R k27 27 w' w.heap.size (fun k_ => some k_ ≠ (s_.1 : Value).ownBlock) s_.2 y351) ∧ (w'.heap[gb341]? = some (.cells #[.int .i64 a0_0, .int .i64 a0_1, .int .i64 a0_2, .int .i64 a0_3] 29 (0, 0))) ∧ (w'.heap[gb342]? = some (.cells #[.int .i64 a1_0, .int .i64 a1_1, .int .i64 a1_2, .int .i64 a1_3] 29 (0, 0))) ∧ (w'.heap[gb343]? = some (.cells #[.int .i64 0, .int .i64 0, .int .i64 0, .int .i64 0] 29 (0, 0))) ∧ (Below w.heap.size w w')) ?_ ?_
   rotate_left
   ·
    intro hJ4_5_11_12
    refine join_ (σ := Value × Value × Nat) 4 #[true, true, true, true, true, true, true, true, true, true, true, true, false, false, false, true, false] (fun s_ => [(11, s_.1), (12, .agg #[.int .i64 t347, .int .i64 t348, .int .i64 t349, .int .i64 t350]), (18, s_.2.1), (6, .pointer (some ⟨s_.2.2, 0, none⟩)), (13, .agg #[.int .i64 t349, .int .i64 t350])]) (fun s_ w' => (w'.cell? ⟨gb341, 0, none⟩ = some (.int .i64 a0_0) ∧ w'.cell? ⟨gb341, 1, none⟩ = some (.int .i64 a0_1) ∧ w'.cell? ⟨gb341, 2, none⟩ = some (.int .i64 a0_2) ∧ w'.cell? ⟨gb341, 3, none⟩ = some (.int .i64 a0_3) ∧ w'.cell? ⟨gb342, 0, none⟩ = some (.int .i64 a1_0) ∧ w'.cell? ⟨gb342, 1, none⟩ = some (.int .i64 a1_1) ∧ w'.cell? ⟨gb342, 2, none⟩ = some (.int .i64 a1_2) ∧ w'.cell? ⟨gb342, 3, none⟩ = some (.int .i64 a1_3)) ∧ (Kd.R k27 27 w' w.heap.size (fun k_ => some k_ ≠ (s_.2.1 : Value).ownBlock) s_.1 y344) ∧ (Kd.R k27 27 w' w.heap.size (fun k_ => some k_ ≠ (s_.1 : Value).ownBlock) s_.2.1 y351) ∧ (w'.heap[gb341]? = some (.cells #[.int .i64 a0_0, .int .i64 a0_1, .int .i64 a0_2, .int .i64 a0_3] 29 (0, 0))) ∧ (w'.heap[gb342]? = some (.cells #[.int .i64 a1_0, .int .i64 a1_1, .int .i64 a1_2, .int .i64 a1_3] 29 (0, 0))) ∧ (w'.heap[gb343]? = some (.cells #[.int .i64 0, .int .i64 0, .int .i64 0, .int .i64 0] 29 (0, 0))) ∧ (w'.heap[s_.2.2]? = some (.cells #[.int .i64 0, .int .i64 0, .int .i64 0, .int .i64 0] 29 (0, 0))) ∧ (w.heap.size ≤ s_.2.2) ∧ (w.heap.size ≤ s_.2.2) ∧ (gb341 ≠ s_.2.2) ∧ (s_.2.2 ≠ gb341) ∧ (gb342 ≠ s_.2.2) ∧ (s_.2.2 ≠ gb342) ∧ (gb343 ≠ s_.2.2) ∧ (s_.2.2 ≠ gb343) ∧ (Below w.heap.size w w')) ?_ ?_
    rotate_left
    ·
     intro hJ4_5_11_15
     refine join_ (σ := Value × Value) 5 #[true, true, true, true, true, true, true, true, true, true, true, true, false, false, false, false, false] (fun s_ => [(11, s_.1), (12, .agg #[.int .i64 t347, .int .i64 t348, .int .i64 t349, .int .i64 t350]), (18, s_.2), (13, .agg #[.int .i64 t349, .int .i64 t350])]) (fun s_ w' => (w'.cell? ⟨gb341, 0, none⟩ = some (.int .i64 a0_0) ∧ w'.cell? ⟨gb341, 1, none⟩ = some (.int .i64 a0_1) ∧ w'.cell? ⟨gb341, 2, none⟩ = some (.int .i64 a0_2) ∧ w'.cell? ⟨gb341, 3, none⟩ = some (.int .i64 a0_3) ∧ w'.cell? ⟨gb342, 0, none⟩ = some (.int .i64 a1_0) ∧ w'.cell? ⟨gb342, 1, none⟩ = some (.int .i64 a1_1) ∧ w'.cell? ⟨gb342, 2, none⟩ = some (.int .i64 a1_2) ∧ w'.cell? ⟨gb342, 3, none⟩ = some (.int .i64 a1_3)) ∧ (Kd.R k27 27 w' w.heap.size (fun k_ => some k_ ≠ (s_.2 : Value).ownBlock) s_.1 y344) ∧ (Kd.R k27 27 w' w.heap.size (fun k_ => some k_ ≠ (s_.1 : Value).ownBlock) s_.2 y351) ∧ (w'.heap[gb341]? = some (.cells #[.int .i64 a0_0, .int .i64 a0_1, .int .i64 a0_2, .int .i64 a0_3] 29 (0, 0))) ∧ (w'.heap[gb342]? = some (.cells #[.int .i64 a1_0, .int .i64 a1_1, .int .i64 a1_2, .int .i64 a1_3] 29 (0, 0))) ∧ (w'.heap[gb343]? = some (.cells #[.int .i64 0, .int .i64 0, .int .i64 0, .int .i64 0] 29 (0, 0))) ∧ (Below w.heap.size w w')) ?_ ?_
     rotate_left
     ·
      intro hJ4_5_11
      refine join_ (σ := Value × Nat) 5 #[true, true, true, true, true, true, true, true, true, true, true, false, false, false, false, true, false] (fun s_ => [(11, s_.1), (12, .agg #[.int .i64 t347, .int .i64 t348, .int .i64 t349, .int .i64 t350]), (6, .pointer (some ⟨s_.2, 0, none⟩)), (13, .agg #[.int .i64 t349, .int .i64 t350])]) (fun s_ w' => (w'.cell? ⟨gb341, 0, none⟩ = some (.int .i64 a0_0) ∧ w'.cell? ⟨gb341, 1, none⟩ = some (.int .i64 a0_1) ∧ w'.cell? ⟨gb341, 2, none⟩ = some (.int .i64 a0_2) ∧ w'.cell? ⟨gb341, 3, none⟩ = some (.int .i64 a0_3) ∧ w'.cell? ⟨gb342, 0, none⟩ = some (.int .i64 a1_0) ∧ w'.cell? ⟨gb342, 1, none⟩ = some (.int .i64 a1_1) ∧ w'.cell? ⟨gb342, 2, none⟩ = some (.int .i64 a1_2) ∧ w'.cell? ⟨gb342, 3, none⟩ = some (.int .i64 a1_3)) ∧ (Kd.R k27 27 w' w.heap.size (fun _ => True) s_.1 y344) ∧ (w'.heap[gb341]? = some (.cells #[.int .i64 a0_0, .int .i64 a0_1, .int .i64 a0_2, .int .i64 a0_3] 29 (0, 0))) ∧ (w'.heap[gb342]? = some (.cells #[.int .i64 a1_0, .int .i64 a1_1, .int .i64 a1_2, .int .i64 a1_3] 29 (0, 0))) ∧ (w'.heap[gb343]? = some (.cells #[.int .i64 0, .int .i64 0, .int .i64 0, .int .i64 0] 29 (0, 0))) ∧ (w'.heap[s_.2]? = some (.cells #[.int .i64 0, .int .i64 0, .int .i64 0, .int .i64 0] 29 (0, 0))) ∧ (w.heap.size ≤ s_.2) ∧ (w.heap.size ≤ s_.2) ∧ (gb341 ≠ s_.2) ∧ (s_.2 ≠ gb341) ∧ (gb342 ≠ s_.2) ∧ (s_.2 ≠ gb342) ∧ (gb343 ≠ s_.2) ∧ (s_.2 ≠ gb343) ∧ (Below w.heap.size w w')) ?_ ?_
      rotate_left
      ·
       intro hJ4_5_15
       refine join_ (σ := Value × Value × Nat) 6 #[true, true, true, true, true, false, false, true, true, true, true, true, false, false, false, true, false] (fun s_ => [(11, s_.1), (18, s_.2.1), (6, .pointer (some ⟨s_.2.2, 0, none⟩))]) (fun s_ w' => (w'.cell? ⟨gb341, 0, none⟩ = some (.int .i64 a0_0) ∧ w'.cell? ⟨gb341, 1, none⟩ = some (.int .i64 a0_1) ∧ w'.cell? ⟨gb341, 2, none⟩ = some (.int .i64 a0_2) ∧ w'.cell? ⟨gb341, 3, none⟩ = some (.int .i64 a0_3) ∧ w'.cell? ⟨gb342, 0, none⟩ = some (.int .i64 a1_0) ∧ w'.cell? ⟨gb342, 1, none⟩ = some (.int .i64 a1_1) ∧ w'.cell? ⟨gb342, 2, none⟩ = some (.int .i64 a1_2) ∧ w'.cell? ⟨gb342, 3, none⟩ = some (.int .i64 a1_3)) ∧ (Kd.R k27 27 w' w.heap.size (fun k_ => some k_ ≠ (s_.2.1 : Value).ownBlock) s_.1 y344) ∧ (Kd.R k27 27 w' w.heap.size (fun k_ => some k_ ≠ (s_.1 : Value).ownBlock) s_.2.1 y351) ∧ (w'.heap[gb341]? = some (.cells #[.int .i64 a0_0, .int .i64 a0_1, .int .i64 a0_2, .int .i64 a0_3] 29 (0, 0))) ∧ (w'.heap[gb342]? = some (.cells #[.int .i64 a1_0, .int .i64 a1_1, .int .i64 a1_2, .int .i64 a1_3] 29 (0, 0))) ∧ (w'.heap[gb343]? = some (.cells #[.int .i64 0, .int .i64 0, .int .i64 0, .int .i64 0] 29 (0, 0))) ∧ (w'.heap[s_.2.2]? = some (.cells #[.int .i64 0, .int .i64 0, .int .i64 0, .int .i64 0] 29 (0, 0))) ∧ (w.heap.size ≤ s_.2.2) ∧ (w.heap.size ≤ s_.2.2) ∧ (gb341 ≠ s_.2.2) ∧ (s_.2.2 ≠ gb341) ∧ (gb342 ≠ s_.2.2) ∧ (s_.2.2 ≠ gb342) ∧ (gb343 ≠ s_.2.2) ∧ (s_.2.2 ≠ gb343) ∧ (Below w.heap.size w w')) ?_ ?_
       rotate_left
       ·
        intro hJ4_11_15
        refine join_ (σ := Value) 6 #[true, true, true, true, true, true, true, true, true, true, true, false, false, false, false, false, false] (fun s_ => [(11, s_), (12, .agg #[.int .i64 t347, .int .i64 t348, .int .i64 t349, .int .i64 t350]), (13, .agg #[.int .i64 t349, .int .i64 t350])]) (fun s_ w' => (w'.cell? ⟨gb341, 0, none⟩ = some (.int .i64 a0_0) ∧ w'.cell? ⟨gb341, 1, none⟩ = some (.int .i64 a0_1) ∧ w'.cell? ⟨gb341, 2, none⟩ = some (.int .i64 a0_2) ∧ w'.cell? ⟨gb341, 3, none⟩ = some (.int .i64 a0_3) ∧ w'.cell? ⟨gb342, 0, none⟩ = some (.int .i64 a1_0) ∧ w'.cell? ⟨gb342, 1, none⟩ = some (.int .i64 a1_1) ∧ w'.cell? ⟨gb342, 2, none⟩ = some (.int .i64 a1_2) ∧ w'.cell? ⟨gb342, 3, none⟩ = some (.int .i64 a1_3)) ∧ (Kd.R k27 27 w' w.heap.size (fun _ => True) s_ y344) ∧ (w'.heap[gb341]? = some (.cells #[.int .i64 a0_0, .int .i64 a0_1, .int .i64 a0_2, .int .i64 a0_3] 29 (0, 0))) ∧ (w'.heap[gb342]? = some (.cells #[.int .i64 a1_0, .int .i64 a1_1, .int .i64 a1_2, .int .i64 a1_3] 29 (0, 0))) ∧ (w'.heap[gb343]? = some (.cells #[.int .i64 0, .int .i64 0, .int .i64 0, .int .i64 0] 29 (0, 0))) ∧ (Below w.heap.size w w')) ?_ ?_
        rotate_left
        ·
         intro hJ4_5
         refine join_ (σ := Value × Value) 7 #[true, true, true, true, true, false, false, true, true, true, true, true, false, false, false, false, false] (fun s_ => [(11, s_.1), (18, s_.2)]) (fun s_ w' => (w'.cell? ⟨gb341, 0, none⟩ = some (.int .i64 a0_0) ∧ w'.cell? ⟨gb341, 1, none⟩ = some (.int .i64 a0_1) ∧ w'.cell? ⟨gb341, 2, none⟩ = some (.int .i64 a0_2) ∧ w'.cell? ⟨gb341, 3, none⟩ = some (.int .i64 a0_3) ∧ w'.cell? ⟨gb342, 0, none⟩ = some (.int .i64 a1_0) ∧ w'.cell? ⟨gb342, 1, none⟩ = some (.int .i64 a1_1) ∧ w'.cell? ⟨gb342, 2, none⟩ = some (.int .i64 a1_2) ∧ w'.cell? ⟨gb342, 3, none⟩ = some (.int .i64 a1_3)) ∧ (Kd.R k27 27 w' w.heap.size (fun k_ => some k_ ≠ (s_.2 : Value).ownBlock) s_.1 y344) ∧ (Kd.R k27 27 w' w.heap.size (fun k_ => some k_ ≠ (s_.1 : Value).ownBlock) s_.2 y351) ∧ (w'.heap[gb341]? = some (.cells #[.int .i64 a0_0, .int .i64 a0_1, .int .i64 a0_2, .int .i64 a0_3] 29 (0, 0))) ∧ (w'.heap[gb342]? = some (.cells #[.int .i64 a1_0, .int .i64 a1_1, .int .i64 a1_2, .int .i64 a1_3] 29 (0, 0))) ∧ (w'.heap[gb343]? = some (.cells #[.int .i64 0, .int .i64 0, .int .i64 0, .int .i64 0] 29 (0, 0))) ∧ (Below w.heap.size w w')) ?_ ?_
         rotate_left
         ·
          intro hJ4_11
          refine join_ (σ := Value × Nat) 7 #[true, true, true, true, true, false, false, true, true, true, true, false, false, false, false, true, false] (fun s_ => [(11, s_.1), (6, .pointer (some ⟨s_.2, 0, none⟩))]) (fun s_ w' => (w'.cell? ⟨gb341, 0, none⟩ = some (.int .i64 a0_0) ∧ w'.cell? ⟨gb341, 1, none⟩ = some (.int .i64 a0_1) ∧ w'.cell? ⟨gb341, 2, none⟩ = some (.int .i64 a0_2) ∧ w'.cell? ⟨gb341, 3, none⟩ = some (.int .i64 a0_3) ∧ w'.cell? ⟨gb342, 0, none⟩ = some (.int .i64 a1_0) ∧ w'.cell? ⟨gb342, 1, none⟩ = some (.int .i64 a1_1) ∧ w'.cell? ⟨gb342, 2, none⟩ = some (.int .i64 a1_2) ∧ w'.cell? ⟨gb342, 3, none⟩ = some (.int .i64 a1_3)) ∧ (Kd.R k27 27 w' w.heap.size (fun _ => True) s_.1 y344) ∧ (w'.heap[gb341]? = some (.cells #[.int .i64 a0_0, .int .i64 a0_1, .int .i64 a0_2, .int .i64 a0_3] 29 (0, 0))) ∧ (w'.heap[gb342]? = some (.cells #[.int .i64 a1_0, .int .i64 a1_1, .int .i64 a1_2, .int .i64 a1_3] 29 (0, 0))) ∧ (w'.heap[gb343]? = some (.cells #[.int .i64 0, .int .i64 0, .int .i64 0, .int .i64 0] 29 (0, 0))) ∧ (w'.heap[s_.2]? = some (.cells #[.int .i64 0, .int .i64 0, .int .i64 0, .int .i64 0] 29 (0, 0))) ∧ (w.heap.size ≤ s_.2) ∧ (w.heap.size ≤ s_.2) ∧ (gb341 ≠ s_.2) ∧ (s_.2 ≠ gb341) ∧ (gb342 ≠ s_.2) ∧ (s_.2 ≠ gb342) ∧ (gb343 ≠ s_.2) ∧ (s_.2 ≠ gb343) ∧ (Below w.heap.size w w')) ?_ ?_
          rotate_left
          ·
           intro hJ4_15
           refine join_ (σ := Value × Nat) 7 #[true, true, true, true, false, false, false, true, true, true, true, true, false, false, false, true, false] (fun s_ => [(18, s_.1), (6, .pointer (some ⟨s_.2, 0, none⟩))]) (fun s_ w' => (w'.cell? ⟨gb341, 0, none⟩ = some (.int .i64 a0_0) ∧ w'.cell? ⟨gb341, 1, none⟩ = some (.int .i64 a0_1) ∧ w'.cell? ⟨gb341, 2, none⟩ = some (.int .i64 a0_2) ∧ w'.cell? ⟨gb341, 3, none⟩ = some (.int .i64 a0_3) ∧ w'.cell? ⟨gb342, 0, none⟩ = some (.int .i64 a1_0) ∧ w'.cell? ⟨gb342, 1, none⟩ = some (.int .i64 a1_1) ∧ w'.cell? ⟨gb342, 2, none⟩ = some (.int .i64 a1_2) ∧ w'.cell? ⟨gb342, 3, none⟩ = some (.int .i64 a1_3)) ∧ (Kd.R k27 27 w' w.heap.size (fun _ => True) s_.1 y351) ∧ (w'.heap[gb341]? = some (.cells #[.int .i64 a0_0, .int .i64 a0_1, .int .i64 a0_2, .int .i64 a0_3] 29 (0, 0))) ∧ (w'.heap[gb342]? = some (.cells #[.int .i64 a1_0, .int .i64 a1_1, .int .i64 a1_2, .int .i64 a1_3] 29 (0, 0))) ∧ (w'.heap[gb343]? = some (.cells #[.int .i64 0, .int .i64 0, .int .i64 0, .int .i64 0] 29 (0, 0))) ∧ (w'.heap[s_.2]? = some (.cells #[.int .i64 0, .int .i64 0, .int .i64 0, .int .i64 0] 29 (0, 0))) ∧ (w.heap.size ≤ s_.2) ∧ (w.heap.size ≤ s_.2) ∧ (gb341 ≠ s_.2) ∧ (s_.2 ≠ gb341) ∧ (gb342 ≠ s_.2) ∧ (s_.2 ≠ gb342) ∧ (gb343 ≠ s_.2) ∧ (s_.2 ≠ gb343) ∧ (Below w.heap.size w w')) ?_ ?_
           rotate_left
           ·
            intro hJ11_15
            refine join_ (σ := Value) 8 #[true, true, true, true, true, false, false, true, true, true, true, false, false, false, false, false, false] (fun s_ => [(11, s_)]) (fun s_ w' => (w'.cell? ⟨gb341, 0, none⟩ = some (.int .i64 a0_0) ∧ w'.cell? ⟨gb341, 1, none⟩ = some (.int .i64 a0_1) ∧ w'.cell? ⟨gb341, 2, none⟩ = some (.int .i64 a0_2) ∧ w'.cell? ⟨gb341, 3, none⟩ = some (.int .i64 a0_3) ∧ w'.cell? ⟨gb342, 0, none⟩ = some (.int .i64 a1_0) ∧ w'.cell? ⟨gb342, 1, none⟩ = some (.int .i64 a1_1) ∧ w'.cell? ⟨gb342, 2, none⟩ = some (.int .i64 a1_2) ∧ w'.cell? ⟨gb342, 3, none⟩ = some (.int .i64 a1_3)) ∧ (Kd.R k27 27 w' w.heap.size (fun _ => True) s_ y344) ∧ (w'.heap[gb341]? = some (.cells #[.int .i64 a0_0, .int .i64 a0_1, .int .i64 a0_2, .int .i64 a0_3] 29 (0, 0))) ∧ (w'.heap[gb342]? = some (.cells #[.int .i64 a1_0, .int .i64 a1_1, .int .i64 a1_2, .int .i64 a1_3] 29 (0, 0))) ∧ (w'.heap[gb343]? = some (.cells #[.int .i64 0, .int .i64 0, .int .i64 0, .int .i64 0] 29 (0, 0))) ∧ (Below w.heap.size w w')) ?_ ?_
            rotate_left
            ·
             intro hJ4
             refine join_ (σ := Value) 8 #[true, true, true, true, false, false, false, true, true, true, true, true, false, false, false, false, false] (fun s_ => [(18, s_)]) (fun s_ w' => (w'.cell? ⟨gb341, 0, none⟩ = some (.int .i64 a0_0) ∧ w'.cell? ⟨gb341, 1, none⟩ = some (.int .i64 a0_1) ∧ w'.cell? ⟨gb341, 2, none⟩ = some (.int .i64 a0_2) ∧ w'.cell? ⟨gb341, 3, none⟩ = some (.int .i64 a0_3) ∧ w'.cell? ⟨gb342, 0, none⟩ = some (.int .i64 a1_0) ∧ w'.cell? ⟨gb342, 1, none⟩ = some (.int .i64 a1_1) ∧ w'.cell? ⟨gb342, 2, none⟩ = some (.int .i64 a1_2) ∧ w'.cell? ⟨gb342, 3, none⟩ = some (.int .i64 a1_3)) ∧ (Kd.R k27 27 w' w.heap.size (fun _ => True) s_ y351) ∧ (w'.heap[gb341]? = some (.cells #[.int .i64 a0_0, .int .i64 a0_1, .int .i64 a0_2, .int .i64 a0_3] 29 (0, 0))) ∧ (w'.heap[gb342]? = some (.cells #[.int .i64 a1_0, .int .i64 a1_1, .int .i64 a1_2, .int .i64 a1_3] 29 (0, 0))) ∧ (w'.heap[gb343]? = some (.cells #[.int .i64 0, .int .i64 0, .int .i64 0, .int .i64 0] 29 (0, 0))) ∧ (Below w.heap.size w w')) ?_ ?_
             rotate_left
             ·
              intro hJ11
              refine join_ (σ := Nat) 8 #[true, true, true, true, false, false, false, true, true, true, true, false, false, false, false, true, false] (fun s_ => [(6, .pointer (some ⟨s_, 0, none⟩))]) (fun s_ w' => (w'.cell? ⟨gb341, 0, none⟩ = some (.int .i64 a0_0) ∧ w'.cell? ⟨gb341, 1, none⟩ = some (.int .i64 a0_1) ∧ w'.cell? ⟨gb341, 2, none⟩ = some (.int .i64 a0_2) ∧ w'.cell? ⟨gb341, 3, none⟩ = some (.int .i64 a0_3) ∧ w'.cell? ⟨gb342, 0, none⟩ = some (.int .i64 a1_0) ∧ w'.cell? ⟨gb342, 1, none⟩ = some (.int .i64 a1_1) ∧ w'.cell? ⟨gb342, 2, none⟩ = some (.int .i64 a1_2) ∧ w'.cell? ⟨gb342, 3, none⟩ = some (.int .i64 a1_3)) ∧ (w'.heap[gb341]? = some (.cells #[.int .i64 a0_0, .int .i64 a0_1, .int .i64 a0_2, .int .i64 a0_3] 29 (0, 0))) ∧ (w'.heap[gb342]? = some (.cells #[.int .i64 a1_0, .int .i64 a1_1, .int .i64 a1_2, .int .i64 a1_3] 29 (0, 0))) ∧ (w'.heap[gb343]? = some (.cells #[.int .i64 0, .int .i64 0, .int .i64 0, .int .i64 0] 29 (0, 0))) ∧ (w'.heap[s_]? = some (.cells #[.int .i64 0, .int .i64 0, .int .i64 0, .int .i64 0] 29 (0, 0))) ∧ (w.heap.size ≤ s_) ∧ (w.heap.size ≤ s_) ∧ (gb341 ≠ s_) ∧ (s_ ≠ gb341) ∧ (gb342 ≠ s_) ∧ (s_ ≠ gb342) ∧ (gb343 ≠ s_) ∧ (s_ ≠ gb343) ∧ (Below w.heap.size w w')) ?_ ?_
              rotate_left
              ·
               intro hJ15
               refine three_ (i := 4) (j := 11) (k := 15) (Ni := some 11) (Nj := some 18) (Nk := some 6) #[true, true, true, true, true, false, false, true, true, true, true, false, false, false, false, false, false] #[true, true, true, true, false, false, false, true, true, true, true, true, false, false, false, false, false] #[true, true, true, true, false, false, false, true, true, true, true, false, false, false, false, true, false] rfl rfl rfl rfl rfl rfl (three_of HT_.out (by kernel_rfl)) (by decide) (by decide) (by decide) (fun K hK => ?_) (fun K hK => ?_) (fun K hK => ?_)
               ·
                refine Kd.R_lit_step k27 _ 27 ?hg (N := 11) ?hd (xs := ([(⟨a0_0, a0_1⟩ : S27), (⟨a1_0, a1_1⟩ : S27)] : List (S27))) (inner := [.int .i64 a0_0, .int .i64 a0_1, .int .i64 a1_0, .int .i64 a1_1]) (ok := fun _ => True) (okp := fun _ => True) ?hr ?hp (fun _ hk => hk) trivial (Below.refl _ _) (Nat.le_refl _) (by simp) ?_; (case hd => rfl); (case hg => rfl); (case hr => first | (go_simp; done) | (go_simp; rfl)); (case hp => exact (Reps.c2 (show Kd.M k27 _ _ _ (⟨a0_0, a0_1⟩ : S27) [.int .i64 a0_0, .int .i64 a0_1] from (k27_mkM _ _ _ (⟨a0_0, a0_1⟩ : S27) )) (Reps.c2 (show Kd.M k27 _ _ _ (⟨a1_0, a1_1⟩ : S27) [.int .i64 a1_0, .int .i64 a1_1] from (k27_mkM _ _ _ (⟨a1_0, a1_1⟩ : S27) )) (Reps.none _ _))))
                intro v345 w11 ho12 hb hg_ hnew_
                clear hg_ hnew_
                (first | rw [← Ny344.out] at ho12 | (simp only [Int.reduceToNat] at ho12; rw [← Ny344.out] at ho12))
                have HO346 := Aside0.mk (Kd.R_lower ho12 (below_size (z53_1 HB)))
                have n1_ := Aside0.mk (zbb BK341 hb)
                have n2_ := Aside0.mk (zbb BK342 hb)
                have n3_ := Aside0.mk (zbb BK343 hb)
                have n4_ := Aside0.mk (below_step (z53_1 HB) hb)
                clear BK341 BK342 BK343 HB
                have BK341 := n1_; have BK342 := n2_; have BK343 := n3_; have HB := n4_
                clear n1_ n2_ n3_ n4_ hb ho12
                refine hK.out _ _ ⟨zc BK341 0, zc BK341 1, zc BK341 2, zc BK341 3, zc BK342 0, zc BK342 1, zc BK342 2, zc BK342 3⟩ (fun hHeld => ?_)
                clear hK K
                refine norm_ (a' := ?_) ?_ ?_
                rotate_left
                ·
                 show Act.put _ (some 11) _ = _
                 simp only [Act.put, List.setIfInBounds_toArray, List.set_cons_zero, List.set_cons_succ, i64_w, i32_w]; rfl
                exact norm_ zq4 (hJ4 (_) _ ⟨hHeld, (zq3 HO346), (zq1 BK341), (zq1 BK342), (zq1 BK343), (z53_1 HB)⟩)
               ·
                refine Kd.R_lit_step k27 _ 27 ?hg (N := 18) ?hd (xs := ([(⟨a0_2, a0_3⟩ : S27), (⟨a1_2, a1_3⟩ : S27)] : List (S27))) (inner := [.int .i64 a0_2, .int .i64 a0_3, .int .i64 a1_2, .int .i64 a1_3]) (ok := fun _ => True) (okp := fun _ => True) ?hr ?hp (fun _ hk => hk) trivial (Below.refl _ _) (Nat.le_refl _) (by simp) ?_; (case hd => rfl); (case hg => rfl); (case hr => first | (go_simp; done) | (go_simp; rfl)); (case hp => exact (Reps.c2 (show Kd.M k27 _ _ _ (⟨a0_2, a0_3⟩ : S27) [.int .i64 a0_2, .int .i64 a0_3] from (k27_mkM _ _ _ (⟨a0_2, a0_3⟩ : S27) )) (Reps.c2 (show Kd.M k27 _ _ _ (⟨a1_2, a1_3⟩ : S27) [.int .i64 a1_2, .int .i64 a1_3] from (k27_mkM _ _ _ (⟨a1_2, a1_3⟩ : S27) )) (Reps.none _ _))))
                intro v352 w11 ho12 hb hg_ hnew_
                clear hg_ hnew_
                (first | rw [← Ny351.out] at ho12 | (simp only [Int.reduceToNat] at ho12; rw [← Ny351.out] at ho12))
                have HO353 := Aside0.mk (Kd.R_lower ho12 (below_size (z53_1 HB)))
                have n1_ := Aside0.mk (zbb BK341 hb)
                have n2_ := Aside0.mk (zbb BK342 hb)
                have n3_ := Aside0.mk (zbb BK343 hb)
                have n4_ := Aside0.mk (below_step (z53_1 HB) hb)
                clear BK341 BK342 BK343 HB
                have BK341 := n1_; have BK342 := n2_; have BK343 := n3_; have HB := n4_
                clear n1_ n2_ n3_ n4_ hb ho12
                refine hK.out _ _ ⟨zc BK341 0, zc BK341 1, zc BK341 2, zc BK341 3, zc BK342 0, zc BK342 1, zc BK342 2, zc BK342 3⟩ (fun hHeld => ?_)
                clear hK K
                refine norm_ (a' := ?_) ?_ ?_
                rotate_left
                ·
                 show Act.put _ (some 18) _ = _
                 simp only [Act.put, List.setIfInBounds_toArray, List.set_cons_zero, List.set_cons_succ, i64_w, i32_w]; rfl
                exact norm_ zq4 (hJ11 (_) _ ⟨hHeld, (zq3 HO353), (zq1 BK341), (zq1 BK342), (zq1 BK343), (z53_1 HB)⟩)
               ·
                refine box_step ?hg (N := 6) ?hd (cs := #[.int .i64 0, .int .i64 0, .int .i64 0, .int .i64 0]) (t := 29) ?hr ?_; (case hd => rfl); (case hg => rfl); (case hr => first | (go_simp; done) | (go_simp; rfl))
                intro gb358 hg w11 hbox hb
                have n0_ := Aside0.mk (zbb BK341 hb)
                have n1_ := Aside0.mk (zbb BK342 hb)
                have n2_ := Aside0.mk (zbb BK343 hb)
                have n3_ := Aside0.mk (below_step (z53_1 HB) hb)
                have BK358 := Aside0.mk (hbox)
                have GW358 := Aside0.mk ((by rw [hg]; exact (below_size (z53_1 HB)) : w.heap.size ≤ gb358))
                have GE358 := Aside0.mk ((by rw [hg]; exact (below_size (z53_1 HB)) : w.heap.size ≤ gb358))
                have NB341_358 := Aside0.mk (zlt BK341 hg)
                have NB358_341 := Aside0.mk (zgt BK341 hg)
                have NB342_358 := Aside0.mk (zlt BK342 hg)
                have NB358_342 := Aside0.mk (zgt BK342 hg)
                have NB343_358 := Aside0.mk (zlt BK343 hg)
                have NB358_343 := Aside0.mk (zgt BK343 hg)
                clear BK341 BK342 BK343 HB
                have BK341 := n0_; have BK342 := n1_; have BK343 := n2_; have HB := n3_
                clear n0_ n1_ n2_ n3_ hb hbox hg
                refine hK.out _ _ ⟨zc BK341 0, zc BK341 1, zc BK341 2, zc BK341 3, zc BK342 0, zc BK342 1, zc BK342 2, zc BK342 3⟩ (fun hHeld => ?_)
                clear hK K
                refine norm_ (a' := ?_) ?_ ?_
                rotate_left
                ·
                 show Act.put _ (some 6) _ = _
                 simp only [Act.put, List.setIfInBounds_toArray, List.set_cons_zero, List.set_cons_succ, i64_w, i32_w]; rfl
                exact norm_ zq4 (hJ15 (_) _ ⟨hHeld, (zq1 BK341), (zq1 BK342), (zq1 BK343), (zq1 BK358), GW358.out, GE358.out, NB341_358.out, NB358_341.out, NB342_358.out, NB358_342.out, NB343_358.out, NB358_343.out, (z53_1 HB)⟩)
              ·
               rintro gb358 w12 ⟨hS_, h0_, h1_, h2_, h3_, h4_, h5_, h6_, h7_, h8_, h9_, h10_, h11_, h12_⟩
               have n0_ : Aside0 (w12.heap[gb341]? = some (.cells #[.int .i64 a0_0, .int .i64 a0_1, .int .i64 a0_2, .int .i64 a0_3] 29 (0, 0))) := ⟨h0_⟩
               have n1_ : Aside0 (w12.heap[gb342]? = some (.cells #[.int .i64 a1_0, .int .i64 a1_1, .int .i64 a1_2, .int .i64 a1_3] 29 (0, 0))) := ⟨h1_⟩
               have n2_ : Aside0 (w12.heap[gb343]? = some (.cells #[.int .i64 0, .int .i64 0, .int .i64 0, .int .i64 0] 29 (0, 0))) := ⟨h2_⟩
               have BK358 : Aside0 (w12.heap[gb358]? = some (.cells #[.int .i64 0, .int .i64 0, .int .i64 0, .int .i64 0] 29 (0, 0))) := ⟨h3_⟩
               have GW358 : Aside0 (w.heap.size ≤ gb358) := ⟨h4_⟩
               have GE358 : Aside0 (w.heap.size ≤ gb358) := ⟨h5_⟩
               have NB341_358 : Aside0 (gb341 ≠ gb358) := ⟨h6_⟩
               have NB358_341 : Aside0 (gb358 ≠ gb341) := ⟨h7_⟩
               have NB342_358 : Aside0 (gb342 ≠ gb358) := ⟨h8_⟩
               have NB358_342 : Aside0 (gb358 ≠ gb342) := ⟨h9_⟩
               have NB343_358 : Aside0 (gb343 ≠ gb358) := ⟨h10_⟩
               have NB358_343 : Aside0 (gb358 ≠ gb343) := ⟨h11_⟩
               have n12_ : Aside0 (Below w.heap.size w w12) := ⟨h12_⟩
               clear BK341 BK342 BK343 HB h0_ h1_ h2_ h3_ h4_ h5_ h6_ h7_ h8_ h9_ h10_ h11_ h12_
               have BK341 := n0_; have BK342 := n1_; have BK343 := n2_; have HB := n12_
               clear n0_ n1_ n2_ n12_
               have hHeld : w12.cell? ⟨gb341, 0, none⟩ = some (.int .i64 a0_0) ∧ w12.cell? ⟨gb341, 1, none⟩ = some (.int .i64 a0_1) ∧ w12.cell? ⟨gb341, 2, none⟩ = some (.int .i64 a0_2) ∧ w12.cell? ⟨gb341, 3, none⟩ = some (.int .i64 a0_3) ∧ w12.cell? ⟨gb342, 0, none⟩ = some (.int .i64 a1_0) ∧ w12.cell? ⟨gb342, 1, none⟩ = some (.int .i64 a1_1) ∧ w12.cell? ⟨gb342, 2, none⟩ = some (.int .i64 a1_2) ∧ w12.cell? ⟨gb342, 3, none⟩ = some (.int .i64 a1_3) := hS_
               refine norm_ (a' := ?_) ?_ ?_
               rotate_left
               ·
                simp only [putAll, Act.put, List.setIfInBounds_toArray, List.set_cons_zero, List.set_cons_succ]
                rfl
               refine two_ (i := 4) (j := 11) (Ni := some 11) (Nj := some 18) #[true, true, true, true, true, false, false, true, true, true, true, false, false, false, false, true, false] #[true, true, true, true, false, false, false, true, true, true, true, true, false, false, false, true, false] rfl rfl rfl rfl (two_of HT_.out (by kernel_rfl)) (by decide) (by decide) (fun K hK => ?_) (fun K hK => ?_)
               ·
                refine Kd.R_lit_step k27 _ 27 ?hg (N := 11) ?hd (xs := ([(⟨a0_0, a0_1⟩ : S27), (⟨a1_0, a1_1⟩ : S27)] : List (S27))) (inner := [.int .i64 a0_0, .int .i64 a0_1, .int .i64 a1_0, .int .i64 a1_1]) (ok := fun _ => True) (okp := fun _ => True) ?hr ?hp (fun _ hk => hk) trivial (Below.refl _ _) (Nat.le_refl _) (by simp) ?_; (case hd => rfl); (case hg => rfl); (case hr => first | (go_simp; done) | (go_simp; rfl)); (case hp => exact (Reps.c2 (show Kd.M k27 _ _ _ (⟨a0_0, a0_1⟩ : S27) [.int .i64 a0_0, .int .i64 a0_1] from (k27_mkM _ _ _ (⟨a0_0, a0_1⟩ : S27) )) (Reps.c2 (show Kd.M k27 _ _ _ (⟨a1_0, a1_1⟩ : S27) [.int .i64 a1_0, .int .i64 a1_1] from (k27_mkM _ _ _ (⟨a1_0, a1_1⟩ : S27) )) (Reps.none _ _))))
                intro v345 w13 ho14 hb hg_ hnew_
                clear hg_ hnew_
                (first | rw [← Ny344.out] at ho14 | (simp only [Int.reduceToNat] at ho14; rw [← Ny344.out] at ho14))
                have HO346 := Aside0.mk (Kd.R_lower ho14 (below_size (z53_1 HB)))
                have n1_ := Aside0.mk (zbb BK341 hb)
                have n2_ := Aside0.mk (zbb BK342 hb)
                have n3_ := Aside0.mk (zbb BK343 hb)
                have n4_ := Aside0.mk (zbb BK358 hb)
                have n5_ := Aside0.mk (below_step (z53_1 HB) hb)
                clear BK341 BK342 BK343 BK358 HB
                have BK341 := n1_; have BK342 := n2_; have BK343 := n3_; have BK358 := n4_; have HB := n5_
                clear n1_ n2_ n3_ n4_ n5_ hb ho14
                refine hK.out _ _ ⟨zc BK341 0, zc BK341 1, zc BK341 2, zc BK341 3, zc BK342 0, zc BK342 1, zc BK342 2, zc BK342 3⟩ (fun hHeld => ?_)
                clear hK K
                refine norm_ (a' := ?_) ?_ ?_
                rotate_left
                ·
                 show Act.put _ (some 11) _ = _
                 simp only [Act.put, List.setIfInBounds_toArray, List.set_cons_zero, List.set_cons_succ, i64_w, i32_w]; rfl
                exact norm_ zq4 (hJ4_15 (_, _) _ ⟨hHeld, (zq3 HO346), (zq1 BK341), (zq1 BK342), (zq1 BK343), (zq1 BK358), GW358.out, GE358.out, NB341_358.out, NB358_341.out, NB342_358.out, NB358_342.out, NB343_358.out, NB358_343.out, (z53_1 HB)⟩)
               ·
                refine Kd.R_lit_step k27 _ 27 ?hg (N := 18) ?hd (xs := ([(⟨a0_2, a0_3⟩ : S27), (⟨a1_2, a1_3⟩ : S27)] : List (S27))) (inner := [.int .i64 a0_2, .int .i64 a0_3, .int .i64 a1_2, .int .i64 a1_3]) (ok := fun _ => True) (okp := fun _ => True) ?hr ?hp (fun _ hk => hk) trivial (Below.refl _ _) (Nat.le_refl _) (by simp) ?_; (case hd => rfl); (case hg => rfl); (case hr => first | (go_simp; done) | (go_simp; rfl)); (case hp => exact (Reps.c2 (show Kd.M k27 _ _ _ (⟨a0_2, a0_3⟩ : S27) [.int .i64 a0_2, .int .i64 a0_3] from (k27_mkM _ _ _ (⟨a0_2, a0_3⟩ : S27) )) (Reps.c2 (show Kd.M k27 _ _ _ (⟨a1_2, a1_3⟩ : S27) [.int .i64 a1_2, .int .i64 a1_3] from (k27_mkM _ _ _ (⟨a1_2, a1_3⟩ : S27) )) (Reps.none _ _))))
                intro v352 w13 ho14 hb hg_ hnew_
                clear hg_ hnew_
                (first | rw [← Ny351.out] at ho14 | (simp only [Int.reduceToNat] at ho14; rw [← Ny351.out] at ho14))
                have HO353 := Aside0.mk (Kd.R_lower ho14 (below_size (z53_1 HB)))
                have n1_ := Aside0.mk (zbb BK341 hb)
                have n2_ := Aside0.mk (zbb BK342 hb)
                have n3_ := Aside0.mk (zbb BK343 hb)
                have n4_ := Aside0.mk (zbb BK358 hb)
                have n5_ := Aside0.mk (below_step (z53_1 HB) hb)
                clear BK341 BK342 BK343 BK358 HB
                have BK341 := n1_; have BK342 := n2_; have BK343 := n3_; have BK358 := n4_; have HB := n5_
                clear n1_ n2_ n3_ n4_ n5_ hb ho14
                refine hK.out _ _ ⟨zc BK341 0, zc BK341 1, zc BK341 2, zc BK341 3, zc BK342 0, zc BK342 1, zc BK342 2, zc BK342 3⟩ (fun hHeld => ?_)
                clear hK K
                refine norm_ (a' := ?_) ?_ ?_
                rotate_left
                ·
                 show Act.put _ (some 18) _ = _
                 simp only [Act.put, List.setIfInBounds_toArray, List.set_cons_zero, List.set_cons_succ, i64_w, i32_w]; rfl
                exact norm_ zq4 (hJ11_15 (_, _) _ ⟨hHeld, (zq3 HO353), (zq1 BK341), (zq1 BK342), (zq1 BK343), (zq1 BK358), GW358.out, GE358.out, NB341_358.out, NB358_341.out, NB342_358.out, NB358_342.out, NB343_358.out, NB358_343.out, (z53_1 HB)⟩)
             ·
              rintro v352 w13 ⟨hS_, h0_, h1_, h2_, h3_, h4_⟩
              have HO353 : Aside0 (Kd.R k27 27 w13 w.heap.size (fun _ => True) v352 y351) := ⟨h0_⟩
              have n1_ : Aside0 (w13.heap[gb341]? = some (.cells #[.int .i64 a0_0, .int .i64 a0_1, .int .i64 a0_2, .int .i64 a0_3] 29 (0, 0))) := ⟨h1_⟩
              have n2_ : Aside0 (w13.heap[gb342]? = some (.cells #[.int .i64 a1_0, .int .i64 a1_1, .int .i64 a1_2, .int .i64 a1_3] 29 (0, 0))) := ⟨h2_⟩
              have n3_ : Aside0 (w13.heap[gb343]? = some (.cells #[.int .i64 0, .int .i64 0, .int .i64 0, .int .i64 0] 29 (0, 0))) := ⟨h3_⟩
              have n4_ : Aside0 (Below w.heap.size w w13) := ⟨h4_⟩
              clear BK341 BK342 BK343 HB h0_ h1_ h2_ h3_ h4_
              have BK341 := n1_; have BK342 := n2_; have BK343 := n3_; have HB := n4_
              clear n1_ n2_ n3_ n4_
              have hHeld : w13.cell? ⟨gb341, 0, none⟩ = some (.int .i64 a0_0) ∧ w13.cell? ⟨gb341, 1, none⟩ = some (.int .i64 a0_1) ∧ w13.cell? ⟨gb341, 2, none⟩ = some (.int .i64 a0_2) ∧ w13.cell? ⟨gb341, 3, none⟩ = some (.int .i64 a0_3) ∧ w13.cell? ⟨gb342, 0, none⟩ = some (.int .i64 a1_0) ∧ w13.cell? ⟨gb342, 1, none⟩ = some (.int .i64 a1_1) ∧ w13.cell? ⟨gb342, 2, none⟩ = some (.int .i64 a1_2) ∧ w13.cell? ⟨gb342, 3, none⟩ = some (.int .i64 a1_3) := hS_
              refine norm_ (a' := ?_) ?_ ?_
              rotate_left
              ·
               simp only [putAll, Act.put, List.setIfInBounds_toArray, List.set_cons_zero, List.set_cons_succ]
               rfl
              refine two_ (i := 4) (j := 15) (Ni := some 11) (Nj := some 6) #[true, true, true, true, true, false, false, true, true, true, true, true, false, false, false, false, false] #[true, true, true, true, false, false, false, true, true, true, true, true, false, false, false, true, false] rfl rfl rfl rfl (two_of HT_.out (by kernel_rfl)) (by decide) (by decide) (fun K hK => ?_) (fun K hK => ?_)
              ·
               refine Kd.R_lit_step k27 _ 27 ?hg (N := 11) ?hd (xs := ([(⟨a0_0, a0_1⟩ : S27), (⟨a1_0, a1_1⟩ : S27)] : List (S27))) (inner := [.int .i64 a0_0, .int .i64 a0_1, .int .i64 a1_0, .int .i64 a1_1]) (ok := fun _ => True) (okp := fun _ => True) ?hr ?hp (fun _ hk => hk) trivial (Below.refl _ _) (Nat.le_refl _) (by simp) ?_; (case hd => rfl); (case hg => rfl); (case hr => first | (go_simp; done) | (go_simp; rfl)); (case hp => exact (Reps.c2 (show Kd.M k27 _ _ _ (⟨a0_0, a0_1⟩ : S27) [.int .i64 a0_0, .int .i64 a0_1] from (k27_mkM _ _ _ (⟨a0_0, a0_1⟩ : S27) )) (Reps.c2 (show Kd.M k27 _ _ _ (⟨a1_0, a1_1⟩ : S27) [.int .i64 a1_0, .int .i64 a1_1] from (k27_mkM _ _ _ (⟨a1_0, a1_1⟩ : S27) )) (Reps.none _ _))))
               intro v345 w14 ho15 hb hg_ hnew_
               clear hg_ hnew_
               (first | rw [← Ny344.out] at ho15 | (simp only [Int.reduceToNat] at ho15; rw [← Ny344.out] at ho15))
               have n0_ := Aside0.mk (Kd.R_elder' (zq3 HO353) (Kd.R_base ho15) hb)
               have HO346 := Aside0.mk (Kd.R_lower (Kd.R_new' ho15 (Kd.R_lt (zq3 HO353))) (below_size (z53_1 HB)))
               have n2_ := Aside0.mk (zbb BK341 hb)
               have n3_ := Aside0.mk (zbb BK342 hb)
               have n4_ := Aside0.mk (zbb BK343 hb)
               have n5_ := Aside0.mk (below_step (z53_1 HB) hb)
               clear HO353 BK341 BK342 BK343 HB
               have HO353 := n0_; have BK341 := n2_; have BK342 := n3_; have BK343 := n4_; have HB := n5_
               clear n0_ n2_ n3_ n4_ n5_ hb ho15
               refine hK.out _ _ ⟨zc BK341 0, zc BK341 1, zc BK341 2, zc BK341 3, zc BK342 0, zc BK342 1, zc BK342 2, zc BK342 3⟩ (fun hHeld => ?_)
               clear hK K
               refine norm_ (a' := ?_) ?_ ?_
               rotate_left
               ·
                show Act.put _ (some 11) _ = _
                simp only [Act.put, List.setIfInBounds_toArray, List.set_cons_zero, List.set_cons_succ, i64_w, i32_w]; rfl
               exact norm_ zq4 (hJ4_11 (_, _) _ ⟨hHeld, (by (with_reducible repeat (first | apply Kd.R_alloc | apply Kd.R_drewN | apply Kd.R_drew)); exact Kd.R_mono HO346.out (fun _ hk => hk.2)), (by (with_reducible repeat (first | apply Kd.R_alloc | apply Kd.R_drewN | apply Kd.R_drew)); exact Kd.R_mono HO353.out (fun _ hk => hk.2)), (zq1 BK341), (zq1 BK342), (zq1 BK343), (z53_1 HB)⟩)
              ·
               refine box_step ?hg (N := 6) ?hd (cs := #[.int .i64 0, .int .i64 0, .int .i64 0, .int .i64 0]) (t := 29) ?hr ?_; (case hd => rfl); (case hg => rfl); (case hr => first | (go_simp; done) | (go_simp; rfl))
               intro gb358 hg w14 hbox hb
               have n0_ := Aside0.mk (Kd.R_below (zq3 HO353) hb)
               have n1_ := Aside0.mk (zbb BK341 hb)
               have n2_ := Aside0.mk (zbb BK342 hb)
               have n3_ := Aside0.mk (zbb BK343 hb)
               have n4_ := Aside0.mk (below_step (z53_1 HB) hb)
               have BK358 := Aside0.mk (hbox)
               have GW358 := Aside0.mk ((by rw [hg]; exact (below_size (z53_1 HB)) : w.heap.size ≤ gb358))
               have GE358 := Aside0.mk ((by rw [hg]; exact (below_size (z53_1 HB)) : w.heap.size ≤ gb358))
               have NB341_358 := Aside0.mk (zlt BK341 hg)
               have NB358_341 := Aside0.mk (zgt BK341 hg)
               have NB342_358 := Aside0.mk (zlt BK342 hg)
               have NB358_342 := Aside0.mk (zgt BK342 hg)
               have NB343_358 := Aside0.mk (zlt BK343 hg)
               have NB358_343 := Aside0.mk (zgt BK343 hg)
               clear HO353 BK341 BK342 BK343 HB
               have HO353 := n0_; have BK341 := n1_; have BK342 := n2_; have BK343 := n3_; have HB := n4_
               clear n0_ n1_ n2_ n3_ n4_ hb hbox hg
               refine hK.out _ _ ⟨zc BK341 0, zc BK341 1, zc BK341 2, zc BK341 3, zc BK342 0, zc BK342 1, zc BK342 2, zc BK342 3⟩ (fun hHeld => ?_)
               clear hK K
               refine norm_ (a' := ?_) ?_ ?_
               rotate_left
               ·
                show Act.put _ (some 6) _ = _
                simp only [Act.put, List.setIfInBounds_toArray, List.set_cons_zero, List.set_cons_succ, i64_w, i32_w]; rfl
               exact norm_ zq4 (hJ11_15 (_, _) _ ⟨hHeld, (zq3 HO353), (zq1 BK341), (zq1 BK342), (zq1 BK343), (zq1 BK358), GW358.out, GE358.out, NB341_358.out, NB358_341.out, NB342_358.out, NB358_342.out, NB343_358.out, NB358_343.out, (z53_1 HB)⟩)
            ·
             rintro v345 w13 ⟨hS_, h0_, h1_, h2_, h3_, h4_⟩
             have HO346 : Aside0 (Kd.R k27 27 w13 w.heap.size (fun _ => True) v345 y344) := ⟨h0_⟩
             have n1_ : Aside0 (w13.heap[gb341]? = some (.cells #[.int .i64 a0_0, .int .i64 a0_1, .int .i64 a0_2, .int .i64 a0_3] 29 (0, 0))) := ⟨h1_⟩
             have n2_ : Aside0 (w13.heap[gb342]? = some (.cells #[.int .i64 a1_0, .int .i64 a1_1, .int .i64 a1_2, .int .i64 a1_3] 29 (0, 0))) := ⟨h2_⟩
             have n3_ : Aside0 (w13.heap[gb343]? = some (.cells #[.int .i64 0, .int .i64 0, .int .i64 0, .int .i64 0] 29 (0, 0))) := ⟨h3_⟩
             have n4_ : Aside0 (Below w.heap.size w w13) := ⟨h4_⟩
             clear BK341 BK342 BK343 HB h0_ h1_ h2_ h3_ h4_
             have BK341 := n1_; have BK342 := n2_; have BK343 := n3_; have HB := n4_
             clear n1_ n2_ n3_ n4_
             have hHeld : w13.cell? ⟨gb341, 0, none⟩ = some (.int .i64 a0_0) ∧ w13.cell? ⟨gb341, 1, none⟩ = some (.int .i64 a0_1) ∧ w13.cell? ⟨gb341, 2, none⟩ = some (.int .i64 a0_2) ∧ w13.cell? ⟨gb341, 3, none⟩ = some (.int .i64 a0_3) ∧ w13.cell? ⟨gb342, 0, none⟩ = some (.int .i64 a1_0) ∧ w13.cell? ⟨gb342, 1, none⟩ = some (.int .i64 a1_1) ∧ w13.cell? ⟨gb342, 2, none⟩ = some (.int .i64 a1_2) ∧ w13.cell? ⟨gb342, 3, none⟩ = some (.int .i64 a1_3) := hS_
             obtain ⟨Ao14, co14, eo14⟩ := Kd.R_slice HO346.out
             (first | subst eo14 | (injection eo14 with f1_ f2_ f3_; have f4_ := f1_.symm; have f5_ := f3_.symm; clear f1_ f2_ f3_; subst f4_; subst f5_))
             refine norm_ (a' := ?_) ?_ ?_
             rotate_left
             ·
              simp only [putAll, Act.put, List.setIfInBounds_toArray, List.set_cons_zero, List.set_cons_succ]
              rfl
             refine three_ (i := 5) (j := 11) (k := 15) (Ni := some 12) (Nj := some 18) (Nk := some 6) #[true, true, true, true, true, true, false, true, true, true, true, false, false, false, false, false, false] #[true, true, true, true, true, false, false, true, true, true, true, true, false, false, false, false, false] #[true, true, true, true, true, false, false, true, true, true, true, false, false, false, false, true, false] rfl rfl rfl rfl rfl rfl (three_of HT_.out (by kernel_rfl)) (by decide) (by decide) (by decide) (fun K hK => ?_) (fun K hK => ?_) (fun K hK => ?_)
             ·
              refine goes_ Try.func82 (by kernel_rfl) rfl #[.slice Ao14 y344.length co14] (by rfl) rfl rfl (by (try simp only [List.map_toArray, List.map_cons, List.map_nil]); first | done | rfl | (simp only [List.length_drop, List.length_take]; rfl)) ?_
              with_reducible refine (spec_ivEnds.calls k _ _ y344 t347 t348 t349 t350 _ ?side1 ?side2 A3.out).mono ?_
              (case side1 => repeat (first | exact (Kd.R_reads' HO346.out).2.2 | (with_reducible refine Kd.C_alloc ?_ _) | (with_reducible refine Kd.C_drewN ?_ _) | (with_reducible refine Kd.C_drew ?_)))
              (case side2 => exact (Kd.R_reads' HO346.out).2.1)
              rintro e w15 ⟨rfl, hb⟩
              refine ⟨_, rfl, ?_⟩
              have n0_ := Aside0.mk (Kd.R_below (zq3 HO346) hb)
              have n1_ := Aside0.mk (zbb BK341 hb)
              have n2_ := Aside0.mk (zbb BK342 hb)
              have n3_ := Aside0.mk (zbb BK343 hb)
              have n4_ := Aside0.mk (below_step (z53_1 HB) hb)
              clear HO346 BK341 BK342 BK343 HB
              have HO346 := n0_; have BK341 := n1_; have BK342 := n2_; have BK343 := n3_; have HB := n4_
              clear n0_ n1_ n2_ n3_ n4_
              (try clear hb)
              (try clear hb2)
              (try clear hk)
              (try clear hi)
              refine hK.out _ _ ⟨zc BK341 0, zc BK341 1, zc BK341 2, zc BK341 3, zc BK342 0, zc BK342 1, zc BK342 2, zc BK342 3⟩ (fun hHeld => ?_)
              clear hK K
              refine norm_ (a' := ?_) ?_ ?_
              rotate_left
              ·
               show Act.put _ (some 12) _ = _
               simp only [Act.put, List.setIfInBounds_toArray, List.set_cons_zero, List.set_cons_succ, i64_w, i32_w]; rfl
              refine pure_ (i := 6) (N := some 13) (v := ?_) (a' := ?_) #[true, true, true, true, true, true, true, true, true, true, true, false, false, false, false, false, false] rfl rfl (any_of HT_.out (by kernel_rfl)) (fun _ _ _ h => h) (Or.inl ⟨by rfl, ?_⟩) ?_ ?_
              rotate_left
              ·
               intro w'
               first | (go_simp; with_reducible rfl) | (go_simp; simp only [Instr.field]; go_simp; simp only [asAgg]; go_simp; rfl)
              rotate_left
              ·
               simp only [Act.put, List.setIfInBounds_toArray, List.set_cons_zero, List.set_cons_succ, i64_w, i32_w]
               rfl
              exact norm_ zq4 (hJ4_5 (_) _ ⟨hHeld, (zq3 HO346), (zq1 BK341), (zq1 BK342), (zq1 BK343), (z53_1 HB)⟩)
             ·
              refine Kd.R_lit_step k27 _ 27 ?hg (N := 18) ?hd (xs := ([(⟨a0_2, a0_3⟩ : S27), (⟨a1_2, a1_3⟩ : S27)] : List (S27))) (inner := [.int .i64 a0_2, .int .i64 a0_3, .int .i64 a1_2, .int .i64 a1_3]) (ok := fun _ => True) (okp := fun _ => True) ?hr ?hp (fun _ hk => hk) trivial (Below.refl _ _) (Nat.le_refl _) (by simp) ?_; (case hd => rfl); (case hg => rfl); (case hr => first | (go_simp; done) | (go_simp; rfl)); (case hp => exact (Reps.c2 (show Kd.M k27 _ _ _ (⟨a0_2, a0_3⟩ : S27) [.int .i64 a0_2, .int .i64 a0_3] from (k27_mkM _ _ _ (⟨a0_2, a0_3⟩ : S27) )) (Reps.c2 (show Kd.M k27 _ _ _ (⟨a1_2, a1_3⟩ : S27) [.int .i64 a1_2, .int .i64 a1_3] from (k27_mkM _ _ _ (⟨a1_2, a1_3⟩ : S27) )) (Reps.none _ _))))
              intro v352 w14 ho15 hb hg_ hnew_
              clear hg_ hnew_
              (first | rw [← Ny351.out] at ho15 | (simp only [Int.reduceToNat] at ho15; rw [← Ny351.out] at ho15))
              have n0_ := Aside0.mk (Kd.R_elder' (zq3 HO346) (Kd.R_base ho15) hb)
              have HO353 := Aside0.mk (Kd.R_lower (Kd.R_new' ho15 (Kd.R_lt (zq3 HO346))) (below_size (z53_1 HB)))
              have n2_ := Aside0.mk (zbb BK341 hb)
              have n3_ := Aside0.mk (zbb BK342 hb)
              have n4_ := Aside0.mk (zbb BK343 hb)
              have n5_ := Aside0.mk (below_step (z53_1 HB) hb)
              clear HO346 BK341 BK342 BK343 HB
              have HO346 := n0_; have BK341 := n2_; have BK342 := n3_; have BK343 := n4_; have HB := n5_
              clear n0_ n2_ n3_ n4_ n5_ hb ho15
              refine hK.out _ _ ⟨zc BK341 0, zc BK341 1, zc BK341 2, zc BK341 3, zc BK342 0, zc BK342 1, zc BK342 2, zc BK342 3⟩ (fun hHeld => ?_)
              clear hK K
              refine norm_ (a' := ?_) ?_ ?_
              rotate_left
              ·
               show Act.put _ (some 18) _ = _
               simp only [Act.put, List.setIfInBounds_toArray, List.set_cons_zero, List.set_cons_succ, i64_w, i32_w]; rfl
              exact norm_ zq4 (hJ4_11 (_, _) _ ⟨hHeld, (by (with_reducible repeat (first | apply Kd.R_alloc | apply Kd.R_drewN | apply Kd.R_drew)); exact Kd.R_mono HO346.out (fun _ hk => hk.2)), (by (with_reducible repeat (first | apply Kd.R_alloc | apply Kd.R_drewN | apply Kd.R_drew)); exact Kd.R_mono HO353.out (fun _ hk => hk.2)), (zq1 BK341), (zq1 BK342), (zq1 BK343), (z53_1 HB)⟩)
             ·
              refine box_step ?hg (N := 6) ?hd (cs := #[.int .i64 0, .int .i64 0, .int .i64 0, .int .i64 0]) (t := 29) ?hr ?_; (case hd => rfl); (case hg => rfl); (case hr => first | (go_simp; done) | (go_simp; rfl))
              intro gb358 hg w14 hbox hb
              have n0_ := Aside0.mk (Kd.R_below (zq3 HO346) hb)
              have n1_ := Aside0.mk (zbb BK341 hb)
              have n2_ := Aside0.mk (zbb BK342 hb)
              have n3_ := Aside0.mk (zbb BK343 hb)
              have n4_ := Aside0.mk (below_step (z53_1 HB) hb)
              have BK358 := Aside0.mk (hbox)
              have GW358 := Aside0.mk ((by rw [hg]; exact (below_size (z53_1 HB)) : w.heap.size ≤ gb358))
              have GE358 := Aside0.mk ((by rw [hg]; exact (below_size (z53_1 HB)) : w.heap.size ≤ gb358))
              have NB341_358 := Aside0.mk (zlt BK341 hg)
              have NB358_341 := Aside0.mk (zgt BK341 hg)
              have NB342_358 := Aside0.mk (zlt BK342 hg)
              have NB358_342 := Aside0.mk (zgt BK342 hg)
              have NB343_358 := Aside0.mk (zlt BK343 hg)
              have NB358_343 := Aside0.mk (zgt BK343 hg)
              clear HO346 BK341 BK342 BK343 HB
              have HO346 := n0_; have BK341 := n1_; have BK342 := n2_; have BK343 := n3_; have HB := n4_
              clear n0_ n1_ n2_ n3_ n4_ hb hbox hg
              refine hK.out _ _ ⟨zc BK341 0, zc BK341 1, zc BK341 2, zc BK341 3, zc BK342 0, zc BK342 1, zc BK342 2, zc BK342 3⟩ (fun hHeld => ?_)
              clear hK K
              refine norm_ (a' := ?_) ?_ ?_
              rotate_left
              ·
               show Act.put _ (some 6) _ = _
               simp only [Act.put, List.setIfInBounds_toArray, List.set_cons_zero, List.set_cons_succ, i64_w, i32_w]; rfl
              exact norm_ zq4 (hJ4_15 (_, _) _ ⟨hHeld, (zq3 HO346), (zq1 BK341), (zq1 BK342), (zq1 BK343), (zq1 BK358), GW358.out, GE358.out, NB341_358.out, NB358_341.out, NB342_358.out, NB358_342.out, NB343_358.out, NB358_343.out, (z53_1 HB)⟩)
           ·
            rintro ⟨v352, gb358⟩ w14 ⟨hS_, h0_, h1_, h2_, h3_, h4_, h5_, h6_, h7_, h8_, h9_, h10_, h11_, h12_, h13_⟩
            have HO353 : Aside0 (Kd.R k27 27 w14 w.heap.size (fun _ => True) v352 y351) := ⟨h0_⟩
            have n1_ : Aside0 (w14.heap[gb341]? = some (.cells #[.int .i64 a0_0, .int .i64 a0_1, .int .i64 a0_2, .int .i64 a0_3] 29 (0, 0))) := ⟨h1_⟩
            have n2_ : Aside0 (w14.heap[gb342]? = some (.cells #[.int .i64 a1_0, .int .i64 a1_1, .int .i64 a1_2, .int .i64 a1_3] 29 (0, 0))) := ⟨h2_⟩
            have n3_ : Aside0 (w14.heap[gb343]? = some (.cells #[.int .i64 0, .int .i64 0, .int .i64 0, .int .i64 0] 29 (0, 0))) := ⟨h3_⟩
            have BK358 : Aside0 (w14.heap[gb358]? = some (.cells #[.int .i64 0, .int .i64 0, .int .i64 0, .int .i64 0] 29 (0, 0))) := ⟨h4_⟩
            have GW358 : Aside0 (w.heap.size ≤ gb358) := ⟨h5_⟩
            have GE358 : Aside0 (w.heap.size ≤ gb358) := ⟨h6_⟩
            have NB341_358 : Aside0 (gb341 ≠ gb358) := ⟨h7_⟩
            have NB358_341 : Aside0 (gb358 ≠ gb341) := ⟨h8_⟩
            have NB342_358 : Aside0 (gb342 ≠ gb358) := ⟨h9_⟩
            have NB358_342 : Aside0 (gb358 ≠ gb342) := ⟨h10_⟩
            have NB343_358 : Aside0 (gb343 ≠ gb358) := ⟨h11_⟩
            have NB358_343 : Aside0 (gb358 ≠ gb343) := ⟨h12_⟩
            have n13_ : Aside0 (Below w.heap.size w w14) := ⟨h13_⟩
            clear BK341 BK342 BK343 HB h0_ h1_ h2_ h3_ h4_ h5_ h6_ h7_ h8_ h9_ h10_ h11_ h12_ h13_
            have BK341 := n1_; have BK342 := n2_; have BK343 := n3_; have HB := n13_
            clear n1_ n2_ n3_ n13_
            have hHeld : w14.cell? ⟨gb341, 0, none⟩ = some (.int .i64 a0_0) ∧ w14.cell? ⟨gb341, 1, none⟩ = some (.int .i64 a0_1) ∧ w14.cell? ⟨gb341, 2, none⟩ = some (.int .i64 a0_2) ∧ w14.cell? ⟨gb341, 3, none⟩ = some (.int .i64 a0_3) ∧ w14.cell? ⟨gb342, 0, none⟩ = some (.int .i64 a1_0) ∧ w14.cell? ⟨gb342, 1, none⟩ = some (.int .i64 a1_1) ∧ w14.cell? ⟨gb342, 2, none⟩ = some (.int .i64 a1_2) ∧ w14.cell? ⟨gb342, 3, none⟩ = some (.int .i64 a1_3) := hS_
            refine norm_ (a' := ?_) ?_ ?_
            rotate_left
            ·
             simp only [putAll, Act.put, List.setIfInBounds_toArray, List.set_cons_zero, List.set_cons_succ]
             rfl
            refine one_ (i := 4) (N := some 11) #[true, true, true, true, true, false, false, true, true, true, true, true, false, false, false, true, false] rfl rfl (one_of HT_.out (by kernel_rfl)) (by decide) (fun K hK => ?_)
            refine Kd.R_lit_step k27 _ 27 ?hg (N := 11) ?hd (xs := ([(⟨a0_0, a0_1⟩ : S27), (⟨a1_0, a1_1⟩ : S27)] : List (S27))) (inner := [.int .i64 a0_0, .int .i64 a0_1, .int .i64 a1_0, .int .i64 a1_1]) (ok := fun _ => True) (okp := fun _ => True) ?hr ?hp (fun _ hk => hk) trivial (Below.refl _ _) (Nat.le_refl _) (by simp) ?_; (case hd => rfl); (case hg => rfl); (case hr => first | (go_simp; done) | (go_simp; rfl)); (case hp => exact (Reps.c2 (show Kd.M k27 _ _ _ (⟨a0_0, a0_1⟩ : S27) [.int .i64 a0_0, .int .i64 a0_1] from (k27_mkM _ _ _ (⟨a0_0, a0_1⟩ : S27) )) (Reps.c2 (show Kd.M k27 _ _ _ (⟨a1_0, a1_1⟩ : S27) [.int .i64 a1_0, .int .i64 a1_1] from (k27_mkM _ _ _ (⟨a1_0, a1_1⟩ : S27) )) (Reps.none _ _))))
            intro v345 w15 ho16 hb hg_ hnew_
            clear hg_ hnew_
            (first | rw [← Ny344.out] at ho16 | (simp only [Int.reduceToNat] at ho16; rw [← Ny344.out] at ho16))
            have n0_ := Aside0.mk (Kd.R_elder' (zq3 HO353) (Kd.R_base ho16) hb)
            have HO346 := Aside0.mk (Kd.R_lower (Kd.R_new' ho16 (Kd.R_lt (zq3 HO353))) (below_size (z53_1 HB)))
            have n2_ := Aside0.mk (zbb BK341 hb)
            have n3_ := Aside0.mk (zbb BK342 hb)
            have n4_ := Aside0.mk (zbb BK343 hb)
            have n5_ := Aside0.mk (zbb BK358 hb)
            have n6_ := Aside0.mk (below_step (z53_1 HB) hb)
            clear HO353 BK341 BK342 BK343 BK358 HB
            have HO353 := n0_; have BK341 := n2_; have BK342 := n3_; have BK343 := n4_; have BK358 := n5_; have HB := n6_
            clear n0_ n2_ n3_ n4_ n5_ n6_ hb ho16
            refine hK.out _ _ ⟨zc BK341 0, zc BK341 1, zc BK341 2, zc BK341 3, zc BK342 0, zc BK342 1, zc BK342 2, zc BK342 3⟩ (fun hHeld => ?_)
            clear hK K
            refine norm_ (a' := ?_) ?_ ?_
            rotate_left
            ·
             show Act.put _ (some 11) _ = _
             simp only [Act.put, List.setIfInBounds_toArray, List.set_cons_zero, List.set_cons_succ, i64_w, i32_w]; rfl
            exact norm_ zq4 (hJ4_11_15 (_, _, _) _ ⟨hHeld, (by (with_reducible repeat (first | apply Kd.R_alloc | apply Kd.R_drewN | apply Kd.R_drew)); exact Kd.R_mono HO346.out (fun _ hk => hk.2)), (by (with_reducible repeat (first | apply Kd.R_alloc | apply Kd.R_drewN | apply Kd.R_drew)); exact Kd.R_mono HO353.out (fun _ hk => hk.2)), (zq1 BK341), (zq1 BK342), (zq1 BK343), (zq1 BK358), GW358.out, GE358.out, NB341_358.out, NB358_341.out, NB342_358.out, NB358_342.out, NB343_358.out, NB358_343.out, (z53_1 HB)⟩)
          ·
           rintro ⟨v345, gb358⟩ w14 ⟨hS_, h0_, h1_, h2_, h3_, h4_, h5_, h6_, h7_, h8_, h9_, h10_, h11_, h12_, h13_⟩
           have HO346 : Aside0 (Kd.R k27 27 w14 w.heap.size (fun _ => True) v345 y344) := ⟨h0_⟩
           have n1_ : Aside0 (w14.heap[gb341]? = some (.cells #[.int .i64 a0_0, .int .i64 a0_1, .int .i64 a0_2, .int .i64 a0_3] 29 (0, 0))) := ⟨h1_⟩
           have n2_ : Aside0 (w14.heap[gb342]? = some (.cells #[.int .i64 a1_0, .int .i64 a1_1, .int .i64 a1_2, .int .i64 a1_3] 29 (0, 0))) := ⟨h2_⟩
           have n3_ : Aside0 (w14.heap[gb343]? = some (.cells #[.int .i64 0, .int .i64 0, .int .i64 0, .int .i64 0] 29 (0, 0))) := ⟨h3_⟩
           have BK358 : Aside0 (w14.heap[gb358]? = some (.cells #[.int .i64 0, .int .i64 0, .int .i64 0, .int .i64 0] 29 (0, 0))) := ⟨h4_⟩
           have GW358 : Aside0 (w.heap.size ≤ gb358) := ⟨h5_⟩
           have GE358 : Aside0 (w.heap.size ≤ gb358) := ⟨h6_⟩
           have NB341_358 : Aside0 (gb341 ≠ gb358) := ⟨h7_⟩
           have NB358_341 : Aside0 (gb358 ≠ gb341) := ⟨h8_⟩
           have NB342_358 : Aside0 (gb342 ≠ gb358) := ⟨h9_⟩
           have NB358_342 : Aside0 (gb358 ≠ gb342) := ⟨h10_⟩
           have NB343_358 : Aside0 (gb343 ≠ gb358) := ⟨h11_⟩
           have NB358_343 : Aside0 (gb358 ≠ gb343) := ⟨h12_⟩
           have n13_ : Aside0 (Below w.heap.size w w14) := ⟨h13_⟩
           clear BK341 BK342 BK343 HB h0_ h1_ h2_ h3_ h4_ h5_ h6_ h7_ h8_ h9_ h10_ h11_ h12_ h13_
           have BK341 := n1_; have BK342 := n2_; have BK343 := n3_; have HB := n13_
           clear n1_ n2_ n3_ n13_
           have hHeld : w14.cell? ⟨gb341, 0, none⟩ = some (.int .i64 a0_0) ∧ w14.cell? ⟨gb341, 1, none⟩ = some (.int .i64 a0_1) ∧ w14.cell? ⟨gb341, 2, none⟩ = some (.int .i64 a0_2) ∧ w14.cell? ⟨gb341, 3, none⟩ = some (.int .i64 a0_3) ∧ w14.cell? ⟨gb342, 0, none⟩ = some (.int .i64 a1_0) ∧ w14.cell? ⟨gb342, 1, none⟩ = some (.int .i64 a1_1) ∧ w14.cell? ⟨gb342, 2, none⟩ = some (.int .i64 a1_2) ∧ w14.cell? ⟨gb342, 3, none⟩ = some (.int .i64 a1_3) := hS_
           obtain ⟨Ao15, co15, eo15⟩ := Kd.R_slice HO346.out
           (first | subst eo15 | (injection eo15 with f1_ f2_ f3_; have f4_ := f1_.symm; have f5_ := f3_.symm; clear f1_ f2_ f3_; subst f4_; subst f5_))
           refine norm_ (a' := ?_) ?_ ?_
           rotate_left
           ·
            simp only [putAll, Act.put, List.setIfInBounds_toArray, List.set_cons_zero, List.set_cons_succ]
            rfl
           refine two_ (i := 5) (j := 11) (Ni := some 12) (Nj := some 18) #[true, true, true, true, true, true, false, true, true, true, true, false, false, false, false, true, false] #[true, true, true, true, true, false, false, true, true, true, true, true, false, false, false, true, false] rfl rfl rfl rfl (two_of HT_.out (by kernel_rfl)) (by decide) (by decide) (fun K hK => ?_) (fun K hK => ?_)
           ·
            refine goes_ Try.func82 (by kernel_rfl) rfl #[.slice Ao15 y344.length co15] (by rfl) rfl rfl (by (try simp only [List.map_toArray, List.map_cons, List.map_nil]); first | done | rfl | (simp only [List.length_drop, List.length_take]; rfl)) ?_
            with_reducible refine (spec_ivEnds.calls k _ _ y344 t347 t348 t349 t350 _ ?side1 ?side2 A3.out).mono ?_
            (case side1 => repeat (first | exact (Kd.R_reads' HO346.out).2.2 | (with_reducible refine Kd.C_alloc ?_ _) | (with_reducible refine Kd.C_drewN ?_ _) | (with_reducible refine Kd.C_drew ?_)))
            (case side2 => exact (Kd.R_reads' HO346.out).2.1)
            rintro e w16 ⟨rfl, hb⟩
            refine ⟨_, rfl, ?_⟩
            have n0_ := Aside0.mk (Kd.R_below (zq3 HO346) hb)
            have n1_ := Aside0.mk (zbb BK341 hb)
            have n2_ := Aside0.mk (zbb BK342 hb)
            have n3_ := Aside0.mk (zbb BK343 hb)
            have n4_ := Aside0.mk (zbb BK358 hb)
            have n5_ := Aside0.mk (below_step (z53_1 HB) hb)
            clear HO346 BK341 BK342 BK343 BK358 HB
            have HO346 := n0_; have BK341 := n1_; have BK342 := n2_; have BK343 := n3_; have BK358 := n4_; have HB := n5_
            clear n0_ n1_ n2_ n3_ n4_ n5_
            (try clear hb)
            (try clear hb2)
            (try clear hk)
            (try clear hi)
            refine hK.out _ _ ⟨zc BK341 0, zc BK341 1, zc BK341 2, zc BK341 3, zc BK342 0, zc BK342 1, zc BK342 2, zc BK342 3⟩ (fun hHeld => ?_)
            clear hK K
            refine norm_ (a' := ?_) ?_ ?_
            rotate_left
            ·
             show Act.put _ (some 12) _ = _
             simp only [Act.put, List.setIfInBounds_toArray, List.set_cons_zero, List.set_cons_succ, i64_w, i32_w]; rfl
            refine pure_ (i := 6) (N := some 13) (v := ?_) (a' := ?_) #[true, true, true, true, true, true, true, true, true, true, true, false, false, false, false, true, false] rfl rfl (any_of HT_.out (by kernel_rfl)) (fun _ _ _ h => h) (Or.inl ⟨by rfl, ?_⟩) ?_ ?_
            rotate_left
            ·
             intro w'
             first | (go_simp; with_reducible rfl) | (go_simp; simp only [Instr.field]; go_simp; simp only [asAgg]; go_simp; rfl)
            rotate_left
            ·
             simp only [Act.put, List.setIfInBounds_toArray, List.set_cons_zero, List.set_cons_succ, i64_w, i32_w]
             rfl
            exact norm_ zq4 (hJ4_5_15 (_, _) _ ⟨hHeld, (zq3 HO346), (zq1 BK341), (zq1 BK342), (zq1 BK343), (zq1 BK358), GW358.out, GE358.out, NB341_358.out, NB358_341.out, NB342_358.out, NB358_342.out, NB343_358.out, NB358_343.out, (z53_1 HB)⟩)
           ·
            refine Kd.R_lit_step k27 _ 27 ?hg (N := 18) ?hd (xs := ([(⟨a0_2, a0_3⟩ : S27), (⟨a1_2, a1_3⟩ : S27)] : List (S27))) (inner := [.int .i64 a0_2, .int .i64 a0_3, .int .i64 a1_2, .int .i64 a1_3]) (ok := fun _ => True) (okp := fun _ => True) ?hr ?hp (fun _ hk => hk) trivial (Below.refl _ _) (Nat.le_refl _) (by simp) ?_; (case hd => rfl); (case hg => rfl); (case hr => first | (go_simp; done) | (go_simp; rfl)); (case hp => exact (Reps.c2 (show Kd.M k27 _ _ _ (⟨a0_2, a0_3⟩ : S27) [.int .i64 a0_2, .int .i64 a0_3] from (k27_mkM _ _ _ (⟨a0_2, a0_3⟩ : S27) )) (Reps.c2 (show Kd.M k27 _ _ _ (⟨a1_2, a1_3⟩ : S27) [.int .i64 a1_2, .int .i64 a1_3] from (k27_mkM _ _ _ (⟨a1_2, a1_3⟩ : S27) )) (Reps.none _ _))))
            intro v352 w15 ho16 hb hg_ hnew_
            clear hg_ hnew_
            (first | rw [← Ny351.out] at ho16 | (simp only [Int.reduceToNat] at ho16; rw [← Ny351.out] at ho16))
            have n0_ := Aside0.mk (Kd.R_elder' (zq3 HO346) (Kd.R_base ho16) hb)
            have HO353 := Aside0.mk (Kd.R_lower (Kd.R_new' ho16 (Kd.R_lt (zq3 HO346))) (below_size (z53_1 HB)))
            have n2_ := Aside0.mk (zbb BK341 hb)
            have n3_ := Aside0.mk (zbb BK342 hb)
            have n4_ := Aside0.mk (zbb BK343 hb)
            have n5_ := Aside0.mk (zbb BK358 hb)
            have n6_ := Aside0.mk (below_step (z53_1 HB) hb)
            clear HO346 BK341 BK342 BK343 BK358 HB
            have HO346 := n0_; have BK341 := n2_; have BK342 := n3_; have BK343 := n4_; have BK358 := n5_; have HB := n6_
            clear n0_ n2_ n3_ n4_ n5_ n6_ hb ho16
            refine hK.out _ _ ⟨zc BK341 0, zc BK341 1, zc BK341 2, zc BK341 3, zc BK342 0, zc BK342 1, zc BK342 2, zc BK342 3⟩ (fun hHeld => ?_)
            clear hK K
            refine norm_ (a' := ?_) ?_ ?_
            rotate_left
            ·
             show Act.put _ (some 18) _ = _
             simp only [Act.put, List.setIfInBounds_toArray, List.set_cons_zero, List.set_cons_succ, i64_w, i32_w]; rfl
            exact norm_ zq4 (hJ4_11_15 (_, _, _) _ ⟨hHeld, (by (with_reducible repeat (first | apply Kd.R_alloc | apply Kd.R_drewN | apply Kd.R_drew)); exact Kd.R_mono HO346.out (fun _ hk => hk.2)), (by (with_reducible repeat (first | apply Kd.R_alloc | apply Kd.R_drewN | apply Kd.R_drew)); exact Kd.R_mono HO353.out (fun _ hk => hk.2)), (zq1 BK341), (zq1 BK342), (zq1 BK343), (zq1 BK358), GW358.out, GE358.out, NB341_358.out, NB358_341.out, NB342_358.out, NB358_342.out, NB343_358.out, NB358_343.out, (z53_1 HB)⟩)
         ·
          rintro ⟨v345, v352⟩ w15 ⟨hS_, h0_, h1_, h2_, h3_, h4_, h5_⟩
          have HO346 : Aside0 (Kd.R k27 27 w15 w.heap.size (fun k_ => some k_ ≠ (v352 : Value).ownBlock) v345 y344) := ⟨h0_⟩
          have HO353 : Aside0 (Kd.R k27 27 w15 w.heap.size (fun k_ => some k_ ≠ (v345 : Value).ownBlock) v352 y351) := ⟨h1_⟩
          have n2_ : Aside0 (w15.heap[gb341]? = some (.cells #[.int .i64 a0_0, .int .i64 a0_1, .int .i64 a0_2, .int .i64 a0_3] 29 (0, 0))) := ⟨h2_⟩
          have n3_ : Aside0 (w15.heap[gb342]? = some (.cells #[.int .i64 a1_0, .int .i64 a1_1, .int .i64 a1_2, .int .i64 a1_3] 29 (0, 0))) := ⟨h3_⟩
          have n4_ : Aside0 (w15.heap[gb343]? = some (.cells #[.int .i64 0, .int .i64 0, .int .i64 0, .int .i64 0] 29 (0, 0))) := ⟨h4_⟩
          have n5_ : Aside0 (Below w.heap.size w w15) := ⟨h5_⟩
          clear BK341 BK342 BK343 HB h0_ h1_ h2_ h3_ h4_ h5_
          have BK341 := n2_; have BK342 := n3_; have BK343 := n4_; have HB := n5_
          clear n2_ n3_ n4_ n5_
          have hHeld : w15.cell? ⟨gb341, 0, none⟩ = some (.int .i64 a0_0) ∧ w15.cell? ⟨gb341, 1, none⟩ = some (.int .i64 a0_1) ∧ w15.cell? ⟨gb341, 2, none⟩ = some (.int .i64 a0_2) ∧ w15.cell? ⟨gb341, 3, none⟩ = some (.int .i64 a0_3) ∧ w15.cell? ⟨gb342, 0, none⟩ = some (.int .i64 a1_0) ∧ w15.cell? ⟨gb342, 1, none⟩ = some (.int .i64 a1_1) ∧ w15.cell? ⟨gb342, 2, none⟩ = some (.int .i64 a1_2) ∧ w15.cell? ⟨gb342, 3, none⟩ = some (.int .i64 a1_3) := hS_
          obtain ⟨Ao16, co16, eo16⟩ := Kd.R_slice HO346.out
          (first | subst eo16 | (injection eo16 with f1_ f2_ f3_; have f4_ := f1_.symm; have f5_ := f3_.symm; clear f1_ f2_ f3_; subst f4_; subst f5_))
          refine norm_ (a' := ?_) ?_ ?_
          rotate_left
          ·
           simp only [putAll, Act.put, List.setIfInBounds_toArray, List.set_cons_zero, List.set_cons_succ]
           rfl
          refine two_ (i := 5) (j := 15) (Ni := some 12) (Nj := some 6) #[true, true, true, true, true, true, false, true, true, true, true, true, false, false, false, false, false] #[true, true, true, true, true, false, false, true, true, true, true, true, false, false, false, true, false] rfl rfl rfl rfl (two_of HT_.out (by kernel_rfl)) (by decide) (by decide) (fun K hK => ?_) (fun K hK => ?_)
          ·
           refine goes_ Try.func82 (by kernel_rfl) rfl #[.slice Ao16 y344.length co16] (by rfl) rfl rfl (by (try simp only [List.map_toArray, List.map_cons, List.map_nil]); first | done | rfl | (simp only [List.length_drop, List.length_take]; rfl)) ?_
           with_reducible refine (spec_ivEnds.calls k _ _ y344 t347 t348 t349 t350 _ ?side1 ?side2 A3.out).mono ?_
           (case side1 => repeat (first | exact (Kd.R_reads' HO346.out).2.2 | (with_reducible refine Kd.C_alloc ?_ _) | (with_reducible refine Kd.C_drewN ?_ _) | (with_reducible refine Kd.C_drew ?_)))
           (case side2 => exact (Kd.R_reads' HO346.out).2.1)
           rintro e w17 ⟨rfl, hb⟩
           refine ⟨_, rfl, ?_⟩
           have n0_ := Aside0.mk (Kd.R_below (zq3 HO346) hb)
           have n1_ := Aside0.mk (Kd.R_below (zq3 HO353) hb)
           have n2_ := Aside0.mk (zbb BK341 hb)
           have n3_ := Aside0.mk (zbb BK342 hb)
           have n4_ := Aside0.mk (zbb BK343 hb)
           have n5_ := Aside0.mk (below_step (z53_1 HB) hb)
           clear HO346 HO353 BK341 BK342 BK343 HB
           have HO346 := n0_; have HO353 := n1_; have BK341 := n2_; have BK342 := n3_; have BK343 := n4_; have HB := n5_
           clear n0_ n1_ n2_ n3_ n4_ n5_
           (try clear hb)
           (try clear hb2)
           (try clear hk)
           (try clear hi)
           refine hK.out _ _ ⟨zc BK341 0, zc BK341 1, zc BK341 2, zc BK341 3, zc BK342 0, zc BK342 1, zc BK342 2, zc BK342 3⟩ (fun hHeld => ?_)
           clear hK K
           refine norm_ (a' := ?_) ?_ ?_
           rotate_left
           ·
            show Act.put _ (some 12) _ = _
            simp only [Act.put, List.setIfInBounds_toArray, List.set_cons_zero, List.set_cons_succ, i64_w, i32_w]; rfl
           refine pure_ (i := 6) (N := some 13) (v := ?_) (a' := ?_) #[true, true, true, true, true, true, true, true, true, true, true, true, false, false, false, false, false] rfl rfl (any_of HT_.out (by kernel_rfl)) (fun _ _ _ h => h) (Or.inl ⟨by rfl, ?_⟩) ?_ ?_
           rotate_left
           ·
            intro w'
            first | (go_simp; with_reducible rfl) | (go_simp; simp only [Instr.field]; go_simp; simp only [asAgg]; go_simp; rfl)
           rotate_left
           ·
            simp only [Act.put, List.setIfInBounds_toArray, List.set_cons_zero, List.set_cons_succ, i64_w, i32_w]
            rfl
           exact norm_ zq4 (hJ4_5_11 (_, _) _ ⟨hHeld, (zq3 HO346), (zq3 HO353), (zq1 BK341), (zq1 BK342), (zq1 BK343), (z53_1 HB)⟩)
          ·
           refine box_step ?hg (N := 6) ?hd (cs := #[.int .i64 0, .int .i64 0, .int .i64 0, .int .i64 0]) (t := 29) ?hr ?_; (case hd => rfl); (case hg => rfl); (case hr => first | (go_simp; done) | (go_simp; rfl))
           intro gb358 hg w16 hbox hb
           have n0_ := Aside0.mk (Kd.R_below (zq3 HO346) hb)
           have n1_ := Aside0.mk (Kd.R_below (zq3 HO353) hb)
           have n2_ := Aside0.mk (zbb BK341 hb)
           have n3_ := Aside0.mk (zbb BK342 hb)
           have n4_ := Aside0.mk (zbb BK343 hb)
           have n5_ := Aside0.mk (below_step (z53_1 HB) hb)
           have BK358 := Aside0.mk (hbox)
           have GW358 := Aside0.mk ((by rw [hg]; exact (below_size (z53_1 HB)) : w.heap.size ≤ gb358))
           have GE358 := Aside0.mk ((by rw [hg]; exact (below_size (z53_1 HB)) : w.heap.size ≤ gb358))
           have NB341_358 := Aside0.mk (zlt BK341 hg)
           have NB358_341 := Aside0.mk (zgt BK341 hg)
           have NB342_358 := Aside0.mk (zlt BK342 hg)
           have NB358_342 := Aside0.mk (zgt BK342 hg)
           have NB343_358 := Aside0.mk (zlt BK343 hg)
           have NB358_343 := Aside0.mk (zgt BK343 hg)
           clear HO346 HO353 BK341 BK342 BK343 HB
           have HO346 := n0_; have HO353 := n1_; have BK341 := n2_; have BK342 := n3_; have BK343 := n4_; have HB := n5_
           clear n0_ n1_ n2_ n3_ n4_ n5_ hb hbox hg
           refine hK.out _ _ ⟨zc BK341 0, zc BK341 1, zc BK341 2, zc BK341 3, zc BK342 0, zc BK342 1, zc BK342 2, zc BK342 3⟩ (fun hHeld => ?_)
           clear hK K
           refine norm_ (a' := ?_) ?_ ?_
           rotate_left
           ·
            show Act.put _ (some 6) _ = _
            simp only [Act.put, List.setIfInBounds_toArray, List.set_cons_zero, List.set_cons_succ, i64_w, i32_w]; rfl
           exact norm_ zq4 (hJ4_11_15 (_, _, _) _ ⟨hHeld, (zq3 HO346), (zq3 HO353), (zq1 BK341), (zq1 BK342), (zq1 BK343), (zq1 BK358), GW358.out, GE358.out, NB341_358.out, NB358_341.out, NB342_358.out, NB358_342.out, NB343_358.out, NB358_343.out, (z53_1 HB)⟩)
        ·
         rintro v345 w15 ⟨hS_, h0_, h1_, h2_, h3_, h4_⟩
         have HO346 : Aside0 (Kd.R k27 27 w15 w.heap.size (fun _ => True) v345 y344) := ⟨h0_⟩
         have n1_ : Aside0 (w15.heap[gb341]? = some (.cells #[.int .i64 a0_0, .int .i64 a0_1, .int .i64 a0_2, .int .i64 a0_3] 29 (0, 0))) := ⟨h1_⟩
         have n2_ : Aside0 (w15.heap[gb342]? = some (.cells #[.int .i64 a1_0, .int .i64 a1_1, .int .i64 a1_2, .int .i64 a1_3] 29 (0, 0))) := ⟨h2_⟩
         have n3_ : Aside0 (w15.heap[gb343]? = some (.cells #[.int .i64 0, .int .i64 0, .int .i64 0, .int .i64 0] 29 (0, 0))) := ⟨h3_⟩
         have n4_ : Aside0 (Below w.heap.size w w15) := ⟨h4_⟩
         clear BK341 BK342 BK343 HB h0_ h1_ h2_ h3_ h4_
         have BK341 := n1_; have BK342 := n2_; have BK343 := n3_; have HB := n4_
         clear n1_ n2_ n3_ n4_
         have hHeld : w15.cell? ⟨gb341, 0, none⟩ = some (.int .i64 a0_0) ∧ w15.cell? ⟨gb341, 1, none⟩ = some (.int .i64 a0_1) ∧ w15.cell? ⟨gb341, 2, none⟩ = some (.int .i64 a0_2) ∧ w15.cell? ⟨gb341, 3, none⟩ = some (.int .i64 a0_3) ∧ w15.cell? ⟨gb342, 0, none⟩ = some (.int .i64 a1_0) ∧ w15.cell? ⟨gb342, 1, none⟩ = some (.int .i64 a1_1) ∧ w15.cell? ⟨gb342, 2, none⟩ = some (.int .i64 a1_2) ∧ w15.cell? ⟨gb342, 3, none⟩ = some (.int .i64 a1_3) := hS_
         refine norm_ (a' := ?_) ?_ ?_
         rotate_left
         ·
          simp only [putAll, Act.put, List.setIfInBounds_toArray, List.set_cons_zero, List.set_cons_succ]
          rfl
         refine two_ (i := 11) (j := 15) (Ni := some 18) (Nj := some 6) #[true, true, true, true, true, true, true, true, true, true, true, true, false, false, false, false, false] #[true, true, true, true, true, true, true, true, true, true, true, false, false, false, false, true, false] rfl rfl rfl rfl (two_of HT_.out (by kernel_rfl)) (by decide) (by decide) (fun K hK => ?_) (fun K hK => ?_)
         ·
          refine Kd.R_lit_step k27 _ 27 ?hg (N := 18) ?hd (xs := ([(⟨a0_2, a0_3⟩ : S27), (⟨a1_2, a1_3⟩ : S27)] : List (S27))) (inner := [.int .i64 a0_2, .int .i64 a0_3, .int .i64 a1_2, .int .i64 a1_3]) (ok := fun _ => True) (okp := fun _ => True) ?hr ?hp (fun _ hk => hk) trivial (Below.refl _ _) (Nat.le_refl _) (by simp) ?_; (case hd => rfl); (case hg => rfl); (case hr => first | (go_simp; done) | (go_simp; rfl)); (case hp => exact (Reps.c2 (show Kd.M k27 _ _ _ (⟨a0_2, a0_3⟩ : S27) [.int .i64 a0_2, .int .i64 a0_3] from (k27_mkM _ _ _ (⟨a0_2, a0_3⟩ : S27) )) (Reps.c2 (show Kd.M k27 _ _ _ (⟨a1_2, a1_3⟩ : S27) [.int .i64 a1_2, .int .i64 a1_3] from (k27_mkM _ _ _ (⟨a1_2, a1_3⟩ : S27) )) (Reps.none _ _))))
          intro v352 w16 ho17 hb hg_ hnew_
          clear hg_ hnew_
          (first | rw [← Ny351.out] at ho17 | (simp only [Int.reduceToNat] at ho17; rw [← Ny351.out] at ho17))
          have n0_ := Aside0.mk (Kd.R_elder' (zq3 HO346) (Kd.R_base ho17) hb)
          have HO353 := Aside0.mk (Kd.R_lower (Kd.R_new' ho17 (Kd.R_lt (zq3 HO346))) (below_size (z53_1 HB)))
          have n2_ := Aside0.mk (zbb BK341 hb)
          have n3_ := Aside0.mk (zbb BK342 hb)
          have n4_ := Aside0.mk (zbb BK343 hb)
          have n5_ := Aside0.mk (below_step (z53_1 HB) hb)
          clear HO346 BK341 BK342 BK343 HB
          have HO346 := n0_; have BK341 := n2_; have BK342 := n3_; have BK343 := n4_; have HB := n5_
          clear n0_ n2_ n3_ n4_ n5_ hb ho17
          refine hK.out _ _ ⟨zc BK341 0, zc BK341 1, zc BK341 2, zc BK341 3, zc BK342 0, zc BK342 1, zc BK342 2, zc BK342 3⟩ (fun hHeld => ?_)
          clear hK K
          refine norm_ (a' := ?_) ?_ ?_
          rotate_left
          ·
           show Act.put _ (some 18) _ = _
           simp only [Act.put, List.setIfInBounds_toArray, List.set_cons_zero, List.set_cons_succ, i64_w, i32_w]; rfl
          exact norm_ zq4 (hJ4_5_11 (_, _) _ ⟨hHeld, (by (with_reducible repeat (first | apply Kd.R_alloc | apply Kd.R_drewN | apply Kd.R_drew)); exact Kd.R_mono HO346.out (fun _ hk => hk.2)), (by (with_reducible repeat (first | apply Kd.R_alloc | apply Kd.R_drewN | apply Kd.R_drew)); exact Kd.R_mono HO353.out (fun _ hk => hk.2)), (zq1 BK341), (zq1 BK342), (zq1 BK343), (z53_1 HB)⟩)
         ·
          refine box_step ?hg (N := 6) ?hd (cs := #[.int .i64 0, .int .i64 0, .int .i64 0, .int .i64 0]) (t := 29) ?hr ?_; (case hd => rfl); (case hg => rfl); (case hr => first | (go_simp; done) | (go_simp; rfl))
          intro gb358 hg w16 hbox hb
          have n0_ := Aside0.mk (Kd.R_below (zq3 HO346) hb)
          have n1_ := Aside0.mk (zbb BK341 hb)
          have n2_ := Aside0.mk (zbb BK342 hb)
          have n3_ := Aside0.mk (zbb BK343 hb)
          have n4_ := Aside0.mk (below_step (z53_1 HB) hb)
          have BK358 := Aside0.mk (hbox)
          have GW358 := Aside0.mk ((by rw [hg]; exact (below_size (z53_1 HB)) : w.heap.size ≤ gb358))
          have GE358 := Aside0.mk ((by rw [hg]; exact (below_size (z53_1 HB)) : w.heap.size ≤ gb358))
          have NB341_358 := Aside0.mk (zlt BK341 hg)
          have NB358_341 := Aside0.mk (zgt BK341 hg)
          have NB342_358 := Aside0.mk (zlt BK342 hg)
          have NB358_342 := Aside0.mk (zgt BK342 hg)
          have NB343_358 := Aside0.mk (zlt BK343 hg)
          have NB358_343 := Aside0.mk (zgt BK343 hg)
          clear HO346 BK341 BK342 BK343 HB
          have HO346 := n0_; have BK341 := n1_; have BK342 := n2_; have BK343 := n3_; have HB := n4_
          clear n0_ n1_ n2_ n3_ n4_ hb hbox hg
          refine hK.out _ _ ⟨zc BK341 0, zc BK341 1, zc BK341 2, zc BK341 3, zc BK342 0, zc BK342 1, zc BK342 2, zc BK342 3⟩ (fun hHeld => ?_)
          clear hK K
          refine norm_ (a' := ?_) ?_ ?_
          rotate_left
          ·
           show Act.put _ (some 6) _ = _
           simp only [Act.put, List.setIfInBounds_toArray, List.set_cons_zero, List.set_cons_succ, i64_w, i32_w]; rfl
          exact norm_ zq4 (hJ4_5_15 (_, _) _ ⟨hHeld, (zq3 HO346), (zq1 BK341), (zq1 BK342), (zq1 BK343), (zq1 BK358), GW358.out, GE358.out, NB341_358.out, NB358_341.out, NB342_358.out, NB358_342.out, NB343_358.out, NB358_343.out, (z53_1 HB)⟩)
       ·
        rintro ⟨v345, v352, gb358⟩ w16 ⟨hS_, h0_, h1_, h2_, h3_, h4_, h5_, h6_, h7_, h8_, h9_, h10_, h11_, h12_, h13_, h14_⟩
        have HO346 : Aside0 (Kd.R k27 27 w16 w.heap.size (fun k_ => some k_ ≠ (v352 : Value).ownBlock) v345 y344) := ⟨h0_⟩
        have HO353 : Aside0 (Kd.R k27 27 w16 w.heap.size (fun k_ => some k_ ≠ (v345 : Value).ownBlock) v352 y351) := ⟨h1_⟩
        have n2_ : Aside0 (w16.heap[gb341]? = some (.cells #[.int .i64 a0_0, .int .i64 a0_1, .int .i64 a0_2, .int .i64 a0_3] 29 (0, 0))) := ⟨h2_⟩
        have n3_ : Aside0 (w16.heap[gb342]? = some (.cells #[.int .i64 a1_0, .int .i64 a1_1, .int .i64 a1_2, .int .i64 a1_3] 29 (0, 0))) := ⟨h3_⟩
        have n4_ : Aside0 (w16.heap[gb343]? = some (.cells #[.int .i64 0, .int .i64 0, .int .i64 0, .int .i64 0] 29 (0, 0))) := ⟨h4_⟩
        have BK358 : Aside0 (w16.heap[gb358]? = some (.cells #[.int .i64 0, .int .i64 0, .int .i64 0, .int .i64 0] 29 (0, 0))) := ⟨h5_⟩
        have GW358 : Aside0 (w.heap.size ≤ gb358) := ⟨h6_⟩
        have GE358 : Aside0 (w.heap.size ≤ gb358) := ⟨h7_⟩
        have NB341_358 : Aside0 (gb341 ≠ gb358) := ⟨h8_⟩
        have NB358_341 : Aside0 (gb358 ≠ gb341) := ⟨h9_⟩
        have NB342_358 : Aside0 (gb342 ≠ gb358) := ⟨h10_⟩
        have NB358_342 : Aside0 (gb358 ≠ gb342) := ⟨h11_⟩
        have NB343_358 : Aside0 (gb343 ≠ gb358) := ⟨h12_⟩
        have NB358_343 : Aside0 (gb358 ≠ gb343) := ⟨h13_⟩
        have n14_ : Aside0 (Below w.heap.size w w16) := ⟨h14_⟩
        clear BK341 BK342 BK343 HB h0_ h1_ h2_ h3_ h4_ h5_ h6_ h7_ h8_ h9_ h10_ h11_ h12_ h13_ h14_
        have BK341 := n2_; have BK342 := n3_; have BK343 := n4_; have HB := n14_
        clear n2_ n3_ n4_ n14_
        have hHeld : w16.cell? ⟨gb341, 0, none⟩ = some (.int .i64 a0_0) ∧ w16.cell? ⟨gb341, 1, none⟩ = some (.int .i64 a0_1) ∧ w16.cell? ⟨gb341, 2, none⟩ = some (.int .i64 a0_2) ∧ w16.cell? ⟨gb341, 3, none⟩ = some (.int .i64 a0_3) ∧ w16.cell? ⟨gb342, 0, none⟩ = some (.int .i64 a1_0) ∧ w16.cell? ⟨gb342, 1, none⟩ = some (.int .i64 a1_1) ∧ w16.cell? ⟨gb342, 2, none⟩ = some (.int .i64 a1_2) ∧ w16.cell? ⟨gb342, 3, none⟩ = some (.int .i64 a1_3) := hS_
        obtain ⟨Ao17, co17, eo17⟩ := Kd.R_slice HO346.out
        (first | subst eo17 | (injection eo17 with f1_ f2_ f3_; have f4_ := f1_.symm; have f5_ := f3_.symm; clear f1_ f2_ f3_; subst f4_; subst f5_))
        refine norm_ (a' := ?_) ?_ ?_
        rotate_left
        ·
         simp only [putAll, Act.put, List.setIfInBounds_toArray, List.set_cons_zero, List.set_cons_succ]
         rfl
        refine one_ (i := 5) (N := some 12) #[true, true, true, true, true, true, false, true, true, true, true, true, false, false, false, true, false] rfl rfl (one_of HT_.out (by kernel_rfl)) (by decide) (fun K hK => ?_)
        refine goes_ Try.func82 (by kernel_rfl) rfl #[.slice Ao17 y344.length co17] (by rfl) rfl rfl (by (try simp only [List.map_toArray, List.map_cons, List.map_nil]); first | done | rfl | (simp only [List.length_drop, List.length_take]; rfl)) ?_
        with_reducible refine (spec_ivEnds.calls k _ _ y344 t347 t348 t349 t350 _ ?side1 ?side2 A3.out).mono ?_
        (case side1 => repeat (first | exact (Kd.R_reads' HO346.out).2.2 | (with_reducible refine Kd.C_alloc ?_ _) | (with_reducible refine Kd.C_drewN ?_ _) | (with_reducible refine Kd.C_drew ?_)))
        (case side2 => exact (Kd.R_reads' HO346.out).2.1)
        rintro e w18 ⟨rfl, hb⟩
        refine ⟨_, rfl, ?_⟩
        have n0_ := Aside0.mk (Kd.R_below (zq3 HO346) hb)
        have n1_ := Aside0.mk (Kd.R_below (zq3 HO353) hb)
        have n2_ := Aside0.mk (zbb BK341 hb)
        have n3_ := Aside0.mk (zbb BK342 hb)
        have n4_ := Aside0.mk (zbb BK343 hb)
        have n5_ := Aside0.mk (zbb BK358 hb)
        have n6_ := Aside0.mk (below_step (z53_1 HB) hb)
        clear HO346 HO353 BK341 BK342 BK343 BK358 HB
        have HO346 := n0_; have HO353 := n1_; have BK341 := n2_; have BK342 := n3_; have BK343 := n4_; have BK358 := n5_; have HB := n6_
        clear n0_ n1_ n2_ n3_ n4_ n5_ n6_
        (try clear hb)
        (try clear hb2)
        (try clear hk)
        (try clear hi)
        refine hK.out _ _ ⟨zc BK341 0, zc BK341 1, zc BK341 2, zc BK341 3, zc BK342 0, zc BK342 1, zc BK342 2, zc BK342 3⟩ (fun hHeld => ?_)
        clear hK K
        refine norm_ (a' := ?_) ?_ ?_
        rotate_left
        ·
         show Act.put _ (some 12) _ = _
         simp only [Act.put, List.setIfInBounds_toArray, List.set_cons_zero, List.set_cons_succ, i64_w, i32_w]; rfl
        refine pure_ (i := 6) (N := some 13) (v := ?_) (a' := ?_) #[true, true, true, true, true, true, true, true, true, true, true, true, false, false, false, true, false] rfl rfl (any_of HT_.out (by kernel_rfl)) (fun _ _ _ h => h) (Or.inl ⟨by rfl, ?_⟩) ?_ ?_
        rotate_left
        ·
         intro w'
         first | (go_simp; with_reducible rfl) | (go_simp; simp only [Instr.field]; go_simp; simp only [asAgg]; go_simp; rfl)
        rotate_left
        ·
         simp only [Act.put, List.setIfInBounds_toArray, List.set_cons_zero, List.set_cons_succ, i64_w, i32_w]
         rfl
        exact norm_ zq4 (hJ4_5_11_15 (_, _, _) _ ⟨hHeld, (zq3 HO346), (zq3 HO353), (zq1 BK341), (zq1 BK342), (zq1 BK343), (zq1 BK358), GW358.out, GE358.out, NB341_358.out, NB358_341.out, NB342_358.out, NB358_342.out, NB343_358.out, NB358_343.out, (z53_1 HB)⟩)
      ·
       rintro ⟨v345, gb358⟩ w16 ⟨hS_, h0_, h1_, h2_, h3_, h4_, h5_, h6_, h7_, h8_, h9_, h10_, h11_, h12_, h13_⟩
       have HO346 : Aside0 (Kd.R k27 27 w16 w.heap.size (fun _ => True) v345 y344) := ⟨h0_⟩
       have n1_ : Aside0 (w16.heap[gb341]? = some (.cells #[.int .i64 a0_0, .int .i64 a0_1, .int .i64 a0_2, .int .i64 a0_3] 29 (0, 0))) := ⟨h1_⟩
       have n2_ : Aside0 (w16.heap[gb342]? = some (.cells #[.int .i64 a1_0, .int .i64 a1_1, .int .i64 a1_2, .int .i64 a1_3] 29 (0, 0))) := ⟨h2_⟩
       have n3_ : Aside0 (w16.heap[gb343]? = some (.cells #[.int .i64 0, .int .i64 0, .int .i64 0, .int .i64 0] 29 (0, 0))) := ⟨h3_⟩
       have BK358 : Aside0 (w16.heap[gb358]? = some (.cells #[.int .i64 0, .int .i64 0, .int .i64 0, .int .i64 0] 29 (0, 0))) := ⟨h4_⟩
       have GW358 : Aside0 (w.heap.size ≤ gb358) := ⟨h5_⟩
       have GE358 : Aside0 (w.heap.size ≤ gb358) := ⟨h6_⟩
       have NB341_358 : Aside0 (gb341 ≠ gb358) := ⟨h7_⟩
       have NB358_341 : Aside0 (gb358 ≠ gb341) := ⟨h8_⟩
       have NB342_358 : Aside0 (gb342 ≠ gb358) := ⟨h9_⟩
       have NB358_342 : Aside0 (gb358 ≠ gb342) := ⟨h10_⟩
       have NB343_358 : Aside0 (gb343 ≠ gb358) := ⟨h11_⟩
       have NB358_343 : Aside0 (gb358 ≠ gb343) := ⟨h12_⟩
       have n13_ : Aside0 (Below w.heap.size w w16) := ⟨h13_⟩
       clear BK341 BK342 BK343 HB h0_ h1_ h2_ h3_ h4_ h5_ h6_ h7_ h8_ h9_ h10_ h11_ h12_ h13_
       have BK341 := n1_; have BK342 := n2_; have BK343 := n3_; have HB := n13_
       clear n1_ n2_ n3_ n13_
       have hHeld : w16.cell? ⟨gb341, 0, none⟩ = some (.int .i64 a0_0) ∧ w16.cell? ⟨gb341, 1, none⟩ = some (.int .i64 a0_1) ∧ w16.cell? ⟨gb341, 2, none⟩ = some (.int .i64 a0_2) ∧ w16.cell? ⟨gb341, 3, none⟩ = some (.int .i64 a0_3) ∧ w16.cell? ⟨gb342, 0, none⟩ = some (.int .i64 a1_0) ∧ w16.cell? ⟨gb342, 1, none⟩ = some (.int .i64 a1_1) ∧ w16.cell? ⟨gb342, 2, none⟩ = some (.int .i64 a1_2) ∧ w16.cell? ⟨gb342, 3, none⟩ = some (.int .i64 a1_3) := hS_
       refine norm_ (a' := ?_) ?_ ?_
       rotate_left
       ·
        simp only [putAll, Act.put, List.setIfInBounds_toArray, List.set_cons_zero, List.set_cons_succ]
        rfl
       refine one_ (i := 11) (N := some 18) #[true, true, true, true, true, true, true, true, true, true, true, true, false, false, false, true, false] rfl rfl (one_of HT_.out (by kernel_rfl)) (by decide) (fun K hK => ?_)
       refine Kd.R_lit_step k27 _ 27 ?hg (N := 18) ?hd (xs := ([(⟨a0_2, a0_3⟩ : S27), (⟨a1_2, a1_3⟩ : S27)] : List (S27))) (inner := [.int .i64 a0_2, .int .i64 a0_3, .int .i64 a1_2, .int .i64 a1_3]) (ok := fun _ => True) (okp := fun _ => True) ?hr ?hp (fun _ hk => hk) trivial (Below.refl _ _) (Nat.le_refl _) (by simp) ?_; (case hd => rfl); (case hg => rfl); (case hr => first | (go_simp; done) | (go_simp; rfl)); (case hp => exact (Reps.c2 (show Kd.M k27 _ _ _ (⟨a0_2, a0_3⟩ : S27) [.int .i64 a0_2, .int .i64 a0_3] from (k27_mkM _ _ _ (⟨a0_2, a0_3⟩ : S27) )) (Reps.c2 (show Kd.M k27 _ _ _ (⟨a1_2, a1_3⟩ : S27) [.int .i64 a1_2, .int .i64 a1_3] from (k27_mkM _ _ _ (⟨a1_2, a1_3⟩ : S27) )) (Reps.none _ _))))
       intro v352 w17 ho18 hb hg_ hnew_
       clear hg_ hnew_
       (first | rw [← Ny351.out] at ho18 | (simp only [Int.reduceToNat] at ho18; rw [← Ny351.out] at ho18))
       have n0_ := Aside0.mk (Kd.R_elder' (zq3 HO346) (Kd.R_base ho18) hb)
       have HO353 := Aside0.mk (Kd.R_lower (Kd.R_new' ho18 (Kd.R_lt (zq3 HO346))) (below_size (z53_1 HB)))
       have n2_ := Aside0.mk (zbb BK341 hb)
       have n3_ := Aside0.mk (zbb BK342 hb)
       have n4_ := Aside0.mk (zbb BK343 hb)
       have n5_ := Aside0.mk (zbb BK358 hb)
       have n6_ := Aside0.mk (below_step (z53_1 HB) hb)
       clear HO346 BK341 BK342 BK343 BK358 HB
       have HO346 := n0_; have BK341 := n2_; have BK342 := n3_; have BK343 := n4_; have BK358 := n5_; have HB := n6_
       clear n0_ n2_ n3_ n4_ n5_ n6_ hb ho18
       refine hK.out _ _ ⟨zc BK341 0, zc BK341 1, zc BK341 2, zc BK341 3, zc BK342 0, zc BK342 1, zc BK342 2, zc BK342 3⟩ (fun hHeld => ?_)
       clear hK K
       refine norm_ (a' := ?_) ?_ ?_
       rotate_left
       ·
        show Act.put _ (some 18) _ = _
        simp only [Act.put, List.setIfInBounds_toArray, List.set_cons_zero, List.set_cons_succ, i64_w, i32_w]; rfl
       exact norm_ zq4 (hJ4_5_11_15 (_, _, _) _ ⟨hHeld, (by (with_reducible repeat (first | apply Kd.R_alloc | apply Kd.R_drewN | apply Kd.R_drew)); exact Kd.R_mono HO346.out (fun _ hk => hk.2)), (by (with_reducible repeat (first | apply Kd.R_alloc | apply Kd.R_drewN | apply Kd.R_drew)); exact Kd.R_mono HO353.out (fun _ hk => hk.2)), (zq1 BK341), (zq1 BK342), (zq1 BK343), (zq1 BK358), GW358.out, GE358.out, NB341_358.out, NB358_341.out, NB342_358.out, NB358_342.out, NB343_358.out, NB358_343.out, (z53_1 HB)⟩)
     ·
      rintro ⟨v345, v352⟩ w17 ⟨hS_, h0_, h1_, h2_, h3_, h4_, h5_⟩
      have HO346 : Aside0 (Kd.R k27 27 w17 w.heap.size (fun k_ => some k_ ≠ (v352 : Value).ownBlock) v345 y344) := ⟨h0_⟩
      have HO353 : Aside0 (Kd.R k27 27 w17 w.heap.size (fun k_ => some k_ ≠ (v345 : Value).ownBlock) v352 y351) := ⟨h1_⟩
      have n2_ : Aside0 (w17.heap[gb341]? = some (.cells #[.int .i64 a0_0, .int .i64 a0_1, .int .i64 a0_2, .int .i64 a0_3] 29 (0, 0))) := ⟨h2_⟩
      have n3_ : Aside0 (w17.heap[gb342]? = some (.cells #[.int .i64 a1_0, .int .i64 a1_1, .int .i64 a1_2, .int .i64 a1_3] 29 (0, 0))) := ⟨h3_⟩
      have n4_ : Aside0 (w17.heap[gb343]? = some (.cells #[.int .i64 0, .int .i64 0, .int .i64 0, .int .i64 0] 29 (0, 0))) := ⟨h4_⟩
      have n5_ : Aside0 (Below w.heap.size w w17) := ⟨h5_⟩
      clear BK341 BK342 BK343 HB h0_ h1_ h2_ h3_ h4_ h5_
      have BK341 := n2_; have BK342 := n3_; have BK343 := n4_; have HB := n5_
      clear n2_ n3_ n4_ n5_
      have hHeld : w17.cell? ⟨gb341, 0, none⟩ = some (.int .i64 a0_0) ∧ w17.cell? ⟨gb341, 1, none⟩ = some (.int .i64 a0_1) ∧ w17.cell? ⟨gb341, 2, none⟩ = some (.int .i64 a0_2) ∧ w17.cell? ⟨gb341, 3, none⟩ = some (.int .i64 a0_3) ∧ w17.cell? ⟨gb342, 0, none⟩ = some (.int .i64 a1_0) ∧ w17.cell? ⟨gb342, 1, none⟩ = some (.int .i64 a1_1) ∧ w17.cell? ⟨gb342, 2, none⟩ = some (.int .i64 a1_2) ∧ w17.cell? ⟨gb342, 3, none⟩ = some (.int .i64 a1_3) := hS_
      obtain ⟨Ao18, co18, eo18⟩ := Kd.R_slice HO353.out
      (first | subst eo18 | (injection eo18 with f1_ f2_ f3_; have f4_ := f1_.symm; have f5_ := f3_.symm; clear f1_ f2_ f3_; subst f4_; subst f5_))
      refine norm_ (a' := ?_) ?_ ?_
      rotate_left
      ·
       simp only [putAll, Act.put, List.setIfInBounds_toArray, List.set_cons_zero, List.set_cons_succ]
       rfl
      refine two_ (i := 12) (j := 15) (Ni := some 19) (Nj := some 6) #[true, true, true, true, true, true, true, true, true, true, true, true, true, false, false, false, false] #[true, true, true, true, true, true, true, true, true, true, true, true, false, false, false, true, false] rfl rfl rfl rfl (two_of HT_.out (by kernel_rfl)) (by decide) (by decide) (fun K hK => ?_) (fun K hK => ?_)
      ·
       refine goes_ Try.func82 (by kernel_rfl) rfl #[.slice Ao18 y351.length co18] (by rfl) rfl rfl (by (try simp only [List.map_toArray, List.map_cons, List.map_nil]); first | done | rfl | (simp only [List.length_drop, List.length_take]; rfl)) ?_
       with_reducible refine (spec_ivEnds.calls k _ _ y351 t354 t355 t356 t357 _ ?side1 ?side2 A4.out).mono ?_
       (case side1 => repeat (first | exact (Kd.R_reads' HO353.out).2.2 | (with_reducible refine Kd.C_alloc ?_ _) | (with_reducible refine Kd.C_drewN ?_ _) | (with_reducible refine Kd.C_drew ?_)))
       (case side2 => exact (Kd.R_reads' HO353.out).2.1)
       rintro e w19 ⟨rfl, hb⟩
       refine ⟨_, rfl, ?_⟩
       have n0_ := Aside0.mk (Kd.R_below (zq3 HO346) hb)
       have n1_ := Aside0.mk (Kd.R_below (zq3 HO353) hb)
       have n2_ := Aside0.mk (zbb BK341 hb)
       have n3_ := Aside0.mk (zbb BK342 hb)
       have n4_ := Aside0.mk (zbb BK343 hb)
       have n5_ := Aside0.mk (below_step (z53_1 HB) hb)
       clear HO346 HO353 BK341 BK342 BK343 HB
       have HO346 := n0_; have HO353 := n1_; have BK341 := n2_; have BK342 := n3_; have BK343 := n4_; have HB := n5_
       clear n0_ n1_ n2_ n3_ n4_ n5_
       (try clear hb)
       (try clear hb2)
       (try clear hk)
       (try clear hi)
       refine hK.out _ _ ⟨zc BK341 0, zc BK341 1, zc BK341 2, zc BK341 3, zc BK342 0, zc BK342 1, zc BK342 2, zc BK342 3⟩ (fun hHeld => ?_)
       clear hK K
       refine norm_ (a' := ?_) ?_ ?_
       rotate_left
       ·
        show Act.put _ (some 19) _ = _
        simp only [Act.put, List.setIfInBounds_toArray, List.set_cons_zero, List.set_cons_succ, i64_w, i32_w]; rfl
       refine pure_ (i := 13) (N := some 20) (v := ?_) (a' := ?_) #[true, true, true, true, true, true, true, true, true, true, true, true, true, true, false, false, false] rfl rfl (any_of HT_.out (by kernel_rfl)) (fun _ _ _ h => h) (Or.inl ⟨by rfl, ?_⟩) ?_ ?_
       rotate_left
       ·
        intro w'
        first | (go_simp; with_reducible rfl) | (go_simp; simp only [Instr.field]; go_simp; simp only [asAgg]; go_simp; rfl)
       rotate_left
       ·
        simp only [Act.put, List.setIfInBounds_toArray, List.set_cons_zero, List.set_cons_succ, i64_w, i32_w]
        rfl
       refine pure_ (i := 14) (N := some 21) (v := ?_) (a' := ?_) #[true, true, true, true, true, true, true, true, true, true, true, true, true, true, true, false, false] rfl rfl (any_of HT_.out (by kernel_rfl)) (fun _ _ _ h => h) (Or.inl ⟨by rfl, ?_⟩) ?_ ?_
       rotate_left
       ·
        intro w'
        first | (go_simp; with_reducible rfl) | (go_simp; simp only [Instr.field]; go_simp; simp only [asAgg]; go_simp; rfl)
       rotate_left
       ·
        simp only [Act.put, List.setIfInBounds_toArray, List.set_cons_zero, List.set_cons_succ, i64_w, i32_w]
        rfl
       exact norm_ zq4 (hJ4_5_11_12 (_, _) _ ⟨hHeld, (zq3 HO346), (zq3 HO353), (zq1 BK341), (zq1 BK342), (zq1 BK343), (z53_1 HB)⟩)
      ·
       refine box_step ?hg (N := 6) ?hd (cs := #[.int .i64 0, .int .i64 0, .int .i64 0, .int .i64 0]) (t := 29) ?hr ?_; (case hd => rfl); (case hg => rfl); (case hr => first | (go_simp; done) | (go_simp; rfl))
       intro gb358 hg w18 hbox hb
       have n0_ := Aside0.mk (Kd.R_below (zq3 HO346) hb)
       have n1_ := Aside0.mk (Kd.R_below (zq3 HO353) hb)
       have n2_ := Aside0.mk (zbb BK341 hb)
       have n3_ := Aside0.mk (zbb BK342 hb)
       have n4_ := Aside0.mk (zbb BK343 hb)
       have n5_ := Aside0.mk (below_step (z53_1 HB) hb)
       have BK358 := Aside0.mk (hbox)
       have GW358 := Aside0.mk ((by rw [hg]; exact (below_size (z53_1 HB)) : w.heap.size ≤ gb358))
       have GE358 := Aside0.mk ((by rw [hg]; exact (below_size (z53_1 HB)) : w.heap.size ≤ gb358))
       have NB341_358 := Aside0.mk (zlt BK341 hg)
       have NB358_341 := Aside0.mk (zgt BK341 hg)
       have NB342_358 := Aside0.mk (zlt BK342 hg)
       have NB358_342 := Aside0.mk (zgt BK342 hg)
       have NB343_358 := Aside0.mk (zlt BK343 hg)
       have NB358_343 := Aside0.mk (zgt BK343 hg)
       clear HO346 HO353 BK341 BK342 BK343 HB
       have HO346 := n0_; have HO353 := n1_; have BK341 := n2_; have BK342 := n3_; have BK343 := n4_; have HB := n5_
       clear n0_ n1_ n2_ n3_ n4_ n5_ hb hbox hg
       refine hK.out _ _ ⟨zc BK341 0, zc BK341 1, zc BK341 2, zc BK341 3, zc BK342 0, zc BK342 1, zc BK342 2, zc BK342 3⟩ (fun hHeld => ?_)
       clear hK K
       refine norm_ (a' := ?_) ?_ ?_
       rotate_left
       ·
        show Act.put _ (some 6) _ = _
        simp only [Act.put, List.setIfInBounds_toArray, List.set_cons_zero, List.set_cons_succ, i64_w, i32_w]; rfl
       exact norm_ zq4 (hJ4_5_11_15 (_, _, _) _ ⟨hHeld, (zq3 HO346), (zq3 HO353), (zq1 BK341), (zq1 BK342), (zq1 BK343), (zq1 BK358), GW358.out, GE358.out, NB341_358.out, NB358_341.out, NB342_358.out, NB358_342.out, NB343_358.out, NB358_343.out, (z53_1 HB)⟩)
    ·
     rintro ⟨v345, v352, gb358⟩ w18 ⟨hS_, h0_, h1_, h2_, h3_, h4_, h5_, h6_, h7_, h8_, h9_, h10_, h11_, h12_, h13_, h14_⟩
     have HO346 : Aside0 (Kd.R k27 27 w18 w.heap.size (fun k_ => some k_ ≠ (v352 : Value).ownBlock) v345 y344) := ⟨h0_⟩
     have HO353 : Aside0 (Kd.R k27 27 w18 w.heap.size (fun k_ => some k_ ≠ (v345 : Value).ownBlock) v352 y351) := ⟨h1_⟩
     have n2_ : Aside0 (w18.heap[gb341]? = some (.cells #[.int .i64 a0_0, .int .i64 a0_1, .int .i64 a0_2, .int .i64 a0_3] 29 (0, 0))) := ⟨h2_⟩
     have n3_ : Aside0 (w18.heap[gb342]? = some (.cells #[.int .i64 a1_0, .int .i64 a1_1, .int .i64 a1_2, .int .i64 a1_3] 29 (0, 0))) := ⟨h3_⟩
     have n4_ : Aside0 (w18.heap[gb343]? = some (.cells #[.int .i64 0, .int .i64 0, .int .i64 0, .int .i64 0] 29 (0, 0))) := ⟨h4_⟩
     have BK358 : Aside0 (w18.heap[gb358]? = some (.cells #[.int .i64 0, .int .i64 0, .int .i64 0, .int .i64 0] 29 (0, 0))) := ⟨h5_⟩
     have GW358 : Aside0 (w.heap.size ≤ gb358) := ⟨h6_⟩
     have GE358 : Aside0 (w.heap.size ≤ gb358) := ⟨h7_⟩
     have NB341_358 : Aside0 (gb341 ≠ gb358) := ⟨h8_⟩
     have NB358_341 : Aside0 (gb358 ≠ gb341) := ⟨h9_⟩
     have NB342_358 : Aside0 (gb342 ≠ gb358) := ⟨h10_⟩
     have NB358_342 : Aside0 (gb358 ≠ gb342) := ⟨h11_⟩
     have NB343_358 : Aside0 (gb343 ≠ gb358) := ⟨h12_⟩
     have NB358_343 : Aside0 (gb358 ≠ gb343) := ⟨h13_⟩
     have n14_ : Aside0 (Below w.heap.size w w18) := ⟨h14_⟩
     clear BK341 BK342 BK343 HB h0_ h1_ h2_ h3_ h4_ h5_ h6_ h7_ h8_ h9_ h10_ h11_ h12_ h13_ h14_
     have BK341 := n2_; have BK342 := n3_; have BK343 := n4_; have HB := n14_
     clear n2_ n3_ n4_ n14_
     have hHeld : w18.cell? ⟨gb341, 0, none⟩ = some (.int .i64 a0_0) ∧ w18.cell? ⟨gb341, 1, none⟩ = some (.int .i64 a0_1) ∧ w18.cell? ⟨gb341, 2, none⟩ = some (.int .i64 a0_2) ∧ w18.cell? ⟨gb341, 3, none⟩ = some (.int .i64 a0_3) ∧ w18.cell? ⟨gb342, 0, none⟩ = some (.int .i64 a1_0) ∧ w18.cell? ⟨gb342, 1, none⟩ = some (.int .i64 a1_1) ∧ w18.cell? ⟨gb342, 2, none⟩ = some (.int .i64 a1_2) ∧ w18.cell? ⟨gb342, 3, none⟩ = some (.int .i64 a1_3) := hS_
     obtain ⟨Ao19, co19, eo19⟩ := Kd.R_slice HO353.out
     (first | subst eo19 | (injection eo19 with f1_ f2_ f3_; have f4_ := f1_.symm; have f5_ := f3_.symm; clear f1_ f2_ f3_; subst f4_; subst f5_))
     refine norm_ (a' := ?_) ?_ ?_
     rotate_left
     ·
      simp only [putAll, Act.put, List.setIfInBounds_toArray, List.set_cons_zero, List.set_cons_succ]
      rfl
     refine one_ (i := 12) (N := some 19) #[true, true, true, true, true, true, true, true, true, true, true, true, true, false, false, true, false] rfl rfl (one_of HT_.out (by kernel_rfl)) (by decide) (fun K hK => ?_)
     refine goes_ Try.func82 (by kernel_rfl) rfl #[.slice Ao19 y351.length co19] (by rfl) rfl rfl (by (try simp only [List.map_toArray, List.map_cons, List.map_nil]); first | done | rfl | (simp only [List.length_drop, List.length_take]; rfl)) ?_
     with_reducible refine (spec_ivEnds.calls k _ _ y351 t354 t355 t356 t357 _ ?side1 ?side2 A4.out).mono ?_
     (case side1 => repeat (first | exact (Kd.R_reads' HO353.out).2.2 | (with_reducible refine Kd.C_alloc ?_ _) | (with_reducible refine Kd.C_drewN ?_ _) | (with_reducible refine Kd.C_drew ?_)))
     (case side2 => exact (Kd.R_reads' HO353.out).2.1)
     rintro e w20 ⟨rfl, hb⟩
     refine ⟨_, rfl, ?_⟩
     have n0_ := Aside0.mk (Kd.R_below (zq3 HO346) hb)
     have n1_ := Aside0.mk (Kd.R_below (zq3 HO353) hb)
     have n2_ := Aside0.mk (zbb BK341 hb)
     have n3_ := Aside0.mk (zbb BK342 hb)
     have n4_ := Aside0.mk (zbb BK343 hb)
     have n5_ := Aside0.mk (zbb BK358 hb)
     have n6_ := Aside0.mk (below_step (z53_1 HB) hb)
     clear HO346 HO353 BK341 BK342 BK343 BK358 HB
     have HO346 := n0_; have HO353 := n1_; have BK341 := n2_; have BK342 := n3_; have BK343 := n4_; have BK358 := n5_; have HB := n6_
     clear n0_ n1_ n2_ n3_ n4_ n5_ n6_
     (try clear hb)
     (try clear hb2)
     (try clear hk)
     (try clear hi)
     refine hK.out _ _ ⟨zc BK341 0, zc BK341 1, zc BK341 2, zc BK341 3, zc BK342 0, zc BK342 1, zc BK342 2, zc BK342 3⟩ (fun hHeld => ?_)
     clear hK K
     refine norm_ (a' := ?_) ?_ ?_
     rotate_left
     ·
      show Act.put _ (some 19) _ = _
      simp only [Act.put, List.setIfInBounds_toArray, List.set_cons_zero, List.set_cons_succ, i64_w, i32_w]; rfl
     refine pure_ (i := 13) (N := some 20) (v := ?_) (a' := ?_) #[true, true, true, true, true, true, true, true, true, true, true, true, true, true, false, true, false] rfl rfl (any_of HT_.out (by kernel_rfl)) (fun _ _ _ h => h) (Or.inl ⟨by rfl, ?_⟩) ?_ ?_
     rotate_left
     ·
      intro w'
      first | (go_simp; with_reducible rfl) | (go_simp; simp only [Instr.field]; go_simp; simp only [asAgg]; go_simp; rfl)
     rotate_left
     ·
      simp only [Act.put, List.setIfInBounds_toArray, List.set_cons_zero, List.set_cons_succ, i64_w, i32_w]
      rfl
     refine pure_ (i := 14) (N := some 21) (v := ?_) (a' := ?_) #[true, true, true, true, true, true, true, true, true, true, true, true, true, true, true, true, false] rfl rfl (any_of HT_.out (by kernel_rfl)) (fun _ _ _ h => h) (Or.inl ⟨by rfl, ?_⟩) ?_ ?_
     rotate_left
     ·
      intro w'
      first | (go_simp; with_reducible rfl) | (go_simp; simp only [Instr.field]; go_simp; simp only [asAgg]; go_simp; rfl)
     rotate_left
     ·
      simp only [Act.put, List.setIfInBounds_toArray, List.set_cons_zero, List.set_cons_succ, i64_w, i32_w]
      rfl
     exact norm_ zq4 (hJ4_5_11_12_15 (_, _, _) _ ⟨hHeld, (zq3 HO346), (zq3 HO353), (zq1 BK341), (zq1 BK342), (zq1 BK343), (zq1 BK358), GW358.out, GE358.out, NB341_358.out, NB358_341.out, NB342_358.out, NB358_342.out, NB343_358.out, NB358_343.out, (z53_1 HB)⟩)
   ·
    rintro ⟨v345, v352⟩ w19 ⟨hS_, h0_, h1_, h2_, h3_, h4_, h5_⟩
    have HO346 : Aside0 (Kd.R k27 27 w19 w.heap.size (fun k_ => some k_ ≠ (v352 : Value).ownBlock) v345 y344) := ⟨h0_⟩
    have HO353 : Aside0 (Kd.R k27 27 w19 w.heap.size (fun k_ => some k_ ≠ (v345 : Value).ownBlock) v352 y351) := ⟨h1_⟩
    have n2_ : Aside0 (w19.heap[gb341]? = some (.cells #[.int .i64 a0_0, .int .i64 a0_1, .int .i64 a0_2, .int .i64 a0_3] 29 (0, 0))) := ⟨h2_⟩
    have n3_ : Aside0 (w19.heap[gb342]? = some (.cells #[.int .i64 a1_0, .int .i64 a1_1, .int .i64 a1_2, .int .i64 a1_3] 29 (0, 0))) := ⟨h3_⟩
    have n4_ : Aside0 (w19.heap[gb343]? = some (.cells #[.int .i64 0, .int .i64 0, .int .i64 0, .int .i64 0] 29 (0, 0))) := ⟨h4_⟩
    have n5_ : Aside0 (Below w.heap.size w w19) := ⟨h5_⟩
    clear BK341 BK342 BK343 HB h0_ h1_ h2_ h3_ h4_ h5_
    have BK341 := n2_; have BK342 := n3_; have BK343 := n4_; have HB := n5_
    clear n2_ n3_ n4_ n5_
    have hHeld : w19.cell? ⟨gb341, 0, none⟩ = some (.int .i64 a0_0) ∧ w19.cell? ⟨gb341, 1, none⟩ = some (.int .i64 a0_1) ∧ w19.cell? ⟨gb341, 2, none⟩ = some (.int .i64 a0_2) ∧ w19.cell? ⟨gb341, 3, none⟩ = some (.int .i64 a0_3) ∧ w19.cell? ⟨gb342, 0, none⟩ = some (.int .i64 a1_0) ∧ w19.cell? ⟨gb342, 1, none⟩ = some (.int .i64 a1_1) ∧ w19.cell? ⟨gb342, 2, none⟩ = some (.int .i64 a1_2) ∧ w19.cell? ⟨gb342, 3, none⟩ = some (.int .i64 a1_3) := hS_
    refine norm_ (a' := ?_) ?_ ?_
    rotate_left
    ·
     simp only [putAll, Act.put, List.setIfInBounds_toArray, List.set_cons_zero, List.set_cons_succ]
     rfl
    refine one_ (i := 15) (N := some 6) #[true, true, true, true, true, true, true, true, true, true, true, true, true, true, true, true, false] rfl rfl (one_of HT_.out (by kernel_rfl)) (by decide) (fun K hK => ?_)
    refine box_step ?hg (N := 6) ?hd (cs := #[.int .i64 0, .int .i64 0, .int .i64 0, .int .i64 0]) (t := 29) ?hr ?_; (case hd => rfl); (case hg => rfl); (case hr => first | (go_simp; done) | (go_simp; rfl))
    intro gb358 hg w20 hbox hb
    have n0_ := Aside0.mk (Kd.R_below (zq3 HO346) hb)
    have n1_ := Aside0.mk (Kd.R_below (zq3 HO353) hb)
    have n2_ := Aside0.mk (zbb BK341 hb)
    have n3_ := Aside0.mk (zbb BK342 hb)
    have n4_ := Aside0.mk (zbb BK343 hb)
    have n5_ := Aside0.mk (below_step (z53_1 HB) hb)
    have BK358 := Aside0.mk (hbox)
    have GW358 := Aside0.mk ((by rw [hg]; exact (below_size (z53_1 HB)) : w.heap.size ≤ gb358))
    have GE358 := Aside0.mk ((by rw [hg]; exact (below_size (z53_1 HB)) : w.heap.size ≤ gb358))
    have NB341_358 := Aside0.mk (zlt BK341 hg)
    have NB358_341 := Aside0.mk (zgt BK341 hg)
    have NB342_358 := Aside0.mk (zlt BK342 hg)
    have NB358_342 := Aside0.mk (zgt BK342 hg)
    have NB343_358 := Aside0.mk (zlt BK343 hg)
    have NB358_343 := Aside0.mk (zgt BK343 hg)
    clear HO346 HO353 BK341 BK342 BK343 HB
    have HO346 := n0_; have HO353 := n1_; have BK341 := n2_; have BK342 := n3_; have BK343 := n4_; have HB := n5_
    clear n0_ n1_ n2_ n3_ n4_ n5_ hb hbox hg
    refine hK.out _ _ ⟨zc BK341 0, zc BK341 1, zc BK341 2, zc BK341 3, zc BK342 0, zc BK342 1, zc BK342 2, zc BK342 3⟩ (fun hHeld => ?_)
    clear hK K
    refine norm_ (a' := ?_) ?_ ?_
    rotate_left
    ·
     show Act.put _ (some 6) _ = _
     simp only [Act.put, List.setIfInBounds_toArray, List.set_cons_zero, List.set_cons_succ, i64_w, i32_w]; rfl
    exact norm_ zq4 (hJ4_5_11_12_15 (_, _, _) _ ⟨hHeld, (zq3 HO346), (zq3 HO353), (zq1 BK341), (zq1 BK342), (zq1 BK343), (zq1 BK358), GW358.out, GE358.out, NB341_358.out, NB358_341.out, NB342_358.out, NB358_342.out, NB343_358.out, NB358_343.out, (z53_1 HB)⟩)
  rintro ⟨v345, v352, gb358⟩ w20 ⟨hS_, h0_, h1_, h2_, h3_, h4_, h5_, h6_, h7_, h8_, h9_, h10_, h11_, h12_, h13_, h14_⟩
  have HO346 : Aside0 (Kd.R k27 27 w20 w.heap.size (fun k_ => some k_ ≠ (v352 : Value).ownBlock) v345 y344) := ⟨h0_⟩
  have HO353 : Aside0 (Kd.R k27 27 w20 w.heap.size (fun k_ => some k_ ≠ (v345 : Value).ownBlock) v352 y351) := ⟨h1_⟩
  have n2_ : Aside0 (w20.heap[gb341]? = some (.cells #[.int .i64 a0_0, .int .i64 a0_1, .int .i64 a0_2, .int .i64 a0_3] 29 (0, 0))) := ⟨h2_⟩
  have n3_ : Aside0 (w20.heap[gb342]? = some (.cells #[.int .i64 a1_0, .int .i64 a1_1, .int .i64 a1_2, .int .i64 a1_3] 29 (0, 0))) := ⟨h3_⟩
  have n4_ : Aside0 (w20.heap[gb343]? = some (.cells #[.int .i64 0, .int .i64 0, .int .i64 0, .int .i64 0] 29 (0, 0))) := ⟨h4_⟩
  have BK358 : Aside0 (w20.heap[gb358]? = some (.cells #[.int .i64 0, .int .i64 0, .int .i64 0, .int .i64 0] 29 (0, 0))) := ⟨h5_⟩
  have GW358 : Aside0 (w.heap.size ≤ gb358) := ⟨h6_⟩
  have GE358 : Aside0 (w.heap.size ≤ gb358) := ⟨h7_⟩
  have NB341_358 : Aside0 (gb341 ≠ gb358) := ⟨h8_⟩
  have NB358_341 : Aside0 (gb358 ≠ gb341) := ⟨h9_⟩
  have NB342_358 : Aside0 (gb342 ≠ gb358) := ⟨h10_⟩
  have NB358_342 : Aside0 (gb358 ≠ gb342) := ⟨h11_⟩
  have NB343_358 : Aside0 (gb343 ≠ gb358) := ⟨h12_⟩
  have NB358_343 : Aside0 (gb358 ≠ gb343) := ⟨h13_⟩
  have n14_ : Aside0 (Below w.heap.size w w20) := ⟨h14_⟩
  clear BK341 BK342 BK343 HB h0_ h1_ h2_ h3_ h4_ h5_ h6_ h7_ h8_ h9_ h10_ h11_ h12_ h13_ h14_
  have BK341 := n2_; have BK342 := n3_; have BK343 := n4_; have HB := n14_
  clear n2_ n3_ n4_ n14_
  have hHeld : w20.cell? ⟨gb341, 0, none⟩ = some (.int .i64 a0_0) ∧ w20.cell? ⟨gb341, 1, none⟩ = some (.int .i64 a0_1) ∧ w20.cell? ⟨gb341, 2, none⟩ = some (.int .i64 a0_2) ∧ w20.cell? ⟨gb341, 3, none⟩ = some (.int .i64 a0_3) ∧ w20.cell? ⟨gb342, 0, none⟩ = some (.int .i64 a1_0) ∧ w20.cell? ⟨gb342, 1, none⟩ = some (.int .i64 a1_1) ∧ w20.cell? ⟨gb342, 2, none⟩ = some (.int .i64 a1_2) ∧ w20.cell? ⟨gb342, 3, none⟩ = some (.int .i64 a1_3) := hS_
  refine norm_ (a' := ?_) ?_ ?_
  rotate_left
  ·
   simp only [putAll, Act.put, List.setIfInBounds_toArray, List.set_cons_zero, List.set_cons_succ]
   rfl
  refine one_ (i := 16) (N := none) #[true, true, true, true, true, true, true, true, true, true, true, true, true, true, true, true, true] rfl rfl (one_of HT_.out (by kernel_rfl)) (by decide) (fun K hK => ?_)
  have hs21 : w20.cell? ⟨gb358, 0, none⟩ = some (.int .i64 0) := zc BK358 0
  have hfs21 := blk_frozen BK358.out 0
  have hns21_0 := NB341_358.out
  have hns21_1 := NB342_358.out
  have hns21_2 := NB343_358.out
  have hms21_0 := NB358_341.out
  have hms21_1 := NB358_342.out
  have hms21_2 := NB358_343.out
  have hs22 : w20.cell? ⟨gb358, 1, none⟩ = some (.int .i64 0) := zc BK358 1
  have hfs22 := blk_frozen BK358.out 1
  have hns22_0 := NB341_358.out
  have hns22_1 := NB342_358.out
  have hns22_2 := NB343_358.out
  have hms22_0 := NB358_341.out
  have hms22_1 := NB358_342.out
  have hms22_2 := NB358_343.out
  have hs23 : w20.cell? ⟨gb358, 2, none⟩ = some (.int .i64 0) := zc BK358 2
  have hfs23 := blk_frozen BK358.out 2
  have hns23_0 := NB341_358.out
  have hns23_1 := NB342_358.out
  have hns23_2 := NB343_358.out
  have hms23_0 := NB358_341.out
  have hms23_1 := NB358_342.out
  have hms23_2 := NB358_343.out
  have hs24 : w20.cell? ⟨gb358, 3, none⟩ = some (.int .i64 0) := zc BK358 3
  have hfs24 := blk_frozen BK358.out 3
  have hns24_0 := NB341_358.out
  have hns24_1 := NB342_358.out
  have hns24_2 := NB343_358.out
  have hms24_0 := NB358_341.out
  have hms24_1 := NB358_342.out
  have hms24_2 := NB358_343.out
  refine skip_ (w1 := ?_) (by rfl) rfl ?_ ?_
  rotate_left
  ·
   go_simp
   rfl
  refine hK.out _ _ ⟨((cell_far (p := ⟨gb358, _, none⟩) NB341_358.out _).trans (((cell_far (p := ⟨gb358, _, none⟩) NB341_358.out _).trans (((cell_far (p := ⟨gb358, _, none⟩) NB341_358.out _).trans (((cell_far (p := ⟨gb358, _, none⟩) NB341_358.out _).trans (hHeld.1)))))))), ((cell_far (p := ⟨gb358, _, none⟩) NB341_358.out _).trans (((cell_far (p := ⟨gb358, _, none⟩) NB341_358.out _).trans (((cell_far (p := ⟨gb358, _, none⟩) NB341_358.out _).trans (((cell_far (p := ⟨gb358, _, none⟩) NB341_358.out _).trans (hHeld.2.1)))))))), ((cell_far (p := ⟨gb358, _, none⟩) NB341_358.out _).trans (((cell_far (p := ⟨gb358, _, none⟩) NB341_358.out _).trans (((cell_far (p := ⟨gb358, _, none⟩) NB341_358.out _).trans (((cell_far (p := ⟨gb358, _, none⟩) NB341_358.out _).trans (hHeld.2.2.1)))))))), ((cell_far (p := ⟨gb358, _, none⟩) NB341_358.out _).trans (((cell_far (p := ⟨gb358, _, none⟩) NB341_358.out _).trans (((cell_far (p := ⟨gb358, _, none⟩) NB341_358.out _).trans (((cell_far (p := ⟨gb358, _, none⟩) NB341_358.out _).trans (hHeld.2.2.2.1)))))))), ((cell_far (p := ⟨gb358, _, none⟩) NB342_358.out _).trans (((cell_far (p := ⟨gb358, _, none⟩) NB342_358.out _).trans (((cell_far (p := ⟨gb358, _, none⟩) NB342_358.out _).trans (((cell_far (p := ⟨gb358, _, none⟩) NB342_358.out _).trans (hHeld.2.2.2.2.1)))))))), ((cell_far (p := ⟨gb358, _, none⟩) NB342_358.out _).trans (((cell_far (p := ⟨gb358, _, none⟩) NB342_358.out _).trans (((cell_far (p := ⟨gb358, _, none⟩) NB342_358.out _).trans (((cell_far (p := ⟨gb358, _, none⟩) NB342_358.out _).trans (hHeld.2.2.2.2.2.1)))))))), ((cell_far (p := ⟨gb358, _, none⟩) NB342_358.out _).trans (((cell_far (p := ⟨gb358, _, none⟩) NB342_358.out _).trans (((cell_far (p := ⟨gb358, _, none⟩) NB342_358.out _).trans (((cell_far (p := ⟨gb358, _, none⟩) NB342_358.out _).trans (hHeld.2.2.2.2.2.2.1)))))))), ((cell_far (p := ⟨gb358, _, none⟩) NB342_358.out _).trans (((cell_far (p := ⟨gb358, _, none⟩) NB342_358.out _).trans (((cell_far (p := ⟨gb358, _, none⟩) NB342_358.out _).trans (((cell_far (p := ⟨gb358, _, none⟩) NB342_358.out _).trans (hHeld.2.2.2.2.2.2.2))))))))⟩ (fun hHeld => ?_)
  clear hK K
  refine done_ (done_of HT_.out (by kernel_rfl)) ?_
  have hnb25 := NB358_341.out
  have hnc25 := NB341_358.out
  have hnb26 := NB358_342.out
  have hnc26 := NB342_358.out
  have hnb27 := NB358_343.out
  have hnc27 := NB343_358.out
  have hcz28_0 : w20.cell? ⟨gb358, 0, none⟩ = some (.int .i64 0) := zc BK358 0
  have hcz28_1 : w20.cell? ⟨gb358, 1, none⟩ = some (.int .i64 0) := zc BK358 1
  have hcz28_2 : w20.cell? ⟨gb358, 2, none⟩ = some (.int .i64 0) := zc BK358 2
  have hcz28_3 : w20.cell? ⟨gb358, 3, none⟩ = some (.int .i64 0) := zc BK358 3
  have hfz28_0 := blk_frozen BK358.out 0
  have hfz28_1 := blk_frozen BK358.out 1
  have hfz28_2 := blk_frozen BK358.out 2
  have hfz28_3 := blk_frozen BK358.out 3
  try go_wp2_with (first | ((with_reducible refine gate_callee (f := 76) rfl ?_); refine goesL_ (some 26) rfl rfl Try.func76 (by kernel_rfl) rfl #[.agg #[.int .i64 t349, .int .i64 t350], .agg #[.int .i64 t354, .int .i64 t355]] rfl (by (try simp only [List.map_toArray, List.map_cons, List.map_nil]); first | done | rfl | (simp only [List.length_drop, List.length_take]; rfl)) ?_; (with_reducible refine (spec_dyCmp.calls k t349 t350 t354 t355 t359 _ A5.out).mono ?_); rintro e w29 ⟨rfl, hb⟩; refine ⟨_, rfl, ?_⟩; have n0_ := Aside0.mk (Kd.R_below (by (with_reducible repeat (first | apply Kd.R_alloc | apply Kd.R_drewN | apply Kd.R_drew)); exact (Kd.R_mono (Kd.R_far (p := ⟨gb358, 3, none⟩) (Kd.R_far (p := ⟨gb358, 2, none⟩) (Kd.R_far (p := ⟨gb358, 1, none⟩) (Kd.R_far (p := ⟨gb358, 0, none⟩) (Kd.R_types HO346.out BK358.out (by decide)) (fun _ hk => hk.2) (.int .i64 t349)) (fun _ hk => hk.2) (.int .i64 t350)) (fun _ hk => hk.2) (.int .i64 t354)) (fun _ hk => hk.2) (.int .i64 t355)) (fun _ h_ => h_.1))) hb); have n1_ := Aside0.mk (Kd.R_below (by (with_reducible repeat (first | apply Kd.R_alloc | apply Kd.R_drewN | apply Kd.R_drew)); exact (Kd.R_mono (Kd.R_far (p := ⟨gb358, 3, none⟩) (Kd.R_far (p := ⟨gb358, 2, none⟩) (Kd.R_far (p := ⟨gb358, 1, none⟩) (Kd.R_far (p := ⟨gb358, 0, none⟩) (Kd.R_types HO353.out BK358.out (by decide)) (fun _ hk => hk.2) (.int .i64 t349)) (fun _ hk => hk.2) (.int .i64 t350)) (fun _ hk => hk.2) (.int .i64 t354)) (fun _ hk => hk.2) (.int .i64 t355)) (fun _ h_ => h_.1))) hb); have n2_ := Aside0.mk (blk_below (g := gb341) (o := .cells #[.int .i64 a0_0, .int .i64 a0_1, .int .i64 a0_2, .int .i64 a0_3] 29 (0, 0)) (zq5 BK341) hb); have n3_ := Aside0.mk (blk_below (g := gb342) (o := .cells #[.int .i64 a1_0, .int .i64 a1_1, .int .i64 a1_2, .int .i64 a1_3] 29 (0, 0)) (zq5 BK342) hb); have n4_ := Aside0.mk (blk_below (g := gb343) (o := .cells #[.int .i64 0, .int .i64 0, .int .i64 0, .int .i64 0] 29 (0, 0)) (zq5 BK343) hb); have n5_ := Aside0.mk (blk_below (g := gb358) (o := .cells #[.int .i64 t349, .int .i64 t350, .int .i64 t354, .int .i64 t355] 29 (0, 0)) (by (with_reducible repeat (first | refine blk_drewN ?_ _ | refine blk_drew ?_ | refine blk_alloc ?_ _)); refine blk_put (cs := #[.int .i64 t349, .int .i64 t350, .int .i64 t354, .int .i64 0]) ?_ 3 _ rfl; (with_reducible repeat (first | refine blk_drewN ?_ _ | refine blk_drew ?_ | refine blk_alloc ?_ _)); refine blk_put (cs := #[.int .i64 t349, .int .i64 t350, .int .i64 0, .int .i64 0]) ?_ 2 _ rfl; (with_reducible repeat (first | refine blk_drewN ?_ _ | refine blk_drew ?_ | refine blk_alloc ?_ _)); refine blk_put (cs := #[.int .i64 t349, .int .i64 0, .int .i64 0, .int .i64 0]) ?_ 1 _ rfl; (with_reducible repeat (first | refine blk_drewN ?_ _ | refine blk_drew ?_ | refine blk_alloc ?_ _)); refine blk_put (cs := #[.int .i64 0, .int .i64 0, .int .i64 0, .int .i64 0]) ?_ 0 _ rfl; (with_reducible repeat (first | refine blk_drewN ?_ _ | refine blk_drew ?_ | refine blk_alloc ?_ _)); exact BK358.out) hb); have n6_ := Aside0.mk (below_step (z53_1 HB) hb); clear HO346; clear HO353; clear BK341; clear BK342; clear BK343; clear BK358; clear HB; have HO346 := n0_; have HO353 := n1_; have BK341 := n2_; have BK342 := n3_; have BK343 := n4_; have BK358 := n5_; have HB := n6_; clear n0_ n1_ n2_ n3_ n4_ n5_ n6_; (try clear hb); (try clear hb2); (try clear hk); (try clear hi); have hnb30 := NB343_341.out; have hnc30 := NB341_343.out; have hnb31 := NB343_342.out; have hnc31 := NB342_343.out; have hcz32_0 : w29.cell? ⟨gb343, 0, none⟩ = some (.int .i64 0) := zc BK343 0; have hcz32_1 : w29.cell? ⟨gb343, 1, none⟩ = some (.int .i64 0) := zc BK343 1; have hcz32_2 : w29.cell? ⟨gb343, 2, none⟩ = some (.int .i64 0) := zc BK343 2; have hcz32_3 : w29.cell? ⟨gb343, 3, none⟩ = some (.int .i64 0) := zc BK343 3; have hfz32_0 := blk_frozen BK343.out 0; have hfz32_1 := blk_frozen BK343.out 1; have hfz32_2 := blk_frozen BK343.out 2; have hfz32_3 := blk_frozen BK343.out 3))
  refine bodyPost_ret (results_ct rfl _ _ gb343 29 #[.int .i64 0, .int .i64 0, .int .i64 0, .int .i64 0] (0, 0) _ rfl (by (with_reducible repeat (first | refine blk_drewN ?_ _ | refine blk_drew ?_ | refine blk_alloc ?_ _)); refine blk_put (cs := #[.int .i64 0, .int .i64 0, .int .i64 0, .int .i64 0]) ?_ 3 _ rfl; (with_reducible repeat (first | refine blk_drewN ?_ _ | refine blk_drew ?_ | refine blk_alloc ?_ _)); refine blk_put (cs := #[.int .i64 0, .int .i64 0, .int .i64 0, .int .i64 0]) ?_ 2 _ rfl; (with_reducible repeat (first | refine blk_drewN ?_ _ | refine blk_drew ?_ | refine blk_alloc ?_ _)); refine blk_put (cs := #[.int .i64 0, .int .i64 0, .int .i64 0, .int .i64 0]) ?_ 1 _ rfl; (with_reducible repeat (first | refine blk_drewN ?_ _ | refine blk_drew ?_ | refine blk_alloc ?_ _)); refine blk_put (cs := #[.int .i64 0, .int .i64 0, .int .i64 0, .int .i64 0]) ?_ 0 _ rfl; (with_reducible repeat (first | refine blk_drewN ?_ _ | refine blk_drew ?_ | refine blk_alloc ?_ _)); exact BK343.out) Try.underlying29 rfl (by kernel_rfl)) rfl ?_
  exact ⟨by first | rfl | (simp [errW_none, errW_some] <;> rfl) | (simp [*, errW_none, errW_some] <;> rfl), (z53_1 HB)⟩
 ·
  rw [if_neg c6] at H
  have c6b0 : decide (0 < t359) = false := decide_eq_false c6
  clear c6
  simp only [Option.some.injEq, Prod.mk.injEq] at H
  obtain ⟨rfl, rfl, rfl, rfl, rfl⟩ := H
  go_enter Try.func53, Try.ntmps53
  try go_wp2_with (first | ((with_reducible refine gate_dst (N := 2) rfl ?_); refine box_event ?hg (N := 2) ?hd (cs := #[.int .i64 a0_0, .int .i64 a0_1, .int .i64 a0_2, .int .i64 a0_3]) (t := 29) ?hr ?_; (case hd => rfl); (case hg => rfl); (case hr => first | (go_simp; done) | (go_simp; rfl)); intro gb341 hg w33 hbox hb; have n0_ := Aside0.mk (below_step (z53_0 HB) hb); have n1_ := Aside0.mk (hbox); have n2_ := Aside0.mk ((by rw [hg]; exact (below_size (z53_0 HB)) : w.heap.size ≤ gb341)); have n3_ := Aside0.mk ((by rw [hg]; exact (below_size (z53_0 HB)) : w.heap.size ≤ gb341)); clear HB; have HB := n0_; have BK341 := n1_; have GW341 := n2_; have GE341 := n3_; clear n0_ n1_ n2_ n3_; clear hb hbox hg) | ((with_reducible refine gate_dst (N := 3) rfl ?_); refine box_event ?hg (N := 3) ?hd (cs := #[.int .i64 a1_0, .int .i64 a1_1, .int .i64 a1_2, .int .i64 a1_3]) (t := 29) ?hr ?_; (case hd => rfl); (case hg => rfl); (case hr => first | (go_simp; done) | (go_simp; rfl)); intro gb342 hg w34 hbox hb; have n0_ := Aside0.mk (zbb BK341 hb); have n1_ := Aside0.mk (below_step (z53_1 HB) hb); have n2_ := Aside0.mk (hbox); have n3_ := Aside0.mk ((by rw [hg]; exact (below_size (z53_1 HB)) : w.heap.size ≤ gb342)); have n4_ := Aside0.mk ((by rw [hg]; exact (below_size (z53_1 HB)) : w.heap.size ≤ gb342)); have n5_ := Aside0.mk (zlt BK341 hg); have n6_ := Aside0.mk (zgt BK341 hg); clear BK341; clear HB; have BK341 := n0_; have HB := n1_; have BK342 := n2_; have GW342 := n3_; have GE342 := n4_; have NB341_342 := n5_; have NB342_341 := n6_; clear n0_ n1_ n2_ n3_ n4_ n5_ n6_; clear hb hbox hg) | ((with_reducible refine gate_dst (N := 4) rfl ?_); refine box_event ?hg (N := 4) ?hd (cs := #[.int .i64 0, .int .i64 0, .int .i64 0, .int .i64 0]) (t := 29) ?hr ?_; (case hd => rfl); (case hg => rfl); (case hr => first | (go_simp; done) | (go_simp; rfl)); intro gb343 hg w35 hbox hb; have n0_ := Aside0.mk (zbb BK341 hb); have n1_ := Aside0.mk (zbb BK342 hb); have n2_ := Aside0.mk (below_step (z53_1 HB) hb); have n3_ := Aside0.mk (hbox); have n4_ := Aside0.mk ((by rw [hg]; exact (below_size (z53_1 HB)) : w.heap.size ≤ gb343)); have n5_ := Aside0.mk ((by rw [hg]; exact (below_size (z53_1 HB)) : w.heap.size ≤ gb343)); have n6_ := Aside0.mk (zlt BK341 hg); have n7_ := Aside0.mk (zgt BK341 hg); have n8_ := Aside0.mk (zlt BK342 hg); have n9_ := Aside0.mk (zgt BK342 hg); clear BK341; clear BK342; clear HB; have BK341 := n0_; have BK342 := n1_; have HB := n2_; have BK343 := n3_; have GW343 := n4_; have GE343 := n5_; have NB341_343 := n6_; have NB343_341 := n7_; have NB342_343 := n8_; have NB343_342 := n9_; clear n0_ n1_ n2_ n3_ n4_ n5_ n6_ n7_ n8_ n9_; clear hb hbox hg))
  have n0_ := Aside0.mk (blk_drew BK341.out)
  have n1_ := Aside0.mk (blk_drew BK342.out)
  have n2_ := Aside0.mk (blk_drew BK343.out)
  have n3_ := Aside0.mk (below_drew1 HB.out)
  clear BK341 BK342 BK343 HB
  have BK341 := n0_; have BK342 := n1_; have BK343 := n2_; have HB := n3_
  clear n0_ n1_ n2_ n3_
  refine start_ (n := 17) (S := fun w' => w'.cell? ⟨gb341, 0, none⟩ = some (.int .i64 a0_0) ∧ w'.cell? ⟨gb341, 1, none⟩ = some (.int .i64 a0_1) ∧ w'.cell? ⟨gb341, 2, none⟩ = some (.int .i64 a0_2) ∧ w'.cell? ⟨gb341, 3, none⟩ = some (.int .i64 a0_3) ∧ w'.cell? ⟨gb342, 0, none⟩ = some (.int .i64 a1_0) ∧ w'.cell? ⟨gb342, 1, none⟩ = some (.int .i64 a1_1) ∧ w'.cell? ⟨gb342, 2, none⟩ = some (.int .i64 a1_2) ∧ w'.cell? ⟨gb342, 3, none⟩ = some (.int .i64 a1_3)) (ds := []) #[false, false, false, false, false, false, false, false, false, false, false, false, false, false, false, false, false] (by kernel_rfl) rfl rfl ⟨zc BK341 0, zc BK341 1, zc BK341 2, zc BK341 3, zc BK342 0, zc BK342 1, zc BK342 2, zc BK342 3⟩ (fun hHeld => ?_); refine with_tabW spec_ivCommon.tab1 spec_ivCommon.bits1 (fun HT_ HW_ => ?_)
  generalize w35.drew = w36 at BK341 BK342 BK343 HB hHeld ⊢
  refine pure_ (i := 0) (N := some 7) (v := ?_) (a' := ?_) #[true, false, false, false, false, false, false, false, false, false, false, false, false, false, false, false, false] rfl rfl (any_of HT_.out (by kernel_rfl)) (fun _ _ _ h => h) (Or.inl ⟨by rfl, ?_⟩) ?_ ?_
  rotate_left
  ·
   intro w'
   first | (go_simp; with_reducible rfl) | (go_simp; simp only [Instr.field]; go_simp; simp only [asAgg]; go_simp; rfl)
  rotate_left
  ·
   simp only [Act.put, List.setIfInBounds_toArray, List.set_cons_zero, List.set_cons_succ, i64_w, i32_w]
   rfl
  refine pure_ (i := 2) (N := some 9) (v := ?_) (a' := ?_) #[true, false, true, false, false, false, false, false, false, false, false, false, false, false, false, false, false] rfl rfl (any_of HT_.out (by kernel_rfl)) (fun _ _ _ h => h) (Or.inl ⟨by rfl, ?_⟩) ?_ ?_
  rotate_left
  ·
   intro w'
   first | (go_simp; with_reducible rfl) | (go_simp; simp only [Instr.field]; go_simp; simp only [asAgg]; go_simp; rfl)
  rotate_left
  ·
   simp only [Act.put, List.setIfInBounds_toArray, List.set_cons_zero, List.set_cons_succ, i64_w, i32_w]
   rfl
  refine pure_ (i := 7) (N := some 14) (v := ?_) (a' := ?_) #[true, false, true, false, false, false, false, true, false, false, false, false, false, false, false, false, false] rfl rfl (any_of HT_.out (by kernel_rfl)) (fun _ _ _ h => h) (Or.inl ⟨by rfl, ?_⟩) ?_ ?_
  rotate_left
  ·
   intro w'
   first | (go_simp; with_reducible rfl) | (go_simp; simp only [Instr.field]; go_simp; simp only [asAgg]; go_simp; rfl)
  rotate_left
  ·
   simp only [Act.put, List.setIfInBounds_toArray, List.set_cons_zero, List.set_cons_succ, i64_w, i32_w]
   rfl
  refine pure_ (i := 9) (N := some 16) (v := ?_) (a' := ?_) #[true, false, true, false, false, false, false, true, false, true, false, false, false, false, false, false, false] rfl rfl (any_of HT_.out (by kernel_rfl)) (fun _ _ _ h => h) (Or.inl ⟨by rfl, ?_⟩) ?_ ?_
  rotate_left
  ·
   intro w'
   first | (go_simp; with_reducible rfl) | (go_simp; simp only [Instr.field]; go_simp; simp only [asAgg]; go_simp; rfl)
  rotate_left
  ·
   simp only [Act.put, List.setIfInBounds_toArray, List.set_cons_zero, List.set_cons_succ, i64_w, i32_w]
   rfl
  refine take_ (i := 1) (N := some 8) (v := ?_) (a' := ?_) #[true, true, true, false, false, false, false, true, false, true, false, false, false, false, false, false, false] rfl rfl (take_ofW HT_.out HW_.out (by kernel_rfl)) (fun _ _ _ h => h) (Or.inl ⟨by rfl, ?_⟩) hHeld ?_ ?_
  rotate_left
  ·
   rintro w' ⟨s0, s1, s2, s3, s4, s5, s6, s7⟩
   first | (go_simp; with_reducible rfl) | (go_simp; simp only [Instr.field]; go_simp; simp only [asAgg]; go_simp; rfl)
  rotate_left
  ·
   simp only [Act.put, List.setIfInBounds_toArray, List.set_cons_zero, List.set_cons_succ, i64_w, i32_w]
   rfl
  refine take_ (i := 3) (N := some 10) (v := ?_) (a' := ?_) #[true, true, true, true, false, false, false, true, false, true, false, false, false, false, false, false, false] rfl rfl (take_ofW HT_.out HW_.out (by kernel_rfl)) (fun _ _ _ h => h) (Or.inl ⟨by rfl, ?_⟩) hHeld ?_ ?_
  rotate_left
  ·
   rintro w' ⟨s0, s1, s2, s3, s4, s5, s6, s7⟩
   first | (go_simp; with_reducible rfl) | (go_simp; simp only [Instr.field]; go_simp; simp only [asAgg]; go_simp; rfl)
  rotate_left
  ·
   simp only [Act.put, List.setIfInBounds_toArray, List.set_cons_zero, List.set_cons_succ, i64_w, i32_w]
   rfl
  refine take_ (i := 8) (N := some 15) (v := ?_) (a' := ?_) #[true, true, true, true, false, false, false, true, true, true, false, false, false, false, false, false, false] rfl rfl (take_ofW HT_.out HW_.out (by kernel_rfl)) (fun _ _ _ h => h) (Or.inl ⟨by rfl, ?_⟩) hHeld ?_ ?_
  rotate_left
  ·
   rintro w' ⟨s0, s1, s2, s3, s4, s5, s6, s7⟩
   first | (go_simp; with_reducible rfl) | (go_simp; simp only [Instr.field]; go_simp; simp only [asAgg]; go_simp; rfl)
  rotate_left
  ·
   simp only [Act.put, List.setIfInBounds_toArray, List.set_cons_zero, List.set_cons_succ, i64_w, i32_w]
   rfl
  refine take_ (i := 10) (N := some 17) (v := ?_) (a' := ?_) #[true, true, true, true, false, false, false, true, true, true, true, false, false, false, false, false, false] rfl rfl (take_ofW HT_.out HW_.out (by kernel_rfl)) (fun _ _ _ h => h) (Or.inl ⟨by rfl, ?_⟩) hHeld ?_ ?_
  rotate_left
  ·
   rintro w' ⟨s0, s1, s2, s3, s4, s5, s6, s7⟩
   first | (go_simp; with_reducible rfl) | (go_simp; simp only [Instr.field]; go_simp; simp only [asAgg]; go_simp; rfl)
  rotate_left
  ·
   simp only [Act.put, List.setIfInBounds_toArray, List.set_cons_zero, List.set_cons_succ, i64_w, i32_w]
   rfl
  refine join_ (σ := Value × Value × Nat) 1 #[true, true, true, true, true, true, true, true, true, true, true, true, true, true, true, true, false] (fun s_ => [(11, s_.1), (12, .agg #[.int .i64 t347, .int .i64 t348, .int .i64 t349, .int .i64 t350]), (18, s_.2.1), (19, .agg #[.int .i64 t354, .int .i64 t355, .int .i64 t356, .int .i64 t357]), (6, .pointer (some ⟨s_.2.2, 0, none⟩)), (13, .agg #[.int .i64 t349, .int .i64 t350]), (20, .agg #[.int .i64 t354, .int .i64 t355]), (21, .agg #[.int .i64 t349, .int .i64 t350, .int .i64 t354, .int .i64 t355])]) (fun s_ w' => (w'.cell? ⟨gb341, 0, none⟩ = some (.int .i64 a0_0) ∧ w'.cell? ⟨gb341, 1, none⟩ = some (.int .i64 a0_1) ∧ w'.cell? ⟨gb341, 2, none⟩ = some (.int .i64 a0_2) ∧ w'.cell? ⟨gb341, 3, none⟩ = some (.int .i64 a0_3) ∧ w'.cell? ⟨gb342, 0, none⟩ = some (.int .i64 a1_0) ∧ w'.cell? ⟨gb342, 1, none⟩ = some (.int .i64 a1_1) ∧ w'.cell? ⟨gb342, 2, none⟩ = some (.int .i64 a1_2) ∧ w'.cell? ⟨gb342, 3, none⟩ = some (.int .i64 a1_3)) ∧ (Kd.R k27 27 w' w.heap.size (fun k_ => some k_ ≠ (s_.2.1 : Value).ownBlock) s_.1 y344) ∧ (Kd.R k27 27 w' w.heap.size (fun k_ => some k_ ≠ (s_.1 : Value).ownBlock) s_.2.1 y351) ∧ (w'.heap[gb341]? = some (.cells #[.int .i64 a0_0, .int .i64 a0_1, .int .i64 a0_2, .int .i64 a0_3] 29 (0, 0))) ∧ (w'.heap[gb342]? = some (.cells #[.int .i64 a1_0, .int .i64 a1_1, .int .i64 a1_2, .int .i64 a1_3] 29 (0, 0))) ∧ (w'.heap[gb343]? = some (.cells #[.int .i64 0, .int .i64 0, .int .i64 0, .int .i64 0] 29 (0, 0))) ∧ (w'.heap[s_.2.2]? = some (.cells #[.int .i64 0, .int .i64 0, .int .i64 0, .int .i64 0] 29 (0, 0))) ∧ (w.heap.size ≤ s_.2.2) ∧ (w.heap.size ≤ s_.2.2) ∧ (gb341 ≠ s_.2.2) ∧ (s_.2.2 ≠ gb341) ∧ (gb342 ≠ s_.2.2) ∧ (s_.2.2 ≠ gb342) ∧ (gb343 ≠ s_.2.2) ∧ (s_.2.2 ≠ gb343) ∧ (Below w.heap.size w w')) ?_ ?_
  rotate_left
  ·
   intro hJ4_5_11_12_15
   refine join_ (σ := Value × Value) 2 #[true, true, true, true, true, true, true, true, true, true, true, true, true, true, true, false, false] (fun s_ => [(11, s_.1), (12, .agg #[.int .i64 t347, .int .i64 t348, .int .i64 t349, .int .i64 t350]), (18, s_.2), (19, .agg #[.int .i64 t354, .int .i64 t355, .int .i64 t356, .int .i64 t357]), (13, .agg #[.int .i64 t349, .int .i64 t350]), (20, .agg #[.int .i64 t354, .int .i64 t355]), (21, .agg #[.int .i64 t349, .int .i64 t350, .int .i64 t354, .int .i64 t355])]) (fun s_ w' => (w'.cell? ⟨gb341, 0, none⟩ = some (.int .i64 a0_0) ∧ w'.cell? ⟨gb341, 1, none⟩ = some (.int .i64 a0_1) ∧ w'.cell? ⟨gb341, 2, none⟩ = some (.int .i64 a0_2) ∧ w'.cell? ⟨gb341, 3, none⟩ = some (.int .i64 a0_3) ∧ w'.cell? ⟨gb342, 0, none⟩ = some (.int .i64 a1_0) ∧ w'.cell? ⟨gb342, 1, none⟩ = some (.int .i64 a1_1) ∧ w'.cell? ⟨gb342, 2, none⟩ = some (.int .i64 a1_2) ∧ w'.cell? ⟨gb342, 3, none⟩ = some (.int .i64 a1_3)) ∧ (Kd.R k27 27 w' w.heap.size (fun k_ => some k_ ≠ (s_.2 : Value).ownBlock) s_.1 y344) ∧ (Kd.R k27 27 w' w.heap.size (fun k_ => some k_ ≠ (s_.1 : Value).ownBlock) s_.2 y351) ∧ (w'.heap[gb341]? = some (.cells #[.int .i64 a0_0, .int .i64 a0_1, .int .i64 a0_2, .int .i64 a0_3] 29 (0, 0))) ∧ (w'.heap[gb342]? = some (.cells #[.int .i64 a1_0, .int .i64 a1_1, .int .i64 a1_2, .int .i64 a1_3] 29 (0, 0))) ∧ (w'.heap[gb343]? = some (.cells #[.int .i64 0, .int .i64 0, .int .i64 0, .int .i64 0] 29 (0, 0))) ∧ (Below w.heap.size w w')) ?_ ?_
   rotate_left
   ·
    intro hJ4_5_11_12
    refine join_ (σ := Value × Value × Nat) 4 #[true, true, true, true, true, true, true, true, true, true, true, true, false, false, false, true, false] (fun s_ => [(11, s_.1), (12, .agg #[.int .i64 t347, .int .i64 t348, .int .i64 t349, .int .i64 t350]), (18, s_.2.1), (6, .pointer (some ⟨s_.2.2, 0, none⟩)), (13, .agg #[.int .i64 t349, .int .i64 t350])]) (fun s_ w' => (w'.cell? ⟨gb341, 0, none⟩ = some (.int .i64 a0_0) ∧ w'.cell? ⟨gb341, 1, none⟩ = some (.int .i64 a0_1) ∧ w'.cell? ⟨gb341, 2, none⟩ = some (.int .i64 a0_2) ∧ w'.cell? ⟨gb341, 3, none⟩ = some (.int .i64 a0_3) ∧ w'.cell? ⟨gb342, 0, none⟩ = some (.int .i64 a1_0) ∧ w'.cell? ⟨gb342, 1, none⟩ = some (.int .i64 a1_1) ∧ w'.cell? ⟨gb342, 2, none⟩ = some (.int .i64 a1_2) ∧ w'.cell? ⟨gb342, 3, none⟩ = some (.int .i64 a1_3)) ∧ (Kd.R k27 27 w' w.heap.size (fun k_ => some k_ ≠ (s_.2.1 : Value).ownBlock) s_.1 y344) ∧ (Kd.R k27 27 w' w.heap.size (fun k_ => some k_ ≠ (s_.1 : Value).ownBlock) s_.2.1 y351) ∧ (w'.heap[gb341]? = some (.cells #[.int .i64 a0_0, .int .i64 a0_1, .int .i64 a0_2, .int .i64 a0_3] 29 (0, 0))) ∧ (w'.heap[gb342]? = some (.cells #[.int .i64 a1_0, .int .i64 a1_1, .int .i64 a1_2, .int .i64 a1_3] 29 (0, 0))) ∧ (w'.heap[gb343]? = some (.cells #[.int .i64 0, .int .i64 0, .int .i64 0, .int .i64 0] 29 (0, 0))) ∧ (w'.heap[s_.2.2]? = some (.cells #[.int .i64 0, .int .i64 0, .int .i64 0, .int .i64 0] 29 (0, 0))) ∧ (w.heap.size ≤ s_.2.2) ∧ (w.heap.size ≤ s_.2.2) ∧ (gb341 ≠ s_.2.2) ∧ (s_.2.2 ≠ gb341) ∧ (gb342 ≠ s_.2.2) ∧ (s_.2.2 ≠ gb342) ∧ (gb343 ≠ s_.2.2) ∧ (s_.2.2 ≠ gb343) ∧ (Below w.heap.size w w')) ?_ ?_
    rotate_left
    ·
     intro hJ4_5_11_15
     refine join_ (σ := Value × Value) 5 #[true, true, true, true, true, true, true, true, true, true, true, true, false, false, false, false, false] (fun s_ => [(11, s_.1), (12, .agg #[.int .i64 t347, .int .i64 t348, .int .i64 t349, .int .i64 t350]), (18, s_.2), (13, .agg #[.int .i64 t349, .int .i64 t350])]) (fun s_ w' => (w'.cell? ⟨gb341, 0, none⟩ = some (.int .i64 a0_0) ∧ w'.cell? ⟨gb341, 1, none⟩ = some (.int .i64 a0_1) ∧ w'.cell? ⟨gb341, 2, none⟩ = some (.int .i64 a0_2) ∧ w'.cell? ⟨gb341, 3, none⟩ = some (.int .i64 a0_3) ∧ w'.cell? ⟨gb342, 0, none⟩ = some (.int .i64 a1_0) ∧ w'.cell? ⟨gb342, 1, none⟩ = some (.int .i64 a1_1) ∧ w'.cell? ⟨gb342, 2, none⟩ = some (.int .i64 a1_2) ∧ w'.cell? ⟨gb342, 3, none⟩ = some (.int .i64 a1_3)) ∧ (Kd.R k27 27 w' w.heap.size (fun k_ => some k_ ≠ (s_.2 : Value).ownBlock) s_.1 y344) ∧ (Kd.R k27 27 w' w.heap.size (fun k_ => some k_ ≠ (s_.1 : Value).ownBlock) s_.2 y351) ∧ (w'.heap[gb341]? = some (.cells #[.int .i64 a0_0, .int .i64 a0_1, .int .i64 a0_2, .int .i64 a0_3] 29 (0, 0))) ∧ (w'.heap[gb342]? = some (.cells #[.int .i64 a1_0, .int .i64 a1_1, .int .i64 a1_2, .int .i64 a1_3] 29 (0, 0))) ∧ (w'.heap[gb343]? = some (.cells #[.int .i64 0, .int .i64 0, .int .i64 0, .int .i64 0] 29 (0, 0))) ∧ (Below w.heap.size w w')) ?_ ?_
     rotate_left
     ·
      intro hJ4_5_11
      refine join_ (σ := Value × Nat) 5 #[true, true, true, true, true, true, true, true, true, true, true, false, false, false, false, true, false] (fun s_ => [(11, s_.1), (12, .agg #[.int .i64 t347, .int .i64 t348, .int .i64 t349, .int .i64 t350]), (6, .pointer (some ⟨s_.2, 0, none⟩)), (13, .agg #[.int .i64 t349, .int .i64 t350])]) (fun s_ w' => (w'.cell? ⟨gb341, 0, none⟩ = some (.int .i64 a0_0) ∧ w'.cell? ⟨gb341, 1, none⟩ = some (.int .i64 a0_1) ∧ w'.cell? ⟨gb341, 2, none⟩ = some (.int .i64 a0_2) ∧ w'.cell? ⟨gb341, 3, none⟩ = some (.int .i64 a0_3) ∧ w'.cell? ⟨gb342, 0, none⟩ = some (.int .i64 a1_0) ∧ w'.cell? ⟨gb342, 1, none⟩ = some (.int .i64 a1_1) ∧ w'.cell? ⟨gb342, 2, none⟩ = some (.int .i64 a1_2) ∧ w'.cell? ⟨gb342, 3, none⟩ = some (.int .i64 a1_3)) ∧ (Kd.R k27 27 w' w.heap.size (fun _ => True) s_.1 y344) ∧ (w'.heap[gb341]? = some (.cells #[.int .i64 a0_0, .int .i64 a0_1, .int .i64 a0_2, .int .i64 a0_3] 29 (0, 0))) ∧ (w'.heap[gb342]? = some (.cells #[.int .i64 a1_0, .int .i64 a1_1, .int .i64 a1_2, .int .i64 a1_3] 29 (0, 0))) ∧ (w'.heap[gb343]? = some (.cells #[.int .i64 0, .int .i64 0, .int .i64 0, .int .i64 0] 29 (0, 0))) ∧ (w'.heap[s_.2]? = some (.cells #[.int .i64 0, .int .i64 0, .int .i64 0, .int .i64 0] 29 (0, 0))) ∧ (w.heap.size ≤ s_.2) ∧ (w.heap.size ≤ s_.2) ∧ (gb341 ≠ s_.2) ∧ (s_.2 ≠ gb341) ∧ (gb342 ≠ s_.2) ∧ (s_.2 ≠ gb342) ∧ (gb343 ≠ s_.2) ∧ (s_.2 ≠ gb343) ∧ (Below w.heap.size w w')) ?_ ?_
      rotate_left
      ·
       intro hJ4_5_15
       refine join_ (σ := Value × Value × Nat) 6 #[true, true, true, true, true, false, false, true, true, true, true, true, false, false, false, true, false] (fun s_ => [(11, s_.1), (18, s_.2.1), (6, .pointer (some ⟨s_.2.2, 0, none⟩))]) (fun s_ w' => (w'.cell? ⟨gb341, 0, none⟩ = some (.int .i64 a0_0) ∧ w'.cell? ⟨gb341, 1, none⟩ = some (.int .i64 a0_1) ∧ w'.cell? ⟨gb341, 2, none⟩ = some (.int .i64 a0_2) ∧ w'.cell? ⟨gb341, 3, none⟩ = some (.int .i64 a0_3) ∧ w'.cell? ⟨gb342, 0, none⟩ = some (.int .i64 a1_0) ∧ w'.cell? ⟨gb342, 1, none⟩ = some (.int .i64 a1_1) ∧ w'.cell? ⟨gb342, 2, none⟩ = some (.int .i64 a1_2) ∧ w'.cell? ⟨gb342, 3, none⟩ = some (.int .i64 a1_3)) ∧ (Kd.R k27 27 w' w.heap.size (fun k_ => some k_ ≠ (s_.2.1 : Value).ownBlock) s_.1 y344) ∧ (Kd.R k27 27 w' w.heap.size (fun k_ => some k_ ≠ (s_.1 : Value).ownBlock) s_.2.1 y351) ∧ (w'.heap[gb341]? = some (.cells #[.int .i64 a0_0, .int .i64 a0_1, .int .i64 a0_2, .int .i64 a0_3] 29 (0, 0))) ∧ (w'.heap[gb342]? = some (.cells #[.int .i64 a1_0, .int .i64 a1_1, .int .i64 a1_2, .int .i64 a1_3] 29 (0, 0))) ∧ (w'.heap[gb343]? = some (.cells #[.int .i64 0, .int .i64 0, .int .i64 0, .int .i64 0] 29 (0, 0))) ∧ (w'.heap[s_.2.2]? = some (.cells #[.int .i64 0, .int .i64 0, .int .i64 0, .int .i64 0] 29 (0, 0))) ∧ (w.heap.size ≤ s_.2.2) ∧ (w.heap.size ≤ s_.2.2) ∧ (gb341 ≠ s_.2.2) ∧ (s_.2.2 ≠ gb341) ∧ (gb342 ≠ s_.2.2) ∧ (s_.2.2 ≠ gb342) ∧ (gb343 ≠ s_.2.2) ∧ (s_.2.2 ≠ gb343) ∧ (Below w.heap.size w w')) ?_ ?_
       rotate_left
       ·
        intro hJ4_11_15
        refine join_ (σ := Value) 6 #[true, true, true, true, true, true, true, true, true, true, true, false, false, false, false, false, false] (fun s_ => [(11, s_), (12, .agg #[.int .i64 t347, .int .i64 t348, .int .i64 t349, .int .i64 t350]), (13, .agg #[.int .i64 t349, .int .i64 t350])]) (fun s_ w' => (w'.cell? ⟨gb341, 0, none⟩ = some (.int .i64 a0_0) ∧ w'.cell? ⟨gb341, 1, none⟩ = some (.int .i64 a0_1) ∧ w'.cell? ⟨gb341, 2, none⟩ = some (.int .i64 a0_2) ∧ w'.cell? ⟨gb341, 3, none⟩ = some (.int .i64 a0_3) ∧ w'.cell? ⟨gb342, 0, none⟩ = some (.int .i64 a1_0) ∧ w'.cell? ⟨gb342, 1, none⟩ = some (.int .i64 a1_1) ∧ w'.cell? ⟨gb342, 2, none⟩ = some (.int .i64 a1_2) ∧ w'.cell? ⟨gb342, 3, none⟩ = some (.int .i64 a1_3)) ∧ (Kd.R k27 27 w' w.heap.size (fun _ => True) s_ y344) ∧ (w'.heap[gb341]? = some (.cells #[.int .i64 a0_0, .int .i64 a0_1, .int .i64 a0_2, .int .i64 a0_3] 29 (0, 0))) ∧ (w'.heap[gb342]? = some (.cells #[.int .i64 a1_0, .int .i64 a1_1, .int .i64 a1_2, .int .i64 a1_3] 29 (0, 0))) ∧ (w'.heap[gb343]? = some (.cells #[.int .i64 0, .int .i64 0, .int .i64 0, .int .i64 0] 29 (0, 0))) ∧ (Below w.heap.size w w')) ?_ ?_
        rotate_left
        ·
         intro hJ4_5
         refine join_ (σ := Value × Value) 7 #[true, true, true, true, true, false, false, true, true, true, true, true, false, false, false, false, false] (fun s_ => [(11, s_.1), (18, s_.2)]) (fun s_ w' => (w'.cell? ⟨gb341, 0, none⟩ = some (.int .i64 a0_0) ∧ w'.cell? ⟨gb341, 1, none⟩ = some (.int .i64 a0_1) ∧ w'.cell? ⟨gb341, 2, none⟩ = some (.int .i64 a0_2) ∧ w'.cell? ⟨gb341, 3, none⟩ = some (.int .i64 a0_3) ∧ w'.cell? ⟨gb342, 0, none⟩ = some (.int .i64 a1_0) ∧ w'.cell? ⟨gb342, 1, none⟩ = some (.int .i64 a1_1) ∧ w'.cell? ⟨gb342, 2, none⟩ = some (.int .i64 a1_2) ∧ w'.cell? ⟨gb342, 3, none⟩ = some (.int .i64 a1_3)) ∧ (Kd.R k27 27 w' w.heap.size (fun k_ => some k_ ≠ (s_.2 : Value).ownBlock) s_.1 y344) ∧ (Kd.R k27 27 w' w.heap.size (fun k_ => some k_ ≠ (s_.1 : Value).ownBlock) s_.2 y351) ∧ (w'.heap[gb341]? = some (.cells #[.int .i64 a0_0, .int .i64 a0_1, .int .i64 a0_2, .int .i64 a0_3] 29 (0, 0))) ∧ (w'.heap[gb342]? = some (.cells #[.int .i64 a1_0, .int .i64 a1_1, .int .i64 a1_2, .int .i64 a1_3] 29 (0, 0))) ∧ (w'.heap[gb343]? = some (.cells #[.int .i64 0, .int .i64 0, .int .i64 0, .int .i64 0] 29 (0, 0))) ∧ (Below w.heap.size w w')) ?_ ?_
         rotate_left
         ·
          intro hJ4_11
          refine join_ (σ := Value × Nat) 7 #[true, true, true, true, true, false, false, true, true, true, true, false, false, false, false, true, false] (fun s_ => [(11, s_.1), (6, .pointer (some ⟨s_.2, 0, none⟩))]) (fun s_ w' => (w'.cell? ⟨gb341, 0, none⟩ = some (.int .i64 a0_0) ∧ w'.cell? ⟨gb341, 1, none⟩ = some (.int .i64 a0_1) ∧ w'.cell? ⟨gb341, 2, none⟩ = some (.int .i64 a0_2) ∧ w'.cell? ⟨gb341, 3, none⟩ = some (.int .i64 a0_3) ∧ w'.cell? ⟨gb342, 0, none⟩ = some (.int .i64 a1_0) ∧ w'.cell? ⟨gb342, 1, none⟩ = some (.int .i64 a1_1) ∧ w'.cell? ⟨gb342, 2, none⟩ = some (.int .i64 a1_2) ∧ w'.cell? ⟨gb342, 3, none⟩ = some (.int .i64 a1_3)) ∧ (Kd.R k27 27 w' w.heap.size (fun _ => True) s_.1 y344) ∧ (w'.heap[gb341]? = some (.cells #[.int .i64 a0_0, .int .i64 a0_1, .int .i64 a0_2, .int .i64 a0_3] 29 (0, 0))) ∧ (w'.heap[gb342]? = some (.cells #[.int .i64 a1_0, .int .i64 a1_1, .int .i64 a1_2, .int .i64 a1_3] 29 (0, 0))) ∧ (w'.heap[gb343]? = some (.cells #[.int .i64 0, .int .i64 0, .int .i64 0, .int .i64 0] 29 (0, 0))) ∧ (w'.heap[s_.2]? = some (.cells #[.int .i64 0, .int .i64 0, .int .i64 0, .int .i64 0] 29 (0, 0))) ∧ (w.heap.size ≤ s_.2) ∧ (w.heap.size ≤ s_.2) ∧ (gb341 ≠ s_.2) ∧ (s_.2 ≠ gb341) ∧ (gb342 ≠ s_.2) ∧ (s_.2 ≠ gb342) ∧ (gb343 ≠ s_.2) ∧ (s_.2 ≠ gb343) ∧ (Below w.heap.size w w')) ?_ ?_
          rotate_left
          ·
           intro hJ4_15
           refine join_ (σ := Value × Nat) 7 #[true, true, true, true, false, false, false, true, true, true, true, true, false, false, false, true, false] (fun s_ => [(18, s_.1), (6, .pointer (some ⟨s_.2, 0, none⟩))]) (fun s_ w' => (w'.cell? ⟨gb341, 0, none⟩ = some (.int .i64 a0_0) ∧ w'.cell? ⟨gb341, 1, none⟩ = some (.int .i64 a0_1) ∧ w'.cell? ⟨gb341, 2, none⟩ = some (.int .i64 a0_2) ∧ w'.cell? ⟨gb341, 3, none⟩ = some (.int .i64 a0_3) ∧ w'.cell? ⟨gb342, 0, none⟩ = some (.int .i64 a1_0) ∧ w'.cell? ⟨gb342, 1, none⟩ = some (.int .i64 a1_1) ∧ w'.cell? ⟨gb342, 2, none⟩ = some (.int .i64 a1_2) ∧ w'.cell? ⟨gb342, 3, none⟩ = some (.int .i64 a1_3)) ∧ (Kd.R k27 27 w' w.heap.size (fun _ => True) s_.1 y351) ∧ (w'.heap[gb341]? = some (.cells #[.int .i64 a0_0, .int .i64 a0_1, .int .i64 a0_2, .int .i64 a0_3] 29 (0, 0))) ∧ (w'.heap[gb342]? = some (.cells #[.int .i64 a1_0, .int .i64 a1_1, .int .i64 a1_2, .int .i64 a1_3] 29 (0, 0))) ∧ (w'.heap[gb343]? = some (.cells #[.int .i64 0, .int .i64 0, .int .i64 0, .int .i64 0] 29 (0, 0))) ∧ (w'.heap[s_.2]? = some (.cells #[.int .i64 0, .int .i64 0, .int .i64 0, .int .i64 0] 29 (0, 0))) ∧ (w.heap.size ≤ s_.2) ∧ (w.heap.size ≤ s_.2) ∧ (gb341 ≠ s_.2) ∧ (s_.2 ≠ gb341) ∧ (gb342 ≠ s_.2) ∧ (s_.2 ≠ gb342) ∧ (gb343 ≠ s_.2) ∧ (s_.2 ≠ gb343) ∧ (Below w.heap.size w w')) ?_ ?_
           rotate_left
           ·
            intro hJ11_15
            refine join_ (σ := Value) 8 #[true, true, true, true, true, false, false, true, true, true, true, false, false, false, false, false, false] (fun s_ => [(11, s_)]) (fun s_ w' => (w'.cell? ⟨gb341, 0, none⟩ = some (.int .i64 a0_0) ∧ w'.cell? ⟨gb341, 1, none⟩ = some (.int .i64 a0_1) ∧ w'.cell? ⟨gb341, 2, none⟩ = some (.int .i64 a0_2) ∧ w'.cell? ⟨gb341, 3, none⟩ = some (.int .i64 a0_3) ∧ w'.cell? ⟨gb342, 0, none⟩ = some (.int .i64 a1_0) ∧ w'.cell? ⟨gb342, 1, none⟩ = some (.int .i64 a1_1) ∧ w'.cell? ⟨gb342, 2, none⟩ = some (.int .i64 a1_2) ∧ w'.cell? ⟨gb342, 3, none⟩ = some (.int .i64 a1_3)) ∧ (Kd.R k27 27 w' w.heap.size (fun _ => True) s_ y344) ∧ (w'.heap[gb341]? = some (.cells #[.int .i64 a0_0, .int .i64 a0_1, .int .i64 a0_2, .int .i64 a0_3] 29 (0, 0))) ∧ (w'.heap[gb342]? = some (.cells #[.int .i64 a1_0, .int .i64 a1_1, .int .i64 a1_2, .int .i64 a1_3] 29 (0, 0))) ∧ (w'.heap[gb343]? = some (.cells #[.int .i64 0, .int .i64 0, .int .i64 0, .int .i64 0] 29 (0, 0))) ∧ (Below w.heap.size w w')) ?_ ?_
            rotate_left
            ·
             intro hJ4
             refine join_ (σ := Value) 8 #[true, true, true, true, false, false, false, true, true, true, true, true, false, false, false, false, false] (fun s_ => [(18, s_)]) (fun s_ w' => (w'.cell? ⟨gb341, 0, none⟩ = some (.int .i64 a0_0) ∧ w'.cell? ⟨gb341, 1, none⟩ = some (.int .i64 a0_1) ∧ w'.cell? ⟨gb341, 2, none⟩ = some (.int .i64 a0_2) ∧ w'.cell? ⟨gb341, 3, none⟩ = some (.int .i64 a0_3) ∧ w'.cell? ⟨gb342, 0, none⟩ = some (.int .i64 a1_0) ∧ w'.cell? ⟨gb342, 1, none⟩ = some (.int .i64 a1_1) ∧ w'.cell? ⟨gb342, 2, none⟩ = some (.int .i64 a1_2) ∧ w'.cell? ⟨gb342, 3, none⟩ = some (.int .i64 a1_3)) ∧ (Kd.R k27 27 w' w.heap.size (fun _ => True) s_ y351) ∧ (w'.heap[gb341]? = some (.cells #[.int .i64 a0_0, .int .i64 a0_1, .int .i64 a0_2, .int .i64 a0_3] 29 (0, 0))) ∧ (w'.heap[gb342]? = some (.cells #[.int .i64 a1_0, .int .i64 a1_1, .int .i64 a1_2, .int .i64 a1_3] 29 (0, 0))) ∧ (w'.heap[gb343]? = some (.cells #[.int .i64 0, .int .i64 0, .int .i64 0, .int .i64 0] 29 (0, 0))) ∧ (Below w.heap.size w w')) ?_ ?_
             rotate_left
             ·
              intro hJ11
              refine join_ (σ := Nat) 8 #[true, true, true, true, false, false, false, true, true, true, true, false, false, false, false, true, false] (fun s_ => [(6, .pointer (some ⟨s_, 0, none⟩))]) (fun s_ w' => (w'.cell? ⟨gb341, 0, none⟩ = some (.int .i64 a0_0) ∧ w'.cell? ⟨gb341, 1, none⟩ = some (.int .i64 a0_1) ∧ w'.cell? ⟨gb341, 2, none⟩ = some (.int .i64 a0_2) ∧ w'.cell? ⟨gb341, 3, none⟩ = some (.int .i64 a0_3) ∧ w'.cell? ⟨gb342, 0, none⟩ = some (.int .i64 a1_0) ∧ w'.cell? ⟨gb342, 1, none⟩ = some (.int .i64 a1_1) ∧ w'.cell? ⟨gb342, 2, none⟩ = some (.int .i64 a1_2) ∧ w'.cell? ⟨gb342, 3, none⟩ = some (.int .i64 a1_3)) ∧ (w'.heap[gb341]? = some (.cells #[.int .i64 a0_0, .int .i64 a0_1, .int .i64 a0_2, .int .i64 a0_3] 29 (0, 0))) ∧ (w'.heap[gb342]? = some (.cells #[.int .i64 a1_0, .int .i64 a1_1, .int .i64 a1_2, .int .i64 a1_3] 29 (0, 0))) ∧ (w'.heap[gb343]? = some (.cells #[.int .i64 0, .int .i64 0, .int .i64 0, .int .i64 0] 29 (0, 0))) ∧ (w'.heap[s_]? = some (.cells #[.int .i64 0, .int .i64 0, .int .i64 0, .int .i64 0] 29 (0, 0))) ∧ (w.heap.size ≤ s_) ∧ (w.heap.size ≤ s_) ∧ (gb341 ≠ s_) ∧ (s_ ≠ gb341) ∧ (gb342 ≠ s_) ∧ (s_ ≠ gb342) ∧ (gb343 ≠ s_) ∧ (s_ ≠ gb343) ∧ (Below w.heap.size w w')) ?_ ?_
              rotate_left
              ·
               intro hJ15
               refine three_ (i := 4) (j := 11) (k := 15) (Ni := some 11) (Nj := some 18) (Nk := some 6) #[true, true, true, true, true, false, false, true, true, true, true, false, false, false, false, false, false] #[true, true, true, true, false, false, false, true, true, true, true, true, false, false, false, false, false] #[true, true, true, true, false, false, false, true, true, true, true, false, false, false, false, true, false] rfl rfl rfl rfl rfl rfl (three_of HT_.out (by kernel_rfl)) (by decide) (by decide) (by decide) (fun K hK => ?_) (fun K hK => ?_) (fun K hK => ?_)
               ·
                refine Kd.R_lit_step k27 _ 27 ?hg (N := 11) ?hd (xs := ([(⟨a0_0, a0_1⟩ : S27), (⟨a1_0, a1_1⟩ : S27)] : List (S27))) (inner := [.int .i64 a0_0, .int .i64 a0_1, .int .i64 a1_0, .int .i64 a1_1]) (ok := fun _ => True) (okp := fun _ => True) ?hr ?hp (fun _ hk => hk) trivial (Below.refl _ _) (Nat.le_refl _) (by simp) ?_; (case hd => rfl); (case hg => rfl); (case hr => first | (go_simp; done) | (go_simp; rfl)); (case hp => exact (Reps.c2 (show Kd.M k27 _ _ _ (⟨a0_0, a0_1⟩ : S27) [.int .i64 a0_0, .int .i64 a0_1] from (k27_mkM _ _ _ (⟨a0_0, a0_1⟩ : S27) )) (Reps.c2 (show Kd.M k27 _ _ _ (⟨a1_0, a1_1⟩ : S27) [.int .i64 a1_0, .int .i64 a1_1] from (k27_mkM _ _ _ (⟨a1_0, a1_1⟩ : S27) )) (Reps.none _ _))))
                intro v345 w37 ho38 hb hg_ hnew_
                clear hg_ hnew_
                (first | rw [← Ny344.out] at ho38 | (simp only [Int.reduceToNat] at ho38; rw [← Ny344.out] at ho38))
                have HO346 := Aside0.mk (Kd.R_lower ho38 (below_size (z53_1 HB)))
                have n1_ := Aside0.mk (zbb BK341 hb)
                have n2_ := Aside0.mk (zbb BK342 hb)
                have n3_ := Aside0.mk (zbb BK343 hb)
                have n4_ := Aside0.mk (below_step (z53_1 HB) hb)
                clear BK341 BK342 BK343 HB
                have BK341 := n1_; have BK342 := n2_; have BK343 := n3_; have HB := n4_
                clear n1_ n2_ n3_ n4_ hb ho38
                refine hK.out _ _ ⟨zc BK341 0, zc BK341 1, zc BK341 2, zc BK341 3, zc BK342 0, zc BK342 1, zc BK342 2, zc BK342 3⟩ (fun hHeld => ?_)
                clear hK K
                refine norm_ (a' := ?_) ?_ ?_
                rotate_left
                ·
                 show Act.put _ (some 11) _ = _
                 simp only [Act.put, List.setIfInBounds_toArray, List.set_cons_zero, List.set_cons_succ, i64_w, i32_w]; rfl
                exact norm_ zq4 (hJ4 (_) _ ⟨hHeld, (zq3 HO346), (zq1 BK341), (zq1 BK342), (zq1 BK343), (z53_1 HB)⟩)
               ·
                refine Kd.R_lit_step k27 _ 27 ?hg (N := 18) ?hd (xs := ([(⟨a0_2, a0_3⟩ : S27), (⟨a1_2, a1_3⟩ : S27)] : List (S27))) (inner := [.int .i64 a0_2, .int .i64 a0_3, .int .i64 a1_2, .int .i64 a1_3]) (ok := fun _ => True) (okp := fun _ => True) ?hr ?hp (fun _ hk => hk) trivial (Below.refl _ _) (Nat.le_refl _) (by simp) ?_; (case hd => rfl); (case hg => rfl); (case hr => first | (go_simp; done) | (go_simp; rfl)); (case hp => exact (Reps.c2 (show Kd.M k27 _ _ _ (⟨a0_2, a0_3⟩ : S27) [.int .i64 a0_2, .int .i64 a0_3] from (k27_mkM _ _ _ (⟨a0_2, a0_3⟩ : S27) )) (Reps.c2 (show Kd.M k27 _ _ _ (⟨a1_2, a1_3⟩ : S27) [.int .i64 a1_2, .int .i64 a1_3] from (k27_mkM _ _ _ (⟨a1_2, a1_3⟩ : S27) )) (Reps.none _ _))))
                intro v352 w37 ho38 hb hg_ hnew_
                clear hg_ hnew_
                (first | rw [← Ny351.out] at ho38 | (simp only [Int.reduceToNat] at ho38; rw [← Ny351.out] at ho38))
                have HO353 := Aside0.mk (Kd.R_lower ho38 (below_size (z53_1 HB)))
                have n1_ := Aside0.mk (zbb BK341 hb)
                have n2_ := Aside0.mk (zbb BK342 hb)
                have n3_ := Aside0.mk (zbb BK343 hb)
                have n4_ := Aside0.mk (below_step (z53_1 HB) hb)
                clear BK341 BK342 BK343 HB
                have BK341 := n1_; have BK342 := n2_; have BK343 := n3_; have HB := n4_
                clear n1_ n2_ n3_ n4_ hb ho38
                refine hK.out _ _ ⟨zc BK341 0, zc BK341 1, zc BK341 2, zc BK341 3, zc BK342 0, zc BK342 1, zc BK342 2, zc BK342 3⟩ (fun hHeld => ?_)
                clear hK K
                refine norm_ (a' := ?_) ?_ ?_
                rotate_left
                ·
                 show Act.put _ (some 18) _ = _
                 simp only [Act.put, List.setIfInBounds_toArray, List.set_cons_zero, List.set_cons_succ, i64_w, i32_w]; rfl
                exact norm_ zq4 (hJ11 (_) _ ⟨hHeld, (zq3 HO353), (zq1 BK341), (zq1 BK342), (zq1 BK343), (z53_1 HB)⟩)
               ·
                refine box_step ?hg (N := 6) ?hd (cs := #[.int .i64 0, .int .i64 0, .int .i64 0, .int .i64 0]) (t := 29) ?hr ?_; (case hd => rfl); (case hg => rfl); (case hr => first | (go_simp; done) | (go_simp; rfl))
                intro gb358 hg w37 hbox hb
                have n0_ := Aside0.mk (zbb BK341 hb)
                have n1_ := Aside0.mk (zbb BK342 hb)
                have n2_ := Aside0.mk (zbb BK343 hb)
                have n3_ := Aside0.mk (below_step (z53_1 HB) hb)
                have BK358 := Aside0.mk (hbox)
                have GW358 := Aside0.mk ((by rw [hg]; exact (below_size (z53_1 HB)) : w.heap.size ≤ gb358))
                have GE358 := Aside0.mk ((by rw [hg]; exact (below_size (z53_1 HB)) : w.heap.size ≤ gb358))
                have NB341_358 := Aside0.mk (zlt BK341 hg)
                have NB358_341 := Aside0.mk (zgt BK341 hg)
                have NB342_358 := Aside0.mk (zlt BK342 hg)
                have NB358_342 := Aside0.mk (zgt BK342 hg)
                have NB343_358 := Aside0.mk (zlt BK343 hg)
                have NB358_343 := Aside0.mk (zgt BK343 hg)
                clear BK341 BK342 BK343 HB
                have BK341 := n0_; have BK342 := n1_; have BK343 := n2_; have HB := n3_
                clear n0_ n1_ n2_ n3_ hb hbox hg
                refine hK.out _ _ ⟨zc BK341 0, zc BK341 1, zc BK341 2, zc BK341 3, zc BK342 0, zc BK342 1, zc BK342 2, zc BK342 3⟩ (fun hHeld => ?_)
                clear hK K
                refine norm_ (a' := ?_) ?_ ?_
                rotate_left
                ·
                 show Act.put _ (some 6) _ = _
                 simp only [Act.put, List.setIfInBounds_toArray, List.set_cons_zero, List.set_cons_succ, i64_w, i32_w]; rfl
                exact norm_ zq4 (hJ15 (_) _ ⟨hHeld, (zq1 BK341), (zq1 BK342), (zq1 BK343), (zq1 BK358), GW358.out, GE358.out, NB341_358.out, NB358_341.out, NB342_358.out, NB358_342.out, NB343_358.out, NB358_343.out, (z53_1 HB)⟩)
              ·
               rintro gb358 w38 ⟨hS_, h0_, h1_, h2_, h3_, h4_, h5_, h6_, h7_, h8_, h9_, h10_, h11_, h12_⟩
               have n0_ : Aside0 (w38.heap[gb341]? = some (.cells #[.int .i64 a0_0, .int .i64 a0_1, .int .i64 a0_2, .int .i64 a0_3] 29 (0, 0))) := ⟨h0_⟩
               have n1_ : Aside0 (w38.heap[gb342]? = some (.cells #[.int .i64 a1_0, .int .i64 a1_1, .int .i64 a1_2, .int .i64 a1_3] 29 (0, 0))) := ⟨h1_⟩
               have n2_ : Aside0 (w38.heap[gb343]? = some (.cells #[.int .i64 0, .int .i64 0, .int .i64 0, .int .i64 0] 29 (0, 0))) := ⟨h2_⟩
               have BK358 : Aside0 (w38.heap[gb358]? = some (.cells #[.int .i64 0, .int .i64 0, .int .i64 0, .int .i64 0] 29 (0, 0))) := ⟨h3_⟩
               have GW358 : Aside0 (w.heap.size ≤ gb358) := ⟨h4_⟩
               have GE358 : Aside0 (w.heap.size ≤ gb358) := ⟨h5_⟩
               have NB341_358 : Aside0 (gb341 ≠ gb358) := ⟨h6_⟩
               have NB358_341 : Aside0 (gb358 ≠ gb341) := ⟨h7_⟩
               have NB342_358 : Aside0 (gb342 ≠ gb358) := ⟨h8_⟩
               have NB358_342 : Aside0 (gb358 ≠ gb342) := ⟨h9_⟩
               have NB343_358 : Aside0 (gb343 ≠ gb358) := ⟨h10_⟩
               have NB358_343 : Aside0 (gb358 ≠ gb343) := ⟨h11_⟩
               have n12_ : Aside0 (Below w.heap.size w w38) := ⟨h12_⟩
               clear BK341 BK342 BK343 HB h0_ h1_ h2_ h3_ h4_ h5_ h6_ h7_ h8_ h9_ h10_ h11_ h12_
               have BK341 := n0_; have BK342 := n1_; have BK343 := n2_; have HB := n12_
               clear n0_ n1_ n2_ n12_
               have hHeld : w38.cell? ⟨gb341, 0, none⟩ = some (.int .i64 a0_0) ∧ w38.cell? ⟨gb341, 1, none⟩ = some (.int .i64 a0_1) ∧ w38.cell? ⟨gb341, 2, none⟩ = some (.int .i64 a0_2) ∧ w38.cell? ⟨gb341, 3, none⟩ = some (.int .i64 a0_3) ∧ w38.cell? ⟨gb342, 0, none⟩ = some (.int .i64 a1_0) ∧ w38.cell? ⟨gb342, 1, none⟩ = some (.int .i64 a1_1) ∧ w38.cell? ⟨gb342, 2, none⟩ = some (.int .i64 a1_2) ∧ w38.cell? ⟨gb342, 3, none⟩ = some (.int .i64 a1_3) := hS_
               refine norm_ (a' := ?_) ?_ ?_
               rotate_left
               ·
                simp only [putAll, Act.put, List.setIfInBounds_toArray, List.set_cons_zero, List.set_cons_succ]
                rfl
               refine two_ (i := 4) (j := 11) (Ni := some 11) (Nj := some 18) #[true, true, true, true, true, false, false, true, true, true, true, false, false, false, false, true, false] #[true, true, true, true, false, false, false, true, true, true, true, true, false, false, false, true, false] rfl rfl rfl rfl (two_of HT_.out (by kernel_rfl)) (by decide) (by decide) (fun K hK => ?_) (fun K hK => ?_)
               ·
                refine Kd.R_lit_step k27 _ 27 ?hg (N := 11) ?hd (xs := ([(⟨a0_0, a0_1⟩ : S27), (⟨a1_0, a1_1⟩ : S27)] : List (S27))) (inner := [.int .i64 a0_0, .int .i64 a0_1, .int .i64 a1_0, .int .i64 a1_1]) (ok := fun _ => True) (okp := fun _ => True) ?hr ?hp (fun _ hk => hk) trivial (Below.refl _ _) (Nat.le_refl _) (by simp) ?_; (case hd => rfl); (case hg => rfl); (case hr => first | (go_simp; done) | (go_simp; rfl)); (case hp => exact (Reps.c2 (show Kd.M k27 _ _ _ (⟨a0_0, a0_1⟩ : S27) [.int .i64 a0_0, .int .i64 a0_1] from (k27_mkM _ _ _ (⟨a0_0, a0_1⟩ : S27) )) (Reps.c2 (show Kd.M k27 _ _ _ (⟨a1_0, a1_1⟩ : S27) [.int .i64 a1_0, .int .i64 a1_1] from (k27_mkM _ _ _ (⟨a1_0, a1_1⟩ : S27) )) (Reps.none _ _))))
                intro v345 w39 ho40 hb hg_ hnew_
                clear hg_ hnew_
                (first | rw [← Ny344.out] at ho40 | (simp only [Int.reduceToNat] at ho40; rw [← Ny344.out] at ho40))
                have HO346 := Aside0.mk (Kd.R_lower ho40 (below_size (z53_1 HB)))
                have n1_ := Aside0.mk (zbb BK341 hb)
                have n2_ := Aside0.mk (zbb BK342 hb)
                have n3_ := Aside0.mk (zbb BK343 hb)
                have n4_ := Aside0.mk (zbb BK358 hb)
                have n5_ := Aside0.mk (below_step (z53_1 HB) hb)
                clear BK341 BK342 BK343 BK358 HB
                have BK341 := n1_; have BK342 := n2_; have BK343 := n3_; have BK358 := n4_; have HB := n5_
                clear n1_ n2_ n3_ n4_ n5_ hb ho40
                refine hK.out _ _ ⟨zc BK341 0, zc BK341 1, zc BK341 2, zc BK341 3, zc BK342 0, zc BK342 1, zc BK342 2, zc BK342 3⟩ (fun hHeld => ?_)
                clear hK K
                refine norm_ (a' := ?_) ?_ ?_
                rotate_left
                ·
                 show Act.put _ (some 11) _ = _
                 simp only [Act.put, List.setIfInBounds_toArray, List.set_cons_zero, List.set_cons_succ, i64_w, i32_w]; rfl
                exact norm_ zq4 (hJ4_15 (_, _) _ ⟨hHeld, (zq3 HO346), (zq1 BK341), (zq1 BK342), (zq1 BK343), (zq1 BK358), GW358.out, GE358.out, NB341_358.out, NB358_341.out, NB342_358.out, NB358_342.out, NB343_358.out, NB358_343.out, (z53_1 HB)⟩)
               ·
                refine Kd.R_lit_step k27 _ 27 ?hg (N := 18) ?hd (xs := ([(⟨a0_2, a0_3⟩ : S27), (⟨a1_2, a1_3⟩ : S27)] : List (S27))) (inner := [.int .i64 a0_2, .int .i64 a0_3, .int .i64 a1_2, .int .i64 a1_3]) (ok := fun _ => True) (okp := fun _ => True) ?hr ?hp (fun _ hk => hk) trivial (Below.refl _ _) (Nat.le_refl _) (by simp) ?_; (case hd => rfl); (case hg => rfl); (case hr => first | (go_simp; done) | (go_simp; rfl)); (case hp => exact (Reps.c2 (show Kd.M k27 _ _ _ (⟨a0_2, a0_3⟩ : S27) [.int .i64 a0_2, .int .i64 a0_3] from (k27_mkM _ _ _ (⟨a0_2, a0_3⟩ : S27) )) (Reps.c2 (show Kd.M k27 _ _ _ (⟨a1_2, a1_3⟩ : S27) [.int .i64 a1_2, .int .i64 a1_3] from (k27_mkM _ _ _ (⟨a1_2, a1_3⟩ : S27) )) (Reps.none _ _))))
                intro v352 w39 ho40 hb hg_ hnew_
                clear hg_ hnew_
                (first | rw [← Ny351.out] at ho40 | (simp only [Int.reduceToNat] at ho40; rw [← Ny351.out] at ho40))
                have HO353 := Aside0.mk (Kd.R_lower ho40 (below_size (z53_1 HB)))
                have n1_ := Aside0.mk (zbb BK341 hb)
                have n2_ := Aside0.mk (zbb BK342 hb)
                have n3_ := Aside0.mk (zbb BK343 hb)
                have n4_ := Aside0.mk (zbb BK358 hb)
                have n5_ := Aside0.mk (below_step (z53_1 HB) hb)
                clear BK341 BK342 BK343 BK358 HB
                have BK341 := n1_; have BK342 := n2_; have BK343 := n3_; have BK358 := n4_; have HB := n5_
                clear n1_ n2_ n3_ n4_ n5_ hb ho40
                refine hK.out _ _ ⟨zc BK341 0, zc BK341 1, zc BK341 2, zc BK341 3, zc BK342 0, zc BK342 1, zc BK342 2, zc BK342 3⟩ (fun hHeld => ?_)
                clear hK K
                refine norm_ (a' := ?_) ?_ ?_
                rotate_left
                ·
                 show Act.put _ (some 18) _ = _
                 simp only [Act.put, List.setIfInBounds_toArray, List.set_cons_zero, List.set_cons_succ, i64_w, i32_w]; rfl
                exact norm_ zq4 (hJ11_15 (_, _) _ ⟨hHeld, (zq3 HO353), (zq1 BK341), (zq1 BK342), (zq1 BK343), (zq1 BK358), GW358.out, GE358.out, NB341_358.out, NB358_341.out, NB342_358.out, NB358_342.out, NB343_358.out, NB358_343.out, (z53_1 HB)⟩)
             ·
              rintro v352 w39 ⟨hS_, h0_, h1_, h2_, h3_, h4_⟩
              have HO353 : Aside0 (Kd.R k27 27 w39 w.heap.size (fun _ => True) v352 y351) := ⟨h0_⟩
              have n1_ : Aside0 (w39.heap[gb341]? = some (.cells #[.int .i64 a0_0, .int .i64 a0_1, .int .i64 a0_2, .int .i64 a0_3] 29 (0, 0))) := ⟨h1_⟩
              have n2_ : Aside0 (w39.heap[gb342]? = some (.cells #[.int .i64 a1_0, .int .i64 a1_1, .int .i64 a1_2, .int .i64 a1_3] 29 (0, 0))) := ⟨h2_⟩
              have n3_ : Aside0 (w39.heap[gb343]? = some (.cells #[.int .i64 0, .int .i64 0, .int .i64 0, .int .i64 0] 29 (0, 0))) := ⟨h3_⟩
              have n4_ : Aside0 (Below w.heap.size w w39) := ⟨h4_⟩
              clear BK341 BK342 BK343 HB h0_ h1_ h2_ h3_ h4_
              have BK341 := n1_; have BK342 := n2_; have BK343 := n3_; have HB := n4_
              clear n1_ n2_ n3_ n4_
              have hHeld : w39.cell? ⟨gb341, 0, none⟩ = some (.int .i64 a0_0) ∧ w39.cell? ⟨gb341, 1, none⟩ = some (.int .i64 a0_1) ∧ w39.cell? ⟨gb341, 2, none⟩ = some (.int .i64 a0_2) ∧ w39.cell? ⟨gb341, 3, none⟩ = some (.int .i64 a0_3) ∧ w39.cell? ⟨gb342, 0, none⟩ = some (.int .i64 a1_0) ∧ w39.cell? ⟨gb342, 1, none⟩ = some (.int .i64 a1_1) ∧ w39.cell? ⟨gb342, 2, none⟩ = some (.int .i64 a1_2) ∧ w39.cell? ⟨gb342, 3, none⟩ = some (.int .i64 a1_3) := hS_
              refine norm_ (a' := ?_) ?_ ?_
              rotate_left
              ·
               simp only [putAll, Act.put, List.setIfInBounds_toArray, List.set_cons_zero, List.set_cons_succ]
               rfl
              refine two_ (i := 4) (j := 15) (Ni := some 11) (Nj := some 6) #[true, true, true, true, true, false, false, true, true, true, true, true, false, false, false, false, false] #[true, true, true, true, false, false, false, true, true, true, true, true, false, false, false, true, false] rfl rfl rfl rfl (two_of HT_.out (by kernel_rfl)) (by decide) (by decide) (fun K hK => ?_) (fun K hK => ?_)
              ·
               refine Kd.R_lit_step k27 _ 27 ?hg (N := 11) ?hd (xs := ([(⟨a0_0, a0_1⟩ : S27), (⟨a1_0, a1_1⟩ : S27)] : List (S27))) (inner := [.int .i64 a0_0, .int .i64 a0_1, .int .i64 a1_0, .int .i64 a1_1]) (ok := fun _ => True) (okp := fun _ => True) ?hr ?hp (fun _ hk => hk) trivial (Below.refl _ _) (Nat.le_refl _) (by simp) ?_; (case hd => rfl); (case hg => rfl); (case hr => first | (go_simp; done) | (go_simp; rfl)); (case hp => exact (Reps.c2 (show Kd.M k27 _ _ _ (⟨a0_0, a0_1⟩ : S27) [.int .i64 a0_0, .int .i64 a0_1] from (k27_mkM _ _ _ (⟨a0_0, a0_1⟩ : S27) )) (Reps.c2 (show Kd.M k27 _ _ _ (⟨a1_0, a1_1⟩ : S27) [.int .i64 a1_0, .int .i64 a1_1] from (k27_mkM _ _ _ (⟨a1_0, a1_1⟩ : S27) )) (Reps.none _ _))))
               intro v345 w40 ho41 hb hg_ hnew_
               clear hg_ hnew_
               (first | rw [← Ny344.out] at ho41 | (simp only [Int.reduceToNat] at ho41; rw [← Ny344.out] at ho41))
               have n0_ := Aside0.mk (Kd.R_elder' (zq3 HO353) (Kd.R_base ho41) hb)
               have HO346 := Aside0.mk (Kd.R_lower (Kd.R_new' ho41 (Kd.R_lt (zq3 HO353))) (below_size (z53_1 HB)))
               have n2_ := Aside0.mk (zbb BK341 hb)
               have n3_ := Aside0.mk (zbb BK342 hb)
               have n4_ := Aside0.mk (zbb BK343 hb)
               have n5_ := Aside0.mk (below_step (z53_1 HB) hb)
               clear HO353 BK341 BK342 BK343 HB
               have HO353 := n0_; have BK341 := n2_; have BK342 := n3_; have BK343 := n4_; have HB := n5_
               clear n0_ n2_ n3_ n4_ n5_ hb ho41
               refine hK.out _ _ ⟨zc BK341 0, zc BK341 1, zc BK341 2, zc BK341 3, zc BK342 0, zc BK342 1, zc BK342 2, zc BK342 3⟩ (fun hHeld => ?_)
               clear hK K
               refine norm_ (a' := ?_) ?_ ?_
               rotate_left
               ·
                show Act.put _ (some 11) _ = _
                simp only [Act.put, List.setIfInBounds_toArray, List.set_cons_zero, List.set_cons_succ, i64_w, i32_w]; rfl
               exact norm_ zq4 (hJ4_11 (_, _) _ ⟨hHeld, (by (with_reducible repeat (first | apply Kd.R_alloc | apply Kd.R_drewN | apply Kd.R_drew)); exact Kd.R_mono HO346.out (fun _ hk => hk.2)), (by (with_reducible repeat (first | apply Kd.R_alloc | apply Kd.R_drewN | apply Kd.R_drew)); exact Kd.R_mono HO353.out (fun _ hk => hk.2)), (zq1 BK341), (zq1 BK342), (zq1 BK343), (z53_1 HB)⟩)
              ·
               refine box_step ?hg (N := 6) ?hd (cs := #[.int .i64 0, .int .i64 0, .int .i64 0, .int .i64 0]) (t := 29) ?hr ?_; (case hd => rfl); (case hg => rfl); (case hr => first | (go_simp; done) | (go_simp; rfl))
               intro gb358 hg w40 hbox hb
               have n0_ := Aside0.mk (Kd.R_below (zq3 HO353) hb)
               have n1_ := Aside0.mk (zbb BK341 hb)
               have n2_ := Aside0.mk (zbb BK342 hb)
               have n3_ := Aside0.mk (zbb BK343 hb)
               have n4_ := Aside0.mk (below_step (z53_1 HB) hb)
               have BK358 := Aside0.mk (hbox)
               have GW358 := Aside0.mk ((by rw [hg]; exact (below_size (z53_1 HB)) : w.heap.size ≤ gb358))
               have GE358 := Aside0.mk ((by rw [hg]; exact (below_size (z53_1 HB)) : w.heap.size ≤ gb358))
               have NB341_358 := Aside0.mk (zlt BK341 hg)
               have NB358_341 := Aside0.mk (zgt BK341 hg)
               have NB342_358 := Aside0.mk (zlt BK342 hg)
               have NB358_342 := Aside0.mk (zgt BK342 hg)
               have NB343_358 := Aside0.mk (zlt BK343 hg)
               have NB358_343 := Aside0.mk (zgt BK343 hg)
               clear HO353 BK341 BK342 BK343 HB
               have HO353 := n0_; have BK341 := n1_; have BK342 := n2_; have BK343 := n3_; have HB := n4_
               clear n0_ n1_ n2_ n3_ n4_ hb hbox hg
               refine hK.out _ _ ⟨zc BK341 0, zc BK341 1, zc BK341 2, zc BK341 3, zc BK342 0, zc BK342 1, zc BK342 2, zc BK342 3⟩ (fun hHeld => ?_)
               clear hK K
               refine norm_ (a' := ?_) ?_ ?_
               rotate_left
               ·
                show Act.put _ (some 6) _ = _
                simp only [Act.put, List.setIfInBounds_toArray, List.set_cons_zero, List.set_cons_succ, i64_w, i32_w]; rfl
               exact norm_ zq4 (hJ11_15 (_, _) _ ⟨hHeld, (zq3 HO353), (zq1 BK341), (zq1 BK342), (zq1 BK343), (zq1 BK358), GW358.out, GE358.out, NB341_358.out, NB358_341.out, NB342_358.out, NB358_342.out, NB343_358.out, NB358_343.out, (z53_1 HB)⟩)
            ·
             rintro v345 w39 ⟨hS_, h0_, h1_, h2_, h3_, h4_⟩
             have HO346 : Aside0 (Kd.R k27 27 w39 w.heap.size (fun _ => True) v345 y344) := ⟨h0_⟩
             have n1_ : Aside0 (w39.heap[gb341]? = some (.cells #[.int .i64 a0_0, .int .i64 a0_1, .int .i64 a0_2, .int .i64 a0_3] 29 (0, 0))) := ⟨h1_⟩
             have n2_ : Aside0 (w39.heap[gb342]? = some (.cells #[.int .i64 a1_0, .int .i64 a1_1, .int .i64 a1_2, .int .i64 a1_3] 29 (0, 0))) := ⟨h2_⟩
             have n3_ : Aside0 (w39.heap[gb343]? = some (.cells #[.int .i64 0, .int .i64 0, .int .i64 0, .int .i64 0] 29 (0, 0))) := ⟨h3_⟩
             have n4_ : Aside0 (Below w.heap.size w w39) := ⟨h4_⟩
             clear BK341 BK342 BK343 HB h0_ h1_ h2_ h3_ h4_
             have BK341 := n1_; have BK342 := n2_; have BK343 := n3_; have HB := n4_
             clear n1_ n2_ n3_ n4_
             have hHeld : w39.cell? ⟨gb341, 0, none⟩ = some (.int .i64 a0_0) ∧ w39.cell? ⟨gb341, 1, none⟩ = some (.int .i64 a0_1) ∧ w39.cell? ⟨gb341, 2, none⟩ = some (.int .i64 a0_2) ∧ w39.cell? ⟨gb341, 3, none⟩ = some (.int .i64 a0_3) ∧ w39.cell? ⟨gb342, 0, none⟩ = some (.int .i64 a1_0) ∧ w39.cell? ⟨gb342, 1, none⟩ = some (.int .i64 a1_1) ∧ w39.cell? ⟨gb342, 2, none⟩ = some (.int .i64 a1_2) ∧ w39.cell? ⟨gb342, 3, none⟩ = some (.int .i64 a1_3) := hS_
             obtain ⟨Ao40, co40, eo40⟩ := Kd.R_slice HO346.out
             (first | subst eo40 | (injection eo40 with f1_ f2_ f3_; have f4_ := f1_.symm; have f5_ := f3_.symm; clear f1_ f2_ f3_; subst f4_; subst f5_))
             refine norm_ (a' := ?_) ?_ ?_
             rotate_left
             ·
              simp only [putAll, Act.put, List.setIfInBounds_toArray, List.set_cons_zero, List.set_cons_succ]
              rfl
             refine three_ (i := 5) (j := 11) (k := 15) (Ni := some 12) (Nj := some 18) (Nk := some 6) #[true, true, true, true, true, true, false, true, true, true, true, false, false, false, false, false, false] #[true, true, true, true, true, false, false, true, true, true, true, true, false, false, false, false, false] #[true, true, true, true, true, false, false, true, true, true, true, false, false, false, false, true, false] rfl rfl rfl rfl rfl rfl (three_of HT_.out (by kernel_rfl)) (by decide) (by decide) (by decide) (fun K hK => ?_) (fun K hK => ?_) (fun K hK => ?_)
             ·
              refine goes_ Try.func82 (by kernel_rfl) rfl #[.slice Ao40 y344.length co40] (by rfl) rfl rfl (by (try simp only [List.map_toArray, List.map_cons, List.map_nil]); first | done | rfl | (simp only [List.length_drop, List.length_take]; rfl)) ?_
              with_reducible refine (spec_ivEnds.calls k _ _ y344 t347 t348 t349 t350 _ ?side1 ?side2 A3.out).mono ?_
              (case side1 => repeat (first | exact (Kd.R_reads' HO346.out).2.2 | (with_reducible refine Kd.C_alloc ?_ _) | (with_reducible refine Kd.C_drewN ?_ _) | (with_reducible refine Kd.C_drew ?_)))
              (case side2 => exact (Kd.R_reads' HO346.out).2.1)
              rintro e w41 ⟨rfl, hb⟩
              refine ⟨_, rfl, ?_⟩
              have n0_ := Aside0.mk (Kd.R_below (zq3 HO346) hb)
              have n1_ := Aside0.mk (zbb BK341 hb)
              have n2_ := Aside0.mk (zbb BK342 hb)
              have n3_ := Aside0.mk (zbb BK343 hb)
              have n4_ := Aside0.mk (below_step (z53_1 HB) hb)
              clear HO346 BK341 BK342 BK343 HB
              have HO346 := n0_; have BK341 := n1_; have BK342 := n2_; have BK343 := n3_; have HB := n4_
              clear n0_ n1_ n2_ n3_ n4_
              (try clear hb)
              (try clear hb2)
              (try clear hk)
              (try clear hi)
              refine hK.out _ _ ⟨zc BK341 0, zc BK341 1, zc BK341 2, zc BK341 3, zc BK342 0, zc BK342 1, zc BK342 2, zc BK342 3⟩ (fun hHeld => ?_)
              clear hK K
              refine norm_ (a' := ?_) ?_ ?_
              rotate_left
              ·
               show Act.put _ (some 12) _ = _
               simp only [Act.put, List.setIfInBounds_toArray, List.set_cons_zero, List.set_cons_succ, i64_w, i32_w]; rfl
              refine pure_ (i := 6) (N := some 13) (v := ?_) (a' := ?_) #[true, true, true, true, true, true, true, true, true, true, true, false, false, false, false, false, false] rfl rfl (any_of HT_.out (by kernel_rfl)) (fun _ _ _ h => h) (Or.inl ⟨by rfl, ?_⟩) ?_ ?_
              rotate_left
              ·
               intro w'
               first | (go_simp; with_reducible rfl) | (go_simp; simp only [Instr.field]; go_simp; simp only [asAgg]; go_simp; rfl)
              rotate_left
              ·
               simp only [Act.put, List.setIfInBounds_toArray, List.set_cons_zero, List.set_cons_succ, i64_w, i32_w]
               rfl
              exact norm_ zq4 (hJ4_5 (_) _ ⟨hHeld, (zq3 HO346), (zq1 BK341), (zq1 BK342), (zq1 BK343), (z53_1 HB)⟩)
             ·
              refine Kd.R_lit_step k27 _ 27 ?hg (N := 18) ?hd (xs := ([(⟨a0_2, a0_3⟩ : S27), (⟨a1_2, a1_3⟩ : S27)] : List (S27))) (inner := [.int .i64 a0_2, .int .i64 a0_3, .int .i64 a1_2, .int .i64 a1_3]) (ok := fun _ => True) (okp := fun _ => True) ?hr ?hp (fun _ hk => hk) trivial (Below.refl _ _) (Nat.le_refl _) (by simp) ?_; (case hd => rfl); (case hg => rfl); (case hr => first | (go_simp; done) | (go_simp; rfl)); (case hp => exact (Reps.c2 (show Kd.M k27 _ _ _ (⟨a0_2, a0_3⟩ : S27) [.int .i64 a0_2, .int .i64 a0_3] from (k27_mkM _ _ _ (⟨a0_2, a0_3⟩ : S27) )) (Reps.c2 (show Kd.M k27 _ _ _ (⟨a1_2, a1_3⟩ : S27) [.int .i64 a1_2, .int .i64 a1_3] from (k27_mkM _ _ _ (⟨a1_2, a1_3⟩ : S27) )) (Reps.none _ _))))
              intro v352 w40 ho41 hb hg_ hnew_
              clear hg_ hnew_
              (first | rw [← Ny351.out] at ho41 | (simp only [Int.reduceToNat] at ho41; rw [← Ny351.out] at ho41))
              have n0_ := Aside0.mk (Kd.R_elder' (zq3 HO346) (Kd.R_base ho41) hb)
              have HO353 := Aside0.mk (Kd.R_lower (Kd.R_new' ho41 (Kd.R_lt (zq3 HO346))) (below_size (z53_1 HB)))
              have n2_ := Aside0.mk (zbb BK341 hb)
              have n3_ := Aside0.mk (zbb BK342 hb)
              have n4_ := Aside0.mk (zbb BK343 hb)
              have n5_ := Aside0.mk (below_step (z53_1 HB) hb)
              clear HO346 BK341 BK342 BK343 HB
              have HO346 := n0_; have BK341 := n2_; have BK342 := n3_; have BK343 := n4_; have HB := n5_
              clear n0_ n2_ n3_ n4_ n5_ hb ho41
              refine hK.out _ _ ⟨zc BK341 0, zc BK341 1, zc BK341 2, zc BK341 3, zc BK342 0, zc BK342 1, zc BK342 2, zc BK342 3⟩ (fun hHeld => ?_)
              clear hK K
              refine norm_ (a' := ?_) ?_ ?_
              rotate_left
              ·
               show Act.put _ (some 18) _ = _
               simp only [Act.put, List.setIfInBounds_toArray, List.set_cons_zero, List.set_cons_succ, i64_w, i32_w]; rfl
              exact norm_ zq4 (hJ4_11 (_, _) _ ⟨hHeld, (by (with_reducible repeat (first | apply Kd.R_alloc | apply Kd.R_drewN | apply Kd.R_drew)); exact Kd.R_mono HO346.out (fun _ hk => hk.2)), (by (with_reducible repeat (first | apply Kd.R_alloc | apply Kd.R_drewN | apply Kd.R_drew)); exact Kd.R_mono HO353.out (fun _ hk => hk.2)), (zq1 BK341), (zq1 BK342), (zq1 BK343), (z53_1 HB)⟩)
             ·
              refine box_step ?hg (N := 6) ?hd (cs := #[.int .i64 0, .int .i64 0, .int .i64 0, .int .i64 0]) (t := 29) ?hr ?_; (case hd => rfl); (case hg => rfl); (case hr => first | (go_simp; done) | (go_simp; rfl))
              intro gb358 hg w40 hbox hb
              have n0_ := Aside0.mk (Kd.R_below (zq3 HO346) hb)
              have n1_ := Aside0.mk (zbb BK341 hb)
              have n2_ := Aside0.mk (zbb BK342 hb)
              have n3_ := Aside0.mk (zbb BK343 hb)
              have n4_ := Aside0.mk (below_step (z53_1 HB) hb)
              have BK358 := Aside0.mk (hbox)
              have GW358 := Aside0.mk ((by rw [hg]; exact (below_size (z53_1 HB)) : w.heap.size ≤ gb358))
              have GE358 := Aside0.mk ((by rw [hg]; exact (below_size (z53_1 HB)) : w.heap.size ≤ gb358))
              have NB341_358 := Aside0.mk (zlt BK341 hg)
              have NB358_341 := Aside0.mk (zgt BK341 hg)
              have NB342_358 := Aside0.mk (zlt BK342 hg)
              have NB358_342 := Aside0.mk (zgt BK342 hg)
              have NB343_358 := Aside0.mk (zlt BK343 hg)
              have NB358_343 := Aside0.mk (zgt BK343 hg)
              clear HO346 BK341 BK342 BK343 HB
              have HO346 := n0_; have BK341 := n1_; have BK342 := n2_; have BK343 := n3_; have HB := n4_
              clear n0_ n1_ n2_ n3_ n4_ hb hbox hg
              refine hK.out _ _ ⟨zc BK341 0, zc BK341 1, zc BK341 2, zc BK341 3, zc BK342 0, zc BK342 1, zc BK342 2, zc BK342 3⟩ (fun hHeld => ?_)
              clear hK K
              refine norm_ (a' := ?_) ?_ ?_
              rotate_left
              ·
               show Act.put _ (some 6) _ = _
               simp only [Act.put, List.setIfInBounds_toArray, List.set_cons_zero, List.set_cons_succ, i64_w, i32_w]; rfl
              exact norm_ zq4 (hJ4_15 (_, _) _ ⟨hHeld, (zq3 HO346), (zq1 BK341), (zq1 BK342), (zq1 BK343), (zq1 BK358), GW358.out, GE358.out, NB341_358.out, NB358_341.out, NB342_358.out, NB358_342.out, NB343_358.out, NB358_343.out, (z53_1 HB)⟩)
           ·
            rintro ⟨v352, gb358⟩ w40 ⟨hS_, h0_, h1_, h2_, h3_, h4_, h5_, h6_, h7_, h8_, h9_, h10_, h11_, h12_, h13_⟩
            have HO353 : Aside0 (Kd.R k27 27 w40 w.heap.size (fun _ => True) v352 y351) := ⟨h0_⟩
            have n1_ : Aside0 (w40.heap[gb341]? = some (.cells #[.int .i64 a0_0, .int .i64 a0_1, .int .i64 a0_2, .int .i64 a0_3] 29 (0, 0))) := ⟨h1_⟩
            have n2_ : Aside0 (w40.heap[gb342]? = some (.cells #[.int .i64 a1_0, .int .i64 a1_1, .int .i64 a1_2, .int .i64 a1_3] 29 (0, 0))) := ⟨h2_⟩
            have n3_ : Aside0 (w40.heap[gb343]? = some (.cells #[.int .i64 0, .int .i64 0, .int .i64 0, .int .i64 0] 29 (0, 0))) := ⟨h3_⟩
            have BK358 : Aside0 (w40.heap[gb358]? = some (.cells #[.int .i64 0, .int .i64 0, .int .i64 0, .int .i64 0] 29 (0, 0))) := ⟨h4_⟩
            have GW358 : Aside0 (w.heap.size ≤ gb358) := ⟨h5_⟩
            have GE358 : Aside0 (w.heap.size ≤ gb358) := ⟨h6_⟩
            have NB341_358 : Aside0 (gb341 ≠ gb358) := ⟨h7_⟩
            have NB358_341 : Aside0 (gb358 ≠ gb341) := ⟨h8_⟩
            have NB342_358 : Aside0 (gb342 ≠ gb358) := ⟨h9_⟩
            have NB358_342 : Aside0 (gb358 ≠ gb342) := ⟨h10_⟩
            have NB343_358 : Aside0 (gb343 ≠ gb358) := ⟨h11_⟩
            have NB358_343 : Aside0 (gb358 ≠ gb343) := ⟨h12_⟩
            have n13_ : Aside0 (Below w.heap.size w w40) := ⟨h13_⟩
            clear BK341 BK342 BK343 HB h0_ h1_ h2_ h3_ h4_ h5_ h6_ h7_ h8_ h9_ h10_ h11_ h12_ h13_
            have BK341 := n1_; have BK342 := n2_; have BK343 := n3_; have HB := n13_
            clear n1_ n2_ n3_ n13_
            have hHeld : w40.cell? ⟨gb341, 0, none⟩ = some (.int .i64 a0_0) ∧ w40.cell? ⟨gb341, 1, none⟩ = some (.int .i64 a0_1) ∧ w40.cell? ⟨gb341, 2, none⟩ = some (.int .i64 a0_2) ∧ w40.cell? ⟨gb341, 3, none⟩ = some (.int .i64 a0_3) ∧ w40.cell? ⟨gb342, 0, none⟩ = some (.int .i64 a1_0) ∧ w40.cell? ⟨gb342, 1, none⟩ = some (.int .i64 a1_1) ∧ w40.cell? ⟨gb342, 2, none⟩ = some (.int .i64 a1_2) ∧ w40.cell? ⟨gb342, 3, none⟩ = some (.int .i64 a1_3) := hS_
            refine norm_ (a' := ?_) ?_ ?_
            rotate_left
            ·
             simp only [putAll, Act.put, List.setIfInBounds_toArray, List.set_cons_zero, List.set_cons_succ]
             rfl
            refine one_ (i := 4) (N := some 11) #[true, true, true, true, true, false, false, true, true, true, true, true, false, false, false, true, false] rfl rfl (one_of HT_.out (by kernel_rfl)) (by decide) (fun K hK => ?_)
            refine Kd.R_lit_step k27 _ 27 ?hg (N := 11) ?hd (xs := ([(⟨a0_0, a0_1⟩ : S27), (⟨a1_0, a1_1⟩ : S27)] : List (S27))) (inner := [.int .i64 a0_0, .int .i64 a0_1, .int .i64 a1_0, .int .i64 a1_1]) (ok := fun _ => True) (okp := fun _ => True) ?hr ?hp (fun _ hk => hk) trivial (Below.refl _ _) (Nat.le_refl _) (by simp) ?_; (case hd => rfl); (case hg => rfl); (case hr => first | (go_simp; done) | (go_simp; rfl)); (case hp => exact (Reps.c2 (show Kd.M k27 _ _ _ (⟨a0_0, a0_1⟩ : S27) [.int .i64 a0_0, .int .i64 a0_1] from (k27_mkM _ _ _ (⟨a0_0, a0_1⟩ : S27) )) (Reps.c2 (show Kd.M k27 _ _ _ (⟨a1_0, a1_1⟩ : S27) [.int .i64 a1_0, .int .i64 a1_1] from (k27_mkM _ _ _ (⟨a1_0, a1_1⟩ : S27) )) (Reps.none _ _))))
            intro v345 w41 ho42 hb hg_ hnew_
            clear hg_ hnew_
            (first | rw [← Ny344.out] at ho42 | (simp only [Int.reduceToNat] at ho42; rw [← Ny344.out] at ho42))
            have n0_ := Aside0.mk (Kd.R_elder' (zq3 HO353) (Kd.R_base ho42) hb)
            have HO346 := Aside0.mk (Kd.R_lower (Kd.R_new' ho42 (Kd.R_lt (zq3 HO353))) (below_size (z53_1 HB)))
            have n2_ := Aside0.mk (zbb BK341 hb)
            have n3_ := Aside0.mk (zbb BK342 hb)
            have n4_ := Aside0.mk (zbb BK343 hb)
            have n5_ := Aside0.mk (zbb BK358 hb)
            have n6_ := Aside0.mk (below_step (z53_1 HB) hb)
            clear HO353 BK341 BK342 BK343 BK358 HB
            have HO353 := n0_; have BK341 := n2_; have BK342 := n3_; have BK343 := n4_; have BK358 := n5_; have HB := n6_
            clear n0_ n2_ n3_ n4_ n5_ n6_ hb ho42
            refine hK.out _ _ ⟨zc BK341 0, zc BK341 1, zc BK341 2, zc BK341 3, zc BK342 0, zc BK342 1, zc BK342 2, zc BK342 3⟩ (fun hHeld => ?_)
            clear hK K
            refine norm_ (a' := ?_) ?_ ?_
            rotate_left
            ·
             show Act.put _ (some 11) _ = _
             simp only [Act.put, List.setIfInBounds_toArray, List.set_cons_zero, List.set_cons_succ, i64_w, i32_w]; rfl
            exact norm_ zq4 (hJ4_11_15 (_, _, _) _ ⟨hHeld, (by (with_reducible repeat (first | apply Kd.R_alloc | apply Kd.R_drewN | apply Kd.R_drew)); exact Kd.R_mono HO346.out (fun _ hk => hk.2)), (by (with_reducible repeat (first | apply Kd.R_alloc | apply Kd.R_drewN | apply Kd.R_drew)); exact Kd.R_mono HO353.out (fun _ hk => hk.2)), (zq1 BK341), (zq1 BK342), (zq1 BK343), (zq1 BK358), GW358.out, GE358.out, NB341_358.out, NB358_341.out, NB342_358.out, NB358_342.out, NB343_358.out, NB358_343.out, (z53_1 HB)⟩)
          ·
           rintro ⟨v345, gb358⟩ w40 ⟨hS_, h0_, h1_, h2_, h3_, h4_, h5_, h6_, h7_, h8_, h9_, h10_, h11_, h12_, h13_⟩
           have HO346 : Aside0 (Kd.R k27 27 w40 w.heap.size (fun _ => True) v345 y344) := ⟨h0_⟩
           have n1_ : Aside0 (w40.heap[gb341]? = some (.cells #[.int .i64 a0_0, .int .i64 a0_1, .int .i64 a0_2, .int .i64 a0_3] 29 (0, 0))) := ⟨h1_⟩
           have n2_ : Aside0 (w40.heap[gb342]? = some (.cells #[.int .i64 a1_0, .int .i64 a1_1, .int .i64 a1_2, .int .i64 a1_3] 29 (0, 0))) := ⟨h2_⟩
           have n3_ : Aside0 (w40.heap[gb343]? = some (.cells #[.int .i64 0, .int .i64 0, .int .i64 0, .int .i64 0] 29 (0, 0))) := ⟨h3_⟩
           have BK358 : Aside0 (w40.heap[gb358]? = some (.cells #[.int .i64 0, .int .i64 0, .int .i64 0, .int .i64 0] 29 (0, 0))) := ⟨h4_⟩
           have GW358 : Aside0 (w.heap.size ≤ gb358) := ⟨h5_⟩
           have GE358 : Aside0 (w.heap.size ≤ gb358) := ⟨h6_⟩
           have NB341_358 : Aside0 (gb341 ≠ gb358) := ⟨h7_⟩
           have NB358_341 : Aside0 (gb358 ≠ gb341) := ⟨h8_⟩
           have NB342_358 : Aside0 (gb342 ≠ gb358) := ⟨h9_⟩
           have NB358_342 : Aside0 (gb358 ≠ gb342) := ⟨h10_⟩
           have NB343_358 : Aside0 (gb343 ≠ gb358) := ⟨h11_⟩
           have NB358_343 : Aside0 (gb358 ≠ gb343) := ⟨h12_⟩
           have n13_ : Aside0 (Below w.heap.size w w40) := ⟨h13_⟩
           clear BK341 BK342 BK343 HB h0_ h1_ h2_ h3_ h4_ h5_ h6_ h7_ h8_ h9_ h10_ h11_ h12_ h13_
           have BK341 := n1_; have BK342 := n2_; have BK343 := n3_; have HB := n13_
           clear n1_ n2_ n3_ n13_
           have hHeld : w40.cell? ⟨gb341, 0, none⟩ = some (.int .i64 a0_0) ∧ w40.cell? ⟨gb341, 1, none⟩ = some (.int .i64 a0_1) ∧ w40.cell? ⟨gb341, 2, none⟩ = some (.int .i64 a0_2) ∧ w40.cell? ⟨gb341, 3, none⟩ = some (.int .i64 a0_3) ∧ w40.cell? ⟨gb342, 0, none⟩ = some (.int .i64 a1_0) ∧ w40.cell? ⟨gb342, 1, none⟩ = some (.int .i64 a1_1) ∧ w40.cell? ⟨gb342, 2, none⟩ = some (.int .i64 a1_2) ∧ w40.cell? ⟨gb342, 3, none⟩ = some (.int .i64 a1_3) := hS_
           obtain ⟨Ao41, co41, eo41⟩ := Kd.R_slice HO346.out
           (first | subst eo41 | (injection eo41 with f1_ f2_ f3_; have f4_ := f1_.symm; have f5_ := f3_.symm; clear f1_ f2_ f3_; subst f4_; subst f5_))
           refine norm_ (a' := ?_) ?_ ?_
           rotate_left
           ·
            simp only [putAll, Act.put, List.setIfInBounds_toArray, List.set_cons_zero, List.set_cons_succ]
            rfl
           refine two_ (i := 5) (j := 11) (Ni := some 12) (Nj := some 18) #[true, true, true, true, true, true, false, true, true, true, true, false, false, false, false, true, false] #[true, true, true, true, true, false, false, true, true, true, true, true, false, false, false, true, false] rfl rfl rfl rfl (two_of HT_.out (by kernel_rfl)) (by decide) (by decide) (fun K hK => ?_) (fun K hK => ?_)
           ·
            refine goes_ Try.func82 (by kernel_rfl) rfl #[.slice Ao41 y344.length co41] (by rfl) rfl rfl (by (try simp only [List.map_toArray, List.map_cons, List.map_nil]); first | done | rfl | (simp only [List.length_drop, List.length_take]; rfl)) ?_
            with_reducible refine (spec_ivEnds.calls k _ _ y344 t347 t348 t349 t350 _ ?side1 ?side2 A3.out).mono ?_
            (case side1 => repeat (first | exact (Kd.R_reads' HO346.out).2.2 | (with_reducible refine Kd.C_alloc ?_ _) | (with_reducible refine Kd.C_drewN ?_ _) | (with_reducible refine Kd.C_drew ?_)))
            (case side2 => exact (Kd.R_reads' HO346.out).2.1)
            rintro e w42 ⟨rfl, hb⟩
            refine ⟨_, rfl, ?_⟩
            have n0_ := Aside0.mk (Kd.R_below (zq3 HO346) hb)
            have n1_ := Aside0.mk (zbb BK341 hb)
            have n2_ := Aside0.mk (zbb BK342 hb)
            have n3_ := Aside0.mk (zbb BK343 hb)
            have n4_ := Aside0.mk (zbb BK358 hb)
            have n5_ := Aside0.mk (below_step (z53_1 HB) hb)
            clear HO346 BK341 BK342 BK343 BK358 HB
            have HO346 := n0_; have BK341 := n1_; have BK342 := n2_; have BK343 := n3_; have BK358 := n4_; have HB := n5_
            clear n0_ n1_ n2_ n3_ n4_ n5_
            (try clear hb)
            (try clear hb2)
            (try clear hk)
            (try clear hi)
            refine hK.out _ _ ⟨zc BK341 0, zc BK341 1, zc BK341 2, zc BK341 3, zc BK342 0, zc BK342 1, zc BK342 2, zc BK342 3⟩ (fun hHeld => ?_)
            clear hK K
            refine norm_ (a' := ?_) ?_ ?_
            rotate_left
            ·
             show Act.put _ (some 12) _ = _
             simp only [Act.put, List.setIfInBounds_toArray, List.set_cons_zero, List.set_cons_succ, i64_w, i32_w]; rfl
            refine pure_ (i := 6) (N := some 13) (v := ?_) (a' := ?_) #[true, true, true, true, true, true, true, true, true, true, true, false, false, false, false, true, false] rfl rfl (any_of HT_.out (by kernel_rfl)) (fun _ _ _ h => h) (Or.inl ⟨by rfl, ?_⟩) ?_ ?_
            rotate_left
            ·
             intro w'
             first | (go_simp; with_reducible rfl) | (go_simp; simp only [Instr.field]; go_simp; simp only [asAgg]; go_simp; rfl)
            rotate_left
            ·
             simp only [Act.put, List.setIfInBounds_toArray, List.set_cons_zero, List.set_cons_succ, i64_w, i32_w]
             rfl
            exact norm_ zq4 (hJ4_5_15 (_, _) _ ⟨hHeld, (zq3 HO346), (zq1 BK341), (zq1 BK342), (zq1 BK343), (zq1 BK358), GW358.out, GE358.out, NB341_358.out, NB358_341.out, NB342_358.out, NB358_342.out, NB343_358.out, NB358_343.out, (z53_1 HB)⟩)
           ·
            refine Kd.R_lit_step k27 _ 27 ?hg (N := 18) ?hd (xs := ([(⟨a0_2, a0_3⟩ : S27), (⟨a1_2, a1_3⟩ : S27)] : List (S27))) (inner := [.int .i64 a0_2, .int .i64 a0_3, .int .i64 a1_2, .int .i64 a1_3]) (ok := fun _ => True) (okp := fun _ => True) ?hr ?hp (fun _ hk => hk) trivial (Below.refl _ _) (Nat.le_refl _) (by simp) ?_; (case hd => rfl); (case hg => rfl); (case hr => first | (go_simp; done) | (go_simp; rfl)); (case hp => exact (Reps.c2 (show Kd.M k27 _ _ _ (⟨a0_2, a0_3⟩ : S27) [.int .i64 a0_2, .int .i64 a0_3] from (k27_mkM _ _ _ (⟨a0_2, a0_3⟩ : S27) )) (Reps.c2 (show Kd.M k27 _ _ _ (⟨a1_2, a1_3⟩ : S27) [.int .i64 a1_2, .int .i64 a1_3] from (k27_mkM _ _ _ (⟨a1_2, a1_3⟩ : S27) )) (Reps.none _ _))))
            intro v352 w41 ho42 hb hg_ hnew_
            clear hg_ hnew_
            (first | rw [← Ny351.out] at ho42 | (simp only [Int.reduceToNat] at ho42; rw [← Ny351.out] at ho42))
            have n0_ := Aside0.mk (Kd.R_elder' (zq3 HO346) (Kd.R_base ho42) hb)
            have HO353 := Aside0.mk (Kd.R_lower (Kd.R_new' ho42 (Kd.R_lt (zq3 HO346))) (below_size (z53_1 HB)))
            have n2_ := Aside0.mk (zbb BK341 hb)
            have n3_ := Aside0.mk (zbb BK342 hb)
            have n4_ := Aside0.mk (zbb BK343 hb)
            have n5_ := Aside0.mk (zbb BK358 hb)
            have n6_ := Aside0.mk (below_step (z53_1 HB) hb)
            clear HO346 BK341 BK342 BK343 BK358 HB
            have HO346 := n0_; have BK341 := n2_; have BK342 := n3_; have BK343 := n4_; have BK358 := n5_; have HB := n6_
            clear n0_ n2_ n3_ n4_ n5_ n6_ hb ho42
            refine hK.out _ _ ⟨zc BK341 0, zc BK341 1, zc BK341 2, zc BK341 3, zc BK342 0, zc BK342 1, zc BK342 2, zc BK342 3⟩ (fun hHeld => ?_)
            clear hK K
            refine norm_ (a' := ?_) ?_ ?_
            rotate_left
            ·
             show Act.put _ (some 18) _ = _
             simp only [Act.put, List.setIfInBounds_toArray, List.set_cons_zero, List.set_cons_succ, i64_w, i32_w]; rfl
            exact norm_ zq4 (hJ4_11_15 (_, _, _) _ ⟨hHeld, (by (with_reducible repeat (first | apply Kd.R_alloc | apply Kd.R_drewN | apply Kd.R_drew)); exact Kd.R_mono HO346.out (fun _ hk => hk.2)), (by (with_reducible repeat (first | apply Kd.R_alloc | apply Kd.R_drewN | apply Kd.R_drew)); exact Kd.R_mono HO353.out (fun _ hk => hk.2)), (zq1 BK341), (zq1 BK342), (zq1 BK343), (zq1 BK358), GW358.out, GE358.out, NB341_358.out, NB358_341.out, NB342_358.out, NB358_342.out, NB343_358.out, NB358_343.out, (z53_1 HB)⟩)
         ·
          rintro ⟨v345, v352⟩ w41 ⟨hS_, h0_, h1_, h2_, h3_, h4_, h5_⟩
          have HO346 : Aside0 (Kd.R k27 27 w41 w.heap.size (fun k_ => some k_ ≠ (v352 : Value).ownBlock) v345 y344) := ⟨h0_⟩
          have HO353 : Aside0 (Kd.R k27 27 w41 w.heap.size (fun k_ => some k_ ≠ (v345 : Value).ownBlock) v352 y351) := ⟨h1_⟩
          have n2_ : Aside0 (w41.heap[gb341]? = some (.cells #[.int .i64 a0_0, .int .i64 a0_1, .int .i64 a0_2, .int .i64 a0_3] 29 (0, 0))) := ⟨h2_⟩
          have n3_ : Aside0 (w41.heap[gb342]? = some (.cells #[.int .i64 a1_0, .int .i64 a1_1, .int .i64 a1_2, .int .i64 a1_3] 29 (0, 0))) := ⟨h3_⟩
          have n4_ : Aside0 (w41.heap[gb343]? = some (.cells #[.int .i64 0, .int .i64 0, .int .i64 0, .int .i64 0] 29 (0, 0))) := ⟨h4_⟩
          have n5_ : Aside0 (Below w.heap.size w w41) := ⟨h5_⟩
          clear BK341 BK342 BK343 HB h0_ h1_ h2_ h3_ h4_ h5_
          have BK341 := n2_; have BK342 := n3_; have BK343 := n4_; have HB := n5_
          clear n2_ n3_ n4_ n5_
          have hHeld : w41.cell? ⟨gb341, 0, none⟩ = some (.int .i64 a0_0) ∧ w41.cell? ⟨gb341, 1, none⟩ = some (.int .i64 a0_1) ∧ w41.cell? ⟨gb341, 2, none⟩ = some (.int .i64 a0_2) ∧ w41.cell? ⟨gb341, 3, none⟩ = some (.int .i64 a0_3) ∧ w41.cell? ⟨gb342, 0, none⟩ = some (.int .i64 a1_0) ∧ w41.cell? ⟨gb342, 1, none⟩ = some (.int .i64 a1_1) ∧ w41.cell? ⟨gb342, 2, none⟩ = some (.int .i64 a1_2) ∧ w41.cell? ⟨gb342, 3, none⟩ = some (.int .i64 a1_3) := hS_
          obtain ⟨Ao42, co42, eo42⟩ := Kd.R_slice HO346.out
          (first | subst eo42 | (injection eo42 with f1_ f2_ f3_; have f4_ := f1_.symm; have f5_ := f3_.symm; clear f1_ f2_ f3_; subst f4_; subst f5_))
          refine norm_ (a' := ?_) ?_ ?_
          rotate_left
          ·
           simp only [putAll, Act.put, List.setIfInBounds_toArray, List.set_cons_zero, List.set_cons_succ]
           rfl
          refine two_ (i := 5) (j := 15) (Ni := some 12) (Nj := some 6) #[true, true, true, true, true, true, false, true, true, true, true, true, false, false, false, false, false] #[true, true, true, true, true, false, false, true, true, true, true, true, false, false, false, true, false] rfl rfl rfl rfl (two_of HT_.out (by kernel_rfl)) (by decide) (by decide) (fun K hK => ?_) (fun K hK => ?_)
          ·
           refine goes_ Try.func82 (by kernel_rfl) rfl #[.slice Ao42 y344.length co42] (by rfl) rfl rfl (by (try simp only [List.map_toArray, List.map_cons, List.map_nil]); first | done | rfl | (simp only [List.length_drop, List.length_take]; rfl)) ?_
           with_reducible refine (spec_ivEnds.calls k _ _ y344 t347 t348 t349 t350 _ ?side1 ?side2 A3.out).mono ?_
           (case side1 => repeat (first | exact (Kd.R_reads' HO346.out).2.2 | (with_reducible refine Kd.C_alloc ?_ _) | (with_reducible refine Kd.C_drewN ?_ _) | (with_reducible refine Kd.C_drew ?_)))
           (case side2 => exact (Kd.R_reads' HO346.out).2.1)
           rintro e w43 ⟨rfl, hb⟩
           refine ⟨_, rfl, ?_⟩
           have n0_ := Aside0.mk (Kd.R_below (zq3 HO346) hb)
           have n1_ := Aside0.mk (Kd.R_below (zq3 HO353) hb)
           have n2_ := Aside0.mk (zbb BK341 hb)
           have n3_ := Aside0.mk (zbb BK342 hb)
           have n4_ := Aside0.mk (zbb BK343 hb)
           have n5_ := Aside0.mk (below_step (z53_1 HB) hb)
           clear HO346 HO353 BK341 BK342 BK343 HB
           have HO346 := n0_; have HO353 := n1_; have BK341 := n2_; have BK342 := n3_; have BK343 := n4_; have HB := n5_
           clear n0_ n1_ n2_ n3_ n4_ n5_
           (try clear hb)
           (try clear hb2)
           (try clear hk)
           (try clear hi)
           refine hK.out _ _ ⟨zc BK341 0, zc BK341 1, zc BK341 2, zc BK341 3, zc BK342 0, zc BK342 1, zc BK342 2, zc BK342 3⟩ (fun hHeld => ?_)
           clear hK K
           refine norm_ (a' := ?_) ?_ ?_
           rotate_left
           ·
            show Act.put _ (some 12) _ = _
            simp only [Act.put, List.setIfInBounds_toArray, List.set_cons_zero, List.set_cons_succ, i64_w, i32_w]; rfl
           refine pure_ (i := 6) (N := some 13) (v := ?_) (a' := ?_) #[true, true, true, true, true, true, true, true, true, true, true, true, false, false, false, false, false] rfl rfl (any_of HT_.out (by kernel_rfl)) (fun _ _ _ h => h) (Or.inl ⟨by rfl, ?_⟩) ?_ ?_
           rotate_left
           ·
            intro w'
            first | (go_simp; with_reducible rfl) | (go_simp; simp only [Instr.field]; go_simp; simp only [asAgg]; go_simp; rfl)
           rotate_left
           ·
            simp only [Act.put, List.setIfInBounds_toArray, List.set_cons_zero, List.set_cons_succ, i64_w, i32_w]
            rfl
           exact norm_ zq4 (hJ4_5_11 (_, _) _ ⟨hHeld, (zq3 HO346), (zq3 HO353), (zq1 BK341), (zq1 BK342), (zq1 BK343), (z53_1 HB)⟩)
          ·
           refine box_step ?hg (N := 6) ?hd (cs := #[.int .i64 0, .int .i64 0, .int .i64 0, .int .i64 0]) (t := 29) ?hr ?_; (case hd => rfl); (case hg => rfl); (case hr => first | (go_simp; done) | (go_simp; rfl))
           intro gb358 hg w42 hbox hb
           have n0_ := Aside0.mk (Kd.R_below (zq3 HO346) hb)
           have n1_ := Aside0.mk (Kd.R_below (zq3 HO353) hb)
           have n2_ := Aside0.mk (zbb BK341 hb)
           have n3_ := Aside0.mk (zbb BK342 hb)
           have n4_ := Aside0.mk (zbb BK343 hb)
           have n5_ := Aside0.mk (below_step (z53_1 HB) hb)
           have BK358 := Aside0.mk (hbox)
           have GW358 := Aside0.mk ((by rw [hg]; exact (below_size (z53_1 HB)) : w.heap.size ≤ gb358))
           have GE358 := Aside0.mk ((by rw [hg]; exact (below_size (z53_1 HB)) : w.heap.size ≤ gb358))
           have NB341_358 := Aside0.mk (zlt BK341 hg)
           have NB358_341 := Aside0.mk (zgt BK341 hg)
           have NB342_358 := Aside0.mk (zlt BK342 hg)
           have NB358_342 := Aside0.mk (zgt BK342 hg)
           have NB343_358 := Aside0.mk (zlt BK343 hg)
           have NB358_343 := Aside0.mk (zgt BK343 hg)
           clear HO346 HO353 BK341 BK342 BK343 HB
           have HO346 := n0_; have HO353 := n1_; have BK341 := n2_; have BK342 := n3_; have BK343 := n4_; have HB := n5_
           clear n0_ n1_ n2_ n3_ n4_ n5_ hb hbox hg
           refine hK.out _ _ ⟨zc BK341 0, zc BK341 1, zc BK341 2, zc BK341 3, zc BK342 0, zc BK342 1, zc BK342 2, zc BK342 3⟩ (fun hHeld => ?_)
           clear hK K
           refine norm_ (a' := ?_) ?_ ?_
           rotate_left
           ·
            show Act.put _ (some 6) _ = _
            simp only [Act.put, List.setIfInBounds_toArray, List.set_cons_zero, List.set_cons_succ, i64_w, i32_w]; rfl
           exact norm_ zq4 (hJ4_11_15 (_, _, _) _ ⟨hHeld, (zq3 HO346), (zq3 HO353), (zq1 BK341), (zq1 BK342), (zq1 BK343), (zq1 BK358), GW358.out, GE358.out, NB341_358.out, NB358_341.out, NB342_358.out, NB358_342.out, NB343_358.out, NB358_343.out, (z53_1 HB)⟩)
        ·
         rintro v345 w41 ⟨hS_, h0_, h1_, h2_, h3_, h4_⟩
         have HO346 : Aside0 (Kd.R k27 27 w41 w.heap.size (fun _ => True) v345 y344) := ⟨h0_⟩
         have n1_ : Aside0 (w41.heap[gb341]? = some (.cells #[.int .i64 a0_0, .int .i64 a0_1, .int .i64 a0_2, .int .i64 a0_3] 29 (0, 0))) := ⟨h1_⟩
         have n2_ : Aside0 (w41.heap[gb342]? = some (.cells #[.int .i64 a1_0, .int .i64 a1_1, .int .i64 a1_2, .int .i64 a1_3] 29 (0, 0))) := ⟨h2_⟩
         have n3_ : Aside0 (w41.heap[gb343]? = some (.cells #[.int .i64 0, .int .i64 0, .int .i64 0, .int .i64 0] 29 (0, 0))) := ⟨h3_⟩
         have n4_ : Aside0 (Below w.heap.size w w41) := ⟨h4_⟩
         clear BK341 BK342 BK343 HB h0_ h1_ h2_ h3_ h4_
         have BK341 := n1_; have BK342 := n2_; have BK343 := n3_; have HB := n4_
         clear n1_ n2_ n3_ n4_
         have hHeld : w41.cell? ⟨gb341, 0, none⟩ = some (.int .i64 a0_0) ∧ w41.cell? ⟨gb341, 1, none⟩ = some (.int .i64 a0_1) ∧ w41.cell? ⟨gb341, 2, none⟩ = some (.int .i64 a0_2) ∧ w41.cell? ⟨gb341, 3, none⟩ = some (.int .i64 a0_3) ∧ w41.cell? ⟨gb342, 0, none⟩ = some (.int .i64 a1_0) ∧ w41.cell? ⟨gb342, 1, none⟩ = some (.int .i64 a1_1) ∧ w41.cell? ⟨gb342, 2, none⟩ = some (.int .i64 a1_2) ∧ w41.cell? ⟨gb342, 3, none⟩ = some (.int .i64 a1_3) := hS_
         refine norm_ (a' := ?_) ?_ ?_
         rotate_left
         ·
          simp only [putAll, Act.put, List.setIfInBounds_toArray, List.set_cons_zero, List.set_cons_succ]
          rfl
         refine two_ (i := 11) (j := 15) (Ni := some 18) (Nj := some 6) #[true, true, true, true, true, true, true, true, true, true, true, true, false, false, false, false, false] #[true, true, true, true, true, true, true, true, true, true, true, false, false, false, false, true, false] rfl rfl rfl rfl (two_of HT_.out (by kernel_rfl)) (by decide) (by decide) (fun K hK => ?_) (fun K hK => ?_)
         ·
          refine Kd.R_lit_step k27 _ 27 ?hg (N := 18) ?hd (xs := ([(⟨a0_2, a0_3⟩ : S27), (⟨a1_2, a1_3⟩ : S27)] : List (S27))) (inner := [.int .i64 a0_2, .int .i64 a0_3, .int .i64 a1_2, .int .i64 a1_3]) (ok := fun _ => True) (okp := fun _ => True) ?hr ?hp (fun _ hk => hk) trivial (Below.refl _ _) (Nat.le_refl _) (by simp) ?_; (case hd => rfl); (case hg => rfl); (case hr => first | (go_simp; done) | (go_simp; rfl)); (case hp => exact (Reps.c2 (show Kd.M k27 _ _ _ (⟨a0_2, a0_3⟩ : S27) [.int .i64 a0_2, .int .i64 a0_3] from (k27_mkM _ _ _ (⟨a0_2, a0_3⟩ : S27) )) (Reps.c2 (show Kd.M k27 _ _ _ (⟨a1_2, a1_3⟩ : S27) [.int .i64 a1_2, .int .i64 a1_3] from (k27_mkM _ _ _ (⟨a1_2, a1_3⟩ : S27) )) (Reps.none _ _))))
          intro v352 w42 ho43 hb hg_ hnew_
          clear hg_ hnew_
          (first | rw [← Ny351.out] at ho43 | (simp only [Int.reduceToNat] at ho43; rw [← Ny351.out] at ho43))
          have n0_ := Aside0.mk (Kd.R_elder' (zq3 HO346) (Kd.R_base ho43) hb)
          have HO353 := Aside0.mk (Kd.R_lower (Kd.R_new' ho43 (Kd.R_lt (zq3 HO346))) (below_size (z53_1 HB)))
          have n2_ := Aside0.mk (zbb BK341 hb)
          have n3_ := Aside0.mk (zbb BK342 hb)
          have n4_ := Aside0.mk (zbb BK343 hb)
          have n5_ := Aside0.mk (below_step (z53_1 HB) hb)
          clear HO346 BK341 BK342 BK343 HB
          have HO346 := n0_; have BK341 := n2_; have BK342 := n3_; have BK343 := n4_; have HB := n5_
          clear n0_ n2_ n3_ n4_ n5_ hb ho43
          refine hK.out _ _ ⟨zc BK341 0, zc BK341 1, zc BK341 2, zc BK341 3, zc BK342 0, zc BK342 1, zc BK342 2, zc BK342 3⟩ (fun hHeld => ?_)
          clear hK K
          refine norm_ (a' := ?_) ?_ ?_
          rotate_left
          ·
           show Act.put _ (some 18) _ = _
           simp only [Act.put, List.setIfInBounds_toArray, List.set_cons_zero, List.set_cons_succ, i64_w, i32_w]; rfl
          exact norm_ zq4 (hJ4_5_11 (_, _) _ ⟨hHeld, (by (with_reducible repeat (first | apply Kd.R_alloc | apply Kd.R_drewN | apply Kd.R_drew)); exact Kd.R_mono HO346.out (fun _ hk => hk.2)), (by (with_reducible repeat (first | apply Kd.R_alloc | apply Kd.R_drewN | apply Kd.R_drew)); exact Kd.R_mono HO353.out (fun _ hk => hk.2)), (zq1 BK341), (zq1 BK342), (zq1 BK343), (z53_1 HB)⟩)
         ·
          refine box_step ?hg (N := 6) ?hd (cs := #[.int .i64 0, .int .i64 0, .int .i64 0, .int .i64 0]) (t := 29) ?hr ?_; (case hd => rfl); (case hg => rfl); (case hr => first | (go_simp; done) | (go_simp; rfl))
          intro gb358 hg w42 hbox hb
          have n0_ := Aside0.mk (Kd.R_below (zq3 HO346) hb)
          have n1_ := Aside0.mk (zbb BK341 hb)
          have n2_ := Aside0.mk (zbb BK342 hb)
          have n3_ := Aside0.mk (zbb BK343 hb)
          have n4_ := Aside0.mk (below_step (z53_1 HB) hb)
          have BK358 := Aside0.mk (hbox)
          have GW358 := Aside0.mk ((by rw [hg]; exact (below_size (z53_1 HB)) : w.heap.size ≤ gb358))
          have GE358 := Aside0.mk ((by rw [hg]; exact (below_size (z53_1 HB)) : w.heap.size ≤ gb358))
          have NB341_358 := Aside0.mk (zlt BK341 hg)
          have NB358_341 := Aside0.mk (zgt BK341 hg)
          have NB342_358 := Aside0.mk (zlt BK342 hg)
          have NB358_342 := Aside0.mk (zgt BK342 hg)
          have NB343_358 := Aside0.mk (zlt BK343 hg)
          have NB358_343 := Aside0.mk (zgt BK343 hg)
          clear HO346 BK341 BK342 BK343 HB
          have HO346 := n0_; have BK341 := n1_; have BK342 := n2_; have BK343 := n3_; have HB := n4_
          clear n0_ n1_ n2_ n3_ n4_ hb hbox hg
          refine hK.out _ _ ⟨zc BK341 0, zc BK341 1, zc BK341 2, zc BK341 3, zc BK342 0, zc BK342 1, zc BK342 2, zc BK342 3⟩ (fun hHeld => ?_)
          clear hK K
          refine norm_ (a' := ?_) ?_ ?_
          rotate_left
          ·
           show Act.put _ (some 6) _ = _
           simp only [Act.put, List.setIfInBounds_toArray, List.set_cons_zero, List.set_cons_succ, i64_w, i32_w]; rfl
          exact norm_ zq4 (hJ4_5_15 (_, _) _ ⟨hHeld, (zq3 HO346), (zq1 BK341), (zq1 BK342), (zq1 BK343), (zq1 BK358), GW358.out, GE358.out, NB341_358.out, NB358_341.out, NB342_358.out, NB358_342.out, NB343_358.out, NB358_343.out, (z53_1 HB)⟩)
       ·
        rintro ⟨v345, v352, gb358⟩ w42 ⟨hS_, h0_, h1_, h2_, h3_, h4_, h5_, h6_, h7_, h8_, h9_, h10_, h11_, h12_, h13_, h14_⟩
        have HO346 : Aside0 (Kd.R k27 27 w42 w.heap.size (fun k_ => some k_ ≠ (v352 : Value).ownBlock) v345 y344) := ⟨h0_⟩
        have HO353 : Aside0 (Kd.R k27 27 w42 w.heap.size (fun k_ => some k_ ≠ (v345 : Value).ownBlock) v352 y351) := ⟨h1_⟩
        have n2_ : Aside0 (w42.heap[gb341]? = some (.cells #[.int .i64 a0_0, .int .i64 a0_1, .int .i64 a0_2, .int .i64 a0_3] 29 (0, 0))) := ⟨h2_⟩
        have n3_ : Aside0 (w42.heap[gb342]? = some (.cells #[.int .i64 a1_0, .int .i64 a1_1, .int .i64 a1_2, .int .i64 a1_3] 29 (0, 0))) := ⟨h3_⟩
        have n4_ : Aside0 (w42.heap[gb343]? = some (.cells #[.int .i64 0, .int .i64 0, .int .i64 0, .int .i64 0] 29 (0, 0))) := ⟨h4_⟩
        have BK358 : Aside0 (w42.heap[gb358]? = some (.cells #[.int .i64 0, .int .i64 0, .int .i64 0, .int .i64 0] 29 (0, 0))) := ⟨h5_⟩
        have GW358 : Aside0 (w.heap.size ≤ gb358) := ⟨h6_⟩
        have GE358 : Aside0 (w.heap.size ≤ gb358) := ⟨h7_⟩
        have NB341_358 : Aside0 (gb341 ≠ gb358) := ⟨h8_⟩
        have NB358_341 : Aside0 (gb358 ≠ gb341) := ⟨h9_⟩
        have NB342_358 : Aside0 (gb342 ≠ gb358) := ⟨h10_⟩
        have NB358_342 : Aside0 (gb358 ≠ gb342) := ⟨h11_⟩
        have NB343_358 : Aside0 (gb343 ≠ gb358) := ⟨h12_⟩
        have NB358_343 : Aside0 (gb358 ≠ gb343) := ⟨h13_⟩
        have n14_ : Aside0 (Below w.heap.size w w42) := ⟨h14_⟩
        clear BK341 BK342 BK343 HB h0_ h1_ h2_ h3_ h4_ h5_ h6_ h7_ h8_ h9_ h10_ h11_ h12_ h13_ h14_
        have BK341 := n2_; have BK342 := n3_; have BK343 := n4_; have HB := n14_
        clear n2_ n3_ n4_ n14_
        have hHeld : w42.cell? ⟨gb341, 0, none⟩ = some (.int .i64 a0_0) ∧ w42.cell? ⟨gb341, 1, none⟩ = some (.int .i64 a0_1) ∧ w42.cell? ⟨gb341, 2, none⟩ = some (.int .i64 a0_2) ∧ w42.cell? ⟨gb341, 3, none⟩ = some (.int .i64 a0_3) ∧ w42.cell? ⟨gb342, 0, none⟩ = some (.int .i64 a1_0) ∧ w42.cell? ⟨gb342, 1, none⟩ = some (.int .i64 a1_1) ∧ w42.cell? ⟨gb342, 2, none⟩ = some (.int .i64 a1_2) ∧ w42.cell? ⟨gb342, 3, none⟩ = some (.int .i64 a1_3) := hS_
        obtain ⟨Ao43, co43, eo43⟩ := Kd.R_slice HO346.out
        (first | subst eo43 | (injection eo43 with f1_ f2_ f3_; have f4_ := f1_.symm; have f5_ := f3_.symm; clear f1_ f2_ f3_; subst f4_; subst f5_))
        refine norm_ (a' := ?_) ?_ ?_
        rotate_left
        ·
         simp only [putAll, Act.put, List.setIfInBounds_toArray, List.set_cons_zero, List.set_cons_succ]
         rfl
        refine one_ (i := 5) (N := some 12) #[true, true, true, true, true, true, false, true, true, true, true, true, false, false, false, true, false] rfl rfl (one_of HT_.out (by kernel_rfl)) (by decide) (fun K hK => ?_)
        refine goes_ Try.func82 (by kernel_rfl) rfl #[.slice Ao43 y344.length co43] (by rfl) rfl rfl (by (try simp only [List.map_toArray, List.map_cons, List.map_nil]); first | done | rfl | (simp only [List.length_drop, List.length_take]; rfl)) ?_
        with_reducible refine (spec_ivEnds.calls k _ _ y344 t347 t348 t349 t350 _ ?side1 ?side2 A3.out).mono ?_
        (case side1 => repeat (first | exact (Kd.R_reads' HO346.out).2.2 | (with_reducible refine Kd.C_alloc ?_ _) | (with_reducible refine Kd.C_drewN ?_ _) | (with_reducible refine Kd.C_drew ?_)))
        (case side2 => exact (Kd.R_reads' HO346.out).2.1)
        rintro e w44 ⟨rfl, hb⟩
        refine ⟨_, rfl, ?_⟩
        have n0_ := Aside0.mk (Kd.R_below (zq3 HO346) hb)
        have n1_ := Aside0.mk (Kd.R_below (zq3 HO353) hb)
        have n2_ := Aside0.mk (zbb BK341 hb)
        have n3_ := Aside0.mk (zbb BK342 hb)
        have n4_ := Aside0.mk (zbb BK343 hb)
        have n5_ := Aside0.mk (zbb BK358 hb)
        have n6_ := Aside0.mk (below_step (z53_1 HB) hb)
        clear HO346 HO353 BK341 BK342 BK343 BK358 HB
        have HO346 := n0_; have HO353 := n1_; have BK341 := n2_; have BK342 := n3_; have BK343 := n4_; have BK358 := n5_; have HB := n6_
        clear n0_ n1_ n2_ n3_ n4_ n5_ n6_
        (try clear hb)
        (try clear hb2)
        (try clear hk)
        (try clear hi)
        refine hK.out _ _ ⟨zc BK341 0, zc BK341 1, zc BK341 2, zc BK341 3, zc BK342 0, zc BK342 1, zc BK342 2, zc BK342 3⟩ (fun hHeld => ?_)
        clear hK K
        refine norm_ (a' := ?_) ?_ ?_
        rotate_left
        ·
         show Act.put _ (some 12) _ = _
         simp only [Act.put, List.setIfInBounds_toArray, List.set_cons_zero, List.set_cons_succ, i64_w, i32_w]; rfl
        refine pure_ (i := 6) (N := some 13) (v := ?_) (a' := ?_) #[true, true, true, true, true, true, true, true, true, true, true, true, false, false, false, true, false] rfl rfl (any_of HT_.out (by kernel_rfl)) (fun _ _ _ h => h) (Or.inl ⟨by rfl, ?_⟩) ?_ ?_
        rotate_left
        ·
         intro w'
         first | (go_simp; with_reducible rfl) | (go_simp; simp only [Instr.field]; go_simp; simp only [asAgg]; go_simp; rfl)
        rotate_left
        ·
         simp only [Act.put, List.setIfInBounds_toArray, List.set_cons_zero, List.set_cons_succ, i64_w, i32_w]
         rfl
        exact norm_ zq4 (hJ4_5_11_15 (_, _, _) _ ⟨hHeld, (zq3 HO346), (zq3 HO353), (zq1 BK341), (zq1 BK342), (zq1 BK343), (zq1 BK358), GW358.out, GE358.out, NB341_358.out, NB358_341.out, NB342_358.out, NB358_342.out, NB343_358.out, NB358_343.out, (z53_1 HB)⟩)
      ·
       rintro ⟨v345, gb358⟩ w42 ⟨hS_, h0_, h1_, h2_, h3_, h4_, h5_, h6_, h7_, h8_, h9_, h10_, h11_, h12_, h13_⟩
       have HO346 : Aside0 (Kd.R k27 27 w42 w.heap.size (fun _ => True) v345 y344) := ⟨h0_⟩
       have n1_ : Aside0 (w42.heap[gb341]? = some (.cells #[.int .i64 a0_0, .int .i64 a0_1, .int .i64 a0_2, .int .i64 a0_3] 29 (0, 0))) := ⟨h1_⟩
       have n2_ : Aside0 (w42.heap[gb342]? = some (.cells #[.int .i64 a1_0, .int .i64 a1_1, .int .i64 a1_2, .int .i64 a1_3] 29 (0, 0))) := ⟨h2_⟩
       have n3_ : Aside0 (w42.heap[gb343]? = some (.cells #[.int .i64 0, .int .i64 0, .int .i64 0, .int .i64 0] 29 (0, 0))) := ⟨h3_⟩
       have BK358 : Aside0 (w42.heap[gb358]? = some (.cells #[.int .i64 0, .int .i64 0, .int .i64 0, .int .i64 0] 29 (0, 0))) := ⟨h4_⟩
       have GW358 : Aside0 (w.heap.size ≤ gb358) := ⟨h5_⟩
       have GE358 : Aside0 (w.heap.size ≤ gb358) := ⟨h6_⟩
       have NB341_358 : Aside0 (gb341 ≠ gb358) := ⟨h7_⟩
       have NB358_341 : Aside0 (gb358 ≠ gb341) := ⟨h8_⟩
       have NB342_358 : Aside0 (gb342 ≠ gb358) := ⟨h9_⟩
       have NB358_342 : Aside0 (gb358 ≠ gb342) := ⟨h10_⟩
       have NB343_358 : Aside0 (gb343 ≠ gb358) := ⟨h11_⟩
       have NB358_343 : Aside0 (gb358 ≠ gb343) := ⟨h12_⟩
       have n13_ : Aside0 (Below w.heap.size w w42) := ⟨h13_⟩
       clear BK341 BK342 BK343 HB h0_ h1_ h2_ h3_ h4_ h5_ h6_ h7_ h8_ h9_ h10_ h11_ h12_ h13_
       have BK341 := n1_; have BK342 := n2_; have BK343 := n3_; have HB := n13_
       clear n1_ n2_ n3_ n13_
       have hHeld : w42.cell? ⟨gb341, 0, none⟩ = some (.int .i64 a0_0) ∧ w42.cell? ⟨gb341, 1, none⟩ = some (.int .i64 a0_1) ∧ w42.cell? ⟨gb341, 2, none⟩ = some (.int .i64 a0_2) ∧ w42.cell? ⟨gb341, 3, none⟩ = some (.int .i64 a0_3) ∧ w42.cell? ⟨gb342, 0, none⟩ = some (.int .i64 a1_0) ∧ w42.cell? ⟨gb342, 1, none⟩ = some (.int .i64 a1_1) ∧ w42.cell? ⟨gb342, 2, none⟩ = some (.int .i64 a1_2) ∧ w42.cell? ⟨gb342, 3, none⟩ = some (.int .i64 a1_3) := hS_
       refine norm_ (a' := ?_) ?_ ?_
       rotate_left
       ·
        simp only [putAll, Act.put, List.setIfInBounds_toArray, List.set_cons_zero, List.set_cons_succ]
        rfl
       refine one_ (i := 11) (N := some 18) #[true, true, true, true, true, true, true, true, true, true, true, true, false, false, false, true, false] rfl rfl (one_of HT_.out (by kernel_rfl)) (by decide) (fun K hK => ?_)
       refine Kd.R_lit_step k27 _ 27 ?hg (N := 18) ?hd (xs := ([(⟨a0_2, a0_3⟩ : S27), (⟨a1_2, a1_3⟩ : S27)] : List (S27))) (inner := [.int .i64 a0_2, .int .i64 a0_3, .int .i64 a1_2, .int .i64 a1_3]) (ok := fun _ => True) (okp := fun _ => True) ?hr ?hp (fun _ hk => hk) trivial (Below.refl _ _) (Nat.le_refl _) (by simp) ?_; (case hd => rfl); (case hg => rfl); (case hr => first | (go_simp; done) | (go_simp; rfl)); (case hp => exact (Reps.c2 (show Kd.M k27 _ _ _ (⟨a0_2, a0_3⟩ : S27) [.int .i64 a0_2, .int .i64 a0_3] from (k27_mkM _ _ _ (⟨a0_2, a0_3⟩ : S27) )) (Reps.c2 (show Kd.M k27 _ _ _ (⟨a1_2, a1_3⟩ : S27) [.int .i64 a1_2, .int .i64 a1_3] from (k27_mkM _ _ _ (⟨a1_2, a1_3⟩ : S27) )) (Reps.none _ _))))
       intro v352 w43 ho44 hb hg_ hnew_
       clear hg_ hnew_
       (first | rw [← Ny351.out] at ho44 | (simp only [Int.reduceToNat] at ho44; rw [← Ny351.out] at ho44))
       have n0_ := Aside0.mk (Kd.R_elder' (zq3 HO346) (Kd.R_base ho44) hb)
       have HO353 := Aside0.mk (Kd.R_lower (Kd.R_new' ho44 (Kd.R_lt (zq3 HO346))) (below_size (z53_1 HB)))
       have n2_ := Aside0.mk (zbb BK341 hb)
       have n3_ := Aside0.mk (zbb BK342 hb)
       have n4_ := Aside0.mk (zbb BK343 hb)
       have n5_ := Aside0.mk (zbb BK358 hb)
       have n6_ := Aside0.mk (below_step (z53_1 HB) hb)
       clear HO346 BK341 BK342 BK343 BK358 HB
       have HO346 := n0_; have BK341 := n2_; have BK342 := n3_; have BK343 := n4_; have BK358 := n5_; have HB := n6_
       clear n0_ n2_ n3_ n4_ n5_ n6_ hb ho44
       refine hK.out _ _ ⟨zc BK341 0, zc BK341 1, zc BK341 2, zc BK341 3, zc BK342 0, zc BK342 1, zc BK342 2, zc BK342 3⟩ (fun hHeld => ?_)
       clear hK K
       refine norm_ (a' := ?_) ?_ ?_
       rotate_left
       ·
        show Act.put _ (some 18) _ = _
        simp only [Act.put, List.setIfInBounds_toArray, List.set_cons_zero, List.set_cons_succ, i64_w, i32_w]; rfl
       exact norm_ zq4 (hJ4_5_11_15 (_, _, _) _ ⟨hHeld, (by (with_reducible repeat (first | apply Kd.R_alloc | apply Kd.R_drewN | apply Kd.R_drew)); exact Kd.R_mono HO346.out (fun _ hk => hk.2)), (by (with_reducible repeat (first | apply Kd.R_alloc | apply Kd.R_drewN | apply Kd.R_drew)); exact Kd.R_mono HO353.out (fun _ hk => hk.2)), (zq1 BK341), (zq1 BK342), (zq1 BK343), (zq1 BK358), GW358.out, GE358.out, NB341_358.out, NB358_341.out, NB342_358.out, NB358_342.out, NB343_358.out, NB358_343.out, (z53_1 HB)⟩)
     ·
      rintro ⟨v345, v352⟩ w43 ⟨hS_, h0_, h1_, h2_, h3_, h4_, h5_⟩
      have HO346 : Aside0 (Kd.R k27 27 w43 w.heap.size (fun k_ => some k_ ≠ (v352 : Value).ownBlock) v345 y344) := ⟨h0_⟩
      have HO353 : Aside0 (Kd.R k27 27 w43 w.heap.size (fun k_ => some k_ ≠ (v345 : Value).ownBlock) v352 y351) := ⟨h1_⟩
      have n2_ : Aside0 (w43.heap[gb341]? = some (.cells #[.int .i64 a0_0, .int .i64 a0_1, .int .i64 a0_2, .int .i64 a0_3] 29 (0, 0))) := ⟨h2_⟩
      have n3_ : Aside0 (w43.heap[gb342]? = some (.cells #[.int .i64 a1_0, .int .i64 a1_1, .int .i64 a1_2, .int .i64 a1_3] 29 (0, 0))) := ⟨h3_⟩
      have n4_ : Aside0 (w43.heap[gb343]? = some (.cells #[.int .i64 0, .int .i64 0, .int .i64 0, .int .i64 0] 29 (0, 0))) := ⟨h4_⟩
      have n5_ : Aside0 (Below w.heap.size w w43) := ⟨h5_⟩
      clear BK341 BK342 BK343 HB h0_ h1_ h2_ h3_ h4_ h5_
      have BK341 := n2_; have BK342 := n3_; have BK343 := n4_; have HB := n5_
      clear n2_ n3_ n4_ n5_
      have hHeld : w43.cell? ⟨gb341, 0, none⟩ = some (.int .i64 a0_0) ∧ w43.cell? ⟨gb341, 1, none⟩ = some (.int .i64 a0_1) ∧ w43.cell? ⟨gb341, 2, none⟩ = some (.int .i64 a0_2) ∧ w43.cell? ⟨gb341, 3, none⟩ = some (.int .i64 a0_3) ∧ w43.cell? ⟨gb342, 0, none⟩ = some (.int .i64 a1_0) ∧ w43.cell? ⟨gb342, 1, none⟩ = some (.int .i64 a1_1) ∧ w43.cell? ⟨gb342, 2, none⟩ = some (.int .i64 a1_2) ∧ w43.cell? ⟨gb342, 3, none⟩ = some (.int .i64 a1_3) := hS_
      obtain ⟨Ao44, co44, eo44⟩ := Kd.R_slice HO353.out
      (first | subst eo44 | (injection eo44 with f1_ f2_ f3_; have f4_ := f1_.symm; have f5_ := f3_.symm; clear f1_ f2_ f3_; subst f4_; subst f5_))
      refine norm_ (a' := ?_) ?_ ?_
      rotate_left
      ·
       simp only [putAll, Act.put, List.setIfInBounds_toArray, List.set_cons_zero, List.set_cons_succ]
       rfl
      refine two_ (i := 12) (j := 15) (Ni := some 19) (Nj := some 6) #[true, true, true, true, true, true, true, true, true, true, true, true, true, false, false, false, false] #[true, true, true, true, true, true, true, true, true, true, true, true, false, false, false, true, false] rfl rfl rfl rfl (two_of HT_.out (by kernel_rfl)) (by decide) (by decide) (fun K hK => ?_) (fun K hK => ?_)
      ·
       refine goes_ Try.func82 (by kernel_rfl) rfl #[.slice Ao44 y351.length co44] (by rfl) rfl rfl (by (try simp only [List.map_toArray, List.map_cons, List.map_nil]); first | done | rfl | (simp only [List.length_drop, List.length_take]; rfl)) ?_
       with_reducible refine (spec_ivEnds.calls k _ _ y351 t354 t355 t356 t357 _ ?side1 ?side2 A4.out).mono ?_
       (case side1 => repeat (first | exact (Kd.R_reads' HO353.out).2.2 | (with_reducible refine Kd.C_alloc ?_ _) | (with_reducible refine Kd.C_drewN ?_ _) | (with_reducible refine Kd.C_drew ?_)))
       (case side2 => exact (Kd.R_reads' HO353.out).2.1)
       rintro e w45 ⟨rfl, hb⟩
       refine ⟨_, rfl, ?_⟩
       have n0_ := Aside0.mk (Kd.R_below (zq3 HO346) hb)
       have n1_ := Aside0.mk (Kd.R_below (zq3 HO353) hb)
       have n2_ := Aside0.mk (zbb BK341 hb)
       have n3_ := Aside0.mk (zbb BK342 hb)
       have n4_ := Aside0.mk (zbb BK343 hb)
       have n5_ := Aside0.mk (below_step (z53_1 HB) hb)
       clear HO346 HO353 BK341 BK342 BK343 HB
       have HO346 := n0_; have HO353 := n1_; have BK341 := n2_; have BK342 := n3_; have BK343 := n4_; have HB := n5_
       clear n0_ n1_ n2_ n3_ n4_ n5_
       (try clear hb)
       (try clear hb2)
       (try clear hk)
       (try clear hi)
       refine hK.out _ _ ⟨zc BK341 0, zc BK341 1, zc BK341 2, zc BK341 3, zc BK342 0, zc BK342 1, zc BK342 2, zc BK342 3⟩ (fun hHeld => ?_)
       clear hK K
       refine norm_ (a' := ?_) ?_ ?_
       rotate_left
       ·
        show Act.put _ (some 19) _ = _
        simp only [Act.put, List.setIfInBounds_toArray, List.set_cons_zero, List.set_cons_succ, i64_w, i32_w]; rfl
       refine pure_ (i := 13) (N := some 20) (v := ?_) (a' := ?_) #[true, true, true, true, true, true, true, true, true, true, true, true, true, true, false, false, false] rfl rfl (any_of HT_.out (by kernel_rfl)) (fun _ _ _ h => h) (Or.inl ⟨by rfl, ?_⟩) ?_ ?_
       rotate_left
       ·
        intro w'
        first | (go_simp; with_reducible rfl) | (go_simp; simp only [Instr.field]; go_simp; simp only [asAgg]; go_simp; rfl)
       rotate_left
       ·
        simp only [Act.put, List.setIfInBounds_toArray, List.set_cons_zero, List.set_cons_succ, i64_w, i32_w]
        rfl
       refine pure_ (i := 14) (N := some 21) (v := ?_) (a' := ?_) #[true, true, true, true, true, true, true, true, true, true, true, true, true, true, true, false, false] rfl rfl (any_of HT_.out (by kernel_rfl)) (fun _ _ _ h => h) (Or.inl ⟨by rfl, ?_⟩) ?_ ?_
       rotate_left
       ·
        intro w'
        first | (go_simp; with_reducible rfl) | (go_simp; simp only [Instr.field]; go_simp; simp only [asAgg]; go_simp; rfl)
       rotate_left
       ·
        simp only [Act.put, List.setIfInBounds_toArray, List.set_cons_zero, List.set_cons_succ, i64_w, i32_w]
        rfl
       exact norm_ zq4 (hJ4_5_11_12 (_, _) _ ⟨hHeld, (zq3 HO346), (zq3 HO353), (zq1 BK341), (zq1 BK342), (zq1 BK343), (z53_1 HB)⟩)
      ·
       refine box_step ?hg (N := 6) ?hd (cs := #[.int .i64 0, .int .i64 0, .int .i64 0, .int .i64 0]) (t := 29) ?hr ?_; (case hd => rfl); (case hg => rfl); (case hr => first | (go_simp; done) | (go_simp; rfl))
       intro gb358 hg w44 hbox hb
       have n0_ := Aside0.mk (Kd.R_below (zq3 HO346) hb)
       have n1_ := Aside0.mk (Kd.R_below (zq3 HO353) hb)
       have n2_ := Aside0.mk (zbb BK341 hb)
       have n3_ := Aside0.mk (zbb BK342 hb)
       have n4_ := Aside0.mk (zbb BK343 hb)
       have n5_ := Aside0.mk (below_step (z53_1 HB) hb)
       have BK358 := Aside0.mk (hbox)
       have GW358 := Aside0.mk ((by rw [hg]; exact (below_size (z53_1 HB)) : w.heap.size ≤ gb358))
       have GE358 := Aside0.mk ((by rw [hg]; exact (below_size (z53_1 HB)) : w.heap.size ≤ gb358))
       have NB341_358 := Aside0.mk (zlt BK341 hg)
       have NB358_341 := Aside0.mk (zgt BK341 hg)
       have NB342_358 := Aside0.mk (zlt BK342 hg)
       have NB358_342 := Aside0.mk (zgt BK342 hg)
       have NB343_358 := Aside0.mk (zlt BK343 hg)
       have NB358_343 := Aside0.mk (zgt BK343 hg)
       clear HO346 HO353 BK341 BK342 BK343 HB
       have HO346 := n0_; have HO353 := n1_; have BK341 := n2_; have BK342 := n3_; have BK343 := n4_; have HB := n5_
       clear n0_ n1_ n2_ n3_ n4_ n5_ hb hbox hg
       refine hK.out _ _ ⟨zc BK341 0, zc BK341 1, zc BK341 2, zc BK341 3, zc BK342 0, zc BK342 1, zc BK342 2, zc BK342 3⟩ (fun hHeld => ?_)
       clear hK K
       refine norm_ (a' := ?_) ?_ ?_
       rotate_left
       ·
        show Act.put _ (some 6) _ = _
        simp only [Act.put, List.setIfInBounds_toArray, List.set_cons_zero, List.set_cons_succ, i64_w, i32_w]; rfl
       exact norm_ zq4 (hJ4_5_11_15 (_, _, _) _ ⟨hHeld, (zq3 HO346), (zq3 HO353), (zq1 BK341), (zq1 BK342), (zq1 BK343), (zq1 BK358), GW358.out, GE358.out, NB341_358.out, NB358_341.out, NB342_358.out, NB358_342.out, NB343_358.out, NB358_343.out, (z53_1 HB)⟩)
    ·
     rintro ⟨v345, v352, gb358⟩ w44 ⟨hS_, h0_, h1_, h2_, h3_, h4_, h5_, h6_, h7_, h8_, h9_, h10_, h11_, h12_, h13_, h14_⟩
     have HO346 : Aside0 (Kd.R k27 27 w44 w.heap.size (fun k_ => some k_ ≠ (v352 : Value).ownBlock) v345 y344) := ⟨h0_⟩
     have HO353 : Aside0 (Kd.R k27 27 w44 w.heap.size (fun k_ => some k_ ≠ (v345 : Value).ownBlock) v352 y351) := ⟨h1_⟩
     have n2_ : Aside0 (w44.heap[gb341]? = some (.cells #[.int .i64 a0_0, .int .i64 a0_1, .int .i64 a0_2, .int .i64 a0_3] 29 (0, 0))) := ⟨h2_⟩
     have n3_ : Aside0 (w44.heap[gb342]? = some (.cells #[.int .i64 a1_0, .int .i64 a1_1, .int .i64 a1_2, .int .i64 a1_3] 29 (0, 0))) := ⟨h3_⟩
     have n4_ : Aside0 (w44.heap[gb343]? = some (.cells #[.int .i64 0, .int .i64 0, .int .i64 0, .int .i64 0] 29 (0, 0))) := ⟨h4_⟩
     have BK358 : Aside0 (w44.heap[gb358]? = some (.cells #[.int .i64 0, .int .i64 0, .int .i64 0, .int .i64 0] 29 (0, 0))) := ⟨h5_⟩
     have GW358 : Aside0 (w.heap.size ≤ gb358) := ⟨h6_⟩
     have GE358 : Aside0 (w.heap.size ≤ gb358) := ⟨h7_⟩
     have NB341_358 : Aside0 (gb341 ≠ gb358) := ⟨h8_⟩
     have NB358_341 : Aside0 (gb358 ≠ gb341) := ⟨h9_⟩
     have NB342_358 : Aside0 (gb342 ≠ gb358) := ⟨h10_⟩
     have NB358_342 : Aside0 (gb358 ≠ gb342) := ⟨h11_⟩
     have NB343_358 : Aside0 (gb343 ≠ gb358) := ⟨h12_⟩
     have NB358_343 : Aside0 (gb358 ≠ gb343) := ⟨h13_⟩
     have n14_ : Aside0 (Below w.heap.size w w44) := ⟨h14_⟩
     clear BK341 BK342 BK343 HB h0_ h1_ h2_ h3_ h4_ h5_ h6_ h7_ h8_ h9_ h10_ h11_ h12_ h13_ h14_
     have BK341 := n2_; have BK342 := n3_; have BK343 := n4_; have HB := n14_
     clear n2_ n3_ n4_ n14_
     have hHeld : w44.cell? ⟨gb341, 0, none⟩ = some (.int .i64 a0_0) ∧ w44.cell? ⟨gb341, 1, none⟩ = some (.int .i64 a0_1) ∧ w44.cell? ⟨gb341, 2, none⟩ = some (.int .i64 a0_2) ∧ w44.cell? ⟨gb341, 3, none⟩ = some (.int .i64 a0_3) ∧ w44.cell? ⟨gb342, 0, none⟩ = some (.int .i64 a1_0) ∧ w44.cell? ⟨gb342, 1, none⟩ = some (.int .i64 a1_1) ∧ w44.cell? ⟨gb342, 2, none⟩ = some (.int .i64 a1_2) ∧ w44.cell? ⟨gb342, 3, none⟩ = some (.int .i64 a1_3) := hS_
     obtain ⟨Ao45, co45, eo45⟩ := Kd.R_slice HO353.out
     (first | subst eo45 | (injection eo45 with f1_ f2_ f3_; have f4_ := f1_.symm; have f5_ := f3_.symm; clear f1_ f2_ f3_; subst f4_; subst f5_))
     refine norm_ (a' := ?_) ?_ ?_
     rotate_left
     ·
      simp only [putAll, Act.put, List.setIfInBounds_toArray, List.set_cons_zero, List.set_cons_succ]
      rfl
     refine one_ (i := 12) (N := some 19) #[true, true, true, true, true, true, true, true, true, true, true, true, true, false, false, true, false] rfl rfl (one_of HT_.out (by kernel_rfl)) (by decide) (fun K hK => ?_)
     refine goes_ Try.func82 (by kernel_rfl) rfl #[.slice Ao45 y351.length co45] (by rfl) rfl rfl (by (try simp only [List.map_toArray, List.map_cons, List.map_nil]); first | done | rfl | (simp only [List.length_drop, List.length_take]; rfl)) ?_
     with_reducible refine (spec_ivEnds.calls k _ _ y351 t354 t355 t356 t357 _ ?side1 ?side2 A4.out).mono ?_
     (case side1 => repeat (first | exact (Kd.R_reads' HO353.out).2.2 | (with_reducible refine Kd.C_alloc ?_ _) | (with_reducible refine Kd.C_drewN ?_ _) | (with_reducible refine Kd.C_drew ?_)))
     (case side2 => exact (Kd.R_reads' HO353.out).2.1)
     rintro e w46 ⟨rfl, hb⟩
     refine ⟨_, rfl, ?_⟩
     have n0_ := Aside0.mk (Kd.R_below (zq3 HO346) hb)
     have n1_ := Aside0.mk (Kd.R_below (zq3 HO353) hb)
     have n2_ := Aside0.mk (zbb BK341 hb)
     have n3_ := Aside0.mk (zbb BK342 hb)
     have n4_ := Aside0.mk (zbb BK343 hb)
     have n5_ := Aside0.mk (zbb BK358 hb)
     have n6_ := Aside0.mk (below_step (z53_1 HB) hb)
     clear HO346 HO353 BK341 BK342 BK343 BK358 HB
     have HO346 := n0_; have HO353 := n1_; have BK341 := n2_; have BK342 := n3_; have BK343 := n4_; have BK358 := n5_; have HB := n6_
     clear n0_ n1_ n2_ n3_ n4_ n5_ n6_
     (try clear hb)
     (try clear hb2)
     (try clear hk)
     (try clear hi)
     refine hK.out _ _ ⟨zc BK341 0, zc BK341 1, zc BK341 2, zc BK341 3, zc BK342 0, zc BK342 1, zc BK342 2, zc BK342 3⟩ (fun hHeld => ?_)
     clear hK K
     refine norm_ (a' := ?_) ?_ ?_
     rotate_left
     ·
      show Act.put _ (some 19) _ = _
      simp only [Act.put, List.setIfInBounds_toArray, List.set_cons_zero, List.set_cons_succ, i64_w, i32_w]; rfl
     refine pure_ (i := 13) (N := some 20) (v := ?_) (a' := ?_) #[true, true, true, true, true, true, true, true, true, true, true, true, true, true, false, true, false] rfl rfl (any_of HT_.out (by kernel_rfl)) (fun _ _ _ h => h) (Or.inl ⟨by rfl, ?_⟩) ?_ ?_
     rotate_left
     ·
      intro w'
      first | (go_simp; with_reducible rfl) | (go_simp; simp only [Instr.field]; go_simp; simp only [asAgg]; go_simp; rfl)
     rotate_left
     ·
      simp only [Act.put, List.setIfInBounds_toArray, List.set_cons_zero, List.set_cons_succ, i64_w, i32_w]
      rfl
     refine pure_ (i := 14) (N := some 21) (v := ?_) (a' := ?_) #[true, true, true, true, true, true, true, true, true, true, true, true, true, true, true, true, false] rfl rfl (any_of HT_.out (by kernel_rfl)) (fun _ _ _ h => h) (Or.inl ⟨by rfl, ?_⟩) ?_ ?_
     rotate_left
     ·
      intro w'
      first | (go_simp; with_reducible rfl) | (go_simp; simp only [Instr.field]; go_simp; simp only [asAgg]; go_simp; rfl)
     rotate_left
     ·
      simp only [Act.put, List.setIfInBounds_toArray, List.set_cons_zero, List.set_cons_succ, i64_w, i32_w]
      rfl
     exact norm_ zq4 (hJ4_5_11_12_15 (_, _, _) _ ⟨hHeld, (zq3 HO346), (zq3 HO353), (zq1 BK341), (zq1 BK342), (zq1 BK343), (zq1 BK358), GW358.out, GE358.out, NB341_358.out, NB358_341.out, NB342_358.out, NB358_342.out, NB343_358.out, NB358_343.out, (z53_1 HB)⟩)
   ·
    rintro ⟨v345, v352⟩ w45 ⟨hS_, h0_, h1_, h2_, h3_, h4_, h5_⟩
    have HO346 : Aside0 (Kd.R k27 27 w45 w.heap.size (fun k_ => some k_ ≠ (v352 : Value).ownBlock) v345 y344) := ⟨h0_⟩
    have HO353 : Aside0 (Kd.R k27 27 w45 w.heap.size (fun k_ => some k_ ≠ (v345 : Value).ownBlock) v352 y351) := ⟨h1_⟩
    have n2_ : Aside0 (w45.heap[gb341]? = some (.cells #[.int .i64 a0_0, .int .i64 a0_1, .int .i64 a0_2, .int .i64 a0_3] 29 (0, 0))) := ⟨h2_⟩
    have n3_ : Aside0 (w45.heap[gb342]? = some (.cells #[.int .i64 a1_0, .int .i64 a1_1, .int .i64 a1_2, .int .i64 a1_3] 29 (0, 0))) := ⟨h3_⟩
    have n4_ : Aside0 (w45.heap[gb343]? = some (.cells #[.int .i64 0, .int .i64 0, .int .i64 0, .int .i64 0] 29 (0, 0))) := ⟨h4_⟩
    have n5_ : Aside0 (Below w.heap.size w w45) := ⟨h5_⟩
    clear BK341 BK342 BK343 HB h0_ h1_ h2_ h3_ h4_ h5_
    have BK341 := n2_; have BK342 := n3_; have BK343 := n4_; have HB := n5_
    clear n2_ n3_ n4_ n5_
    have hHeld : w45.cell? ⟨gb341, 0, none⟩ = some (.int .i64 a0_0) ∧ w45.cell? ⟨gb341, 1, none⟩ = some (.int .i64 a0_1) ∧ w45.cell? ⟨gb341, 2, none⟩ = some (.int .i64 a0_2) ∧ w45.cell? ⟨gb341, 3, none⟩ = some (.int .i64 a0_3) ∧ w45.cell? ⟨gb342, 0, none⟩ = some (.int .i64 a1_0) ∧ w45.cell? ⟨gb342, 1, none⟩ = some (.int .i64 a1_1) ∧ w45.cell? ⟨gb342, 2, none⟩ = some (.int .i64 a1_2) ∧ w45.cell? ⟨gb342, 3, none⟩ = some (.int .i64 a1_3) := hS_
    refine norm_ (a' := ?_) ?_ ?_
    rotate_left
    ·
     simp only [putAll, Act.put, List.setIfInBounds_toArray, List.set_cons_zero, List.set_cons_succ]
     rfl
    refine one_ (i := 15) (N := some 6) #[true, true, true, true, true, true, true, true, true, true, true, true, true, true, true, true, false] rfl rfl (one_of HT_.out (by kernel_rfl)) (by decide) (fun K hK => ?_)
    refine box_step ?hg (N := 6) ?hd (cs := #[.int .i64 0, .int .i64 0, .int .i64 0, .int .i64 0]) (t := 29) ?hr ?_; (case hd => rfl); (case hg => rfl); (case hr => first | (go_simp; done) | (go_simp; rfl))
    intro gb358 hg w46 hbox hb
    have n0_ := Aside0.mk (Kd.R_below (zq3 HO346) hb)
    have n1_ := Aside0.mk (Kd.R_below (zq3 HO353) hb)
    have n2_ := Aside0.mk (zbb BK341 hb)
    have n3_ := Aside0.mk (zbb BK342 hb)
    have n4_ := Aside0.mk (zbb BK343 hb)
    have n5_ := Aside0.mk (below_step (z53_1 HB) hb)
    have BK358 := Aside0.mk (hbox)
    have GW358 := Aside0.mk ((by rw [hg]; exact (below_size (z53_1 HB)) : w.heap.size ≤ gb358))
    have GE358 := Aside0.mk ((by rw [hg]; exact (below_size (z53_1 HB)) : w.heap.size ≤ gb358))
    have NB341_358 := Aside0.mk (zlt BK341 hg)
    have NB358_341 := Aside0.mk (zgt BK341 hg)
    have NB342_358 := Aside0.mk (zlt BK342 hg)
    have NB358_342 := Aside0.mk (zgt BK342 hg)
    have NB343_358 := Aside0.mk (zlt BK343 hg)
    have NB358_343 := Aside0.mk (zgt BK343 hg)
    clear HO346 HO353 BK341 BK342 BK343 HB
    have HO346 := n0_; have HO353 := n1_; have BK341 := n2_; have BK342 := n3_; have BK343 := n4_; have HB := n5_
    clear n0_ n1_ n2_ n3_ n4_ n5_ hb hbox hg
    refine hK.out _ _ ⟨zc BK341 0, zc BK341 1, zc BK341 2, zc BK341 3, zc BK342 0, zc BK342 1, zc BK342 2, zc BK342 3⟩ (fun hHeld => ?_)
    clear hK K
    refine norm_ (a' := ?_) ?_ ?_
    rotate_left
    ·
     show Act.put _ (some 6) _ = _
     simp only [Act.put, List.setIfInBounds_toArray, List.set_cons_zero, List.set_cons_succ, i64_w, i32_w]; rfl
    exact norm_ zq4 (hJ4_5_11_12_15 (_, _, _) _ ⟨hHeld, (zq3 HO346), (zq3 HO353), (zq1 BK341), (zq1 BK342), (zq1 BK343), (zq1 BK358), GW358.out, GE358.out, NB341_358.out, NB358_341.out, NB342_358.out, NB358_342.out, NB343_358.out, NB358_343.out, (z53_1 HB)⟩)
  rintro ⟨v345, v352, gb358⟩ w46 ⟨hS_, h0_, h1_, h2_, h3_, h4_, h5_, h6_, h7_, h8_, h9_, h10_, h11_, h12_, h13_, h14_⟩
  have HO346 : Aside0 (Kd.R k27 27 w46 w.heap.size (fun k_ => some k_ ≠ (v352 : Value).ownBlock) v345 y344) := ⟨h0_⟩
  have HO353 : Aside0 (Kd.R k27 27 w46 w.heap.size (fun k_ => some k_ ≠ (v345 : Value).ownBlock) v352 y351) := ⟨h1_⟩
  have n2_ : Aside0 (w46.heap[gb341]? = some (.cells #[.int .i64 a0_0, .int .i64 a0_1, .int .i64 a0_2, .int .i64 a0_3] 29 (0, 0))) := ⟨h2_⟩
  have n3_ : Aside0 (w46.heap[gb342]? = some (.cells #[.int .i64 a1_0, .int .i64 a1_1, .int .i64 a1_2, .int .i64 a1_3] 29 (0, 0))) := ⟨h3_⟩
  have n4_ : Aside0 (w46.heap[gb343]? = some (.cells #[.int .i64 0, .int .i64 0, .int .i64 0, .int .i64 0] 29 (0, 0))) := ⟨h4_⟩
  have BK358 : Aside0 (w46.heap[gb358]? = some (.cells #[.int .i64 0, .int .i64 0, .int .i64 0, .int .i64 0] 29 (0, 0))) := ⟨h5_⟩
  have GW358 : Aside0 (w.heap.size ≤ gb358) := ⟨h6_⟩
  have GE358 : Aside0 (w.heap.size ≤ gb358) := ⟨h7_⟩
  have NB341_358 : Aside0 (gb341 ≠ gb358) := ⟨h8_⟩
  have NB358_341 : Aside0 (gb358 ≠ gb341) := ⟨h9_⟩
  have NB342_358 : Aside0 (gb342 ≠ gb358) := ⟨h10_⟩
  have NB358_342 : Aside0 (gb358 ≠ gb342) := ⟨h11_⟩
  have NB343_358 : Aside0 (gb343 ≠ gb358) := ⟨h12_⟩
  have NB358_343 : Aside0 (gb358 ≠ gb343) := ⟨h13_⟩
  have n14_ : Aside0 (Below w.heap.size w w46) := ⟨h14_⟩
  clear BK341 BK342 BK343 HB h0_ h1_ h2_ h3_ h4_ h5_ h6_ h7_ h8_ h9_ h10_ h11_ h12_ h13_ h14_
  have BK341 := n2_; have BK342 := n3_; have BK343 := n4_; have HB := n14_
  clear n2_ n3_ n4_ n14_
  have hHeld : w46.cell? ⟨gb341, 0, none⟩ = some (.int .i64 a0_0) ∧ w46.cell? ⟨gb341, 1, none⟩ = some (.int .i64 a0_1) ∧ w46.cell? ⟨gb341, 2, none⟩ = some (.int .i64 a0_2) ∧ w46.cell? ⟨gb341, 3, none⟩ = some (.int .i64 a0_3) ∧ w46.cell? ⟨gb342, 0, none⟩ = some (.int .i64 a1_0) ∧ w46.cell? ⟨gb342, 1, none⟩ = some (.int .i64 a1_1) ∧ w46.cell? ⟨gb342, 2, none⟩ = some (.int .i64 a1_2) ∧ w46.cell? ⟨gb342, 3, none⟩ = some (.int .i64 a1_3) := hS_
  refine norm_ (a' := ?_) ?_ ?_
  rotate_left
  ·
   simp only [putAll, Act.put, List.setIfInBounds_toArray, List.set_cons_zero, List.set_cons_succ]
   rfl
  refine one_ (i := 16) (N := none) #[true, true, true, true, true, true, true, true, true, true, true, true, true, true, true, true, true] rfl rfl (one_of HT_.out (by kernel_rfl)) (by decide) (fun K hK => ?_)
  have hs47 : w46.cell? ⟨gb358, 0, none⟩ = some (.int .i64 0) := zc BK358 0
  have hfs47 := blk_frozen BK358.out 0
  have hns47_0 := NB341_358.out
  have hns47_1 := NB342_358.out
  have hns47_2 := NB343_358.out
  have hms47_0 := NB358_341.out
  have hms47_1 := NB358_342.out
  have hms47_2 := NB358_343.out
  have hs48 : w46.cell? ⟨gb358, 1, none⟩ = some (.int .i64 0) := zc BK358 1
  have hfs48 := blk_frozen BK358.out 1
  have hns48_0 := NB341_358.out
  have hns48_1 := NB342_358.out
  have hns48_2 := NB343_358.out
  have hms48_0 := NB358_341.out
  have hms48_1 := NB358_342.out
  have hms48_2 := NB358_343.out
  have hs49 : w46.cell? ⟨gb358, 2, none⟩ = some (.int .i64 0) := zc BK358 2
  have hfs49 := blk_frozen BK358.out 2
  have hns49_0 := NB341_358.out
  have hns49_1 := NB342_358.out
  have hns49_2 := NB343_358.out
  have hms49_0 := NB358_341.out
  have hms49_1 := NB358_342.out
  have hms49_2 := NB358_343.out
  have hs50 : w46.cell? ⟨gb358, 3, none⟩ = some (.int .i64 0) := zc BK358 3
  have hfs50 := blk_frozen BK358.out 3
  have hns50_0 := NB341_358.out
  have hns50_1 := NB342_358.out
  have hns50_2 := NB343_358.out
  have hms50_0 := NB358_341.out
  have hms50_1 := NB358_342.out
  have hms50_2 := NB358_343.out
  refine skip_ (w1 := ?_) (by rfl) rfl ?_ ?_
  rotate_left
  ·
   go_simp
   rfl
  refine hK.out _ _ ⟨((cell_far (p := ⟨gb358, _, none⟩) NB341_358.out _).trans (((cell_far (p := ⟨gb358, _, none⟩) NB341_358.out _).trans (((cell_far (p := ⟨gb358, _, none⟩) NB341_358.out _).trans (((cell_far (p := ⟨gb358, _, none⟩) NB341_358.out _).trans (hHeld.1)))))))), ((cell_far (p := ⟨gb358, _, none⟩) NB341_358.out _).trans (((cell_far (p := ⟨gb358, _, none⟩) NB341_358.out _).trans (((cell_far (p := ⟨gb358, _, none⟩) NB341_358.out _).trans (((cell_far (p := ⟨gb358, _, none⟩) NB341_358.out _).trans (hHeld.2.1)))))))), ((cell_far (p := ⟨gb358, _, none⟩) NB341_358.out _).trans (((cell_far (p := ⟨gb358, _, none⟩) NB341_358.out _).trans (((cell_far (p := ⟨gb358, _, none⟩) NB341_358.out _).trans (((cell_far (p := ⟨gb358, _, none⟩) NB341_358.out _).trans (hHeld.2.2.1)))))))), ((cell_far (p := ⟨gb358, _, none⟩) NB341_358.out _).trans (((cell_far (p := ⟨gb358, _, none⟩) NB341_358.out _).trans (((cell_far (p := ⟨gb358, _, none⟩) NB341_358.out _).trans (((cell_far (p := ⟨gb358, _, none⟩) NB341_358.out _).trans (hHeld.2.2.2.1)))))))), ((cell_far (p := ⟨gb358, _, none⟩) NB342_358.out _).trans (((cell_far (p := ⟨gb358, _, none⟩) NB342_358.out _).trans (((cell_far (p := ⟨gb358, _, none⟩) NB342_358.out _).trans (((cell_far (p := ⟨gb358, _, none⟩) NB342_358.out _).trans (hHeld.2.2.2.2.1)))))))), ((cell_far (p := ⟨gb358, _, none⟩) NB342_358.out _).trans (((cell_far (p := ⟨gb358, _, none⟩) NB342_358.out _).trans (((cell_far (p := ⟨gb358, _, none⟩) NB342_358.out _).trans (((cell_far (p := ⟨gb358, _, none⟩) NB342_358.out _).trans (hHeld.2.2.2.2.2.1)))))))), ((cell_far (p := ⟨gb358, _, none⟩) NB342_358.out _).trans (((cell_far (p := ⟨gb358, _, none⟩) NB342_358.out _).trans (((cell_far (p := ⟨gb358, _, none⟩) NB342_358.out _).trans (((cell_far (p := ⟨gb358, _, none⟩) NB342_358.out _).trans (hHeld.2.2.2.2.2.2.1)))))))), ((cell_far (p := ⟨gb358, _, none⟩) NB342_358.out _).trans (((cell_far (p := ⟨gb358, _, none⟩) NB342_358.out _).trans (((cell_far (p := ⟨gb358, _, none⟩) NB342_358.out _).trans (((cell_far (p := ⟨gb358, _, none⟩) NB342_358.out _).trans (hHeld.2.2.2.2.2.2.2))))))))⟩ (fun hHeld => ?_)
  clear hK K
  refine done_ (done_of HT_.out (by kernel_rfl)) ?_
  have hnb51 := NB358_341.out
  have hnc51 := NB341_358.out
  have hnb52 := NB358_342.out
  have hnc52 := NB342_358.out
  have hnb53 := NB358_343.out
  have hnc53 := NB343_358.out
  have hcz54_0 : w46.cell? ⟨gb358, 0, none⟩ = some (.int .i64 0) := zc BK358 0
  have hcz54_1 : w46.cell? ⟨gb358, 1, none⟩ = some (.int .i64 0) := zc BK358 1
  have hcz54_2 : w46.cell? ⟨gb358, 2, none⟩ = some (.int .i64 0) := zc BK358 2
  have hcz54_3 : w46.cell? ⟨gb358, 3, none⟩ = some (.int .i64 0) := zc BK358 3
  have hfz54_0 := blk_frozen BK358.out 0
  have hfz54_1 := blk_frozen BK358.out 1
  have hfz54_2 := blk_frozen BK358.out 2
  have hfz54_3 := blk_frozen BK358.out 3
  try go_wp2_with (first | ((with_reducible refine gate_callee (f := 76) rfl ?_); refine goesL_ (some 26) rfl rfl Try.func76 (by kernel_rfl) rfl #[.agg #[.int .i64 t349, .int .i64 t350], .agg #[.int .i64 t354, .int .i64 t355]] rfl (by (try simp only [List.map_toArray, List.map_cons, List.map_nil]); first | done | rfl | (simp only [List.length_drop, List.length_take]; rfl)) ?_; (with_reducible refine (spec_dyCmp.calls k t349 t350 t354 t355 t359 _ A5.out).mono ?_); rintro e w55 ⟨rfl, hb⟩; refine ⟨_, rfl, ?_⟩; have n0_ := Aside0.mk (Kd.R_below (by (with_reducible repeat (first | apply Kd.R_alloc | apply Kd.R_drewN | apply Kd.R_drew)); exact (Kd.R_mono (Kd.R_far (p := ⟨gb358, 3, none⟩) (Kd.R_far (p := ⟨gb358, 2, none⟩) (Kd.R_far (p := ⟨gb358, 1, none⟩) (Kd.R_far (p := ⟨gb358, 0, none⟩) (Kd.R_types HO346.out BK358.out (by decide)) (fun _ hk => hk.2) (.int .i64 t349)) (fun _ hk => hk.2) (.int .i64 t350)) (fun _ hk => hk.2) (.int .i64 t354)) (fun _ hk => hk.2) (.int .i64 t355)) (fun _ h_ => h_.1))) hb); have n1_ := Aside0.mk (Kd.R_below (by (with_reducible repeat (first | apply Kd.R_alloc | apply Kd.R_drewN | apply Kd.R_drew)); exact (Kd.R_mono (Kd.R_far (p := ⟨gb358, 3, none⟩) (Kd.R_far (p := ⟨gb358, 2, none⟩) (Kd.R_far (p := ⟨gb358, 1, none⟩) (Kd.R_far (p := ⟨gb358, 0, none⟩) (Kd.R_types HO353.out BK358.out (by decide)) (fun _ hk => hk.2) (.int .i64 t349)) (fun _ hk => hk.2) (.int .i64 t350)) (fun _ hk => hk.2) (.int .i64 t354)) (fun _ hk => hk.2) (.int .i64 t355)) (fun _ h_ => h_.1))) hb); have n2_ := Aside0.mk (blk_below (g := gb341) (o := .cells #[.int .i64 a0_0, .int .i64 a0_1, .int .i64 a0_2, .int .i64 a0_3] 29 (0, 0)) (zq5 BK341) hb); have n3_ := Aside0.mk (blk_below (g := gb342) (o := .cells #[.int .i64 a1_0, .int .i64 a1_1, .int .i64 a1_2, .int .i64 a1_3] 29 (0, 0)) (zq5 BK342) hb); have n4_ := Aside0.mk (blk_below (g := gb343) (o := .cells #[.int .i64 0, .int .i64 0, .int .i64 0, .int .i64 0] 29 (0, 0)) (zq5 BK343) hb); have n5_ := Aside0.mk (blk_below (g := gb358) (o := .cells #[.int .i64 t349, .int .i64 t350, .int .i64 t354, .int .i64 t355] 29 (0, 0)) (by (with_reducible repeat (first | refine blk_drewN ?_ _ | refine blk_drew ?_ | refine blk_alloc ?_ _)); refine blk_put (cs := #[.int .i64 t349, .int .i64 t350, .int .i64 t354, .int .i64 0]) ?_ 3 _ rfl; (with_reducible repeat (first | refine blk_drewN ?_ _ | refine blk_drew ?_ | refine blk_alloc ?_ _)); refine blk_put (cs := #[.int .i64 t349, .int .i64 t350, .int .i64 0, .int .i64 0]) ?_ 2 _ rfl; (with_reducible repeat (first | refine blk_drewN ?_ _ | refine blk_drew ?_ | refine blk_alloc ?_ _)); refine blk_put (cs := #[.int .i64 t349, .int .i64 0, .int .i64 0, .int .i64 0]) ?_ 1 _ rfl; (with_reducible repeat (first | refine blk_drewN ?_ _ | refine blk_drew ?_ | refine blk_alloc ?_ _)); refine blk_put (cs := #[.int .i64 0, .int .i64 0, .int .i64 0, .int .i64 0]) ?_ 0 _ rfl; (with_reducible repeat (first | refine blk_drewN ?_ _ | refine blk_drew ?_ | refine blk_alloc ?_ _)); exact BK358.out) hb); have n6_ := Aside0.mk (below_step (z53_1 HB) hb); clear HO346; clear HO353; clear BK341; clear BK342; clear BK343; clear BK358; clear HB; have HO346 := n0_; have HO353 := n1_; have BK341 := n2_; have BK342 := n3_; have BK343 := n4_; have BK358 := n5_; have HB := n6_; clear n0_ n1_ n2_ n3_ n4_ n5_ n6_; (try clear hb); (try clear hb2); (try clear hk); (try clear hi); have hcz56_0 : w55.cell? ⟨gb358, 0, none⟩ = some (.int .i64 t349) := zc BK358 0; have hcz56_1 : w55.cell? ⟨gb358, 1, none⟩ = some (.int .i64 t350) := zc BK358 1; have hcz56_2 : w55.cell? ⟨gb358, 2, none⟩ = some (.int .i64 t354) := zc BK358 2; have hcz56_3 : w55.cell? ⟨gb358, 3, none⟩ = some (.int .i64 t355) := zc BK358 3; have hfz56_0 := blk_frozen BK358.out 0; have hfz56_1 := blk_frozen BK358.out 1; have hfz56_2 := blk_frozen BK358.out 2; have hfz56_3 := blk_frozen BK358.out 3; have hnb57 := NB343_341.out; have hnc57 := NB341_343.out; have hnb58 := NB343_342.out; have hnc58 := NB342_343.out; have hcz59_0 : w55.cell? ⟨gb343, 0, none⟩ = some (.int .i64 0) := zc BK343 0; have hcz59_1 : w55.cell? ⟨gb343, 1, none⟩ = some (.int .i64 0) := zc BK343 1; have hcz59_2 : w55.cell? ⟨gb343, 2, none⟩ = some (.int .i64 0) := zc BK343 2; have hcz59_3 : w55.cell? ⟨gb343, 3, none⟩ = some (.int .i64 0) := zc BK343 3; have hfz59_0 := blk_frozen BK343.out 0; have hfz59_1 := blk_frozen BK343.out 1; have hfz59_2 := blk_frozen BK343.out 2; have hfz59_3 := blk_frozen BK343.out 3))
  refine bodyPost_ret (results_ct rfl _ _ gb343 29 #[.int .i64 t349, .int .i64 t350, .int .i64 t354, .int .i64 t355] (0, 0) _ rfl (by (with_reducible repeat (first | refine blk_drewN ?_ _ | refine blk_drew ?_ | refine blk_alloc ?_ _)); refine blk_put (cs := #[.int .i64 t349, .int .i64 t350, .int .i64 t354, .int .i64 0]) ?_ 3 _ rfl; (with_reducible repeat (first | refine blk_drewN ?_ _ | refine blk_drew ?_ | refine blk_alloc ?_ _)); refine blk_put (cs := #[.int .i64 t349, .int .i64 t350, .int .i64 0, .int .i64 0]) ?_ 2 _ rfl; (with_reducible repeat (first | refine blk_drewN ?_ _ | refine blk_drew ?_ | refine blk_alloc ?_ _)); refine blk_put (cs := #[.int .i64 t349, .int .i64 0, .int .i64 0, .int .i64 0]) ?_ 1 _ rfl; (with_reducible repeat (first | refine blk_drewN ?_ _ | refine blk_drew ?_ | refine blk_alloc ?_ _)); refine blk_put (cs := #[.int .i64 0, .int .i64 0, .int .i64 0, .int .i64 0]) ?_ 0 _ rfl; (with_reducible repeat (first | refine blk_drewN ?_ _ | refine blk_drew ?_ | refine blk_alloc ?_ _)); exact BK343.out) Try.underlying29 rfl (by kernel_rfl)) rfl ?_
  exact ⟨by first | rfl | (simp [errW_none, errW_some] <;> rfl) | (simp [*, errW_none, errW_some] <;> rfl), (z53_1 HB)⟩
end Go.Proofs.Ytinpcalgdiigiaa.PD
