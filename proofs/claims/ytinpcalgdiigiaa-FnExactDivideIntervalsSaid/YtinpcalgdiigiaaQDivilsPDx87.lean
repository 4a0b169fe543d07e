-- By wip/mk/drv.py
import Derived.Test.YtinpcalgdiigiaaQDivilsPDx0
import Derived.Test.YtinpcalgdiigiaaQDivilsPDx1
import Derived.Test.YtinpcalgdiigiaaQDivilsPDx2
import Derived.Test.YtinpcalgdiigiaaQDivilsPDx3
import Derived.Test.YtinpcalgdiigiaaQDivilsPDx80
import Derived.Test.YtinpcalgdiigiaaQDivilsPDx86
namespace Go.Proofs.Ytinpcalgdiigiaa.PD
open Go.RowKit Go.Proofs.YtinpcalgdiigiaaW.PrintWords Go.Proofs.YtinpcalgdiigiaaW.PrintLast Go.Proofs.YtinpcalgdiigiaaW.PrintMore
attribute [local go_sem] max2_int min2_int max_two min_two max_three min_three max_four min_four
set_option linter.unusedVariables false
set_option linter.unusedSimpArgs false
/-! ### laws_FnExactDivideIntervals: function 14 -/
def laws_FnExactDivideIntervals.T1 : Bool × List (List Nat × List Nat) := (true, [([], []), ([0], [0]), ([], []), ([2, 1], [2]), ([1, 3, 3], [1, 3]), ([4], [4]), ([5], [5]), ([5], [5]), ([], []), ([8, 6, 4, 0, 1, 2, 3, 4, 5, 6, 8], [6, 8]), ([7, 9, 0, 1, 2, 3, 4, 5, 6, 7, 8, 9], [7])])
def laws_FnExactDivideIntervals.B1 : List Nat := [0, 1, 0, 7, 15, 31, 63, 63, 0, 383, 1023]
theorem laws_FnExactDivideIntervals.tab1 : rtab .any (opsOf Try.f14 1) = laws_FnExactDivideIntervals.T1 := by kernel_rfl
theorem laws_FnExactDivideIntervals.bits1 : waitsOk laws_FnExactDivideIntervals.T1.2 laws_FnExactDivideIntervals.B1 = true := by kernel_rfl
def laws_FnExactDivideIntervals.T2 : Bool × List (List Nat × List Nat) := (true, [([], []), ([0], [0]), ([], []), ([2, 1], [2]), ([1, 3, 3], [1, 3]), ([4], [4]), ([5], [5]), ([5], [5]), ([], []), ([8, 6, 4, 0, 1, 2, 3, 4, 5, 6, 8], [6, 8]), ([7, 9, 0, 1, 2, 3, 4, 5, 6, 7, 8, 9], [7])])
def laws_FnExactDivideIntervals.B2 : List Nat := [0, 1, 0, 7, 15, 31, 63, 63, 0, 383, 1023]
theorem laws_FnExactDivideIntervals.tab2 : rtab .any (opsOf Try.f14 2) = laws_FnExactDivideIntervals.T2 := by kernel_rfl
theorem laws_FnExactDivideIntervals.bits2 : waitsOk laws_FnExactDivideIntervals.T2.2 laws_FnExactDivideIntervals.B2 = true := by kernel_rfl
set_option maxHeartbeats 8000000 in
set_option maxRecDepth 100000 in
theorem laws_FnExactDivideIntervals.calls (k : Nat) (a0_0 : Int) (a0_1 : Int) (a0_2 : Int) (a0_3 : Int) (a1_0 : Int) (a1_1 : Int) (a1_2 : Int) (a1_3 : Int) (r : Bool) (w : World) (h : laws_FnExactDivideIntervals.f k a0_0 a0_1 a0_2 a0_3 a1_0 a1_1 a1_2 a1_3 = some r) :
  Calls Try.prog 14 #[.agg #[.int .i64 a0_0, .int .i64 a0_1, .int .i64 a0_2, .int .i64 a0_3], .agg #[.int .i64 a1_0, .int .i64 a1_1, .int .i64 a1_2, .int .i64 a1_3]] w fun e w' => e = .returned (.bool r) ∧ Below w.heap.size w w' := by
 have hu25 := Try.underlying25
 have hu29 := Try.underlying29
 have HB := Aside0.mk (Below.refl w.heap.size w)
 have H : ((laws_toInterval.f a0_0 a0_1 a0_2 a0_3).bind fun bt1219 => ((laws_toInterval.f a1_0 a1_1 a1_2 a1_3).bind fun bt1223 => ((spec_DivideIntervals.f k bt1219.1 bt1219.2.1 bt1219.2.2.1 bt1219.2.2.2 bt1223.1 bt1223.2.1 bt1223.2.2.1 bt1223.2.2.2).bind fun bt1227 => ((laws_toInterval.f a0_0 a0_1 a0_2 a0_3).bind fun bt1233 => ((laws_toInterval.f a1_0 a1_1 a1_2 a1_3).bind fun bt1237 => ((impl_DivideIntervals.f k bt1233.1 bt1233.2.1 bt1233.2.2.1 bt1233.2.2.2 bt1237.1 bt1237.2.1 bt1237.2.2.1 bt1237.2.2.2).bind fun bt1241 => ((laws_eqInterval.f bt1241.1 bt1241.2.1 bt1241.2.2.1 bt1241.2.2.2.1 bt1227.1 bt1227.2.1 bt1227.2.2.1 bt1227.2.2.2.1).bind fun t1247 => (if t1247 = true then (if (bt1241.2.2.2.2 != bt1227.2.2.2.2) = true then (none) else (some true)) else (none))))))))) = some r := h
 clear h
 replace H := Option.bind_eq_some_iff.mp H
 obtain ⟨⟨t1219, t1220, t1221, t1222⟩, A30, H⟩ := H
 replace H : ((laws_toInterval.f a1_0 a1_1 a1_2 a1_3).bind fun bt1223 => ((spec_DivideIntervals.f k t1219 t1220 t1221 t1222 bt1223.1 bt1223.2.1 bt1223.2.2.1 bt1223.2.2.2).bind fun bt1227 => ((laws_toInterval.f a0_0 a0_1 a0_2 a0_3).bind fun bt1233 => ((laws_toInterval.f a1_0 a1_1 a1_2 a1_3).bind fun bt1237 => ((impl_DivideIntervals.f k bt1233.1 bt1233.2.1 bt1233.2.2.1 bt1233.2.2.2 bt1237.1 bt1237.2.1 bt1237.2.2.1 bt1237.2.2.2).bind fun bt1241 => ((laws_eqInterval.f bt1241.1 bt1241.2.1 bt1241.2.2.1 bt1241.2.2.2.1 bt1227.1 bt1227.2.1 bt1227.2.2.1 bt1227.2.2.2.1).bind fun t1247 => (if t1247 = true then (if (bt1241.2.2.2.2 != bt1227.2.2.2.2) = true then (none) else (some true)) else (none)))))))) = some r := H
 have A3 := Aside0.mk A30
 clear A30
 replace H := Option.bind_eq_some_iff.mp H
 obtain ⟨⟨t1223, t1224, t1225, t1226⟩, A40, H⟩ := H
 replace H : ((spec_DivideIntervals.f k t1219 t1220 t1221 t1222 t1223 t1224 t1225 t1226).bind fun bt1227 => ((laws_toInterval.f a0_0 a0_1 a0_2 a0_3).bind fun bt1233 => ((laws_toInterval.f a1_0 a1_1 a1_2 a1_3).bind fun bt1237 => ((impl_DivideIntervals.f k bt1233.1 bt1233.2.1 bt1233.2.2.1 bt1233.2.2.2 bt1237.1 bt1237.2.1 bt1237.2.2.1 bt1237.2.2.2).bind fun bt1241 => ((laws_eqInterval.f bt1241.1 bt1241.2.1 bt1241.2.2.1 bt1241.2.2.2.1 bt1227.1 bt1227.2.1 bt1227.2.2.1 bt1227.2.2.2.1).bind fun t1247 => (if t1247 = true then (if (bt1241.2.2.2.2 != bt1227.2.2.2.2) = true then (none) else (some true)) else (none))))))) = some r := H
 have A4 := Aside0.mk A40
 clear A40
 replace H := Option.bind_eq_some_iff.mp H
 obtain ⟨⟨t1227, t1228, t1229, t1230, t1231⟩, A50, H⟩ := H
 replace H : ((laws_toInterval.f a0_0 a0_1 a0_2 a0_3).bind fun bt1233 => ((laws_toInterval.f a1_0 a1_1 a1_2 a1_3).bind fun bt1237 => ((impl_DivideIntervals.f k bt1233.1 bt1233.2.1 bt1233.2.2.1 bt1233.2.2.2 bt1237.1 bt1237.2.1 bt1237.2.2.1 bt1237.2.2.2).bind fun bt1241 => ((laws_eqInterval.f bt1241.1 bt1241.2.1 bt1241.2.2.1 bt1241.2.2.2.1 t1227 t1228 t1229 t1230).bind fun t1247 => (if t1247 = true then (if (bt1241.2.2.2.2 != t1231) = true then (none) else (some true)) else (none)))))) = some r := H
 have A5 := Aside0.mk A50
 clear A50
 replace H := Option.bind_eq_some_iff.mp H
 obtain ⟨⟨t1233, t1234, t1235, t1236⟩, A60, H⟩ := H
 replace H : ((laws_toInterval.f a1_0 a1_1 a1_2 a1_3).bind fun bt1237 => ((impl_DivideIntervals.f k t1233 t1234 t1235 t1236 bt1237.1 bt1237.2.1 bt1237.2.2.1 bt1237.2.2.2).bind fun bt1241 => ((laws_eqInterval.f bt1241.1 bt1241.2.1 bt1241.2.2.1 bt1241.2.2.2.1 t1227 t1228 t1229 t1230).bind fun t1247 => (if t1247 = true then (if (bt1241.2.2.2.2 != t1231) = true then (none) else (some true)) else (none))))) = some r := H
 have A6 := Aside0.mk A60
 clear A60
 replace H := Option.bind_eq_some_iff.mp H
 obtain ⟨⟨t1237, t1238, t1239, t1240⟩, A70, H⟩ := H
 replace H : ((impl_DivideIntervals.f k t1233 t1234 t1235 t1236 t1237 t1238 t1239 t1240).bind fun bt1241 => ((laws_eqInterval.f bt1241.1 bt1241.2.1 bt1241.2.2.1 bt1241.2.2.2.1 t1227 t1228 t1229 t1230).bind fun t1247 => (if t1247 = true then (if (bt1241.2.2.2.2 != t1231) = true then (none) else (some true)) else (none)))) = some r := H
 have A7 := Aside0.mk A70
 clear A70
 replace H := Option.bind_eq_some_iff.mp H
 obtain ⟨⟨t1241, t1242, t1243, t1244, t1245⟩, A80, H⟩ := H
 replace H : ((laws_eqInterval.f t1241 t1242 t1243 t1244 t1227 t1228 t1229 t1230).bind fun t1247 => (if t1247 = true then (if (t1245 != t1231) = true then (none) else (some true)) else (none))) = some r := H
 have A8 := Aside0.mk A80
 clear A80
 replace H := Option.bind_eq_some_iff.mp H
 obtain ⟨t1247, A90, H⟩ := H
 replace H : (if t1247 = true then (if (t1245 != t1231) = true then (none) else (some true)) else (none)) = some r := H
 have A9 := Aside0.mk A90
 clear A90
 by_cases c10 : t1247 = true
 ·
  subst c10
  have H1 : (if (t1245 != t1231) = true then (none) else (some true)) = some r := by rw [if_pos rfl] at H; exact H
  clear H
  have H := H1
  clear H1
  by_cases c11 : (t1245 != t1231) = true
  ·
   rw [if_pos c11] at H
   exact absurd H (by simp)
  ·
   rw [if_neg c11] at H
   have c11b0 : (t1245 != t1231) = false := by simpa using c11
   (try (have c11b1 : decide (t1245 = t1231) = true := by simpa using c11))
   (try (have c11b2 : (t1245 == t1231) = true := by simpa using c11))
   clear c11
   obtain rfl := Option.some.inj H
   go_enter Try.func14, Try.ntmps14
   try go_wp2_with (first | ((with_reducible refine gate_dst (N := 2) rfl ?_); refine zbe (N := 2) (cs := #[.int .i64 a0_0, .int .i64 a0_1, .int .i64 a0_2, .int .i64 a0_3]) (t := 25) ?_; intro gb1217 hg w12 hbox hb; have BK1217 := Aside0.mk (hbox); have GW1217 := Aside0.mk (zge (zb0 HB) hg); have GE1217 := GW1217; replace HB := Aside0.mk (below_step (zb0 HB) hb); clear hb hbox hg) | ((with_reducible refine gate_dst (N := 3) rfl ?_); refine zbe (N := 3) (cs := #[.int .i64 a1_0, .int .i64 a1_1, .int .i64 a1_2, .int .i64 a1_3]) (t := 25) ?_; intro gb1218 hg w13 hbox hb; have BK1218 := Aside0.mk (hbox); have GW1218 := Aside0.mk (zge (zb1 HB) hg); have GE1218 := GW1218; have NB1217_1218 := Aside0.mk (zlt BK1217 hg); have NB1218_1217 := Aside0.mk (zgt BK1217 hg); replace BK1217 := Aside0.mk (zbb BK1217 hb); replace HB := Aside0.mk (below_step (zb1 HB) hb); clear hb hbox hg))
   replace BK1217 := Aside0.mk (blk_drew BK1217.out); replace BK1218 := Aside0.mk (blk_drew BK1218.out); replace HB := Aside0.mk (below_drew1 HB.out)
   refine start_ (n := 11) (S := fun w' => w'.cell? ⟨gb1217, 0, none⟩ = some (.int .i64 a0_0) ∧ w'.cell? ⟨gb1217, 1, none⟩ = some (.int .i64 a0_1) ∧ w'.cell? ⟨gb1217, 2, none⟩ = some (.int .i64 a0_2) ∧ w'.cell? ⟨gb1217, 3, none⟩ = some (.int .i64 a0_3) ∧ w'.cell? ⟨gb1218, 0, none⟩ = some (.int .i64 a1_0) ∧ w'.cell? ⟨gb1218, 1, none⟩ = some (.int .i64 a1_1) ∧ w'.cell? ⟨gb1218, 2, none⟩ = some (.int .i64 a1_2) ∧ w'.cell? ⟨gb1218, 3, none⟩ = some (.int .i64 a1_3)) (ds := []) #[false, false, false, false, false, false, false, false, false, false, false] (by kernel_rfl) rfl rfl ⟨zc BK1217 0, zc BK1217 1, zc BK1217 2, zc BK1217 3, zc BK1218 0, zc BK1218 1, zc BK1218 2, zc BK1218 3⟩ (fun hHeld => ?_); refine with_tabW laws_FnExactDivideIntervals.tab1 laws_FnExactDivideIntervals.bits1 (fun HT_ HW_ => ?_)
   generalize w13.drew = w14 at BK1217 BK1218 HB hHeld ⊢
   refine take_ (i := 0) (N := some 10) (v := ?_) (a' := ?_) #[true, false, false, false, false, false, false, false, false, false, false] rfl rfl (take_ofW HT_.out HW_.out (by kernel_rfl)) (fun _ _ _ h => h) (Or.inl ⟨by rfl, ?_⟩) hHeld ?_ ?_
   rotate_left
   ·
    rintro w' ⟨s0, s1, s2, s3, s4, s5, s6, s7⟩
    go_simp
    with_reducible rfl
   rotate_left
   ·
    simp only [Act.put, List.setIfInBounds_toArray, List.set_cons_zero, List.set_cons_succ, i64_w, i32_w]
    rfl
   refine take_ (i := 2) (N := some 12) (v := ?_) (a' := ?_) #[true, false, true, false, false, false, false, false, false, false, false] rfl rfl (take_ofW HT_.out HW_.out (by kernel_rfl)) (fun _ _ _ h => h) (Or.inl ⟨by rfl, ?_⟩) hHeld ?_ ?_
   rotate_left
   ·
    rintro w' ⟨s0, s1, s2, s3, s4, s5, s6, s7⟩
    go_simp
    with_reducible rfl
   rotate_left
   ·
    simp only [Act.put, List.setIfInBounds_toArray, List.set_cons_zero, List.set_cons_succ, i64_w, i32_w]
    rfl
   refine join_ (σ := Nat) 2 #[true, true, true, true, true, true, true, true, true, false, false] (fun s_ => [(11, .agg #[.int .i64 t1219, .int .i64 t1220, .int .i64 t1221, .int .i64 t1222]), (13, .agg #[.int .i64 t1223, .int .i64 t1224, .int .i64 t1225, .int .i64 t1226]), (14, .tuple #[.agg #[.int .i64 t1227, .int .i64 t1228, .int .i64 t1229, .int .i64 t1230], .bool t1231]), (5, .pointer (some ⟨s_, 0, none⟩)), (9, .tuple #[.agg #[.int .i64 t1227, .int .i64 t1228, .int .i64 t1229, .int .i64 t1230], .bool t1231]), (15, .agg #[.int .i64 t1227, .int .i64 t1228, .int .i64 t1229, .int .i64 t1230]), (16, .bool t1231)]) (fun s_ w' => (w'.cell? ⟨gb1217, 0, none⟩ = some (.int .i64 a0_0) ∧ w'.cell? ⟨gb1217, 1, none⟩ = some (.int .i64 a0_1) ∧ w'.cell? ⟨gb1217, 2, none⟩ = some (.int .i64 a0_2) ∧ w'.cell? ⟨gb1217, 3, none⟩ = some (.int .i64 a0_3) ∧ w'.cell? ⟨gb1218, 0, none⟩ = some (.int .i64 a1_0) ∧ w'.cell? ⟨gb1218, 1, none⟩ = some (.int .i64 a1_1) ∧ w'.cell? ⟨gb1218, 2, none⟩ = some (.int .i64 a1_2) ∧ w'.cell? ⟨gb1218, 3, none⟩ = some (.int .i64 a1_3)) ∧ (w'.heap[gb1217]? = some (.cells #[.int .i64 a0_0, .int .i64 a0_1, .int .i64 a0_2, .int .i64 a0_3] 25 (0, 0))) ∧ (w'.heap[gb1218]? = some (.cells #[.int .i64 a1_0, .int .i64 a1_1, .int .i64 a1_2, .int .i64 a1_3] 25 (0, 0))) ∧ (w'.heap[s_]? = some (.cells #[.int .i64 0, .int .i64 0, .int .i64 0, .int .i64 0] 29 (0, 0))) ∧ (w.heap.size ≤ s_) ∧ (w.heap.size ≤ s_) ∧ (gb1217 ≠ s_) ∧ (s_ ≠ gb1217) ∧ (gb1218 ≠ s_) ∧ (s_ ≠ gb1218) ∧ (Below w.heap.size w w')) ?_ ?_
   rotate_left
   ·
    intro hCont
    refine two_ (i := 1) (j := 8) (Ni := some 11) (Nj := some 5) #[true, true, true, false, false, false, false, false, false, false, false] #[true, false, true, false, false, false, false, false, true, false, false] rfl rfl rfl rfl (two_of HT_.out (by kernel_rfl)) (by decide) (by decide) (fun K hK => ?_) (fun K hK => ?_)
    ·
     refine goes_ Try.func16 (by kernel_rfl) rfl #[.agg #[.int .i64 a0_0, .int .i64 a0_1, .int .i64 a0_2, .int .i64 a0_3]] (by rfl) rfl rfl zq6 ?_
     with_reducible refine (laws_toInterval.calls a0_0 a0_1 a0_2 a0_3 t1219 t1220 t1221 t1222 _ A3.out).mono ?_
     rintro e w15 ⟨rfl, hb⟩
     refine ⟨_, rfl, ?_⟩
     replace BK1217 := Aside0.mk (zbb BK1217 hb); replace BK1218 := Aside0.mk (zbb BK1218 hb); replace HB := Aside0.mk (below_step (zb1 HB) hb)
     (try clear hb)
     (try clear hb2)
     (try clear hk)
     (try clear hi)
     refine hK.out _ _ ⟨zc BK1217 0, zc BK1217 1, zc BK1217 2, zc BK1217 3, zc BK1218 0, zc BK1218 1, zc BK1218 2, zc BK1218 3⟩ (fun hHeld => ?_)
     clear hK K
     refine norm_ (a' := ?_) ?_ ?_
     rotate_left
     ·
      show Act.put _ (some 11) _ = _
      simp only [Act.put, List.setIfInBounds_toArray, List.set_cons_zero, List.set_cons_succ, i64_w, i32_w]; rfl
     refine two_ (i := 3) (j := 8) (Ni := some 13) (Nj := some 5) #[true, true, true, true, false, false, false, false, false, false, false] #[true, true, true, false, false, false, false, false, true, false, false] rfl rfl rfl rfl (two_of HT_.out (by kernel_rfl)) (by decide) (by decide) (fun K hK => ?_) (fun K hK => ?_)
     ·
      refine goes_ Try.func16 (by kernel_rfl) rfl #[.agg #[.int .i64 a1_0, .int .i64 a1_1, .int .i64 a1_2, .int .i64 a1_3]] (by rfl) rfl rfl zq6 ?_
      with_reducible refine (laws_toInterval.calls a1_0 a1_1 a1_2 a1_3 t1223 t1224 t1225 t1226 _ A4.out).mono ?_
      rintro e w16 ⟨rfl, hb⟩
      refine ⟨_, rfl, ?_⟩
      replace BK1217 := Aside0.mk (zbb BK1217 hb); replace BK1218 := Aside0.mk (zbb BK1218 hb); replace HB := Aside0.mk (below_step (zb1 HB) hb)
      (try clear hb)
      (try clear hb2)
      (try clear hk)
      (try clear hi)
      refine hK.out _ _ ⟨zc BK1217 0, zc BK1217 1, zc BK1217 2, zc BK1217 3, zc BK1218 0, zc BK1218 1, zc BK1218 2, zc BK1218 3⟩ (fun hHeld => ?_)
      clear hK K
      refine norm_ (a' := ?_) ?_ ?_
      rotate_left
      ·
       show Act.put _ (some 13) _ = _
       simp only [Act.put, List.setIfInBounds_toArray, List.set_cons_zero, List.set_cons_succ, i64_w, i32_w]; rfl
      refine two_ (i := 4) (j := 8) (Ni := some 14) (Nj := some 5) #[true, true, true, true, true, false, false, false, false, false, false] #[true, true, true, true, false, false, false, false, true, false, false] rfl rfl rfl rfl (two_of HT_.out (by kernel_rfl)) (by decide) (by decide) (fun K hK => ?_) (fun K hK => ?_)
      ·
       refine goes_ Try.func40 (by kernel_rfl) rfl #[.agg #[.int .i64 t1219, .int .i64 t1220, .int .i64 t1221, .int .i64 t1222], .agg #[.int .i64 t1223, .int .i64 t1224, .int .i64 t1225, .int .i64 t1226]] (by rfl) rfl rfl zq6 ?_
       with_reducible refine (spec_DivideIntervals.calls k t1219 t1220 t1221 t1222 t1223 t1224 t1225 t1226 t1227 t1228 t1229 t1230 t1231 _ A5.out).mono ?_
       rintro e w17 ⟨rfl, hb⟩
       refine ⟨_, rfl, ?_⟩
       replace BK1217 := Aside0.mk (zbb BK1217 hb); replace BK1218 := Aside0.mk (zbb BK1218 hb); replace HB := Aside0.mk (below_step (zb1 HB) hb)
       (try clear hb)
       (try clear hb2)
       (try clear hk)
       (try clear hi)
       refine hK.out _ _ ⟨zc BK1217 0, zc BK1217 1, zc BK1217 2, zc BK1217 3, zc BK1218 0, zc BK1218 1, zc BK1218 2, zc BK1218 3⟩ (fun hHeld => ?_)
       clear hK K
       refine norm_ (a' := ?_) ?_ ?_
       rotate_left
       ·
        show Act.put _ (some 14) _ = _
        simp only [Act.put, List.setIfInBounds_toArray, List.set_cons_zero, List.set_cons_succ, i64_w, i32_w]; rfl
       refine zp (i := 5) (N := some 9) #[true, true, true, true, true, true, false, false, false, false, false] (any_of HT_.out (by kernel_rfl)) ?_
       refine zp (i := 6) (N := some 15) #[true, true, true, true, true, true, true, false, false, false, false] (any_of HT_.out (by kernel_rfl)) ?_
       refine zp (i := 7) (N := some 16) #[true, true, true, true, true, true, true, true, false, false, false] (any_of HT_.out (by kernel_rfl)) ?_
       refine one_ (i := 8) (N := some 5) #[true, true, true, true, true, true, true, true, true, false, false] rfl rfl (one_of HT_.out (by kernel_rfl)) (by decide) (fun K hK => ?_)
       refine box_step ?hg (N := 5) ?hd (cs := #[.int .i64 0, .int .i64 0, .int .i64 0, .int .i64 0]) (t := 29) ?hr ?_; (case hd => rfl); (case hg => rfl); (case hr => first | (go_simp; done) | (go_simp; rfl))
       intro gb1232 hg w18 hbox hb
       have n0_ := Aside0.mk (zbb BK1217 hb)
       have n1_ := Aside0.mk (zbb BK1218 hb)
       have n2_ := Aside0.mk (below_step (zb1 HB) hb)
       have BK1232 := Aside0.mk (hbox)
       have GW1232 := Aside0.mk (zge (zb1 HB) hg)
       have GE1232 := Aside0.mk (zge (zb1 HB) hg)
       have NB1217_1232 := Aside0.mk (zlt BK1217 hg)
       have NB1232_1217 := Aside0.mk (zgt BK1217 hg)
       have NB1218_1232 := Aside0.mk (zlt BK1218 hg)
       have NB1232_1218 := Aside0.mk (zgt BK1218 hg)
       clear BK1217 BK1218 HB
       have BK1217 := n0_; have BK1218 := n1_; have HB := n2_
       clear n0_ n1_ n2_ hb hbox hg
       refine hK.out _ _ ⟨zc BK1217 0, zc BK1217 1, zc BK1217 2, zc BK1217 3, zc BK1218 0, zc BK1218 1, zc BK1218 2, zc BK1218 3⟩ (fun hHeld => ?_)
       clear hK K
       refine norm_ (a' := ?_) ?_ ?_
       rotate_left
       ·
        show Act.put _ (some 5) _ = _
        simp only [Act.put, List.setIfInBounds_toArray, List.set_cons_zero, List.set_cons_succ, i64_w, i32_w]; rfl
       exact norm_ (by simp only [putAll, Act.put, List.setIfInBounds_toArray, List.set_cons_zero, List.set_cons_succ]) (hCont (gb1232) _ ⟨hHeld, (zq1 BK1217), (zq1 BK1218), (zq1 BK1232), GW1232.out, GE1232.out, NB1217_1232.out, NB1232_1217.out, NB1218_1232.out, NB1232_1218.out, (zb1 HB)⟩)
      ·
       refine box_step ?hg (N := 5) ?hd (cs := #[.int .i64 0, .int .i64 0, .int .i64 0, .int .i64 0]) (t := 29) ?hr ?_; (case hd => rfl); (case hg => rfl); (case hr => first | (go_simp; done) | (go_simp; rfl))
       intro gb1232 hg w17 hbox hb
       have n0_ := Aside0.mk (zbb BK1217 hb)
       have n1_ := Aside0.mk (zbb BK1218 hb)
       have n2_ := Aside0.mk (below_step (zb1 HB) hb)
       have BK1232 := Aside0.mk (hbox)
       have GW1232 := Aside0.mk (zge (zb1 HB) hg)
       have GE1232 := Aside0.mk (zge (zb1 HB) hg)
       have NB1217_1232 := Aside0.mk (zlt BK1217 hg)
       have NB1232_1217 := Aside0.mk (zgt BK1217 hg)
       have NB1218_1232 := Aside0.mk (zlt BK1218 hg)
       have NB1232_1218 := Aside0.mk (zgt BK1218 hg)
       clear BK1217 BK1218 HB
       have BK1217 := n0_; have BK1218 := n1_; have HB := n2_
       clear n0_ n1_ n2_ hb hbox hg
       refine hK.out _ _ ⟨zc BK1217 0, zc BK1217 1, zc BK1217 2, zc BK1217 3, zc BK1218 0, zc BK1218 1, zc BK1218 2, zc BK1218 3⟩ (fun hHeld => ?_)
       clear hK K
       refine norm_ (a' := ?_) ?_ ?_
       rotate_left
       ·
        show Act.put _ (some 5) _ = _
        simp only [Act.put, List.setIfInBounds_toArray, List.set_cons_zero, List.set_cons_succ, i64_w, i32_w]; rfl
       refine one_ (i := 4) (N := some 14) #[true, true, true, true, true, false, false, false, true, false, false] rfl rfl (one_of HT_.out (by kernel_rfl)) (by decide) (fun K hK => ?_)
       refine goes_ Try.func40 (by kernel_rfl) rfl #[.agg #[.int .i64 t1219, .int .i64 t1220, .int .i64 t1221, .int .i64 t1222], .agg #[.int .i64 t1223, .int .i64 t1224, .int .i64 t1225, .int .i64 t1226]] (by rfl) rfl rfl zq6 ?_
       with_reducible refine (spec_DivideIntervals.calls k t1219 t1220 t1221 t1222 t1223 t1224 t1225 t1226 t1227 t1228 t1229 t1230 t1231 _ A5.out).mono ?_
       rintro e w18 ⟨rfl, hb⟩
       refine ⟨_, rfl, ?_⟩
       replace BK1217 := Aside0.mk (zbb BK1217 hb); replace BK1218 := Aside0.mk (zbb BK1218 hb); replace BK1232 := Aside0.mk (zbb BK1232 hb); replace HB := Aside0.mk (below_step (zb1 HB) hb)
       (try clear hb)
       (try clear hb2)
       (try clear hk)
       (try clear hi)
       refine hK.out _ _ ⟨zc BK1217 0, zc BK1217 1, zc BK1217 2, zc BK1217 3, zc BK1218 0, zc BK1218 1, zc BK1218 2, zc BK1218 3⟩ (fun hHeld => ?_)
       clear hK K
       refine norm_ (a' := ?_) ?_ ?_
       rotate_left
       ·
        show Act.put _ (some 14) _ = _
        simp only [Act.put, List.setIfInBounds_toArray, List.set_cons_zero, List.set_cons_succ, i64_w, i32_w]; rfl
       refine zp (i := 5) (N := some 9) #[true, true, true, true, true, true, false, false, true, false, false] (any_of HT_.out (by kernel_rfl)) ?_
       refine zp (i := 6) (N := some 15) #[true, true, true, true, true, true, true, false, true, false, false] (any_of HT_.out (by kernel_rfl)) ?_
       refine zp (i := 7) (N := some 16) #[true, true, true, true, true, true, true, true, true, false, false] (any_of HT_.out (by kernel_rfl)) ?_
       exact norm_ (by simp only [putAll, Act.put, List.setIfInBounds_toArray, List.set_cons_zero, List.set_cons_succ]) (hCont (gb1232) _ ⟨hHeld, (zq1 BK1217), (zq1 BK1218), (zq1 BK1232), GW1232.out, GE1232.out, NB1217_1232.out, NB1232_1217.out, NB1218_1232.out, NB1232_1218.out, (zb1 HB)⟩)
     ·
      refine box_step ?hg (N := 5) ?hd (cs := #[.int .i64 0, .int .i64 0, .int .i64 0, .int .i64 0]) (t := 29) ?hr ?_; (case hd => rfl); (case hg => rfl); (case hr => first | (go_simp; done) | (go_simp; rfl))
      intro gb1232 hg w16 hbox hb
      have n0_ := Aside0.mk (zbb BK1217 hb)
      have n1_ := Aside0.mk (zbb BK1218 hb)
      have n2_ := Aside0.mk (below_step (zb1 HB) hb)
      have BK1232 := Aside0.mk (hbox)
      have GW1232 := Aside0.mk (zge (zb1 HB) hg)
      have GE1232 := Aside0.mk (zge (zb1 HB) hg)
      have NB1217_1232 := Aside0.mk (zlt BK1217 hg)
      have NB1232_1217 := Aside0.mk (zgt BK1217 hg)
      have NB1218_1232 := Aside0.mk (zlt BK1218 hg)
      have NB1232_1218 := Aside0.mk (zgt BK1218 hg)
      clear BK1217 BK1218 HB
      have BK1217 := n0_; have BK1218 := n1_; have HB := n2_
      clear n0_ n1_ n2_ hb hbox hg
      refine hK.out _ _ ⟨zc BK1217 0, zc BK1217 1, zc BK1217 2, zc BK1217 3, zc BK1218 0, zc BK1218 1, zc BK1218 2, zc BK1218 3⟩ (fun hHeld => ?_)
      clear hK K
      refine norm_ (a' := ?_) ?_ ?_
      rotate_left
      ·
       show Act.put _ (some 5) _ = _
       simp only [Act.put, List.setIfInBounds_toArray, List.set_cons_zero, List.set_cons_succ, i64_w, i32_w]; rfl
      refine one_ (i := 3) (N := some 13) #[true, true, true, true, false, false, false, false, true, false, false] rfl rfl (one_of HT_.out (by kernel_rfl)) (by decide) (fun K hK => ?_)
      refine goes_ Try.func16 (by kernel_rfl) rfl #[.agg #[.int .i64 a1_0, .int .i64 a1_1, .int .i64 a1_2, .int .i64 a1_3]] (by rfl) rfl rfl zq6 ?_
      with_reducible refine (laws_toInterval.calls a1_0 a1_1 a1_2 a1_3 t1223 t1224 t1225 t1226 _ A4.out).mono ?_
      rintro e w17 ⟨rfl, hb⟩
      refine ⟨_, rfl, ?_⟩
      replace BK1217 := Aside0.mk (zbb BK1217 hb); replace BK1218 := Aside0.mk (zbb BK1218 hb); replace BK1232 := Aside0.mk (zbb BK1232 hb); replace HB := Aside0.mk (below_step (zb1 HB) hb)
      (try clear hb)
      (try clear hb2)
      (try clear hk)
      (try clear hi)
      refine hK.out _ _ ⟨zc BK1217 0, zc BK1217 1, zc BK1217 2, zc BK1217 3, zc BK1218 0, zc BK1218 1, zc BK1218 2, zc BK1218 3⟩ (fun hHeld => ?_)
      clear hK K
      refine norm_ (a' := ?_) ?_ ?_
      rotate_left
      ·
       show Act.put _ (some 13) _ = _
       simp only [Act.put, List.setIfInBounds_toArray, List.set_cons_zero, List.set_cons_succ, i64_w, i32_w]; rfl
      refine one_ (i := 4) (N := some 14) #[true, true, true, true, true, false, false, false, true, false, false] rfl rfl (one_of HT_.out (by kernel_rfl)) (by decide) (fun K hK => ?_)
      refine goes_ Try.func40 (by kernel_rfl) rfl #[.agg #[.int .i64 t1219, .int .i64 t1220, .int .i64 t1221, .int .i64 t1222], .agg #[.int .i64 t1223, .int .i64 t1224, .int .i64 t1225, .int .i64 t1226]] (by rfl) rfl rfl zq6 ?_
      with_reducible refine (spec_DivideIntervals.calls k t1219 t1220 t1221 t1222 t1223 t1224 t1225 t1226 t1227 t1228 t1229 t1230 t1231 _ A5.out).mono ?_
      rintro e w18 ⟨rfl, hb⟩
      refine ⟨_, rfl, ?_⟩
      replace BK1217 := Aside0.mk (zbb BK1217 hb); replace BK1218 := Aside0.mk (zbb BK1218 hb); replace BK1232 := Aside0.mk (zbb BK1232 hb); replace HB := Aside0.mk (below_step (zb1 HB) hb)
      (try clear hb)
      (try clear hb2)
      (try clear hk)
      (try clear hi)
      refine hK.out _ _ ⟨zc BK1217 0, zc BK1217 1, zc BK1217 2, zc BK1217 3, zc BK1218 0, zc BK1218 1, zc BK1218 2, zc BK1218 3⟩ (fun hHeld => ?_)
      clear hK K
      refine norm_ (a' := ?_) ?_ ?_
      rotate_left
      ·
       show Act.put _ (some 14) _ = _
       simp only [Act.put, List.setIfInBounds_toArray, List.set_cons_zero, List.set_cons_succ, i64_w, i32_w]; rfl
      refine zp (i := 5) (N := some 9) #[true, true, true, true, true, true, false, false, true, false, false] (any_of HT_.out (by kernel_rfl)) ?_
      refine zp (i := 6) (N := some 15) #[true, true, true, true, true, true, true, false, true, false, false] (any_of HT_.out (by kernel_rfl)) ?_
      refine zp (i := 7) (N := some 16) #[true, true, true, true, true, true, true, true, true, false, false] (any_of HT_.out (by kernel_rfl)) ?_
      exact norm_ (by simp only [putAll, Act.put, List.setIfInBounds_toArray, List.set_cons_zero, List.set_cons_succ]) (hCont (gb1232) _ ⟨hHeld, (zq1 BK1217), (zq1 BK1218), (zq1 BK1232), GW1232.out, GE1232.out, NB1217_1232.out, NB1232_1217.out, NB1218_1232.out, NB1232_1218.out, (zb1 HB)⟩)
    ·
     refine box_step ?hg (N := 5) ?hd (cs := #[.int .i64 0, .int .i64 0, .int .i64 0, .int .i64 0]) (t := 29) ?hr ?_; (case hd => rfl); (case hg => rfl); (case hr => first | (go_simp; done) | (go_simp; rfl))
     intro gb1232 hg w15 hbox hb
     have n0_ := Aside0.mk (zbb BK1217 hb)
     have n1_ := Aside0.mk (zbb BK1218 hb)
     have n2_ := Aside0.mk (below_step (zb1 HB) hb)
     have BK1232 := Aside0.mk (hbox)
     have GW1232 := Aside0.mk (zge (zb1 HB) hg)
     have GE1232 := Aside0.mk (zge (zb1 HB) hg)
     have NB1217_1232 := Aside0.mk (zlt BK1217 hg)
     have NB1232_1217 := Aside0.mk (zgt BK1217 hg)
     have NB1218_1232 := Aside0.mk (zlt BK1218 hg)
     have NB1232_1218 := Aside0.mk (zgt BK1218 hg)
     clear BK1217 BK1218 HB
     have BK1217 := n0_; have BK1218 := n1_; have HB := n2_
     clear n0_ n1_ n2_ hb hbox hg
     refine hK.out _ _ ⟨zc BK1217 0, zc BK1217 1, zc BK1217 2, zc BK1217 3, zc BK1218 0, zc BK1218 1, zc BK1218 2, zc BK1218 3⟩ (fun hHeld => ?_)
     clear hK K
     refine norm_ (a' := ?_) ?_ ?_
     rotate_left
     ·
      show Act.put _ (some 5) _ = _
      simp only [Act.put, List.setIfInBounds_toArray, List.set_cons_zero, List.set_cons_succ, i64_w, i32_w]; rfl
     refine one_ (i := 1) (N := some 11) #[true, true, true, false, false, false, false, false, true, false, false] rfl rfl (one_of HT_.out (by kernel_rfl)) (by decide) (fun K hK => ?_)
     refine goes_ Try.func16 (by kernel_rfl) rfl #[.agg #[.int .i64 a0_0, .int .i64 a0_1, .int .i64 a0_2, .int .i64 a0_3]] (by rfl) rfl rfl zq6 ?_
     with_reducible refine (laws_toInterval.calls a0_0 a0_1 a0_2 a0_3 t1219 t1220 t1221 t1222 _ A3.out).mono ?_
     rintro e w16 ⟨rfl, hb⟩
     refine ⟨_, rfl, ?_⟩
     replace BK1217 := Aside0.mk (zbb BK1217 hb); replace BK1218 := Aside0.mk (zbb BK1218 hb); replace BK1232 := Aside0.mk (zbb BK1232 hb); replace HB := Aside0.mk (below_step (zb1 HB) hb)
     (try clear hb)
     (try clear hb2)
     (try clear hk)
     (try clear hi)
     refine hK.out _ _ ⟨zc BK1217 0, zc BK1217 1, zc BK1217 2, zc BK1217 3, zc BK1218 0, zc BK1218 1, zc BK1218 2, zc BK1218 3⟩ (fun hHeld => ?_)
     clear hK K
     refine norm_ (a' := ?_) ?_ ?_
     rotate_left
     ·
      show Act.put _ (some 11) _ = _
      simp only [Act.put, List.setIfInBounds_toArray, List.set_cons_zero, List.set_cons_succ, i64_w, i32_w]; rfl
     refine one_ (i := 3) (N := some 13) #[true, true, true, true, false, false, false, false, true, false, false] rfl rfl (one_of HT_.out (by kernel_rfl)) (by decide) (fun K hK => ?_)
     refine goes_ Try.func16 (by kernel_rfl) rfl #[.agg #[.int .i64 a1_0, .int .i64 a1_1, .int .i64 a1_2, .int .i64 a1_3]] (by rfl) rfl rfl zq6 ?_
     with_reducible refine (laws_toInterval.calls a1_0 a1_1 a1_2 a1_3 t1223 t1224 t1225 t1226 _ A4.out).mono ?_
     rintro e w17 ⟨rfl, hb⟩
     refine ⟨_, rfl, ?_⟩
     replace BK1217 := Aside0.mk (zbb BK1217 hb); replace BK1218 := Aside0.mk (zbb BK1218 hb); replace BK1232 := Aside0.mk (zbb BK1232 hb); replace HB := Aside0.mk (below_step (zb1 HB) hb)
     (try clear hb)
     (try clear hb2)
     (try clear hk)
     (try clear hi)
     refine hK.out _ _ ⟨zc BK1217 0, zc BK1217 1, zc BK1217 2, zc BK1217 3, zc BK1218 0, zc BK1218 1, zc BK1218 2, zc BK1218 3⟩ (fun hHeld => ?_)
     clear hK K
     refine norm_ (a' := ?_) ?_ ?_
     rotate_left
     ·
      show Act.put _ (some 13) _ = _
      simp only [Act.put, List.setIfInBounds_toArray, List.set_cons_zero, List.set_cons_succ, i64_w, i32_w]; rfl
     refine one_ (i := 4) (N := some 14) #[true, true, true, true, true, false, false, false, true, false, false] rfl rfl (one_of HT_.out (by kernel_rfl)) (by decide) (fun K hK => ?_)
     refine goes_ Try.func40 (by kernel_rfl) rfl #[.agg #[.int .i64 t1219, .int .i64 t1220, .int .i64 t1221, .int .i64 t1222], .agg #[.int .i64 t1223, .int .i64 t1224, .int .i64 t1225, .int .i64 t1226]] (by rfl) rfl rfl zq6 ?_
     with_reducible refine (spec_DivideIntervals.calls k t1219 t1220 t1221 t1222 t1223 t1224 t1225 t1226 t1227 t1228 t1229 t1230 t1231 _ A5.out).mono ?_
     rintro e w18 ⟨rfl, hb⟩
     refine ⟨_, rfl, ?_⟩
     replace BK1217 := Aside0.mk (zbb BK1217 hb); replace BK1218 := Aside0.mk (zbb BK1218 hb); replace BK1232 := Aside0.mk (zbb BK1232 hb); replace HB := Aside0.mk (below_step (zb1 HB) hb)
     (try clear hb)
     (try clear hb2)
     (try clear hk)
     (try clear hi)
     refine hK.out _ _ ⟨zc BK1217 0, zc BK1217 1, zc BK1217 2, zc BK1217 3, zc BK1218 0, zc BK1218 1, zc BK1218 2, zc BK1218 3⟩ (fun hHeld => ?_)
     clear hK K
     refine norm_ (a' := ?_) ?_ ?_
     rotate_left
     ·
      show Act.put _ (some 14) _ = _
      simp only [Act.put, List.setIfInBounds_toArray, List.set_cons_zero, List.set_cons_succ, i64_w, i32_w]; rfl
     refine zp (i := 5) (N := some 9) #[true, true, true, true, true, true, false, false, true, false, false] (any_of HT_.out (by kernel_rfl)) ?_
     refine zp (i := 6) (N := some 15) #[true, true, true, true, true, true, true, false, true, false, false] (any_of HT_.out (by kernel_rfl)) ?_
     refine zp (i := 7) (N := some 16) #[true, true, true, true, true, true, true, true, true, false, false] (any_of HT_.out (by kernel_rfl)) ?_
     exact norm_ (by simp only [putAll, Act.put, List.setIfInBounds_toArray, List.set_cons_zero, List.set_cons_succ]) (hCont (gb1232) _ ⟨hHeld, (zq1 BK1217), (zq1 BK1218), (zq1 BK1232), GW1232.out, GE1232.out, NB1217_1232.out, NB1232_1217.out, NB1218_1232.out, NB1232_1218.out, (zb1 HB)⟩)
   rintro gb1232 w19 ⟨hS_, h0_, h1_, h2_, h3_, h4_, h5_, h6_, h7_, h8_, h9_⟩
   have BK1232 : Aside0 (w19.heap[gb1232]? = some (.cells #[.int .i64 0, .int .i64 0, .int .i64 0, .int .i64 0] 29 (0, 0))) := ⟨h2_⟩
   have GW1232 : Aside0 (w.heap.size ≤ gb1232) := ⟨h3_⟩
   have GE1232 : Aside0 (w.heap.size ≤ gb1232) := ⟨h4_⟩
   have NB1217_1232 : Aside0 (gb1217 ≠ gb1232) := ⟨h5_⟩
   have NB1232_1217 : Aside0 (gb1232 ≠ gb1217) := ⟨h6_⟩
   have NB1218_1232 : Aside0 (gb1218 ≠ gb1232) := ⟨h7_⟩
   have NB1232_1218 : Aside0 (gb1232 ≠ gb1218) := ⟨h8_⟩
   replace BK1217 : Aside0 (w19.heap[gb1217]? = some (.cells #[.int .i64 a0_0, .int .i64 a0_1, .int .i64 a0_2, .int .i64 a0_3] 25 (0, 0))) := ⟨h0_⟩; replace BK1218 : Aside0 (w19.heap[gb1218]? = some (.cells #[.int .i64 a1_0, .int .i64 a1_1, .int .i64 a1_2, .int .i64 a1_3] 25 (0, 0))) := ⟨h1_⟩; replace HB : Aside0 (Below w.heap.size w w19) := ⟨h9_⟩
   clear h0_ h1_ h2_ h3_ h4_ h5_ h6_ h7_ h8_ h9_
   have hHeld : w19.cell? ⟨gb1217, 0, none⟩ = some (.int .i64 a0_0) ∧ w19.cell? ⟨gb1217, 1, none⟩ = some (.int .i64 a0_1) ∧ w19.cell? ⟨gb1217, 2, none⟩ = some (.int .i64 a0_2) ∧ w19.cell? ⟨gb1217, 3, none⟩ = some (.int .i64 a0_3) ∧ w19.cell? ⟨gb1218, 0, none⟩ = some (.int .i64 a1_0) ∧ w19.cell? ⟨gb1218, 1, none⟩ = some (.int .i64 a1_1) ∧ w19.cell? ⟨gb1218, 2, none⟩ = some (.int .i64 a1_2) ∧ w19.cell? ⟨gb1218, 3, none⟩ = some (.int .i64 a1_3) := hS_
   refine norm_ (a' := ?_) ?_ ?_
   rotate_left
   ·
    simp only [putAll, Act.put, List.setIfInBounds_toArray, List.set_cons_zero, List.set_cons_succ]
    rfl
   refine one_ (i := 9) (N := none) #[true, true, true, true, true, true, true, true, true, true, false] rfl rfl (one_of HT_.out (by kernel_rfl)) (by decide) (fun K hK => ?_)
   have hs20 : w19.cell? ⟨gb1232, 0, none⟩ = some (.int .i64 0) := zc BK1232 0
   have hfs20 := blk_frozen BK1232.out 0
   have hns20_0 := NB1217_1232.out
   have hns20_1 := NB1218_1232.out
   have hms20_0 := NB1232_1217.out
   have hms20_1 := NB1232_1218.out
   have hs21 : w19.cell? ⟨gb1232, 1, none⟩ = some (.int .i64 0) := zc BK1232 1
   have hfs21 := blk_frozen BK1232.out 1
   have hns21_0 := NB1217_1232.out
   have hns21_1 := NB1218_1232.out
   have hms21_0 := NB1232_1217.out
   have hms21_1 := NB1232_1218.out
   have hs22 : w19.cell? ⟨gb1232, 2, none⟩ = some (.int .i64 0) := zc BK1232 2
   have hfs22 := blk_frozen BK1232.out 2
   have hns22_0 := NB1217_1232.out
   have hns22_1 := NB1218_1232.out
   have hms22_0 := NB1232_1217.out
   have hms22_1 := NB1232_1218.out
   have hs23 : w19.cell? ⟨gb1232, 3, none⟩ = some (.int .i64 0) := zc BK1232 3
   have hfs23 := blk_frozen BK1232.out 3
   have hns23_0 := NB1217_1232.out
   have hns23_1 := NB1218_1232.out
   have hms23_0 := NB1232_1217.out
   have hms23_1 := NB1232_1218.out
   refine skip_ (w1 := ?_) (by rfl) rfl ?_ ?_
   rotate_left
   ·
    go_simp
    rfl
   refine hK.out _ _ ⟨((cell_far (p := ⟨gb1232, _, none⟩) NB1217_1232.out _).trans (((cell_far (p := ⟨gb1232, _, none⟩) NB1217_1232.out _).trans (((cell_far (p := ⟨gb1232, _, none⟩) NB1217_1232.out _).trans (((cell_far (p := ⟨gb1232, _, none⟩) NB1217_1232.out _).trans (hHeld.1)))))))), ((cell_far (p := ⟨gb1232, _, none⟩) NB1217_1232.out _).trans (((cell_far (p := ⟨gb1232, _, none⟩) NB1217_1232.out _).trans (((cell_far (p := ⟨gb1232, _, none⟩) NB1217_1232.out _).trans (((cell_far (p := ⟨gb1232, _, none⟩) NB1217_1232.out _).trans (hHeld.2.1)))))))), ((cell_far (p := ⟨gb1232, _, none⟩) NB1217_1232.out _).trans (((cell_far (p := ⟨gb1232, _, none⟩) NB1217_1232.out _).trans (((cell_far (p := ⟨gb1232, _, none⟩) NB1217_1232.out _).trans (((cell_far (p := ⟨gb1232, _, none⟩) NB1217_1232.out _).trans (hHeld.2.2.1)))))))), ((cell_far (p := ⟨gb1232, _, none⟩) NB1217_1232.out _).trans (((cell_far (p := ⟨gb1232, _, none⟩) NB1217_1232.out _).trans (((cell_far (p := ⟨gb1232, _, none⟩) NB1217_1232.out _).trans (((cell_far (p := ⟨gb1232, _, none⟩) NB1217_1232.out _).trans (hHeld.2.2.2.1)))))))), ((cell_far (p := ⟨gb1232, _, none⟩) NB1218_1232.out _).trans (((cell_far (p := ⟨gb1232, _, none⟩) NB1218_1232.out _).trans (((cell_far (p := ⟨gb1232, _, none⟩) NB1218_1232.out _).trans (((cell_far (p := ⟨gb1232, _, none⟩) NB1218_1232.out _).trans (hHeld.2.2.2.2.1)))))))), ((cell_far (p := ⟨gb1232, _, none⟩) NB1218_1232.out _).trans (((cell_far (p := ⟨gb1232, _, none⟩) NB1218_1232.out _).trans (((cell_far (p := ⟨gb1232, _, none⟩) NB1218_1232.out _).trans (((cell_far (p := ⟨gb1232, _, none⟩) NB1218_1232.out _).trans (hHeld.2.2.2.2.2.1)))))))), ((cell_far (p := ⟨gb1232, _, none⟩) NB1218_1232.out _).trans (((cell_far (p := ⟨gb1232, _, none⟩) NB1218_1232.out _).trans (((cell_far (p := ⟨gb1232, _, none⟩) NB1218_1232.out _).trans (((cell_far (p := ⟨gb1232, _, none⟩) NB1218_1232.out _).trans (hHeld.2.2.2.2.2.2.1)))))))), ((cell_far (p := ⟨gb1232, _, none⟩) NB1218_1232.out _).trans (((cell_far (p := ⟨gb1232, _, none⟩) NB1218_1232.out _).trans (((cell_far (p := ⟨gb1232, _, none⟩) NB1218_1232.out _).trans (((cell_far (p := ⟨gb1232, _, none⟩) NB1218_1232.out _).trans (hHeld.2.2.2.2.2.2.2))))))))⟩ (fun hHeld => ?_)
   clear hK K
   refine zp (i := 10) (N := some 6) #[true, true, true, true, true, true, true, true, true, true, true] (any_of HT_.out (by kernel_rfl)) ?_
   refine done_ (done_of HT_.out (by kernel_rfl)) ?_
   try go_wp2
   have n0_ : Aside0 (((((w19.setCell ⟨gb1232, 0, none⟩ (.int .i64 t1227)).setCell ⟨gb1232, 1, none⟩ (.int .i64 t1228)).setCell ⟨gb1232, 2, none⟩ (.int .i64 t1229)).setCell ⟨gb1232, 3, none⟩ (.int .i64 t1230)).heap[gb1217]? = some (.cells #[.int .i64 a0_0, .int .i64 a0_1, .int .i64 a0_2, .int .i64 a0_3] 25 (0, 0))) := ⟨zq5 BK1217⟩
   have n1_ : Aside0 (((((w19.setCell ⟨gb1232, 0, none⟩ (.int .i64 t1227)).setCell ⟨gb1232, 1, none⟩ (.int .i64 t1228)).setCell ⟨gb1232, 2, none⟩ (.int .i64 t1229)).setCell ⟨gb1232, 3, none⟩ (.int .i64 t1230)).heap[gb1218]? = some (.cells #[.int .i64 a1_0, .int .i64 a1_1, .int .i64 a1_2, .int .i64 a1_3] 25 (0, 0))) := ⟨zq5 BK1218⟩
   have n2_ : Aside0 (((((w19.setCell ⟨gb1232, 0, none⟩ (.int .i64 t1227)).setCell ⟨gb1232, 1, none⟩ (.int .i64 t1228)).setCell ⟨gb1232, 2, none⟩ (.int .i64 t1229)).setCell ⟨gb1232, 3, none⟩ (.int .i64 t1230)).heap[gb1232]? = some (.cells #[.int .i64 t1227, .int .i64 t1228, .int .i64 t1229, .int .i64 t1230] 29 (0, 0))) := ⟨by (with_reducible repeat (first | refine blk_drewN ?_ _ | refine blk_drew ?_ | refine blk_alloc ?_ _)); refine blk_put (cs := #[.int .i64 t1227, .int .i64 t1228, .int .i64 t1229, .int .i64 0]) ?_ 3 _ rfl; (with_reducible repeat (first | refine blk_drewN ?_ _ | refine blk_drew ?_ | refine blk_alloc ?_ _)); refine blk_put (cs := #[.int .i64 t1227, .int .i64 t1228, .int .i64 0, .int .i64 0]) ?_ 2 _ rfl; (with_reducible repeat (first | refine blk_drewN ?_ _ | refine blk_drew ?_ | refine blk_alloc ?_ _)); refine blk_put (cs := #[.int .i64 t1227, .int .i64 0, .int .i64 0, .int .i64 0]) ?_ 1 _ rfl; (with_reducible repeat (first | refine blk_drewN ?_ _ | refine blk_drew ?_ | refine blk_alloc ?_ _)); refine blk_put (cs := #[.int .i64 0, .int .i64 0, .int .i64 0, .int .i64 0]) ?_ 0 _ rfl; (with_reducible repeat (first | refine blk_drewN ?_ _ | refine blk_drew ?_ | refine blk_alloc ?_ _)); exact BK1232.out⟩
   have n3_ : Aside0 (Below w.heap.size w ((((w19.setCell ⟨gb1232, 0, none⟩ (.int .i64 t1227)).setCell ⟨gb1232, 1, none⟩ (.int .i64 t1228)).setCell ⟨gb1232, 2, none⟩ (.int .i64 t1229)).setCell ⟨gb1232, 3, none⟩ (.int .i64 t1230))) := ⟨(zb1 HB)⟩
   (try clear BK1217)
   (try clear BK1218)
   (try clear BK1232)
   (try clear HB)
   generalize ((((w19.setCell ⟨gb1232, 0, none⟩ (.int .i64 t1227)).setCell ⟨gb1232, 1, none⟩ (.int .i64 t1228)).setCell ⟨gb1232, 2, none⟩ (.int .i64 t1229)).setCell ⟨gb1232, 3, none⟩ (.int .i64 t1230)) = w24 at n0_ n1_ n2_ n3_ ⊢
   have BK1217 := n0_; have BK1218 := n1_; have BK1232 := n2_; have HB := n3_
   clear n0_ n1_ n2_ n3_
   replace BK1217 := Aside0.mk (blk_drew BK1217.out); replace BK1218 := Aside0.mk (blk_drew BK1218.out); replace BK1232 := Aside0.mk (blk_drew BK1232.out); replace HB := Aside0.mk (below_drew1 HB.out)
   refine start_ (n := 11) (S := fun w' => w'.cell? ⟨gb1217, 0, none⟩ = some (.int .i64 a0_0) ∧ w'.cell? ⟨gb1217, 1, none⟩ = some (.int .i64 a0_1) ∧ w'.cell? ⟨gb1217, 2, none⟩ = some (.int .i64 a0_2) ∧ w'.cell? ⟨gb1217, 3, none⟩ = some (.int .i64 a0_3) ∧ w'.cell? ⟨gb1218, 0, none⟩ = some (.int .i64 a1_0) ∧ w'.cell? ⟨gb1218, 1, none⟩ = some (.int .i64 a1_1) ∧ w'.cell? ⟨gb1218, 2, none⟩ = some (.int .i64 a1_2) ∧ w'.cell? ⟨gb1218, 3, none⟩ = some (.int .i64 a1_3)) (ds := []) #[false, false, false, false, false, false, false, false, false, false, false] (by kernel_rfl) rfl rfl ⟨zc BK1217 0, zc BK1217 1, zc BK1217 2, zc BK1217 3, zc BK1218 0, zc BK1218 1, zc BK1218 2, zc BK1218 3⟩ (fun hHeld => ?_); refine with_tabW laws_FnExactDivideIntervals.tab2 laws_FnExactDivideIntervals.bits2 (fun HT_ HW_ => ?_)
   generalize w24.drew = w25 at BK1217 BK1218 BK1232 HB hHeld ⊢
   refine take_ (i := 0) (N := some 18) (v := ?_) (a' := ?_) #[true, false, false, false, false, false, false, false, false, false, false] rfl rfl (take_ofW HT_.out HW_.out (by kernel_rfl)) (fun _ _ _ h => h) (Or.inl ⟨by rfl, ?_⟩) hHeld ?_ ?_
   rotate_left
   ·
    rintro w' ⟨s0, s1, s2, s3, s4, s5, s6, s7⟩
    go_simp
    with_reducible rfl
   rotate_left
   ·
    simp only [Act.put, List.setIfInBounds_toArray, List.set_cons_zero, List.set_cons_succ, i64_w, i32_w]
    rfl
   refine take_ (i := 2) (N := some 20) (v := ?_) (a' := ?_) #[true, false, true, false, false, false, false, false, false, false, false] rfl rfl (take_ofW HT_.out HW_.out (by kernel_rfl)) (fun _ _ _ h => h) (Or.inl ⟨by rfl, ?_⟩) hHeld ?_ ?_
   rotate_left
   ·
    rintro w' ⟨s0, s1, s2, s3, s4, s5, s6, s7⟩
    go_simp
    with_reducible rfl
   rotate_left
   ·
    simp only [Act.put, List.setIfInBounds_toArray, List.set_cons_zero, List.set_cons_succ, i64_w, i32_w]
    rfl
   refine join_ (σ := Nat) 2 #[true, true, true, true, true, true, true, true, true, false, false] (fun s_ => [(19, .agg #[.int .i64 t1233, .int .i64 t1234, .int .i64 t1235, .int .i64 t1236]), (21, .agg #[.int .i64 t1237, .int .i64 t1238, .int .i64 t1239, .int .i64 t1240]), (22, .tuple #[.agg #[.int .i64 t1241, .int .i64 t1242, .int .i64 t1243, .int .i64 t1244], .bool t1245]), (7, .pointer (some ⟨s_, 0, none⟩)), (17, .tuple #[.agg #[.int .i64 t1241, .int .i64 t1242, .int .i64 t1243, .int .i64 t1244], .bool t1245]), (23, .agg #[.int .i64 t1241, .int .i64 t1242, .int .i64 t1243, .int .i64 t1244]), (24, .bool t1245)]) (fun s_ w' => (w'.cell? ⟨gb1217, 0, none⟩ = some (.int .i64 a0_0) ∧ w'.cell? ⟨gb1217, 1, none⟩ = some (.int .i64 a0_1) ∧ w'.cell? ⟨gb1217, 2, none⟩ = some (.int .i64 a0_2) ∧ w'.cell? ⟨gb1217, 3, none⟩ = some (.int .i64 a0_3) ∧ w'.cell? ⟨gb1218, 0, none⟩ = some (.int .i64 a1_0) ∧ w'.cell? ⟨gb1218, 1, none⟩ = some (.int .i64 a1_1) ∧ w'.cell? ⟨gb1218, 2, none⟩ = some (.int .i64 a1_2) ∧ w'.cell? ⟨gb1218, 3, none⟩ = some (.int .i64 a1_3)) ∧ (w'.heap[gb1217]? = some (.cells #[.int .i64 a0_0, .int .i64 a0_1, .int .i64 a0_2, .int .i64 a0_3] 25 (0, 0))) ∧ (w'.heap[gb1218]? = some (.cells #[.int .i64 a1_0, .int .i64 a1_1, .int .i64 a1_2, .int .i64 a1_3] 25 (0, 0))) ∧ (w'.heap[gb1232]? = some (.cells #[.int .i64 t1227, .int .i64 t1228, .int .i64 t1229, .int .i64 t1230] 29 (0, 0))) ∧ (w'.heap[s_]? = some (.cells #[.int .i64 0, .int .i64 0, .int .i64 0, .int .i64 0] 29 (0, 0))) ∧ (w.heap.size ≤ s_) ∧ (w.heap.size ≤ s_) ∧ (gb1217 ≠ s_) ∧ (s_ ≠ gb1217) ∧ (gb1218 ≠ s_) ∧ (s_ ≠ gb1218) ∧ (gb1232 ≠ s_) ∧ (s_ ≠ gb1232) ∧ (Below w.heap.size w w')) ?_ ?_
   rotate_left
   ·
    intro hCont
    refine two_ (i := 1) (j := 8) (Ni := some 19) (Nj := some 7) #[true, true, true, false, false, false, false, false, false, false, false] #[true, false, true, false, false, false, false, false, true, false, false] rfl rfl rfl rfl (two_of HT_.out (by kernel_rfl)) (by decide) (by decide) (fun K hK => ?_) (fun K hK => ?_)
    ·
     refine goes_ Try.func16 (by kernel_rfl) rfl #[.agg #[.int .i64 a0_0, .int .i64 a0_1, .int .i64 a0_2, .int .i64 a0_3]] (by rfl) rfl rfl zq6 ?_
     with_reducible refine (laws_toInterval.calls a0_0 a0_1 a0_2 a0_3 t1233 t1234 t1235 t1236 _ A6.out).mono ?_
     rintro e w26 ⟨rfl, hb⟩
     refine ⟨_, rfl, ?_⟩
     replace BK1217 := Aside0.mk (zbb BK1217 hb); replace BK1218 := Aside0.mk (zbb BK1218 hb); replace BK1232 := Aside0.mk (zbb BK1232 hb); replace HB := Aside0.mk (below_step (zb1 HB) hb)
     (try clear hb)
     (try clear hb2)
     (try clear hk)
     (try clear hi)
     refine hK.out _ _ ⟨zc BK1217 0, zc BK1217 1, zc BK1217 2, zc BK1217 3, zc BK1218 0, zc BK1218 1, zc BK1218 2, zc BK1218 3⟩ (fun hHeld => ?_)
     clear hK K
     refine norm_ (a' := ?_) ?_ ?_
     rotate_left
     ·
      show Act.put _ (some 19) _ = _
      simp only [Act.put, List.setIfInBounds_toArray, List.set_cons_zero, List.set_cons_succ, i64_w, i32_w]; rfl
     refine two_ (i := 3) (j := 8) (Ni := some 21) (Nj := some 7) #[true, true, true, true, false, false, false, false, false, false, false] #[true, true, true, false, false, false, false, false, true, false, false] rfl rfl rfl rfl (two_of HT_.out (by kernel_rfl)) (by decide) (by decide) (fun K hK => ?_) (fun K hK => ?_)
     ·
      refine goes_ Try.func16 (by kernel_rfl) rfl #[.agg #[.int .i64 a1_0, .int .i64 a1_1, .int .i64 a1_2, .int .i64 a1_3]] (by rfl) rfl rfl zq6 ?_
      with_reducible refine (laws_toInterval.calls a1_0 a1_1 a1_2 a1_3 t1237 t1238 t1239 t1240 _ A7.out).mono ?_
      rintro e w27 ⟨rfl, hb⟩
      refine ⟨_, rfl, ?_⟩
      replace BK1217 := Aside0.mk (zbb BK1217 hb); replace BK1218 := Aside0.mk (zbb BK1218 hb); replace BK1232 := Aside0.mk (zbb BK1232 hb); replace HB := Aside0.mk (below_step (zb1 HB) hb)
      (try clear hb)
      (try clear hb2)
      (try clear hk)
      (try clear hi)
      refine hK.out _ _ ⟨zc BK1217 0, zc BK1217 1, zc BK1217 2, zc BK1217 3, zc BK1218 0, zc BK1218 1, zc BK1218 2, zc BK1218 3⟩ (fun hHeld => ?_)
      clear hK K
      refine norm_ (a' := ?_) ?_ ?_
      rotate_left
      ·
       show Act.put _ (some 21) _ = _
       simp only [Act.put, List.setIfInBounds_toArray, List.set_cons_zero, List.set_cons_succ, i64_w, i32_w]; rfl
      refine two_ (i := 4) (j := 8) (Ni := some 22) (Nj := some 7) #[true, true, true, true, true, false, false, false, false, false, false] #[true, true, true, true, false, false, false, false, true, false, false] rfl rfl rfl rfl (two_of HT_.out (by kernel_rfl)) (by decide) (by decide) (fun K hK => ?_) (fun K hK => ?_)
      ·
       refine goes_ Try.func41 (by kernel_rfl) rfl #[.agg #[.int .i64 t1233, .int .i64 t1234, .int .i64 t1235, .int .i64 t1236], .agg #[.int .i64 t1237, .int .i64 t1238, .int .i64 t1239, .int .i64 t1240]] (by rfl) rfl rfl zq6 ?_
       with_reducible refine (impl_DivideIntervals.calls k t1233 t1234 t1235 t1236 t1237 t1238 t1239 t1240 t1241 t1242 t1243 t1244 t1245 _ A8.out).mono ?_
       rintro e w28 ⟨rfl, hb⟩
       refine ⟨_, rfl, ?_⟩
       replace BK1217 := Aside0.mk (zbb BK1217 hb); replace BK1218 := Aside0.mk (zbb BK1218 hb); replace BK1232 := Aside0.mk (zbb BK1232 hb); replace HB := Aside0.mk (below_step (zb1 HB) hb)
       (try clear hb)
       (try clear hb2)
       (try clear hk)
       (try clear hi)
       refine hK.out _ _ ⟨zc BK1217 0, zc BK1217 1, zc BK1217 2, zc BK1217 3, zc BK1218 0, zc BK1218 1, zc BK1218 2, zc BK1218 3⟩ (fun hHeld => ?_)
       clear hK K
       refine norm_ (a' := ?_) ?_ ?_
       rotate_left
       ·
        show Act.put _ (some 22) _ = _
        simp only [Act.put, List.setIfInBounds_toArray, List.set_cons_zero, List.set_cons_succ, i64_w, i32_w]; rfl
       refine zp (i := 5) (N := some 17) #[true, true, true, true, true, true, false, false, false, false, false] (any_of HT_.out (by kernel_rfl)) ?_
       refine zp (i := 6) (N := some 23) #[true, true, true, true, true, true, true, false, false, false, false] (any_of HT_.out (by kernel_rfl)) ?_
       refine zp (i := 7) (N := some 24) #[true, true, true, true, true, true, true, true, false, false, false] (any_of HT_.out (by kernel_rfl)) ?_
       refine one_ (i := 8) (N := some 7) #[true, true, true, true, true, true, true, true, true, false, false] rfl rfl (one_of HT_.out (by kernel_rfl)) (by decide) (fun K hK => ?_)
       refine box_step ?hg (N := 7) ?hd (cs := #[.int .i64 0, .int .i64 0, .int .i64 0, .int .i64 0]) (t := 29) ?hr ?_; (case hd => rfl); (case hg => rfl); (case hr => first | (go_simp; done) | (go_simp; rfl))
       intro gb1246 hg w29 hbox hb
       have n0_ := Aside0.mk (zbb BK1217 hb)
       have n1_ := Aside0.mk (zbb BK1218 hb)
       have n2_ := Aside0.mk (zbb BK1232 hb)
       have n3_ := Aside0.mk (below_step (zb1 HB) hb)
       have BK1246 := Aside0.mk (hbox)
       have GW1246 := Aside0.mk (zge (zb1 HB) hg)
       have GE1246 := Aside0.mk (zge (zb1 HB) hg)
       have NB1217_1246 := Aside0.mk (zlt BK1217 hg)
       have NB1246_1217 := Aside0.mk (zgt BK1217 hg)
       have NB1218_1246 := Aside0.mk (zlt BK1218 hg)
       have NB1246_1218 := Aside0.mk (zgt BK1218 hg)
       have NB1232_1246 := Aside0.mk (zlt BK1232 hg)
       have NB1246_1232 := Aside0.mk (zgt BK1232 hg)
       clear BK1217 BK1218 BK1232 HB
       have BK1217 := n0_; have BK1218 := n1_; have BK1232 := n2_; have HB := n3_
       clear n0_ n1_ n2_ n3_ hb hbox hg
       refine hK.out _ _ ⟨zc BK1217 0, zc BK1217 1, zc BK1217 2, zc BK1217 3, zc BK1218 0, zc BK1218 1, zc BK1218 2, zc BK1218 3⟩ (fun hHeld => ?_)
       clear hK K
       refine norm_ (a' := ?_) ?_ ?_
       rotate_left
       ·
        show Act.put _ (some 7) _ = _
        simp only [Act.put, List.setIfInBounds_toArray, List.set_cons_zero, List.set_cons_succ, i64_w, i32_w]; rfl
       exact norm_ (by simp only [putAll, Act.put, List.setIfInBounds_toArray, List.set_cons_zero, List.set_cons_succ]) (hCont (gb1246) _ ⟨hHeld, (zq1 BK1217), (zq1 BK1218), (zq1 BK1232), (zq1 BK1246), GW1246.out, GE1246.out, NB1217_1246.out, NB1246_1217.out, NB1218_1246.out, NB1246_1218.out, NB1232_1246.out, NB1246_1232.out, (zb1 HB)⟩)
      ·
       refine box_step ?hg (N := 7) ?hd (cs := #[.int .i64 0, .int .i64 0, .int .i64 0, .int .i64 0]) (t := 29) ?hr ?_; (case hd => rfl); (case hg => rfl); (case hr => first | (go_simp; done) | (go_simp; rfl))
       intro gb1246 hg w28 hbox hb
       have n0_ := Aside0.mk (zbb BK1217 hb)
       have n1_ := Aside0.mk (zbb BK1218 hb)
       have n2_ := Aside0.mk (zbb BK1232 hb)
       have n3_ := Aside0.mk (below_step (zb1 HB) hb)
       have BK1246 := Aside0.mk (hbox)
       have GW1246 := Aside0.mk (zge (zb1 HB) hg)
       have GE1246 := Aside0.mk (zge (zb1 HB) hg)
       have NB1217_1246 := Aside0.mk (zlt BK1217 hg)
       have NB1246_1217 := Aside0.mk (zgt BK1217 hg)
       have NB1218_1246 := Aside0.mk (zlt BK1218 hg)
       have NB1246_1218 := Aside0.mk (zgt BK1218 hg)
       have NB1232_1246 := Aside0.mk (zlt BK1232 hg)
       have NB1246_1232 := Aside0.mk (zgt BK1232 hg)
       clear BK1217 BK1218 BK1232 HB
       have BK1217 := n0_; have BK1218 := n1_; have BK1232 := n2_; have HB := n3_
       clear n0_ n1_ n2_ n3_ hb hbox hg
       refine hK.out _ _ ⟨zc BK1217 0, zc BK1217 1, zc BK1217 2, zc BK1217 3, zc BK1218 0, zc BK1218 1, zc BK1218 2, zc BK1218 3⟩ (fun hHeld => ?_)
       clear hK K
       refine norm_ (a' := ?_) ?_ ?_
       rotate_left
       ·
        show Act.put _ (some 7) _ = _
        simp only [Act.put, List.setIfInBounds_toArray, List.set_cons_zero, List.set_cons_succ, i64_w, i32_w]; rfl
       refine one_ (i := 4) (N := some 22) #[true, true, true, true, true, false, false, false, true, false, false] rfl rfl (one_of HT_.out (by kernel_rfl)) (by decide) (fun K hK => ?_)
       refine goes_ Try.func41 (by kernel_rfl) rfl #[.agg #[.int .i64 t1233, .int .i64 t1234, .int .i64 t1235, .int .i64 t1236], .agg #[.int .i64 t1237, .int .i64 t1238, .int .i64 t1239, .int .i64 t1240]] (by rfl) rfl rfl zq6 ?_
       with_reducible refine (impl_DivideIntervals.calls k t1233 t1234 t1235 t1236 t1237 t1238 t1239 t1240 t1241 t1242 t1243 t1244 t1245 _ A8.out).mono ?_
       rintro e w29 ⟨rfl, hb⟩
       refine ⟨_, rfl, ?_⟩
       replace BK1217 := Aside0.mk (zbb BK1217 hb); replace BK1218 := Aside0.mk (zbb BK1218 hb); replace BK1232 := Aside0.mk (zbb BK1232 hb); replace BK1246 := Aside0.mk (zbb BK1246 hb); replace HB := Aside0.mk (below_step (zb1 HB) hb)
       (try clear hb)
       (try clear hb2)
       (try clear hk)
       (try clear hi)
       refine hK.out _ _ ⟨zc BK1217 0, zc BK1217 1, zc BK1217 2, zc BK1217 3, zc BK1218 0, zc BK1218 1, zc BK1218 2, zc BK1218 3⟩ (fun hHeld => ?_)
       clear hK K
       refine norm_ (a' := ?_) ?_ ?_
       rotate_left
       ·
        show Act.put _ (some 22) _ = _
        simp only [Act.put, List.setIfInBounds_toArray, List.set_cons_zero, List.set_cons_succ, i64_w, i32_w]; rfl
       refine zp (i := 5) (N := some 17) #[true, true, true, true, true, true, false, false, true, false, false] (any_of HT_.out (by kernel_rfl)) ?_
       refine zp (i := 6) (N := some 23) #[true, true, true, true, true, true, true, false, true, false, false] (any_of HT_.out (by kernel_rfl)) ?_
       refine zp (i := 7) (N := some 24) #[true, true, true, true, true, true, true, true, true, false, false] (any_of HT_.out (by kernel_rfl)) ?_
       exact norm_ (by simp only [putAll, Act.put, List.setIfInBounds_toArray, List.set_cons_zero, List.set_cons_succ]) (hCont (gb1246) _ ⟨hHeld, (zq1 BK1217), (zq1 BK1218), (zq1 BK1232), (zq1 BK1246), GW1246.out, GE1246.out, NB1217_1246.out, NB1246_1217.out, NB1218_1246.out, NB1246_1218.out, NB1232_1246.out, NB1246_1232.out, (zb1 HB)⟩)
     ·
      refine box_step ?hg (N := 7) ?hd (cs := #[.int .i64 0, .int .i64 0, .int .i64 0, .int .i64 0]) (t := 29) ?hr ?_; (case hd => rfl); (case hg => rfl); (case hr => first | (go_simp; done) | (go_simp; rfl))
      intro gb1246 hg w27 hbox hb
      have n0_ := Aside0.mk (zbb BK1217 hb)
      have n1_ := Aside0.mk (zbb BK1218 hb)
      have n2_ := Aside0.mk (zbb BK1232 hb)
      have n3_ := Aside0.mk (below_step (zb1 HB) hb)
      have BK1246 := Aside0.mk (hbox)
      have GW1246 := Aside0.mk (zge (zb1 HB) hg)
      have GE1246 := Aside0.mk (zge (zb1 HB) hg)
      have NB1217_1246 := Aside0.mk (zlt BK1217 hg)
      have NB1246_1217 := Aside0.mk (zgt BK1217 hg)
      have NB1218_1246 := Aside0.mk (zlt BK1218 hg)
      have NB1246_1218 := Aside0.mk (zgt BK1218 hg)
      have NB1232_1246 := Aside0.mk (zlt BK1232 hg)
      have NB1246_1232 := Aside0.mk (zgt BK1232 hg)
      clear BK1217 BK1218 BK1232 HB
      have BK1217 := n0_; have BK1218 := n1_; have BK1232 := n2_; have HB := n3_
      clear n0_ n1_ n2_ n3_ hb hbox hg
      refine hK.out _ _ ⟨zc BK1217 0, zc BK1217 1, zc BK1217 2, zc BK1217 3, zc BK1218 0, zc BK1218 1, zc BK1218 2, zc BK1218 3⟩ (fun hHeld => ?_)
      clear hK K
      refine norm_ (a' := ?_) ?_ ?_
      rotate_left
      ·
       show Act.put _ (some 7) _ = _
       simp only [Act.put, List.setIfInBounds_toArray, List.set_cons_zero, List.set_cons_succ, i64_w, i32_w]; rfl
      refine one_ (i := 3) (N := some 21) #[true, true, true, true, false, false, false, false, true, false, false] rfl rfl (one_of HT_.out (by kernel_rfl)) (by decide) (fun K hK => ?_)
      refine goes_ Try.func16 (by kernel_rfl) rfl #[.agg #[.int .i64 a1_0, .int .i64 a1_1, .int .i64 a1_2, .int .i64 a1_3]] (by rfl) rfl rfl zq6 ?_
      with_reducible refine (laws_toInterval.calls a1_0 a1_1 a1_2 a1_3 t1237 t1238 t1239 t1240 _ A7.out).mono ?_
      rintro e w28 ⟨rfl, hb⟩
      refine ⟨_, rfl, ?_⟩
      replace BK1217 := Aside0.mk (zbb BK1217 hb); replace BK1218 := Aside0.mk (zbb BK1218 hb); replace BK1232 := Aside0.mk (zbb BK1232 hb); replace BK1246 := Aside0.mk (zbb BK1246 hb); replace HB := Aside0.mk (below_step (zb1 HB) hb)
      (try clear hb)
      (try clear hb2)
      (try clear hk)
      (try clear hi)
      refine hK.out _ _ ⟨zc BK1217 0, zc BK1217 1, zc BK1217 2, zc BK1217 3, zc BK1218 0, zc BK1218 1, zc BK1218 2, zc BK1218 3⟩ (fun hHeld => ?_)
      clear hK K
      refine norm_ (a' := ?_) ?_ ?_
      rotate_left
      ·
       show Act.put _ (some 21) _ = _
       simp only [Act.put, List.setIfInBounds_toArray, List.set_cons_zero, List.set_cons_succ, i64_w, i32_w]; rfl
      refine one_ (i := 4) (N := some 22) #[true, true, true, true, true, false, false, false, true, false, false] rfl rfl (one_of HT_.out (by kernel_rfl)) (by decide) (fun K hK => ?_)
      refine goes_ Try.func41 (by kernel_rfl) rfl #[.agg #[.int .i64 t1233, .int .i64 t1234, .int .i64 t1235, .int .i64 t1236], .agg #[.int .i64 t1237, .int .i64 t1238, .int .i64 t1239, .int .i64 t1240]] (by rfl) rfl rfl zq6 ?_
      with_reducible refine (impl_DivideIntervals.calls k t1233 t1234 t1235 t1236 t1237 t1238 t1239 t1240 t1241 t1242 t1243 t1244 t1245 _ A8.out).mono ?_
      rintro e w29 ⟨rfl, hb⟩
      refine ⟨_, rfl, ?_⟩
      replace BK1217 := Aside0.mk (zbb BK1217 hb); replace BK1218 := Aside0.mk (zbb BK1218 hb); replace BK1232 := Aside0.mk (zbb BK1232 hb); replace BK1246 := Aside0.mk (zbb BK1246 hb); replace HB := Aside0.mk (below_step (zb1 HB) hb)
      (try clear hb)
      (try clear hb2)
      (try clear hk)
      (try clear hi)
      refine hK.out _ _ ⟨zc BK1217 0, zc BK1217 1, zc BK1217 2, zc BK1217 3, zc BK1218 0, zc BK1218 1, zc BK1218 2, zc BK1218 3⟩ (fun hHeld => ?_)
      clear hK K
      refine norm_ (a' := ?_) ?_ ?_
      rotate_left
      ·
       show Act.put _ (some 22) _ = _
       simp only [Act.put, List.setIfInBounds_toArray, List.set_cons_zero, List.set_cons_succ, i64_w, i32_w]; rfl
      refine zp (i := 5) (N := some 17) #[true, true, true, true, true, true, false, false, true, false, false] (any_of HT_.out (by kernel_rfl)) ?_
      refine zp (i := 6) (N := some 23) #[true, true, true, true, true, true, true, false, true, false, false] (any_of HT_.out (by kernel_rfl)) ?_
      refine zp (i := 7) (N := some 24) #[true, true, true, true, true, true, true, true, true, false, false] (any_of HT_.out (by kernel_rfl)) ?_
      exact norm_ (by simp only [putAll, Act.put, List.setIfInBounds_toArray, List.set_cons_zero, List.set_cons_succ]) (hCont (gb1246) _ ⟨hHeld, (zq1 BK1217), (zq1 BK1218), (zq1 BK1232), (zq1 BK1246), GW1246.out, GE1246.out, NB1217_1246.out, NB1246_1217.out, NB1218_1246.out, NB1246_1218.out, NB1232_1246.out, NB1246_1232.out, (zb1 HB)⟩)
    ·
     refine box_step ?hg (N := 7) ?hd (cs := #[.int .i64 0, .int .i64 0, .int .i64 0, .int .i64 0]) (t := 29) ?hr ?_; (case hd => rfl); (case hg => rfl); (case hr => first | (go_simp; done) | (go_simp; rfl))
     intro gb1246 hg w26 hbox hb
     have n0_ := Aside0.mk (zbb BK1217 hb)
     have n1_ := Aside0.mk (zbb BK1218 hb)
     have n2_ := Aside0.mk (zbb BK1232 hb)
     have n3_ := Aside0.mk (below_step (zb1 HB) hb)
     have BK1246 := Aside0.mk (hbox)
     have GW1246 := Aside0.mk (zge (zb1 HB) hg)
     have GE1246 := Aside0.mk (zge (zb1 HB) hg)
     have NB1217_1246 := Aside0.mk (zlt BK1217 hg)
     have NB1246_1217 := Aside0.mk (zgt BK1217 hg)
     have NB1218_1246 := Aside0.mk (zlt BK1218 hg)
     have NB1246_1218 := Aside0.mk (zgt BK1218 hg)
     have NB1232_1246 := Aside0.mk (zlt BK1232 hg)
     have NB1246_1232 := Aside0.mk (zgt BK1232 hg)
     clear BK1217 BK1218 BK1232 HB
     have BK1217 := n0_; have BK1218 := n1_; have BK1232 := n2_; have HB := n3_
     clear n0_ n1_ n2_ n3_ hb hbox hg
     refine hK.out _ _ ⟨zc BK1217 0, zc BK1217 1, zc BK1217 2, zc BK1217 3, zc BK1218 0, zc BK1218 1, zc BK1218 2, zc BK1218 3⟩ (fun hHeld => ?_)
     clear hK K
     refine norm_ (a' := ?_) ?_ ?_
     rotate_left
     ·
      show Act.put _ (some 7) _ = _
      simp only [Act.put, List.setIfInBounds_toArray, List.set_cons_zero, List.set_cons_succ, i64_w, i32_w]; rfl
     refine one_ (i := 1) (N := some 19) #[true, true, true, false, false, false, false, false, true, false, false] rfl rfl (one_of HT_.out (by kernel_rfl)) (by decide) (fun K hK => ?_)
     refine goes_ Try.func16 (by kernel_rfl) rfl #[.agg #[.int .i64 a0_0, .int .i64 a0_1, .int .i64 a0_2, .int .i64 a0_3]] (by rfl) rfl rfl zq6 ?_
     with_reducible refine (laws_toInterval.calls a0_0 a0_1 a0_2 a0_3 t1233 t1234 t1235 t1236 _ A6.out).mono ?_
     rintro e w27 ⟨rfl, hb⟩
     refine ⟨_, rfl, ?_⟩
     replace BK1217 := Aside0.mk (zbb BK1217 hb); replace BK1218 := Aside0.mk (zbb BK1218 hb); replace BK1232 := Aside0.mk (zbb BK1232 hb); replace BK1246 := Aside0.mk (zbb BK1246 hb); replace HB := Aside0.mk (below_step (zb1 HB) hb)
     (try clear hb)
     (try clear hb2)
     (try clear hk)
     (try clear hi)
     refine hK.out _ _ ⟨zc BK1217 0, zc BK1217 1, zc BK1217 2, zc BK1217 3, zc BK1218 0, zc BK1218 1, zc BK1218 2, zc BK1218 3⟩ (fun hHeld => ?_)
     clear hK K
     refine norm_ (a' := ?_) ?_ ?_
     rotate_left
     ·
      show Act.put _ (some 19) _ = _
      simp only [Act.put, List.setIfInBounds_toArray, List.set_cons_zero, List.set_cons_succ, i64_w, i32_w]; rfl
     refine one_ (i := 3) (N := some 21) #[true, true, true, true, false, false, false, false, true, false, false] rfl rfl (one_of HT_.out (by kernel_rfl)) (by decide) (fun K hK => ?_)
     refine goes_ Try.func16 (by kernel_rfl) rfl #[.agg #[.int .i64 a1_0, .int .i64 a1_1, .int .i64 a1_2, .int .i64 a1_3]] (by rfl) rfl rfl zq6 ?_
     with_reducible refine (laws_toInterval.calls a1_0 a1_1 a1_2 a1_3 t1237 t1238 t1239 t1240 _ A7.out).mono ?_
     rintro e w28 ⟨rfl, hb⟩
     refine ⟨_, rfl, ?_⟩
     replace BK1217 := Aside0.mk (zbb BK1217 hb); replace BK1218 := Aside0.mk (zbb BK1218 hb); replace BK1232 := Aside0.mk (zbb BK1232 hb); replace BK1246 := Aside0.mk (zbb BK1246 hb); replace HB := Aside0.mk (below_step (zb1 HB) hb)
     (try clear hb)
     (try clear hb2)
     (try clear hk)
     (try clear hi)
     refine hK.out _ _ ⟨zc BK1217 0, zc BK1217 1, zc BK1217 2, zc BK1217 3, zc BK1218 0, zc BK1218 1, zc BK1218 2, zc BK1218 3⟩ (fun hHeld => ?_)
     clear hK K
     refine norm_ (a' := ?_) ?_ ?_
     rotate_left
     ·
      show Act.put _ (some 21) _ = _
      simp only [Act.put, List.setIfInBounds_toArray, List.set_cons_zero, List.set_cons_succ, i64_w, i32_w]; rfl
     refine one_ (i := 4) (N := some 22) #[true, true, true, true, true, false, false, false, true, false, false] rfl rfl (one_of HT_.out (by kernel_rfl)) (by decide) (fun K hK => ?_)
     refine goes_ Try.func41 (by kernel_rfl) rfl #[.agg #[.int .i64 t1233, .int .i64 t1234, .int .i64 t1235, .int .i64 t1236], .agg #[.int .i64 t1237, .int .i64 t1238, .int .i64 t1239, .int .i64 t1240]] (by rfl) rfl rfl zq6 ?_
     with_reducible refine (impl_DivideIntervals.calls k t1233 t1234 t1235 t1236 t1237 t1238 t1239 t1240 t1241 t1242 t1243 t1244 t1245 _ A8.out).mono ?_
     rintro e w29 ⟨rfl, hb⟩
     refine ⟨_, rfl, ?_⟩
     replace BK1217 := Aside0.mk (zbb BK1217 hb); replace BK1218 := Aside0.mk (zbb BK1218 hb); replace BK1232 := Aside0.mk (zbb BK1232 hb); replace BK1246 := Aside0.mk (zbb BK1246 hb); replace HB := Aside0.mk (below_step (zb1 HB) hb)
     (try clear hb)
     (try clear hb2)
     (try clear hk)
     (try clear hi)
     refine hK.out _ _ ⟨zc BK1217 0, zc BK1217 1, zc BK1217 2, zc BK1217 3, zc BK1218 0, zc BK1218 1, zc BK1218 2, zc BK1218 3⟩ (fun hHeld => ?_)
     clear hK K
     refine norm_ (a' := ?_) ?_ ?_
     rotate_left
     ·
      show Act.put _ (some 22) _ = _
      simp only [Act.put, List.setIfInBounds_toArray, List.set_cons_zero, List.set_cons_succ, i64_w, i32_w]; rfl
     refine zp (i := 5) (N := some 17) #[true, true, true, true, true, true, false, false, true, false, false] (any_of HT_.out (by kernel_rfl)) ?_
     refine zp (i := 6) (N := some 23) #[true, true, true, true, true, true, true, false, true, false, false] (any_of HT_.out (by kernel_rfl)) ?_
     refine zp (i := 7) (N := some 24) #[true, true, true, true, true, true, true, true, true, false, false] (any_of HT_.out (by kernel_rfl)) ?_
     exact norm_ (by simp only [putAll, Act.put, List.setIfInBounds_toArray, List.set_cons_zero, List.set_cons_succ]) (hCont (gb1246) _ ⟨hHeld, (zq1 BK1217), (zq1 BK1218), (zq1 BK1232), (zq1 BK1246), GW1246.out, GE1246.out, NB1217_1246.out, NB1246_1217.out, NB1218_1246.out, NB1246_1218.out, NB1232_1246.out, NB1246_1232.out, (zb1 HB)⟩)
   rintro gb1246 w30 ⟨hS_, h0_, h1_, h2_, h3_, h4_, h5_, h6_, h7_, h8_, h9_, h10_, h11_, h12_⟩
   have BK1246 : Aside0 (w30.heap[gb1246]? = some (.cells #[.int .i64 0, .int .i64 0, .int .i64 0, .int .i64 0] 29 (0, 0))) := ⟨h3_⟩
   have GW1246 : Aside0 (w.heap.size ≤ gb1246) := ⟨h4_⟩
   have GE1246 : Aside0 (w.heap.size ≤ gb1246) := ⟨h5_⟩
   have NB1217_1246 : Aside0 (gb1217 ≠ gb1246) := ⟨h6_⟩
   have NB1246_1217 : Aside0 (gb1246 ≠ gb1217) := ⟨h7_⟩
   have NB1218_1246 : Aside0 (gb1218 ≠ gb1246) := ⟨h8_⟩
   have NB1246_1218 : Aside0 (gb1246 ≠ gb1218) := ⟨h9_⟩
   have NB1232_1246 : Aside0 (gb1232 ≠ gb1246) := ⟨h10_⟩
   have NB1246_1232 : Aside0 (gb1246 ≠ gb1232) := ⟨h11_⟩
   replace BK1217 : Aside0 (w30.heap[gb1217]? = some (.cells #[.int .i64 a0_0, .int .i64 a0_1, .int .i64 a0_2, .int .i64 a0_3] 25 (0, 0))) := ⟨h0_⟩; replace BK1218 : Aside0 (w30.heap[gb1218]? = some (.cells #[.int .i64 a1_0, .int .i64 a1_1, .int .i64 a1_2, .int .i64 a1_3] 25 (0, 0))) := ⟨h1_⟩; replace BK1232 : Aside0 (w30.heap[gb1232]? = some (.cells #[.int .i64 t1227, .int .i64 t1228, .int .i64 t1229, .int .i64 t1230] 29 (0, 0))) := ⟨h2_⟩; replace HB : Aside0 (Below w.heap.size w w30) := ⟨h12_⟩
   clear h0_ h10_ h11_ h12_ h1_ h2_ h3_ h4_ h5_ h6_ h7_ h8_ h9_
   have hHeld : w30.cell? ⟨gb1217, 0, none⟩ = some (.int .i64 a0_0) ∧ w30.cell? ⟨gb1217, 1, none⟩ = some (.int .i64 a0_1) ∧ w30.cell? ⟨gb1217, 2, none⟩ = some (.int .i64 a0_2) ∧ w30.cell? ⟨gb1217, 3, none⟩ = some (.int .i64 a0_3) ∧ w30.cell? ⟨gb1218, 0, none⟩ = some (.int .i64 a1_0) ∧ w30.cell? ⟨gb1218, 1, none⟩ = some (.int .i64 a1_1) ∧ w30.cell? ⟨gb1218, 2, none⟩ = some (.int .i64 a1_2) ∧ w30.cell? ⟨gb1218, 3, none⟩ = some (.int .i64 a1_3) := hS_
   refine norm_ (a' := ?_) ?_ ?_
   rotate_left
   ·
    simp only [putAll, Act.put, List.setIfInBounds_toArray, List.set_cons_zero, List.set_cons_succ]
    rfl
   refine one_ (i := 9) (N := none) #[true, true, true, true, true, true, true, true, true, true, false] rfl rfl (one_of HT_.out (by kernel_rfl)) (by decide) (fun K hK => ?_)
   have hs31 : w30.cell? ⟨gb1246, 0, none⟩ = some (.int .i64 0) := zc BK1246 0
   have hfs31 := blk_frozen BK1246.out 0
   have hns31_0 := NB1217_1246.out
   have hns31_1 := NB1218_1246.out
   have hns31_2 := NB1232_1246.out
   have hms31_0 := NB1246_1217.out
   have hms31_1 := NB1246_1218.out
   have hms31_2 := NB1246_1232.out
   have hs32 : w30.cell? ⟨gb1246, 1, none⟩ = some (.int .i64 0) := zc BK1246 1
   have hfs32 := blk_frozen BK1246.out 1
   have hns32_0 := NB1217_1246.out
   have hns32_1 := NB1218_1246.out
   have hns32_2 := NB1232_1246.out
   have hms32_0 := NB1246_1217.out
   have hms32_1 := NB1246_1218.out
   have hms32_2 := NB1246_1232.out
   have hs33 : w30.cell? ⟨gb1246, 2, none⟩ = some (.int .i64 0) := zc BK1246 2
   have hfs33 := blk_frozen BK1246.out 2
   have hns33_0 := NB1217_1246.out
   have hns33_1 := NB1218_1246.out
   have hns33_2 := NB1232_1246.out
   have hms33_0 := NB1246_1217.out
   have hms33_1 := NB1246_1218.out
   have hms33_2 := NB1246_1232.out
   have hs34 : w30.cell? ⟨gb1246, 3, none⟩ = some (.int .i64 0) := zc BK1246 3
   have hfs34 := blk_frozen BK1246.out 3
   have hns34_0 := NB1217_1246.out
   have hns34_1 := NB1218_1246.out
   have hns34_2 := NB1232_1246.out
   have hms34_0 := NB1246_1217.out
   have hms34_1 := NB1246_1218.out
   have hms34_2 := NB1246_1232.out
   refine skip_ (w1 := ?_) (by rfl) rfl ?_ ?_
   rotate_left
   ·
    go_simp
    rfl
   refine hK.out _ _ ⟨((cell_far (p := ⟨gb1246, _, none⟩) NB1217_1246.out _).trans (((cell_far (p := ⟨gb1246, _, none⟩) NB1217_1246.out _).trans (((cell_far (p := ⟨gb1246, _, none⟩) NB1217_1246.out _).trans (((cell_far (p := ⟨gb1246, _, none⟩) NB1217_1246.out _).trans (hHeld.1)))))))), ((cell_far (p := ⟨gb1246, _, none⟩) NB1217_1246.out _).trans (((cell_far (p := ⟨gb1246, _, none⟩) NB1217_1246.out _).trans (((cell_far (p := ⟨gb1246, _, none⟩) NB1217_1246.out _).trans (((cell_far (p := ⟨gb1246, _, none⟩) NB1217_1246.out _).trans (hHeld.2.1)))))))), ((cell_far (p := ⟨gb1246, _, none⟩) NB1217_1246.out _).trans (((cell_far (p := ⟨gb1246, _, none⟩) NB1217_1246.out _).trans (((cell_far (p := ⟨gb1246, _, none⟩) NB1217_1246.out _).trans (((cell_far (p := ⟨gb1246, _, none⟩) NB1217_1246.out _).trans (hHeld.2.2.1)))))))), ((cell_far (p := ⟨gb1246, _, none⟩) NB1217_1246.out _).trans (((cell_far (p := ⟨gb1246, _, none⟩) NB1217_1246.out _).trans (((cell_far (p := ⟨gb1246, _, none⟩) NB1217_1246.out _).trans (((cell_far (p := ⟨gb1246, _, none⟩) NB1217_1246.out _).trans (hHeld.2.2.2.1)))))))), ((cell_far (p := ⟨gb1246, _, none⟩) NB1218_1246.out _).trans (((cell_far (p := ⟨gb1246, _, none⟩) NB1218_1246.out _).trans (((cell_far (p := ⟨gb1246, _, none⟩) NB1218_1246.out _).trans (((cell_far (p := ⟨gb1246, _, none⟩) NB1218_1246.out _).trans (hHeld.2.2.2.2.1)))))))), ((cell_far (p := ⟨gb1246, _, none⟩) NB1218_1246.out _).trans (((cell_far (p := ⟨gb1246, _, none⟩) NB1218_1246.out _).trans (((cell_far (p := ⟨gb1246, _, none⟩) NB1218_1246.out _).trans (((cell_far (p := ⟨gb1246, _, none⟩) NB1218_1246.out _).trans (hHeld.2.2.2.2.2.1)))))))), ((cell_far (p := ⟨gb1246, _, none⟩) NB1218_1246.out _).trans (((cell_far (p := ⟨gb1246, _, none⟩) NB1218_1246.out _).trans (((cell_far (p := ⟨gb1246, _, none⟩) NB1218_1246.out _).trans (((cell_far (p := ⟨gb1246, _, none⟩) NB1218_1246.out _).trans (hHeld.2.2.2.2.2.2.1)))))))), ((cell_far (p := ⟨gb1246, _, none⟩) NB1218_1246.out _).trans (((cell_far (p := ⟨gb1246, _, none⟩) NB1218_1246.out _).trans (((cell_far (p := ⟨gb1246, _, none⟩) NB1218_1246.out _).trans (((cell_far (p := ⟨gb1246, _, none⟩) NB1218_1246.out _).trans (hHeld.2.2.2.2.2.2.2))))))))⟩ (fun hHeld => ?_)
   clear hK K
   refine zp (i := 10) (N := some 8) #[true, true, true, true, true, true, true, true, true, true, true] (any_of HT_.out (by kernel_rfl)) ?_
   refine done_ (done_of HT_.out (by kernel_rfl)) ?_
   have hnb35 := NB1246_1217.out
   have hnc35 := NB1217_1246.out
   have hnb36 := NB1246_1218.out
   have hnc36 := NB1218_1246.out
   have hnb37 := NB1246_1232.out
   have hnc37 := NB1232_1246.out
   have hcz38_0 : w30.cell? ⟨gb1246, 0, none⟩ = some (.int .i64 0) := zc BK1246 0
   have hcz38_1 : w30.cell? ⟨gb1246, 1, none⟩ = some (.int .i64 0) := zc BK1246 1
   have hcz38_2 : w30.cell? ⟨gb1246, 2, none⟩ = some (.int .i64 0) := zc BK1246 2
   have hcz38_3 : w30.cell? ⟨gb1246, 3, none⟩ = some (.int .i64 0) := zc BK1246 3
   have hfz38_0 := blk_frozen BK1246.out 0
   have hfz38_1 := blk_frozen BK1246.out 1
   have hfz38_2 := blk_frozen BK1246.out 2
   have hfz38_3 := blk_frozen BK1246.out 3
   have hnb39 := NB1232_1217.out
   have hnc39 := NB1217_1232.out
   have hnb40 := NB1232_1218.out
   have hnc40 := NB1218_1232.out
   have hcz41_0 : w30.cell? ⟨gb1232, 0, none⟩ = some (.int .i64 t1227) := zc BK1232 0
   have hcz41_1 : w30.cell? ⟨gb1232, 1, none⟩ = some (.int .i64 t1228) := zc BK1232 1
   have hcz41_2 : w30.cell? ⟨gb1232, 2, none⟩ = some (.int .i64 t1229) := zc BK1232 2
   have hcz41_3 : w30.cell? ⟨gb1232, 3, none⟩ = some (.int .i64 t1230) := zc BK1232 3
   have hfz41_0 := blk_frozen BK1232.out 0
   have hfz41_1 := blk_frozen BK1232.out 1
   have hfz41_2 := blk_frozen BK1232.out 2
   have hfz41_3 := blk_frozen BK1232.out 3
   try go_wp2_with (first | ((with_reducible refine gate_callee (f := 24) rfl ?_); refine goesL_ (some 27) rfl rfl Try.func24 (by kernel_rfl) rfl #[.agg #[.int .i64 t1241, .int .i64 t1242, .int .i64 t1243, .int .i64 t1244], .agg #[.int .i64 t1227, .int .i64 t1228, .int .i64 t1229, .int .i64 t1230]] rfl zq6 ?_; (with_reducible refine (laws_eqInterval.calls t1241 t1242 t1243 t1244 t1227 t1228 t1229 t1230 true _ A9.out).mono ?_); rintro e w42 ⟨rfl, hb⟩; refine ⟨_, rfl, ?_⟩; replace BK1217 := Aside0.mk (blk_below (g := gb1217) (o := .cells #[.int .i64 a0_0, .int .i64 a0_1, .int .i64 a0_2, .int .i64 a0_3] 25 (0, 0)) (zq5 BK1217) hb); replace BK1218 := Aside0.mk (blk_below (g := gb1218) (o := .cells #[.int .i64 a1_0, .int .i64 a1_1, .int .i64 a1_2, .int .i64 a1_3] 25 (0, 0)) (zq5 BK1218) hb); replace BK1232 := Aside0.mk (blk_below (g := gb1232) (o := .cells #[.int .i64 t1227, .int .i64 t1228, .int .i64 t1229, .int .i64 t1230] 29 (0, 0)) (zq5 BK1232) hb); replace BK1246 := Aside0.mk (blk_below (g := gb1246) (o := .cells #[.int .i64 t1241, .int .i64 t1242, .int .i64 t1243, .int .i64 t1244] 29 (0, 0)) (by (with_reducible repeat (first | refine blk_drewN ?_ _ | refine blk_drew ?_ | refine blk_alloc ?_ _)); refine blk_put (cs := #[.int .i64 t1241, .int .i64 t1242, .int .i64 t1243, .int .i64 0]) ?_ 3 _ rfl; (with_reducible repeat (first | refine blk_drewN ?_ _ | refine blk_drew ?_ | refine blk_alloc ?_ _)); refine blk_put (cs := #[.int .i64 t1241, .int .i64 t1242, .int .i64 0, .int .i64 0]) ?_ 2 _ rfl; (with_reducible repeat (first | refine blk_drewN ?_ _ | refine blk_drew ?_ | refine blk_alloc ?_ _)); refine blk_put (cs := #[.int .i64 t1241, .int .i64 0, .int .i64 0, .int .i64 0]) ?_ 1 _ rfl; (with_reducible repeat (first | refine blk_drewN ?_ _ | refine blk_drew ?_ | refine blk_alloc ?_ _)); refine blk_put (cs := #[.int .i64 0, .int .i64 0, .int .i64 0, .int .i64 0]) ?_ 0 _ rfl; (with_reducible repeat (first | refine blk_drewN ?_ _ | refine blk_drew ?_ | refine blk_alloc ?_ _)); exact BK1246.out) hb); replace HB := Aside0.mk (below_step (zb1 HB) hb); (try clear hb); (try clear hb2); (try clear hk); (try clear hi)))
   go_ret
   exact ⟨by first | rfl | (simp [errW_none, errW_some] <;> rfl) | (simp [*, errW_none, errW_some] <;> rfl), (zb1 HB)⟩
 ·
  replace c10 := Bool.eq_false_iff.mpr c10
  subst c10
  have H1 : (none) = some r := by rw [if_neg (show ¬ (false = true) by decide)] at H; exact H
  clear H
  have H := H1
  clear H1
  exact absurd H (by simp)
end Go.Proofs.Ytinpcalgdiigiaa.PD
