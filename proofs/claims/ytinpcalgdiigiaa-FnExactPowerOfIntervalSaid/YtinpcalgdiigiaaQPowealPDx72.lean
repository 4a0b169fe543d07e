-- By wip/mk/drv.py
import Derived.Test.YtinpcalgdiigiaaQPowealPDx0
import Derived.Test.YtinpcalgdiigiaaQPowealPDx1
import Derived.Test.YtinpcalgdiigiaaQPowealPDx3
import Derived.Test.YtinpcalgdiigiaaQPowealPDx4
import Derived.Test.YtinpcalgdiigiaaQPowealPDx22
import Derived.Test.YtinpcalgdiigiaaQPowealPDx37
import Derived.Test.YtinpcalgdiigiaaQPowealPDx71
namespace Go.Proofs.Ytinpcalgdiigiaa.PD
open Go.RowKit Go.Proofs.YtinpcalgdiigiaaW.PrintWords Go.Proofs.YtinpcalgdiigiaaW.PrintLast Go.Proofs.YtinpcalgdiigiaaW.PrintMore
attribute [local go_sem] max2_int min2_int max_two min_two max_three min_three max_four min_four
set_option linter.unusedVariables false
set_option linter.unusedSimpArgs false
/-! ### spec_ivPower: function 69 -/
set_option maxHeartbeats 8000000 in
set_option maxRecDepth 100000 in
theorem spec_ivPower.calls (k : Nat) (a0_0 : Int) (a0_1 : Int) (a0_2 : Int) (a0_3 : Int) (a1 : Int) (r1 : Int) (r2 : Int) (r3 : Int) (r4 : Int) (r5 : Bool) (w : World) (h : spec_ivPower.f k a0_0 a0_1 a0_2 a0_3 a1 = some (r1, r2, r3, r4, r5)) :
  Calls Try.prog 69 #[.agg #[.int .i64 a0_0, .int .i64 a0_1, .int .i64 a0_2, .int .i64 a0_3], .int .i64 a1] w fun e w' => e = .returned (.tuple #[.agg #[.int .i64 r1, .int .i64 r2, .int .i64 r3, .int .i64 r4], .bool r5]) ∧ Below w.heap.size w w' := by
 have hu29 := Try.underlying29
 have hu27 := Try.underlying27
 have HB := Aside0.mk (Below.refl w.heap.size w)
 have H : ((spec_ivRaise.f k a0_0 a0_1 a1).bind fun bt951 => ((spec_ivRaise.f k a0_2 a0_3 a1).bind fun bt955 => (if bt951.2.2 = true then (spec_ivPower.j0 k a1 (!bt955.2.2) a0_0 a0_1 a0_2 a0_3 bt951.1 bt951.2.1 bt955.1 bt955.2.1) else (spec_ivPower.j0 k a1 true a0_0 a0_1 a0_2 a0_3 bt951.1 bt951.2.1 bt955.1 bt955.2.1)))) = some (r1, r2, r3, r4, r5) := h
 clear h
 replace H := Option.bind_eq_some_iff.mp H
 obtain ⟨⟨t951, t952, t953⟩, A30, H⟩ := H
 replace H : ((spec_ivRaise.f k a0_2 a0_3 a1).bind fun bt955 => (if t953 = true then (spec_ivPower.j0 k a1 (!bt955.2.2) a0_0 a0_1 a0_2 a0_3 t951 t952 bt955.1 bt955.2.1) else (spec_ivPower.j0 k a1 true a0_0 a0_1 a0_2 a0_3 t951 t952 bt955.1 bt955.2.1))) = some (r1, r2, r3, r4, r5) := H
 have A3 := Aside0.mk A30
 clear A30
 replace H := Option.bind_eq_some_iff.mp H
 obtain ⟨⟨t955, t956, t957⟩, A40, H⟩ := H
 replace H : (if t953 = true then (spec_ivPower.j0 k a1 (!t957) a0_0 a0_1 a0_2 a0_3 t951 t952 t955 t956) else (spec_ivPower.j0 k a1 true a0_0 a0_1 a0_2 a0_3 t951 t952 t955 t956)) = some (r1, r2, r3, r4, r5) := H
 have A4 := Aside0.mk A40
 clear A40
 have HC5 := Aside0.mk H
 clear H
 go_enter Try.func69, Try.ntmps69
 go_upto_region 3 with (first | ((with_reducible refine gate_dst (N := 2) rfl ?_); refine zbe (N := 2) (cs := #[.int .i64 a0_0, .int .i64 a0_1, .int .i64 a0_2, .int .i64 a0_3]) (t := 29) ?_; intro gb949 hg w6 hbox hb; have BK949 := Aside0.mk (hbox); have GW949 := Aside0.mk (zge (zb0 HB) hg); have GE949 := GW949; replace HB := Aside0.mk (below_step (zb0 HB) hb); clear hb hbox hg) | ((with_reducible refine gate_dst (N := 4) rfl ?_); refine zbe (N := 4) (cs := #[.int .i64 0, .int .i64 0, .int .i64 0, .int .i64 0]) (t := 29) ?_; intro gb950 hg w7 hbox hb; have BK950 := Aside0.mk (hbox); have GW950 := Aside0.mk (zge (zb1 HB) hg); have GE950 := GW950; have NB949_950 := Aside0.mk (zlt BK949 hg); have NB950_949 := Aside0.mk (zgt BK949 hg); replace BK949 := Aside0.mk (zbb BK949 hb); replace HB := Aside0.mk (below_step (zb1 HB) hb); clear hb hbox hg; have hnb8 := NB949_950.out; have hnc8 := NB950_949.out; have hcz9_0 : w7.cell? ⟨gb949, 0, none⟩ = some (.int .i64 a0_0) := zc BK949 0; have hcz9_1 : w7.cell? ⟨gb949, 1, none⟩ = some (.int .i64 a0_1) := zc BK949 1; have hcz9_2 : w7.cell? ⟨gb949, 2, none⟩ = some (.int .i64 a0_2) := zc BK949 2; have hcz9_3 : w7.cell? ⟨gb949, 3, none⟩ = some (.int .i64 a0_3) := zc BK949 3; have hfz9_0 := blk_frozen BK949.out 0; have hfz9_1 := blk_frozen BK949.out 1; have hfz9_2 := blk_frozen BK949.out 2; have hfz9_3 := blk_frozen BK949.out 3) | ((with_reducible refine gate_callee (f := 95) rfl ?_); refine goesL_ (some 15) rfl rfl Try.func95 (by kernel_rfl) rfl #[.agg #[.int .i64 a0_0, .int .i64 a0_1], .int .i64 a1] rfl zq6 ?_; (with_reducible refine (spec_ivRaise.calls k a0_0 a0_1 a1 t951 t952 t953 _ A3.out).mono ?_); rintro e w10 ⟨rfl, hb⟩; refine ⟨_, rfl, ?_⟩; replace BK949 := Aside0.mk (zbb BK949 hb); replace BK950 := Aside0.mk (zbb BK950 hb); replace HB := Aside0.mk (below_step (zb1 HB) hb); (try clear hb); (try clear hb2); (try clear hk); (try clear hi)) | ((with_reducible refine gate_dst (N := 6) rfl ?_); refine zbe (N := 6) (cs := #[.int .i64 0, .int .i64 0]) (t := 27) ?_; intro gb954 hg w11 hbox hb; have BK954 := Aside0.mk (hbox); have GW954 := Aside0.mk (zge (zb1 HB) hg); have GE954 := GW954; have NB949_954 := Aside0.mk (zlt BK949 hg); have NB954_949 := Aside0.mk (zgt BK949 hg); have NB950_954 := Aside0.mk (zlt BK950 hg); have NB954_950 := Aside0.mk (zgt BK950 hg); replace BK949 := Aside0.mk (zbb BK949 hb); replace BK950 := Aside0.mk (zbb BK950 hb); replace HB := Aside0.mk (below_step (zb1 HB) hb); clear hb hbox hg; have hnb12 := NB954_949.out; have hnc12 := NB949_954.out; have hnb13 := NB954_950.out; have hnc13 := NB950_954.out; have hcz14_0 : w11.cell? ⟨gb954, 0, none⟩ = some (.int .i64 0) := zc BK954 0; have hcz14_1 : w11.cell? ⟨gb954, 1, none⟩ = some (.int .i64 0) := zc BK954 1; have hfz14_0 := blk_frozen BK954.out 0; have hfz14_1 := blk_frozen BK954.out 1; have hcz15_0 : w11.cell? ⟨gb949, 0, none⟩ = some (.int .i64 a0_0) := zc BK949 0; have hcz15_1 : w11.cell? ⟨gb949, 1, none⟩ = some (.int .i64 a0_1) := zc BK949 1; have hcz15_2 : w11.cell? ⟨gb949, 2, none⟩ = some (.int .i64 a0_2) := zc BK949 2; have hcz15_3 : w11.cell? ⟨gb949, 3, none⟩ = some (.int .i64 a0_3) := zc BK949 3; have hfz15_0 := blk_frozen BK949.out 0; have hfz15_1 := blk_frozen BK949.out 1; have hfz15_2 := blk_frozen BK949.out 2; have hfz15_3 := blk_frozen BK949.out 3) | ((with_reducible refine gate_callee (f := 95) rfl ?_); refine goesL_ (some 22) rfl rfl Try.func95 (by kernel_rfl) rfl #[.agg #[.int .i64 a0_2, .int .i64 a0_3], .int .i64 a1] rfl zq6 ?_; (with_reducible refine (spec_ivRaise.calls k a0_2 a0_3 a1 t955 t956 t957 _ A4.out).mono ?_); rintro e w16 ⟨rfl, hb⟩; refine ⟨_, rfl, ?_⟩; replace BK949 := Aside0.mk (blk_below (g := gb949) (o := .cells #[.int .i64 a0_0, .int .i64 a0_1, .int .i64 a0_2, .int .i64 a0_3] 29 (0, 0)) (zq5 BK949) hb); replace BK950 := Aside0.mk (blk_below (g := gb950) (o := .cells #[.int .i64 0, .int .i64 0, .int .i64 0, .int .i64 0] 29 (0, 0)) (zq5 BK950) hb); replace BK954 := Aside0.mk (blk_below (g := gb954) (o := .cells #[.int .i64 t951, .int .i64 t952] 27 (0, 0)) (by (with_reducible repeat (first | refine blk_drewN ?_ _ | refine blk_drew ?_ | refine blk_alloc ?_ _)); refine blk_put (cs := #[.int .i64 t951, .int .i64 0]) ?_ 1 _ rfl; (with_reducible repeat (first | refine blk_drewN ?_ _ | refine blk_drew ?_ | refine blk_alloc ?_ _)); refine blk_put (cs := #[.int .i64 0, .int .i64 0]) ?_ 0 _ rfl; (with_reducible repeat (first | refine blk_drewN ?_ _ | refine blk_drew ?_ | refine blk_alloc ?_ _)); exact BK954.out) hb); replace HB := Aside0.mk (below_step (zb1 HB) hb); (try clear hb); (try clear hb2); (try clear hk); (try clear hi)) | ((with_reducible refine gate_dst (N := 8) rfl ?_); refine zbe (N := 8) (cs := #[.int .i64 0, .int .i64 0]) (t := 27) ?_; intro gb958 hg w17 hbox hb; have BK958 := Aside0.mk (hbox); have GW958 := Aside0.mk (zge (zb1 HB) hg); have GE958 := GW958; have NB949_958 := Aside0.mk (zlt BK949 hg); have NB958_949 := Aside0.mk (zgt BK949 hg); have NB950_958 := Aside0.mk (zlt BK950 hg); have NB958_950 := Aside0.mk (zgt BK950 hg); have NB954_958 := Aside0.mk (zlt BK954 hg); have NB958_954 := Aside0.mk (zgt BK954 hg); replace BK949 := Aside0.mk (zbb BK949 hb); replace BK950 := Aside0.mk (zbb BK950 hb); replace BK954 := Aside0.mk (zbb BK954 hb); replace HB := Aside0.mk (below_step (zb1 HB) hb); clear hb hbox hg; have hnb18 := NB958_949.out; have hnc18 := NB949_958.out; have hnb19 := NB958_950.out; have hnc19 := NB950_958.out; have hnb20 := NB958_954.out; have hnc20 := NB954_958.out; have hcz21_0 : w17.cell? ⟨gb958, 0, none⟩ = some (.int .i64 0) := zc BK958 0; have hcz21_1 : w17.cell? ⟨gb958, 1, none⟩ = some (.int .i64 0) := zc BK958 1; have hfz21_0 := blk_frozen BK958.out 0; have hfz21_1 := blk_frozen BK958.out 1))
 (try simp only [Act.put, List.setIfInBounds_toArray, List.set_cons_zero, List.set_cons_succ])
 go_cut [30] (fun v30 wc => ∃ (kq : Nat) (x30_4 : Bool), v30 = .bool x30_4 ∧ Aside0 (spec_ivPower.j0 kq a1 x30_4 a0_0 a0_1 a0_2 a0_3 t951 t952 t955 t956 = some (r1, r2, r3, r4, r5)) ∧ Aside0 (kq ≤ k) ∧ Aside0 (wc.heap[gb949]? = some (.cells #[.int .i64 a0_0, .int .i64 a0_1, .int .i64 a0_2, .int .i64 a0_3] 29 (0, 0))) ∧ Aside0 (wc.heap[gb950]? = some (.cells #[.int .i64 0, .int .i64 0, .int .i64 0, .int .i64 0] 29 (0, 0))) ∧ Aside0 (wc.heap[gb954]? = some (.cells #[.int .i64 t951, .int .i64 t952] 27 (0, 0))) ∧ Aside0 (wc.heap[gb958]? = some (.cells #[.int .i64 t955, .int .i64 t956] 27 (0, 0))) ∧ Aside0 (Below w.heap.size w wc))
 case first =>
  have H := HC5.out
  clear HC5
  by_cases c22 : t953 = true
  ·
   subst c22
   have H1 : (spec_ivPower.j0 k a1 (!t957) a0_0 a0_1 a0_2 a0_3 t951 t952 t955 t956) = some (r1, r2, r3, r4, r5) := by rw [if_pos rfl] at H; exact H
   clear H
   have H := H1
   clear H1
   have H' := Aside0.mk H
   clear H
   go_wp2
   go_meet
   case rel => exact ⟨_, (!t957), (by first | rfl | (simp; done) | (simp [*]; done)), H', ⟨by first | omega | exact Nat.le_refl _⟩, ⟨zq5 BK949⟩, ⟨zq5 BK950⟩, ⟨zq5 BK954⟩, ⟨by (with_reducible repeat (first | refine blk_drewN ?_ _ | refine blk_drew ?_ | refine blk_alloc ?_ _)); refine blk_put (cs := #[.int .i64 t955, .int .i64 0]) ?_ 1 _ rfl; (with_reducible repeat (first | refine blk_drewN ?_ _ | refine blk_drew ?_ | refine blk_alloc ?_ _)); refine blk_put (cs := #[.int .i64 0, .int .i64 0]) ?_ 0 _ rfl; (with_reducible repeat (first | refine blk_drewN ?_ _ | refine blk_drew ?_ | refine blk_alloc ?_ _)); exact BK958.out⟩, ⟨(zb1 HB)⟩⟩
  ·
   replace c22 := Bool.eq_false_iff.mpr c22
   subst c22
   have H1 : (spec_ivPower.j0 k a1 true a0_0 a0_1 a0_2 a0_3 t951 t952 t955 t956) = some (r1, r2, r3, r4, r5) := by rw [if_neg (show ¬ (false = true) by decide)] at H; exact H
   clear H
   have H := H1
   clear H1
   have H' := Aside0.mk H
   clear H
   go_wp2
   go_meet
   case rel => exact ⟨_, (true), (by first | rfl | (simp; done) | (simp [*]; done)), H', ⟨by first | omega | exact Nat.le_refl _⟩, ⟨zq5 BK949⟩, ⟨zq5 BK950⟩, ⟨zq5 BK954⟩, ⟨by (with_reducible repeat (first | refine blk_drewN ?_ _ | refine blk_drew ?_ | refine blk_alloc ?_ _)); refine blk_put (cs := #[.int .i64 t955, .int .i64 0]) ?_ 1 _ rfl; (with_reducible repeat (first | refine blk_drewN ?_ _ | refine blk_drew ?_ | refine blk_alloc ?_ _)); refine blk_put (cs := #[.int .i64 0, .int .i64 0]) ?_ 0 _ rfl; (with_reducible repeat (first | refine blk_drewN ?_ _ | refine blk_drew ?_ | refine blk_alloc ?_ _)); exact BK958.out⟩, ⟨(zb1 HB)⟩⟩
 case rest =>
  clear HC5
  try clear c1
  try clear c2
  try clear p2
  try clear c6
  try clear c8
  try clear c9
  try clear c12
  try clear c13
  try clear c18
  try clear c19
  try clear c20
  try clear c22
  try clear hcz14_0
  try clear hcz14_1
  try clear hcz15_0
  try clear hcz15_1
  try clear hcz15_2
  try clear hcz15_3
  try clear hcz21_0
  try clear hcz21_1
  try clear hcz9_0
  try clear hcz9_1
  try clear hcz9_2
  try clear hcz9_3
  try clear hfz14_0
  try clear hfz14_1
  try clear hfz15_0
  try clear hfz15_1
  try clear hfz15_2
  try clear hfz15_3
  try clear hfz21_0
  try clear hfz21_1
  try clear hfz9_0
  try clear hfz9_1
  try clear hfz9_2
  try clear hfz9_3
  obtain ⟨kq, x30_4, rfl, HA, HJ4, BK949, BK950, BK954, BK958, HB⟩ := hcut
  cases kq with
  | zero => exact absurd HA.out (by simp [spec_ivPower.j0])
  | succ kj4 =>
   have H := HA.out
   clear HA
   simp only [spec_ivPower.j0] at H
   by_cases c23 : x30_4 = true
   ·
    subst c23
    have H1 : (some (0, 0, 0, 0, false)) = some (r1, r2, r3, r4, r5) := by rw [if_pos rfl] at H; exact H
    clear H
    have H := H1
    clear H1
    simp only [Option.some.injEq, Prod.mk.injEq] at H
    obtain ⟨rfl, rfl, rfl, rfl, rfl⟩ := H
    have hnb24 := NB950_949.out
    have hnc24 := NB949_950.out
    have hnb25 := NB950_954.out
    have hnc25 := NB954_950.out
    have hnb26 := NB950_958.out
    have hnc26 := NB958_950.out
    have hcz27_0 : wc.cell? ⟨gb950, 0, none⟩ = some (.int .i64 0) := zc BK950 0
    have hcz27_1 : wc.cell? ⟨gb950, 1, none⟩ = some (.int .i64 0) := zc BK950 1
    have hcz27_2 : wc.cell? ⟨gb950, 2, none⟩ = some (.int .i64 0) := zc BK950 2
    have hcz27_3 : wc.cell? ⟨gb950, 3, none⟩ = some (.int .i64 0) := zc BK950 3
    have hfz27_0 := blk_frozen BK950.out 0
    have hfz27_1 := blk_frozen BK950.out 1
    have hfz27_2 := blk_frozen BK950.out 2
    have hfz27_3 := blk_frozen BK950.out 3
    go_wp2
    refine bodyPost_ret (results_ct rfl _ _ gb950 29 #[.int .i64 0, .int .i64 0, .int .i64 0, .int .i64 0] (0, 0) _ rfl (by (with_reducible repeat (first | refine blk_drewN ?_ _ | refine blk_drew ?_ | refine blk_alloc ?_ _)); refine blk_put (cs := #[.int .i64 0, .int .i64 0, .int .i64 0, .int .i64 0]) ?_ 3 _ rfl; (with_reducible repeat (first | refine blk_drewN ?_ _ | refine blk_drew ?_ | refine blk_alloc ?_ _)); refine blk_put (cs := #[.int .i64 0, .int .i64 0, .int .i64 0, .int .i64 0]) ?_ 2 _ rfl; (with_reducible repeat (first | refine blk_drewN ?_ _ | refine blk_drew ?_ | refine blk_alloc ?_ _)); refine blk_put (cs := #[.int .i64 0, .int .i64 0, .int .i64 0, .int .i64 0]) ?_ 1 _ rfl; (with_reducible repeat (first | refine blk_drewN ?_ _ | refine blk_drew ?_ | refine blk_alloc ?_ _)); refine blk_put (cs := #[.int .i64 0, .int .i64 0, .int .i64 0, .int .i64 0]) ?_ 0 _ rfl; (with_reducible repeat (first | refine blk_drewN ?_ _ | refine blk_drew ?_ | refine blk_alloc ?_ _)); exact BK950.out) Try.underlying29 rfl (by kernel_rfl)) rfl ?_
    exact ⟨by first | rfl | (simp [errW_none, errW_some] <;> rfl) | (simp [*, errW_none, errW_some] <;> rfl), (zb1 HB)⟩
   ·
    replace c23 := Bool.eq_false_iff.mpr c23
    subst c23
    have H1 : ((some (([(⟨t951, t952⟩ : S27), (⟨t955, t956⟩ : S27)] : List (S27)) : List (S27))).bind fun y959 => (if a1 > 0 then (if (Int.tmod a1 2) = 0 then ((spec_ivZero.f a0_0 a0_1 a0_2 a0_3).bind fun t962 => (spec_ivPower.j1 kj4 y959 t962)) else (spec_ivPower.j1 kj4 y959 false)) else (spec_ivPower.j1 kj4 y959 false))) = some (r1, r2, r3, r4, r5) := by rw [if_neg (show ¬ (false = true) by decide)] at H; exact H
    clear H
    have H := H1
    clear H1
    obtain ⟨y959, hy959⟩ : ∃ y_ : List (S27), y_ = (([(⟨t951, t952⟩ : S27), (⟨t955, t956⟩ : S27)] : List (S27))) := ⟨_, rfl⟩
    replace H : (if a1 > 0 then (if (Int.tmod a1 2) = 0 then ((spec_ivZero.f a0_0 a0_1 a0_2 a0_3).bind fun t962 => (spec_ivPower.j1 kj4 y959 t962)) else (spec_ivPower.j1 kj4 y959 false)) else (spec_ivPower.j1 kj4 y959 false)) = some (r1, r2, r3, r4, r5) := by first | (rw [hy959]; with_reducible exact H) | (have H2_ := (Option.bind_some _ _).symm.trans H; rw [hy959]; with_reducible exact H2_) | (have H2_ := (Option.bind_some _ _).symm.trans H; with_reducible exact H2_) | with_reducible exact H | (rw [hy959]; exact H) | exact H
    have Ny959 := Aside0.mk hy959
    clear hy959
    have HC28 := Aside0.mk H
    clear H
    have hnb29 := NB954_949.out
    have hnc29 := NB949_954.out
    have hnb30 := NB954_950.out
    have hnc30 := NB950_954.out
    have hnb31 := NB954_958.out
    have hnc31 := NB958_954.out
    have hcz32_0 : wc.cell? ⟨gb954, 0, none⟩ = some (.int .i64 t951) := zc BK954 0
    have hcz32_1 : wc.cell? ⟨gb954, 1, none⟩ = some (.int .i64 t952) := zc BK954 1
    have hfz32_0 := blk_frozen BK954.out 0
    have hfz32_1 := blk_frozen BK954.out 1
    have hnb33 := NB958_949.out
    have hnc33 := NB949_958.out
    have hnb34 := NB958_950.out
    have hnc34 := NB950_958.out
    have hcz35_0 : wc.cell? ⟨gb958, 0, none⟩ = some (.int .i64 t955) := zc BK958 0
    have hcz35_1 : wc.cell? ⟨gb958, 1, none⟩ = some (.int .i64 t956) := zc BK958 1
    have hfz35_0 := blk_frozen BK958.out 0
    have hfz35_1 := blk_frozen BK958.out 1
    go_upto_region 6 with (first | ((with_reducible refine gate_dst (N := 34) rfl ?_); refine Kd.R_lit k27 _ 27 ?hg (N := 34) ?hd (xs := ([(⟨t951, t952⟩ : S27), (⟨t955, t956⟩ : S27)] : List (S27))) (inner := [.int .i64 t951, .int .i64 t952, .int .i64 t955, .int .i64 t956]) (ok := fun _ => True) (okp := fun _ => True) ?hr ?hp (fun _ hk => hk) trivial (Below.refl _ _) (Nat.le_refl _) (by simp) ?_; (case hd => rfl); (case hg => rfl); (case hr => first | (go_simp; done) | (go_simp; rfl)); (case hp => exact (Reps.c2 (show Kd.M k27 _ _ _ (⟨t951, t952⟩ : S27) [.int .i64 t951, .int .i64 t952] from (k27_mkM _ _ _ (⟨t951, t952⟩ : S27) )) (Reps.c2 (show Kd.M k27 _ _ _ (⟨t955, t956⟩ : S27) [.int .i64 t955, .int .i64 t956] from (k27_mkM _ _ _ (⟨t955, t956⟩ : S27) )) (Reps.none _ _)))); intro v960 w36 ho37 hb hg_ hnew_; clear hg_ hnew_; (first | rw [← Ny959.out] at ho37 | (simp only [Int.reduceToNat] at ho37; rw [← Ny959.out] at ho37)); have HO961 := Aside0.mk (Kd.R_lower (Kd.R_newB (Kd.R_newB ho37 (g := gb954) (o := .cells #[.int .i64 t951, .int .i64 t952] 27 (0, 0)) (zq1 BK954)) (g := gb958) (o := .cells #[.int .i64 t955, .int .i64 t956] 27 (0, 0)) (zq1 BK958)) (below_size (zb1 HB))); replace BK949 := Aside0.mk (zbb BK949 hb); replace BK950 := Aside0.mk (zbb BK950 hb); replace BK954 := Aside0.mk (zbb BK954 hb); replace BK958 := Aside0.mk (zbb BK958 hb); replace HB := Aside0.mk (below_step (zb1 HB) hb); clear hb ho37))
    (try simp only [Act.put, List.setIfInBounds_toArray, List.set_cons_zero, List.set_cons_succ])
    go_cut [45] (fun v45 wc => ∃ (kq : Nat) (x45_27 : Bool), v45 = .bool x45_27 ∧ Aside0 (spec_ivPower.j1 kq y959 x45_27 = some (r1, r2, r3, r4, r5)) ∧ Aside0 (kq ≤ kj4) ∧ Aside0 (Kd.R k27 27 wc w.heap.size (fun k_ => k_ ≠ gb954 ∧ k_ ≠ gb958) v960 y959) ∧ Aside0 (wc.heap[gb949]? = some (.cells #[.int .i64 a0_0, .int .i64 a0_1, .int .i64 a0_2, .int .i64 a0_3] 29 (0, 0))) ∧ Aside0 (wc.heap[gb950]? = some (.cells #[.int .i64 0, .int .i64 0, .int .i64 0, .int .i64 0] 29 (0, 0))) ∧ Aside0 (wc.heap[gb954]? = some (.cells #[.int .i64 t951, .int .i64 t952] 27 (0, 0))) ∧ Aside0 (wc.heap[gb958]? = some (.cells #[.int .i64 t955, .int .i64 t956] 27 (0, 0))) ∧ Aside0 (Below w.heap.size w wc))
    case first =>
     have H := HC28.out
     clear HC28
     by_cases c38 : a1 > 0
     ·
      rw [if_pos c38] at H
      have c38b0 : decide (0 < a1) = true := decide_eq_true c38
      clear c38
      (first | rw [c38b0] | (simp only [i64_w, i32_w]; rw [c38b0]) | skip)
      by_cases c39 : (Int.tmod a1 2) = 0
      ·
       rw [if_pos c39] at H
       have c39b0 : ((Int.tmod a1 2) == 0) = true := beq_iff_eq.mpr c39
       have c39b1 : ((Int.tmod a1 2) != 0) = false := bne_eq_false_iff_eq.mpr c39
       clear c39
       replace H := Option.bind_eq_some_iff.mp H
       obtain ⟨t962, A400, H⟩ := H
       replace H : (spec_ivPower.j1 kj4 y959 t962) = some (r1, r2, r3, r4, r5) := H
       have A40 := Aside0.mk A400
       clear A400
       have H' := Aside0.mk H
       clear H
       have hnb41 := NB949_950.out
       have hnc41 := NB950_949.out
       have hnb42 := NB949_954.out
       have hnc42 := NB954_949.out
       have hnb43 := NB949_958.out
       have hnc43 := NB958_949.out
       have hcz44_0 : w36.cell? ⟨gb949, 0, none⟩ = some (.int .i64 a0_0) := zc BK949 0
       have hcz44_1 : w36.cell? ⟨gb949, 1, none⟩ = some (.int .i64 a0_1) := zc BK949 1
       have hcz44_2 : w36.cell? ⟨gb949, 2, none⟩ = some (.int .i64 a0_2) := zc BK949 2
       have hcz44_3 : w36.cell? ⟨gb949, 3, none⟩ = some (.int .i64 a0_3) := zc BK949 3
       have hfz44_0 := blk_frozen BK949.out 0
       have hfz44_1 := blk_frozen BK949.out 1
       have hfz44_2 := blk_frozen BK949.out 2
       have hfz44_3 := blk_frozen BK949.out 3
       go_wp2_with (first | (go_at_call 72; (with_reducible refine (spec_ivZero.calls a0_0 a0_1 a0_2 a0_3 t962 _ A40.out).mono ?_); rintro e w45 ⟨rfl, hb⟩; replace HO961 := Aside0.mk (Kd.R_below (zq3 HO961) hb); replace BK949 := Aside0.mk (zbb BK949 hb); replace BK950 := Aside0.mk (zbb BK950 hb); replace BK954 := Aside0.mk (zbb BK954 hb); replace BK958 := Aside0.mk (zbb BK958 hb); replace HB := Aside0.mk (below_step (zb1 HB) hb); (try clear hb); (try clear hb2); (try clear hk); (try clear hi)))
       go_meet
       case rel => exact ⟨_, (t962), (by first | rfl | (simp; done) | (simp [*]; done)), H', ⟨by have := HJ4.out; first | omega | exact Nat.le_refl _⟩, ⟨by (with_reducible repeat (first | apply Kd.R_alloc | apply Kd.R_drewN | apply Kd.R_drew)); exact Kd.R_mono HO961.out (fun _ hk => ⟨hk.1.2, hk.2⟩)⟩, ⟨by (with_reducible repeat (first | refine blk_drewN ?_ _ | refine blk_drew ?_ | refine blk_alloc ?_ _)); exact BK949.out⟩, ⟨by (with_reducible repeat (first | refine blk_drewN ?_ _ | refine blk_drew ?_ | refine blk_alloc ?_ _)); exact BK950.out⟩, ⟨by (with_reducible repeat (first | refine blk_drewN ?_ _ | refine blk_drew ?_ | refine blk_alloc ?_ _)); exact BK954.out⟩, ⟨by (with_reducible repeat (first | refine blk_drewN ?_ _ | refine blk_drew ?_ | refine blk_alloc ?_ _)); exact BK958.out⟩, ⟨(zb1 HB)⟩⟩
      ·
       rw [if_neg c39] at H
       have c39b0 : ((Int.tmod a1 2) == 0) = false := beq_eq_false_iff_ne.mpr c39
       have c39b1 : ((Int.tmod a1 2) != 0) = true := bne_iff_ne.mpr c39
       have H' := Aside0.mk H
       clear H
       go_wp2
       go_meet
       case rel => exact ⟨_, (false), (by first | rfl | (simp; done) | (simp [*]; done)), H', ⟨by have := HJ4.out; first | omega | exact Nat.le_refl _⟩, ⟨by (with_reducible repeat (first | apply Kd.R_alloc | apply Kd.R_drewN | apply Kd.R_drew)); exact Kd.R_mono HO961.out (fun _ hk => ⟨hk.1.2, hk.2⟩)⟩, ⟨by (with_reducible repeat (first | refine blk_drewN ?_ _ | refine blk_drew ?_ | refine blk_alloc ?_ _)); exact BK949.out⟩, ⟨by (with_reducible repeat (first | refine blk_drewN ?_ _ | refine blk_drew ?_ | refine blk_alloc ?_ _)); exact BK950.out⟩, ⟨by (with_reducible repeat (first | refine blk_drewN ?_ _ | refine blk_drew ?_ | refine blk_alloc ?_ _)); exact BK954.out⟩, ⟨by (with_reducible repeat (first | refine blk_drewN ?_ _ | refine blk_drew ?_ | refine blk_alloc ?_ _)); exact BK958.out⟩, ⟨(zb1 HB)⟩⟩
     ·
      rw [if_neg c38] at H
      have c38b0 : decide (0 < a1) = false := decide_eq_false c38
      clear c38
      (first | rw [c38b0] | (simp only [i64_w, i32_w]; rw [c38b0]) | skip)
      have H' := Aside0.mk H
      clear H
      go_wp2
      go_meet
      case rel => exact ⟨_, (false), (by first | rfl | (simp; done) | (simp [*]; done)), H', ⟨by have := HJ4.out; first | omega | exact Nat.le_refl _⟩, ⟨by (with_reducible repeat (first | apply Kd.R_alloc | apply Kd.R_drewN | apply Kd.R_drew)); exact Kd.R_mono HO961.out (fun _ hk => ⟨hk.1.2, hk.2⟩)⟩, ⟨by (with_reducible repeat (first | refine blk_drewN ?_ _ | refine blk_drew ?_ | refine blk_alloc ?_ _)); exact BK949.out⟩, ⟨by (with_reducible repeat (first | refine blk_drewN ?_ _ | refine blk_drew ?_ | refine blk_alloc ?_ _)); exact BK950.out⟩, ⟨by (with_reducible repeat (first | refine blk_drewN ?_ _ | refine blk_drew ?_ | refine blk_alloc ?_ _)); exact BK954.out⟩, ⟨by (with_reducible repeat (first | refine blk_drewN ?_ _ | refine blk_drew ?_ | refine blk_alloc ?_ _)); exact BK958.out⟩, ⟨(zb1 HB)⟩⟩
    case rest =>
     clear HC28
     try clear c1
     try clear c2
     try clear p2
     try clear c3
     try clear c4
     try clear c6
     try clear c8
     try clear c9
     try clear c12
     try clear c13
     try clear c18
     try clear c19
     try clear c20
     try clear c22
     try clear c23
     try clear c24
     try clear c25
     try clear c26
     try clear c29
     try clear c30
     try clear c31
     try clear c33
     try clear c34
     try clear c38
     try clear c38b0
     try clear c39
     try clear c39b0
     try clear c39b1
     try clear c41
     try clear c42
     try clear c43
     try clear hcz14_0
     try clear hcz14_1
     try clear hcz15_0
     try clear hcz15_1
     try clear hcz15_2
     try clear hcz15_3
     try clear hcz21_0
     try clear hcz21_1
     try clear hcz27_0
     try clear hcz27_1
     try clear hcz27_2
     try clear hcz27_3
     try clear hcz32_0
     try clear hcz32_1
     try clear hcz35_0
     try clear hcz35_1
     try clear hcz44_0
     try clear hcz44_1
     try clear hcz44_2
     try clear hcz44_3
     try clear hcz9_0
     try clear hcz9_1
     try clear hcz9_2
     try clear hcz9_3
     try clear hfz14_0
     try clear hfz14_1
     try clear hfz15_0
     try clear hfz15_1
     try clear hfz15_2
     try clear hfz15_3
     try clear hfz21_0
     try clear hfz21_1
     try clear hfz27_0
     try clear hfz27_1
     try clear hfz27_2
     try clear hfz27_3
     try clear hfz32_0
     try clear hfz32_1
     try clear hfz35_0
     try clear hfz35_1
     try clear hfz44_0
     try clear hfz44_1
     try clear hfz44_2
     try clear hfz44_3
     try clear hfz9_0
     try clear hfz9_1
     try clear hfz9_2
     try clear hfz9_3
     try clear p2
     obtain ⟨kq, x45_27, rfl, HA, HJ27, HO_10, BK949, BK950, BK954, BK958, HB⟩ := hcut
     cases kq with
     | zero => exact absurd HA.out (by simp [spec_ivPower.j1])
     | succ kj27 =>
      have H := HA.out
      clear HA
      simp only [spec_ivPower.j1] at H
      by_cases c46 : x45_27 = true
      ·
       subst c46
       have H1 : ((spec_dyInt.f 0).bind fun bt963 => (if y959.length < 8796093022208 then ((spec_ivEnds.f kj27 (y959 ++ [(⟨bt963.1, bt963.2⟩ : S27)])).bind fun bt968 => ((spec_ivRound.f kj27 bt968.1 bt968.2.1 bt968.2.2.1 bt968.2.2.2 16).bind fun bt972 => (some (bt972.1, bt972.2.1, bt972.2.2.1, bt972.2.2.2, true)))) else (none))) = some (r1, r2, r3, r4, r5) := by rw [if_pos rfl] at H; exact H
       clear H
       have H := H1
       clear H1
       replace H := Option.bind_eq_some_iff.mp H
       obtain ⟨⟨t963, t964⟩, A470, H⟩ := H
       replace H : (if y959.length < 8796093022208 then ((spec_ivEnds.f kj27 (y959 ++ [(⟨t963, t964⟩ : S27)])).bind fun bt968 => ((spec_ivRound.f kj27 bt968.1 bt968.2.1 bt968.2.2.1 bt968.2.2.2 16).bind fun bt972 => (some (bt972.1, bt972.2.1, bt972.2.2.1, bt972.2.2.2, true)))) else (none)) = some (r1, r2, r3, r4, r5) := H
       have A47 := Aside0.mk A470
       clear A470
       by_cases c48 : y959.length < 8796093022208
       ·
        rw [if_pos c48] at H
        have LMc48 := Aside0.mk c48
        clear c48
        obtain ⟨y965, hy965⟩ : ∃ y_ : List (S27), y_ = (y959 ++ [(⟨t963, t964⟩ : S27)]) := ⟨_, rfl⟩
        replace H : ((spec_ivEnds.f kj27 y965).bind fun bt968 => ((spec_ivRound.f kj27 bt968.1 bt968.2.1 bt968.2.2.1 bt968.2.2.2 16).bind fun bt972 => (some (bt972.1, bt972.2.1, bt972.2.2.1, bt972.2.2.2, true)))) = some (r1, r2, r3, r4, r5) := by first | (rw [hy965]; with_reducible exact H) | (have H2_ := (Option.bind_some _ _).symm.trans H; rw [hy965]; with_reducible exact H2_) | (have H2_ := (Option.bind_some _ _).symm.trans H; with_reducible exact H2_) | with_reducible exact H | (rw [hy965]; exact H) | exact H
        have Ny965 := Aside0.mk hy965
        clear hy965
        replace H := Option.bind_eq_some_iff.mp H
        obtain ⟨⟨t968, t969, t970, t971⟩, A490, H⟩ := H
        replace H : ((spec_ivRound.f kj27 t968 t969 t970 t971 16).bind fun bt972 => (some (bt972.1, bt972.2.1, bt972.2.2.1, bt972.2.2.2, true))) = some (r1, r2, r3, r4, r5) := H
        have A49 := Aside0.mk A490
        clear A490
        replace H := Option.bind_eq_some_iff.mp H
        obtain ⟨⟨t972, t973, t974, t975⟩, A500, H⟩ := H
        replace H : (some (t972, t973, t974, t975, true)) = some (r1, r2, r3, r4, r5) := H
        have A50 := Aside0.mk A500
        clear A500
        simp only [Option.some.injEq, Prod.mk.injEq] at H
        obtain ⟨rfl, rfl, rfl, rfl, rfl⟩ := H
        go_wp2_with (first | ((with_reducible refine gate_callee (f := 96) rfl ?_); refine goesL_ (some 47) rfl rfl Try.func96 (by kernel_rfl) rfl #[.int .i64 0] rfl zq6 ?_; (with_reducible refine (spec_dyInt.calls 0 t963 t964 _ A47.out).mono ?_); rintro e w51 ⟨rfl, hb⟩; refine ⟨_, rfl, ?_⟩; replace HO_10 := Aside0.mk (Kd.R_below (zq3 HO_10) hb); replace BK949 := Aside0.mk (zbb BK949 hb); replace BK950 := Aside0.mk (zbb BK950 hb); replace BK954 := Aside0.mk (zbb BK954 hb); replace BK958 := Aside0.mk (zbb BK958 hb); replace HB := Aside0.mk (below_step (zb1 HB) hb); (try clear hb); (try clear hb2); (try clear hk); (try clear hi)) | ((with_reducible refine gate_builtin (b := .append) (xs := #[.tmp 46, .tmp 48]) rfl ?_); at_builtin; refine Kd.R_append k27 (w0 := w) w.heap.size rfl (.tmp 46) (.tmp 48) 68 27 (.agg #[(.int .i64 0), (.int .i64 0)]) 16 rfl Try.underlying68 info27 rfl (by decide) (by omega) v960 y959 (⟨t963, t964⟩ : S27) [.int .i64 t963, .int .i64 t964] (fun k_ => k_ ≠ gb954 ∧ k_ ≠ gb958) (fun _ => False) rfl rfl ?aP (fun _ hk => hk.elim) ?aF ?aO ?aB ?aS ?aL ?_; (case aP => exact k27_mkM _ _ _ (⟨t963, t964⟩ : S27)); (case aB => exact (zb1 HB)); (case aF => exact (fun k_ hk => ⟨Kd.freshB (g := gb954) (o := .cells #[.int .i64 t951, .int .i64 t952] 27 (0, 0)) (zq1 BK954) k_ hk, Kd.freshB (g := gb958) (o := .cells #[.int .i64 t955, .int .i64 t956] 27 (0, 0)) (zq1 BK958) k_ hk⟩)); (case aO => exact (zq3 HO_10)); (case aS => exact (below_size (zb1 HB))); (case aL => have := LMc48.out; omega); intro v966 w52 ho hb hg hat; rw [← Ny965.out] at ho; have HO967 := Aside0.mk (ho); replace BK949 := Aside0.mk (blk_grown (g := gb949) (o := .cells #[.int .i64 a0_0, .int .i64 a0_1, .int .i64 a0_2, .int .i64 a0_3] 29 (0, 0)) (zq1 BK949) hg (Kd.R_ne HO_10.out BK949.out (by decide))); replace BK950 := Aside0.mk (blk_grown (g := gb950) (o := .cells #[.int .i64 0, .int .i64 0, .int .i64 0, .int .i64 0] 29 (0, 0)) (zq1 BK950) hg (Kd.R_ne HO_10.out BK950.out (by decide))); replace BK954 := Aside0.mk (blk_grown (g := gb954) (o := .cells #[.int .i64 t951, .int .i64 t952] 27 (0, 0)) (zq1 BK954) hg (Kd.R_away HO_10.out (fun _ hk => hk.1))); replace BK958 := Aside0.mk (blk_grown (g := gb958) (o := .cells #[.int .i64 t955, .int .i64 t956] 27 (0, 0)) (zq1 BK958) hg (Kd.R_away HO_10.out (fun _ hk => hk.2))); replace HB := Aside0.mk (hb); clear HO_10; clear ho hb hg hat; obtain ⟨Ao53, co53, eo53⟩ := Kd.R_slice HO967.out; subst eo53) | ((with_reducible refine gate_callee (f := 82) rfl ?_); refine goesL_ (some 51) rfl rfl Try.func82 (by kernel_rfl) rfl #[.slice Ao53 y965.length co53] rfl zq6 ?_; (with_reducible refine (spec_ivEnds.calls kj27 _ _ y965 t968 t969 t970 t971 _ ?side1 ?side2 A49.out).mono ?_); (case side1 => repeat (first | exact (Kd.R_reads' HO967.out).2.2 | (with_reducible refine Kd.C_alloc ?_ _) | (with_reducible refine Kd.C_drewN ?_ _) | (with_reducible refine Kd.C_drew ?_))); (case side2 => exact (Kd.R_reads' HO967.out).2.1); rintro e w54 ⟨rfl, hb⟩; refine ⟨_, rfl, ?_⟩; replace HO967 := Aside0.mk (Kd.R_below (zq3 HO967) hb); replace BK949 := Aside0.mk (zbb BK949 hb); replace BK950 := Aside0.mk (zbb BK950 hb); replace BK954 := Aside0.mk (zbb BK954 hb); replace BK958 := Aside0.mk (zbb BK958 hb); replace HB := Aside0.mk (below_step (zb1 HB) hb); (try clear hb); (try clear hb2); (try clear hk); (try clear hi)) | ((with_reducible refine gate_callee (f := 56) rfl ?_); refine goesL_ (some 52) rfl rfl Try.func56 (by kernel_rfl) rfl #[.agg #[.int .i64 t968, .int .i64 t969, .int .i64 t970, .int .i64 t971], .int .i64 16] rfl zq6 ?_; (with_reducible refine (spec_ivRound.calls kj27 t968 t969 t970 t971 16 t972 t973 t974 t975 _ A50.out).mono ?_); rintro e w55 ⟨rfl, hb⟩; refine ⟨_, rfl, ?_⟩; replace HO967 := Aside0.mk (Kd.R_below (zq3 HO967) hb); replace BK949 := Aside0.mk (zbb BK949 hb); replace BK950 := Aside0.mk (zbb BK950 hb); replace BK954 := Aside0.mk (zbb BK954 hb); replace BK958 := Aside0.mk (zbb BK958 hb); replace HB := Aside0.mk (below_step (zb1 HB) hb); (try clear hb); (try clear hb2); (try clear hk); (try clear hi); have hnb56 := NB950_949.out; have hnc56 := NB949_950.out; have hnb57 := NB950_954.out; have hnc57 := NB954_950.out; have hnb58 := NB950_958.out; have hnc58 := NB958_950.out; have hcz59_0 : w55.cell? ⟨gb950, 0, none⟩ = some (.int .i64 0) := zc BK950 0; have hcz59_1 : w55.cell? ⟨gb950, 1, none⟩ = some (.int .i64 0) := zc BK950 1; have hcz59_2 : w55.cell? ⟨gb950, 2, none⟩ = some (.int .i64 0) := zc BK950 2; have hcz59_3 : w55.cell? ⟨gb950, 3, none⟩ = some (.int .i64 0) := zc BK950 3; have hfz59_0 := blk_frozen BK950.out 0; have hfz59_1 := blk_frozen BK950.out 1; have hfz59_2 := blk_frozen BK950.out 2; have hfz59_3 := blk_frozen BK950.out 3))
        refine bodyPost_ret (results_ct rfl _ _ gb950 29 #[.int .i64 t972, .int .i64 t973, .int .i64 t974, .int .i64 t975] (0, 0) _ rfl (by (with_reducible repeat (first | refine blk_drewN ?_ _ | refine blk_drew ?_ | refine blk_alloc ?_ _)); refine blk_put (cs := #[.int .i64 t972, .int .i64 t973, .int .i64 t974, .int .i64 0]) ?_ 3 _ rfl; (with_reducible repeat (first | refine blk_drewN ?_ _ | refine blk_drew ?_ | refine blk_alloc ?_ _)); refine blk_put (cs := #[.int .i64 t972, .int .i64 t973, .int .i64 0, .int .i64 0]) ?_ 2 _ rfl; (with_reducible repeat (first | refine blk_drewN ?_ _ | refine blk_drew ?_ | refine blk_alloc ?_ _)); refine blk_put (cs := #[.int .i64 t972, .int .i64 0, .int .i64 0, .int .i64 0]) ?_ 1 _ rfl; (with_reducible repeat (first | refine blk_drewN ?_ _ | refine blk_drew ?_ | refine blk_alloc ?_ _)); refine blk_put (cs := #[.int .i64 0, .int .i64 0, .int .i64 0, .int .i64 0]) ?_ 0 _ rfl; (with_reducible repeat (first | refine blk_drewN ?_ _ | refine blk_drew ?_ | refine blk_alloc ?_ _)); exact BK950.out) Try.underlying29 rfl (by kernel_rfl)) rfl ?_
        exact ⟨by first | rfl | (simp [errW_none, errW_some] <;> rfl) | (simp [*, errW_none, errW_some] <;> rfl), (zb1 HB)⟩
       ·
        rw [if_neg c48] at H
        exact absurd H (by simp)
      ·
       replace c46 := Bool.eq_false_iff.mpr c46
       subst c46
       have H1 : ((spec_ivEnds.f kj27 y959).bind fun bt976 => ((spec_ivRound.f kj27 bt976.1 bt976.2.1 bt976.2.2.1 bt976.2.2.2 16).bind fun bt980 => (some (bt980.1, bt980.2.1, bt980.2.2.1, bt980.2.2.2, true)))) = some (r1, r2, r3, r4, r5) := by rw [if_neg (show ¬ (false = true) by decide)] at H; exact H
       clear H
       have H := H1
       clear H1
       replace H := Option.bind_eq_some_iff.mp H
       obtain ⟨⟨t976, t977, t978, t979⟩, A600, H⟩ := H
       replace H : ((spec_ivRound.f kj27 t976 t977 t978 t979 16).bind fun bt980 => (some (bt980.1, bt980.2.1, bt980.2.2.1, bt980.2.2.2, true))) = some (r1, r2, r3, r4, r5) := H
       have A60 := Aside0.mk A600
       clear A600
       replace H := Option.bind_eq_some_iff.mp H
       obtain ⟨⟨t980, t981, t982, t983⟩, A610, H⟩ := H
       replace H : (some (t980, t981, t982, t983, true)) = some (r1, r2, r3, r4, r5) := H
       have A61 := Aside0.mk A610
       clear A610
       simp only [Option.some.injEq, Prod.mk.injEq] at H
       obtain ⟨rfl, rfl, rfl, rfl, rfl⟩ := H
       obtain ⟨Ao62, co62, eo62⟩ := Kd.R_slice HO_10.out
       subst eo62
       go_wp2_with (first | ((with_reducible refine gate_callee (f := 82) rfl ?_); refine goesL_ (some 51) rfl rfl Try.func82 (by kernel_rfl) rfl #[.slice Ao62 y959.length co62] rfl zq6 ?_; (with_reducible refine (spec_ivEnds.calls kj27 _ _ y959 t976 t977 t978 t979 _ ?side1 ?side2 A60.out).mono ?_); (case side1 => repeat (first | exact (Kd.R_reads' HO_10.out).2.2 | (with_reducible refine Kd.C_alloc ?_ _) | (with_reducible refine Kd.C_drewN ?_ _) | (with_reducible refine Kd.C_drew ?_))); (case side2 => exact (Kd.R_reads' HO_10.out).2.1); rintro e w63 ⟨rfl, hb⟩; refine ⟨_, rfl, ?_⟩; replace HO_10 := Aside0.mk (Kd.R_below (zq3 HO_10) hb); replace BK949 := Aside0.mk (zbb BK949 hb); replace BK950 := Aside0.mk (zbb BK950 hb); replace BK954 := Aside0.mk (zbb BK954 hb); replace BK958 := Aside0.mk (zbb BK958 hb); replace HB := Aside0.mk (below_step (zb1 HB) hb); (try clear hb); (try clear hb2); (try clear hk); (try clear hi)) | ((with_reducible refine gate_callee (f := 56) rfl ?_); refine goesL_ (some 52) rfl rfl Try.func56 (by kernel_rfl) rfl #[.agg #[.int .i64 t976, .int .i64 t977, .int .i64 t978, .int .i64 t979], .int .i64 16] rfl zq6 ?_; (with_reducible refine (spec_ivRound.calls kj27 t976 t977 t978 t979 16 t980 t981 t982 t983 _ A61.out).mono ?_); rintro e w64 ⟨rfl, hb⟩; refine ⟨_, rfl, ?_⟩; replace HO_10 := Aside0.mk (Kd.R_below (zq3 HO_10) hb); replace BK949 := Aside0.mk (zbb BK949 hb); replace BK950 := Aside0.mk (zbb BK950 hb); replace BK954 := Aside0.mk (zbb BK954 hb); replace BK958 := Aside0.mk (zbb BK958 hb); replace HB := Aside0.mk (below_step (zb1 HB) hb); (try clear hb); (try clear hb2); (try clear hk); (try clear hi); have hnb65 := NB950_949.out; have hnc65 := NB949_950.out; have hnb66 := NB950_954.out; have hnc66 := NB954_950.out; have hnb67 := NB950_958.out; have hnc67 := NB958_950.out; have hcz68_0 : w64.cell? ⟨gb950, 0, none⟩ = some (.int .i64 0) := zc BK950 0; have hcz68_1 : w64.cell? ⟨gb950, 1, none⟩ = some (.int .i64 0) := zc BK950 1; have hcz68_2 : w64.cell? ⟨gb950, 2, none⟩ = some (.int .i64 0) := zc BK950 2; have hcz68_3 : w64.cell? ⟨gb950, 3, none⟩ = some (.int .i64 0) := zc BK950 3; have hfz68_0 := blk_frozen BK950.out 0; have hfz68_1 := blk_frozen BK950.out 1; have hfz68_2 := blk_frozen BK950.out 2; have hfz68_3 := blk_frozen BK950.out 3))
       refine bodyPost_ret (results_ct rfl _ _ gb950 29 #[.int .i64 t980, .int .i64 t981, .int .i64 t982, .int .i64 t983] (0, 0) _ rfl (by (with_reducible repeat (first | refine blk_drewN ?_ _ | refine blk_drew ?_ | refine blk_alloc ?_ _)); refine blk_put (cs := #[.int .i64 t980, .int .i64 t981, .int .i64 t982, .int .i64 0]) ?_ 3 _ rfl; (with_reducible repeat (first | refine blk_drewN ?_ _ | refine blk_drew ?_ | refine blk_alloc ?_ _)); refine blk_put (cs := #[.int .i64 t980, .int .i64 t981, .int .i64 0, .int .i64 0]) ?_ 2 _ rfl; (with_reducible repeat (first | refine blk_drewN ?_ _ | refine blk_drew ?_ | refine blk_alloc ?_ _)); refine blk_put (cs := #[.int .i64 t980, .int .i64 0, .int .i64 0, .int .i64 0]) ?_ 1 _ rfl; (with_reducible repeat (first | refine blk_drewN ?_ _ | refine blk_drew ?_ | refine blk_alloc ?_ _)); refine blk_put (cs := #[.int .i64 0, .int .i64 0, .int .i64 0, .int .i64 0]) ?_ 0 _ rfl; (with_reducible repeat (first | refine blk_drewN ?_ _ | refine blk_drew ?_ | refine blk_alloc ?_ _)); exact BK950.out) Try.underlying29 rfl (by kernel_rfl)) rfl ?_
       exact ⟨by first | rfl | (simp [errW_none, errW_some] <;> rfl) | (simp [*, errW_none, errW_some] <;> rfl), (zb1 HB)⟩
end Go.Proofs.Ytinpcalgdiigiaa.PD
