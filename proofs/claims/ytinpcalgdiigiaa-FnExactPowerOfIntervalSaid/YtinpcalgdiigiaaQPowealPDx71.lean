-- By wip/mk/drv.py
import Derived.Test.YtinpcalgdiigiaaQPowealPDx0
import Derived.Test.YtinpcalgdiigiaaQPowealPDx1
import Derived.Test.YtinpcalgdiigiaaQPowealPDx4
import Derived.Test.YtinpcalgdiigiaaQPowealPDx63
namespace Go.Proofs.Ytinpcalgdiigiaa.PD
open Go.RowKit Go.Proofs.YtinpcalgdiigiaaW.PrintWords Go.Proofs.YtinpcalgdiigiaaW.PrintLast Go.Proofs.YtinpcalgdiigiaaW.PrintMore
attribute [local go_sem] max2_int min2_int max_two min_two max_three min_three max_four min_four
set_option linter.unusedVariables false
set_option linter.unusedSimpArgs false
/-! ### spec_ivRaise: function 95 -/
set_option maxHeartbeats 8000000 in
set_option maxRecDepth 100000 in
theorem spec_ivRaise.calls (k : Nat) (a0_0 : Int) (a0_1 : Int) (a1 : Int) (r1 : Int) (r2 : Int) (r3 : Bool) (w : World) (h : spec_ivRaise.f k a0_0 a0_1 a1 = some (r1, r2, r3)) :
  Calls Try.prog 95 #[.agg #[.int .i64 a0_0, .int .i64 a0_1], .int .i64 a1] w fun e w' => e = .returned (.tuple #[.agg #[.int .i64 r1, .int .i64 r2], .bool r3]) ∧ Below w.heap.size w w' := by
 have hu27 := Try.underlying27
 have HB := Aside0.mk (Below.refl w.heap.size w)
 have H : ((spec_dyInt.f 1).bind fun bt942 => (spec_ivRaise.l0 k a1 a0_0 a0_1 bt942.1 bt942.2)) = some (r1, r2, r3) := h
 clear h
 replace H := Option.bind_eq_some_iff.mp H
 obtain ⟨⟨t942, t943⟩, A30, H⟩ := H
 replace H : (spec_ivRaise.l0 k a1 a0_0 a0_1 t942 t943) = some (r1, r2, r3) := H
 have A3 := Aside0.mk A30
 clear A30
 have H' := Aside0.mk H
 clear H
 go_enter Try.func95, Try.ntmps95
 go_wp2_with (first | ((with_reducible refine gate_dst (N := 2) rfl ?_); refine zbe (N := 2) (cs := #[.int .i64 a0_0, .int .i64 a0_1]) (t := 27) ?_; intro gb940 hg w4 hbox hb; have BK940 := Aside0.mk (hbox); have GW940 := Aside0.mk (zge (zb0 HB) hg); have GE940 := GW940; replace HB := Aside0.mk (below_step (zb0 HB) hb); clear hb hbox hg) | ((with_reducible refine gate_dst (N := 4) rfl ?_); refine zbe (N := 4) (cs := #[.int .i64 0, .int .i64 0]) (t := 27) ?_; intro gb941 hg w5 hbox hb; have BK941 := Aside0.mk (hbox); have GW941 := Aside0.mk (zge (zb1 HB) hg); have GE941 := GW941; have NB940_941 := Aside0.mk (zlt BK940 hg); have NB941_940 := Aside0.mk (zgt BK940 hg); replace BK940 := Aside0.mk (zbb BK940 hb); replace HB := Aside0.mk (below_step (zb1 HB) hb); clear hb hbox hg) | ((with_reducible refine gate_callee (f := 96) rfl ?_); refine goesL_ (some 9) rfl rfl Try.func96 (by kernel_rfl) rfl #[.int .i64 1] rfl zq6 ?_; (with_reducible refine (spec_dyInt.calls 1 t942 t943 _ A3.out).mono ?_); rintro e w6 ⟨rfl, hb⟩; refine ⟨_, rfl, ?_⟩; replace BK940 := Aside0.mk (zbb BK940 hb); replace BK941 := Aside0.mk (zbb BK941 hb); replace HB := Aside0.mk (below_step (zb1 HB) hb); (try clear hb); (try clear hb2); (try clear hk); (try clear hi)) | ((with_reducible refine gate_dst (N := 6) rfl ?_); refine zbe (N := 6) (cs := #[.int .i64 0, .int .i64 0]) (t := 27) ?_; intro gb944 hg w7 hbox hb; have BK944 := Aside0.mk (hbox); have GW944 := Aside0.mk (zge (zb1 HB) hg); have GE944 := GW944; have NB940_944 := Aside0.mk (zlt BK940 hg); have NB944_940 := Aside0.mk (zgt BK940 hg); have NB941_944 := Aside0.mk (zlt BK941 hg); have NB944_941 := Aside0.mk (zgt BK941 hg); replace BK940 := Aside0.mk (zbb BK940 hb); replace BK941 := Aside0.mk (zbb BK941 hb); replace HB := Aside0.mk (below_step (zb1 HB) hb); clear hb hbox hg; have hnb8 := NB944_940.out; have hnc8 := NB940_944.out; have hnb9 := NB944_941.out; have hnc9 := NB941_944.out; have hcz10_0 : w7.cell? ⟨gb944, 0, none⟩ = some (.int .i64 0) := zc BK944 0; have hcz10_1 : w7.cell? ⟨gb944, 1, none⟩ = some (.int .i64 0) := zc BK944 1; have hfz10_0 := blk_frozen BK944.out 0; have hfz10_1 := blk_frozen BK944.out 1))
 go_loopg [1] k (fun kq v1 w' => ∃ (x1_1 : Int) (x942000_1 : Int) (x942001_1 : Int) (x945000_1 : Int) (x945001_1 : Int), v1 = .int .i64 x1_1 ∧ Aside0 (spec_ivRaise.l0 kq x1_1 a0_0 a0_1 x945000_1 x945001_1 = some (r1, r2, r3)) ∧ Aside0 (kq ≤ k) ∧ Aside0 (w'.heap[gb940]? = some (.cells #[.int .i64 a0_0, .int .i64 a0_1] 27 (0, 0))) ∧ Aside0 (w'.heap[gb941]? = some (.cells #[.int .i64 x942000_1, .int .i64 x942001_1] 27 (0, 0))) ∧ Aside0 (w'.heap[gb944]? = some (.cells #[.int .i64 x945000_1, .int .i64 x945001_1] 27 (0, 0))) ∧ Aside0 (Below w.heap.size w w'))
 case atStart => exact ⟨(a1), (0), (0), (t942), (t943), (by first | rfl | (simp; done) | (simp [*]; done)), H', ⟨Nat.le_refl _⟩, ⟨zq5 BK940⟩, ⟨zq5 BK941⟩, ⟨by (with_reducible repeat (first | refine blk_drewN ?_ _ | refine blk_drew ?_ | refine blk_alloc ?_ _)); refine blk_put (cs := #[.int .i64 t942, .int .i64 0]) ?_ 1 _ rfl; (with_reducible repeat (first | refine blk_drewN ?_ _ | refine blk_drew ?_ | refine blk_alloc ?_ _)); refine blk_put (cs := #[.int .i64 0, .int .i64 0]) ?_ 0 _ rfl; (with_reducible repeat (first | refine blk_drewN ?_ _ | refine blk_drew ?_ | refine blk_alloc ?_ _)); exact BK944.out⟩, ⟨(zb1 HB)⟩⟩
 case round =>
  clear H'
  try clear p2
  try clear c8
  try clear c9
  try clear hcz10_0
  try clear hcz10_1
  try clear hfz10_0
  try clear hfz10_1
  obtain ⟨x1_1, x942000_1, x942001_1, x945000_1, x945001_1, rfl, HA, HK1, BK940, BK941, BK944, HB⟩ := hrel
  cases gk with
  | zero => exact absurd HA.out (by simp [spec_ivRaise.l0])
  | succ k1 =>
   have H := HA.out
   clear HA
   simp only [spec_ivRaise.l0] at H
   by_cases c11 : x1_1 > 0
   ·
    rw [if_pos c11] at H
    have c11b0 : decide (0 < x1_1) = true := decide_eq_true c11
    clear c11
    replace H := Option.bind_eq_some_iff.mp H
    obtain ⟨⟨t945, t946, t947⟩, A120, H⟩ := H
    replace H : (if t947 = true then (spec_ivRaise.l0 k1 (wrap64 (x1_1 - 1)) a0_0 a0_1 t945 t946) else (some (0, 0, false))) = some (r1, r2, r3) := H
    have A12 := Aside0.mk A120
    clear A120
    by_cases c13 : t947 = true
    ·
     subst c13
     have H1 : (spec_ivRaise.l0 k1 (wrap64 (x1_1 - 1)) a0_0 a0_1 t945 t946) = some (r1, r2, r3) := by rw [if_pos rfl] at H; exact H
     clear H
     have H := H1
     clear H1
     have H' := Aside0.mk H
     clear H
     have hnb14 := NB944_940.out
     have hnc14 := NB940_944.out
     have hnb15 := NB944_941.out
     have hnc15 := NB941_944.out
     have hcz16_0 : wr.cell? ⟨gb944, 0, none⟩ = some (.int .i64 x945000_1) := zc BK944 0
     have hcz16_1 : wr.cell? ⟨gb944, 1, none⟩ = some (.int .i64 x945001_1) := zc BK944 1
     have hfz16_0 := blk_frozen BK944.out 0
     have hfz16_1 := blk_frozen BK944.out 1
     have hnb17 := NB940_941.out
     have hnc17 := NB941_940.out
     have hcz18_0 : wr.cell? ⟨gb940, 0, none⟩ = some (.int .i64 a0_0) := zc BK940 0
     have hcz18_1 : wr.cell? ⟨gb940, 1, none⟩ = some (.int .i64 a0_1) := zc BK940 1
     have hfz18_0 := blk_frozen BK940.out 0
     have hfz18_1 := blk_frozen BK940.out 1
     go_wp2_with (first | ((with_reducible refine gate_callee (f := 93) rfl ?_); refine goesL_ (some 17) rfl rfl Try.func93 (by kernel_rfl) rfl #[.agg #[.int .i64 x945000_1, .int .i64 x945001_1], .agg #[.int .i64 a0_0, .int .i64 a0_1]] rfl zq6 ?_; (with_reducible refine (spec_dyMul.calls k1 x945000_1 x945001_1 a0_0 a0_1 t945 t946 true _ A12.out).mono ?_); rintro e w19 ⟨rfl, hb⟩; refine ⟨_, rfl, ?_⟩; replace BK940 := Aside0.mk (zbb BK940 hb); replace BK941 := Aside0.mk (zbb BK941 hb); replace BK944 := Aside0.mk (zbb BK944 hb); replace HB := Aside0.mk (below_step (zb1 HB) hb); (try clear hb); (try clear hb2); (try clear hk); (try clear hi)) | ((with_reducible refine gate_dst (N := 7) rfl ?_); refine zbe (N := 7) (cs := #[.int .i64 0, .int .i64 0]) (t := 27) ?_; intro gb948 hg w20 hbox hb; have BK948 := Aside0.mk (hbox); have GW948 := Aside0.mk (zge (zb1 HB) hg); have GE948 := GW948; have NB940_948 := Aside0.mk (zlt BK940 hg); have NB948_940 := Aside0.mk (zgt BK940 hg); have NB941_948 := Aside0.mk (zlt BK941 hg); have NB948_941 := Aside0.mk (zgt BK941 hg); have NB944_948 := Aside0.mk (zlt BK944 hg); have NB948_944 := Aside0.mk (zgt BK944 hg); replace BK940 := Aside0.mk (zbb BK940 hb); replace BK941 := Aside0.mk (zbb BK941 hb); replace BK944 := Aside0.mk (zbb BK944 hb); replace HB := Aside0.mk (below_step (zb1 HB) hb); clear hb hbox hg; have hnb21 := NB948_940.out; have hnc21 := NB940_948.out; have hnb22 := NB948_941.out; have hnc22 := NB941_948.out; have hnb23 := NB948_944.out; have hnc23 := NB944_948.out; have hcz24_0 : w20.cell? ⟨gb948, 0, none⟩ = some (.int .i64 0) := zc BK948 0; have hcz24_1 : w20.cell? ⟨gb948, 1, none⟩ = some (.int .i64 0) := zc BK948 1; have hfz24_0 := blk_frozen BK948.out 0; have hfz24_1 := blk_frozen BK948.out 1; have hcz25_0 : w20.cell? ⟨gb944, 0, none⟩ = some (.int .i64 x945000_1) := zc BK944 0; have hcz25_1 : w20.cell? ⟨gb944, 1, none⟩ = some (.int .i64 x945001_1) := zc BK944 1; have hfz25_0 := blk_frozen BK944.out 0; have hfz25_1 := blk_frozen BK944.out 1))
     go_roundg k1
     case measure => have := HK1.out; omega
     case rel => exact ⟨(wrap64 (x1_1 - 1)), (x942000_1), (x942001_1), (t945), (t946), (by first | rfl | (simp; done) | (simp [*]; done)), H', ⟨by have := HK1.out; omega⟩, ⟨zq5 BK940⟩, ⟨zq5 BK941⟩, ⟨by (with_reducible repeat (first | refine blk_drewN ?_ _ | refine blk_drew ?_ | refine blk_alloc ?_ _)); refine blk_put (cs := #[.int .i64 t945, .int .i64 x945001_1]) ?_ 1 _ rfl; (with_reducible repeat (first | refine blk_drewN ?_ _ | refine blk_drew ?_ | refine blk_alloc ?_ _)); refine blk_put (cs := #[.int .i64 x945000_1, .int .i64 x945001_1]) ?_ 0 _ rfl; (with_reducible repeat (first | refine blk_drewN ?_ _ | refine blk_drew ?_ | refine blk_alloc ?_ _)); refine blk_far ?_ NB944_948.out _; (with_reducible repeat (first | refine blk_drewN ?_ _ | refine blk_drew ?_ | refine blk_alloc ?_ _)); refine blk_far ?_ NB944_948.out _; (with_reducible repeat (first | refine blk_drewN ?_ _ | refine blk_drew ?_ | refine blk_alloc ?_ _)); exact BK944.out⟩, ⟨(zb1 HB)⟩⟩
    ·
     replace c13 := Bool.eq_false_iff.mpr c13
     subst c13
     have H1 : (some (0, 0, false)) = some (r1, r2, r3) := by rw [if_neg (show ¬ (false = true) by decide)] at H; exact H
     clear H
     have H := H1
     clear H1
     simp only [Option.some.injEq, Prod.mk.injEq] at H
     obtain ⟨rfl, rfl, rfl⟩ := H
     have hnb26 := NB944_940.out
     have hnc26 := NB940_944.out
     have hnb27 := NB944_941.out
     have hnc27 := NB941_944.out
     have hcz28_0 : wr.cell? ⟨gb944, 0, none⟩ = some (.int .i64 x945000_1) := zc BK944 0
     have hcz28_1 : wr.cell? ⟨gb944, 1, none⟩ = some (.int .i64 x945001_1) := zc BK944 1
     have hfz28_0 := blk_frozen BK944.out 0
     have hfz28_1 := blk_frozen BK944.out 1
     have hnb29 := NB940_941.out
     have hnc29 := NB941_940.out
     have hcz30_0 : wr.cell? ⟨gb940, 0, none⟩ = some (.int .i64 a0_0) := zc BK940 0
     have hcz30_1 : wr.cell? ⟨gb940, 1, none⟩ = some (.int .i64 a0_1) := zc BK940 1
     have hfz30_0 := blk_frozen BK940.out 0
     have hfz30_1 := blk_frozen BK940.out 1
     go_wp2_with (first | ((with_reducible refine gate_callee (f := 93) rfl ?_); refine goesL_ (some 17) rfl rfl Try.func93 (by kernel_rfl) rfl #[.agg #[.int .i64 x945000_1, .int .i64 x945001_1], .agg #[.int .i64 a0_0, .int .i64 a0_1]] rfl zq6 ?_; (with_reducible refine (spec_dyMul.calls k1 x945000_1 x945001_1 a0_0 a0_1 t945 t946 false _ A12.out).mono ?_); rintro e w31 ⟨rfl, hb⟩; refine ⟨_, rfl, ?_⟩; replace BK940 := Aside0.mk (zbb BK940 hb); replace BK941 := Aside0.mk (zbb BK941 hb); replace BK944 := Aside0.mk (zbb BK944 hb); replace HB := Aside0.mk (below_step (zb1 HB) hb); (try clear hb); (try clear hb2); (try clear hk); (try clear hi)) | ((with_reducible refine gate_dst (N := 7) rfl ?_); refine zbe (N := 7) (cs := #[.int .i64 0, .int .i64 0]) (t := 27) ?_; intro gb948 hg w32 hbox hb; have BK948 := Aside0.mk (hbox); have GW948 := Aside0.mk (zge (zb1 HB) hg); have GE948 := GW948; have NB940_948 := Aside0.mk (zlt BK940 hg); have NB948_940 := Aside0.mk (zgt BK940 hg); have NB941_948 := Aside0.mk (zlt BK941 hg); have NB948_941 := Aside0.mk (zgt BK941 hg); have NB944_948 := Aside0.mk (zlt BK944 hg); have NB948_944 := Aside0.mk (zgt BK944 hg); replace BK940 := Aside0.mk (zbb BK940 hb); replace BK941 := Aside0.mk (zbb BK941 hb); replace BK944 := Aside0.mk (zbb BK944 hb); replace HB := Aside0.mk (below_step (zb1 HB) hb); clear hb hbox hg; have hnb33 := NB948_940.out; have hnc33 := NB940_948.out; have hnb34 := NB948_941.out; have hnc34 := NB941_948.out; have hnb35 := NB948_944.out; have hnc35 := NB944_948.out; have hcz36_0 : w32.cell? ⟨gb948, 0, none⟩ = some (.int .i64 0) := zc BK948 0; have hcz36_1 : w32.cell? ⟨gb948, 1, none⟩ = some (.int .i64 0) := zc BK948 1; have hfz36_0 := blk_frozen BK948.out 0; have hfz36_1 := blk_frozen BK948.out 1; have hcz37_0 : w32.cell? ⟨gb941, 0, none⟩ = some (.int .i64 x942000_1) := zc BK941 0; have hcz37_1 : w32.cell? ⟨gb941, 1, none⟩ = some (.int .i64 x942001_1) := zc BK941 1; have hfz37_0 := blk_frozen BK941.out 0; have hfz37_1 := blk_frozen BK941.out 1))
     refine bodyPost_ret (results_ct rfl _ _ gb941 27 #[.int .i64 0, .int .i64 0] (0, 0) _ rfl (by (with_reducible repeat (first | refine blk_drewN ?_ _ | refine blk_drew ?_ | refine blk_alloc ?_ _)); refine blk_put (cs := #[.int .i64 0, .int .i64 x942001_1]) ?_ 1 _ rfl; (with_reducible repeat (first | refine blk_drewN ?_ _ | refine blk_drew ?_ | refine blk_alloc ?_ _)); refine blk_put (cs := #[.int .i64 x942000_1, .int .i64 x942001_1]) ?_ 0 _ rfl; (with_reducible repeat (first | refine blk_drewN ?_ _ | refine blk_drew ?_ | refine blk_alloc ?_ _)); refine blk_far ?_ NB941_948.out _; (with_reducible repeat (first | refine blk_drewN ?_ _ | refine blk_drew ?_ | refine blk_alloc ?_ _)); refine blk_far ?_ NB941_948.out _; (with_reducible repeat (first | refine blk_drewN ?_ _ | refine blk_drew ?_ | refine blk_alloc ?_ _)); exact BK941.out) Try.underlying27 rfl (by kernel_rfl)) rfl ?_
     exact ⟨by first | rfl | (simp [errW_none, errW_some] <;> rfl) | (simp [*, errW_none, errW_some] <;> rfl), (zb1 HB)⟩
   ·
    rw [if_neg c11] at H
    have c11b0 : decide (0 < x1_1) = false := decide_eq_false c11
    clear c11
    simp only [Option.some.injEq, Prod.mk.injEq] at H
    obtain ⟨rfl, rfl, rfl⟩ := H
    have hnb38 := NB944_940.out
    have hnc38 := NB940_944.out
    have hnb39 := NB944_941.out
    have hnc39 := NB941_944.out
    have hcz40_0 : wr.cell? ⟨gb944, 0, none⟩ = some (.int .i64 x945000_1) := zc BK944 0
    have hcz40_1 : wr.cell? ⟨gb944, 1, none⟩ = some (.int .i64 x945001_1) := zc BK944 1
    have hfz40_0 := blk_frozen BK944.out 0
    have hfz40_1 := blk_frozen BK944.out 1
    have hnb41 := NB941_940.out
    have hnc41 := NB940_941.out
    have hcz42_0 : wr.cell? ⟨gb941, 0, none⟩ = some (.int .i64 x942000_1) := zc BK941 0
    have hcz42_1 : wr.cell? ⟨gb941, 1, none⟩ = some (.int .i64 x942001_1) := zc BK941 1
    have hfz42_0 := blk_frozen BK941.out 0
    have hfz42_1 := blk_frozen BK941.out 1
    go_wp2
    refine bodyPost_ret (results_ct rfl _ _ gb941 27 #[.int .i64 x945000_1, .int .i64 x945001_1] (0, 0) _ rfl (by (with_reducible repeat (first | refine blk_drewN ?_ _ | refine blk_drew ?_ | refine blk_alloc ?_ _)); refine blk_put (cs := #[.int .i64 x945000_1, .int .i64 x942001_1]) ?_ 1 _ rfl; (with_reducible repeat (first | refine blk_drewN ?_ _ | refine blk_drew ?_ | refine blk_alloc ?_ _)); refine blk_put (cs := #[.int .i64 x942000_1, .int .i64 x942001_1]) ?_ 0 _ rfl; (with_reducible repeat (first | refine blk_drewN ?_ _ | refine blk_drew ?_ | refine blk_alloc ?_ _)); exact BK941.out) Try.underlying27 rfl (by kernel_rfl)) rfl ?_
    exact ⟨by first | rfl | (simp [errW_none, errW_some] <;> rfl) | (simp [*, errW_none, errW_some] <;> rfl), (zb1 HB)⟩
end Go.Proofs.Ytinpcalgdiigiaa.PD
