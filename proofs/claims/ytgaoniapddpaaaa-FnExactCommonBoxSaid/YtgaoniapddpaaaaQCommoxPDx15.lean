-- By wip/mk/drv.py
import Derived.Test.YtgaoniapddpaaaaQCommoxPDx0
import Derived.Test.YtgaoniapddpaaaaQCommoxPDx1
import Derived.Test.YtgaoniapddpaaaaQCommoxPDx3
import Derived.Test.YtgaoniapddpaaaaQCommoxPDx7
namespace Go.Proofs.Ytgaoniapddpaaaa.PD
open Go.RowKit Go.Proofs.YtgaoniapddpaaaaW.PrintWords Go.Proofs.YtgaoniapddpaaaaW.PrintLast Go.Proofs.YtgaoniapddpaaaaW.PrintMore
attribute [local go_sem] max2_int min2_int max_two min_two max_three min_three max_four min_four
set_option linter.unusedVariables false
set_option linter.unusedSimpArgs false
/-! ### spec_bxMake: function 71 -/
set_option maxHeartbeats 8000000 in
set_option maxRecDepth 100000 in
theorem spec_bxMake.calls (k : Nat) (a0 : Int) (A1 : Option Addr) (c1 : Nat) (l1 : List Int) (A2 : Option Addr) (c2 : Nat) (l2 : List Int) (r1 : Int) (r2 : List Int) (r3 : List Int) (r4 : Bool) (w : World) (hr1 : Kd.C (Kd.int .i64) w A1 l1.length l1) (hc1 : l1.length ≤ c1) (hr2 : Kd.C (Kd.int .i64) w A2 l2.length l2) (hc2 : l2.length ≤ c2) (h : spec_bxMake.f k a0 l1 l2 = some (r1, r2, r3, r4)) :
  Calls Try.prog 71 #[.int .i64 a0, .slice A1 l1.length c1, .slice A2 l2.length c2] w fun e w' => ∃ v1_ v2_ : Value, e = .returned (.tuple #[.agg #[.int .i64 r1, v1_, v2_], .bool r4]) ∧ Kd.R (Kd.int .i64) 3 w' w.heap.size (fun k_ => some k_ ≠ (v2_ : Value).ownBlock) v1_ r2 ∧ Kd.R (Kd.int .i64) 3 w' w.heap.size (fun k_ => some k_ ≠ (v1_ : Value).ownBlock) v2_ r3 ∧ Below w.heap.size w w' := by
 have hu27 := Try.underlying27
 have HR1 := Aside0.mk hr1
 have HC1 := Aside0.mk hc1
 clear hr1 hc1
 have HR2 := Aside0.mk hr2
 have HC2 := Aside0.mk hc2
 clear hr2 hc2
 have HB := Aside0.mk (Below.refl w.heap.size w)
 have H : ((spec_l1Own.f l1).bind fun t266 => ((spec_l1Own.f l2).bind fun t269 => (spec_bxMake.l0 k a0 t266 t269))) = some (r1, r2, r3, r4) := h
 clear h
 replace H := Option.bind_eq_some_iff.mp H
 obtain ⟨t266, A40, H⟩ := H
 replace H : ((spec_l1Own.f l2).bind fun t269 => (spec_bxMake.l0 k a0 t266 t269)) = some (r1, r2, r3, r4) := H
 have A4 := Aside0.mk A40
 clear A40
 replace H := Option.bind_eq_some_iff.mp H
 obtain ⟨t269, A50, H⟩ := H
 replace H : (spec_bxMake.l0 k a0 t266 t269) = some (r1, r2, r3, r4) := H
 have A5 := Aside0.mk A50
 clear A50
 have H' := Aside0.mk H
 clear H
 go_enter Try.func71, Try.ntmps71
 go_wp2_with (first | ((with_reducible refine gate_dst (N := 6) rfl ?_); refine zbe (N := 6) (cs := #[.int .i64 0, .slice none 0 0, .slice none 0 0]) (t := 27) ?_; intro gb265 hg w6 hbox hb; have BK265 := Aside0.mk (hbox); have GW265 := Aside0.mk (zge (zb0 HB) hg); have GE265 := GW265; replace HB := Aside0.mk (below_step (zb0 HB) hb); clear hb hbox hg) | ((with_reducible refine gate_callee (f := 96) rfl ?_); refine goesL_ (some 12) rfl rfl Try.func96 (by kernel_rfl) rfl #[.slice A1 l1.length c1] rfl zq6 ?_; (with_reducible refine (spec_l1Own.calls _ _ l1 t266 _ ?side1 ?side2 A4.out).mono ?_); (case side1 => repeat (first | exact (Kd.C_below HR1.out HB.out) | (with_reducible refine Kd.C_alloc ?_ _) | (with_reducible refine Kd.C_drewN ?_ _) | (with_reducible refine Kd.C_drew ?_))); (case side2 => exact HC1.out); rintro e w7 ⟨v267, rfl, ho0, hb⟩; refine ⟨_, rfl, ?_⟩; have HO268 := Aside0.mk (Kd.R_lower ho0 (below_size (zb1 HB))); replace BK265 := Aside0.mk (zbb BK265 hb); replace HB := Aside0.mk (below_step (zb1 HB) hb); (try clear hb); (try clear hb2); (try clear hk); (try clear hi); (try clear ho0)) | ((with_reducible refine gate_callee (f := 96) rfl ?_); refine goesL_ (some 14) rfl rfl Try.func96 (by kernel_rfl) rfl #[.slice A2 l2.length c2] rfl zq6 ?_; (with_reducible refine (spec_l1Own.calls _ _ l2 t269 _ ?side1 ?side2 A5.out).mono ?_); (case side1 => repeat (first | exact (Kd.C_below HR2.out HB.out) | (with_reducible refine Kd.C_alloc ?_ _) | (with_reducible refine Kd.C_drewN ?_ _) | (with_reducible refine Kd.C_drew ?_))); (case side2 => exact HC2.out); rintro e w8 ⟨v270, rfl, ho0, hb⟩; refine ⟨_, rfl, ?_⟩; have HO271 := Aside0.mk (Kd.R_lower (Kd.R_new' ho0 (Kd.R_lt (zq3 HO268))) (below_size (zb1 HB))); replace HO268 := Aside0.mk (Kd.R_elder' (zq3 HO268) (Kd.R_base ho0) hb); replace BK265 := Aside0.mk (zbb BK265 hb); replace HB := Aside0.mk (below_step (zb1 HB) hb); (try clear hb); (try clear hb2); (try clear hk); (try clear hi); (try clear ho0); obtain ⟨Ao9, co9, eo9⟩ := Kd.R_slice HO271.out; subst eo9; obtain ⟨Ao10, co10, eo10⟩ := Kd.R_slice HO268.out; subst eo10) | ((with_reducible refine gate_dst (N := 8) rfl ?_); refine zbe (N := 8) (cs := #[.int .i64 0, .slice none 0 0, .slice none 0 0]) (t := 27) ?_; intro gb272 hg w11 hbox hb; have BK272 := Aside0.mk (hbox); have GW272 := Aside0.mk (zge (zb1 HB) hg); have GE272 := GW272; have NB265_272 := Aside0.mk (zlt BK265 hg); have NB272_265 := Aside0.mk (zgt BK265 hg); replace HO268 := Aside0.mk (Kd.R_below (zq3 HO268) hb); replace HO271 := Aside0.mk (Kd.R_below (zq3 HO271) hb); replace BK265 := Aside0.mk (zbb BK265 hb); replace HB := Aside0.mk (below_step (zb1 HB) hb); clear hb hbox hg; have hnb12 := NB272_265.out; have hnc12 := NB265_272.out; have hcz13_0 : w11.cell? ⟨gb272, 0, none⟩ = some (.int .i64 0) := zc BK272 0; have hcz13_1 : w11.cell? ⟨gb272, 1, none⟩ = some (.slice none 0 0) := zc BK272 1; have hcz13_2 : w11.cell? ⟨gb272, 2, none⟩ = some (.slice none 0 0) := zc BK272 2; have hfz13_0 := blk_frozen BK272.out 0; have hfz13_1 := blk_frozen BK272.out 1; have hfz13_2 := blk_frozen BK272.out 2))
 go_loopg [] k (fun kq w' => ∃ (x273000_1 : Int) (x273001_1 : List Int) (x273002_1 : List Int) (u273001 : Value) (u273002 : Value), Aside0 (spec_bxMake.l0 kq x273000_1 x273001_1 x273002_1 = some (r1, r2, r3, r4)) ∧ Aside0 (kq ≤ k) ∧ Aside0 (Kd.R (Kd.int .i64) 3 w' w.heap.size (fun k_ => some k_ ≠ (u273002 : Value).ownBlock) u273001 x273001_1) ∧ Aside0 (Kd.R (Kd.int .i64) 3 w' w.heap.size (fun k_ => some k_ ≠ (u273001 : Value).ownBlock) u273002 x273002_1) ∧ Aside0 (w'.heap[gb265]? = some (.cells #[.int .i64 0, (.slice none 0 0), (.slice none 0 0)] 27 (0, 0))) ∧ Aside0 (w'.heap[gb272]? = some (.cells #[.int .i64 x273000_1, u273001, u273002] 27 (0, 0))) ∧ Aside0 (Below w.heap.size w w'))
 case atStart => exact ⟨(a0), (t266), (t269), (.slice Ao10 t266.length co10), (.slice Ao9 t269.length co9), H', ⟨Nat.le_refl _⟩, ⟨by (with_reducible repeat (first | apply Kd.R_alloc | apply Kd.R_drewN | apply Kd.R_drew)); exact Kd.R_mono (Kd.R_far (p := ⟨gb272, 2, none⟩) (Kd.R_far (p := ⟨gb272, 1, none⟩) (Kd.R_far (p := ⟨gb272, 0, none⟩) (Kd.R_types HO268.out BK272.out (by decide)) (fun _ hk => hk.2) (.int .i64 a0)) (fun _ hk => hk.2) (.slice Ao10 t266.length co10)) (fun _ hk => hk.2) (.slice Ao9 t269.length co9)) (fun _ hk => hk.1.2)⟩, ⟨by (with_reducible repeat (first | apply Kd.R_alloc | apply Kd.R_drewN | apply Kd.R_drew)); exact Kd.R_mono (Kd.R_far (p := ⟨gb272, 2, none⟩) (Kd.R_far (p := ⟨gb272, 1, none⟩) (Kd.R_far (p := ⟨gb272, 0, none⟩) (Kd.R_types HO271.out BK272.out (by decide)) (fun _ hk => hk.2) (.int .i64 a0)) (fun _ hk => hk.2) (.slice Ao10 t266.length co10)) (fun _ hk => hk.2) (.slice Ao9 t269.length co9)) (fun _ hk => hk.1.2)⟩, ⟨zq5 BK265⟩, ⟨by (with_reducible repeat (first | refine blk_drewN ?_ _ | refine blk_drew ?_ | refine blk_alloc ?_ _)); refine blk_put (cs := #[.int .i64 a0, .slice Ao10 t266.length co10, .slice none 0 0]) ?_ 2 _ rfl; (with_reducible repeat (first | refine blk_drewN ?_ _ | refine blk_drew ?_ | refine blk_alloc ?_ _)); refine blk_put (cs := #[.int .i64 a0, .slice none 0 0, .slice none 0 0]) ?_ 1 _ rfl; (with_reducible repeat (first | refine blk_drewN ?_ _ | refine blk_drew ?_ | refine blk_alloc ?_ _)); refine blk_put (cs := #[.int .i64 0, .slice none 0 0, .slice none 0 0]) ?_ 0 _ rfl; (with_reducible repeat (first | refine blk_drewN ?_ _ | refine blk_drew ?_ | refine blk_alloc ?_ _)); exact BK272.out⟩, ⟨(zb1 HB)⟩⟩
 case round =>
  clear H'
  try clear c1
  try clear c2
  try clear p2
  try clear c7
  try clear c9
  try clear c12
  try clear hcz13_0
  try clear hcz13_1
  try clear hcz13_2
  try clear hfz13_0
  try clear hfz13_1
  try clear hfz13_2
  obtain ⟨x273000_1, x273001_1, x273002_1, u273001, u273002, HA, HK1, HO_273001, HO_273002, BK265, BK272, HB⟩ := hrel
  cases gk with
  | zero => exact absurd HA.out (by simp [spec_bxMake.l0])
  | succ k1 =>
   have H := HA.out
   clear HA
   simp only [spec_bxMake.l0] at H
   have HC14 := Aside0.mk H
   clear H
   go_upto_region 2 with (fail)
   go_cut [22] (fun v22 wc => ∃ (kq : Nat) (x22_13 : Bool), v22 = .bool x22_13 ∧ Aside0 (spec_bxMake.j1 kq x22_13 x273000_1 x273001_1 x273002_1 = some (r1, r2, r3, r4)) ∧ Aside0 (kq ≤ k1) ∧ Aside0 (Kd.R (Kd.int .i64) 3 wc w.heap.size (fun k_ => some k_ ≠ (u273002 : Value).ownBlock) u273001 x273001_1) ∧ Aside0 (Kd.R (Kd.int .i64) 3 wc w.heap.size (fun k_ => some k_ ≠ (u273001 : Value).ownBlock) u273002 x273002_1) ∧ Aside0 (wc.heap[gb265]? = some (.cells #[.int .i64 0, (.slice none 0 0), (.slice none 0 0)] 27 (0, 0))) ∧ Aside0 (wc.heap[gb272]? = some (.cells #[.int .i64 x273000_1, u273001, u273002] 27 (0, 0))) ∧ Aside0 (Below w.heap.size w wc))
   case first =>
    have H := HC14.out
    clear HC14
    by_cases c15 : x273000_1 > 0
    ·
     rw [if_pos c15] at H
     have c15b0 : decide (0 < x273000_1) = true := decide_eq_true c15
     clear c15
     (first | rw [c15b0] | (simp only [i64_w, i32_w]; rw [c15b0]) | skip)
     replace H := Option.bind_eq_some_iff.mp H
     obtain ⟨t273, A160, H⟩ := H
     replace H : (spec_bxMake.j1 k1 t273 x273000_1 x273001_1 x273002_1) = some (r1, r2, r3, r4) := H
     have A16 := Aside0.mk A160
     clear A160
     have H' := Aside0.mk H
     clear H
     have hnb17 := NB272_265.out
     have hnc17 := NB265_272.out
     have hcz18_0 : wr.cell? ⟨gb272, 0, none⟩ = some (.int .i64 x273000_1) := zc BK272 0
     have hcz18_1 : wr.cell? ⟨gb272, 1, none⟩ = some (u273001) := zc BK272 1
     have hcz18_2 : wr.cell? ⟨gb272, 2, none⟩ = some (u273002) := zc BK272 2
     have hfz18_0 := blk_frozen BK272.out 0
     have hfz18_1 := blk_frozen BK272.out 1
     have hfz18_2 := blk_frozen BK272.out 2
     obtain ⟨Ao19, co19, eo19⟩ := Kd.R_slice HO_273001.out
     subst eo19
     obtain ⟨Ao20, co20, eo20⟩ := Kd.R_slice HO_273002.out
     subst eo20
     go_wp2_with (first | (go_at_call 97; (with_reducible refine (spec_bxEven.calls k1 x273000_1 _ _ x273001_1 _ _ x273002_1 t273 _ ?side1 ?side2 ?side3 ?side4 A16.out).mono ?_); (case side1 => repeat (first | exact (Kd.R_reads' HO_273001.out).2.2 | (with_reducible refine Kd.C_alloc ?_ _) | (with_reducible refine Kd.C_drewN ?_ _) | (with_reducible refine Kd.C_drew ?_))); (case side2 => exact (Kd.R_reads' HO_273001.out).2.1); (case side3 => repeat (first | exact (Kd.R_reads' HO_273002.out).2.2 | (with_reducible refine Kd.C_alloc ?_ _) | (with_reducible refine Kd.C_drewN ?_ _) | (with_reducible refine Kd.C_drew ?_))); (case side4 => exact (Kd.R_reads' HO_273002.out).2.1); rintro e w21 ⟨rfl, hb⟩; replace HO_273001 := Aside0.mk (Kd.R_below (zq3 HO_273001) hb); replace HO_273002 := Aside0.mk (Kd.R_below (zq3 HO_273002) hb); replace BK265 := Aside0.mk (zbb BK265 hb); replace BK272 := Aside0.mk (zbb BK272 hb); replace HB := Aside0.mk (below_step (zb1 HB) hb); (try clear hb); (try clear hb2); (try clear hk); (try clear hi)))
     go_meet
     case rel => exact ⟨_, (t273), (by first | rfl | (simp; done) | (simp [*]; done)), H', ⟨by have := HK1.out; first | omega | exact Nat.le_refl _⟩, ⟨by (with_reducible repeat (first | apply Kd.R_alloc | apply Kd.R_drewN | apply Kd.R_drew)); exact HO_273001.out⟩, ⟨by (with_reducible repeat (first | apply Kd.R_alloc | apply Kd.R_drewN | apply Kd.R_drew)); exact HO_273002.out⟩, ⟨by (with_reducible repeat (first | refine blk_drewN ?_ _ | refine blk_drew ?_ | refine blk_alloc ?_ _)); exact BK265.out⟩, ⟨by (with_reducible repeat (first | refine blk_drewN ?_ _ | refine blk_drew ?_ | refine blk_alloc ?_ _)); exact BK272.out⟩, ⟨(zb1 HB)⟩⟩
    ·
     rw [if_neg c15] at H
     have c15b0 : decide (0 < x273000_1) = false := decide_eq_false c15
     clear c15
     (first | rw [c15b0] | (simp only [i64_w, i32_w]; rw [c15b0]) | skip)
     have H' := Aside0.mk H
     clear H
     have hnb22 := NB272_265.out
     have hnc22 := NB265_272.out
     have hcz23_0 : wr.cell? ⟨gb272, 0, none⟩ = some (.int .i64 x273000_1) := zc BK272 0
     have hcz23_1 : wr.cell? ⟨gb272, 1, none⟩ = some (u273001) := zc BK272 1
     have hcz23_2 : wr.cell? ⟨gb272, 2, none⟩ = some (u273002) := zc BK272 2
     have hfz23_0 := blk_frozen BK272.out 0
     have hfz23_1 := blk_frozen BK272.out 1
     have hfz23_2 := blk_frozen BK272.out 2
     go_wp2
     go_meet
     case rel => exact ⟨_, (false), (by first | rfl | (simp; done) | (simp [*]; done)), H', ⟨by have := HK1.out; first | omega | exact Nat.le_refl _⟩, ⟨by (with_reducible repeat (first | apply Kd.R_alloc | apply Kd.R_drewN | apply Kd.R_drew)); exact HO_273001.out⟩, ⟨by (with_reducible repeat (first | apply Kd.R_alloc | apply Kd.R_drewN | apply Kd.R_drew)); exact HO_273002.out⟩, ⟨by (with_reducible repeat (first | refine blk_drewN ?_ _ | refine blk_drew ?_ | refine blk_alloc ?_ _)); exact BK265.out⟩, ⟨by (with_reducible repeat (first | refine blk_drewN ?_ _ | refine blk_drew ?_ | refine blk_alloc ?_ _)); exact BK272.out⟩, ⟨(zb1 HB)⟩⟩
   case rest =>
    clear HC14
    try clear c1
    try clear c2
    try clear p2
    try clear c7
    try clear c9
    try clear c12
    try clear c15
    try clear c15b0
    try clear c17
    try clear c22
    try clear hcz13_0
    try clear hcz13_1
    try clear hcz13_2
    try clear hcz18_0
    try clear hcz18_1
    try clear hcz18_2
    try clear hcz23_0
    try clear hcz23_1
    try clear hcz23_2
    try clear hfz13_0
    try clear hfz13_1
    try clear hfz13_2
    try clear hfz18_0
    try clear hfz18_1
    try clear hfz18_2
    try clear hfz23_0
    try clear hfz23_1
    try clear hfz23_2
    try clear p2
    obtain ⟨kq, x22_13, rfl, HA, HJ13, HO_273001, HO_273002, BK265, BK272, HB⟩ := hcut
    cases kq with
    | zero => exact absurd HA.out (by simp [spec_bxMake.j1])
    | succ kj13 =>
     have H := HA.out
     clear HA
     simp only [spec_bxMake.j1] at H
     by_cases c24 : x22_13 = true
     ·
      subst c24
      have H1 : (spec_bxMake.l1 kj13 (x273001_1.length : Int) 0 (wrap64 (x273000_1 - 1)) x273001_1 x273002_1) = some (r1, r2, r3, r4) := by rw [if_pos rfl] at H; exact H
      clear H
      have H := H1
      clear H1
      have H' := Aside0.mk H
      clear H
      have hnb25 := NB272_265.out
      have hnc25 := NB265_272.out
      have hcz26_0 : wc.cell? ⟨gb272, 0, none⟩ = some (.int .i64 x273000_1) := zc BK272 0
      have hcz26_1 : wc.cell? ⟨gb272, 1, none⟩ = some (u273001) := zc BK272 1
      have hcz26_2 : wc.cell? ⟨gb272, 2, none⟩ = some (u273002) := zc BK272 2
      have hfz26_0 := blk_frozen BK272.out 0
      have hfz26_1 := blk_frozen BK272.out 1
      have hfz26_2 := blk_frozen BK272.out 2
      obtain ⟨Ao27, co27, eo27⟩ := Kd.R_slice HO_273001.out
      subst eo27
      go_wp2
      go_loopg [30] kj13 (fun kq v30 w' => ∃ (x30_3 : Int) (x273001_3 : List Int) (x273002_3 : List Int) (u273001 : Value) (u273002 : Value), v30 = .int .i64 x30_3 ∧ Aside0 (spec_bxMake.l1 kq (x273001_1.length : Int) x30_3 (wrap64 (x273000_1 - 1)) x273001_3 x273002_3 = some (r1, r2, r3, r4)) ∧ Aside0 (kq ≤ kj13) ∧ Aside0 (Kd.R (Kd.int .i64) 3 w' w.heap.size (fun k_ => some k_ ≠ (u273002 : Value).ownBlock) u273001 x273001_3) ∧ Aside0 (Kd.R (Kd.int .i64) 3 w' w.heap.size (fun k_ => some k_ ≠ (u273001 : Value).ownBlock) u273002 x273002_3) ∧ Aside0 (w'.heap[gb265]? = some (.cells #[.int .i64 0, (.slice none 0 0), (.slice none 0 0)] 27 (0, 0))) ∧ Aside0 (w'.heap[gb272]? = some (.cells #[.int .i64 (wrap64 (x273000_1 - 1)), u273001, u273002] 27 (0, 0))) ∧ Aside0 (Below w.heap.size w w'))
      case atStart => exact ⟨(0), (x273001_1), (x273002_1), (.slice Ao27 x273001_1.length co27), (u273002), (by first | rfl | (simp; done) | (simp [*]; done)), H', ⟨Nat.le_refl _⟩, ⟨by (with_reducible repeat (first | apply Kd.R_alloc | apply Kd.R_drewN | apply Kd.R_drew)); exact Kd.R_mono (Kd.R_far (p := ⟨gb272, 0, none⟩) (Kd.R_types HO_273001.out BK272.out (by decide)) (fun _ hk => hk.2) (.int .i64 (wrap64 (x273000_1 - 1)))) (fun _ hk => hk.1)⟩, ⟨by (with_reducible repeat (first | apply Kd.R_alloc | apply Kd.R_drewN | apply Kd.R_drew)); exact Kd.R_mono (Kd.R_far (p := ⟨gb272, 0, none⟩) (Kd.R_types HO_273002.out BK272.out (by decide)) (fun _ hk => hk.2) (.int .i64 (wrap64 (x273000_1 - 1)))) (fun _ hk => hk.1)⟩, ⟨zq5 BK265⟩, ⟨by (with_reducible repeat (first | refine blk_drewN ?_ _ | refine blk_drew ?_ | refine blk_alloc ?_ _)); refine blk_put (cs := #[.int .i64 x273000_1, .slice Ao27 x273001_1.length co27, u273002]) ?_ 0 _ rfl; (with_reducible repeat (first | refine blk_drewN ?_ _ | refine blk_drew ?_ | refine blk_alloc ?_ _)); exact BK272.out⟩, ⟨(zb1 HB)⟩⟩
      case round =>
       clear H'
       try clear c1
       try clear c2
       try clear p2
       try clear p6
       try clear c7
       try clear c9
       try clear c12
       try clear c15
       try clear c15b0
       try clear c17
       try clear c22
       try clear c24
       try clear c25
       try clear hcz13_0
       try clear hcz13_1
       try clear hcz13_2
       try clear hcz18_0
       try clear hcz18_1
       try clear hcz18_2
       try clear hcz23_0
       try clear hcz23_1
       try clear hcz23_2
       try clear hcz26_0
       try clear hcz26_1
       try clear hcz26_2
       try clear hfz13_0
       try clear hfz13_1
       try clear hfz13_2
       try clear hfz18_0
       try clear hfz18_1
       try clear hfz18_2
       try clear hfz23_0
       try clear hfz23_1
       try clear hfz23_2
       try clear hfz26_0
       try clear hfz26_1
       try clear hfz26_2
       try clear p2
       obtain ⟨x30_3, x273001_3, x273002_3, u273001, u273002, rfl, HA, HK3, HO_273001, HO_273002, BK265, BK272, HB⟩ := hrel
       cases gk with
       | zero => exact absurd HA.out (by simp [spec_bxMake.l1])
       | succ k3 =>
        have H := HA.out
        clear HA
        simp only [spec_bxMake.l1] at H
        by_cases c28 : x30_3 < (x273001_1.length : Int)
        ·
         rw [if_pos c28] at H
         have c28b0 : decide (x30_3 < (x273001_1.length : Int)) = true := decide_eq_true c28
         clear c28
         by_cases c29 : 0 ≤ x30_3
         ·
          rw [if_pos c29] at H
          have c29b0 : decide (0 ≤ x30_3) = true := decide_eq_true c29
          clear c29
          by_cases c30 : x30_3 < (x273001_3.length : Int)
          ·
           rw [if_pos c30] at H
           have c30b0 : decide (x30_3 < (x273001_3.length : Int)) = true := decide_eq_true c30
           clear c30
           obtain ⟨y276, hy276⟩ : ∃ y_ : List Int, y_ = (x273001_3.set (x30_3 : Int).toNat (wrap64 (Int.tdiv (rd x273001_3 x30_3) 2))) := ⟨_, rfl⟩
           replace H : (if x30_3 < (x273002_3.length : Int) then (spec_bxMake.l1 k3 (x273001_1.length : Int) (wrap64 (x30_3 + 1)) (wrap64 (x273000_1 - 1)) y276 (x273002_3.set (x30_3 : Int).toNat (wrap64 (Int.tdiv (rd x273002_3 x30_3) 2)))) else (none)) = some (r1, r2, r3, r4) := by first | (rw [hy276]; with_reducible exact H) | (have H2_ := (Option.bind_some _ _).symm.trans H; rw [hy276]; with_reducible exact H2_) | (have H2_ := (Option.bind_some _ _).symm.trans H; with_reducible exact H2_) | with_reducible exact H | (rw [hy276]; exact H) | exact H
           have Ny276 := Aside0.mk hy276
           clear hy276
           by_cases c32 : x30_3 < (x273002_3.length : Int)
           ·
            rw [if_pos c32] at H
            have c32b0 : decide (x30_3 < (x273002_3.length : Int)) = true := decide_eq_true c32
            clear c32
            obtain ⟨y278, hy278⟩ : ∃ y_ : List Int, y_ = (x273002_3.set (x30_3 : Int).toNat (wrap64 (Int.tdiv (rd x273002_3 x30_3) 2))) := ⟨_, rfl⟩
            replace H : (spec_bxMake.l1 k3 (x273001_1.length : Int) (wrap64 (x30_3 + 1)) (wrap64 (x273000_1 - 1)) y276 y278) = some (r1, r2, r3, r4) := by first | (rw [hy278]; with_reducible exact H) | (have H2_ := (Option.bind_some _ _).symm.trans H; rw [hy278]; with_reducible exact H2_) | (have H2_ := (Option.bind_some _ _).symm.trans H; with_reducible exact H2_) | with_reducible exact H | (rw [hy278]; exact H) | exact H
            have Ny278 := Aside0.mk hy278
            clear hy278
            have H' := Aside0.mk H
            clear H
            have hnb34 := NB272_265.out
            have hnc34 := NB265_272.out
            have hcz35_0 : wr.cell? ⟨gb272, 0, none⟩ = some (.int .i64 (wrap64 (x273000_1 - 1))) := zc BK272 0
            have hcz35_1 : wr.cell? ⟨gb272, 1, none⟩ = some (u273001) := zc BK272 1
            have hcz35_2 : wr.cell? ⟨gb272, 2, none⟩ = some (u273002) := zc BK272 2
            have hfz35_0 := blk_frozen BK272.out 0
            have hfz35_1 := blk_frozen BK272.out 1
            have hfz35_2 := blk_frozen BK272.out 2
            obtain ⟨Ao36, co36, eo36⟩ := Kd.R_slice HO_273001.out
            subst eo36
            have p275 : 0 ≤ (x30_3 : Int) := of_decide_eq_true (by first | (with_reducible assumption) | assumption)
            have q275 : x30_3 < (x273001_3.length : Int) := of_decide_eq_true (by first | (with_reducible assumption) | assumption)
            obtain ⟨ad275, e275, hx275_0⟩ := Kd.at_int (Kd.R_reads' HO_273001.out).2.2 x30_3 p275 q275
            cases e275
            replace p275 := eq_true p275
            replace q275 := eq_true q275
            have p31 : 0 ≤ (x30_3 : Int) := of_decide_eq_true (by first | (with_reducible assumption) | assumption)
            have q31 : (x30_3 : Int) < ((x273001_3.length : Int) : Int) := of_decide_eq_true (by first | (with_reducible assumption) | assumption)
            obtain ⟨go31, co31, eo31, gb31, gl31, cl31, HG31⟩ := Kd.R_form HO_273001.out (by omega)
            (first | cases eo31 | (injection eo31 with ea_ en_ ec_; (first | subst ea_ | (injection ea_ with ea_; subst ea_)); subst ec_; clear en_))
            have GB31 := Aside0.mk gb31
            have GG31 := Aside0.mk HG31
            clear gb31 gl31 HG31
            (first | simp only [add_plain] at hx275_0 | skip)
            obtain ⟨hx31_0, hf31_0⟩ := Kd.R_celln 0 HO_273001.out (x30_3 : Int) p31 q31
            replace p31 := eq_true p31
            replace q31 := eq_true q31
            have HP37 := Kd.R_putg HO_273001.out (x30_3 : Int) (wrap64 (Int.tdiv (rd x273001_3 x30_3) 2))
            go_wp2_with (first | ((with_reducible refine gate_store (t := 3) (p := 39) rfl ?_); refine store_event (t := 3) (p := 39) (v := ?vo_w38) (w1 := (wr.setCell ⟨go31, (x30_3 : Int).toNat, none⟩ (.int .i64 (wrap64 (Int.tdiv (rd x273001_3 x30_3) 2))))) ?hg ?ho ?hn ?hr ?_; (case ho => rfl); (case hg => rfl); (case hn => rfl); (case hr => first | (go_simp; done) | (go_simp; rfl)); intro w38 hw; have hg : wr.grownBy w38 (some go31) := (by rw [hw]; exact HP37.2); have hp_ : Kd.R (Kd.int .i64) 3 w38 w.heap.size (fun k_ => some k_ ≠ (u273002 : Value).ownBlock) (.slice (some ⟨go31, 0, none⟩) x273001_3.length co36) y276 := (by rw [hw, Ny276.out]; exact HP37.1); clear HP37; replace HO_273002 := Aside0.mk (Kd.R_after (v := (.slice (some ⟨go31, 0, none⟩) x273001_3.length co36)) (v1 := (.slice (some ⟨go31, 0, none⟩) x273001_3.length co36)) (ok := (fun _ => True)) (by (with_reducible repeat (first | apply Kd.R_alloc | apply Kd.R_drewN | apply Kd.R_drew)); exact Kd.R_mono HO_273002.out (fun _ hk => ⟨trivial, hk⟩)) hg (.inl rfl)); replace BK265 := Aside0.mk (blk_grown (g := gb265) (o := .cells #[.int .i64 0, .slice none 0 0, .slice none 0 0] 27 (0, 0)) (zq1 BK265) hg (Kd.R_ne HO_273001.out BK265.out (by decide))); replace BK272 := Aside0.mk (blk_grown (g := gb272) (o := .cells #[.int .i64 (wrap64 (x273000_1 - 1)), .slice (some ⟨go31, 0, none⟩) x273001_3.length co36, u273002] 27 (0, 0)) (zq1 BK272) hg (Kd.R_ne HO_273001.out BK272.out (by decide))); replace HO_273001 := Aside0.mk (hp_); replace HB := Aside0.mk ((by rw [hw]; exact below_set (HB.out) GB31.out : Below w.heap.size w w38)); clear hg hw hp_; have hcz39_0 : w38.cell? ⟨gb272, 0, none⟩ = some (.int .i64 (wrap64 (x273000_1 - 1))) := zc BK272 0; have hcz39_1 : w38.cell? ⟨gb272, 1, none⟩ = some (.slice (some ⟨go31, 0, none⟩) x273001_3.length co36) := zc BK272 1; have hcz39_2 : w38.cell? ⟨gb272, 2, none⟩ = some (u273002) := zc BK272 2; have hfz39_0 := blk_frozen BK272.out 0; have hfz39_1 := blk_frozen BK272.out 1; have hfz39_2 := blk_frozen BK272.out 2; obtain ⟨Ao40, co40, eo40⟩ := Kd.R_slice HO_273002.out; subst eo40; have p277 : 0 ≤ (x30_3 : Int) := of_decide_eq_true (by first | (with_reducible assumption) | assumption); have q277 : x30_3 < (x273002_3.length : Int) := of_decide_eq_true (by first | (with_reducible assumption) | assumption); obtain ⟨ad277, e277, hx277_0⟩ := Kd.at_int (Kd.R_reads' HO_273002.out).2.2 x30_3 p277 q277; cases e277; replace p277 := eq_true p277; replace q277 := eq_true q277; have p33 : 0 ≤ (x30_3 : Int) := of_decide_eq_true (by first | (with_reducible assumption) | assumption); have q33 : (x30_3 : Int) < ((x273002_3.length : Int) : Int) := of_decide_eq_true (by first | (with_reducible assumption) | assumption); obtain ⟨go33, co33, eo33, gb33, gl33, cl33, HG33⟩ := Kd.R_form HO_273002.out (by omega); (first | cases eo33 | (injection eo33 with ea_ en_ ec_; (first | subst ea_ | (injection ea_ with ea_; subst ea_)); subst ec_; clear en_)); have GB33 := Aside0.mk gb33; have GG33 := Aside0.mk HG33; clear gb33 gl33 HG33; (first | simp only [add_plain] at hx277_0 | skip); obtain ⟨hx33_0, hf33_0⟩ := Kd.R_celln 0 HO_273002.out (x30_3 : Int) p33 q33; replace p33 := eq_true p33; replace q33 := eq_true q33; have n_ := Aside0.mk (Kd.R_mono (ok' := (fun k_ => some k_ ≠ (.slice (some ⟨go31, 0, none⟩) x273001_3.length co36 : Value).ownBlock)) HO_273002.out (fun k_ hk => hk.2)); clear HO_273002; have HO_273002 := n_; clear n_; obtain ⟨hy41_, hz41_⟩ := Kd.R_celln 0 HO_273002.out (x30_3 : Int) (of_decide_eq_true (by first | (with_reducible assumption) | assumption)) (of_decide_eq_true (by first | (with_reducible assumption) | assumption)); have HP41 := Kd.R_putg HO_273002.out (x30_3 : Int) (wrap64 (Int.tdiv (rd x273002_3 x30_3) 2))) | ((with_reducible refine gate_store (t := 3) (p := 46) rfl ?_); refine store_event (t := 3) (p := 46) (v := ?vo_w42) (w1 := (w38.setCell ⟨go33, (x30_3 : Int).toNat, none⟩ (.int .i64 (wrap64 (Int.tdiv (rd x273002_3 x30_3) 2))))) ?hg ?ho ?hn ?hr ?_; (case ho => rfl); (case hg => rfl); (case hn => rfl); (case hr => first | (go_simp; done) | (go_simp; rfl)); intro w42 hw; have hg : w38.grownBy w42 (some go33) := (by rw [hw]; exact HP41.2); have hp_ : Kd.R (Kd.int .i64) 3 w42 w.heap.size (fun k_ => some k_ ≠ (.slice (some ⟨go31, 0, none⟩) x273001_3.length co36 : Value).ownBlock) (.slice (some ⟨go33, 0, none⟩) x273002_3.length co40) y278 := (by rw [hw, Ny278.out]; exact HP41.1); clear HP41; replace HO_273001 := Aside0.mk (Kd.R_after (v := (.slice (some ⟨go33, 0, none⟩) x273002_3.length co40)) (v1 := (.slice (some ⟨go33, 0, none⟩) x273002_3.length co40)) (ok := (fun _ => True)) (by (with_reducible repeat (first | apply Kd.R_alloc | apply Kd.R_drewN | apply Kd.R_drew)); exact Kd.R_mono HO_273001.out (fun _ hk => ⟨trivial, hk⟩)) hg (.inl rfl)); replace BK265 := Aside0.mk (blk_grown (g := gb265) (o := .cells #[.int .i64 0, .slice none 0 0, .slice none 0 0] 27 (0, 0)) (zq1 BK265) hg (Kd.R_ne HO_273002.out BK265.out (by decide))); replace BK272 := Aside0.mk (blk_grown (g := gb272) (o := .cells #[.int .i64 (wrap64 (x273000_1 - 1)), .slice (some ⟨go31, 0, none⟩) x273001_3.length co36, .slice (some ⟨go33, 0, none⟩) x273002_3.length co40] 27 (0, 0)) (zq1 BK272) hg (Kd.R_ne HO_273002.out BK272.out (by decide))); replace HO_273002 := Aside0.mk (hp_); replace HB := Aside0.mk ((by rw [hw]; exact below_set (HB.out) GB33.out : Below w.heap.size w w42)); clear hg hw hp_))
            go_roundg k3
            case measure => have := HK1.out; have := HJ13.out; have := HK3.out; omega
            case rel => exact ⟨(wrap64 (x30_3 + 1)), (y276), (y278), (.slice (some ⟨go31, 0, none⟩) x273001_3.length co36), (.slice (some ⟨go33, 0, none⟩) x273002_3.length co40), (by first | rfl | (simp; done) | (simp [*]; done)), H', ⟨by have := HK1.out; have := HJ13.out; have := HK3.out; omega⟩, ⟨by (with_reducible repeat (first | apply Kd.R_alloc | apply Kd.R_drewN | apply Kd.R_drew)); exact Kd.R_mono HO_273001.out (fun _ hk => hk.2)⟩, ⟨by (with_reducible repeat (first | apply Kd.R_alloc | apply Kd.R_drewN | apply Kd.R_drew)); exact HO_273002.out⟩, ⟨by (with_reducible repeat (first | refine blk_drewN ?_ _ | refine blk_drew ?_ | refine blk_alloc ?_ _)); exact BK265.out⟩, ⟨by (with_reducible repeat (first | refine blk_drewN ?_ _ | refine blk_drew ?_ | refine blk_alloc ?_ _)); exact BK272.out⟩, ⟨(zb1 HB)⟩⟩
           ·
            rw [if_neg c32] at H
            exact absurd H (by simp)
          ·
           rw [if_neg c30] at H
           exact absurd H (by simp)
         ·
          rw [if_neg c29] at H
          exact absurd H (by simp)
        ·
         rw [if_neg c28] at H
         have c28b0 : decide (x30_3 < (x273001_1.length : Int)) = false := decide_eq_false c28
         clear c28
         have H' := Aside0.mk H
         clear H
         go_wp2
         go_roundg k3
         case measure => have := HK1.out; have := HJ13.out; have := HK3.out; omega
         case rel => exact ⟨((wrap64 (x273000_1 - 1))), (x273001_3), (x273002_3), (u273001), (u273002), H', ⟨by have := HK1.out; have := HJ13.out; have := HK3.out; omega⟩, ⟨by (with_reducible repeat (first | apply Kd.R_alloc | apply Kd.R_drewN | apply Kd.R_drew)); exact HO_273001.out⟩, ⟨by (with_reducible repeat (first | apply Kd.R_alloc | apply Kd.R_drewN | apply Kd.R_drew)); exact HO_273002.out⟩, ⟨by (with_reducible repeat (first | refine blk_drewN ?_ _ | refine blk_drew ?_ | refine blk_alloc ?_ _)); exact BK265.out⟩, ⟨by (with_reducible repeat (first | refine blk_drewN ?_ _ | refine blk_drew ?_ | refine blk_alloc ?_ _)); exact BK272.out⟩, ⟨(zb1 HB)⟩⟩
     ·
      replace c24 := Bool.eq_false_iff.mpr c24
      subst c24
      have H1 : ((spec_bxGood.f kj13 x273000_1 x273001_1 x273002_1).bind fun t274 => (if t274 = true then (some (x273000_1, x273001_1, x273002_1, true)) else (some (0, ([] : List Int), ([] : List Int), false)))) = some (r1, r2, r3, r4) := by rw [if_neg (show ¬ (false = true) by decide)] at H; exact H
      clear H
      have H := H1
      clear H1
      replace H := Option.bind_eq_some_iff.mp H
      obtain ⟨t274, A430, H⟩ := H
      replace H : (if t274 = true then (some (x273000_1, x273001_1, x273002_1, true)) else (some (0, ([] : List Int), ([] : List Int), false))) = some (r1, r2, r3, r4) := H
      have A43 := Aside0.mk A430
      clear A430
      by_cases c44 : t274 = true
      ·
       subst c44
       have H1 : (some (x273000_1, x273001_1, x273002_1, true)) = some (r1, r2, r3, r4) := by rw [if_pos rfl] at H; exact H
       clear H
       have H := H1
       clear H1
       simp only [Option.some.injEq, Prod.mk.injEq] at H
       obtain ⟨rfl, rfl, rfl, rfl⟩ := H
       have hnb45 := NB272_265.out
       have hnc45 := NB265_272.out
       have hcz46_0 : wc.cell? ⟨gb272, 0, none⟩ = some (.int .i64 x273000_1) := zc BK272 0
       have hcz46_1 : wc.cell? ⟨gb272, 1, none⟩ = some (u273001) := zc BK272 1
       have hcz46_2 : wc.cell? ⟨gb272, 2, none⟩ = some (u273002) := zc BK272 2
       have hfz46_0 := blk_frozen BK272.out 0
       have hfz46_1 := blk_frozen BK272.out 1
       have hfz46_2 := blk_frozen BK272.out 2
       obtain ⟨Ao47, co47, eo47⟩ := Kd.R_slice HO_273001.out
       subst eo47
       obtain ⟨Ao48, co48, eo48⟩ := Kd.R_slice HO_273002.out
       subst eo48
       go_wp2_with (first | ((with_reducible refine gate_callee (f := 56) rfl ?_); refine goesL_ (some 49) rfl rfl Try.func56 (by kernel_rfl) rfl #[.agg #[.int .i64 x273000_1, .slice Ao47 x273001_1.length co47, .slice Ao48 x273002_1.length co48]] rfl zq6 ?_; (with_reducible refine (spec_bxGood.calls kj13 x273000_1 _ _ x273001_1 _ _ x273002_1 true _ ?side1 ?side2 ?side3 ?side4 A43.out).mono ?_); (case side1 => repeat (first | exact (Kd.R_reads' HO_273001.out).2.2 | (with_reducible refine Kd.C_alloc ?_ _) | (with_reducible refine Kd.C_drewN ?_ _) | (with_reducible refine Kd.C_drew ?_))); (case side2 => exact (Kd.R_reads' HO_273001.out).2.1); (case side3 => repeat (first | exact (Kd.R_reads' HO_273002.out).2.2 | (with_reducible refine Kd.C_alloc ?_ _) | (with_reducible refine Kd.C_drewN ?_ _) | (with_reducible refine Kd.C_drew ?_))); (case side4 => exact (Kd.R_reads' HO_273002.out).2.1); rintro e w49 ⟨rfl, hb⟩; refine ⟨_, rfl, ?_⟩; replace HO_273001 := Aside0.mk (Kd.R_below (zq3 HO_273001) hb); replace HO_273002 := Aside0.mk (Kd.R_below (zq3 HO_273002) hb); replace BK265 := Aside0.mk (zbb BK265 hb); replace BK272 := Aside0.mk (zbb BK272 hb); replace HB := Aside0.mk (below_step (zb1 HB) hb); (try clear hb); (try clear hb2); (try clear hk); (try clear hi); have hcz50_0 : w49.cell? ⟨gb272, 0, none⟩ = some (.int .i64 x273000_1) := zc BK272 0; have hcz50_1 : w49.cell? ⟨gb272, 1, none⟩ = some (.slice Ao47 x273001_1.length co47) := zc BK272 1; have hcz50_2 : w49.cell? ⟨gb272, 2, none⟩ = some (.slice Ao48 x273002_1.length co48) := zc BK272 2; have hfz50_0 := blk_frozen BK272.out 0; have hfz50_1 := blk_frozen BK272.out 1; have hfz50_2 := blk_frozen BK272.out 2; have hcz51_0 : w49.cell? ⟨gb265, 0, none⟩ = some (.int .i64 0) := zc BK265 0; have hcz51_1 : w49.cell? ⟨gb265, 1, none⟩ = some (.slice none 0 0) := zc BK265 1; have hcz51_2 : w49.cell? ⟨gb265, 2, none⟩ = some (.slice none 0 0) := zc BK265 2; have hfz51_0 := blk_frozen BK265.out 0; have hfz51_1 := blk_frozen BK265.out 1; have hfz51_2 := blk_frozen BK265.out 2))
       refine bodyPost_ret (results_ct rfl _ _ gb265 27 #[.int .i64 x273000_1, .slice Ao47 x273001_1.length co47, .slice Ao48 x273002_1.length co48] (0, 0) _ rfl (by (with_reducible repeat (first | refine blk_drewN ?_ _ | refine blk_drew ?_ | refine blk_alloc ?_ _)); refine blk_put (cs := #[.int .i64 x273000_1, .slice Ao47 x273001_1.length co47, .slice none 0 0]) ?_ 2 _ rfl; (with_reducible repeat (first | refine blk_drewN ?_ _ | refine blk_drew ?_ | refine blk_alloc ?_ _)); refine blk_put (cs := #[.int .i64 x273000_1, .slice none 0 0, .slice none 0 0]) ?_ 1 _ rfl; (with_reducible repeat (first | refine blk_drewN ?_ _ | refine blk_drew ?_ | refine blk_alloc ?_ _)); refine blk_put (cs := #[.int .i64 0, .slice none 0 0, .slice none 0 0]) ?_ 0 _ rfl; (with_reducible repeat (first | refine blk_drewN ?_ _ | refine blk_drew ?_ | refine blk_alloc ?_ _)); exact BK265.out) Try.underlying27 rfl (by kernel_rfl)) rfl ?_
       exact ⟨_, _, by first | rfl | (simp [errW_none, errW_some] <;> rfl) | (simp [*, errW_none, errW_some] <;> rfl), by (with_reducible repeat (first | apply Kd.R_alloc | apply Kd.R_drewN | apply Kd.R_drew)); exact Kd.R_mono (Kd.R_far (p := ⟨gb265, 2, none⟩) (Kd.R_far (p := ⟨gb265, 1, none⟩) (Kd.R_far (p := ⟨gb265, 0, none⟩) (Kd.R_types HO_273001.out BK265.out (by decide)) (fun _ hk => hk.2) (.int .i64 x273000_1)) (fun _ hk => hk.2) (.slice Ao47 x273001_1.length co47)) (fun _ hk => hk.2) (.slice Ao48 x273002_1.length co48)) (fun _ hk => hk.1), by (with_reducible repeat (first | apply Kd.R_alloc | apply Kd.R_drewN | apply Kd.R_drew)); exact Kd.R_mono (Kd.R_far (p := ⟨gb265, 2, none⟩) (Kd.R_far (p := ⟨gb265, 1, none⟩) (Kd.R_far (p := ⟨gb265, 0, none⟩) (Kd.R_types HO_273002.out BK265.out (by decide)) (fun _ hk => hk.2) (.int .i64 x273000_1)) (fun _ hk => hk.2) (.slice Ao47 x273001_1.length co47)) (fun _ hk => hk.2) (.slice Ao48 x273002_1.length co48)) (fun _ hk => hk.1), (zb1 HB)⟩
      ·
       replace c44 := Bool.eq_false_iff.mpr c44
       subst c44
       have H1 : (some (0, ([] : List Int), ([] : List Int), false)) = some (r1, r2, r3, r4) := by rw [if_neg (show ¬ (false = true) by decide)] at H; exact H
       clear H
       have H := H1
       clear H1
       simp only [Option.some.injEq, Prod.mk.injEq] at H
       obtain ⟨rfl, rfl, rfl, rfl⟩ := H
       have hnb52 := NB272_265.out
       have hnc52 := NB265_272.out
       have hcz53_0 : wc.cell? ⟨gb272, 0, none⟩ = some (.int .i64 x273000_1) := zc BK272 0
       have hcz53_1 : wc.cell? ⟨gb272, 1, none⟩ = some (u273001) := zc BK272 1
       have hcz53_2 : wc.cell? ⟨gb272, 2, none⟩ = some (u273002) := zc BK272 2
       have hfz53_0 := blk_frozen BK272.out 0
       have hfz53_1 := blk_frozen BK272.out 1
       have hfz53_2 := blk_frozen BK272.out 2
       obtain ⟨Ao54, co54, eo54⟩ := Kd.R_slice HO_273001.out
       subst eo54
       obtain ⟨Ao55, co55, eo55⟩ := Kd.R_slice HO_273002.out
       subst eo55
       go_wp2_with (first | ((with_reducible refine gate_callee (f := 56) rfl ?_); refine goesL_ (some 49) rfl rfl Try.func56 (by kernel_rfl) rfl #[.agg #[.int .i64 x273000_1, .slice Ao54 x273001_1.length co54, .slice Ao55 x273002_1.length co55]] rfl zq6 ?_; (with_reducible refine (spec_bxGood.calls kj13 x273000_1 _ _ x273001_1 _ _ x273002_1 false _ ?side1 ?side2 ?side3 ?side4 A43.out).mono ?_); (case side1 => repeat (first | exact (Kd.R_reads' HO_273001.out).2.2 | (with_reducible refine Kd.C_alloc ?_ _) | (with_reducible refine Kd.C_drewN ?_ _) | (with_reducible refine Kd.C_drew ?_))); (case side2 => exact (Kd.R_reads' HO_273001.out).2.1); (case side3 => repeat (first | exact (Kd.R_reads' HO_273002.out).2.2 | (with_reducible refine Kd.C_alloc ?_ _) | (with_reducible refine Kd.C_drewN ?_ _) | (with_reducible refine Kd.C_drew ?_))); (case side4 => exact (Kd.R_reads' HO_273002.out).2.1); rintro e w56 ⟨rfl, hb⟩; refine ⟨_, rfl, ?_⟩; replace HO_273001 := Aside0.mk (Kd.R_below (zq3 HO_273001) hb); replace HO_273002 := Aside0.mk (Kd.R_below (zq3 HO_273002) hb); replace BK265 := Aside0.mk (zbb BK265 hb); replace BK272 := Aside0.mk (zbb BK272 hb); replace HB := Aside0.mk (below_step (zb1 HB) hb); (try clear hb); (try clear hb2); (try clear hk); (try clear hi); have hcz57_0 : w56.cell? ⟨gb265, 0, none⟩ = some (.int .i64 0) := zc BK265 0; have hcz57_1 : w56.cell? ⟨gb265, 1, none⟩ = some (.slice none 0 0) := zc BK265 1; have hcz57_2 : w56.cell? ⟨gb265, 2, none⟩ = some (.slice none 0 0) := zc BK265 2; have hfz57_0 := blk_frozen BK265.out 0; have hfz57_1 := blk_frozen BK265.out 1; have hfz57_2 := blk_frozen BK265.out 2))
       refine bodyPost_ret (results_ct rfl _ _ gb265 27 #[.int .i64 0, .slice none 0 0, .slice none 0 0] (0, 0) _ rfl (by (with_reducible repeat (first | refine blk_drewN ?_ _ | refine blk_drew ?_ | refine blk_alloc ?_ _)); refine blk_put (cs := #[.int .i64 0, .slice none 0 0, .slice none 0 0]) ?_ 2 _ rfl; (with_reducible repeat (first | refine blk_drewN ?_ _ | refine blk_drew ?_ | refine blk_alloc ?_ _)); refine blk_put (cs := #[.int .i64 0, .slice none 0 0, .slice none 0 0]) ?_ 1 _ rfl; (with_reducible repeat (first | refine blk_drewN ?_ _ | refine blk_drew ?_ | refine blk_alloc ?_ _)); refine blk_put (cs := #[.int .i64 0, .slice none 0 0, .slice none 0 0]) ?_ 0 _ rfl; (with_reducible repeat (first | refine blk_drewN ?_ _ | refine blk_drew ?_ | refine blk_alloc ?_ _)); exact BK265.out) Try.underlying27 rfl (by kernel_rfl)) rfl ?_
       exact ⟨_, _, by first | rfl | (simp [errW_none, errW_some] <;> rfl) | (simp [*, errW_none, errW_some] <;> rfl), by first | exact Kd.R_nil _ _ _ _ _ | exact Kd.N_nil _ _ _ _ _ | exact Kd.V_nil _ _ _ _ _ | exact Kd.Q_nil _ _ _ _ _ | exact Kd.S_nil _ _ _ _ _, by first | exact Kd.R_nil _ _ _ _ _ | exact Kd.N_nil _ _ _ _ _ | exact Kd.V_nil _ _ _ _ _ | exact Kd.Q_nil _ _ _ _ _ | exact Kd.S_nil _ _ _ _ _, (zb1 HB)⟩
end Go.Proofs.Ytgaoniapddpaaaa.PD
