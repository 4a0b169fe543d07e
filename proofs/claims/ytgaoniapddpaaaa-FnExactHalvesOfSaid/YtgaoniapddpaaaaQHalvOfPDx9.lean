-- By wip/mk/drv.py
import Derived.Test.YtgaoniapddpaaaaQHalvOfPDx0
import Derived.Test.YtgaoniapddpaaaaQHalvOfPDx1
import Derived.Test.YtgaoniapddpaaaaQHalvOfPDx2
import Derived.Test.YtgaoniapddpaaaaQHalvOfPDx7
namespace Go.Proofs.Ytgaoniapddpaaaa.PD
open Go.RowKit Go.Proofs.YtgaoniapddpaaaaW.PrintWords Go.Proofs.YtgaoniapddpaaaaW.PrintLast Go.Proofs.YtgaoniapddpaaaaW.PrintMore
attribute [local go_sem] max2_int min2_int max_two min_two max_three min_three max_four min_four
set_option linter.unusedVariables false
set_option linter.unusedSimpArgs false
/-! ### spec_bxMake: function 71 -/
set_option maxHeartbeats 8000000 in
set_option maxRecDepth 100000 in
theorem spec_bxMake.calls (k : Nat) (a0 : Int) (A1 : Option Addr) (c1 : Nat) (l1 : List Int) (A2 : Option Addr) (c2 : Nat) (l2 : List Int) (r1 : Int) (r2 : List Int) (r3 : List Int) (r4 : Bool) (w : World) (hr1 : Kd.C (Kd.int .i64) w A1 l1.length l1) (hc1 : l1.length ≤ c1) (hr2 : Kd.C (Kd.int .i64) w A2 l2.length l2) (hc2 : l2.length ≤ c2) (h : spec_bxMake.f k a0 l1 l2 = some (r1, r2, r3, r4)) :
  Calls Try.prog 71 #[.int .i64 a0, .slice A1 l1.length c1, .slice A2 l2.length c2] w fun e w' => ∃ v1_ v2_ : Value, e = .returned (.tuple #[.agg #[.int .i64 r1, v1_, v2_], .bool r4]) ∧ Kd.R (Kd.int .i64) 3 w' w.heap.size (fun k_ => some k_ ≠ (v2_ : Value).ownBlock) v1_ r2 ∧ Kd.R (Kd.int .i64) 3 w' w.heap.size (fun k_ => some k_ ≠ (v1_ : Value).ownBlock) v2_ r3 ∧ Below w.heap.size w w' := by
 have hu27 := Try.underlying27
 have HR1 := Aside0.mk hr1
 have HC1 := Aside0.mk hc1
 clear hr1 hc1
 have HR2 := Aside0.mk hr2
 have HC2 := Aside0.mk hc2
 clear hr2 hc2
 have HB := Aside0.mk (Below.refl w.heap.size w)
 have H : ((spec_l1Own.f l1).bind fun t156 => ((spec_l1Own.f l2).bind fun t159 => (spec_bxMake.l0 k a0 t156 t159))) = some (r1, r2, r3, r4) := h
 clear h
 replace H := Option.bind_eq_some_iff.mp H
 obtain ⟨t156, A40, H⟩ := H
 replace H : ((spec_l1Own.f l2).bind fun t159 => (spec_bxMake.l0 k a0 t156 t159)) = some (r1, r2, r3, r4) := H
 have A4 := Aside0.mk A40
 clear A40
 replace H := Option.bind_eq_some_iff.mp H
 obtain ⟨t159, A50, H⟩ := H
 replace H : (spec_bxMake.l0 k a0 t156 t159) = some (r1, r2, r3, r4) := H
 have A5 := Aside0.mk A50
 clear A50
 have H' := Aside0.mk H
 clear H
 go_enter Try.func71, Try.ntmps71
 go_wp2_with (first | ((with_reducible refine gate_dst (N := 6) rfl ?_); refine zbe (N := 6) (cs := #[.int .i64 0, .slice none 0 0, .slice none 0 0]) (t := 27) ?_; intro gb155 hg w6 hbox hb; have BK155 := Aside0.mk (hbox); have GW155 := Aside0.mk (zge (zb0 HB) hg); have GE155 := GW155; replace HB := Aside0.mk (below_step (zb0 HB) hb); clear hb hbox hg) | ((with_reducible refine gate_callee (f := 96) rfl ?_); refine goesL_ (some 12) rfl rfl Try.func96 (by kernel_rfl) rfl #[.slice A1 l1.length c1] rfl zq6 ?_; (with_reducible refine (spec_l1Own.calls _ _ l1 t156 _ ?side1 ?side2 A4.out).mono ?_); (case side1 => repeat (first | exact (Kd.C_below HR1.out HB.out) | (with_reducible refine Kd.C_alloc ?_ _) | (with_reducible refine Kd.C_drewN ?_ _) | (with_reducible refine Kd.C_drew ?_))); (case side2 => exact HC1.out); rintro e w7 ⟨v157, rfl, ho0, hb⟩; refine ⟨_, rfl, ?_⟩; have HO158 := Aside0.mk (Kd.R_lower ho0 (below_size (zb1 HB))); replace BK155 := Aside0.mk (zbb BK155 hb); replace HB := Aside0.mk (below_step (zb1 HB) hb); (try clear hb); (try clear hb2); (try clear hk); (try clear hi); (try clear ho0)) | ((with_reducible refine gate_callee (f := 96) rfl ?_); refine goesL_ (some 14) rfl rfl Try.func96 (by kernel_rfl) rfl #[.slice A2 l2.length c2] rfl zq6 ?_; (with_reducible refine (spec_l1Own.calls _ _ l2 t159 _ ?side1 ?side2 A5.out).mono ?_); (case side1 => repeat (first | exact (Kd.C_below HR2.out HB.out) | (with_reducible refine Kd.C_alloc ?_ _) | (with_reducible refine Kd.C_drewN ?_ _) | (with_reducible refine Kd.C_drew ?_))); (case side2 => exact HC2.out); rintro e w8 ⟨v160, rfl, ho0, hb⟩; refine ⟨_, rfl, ?_⟩; have HO161 := Aside0.mk (Kd.R_lower (Kd.R_new' ho0 (Kd.R_lt (zq3 HO158))) (below_size (zb1 HB))); replace HO158 := Aside0.mk (Kd.R_elder' (zq3 HO158) (Kd.R_base ho0) hb); replace BK155 := Aside0.mk (zbb BK155 hb); replace HB := Aside0.mk (below_step (zb1 HB) hb); (try clear hb); (try clear hb2); (try clear hk); (try clear hi); (try clear ho0); obtain ⟨Ao9, co9, eo9⟩ := Kd.R_slice HO161.out; subst eo9; obtain ⟨Ao10, co10, eo10⟩ := Kd.R_slice HO158.out; subst eo10) | ((with_reducible refine gate_dst (N := 8) rfl ?_); refine zbe (N := 8) (cs := #[.int .i64 0, .slice none 0 0, .slice none 0 0]) (t := 27) ?_; intro gb162 hg w11 hbox hb; have BK162 := Aside0.mk (hbox); have GW162 := Aside0.mk (zge (zb1 HB) hg); have GE162 := GW162; have NB155_162 := Aside0.mk (zlt BK155 hg); have NB162_155 := Aside0.mk (zgt BK155 hg); replace HO158 := Aside0.mk (Kd.R_below (zq3 HO158) hb); replace HO161 := Aside0.mk (Kd.R_below (zq3 HO161) hb); replace BK155 := Aside0.mk (zbb BK155 hb); replace HB := Aside0.mk (below_step (zb1 HB) hb); clear hb hbox hg; have hnb12 := NB162_155.out; have hnc12 := NB155_162.out; have hcz13_0 : w11.cell? ⟨gb162, 0, none⟩ = some (.int .i64 0) := zc BK162 0; have hcz13_1 : w11.cell? ⟨gb162, 1, none⟩ = some (.slice none 0 0) := zc BK162 1; have hcz13_2 : w11.cell? ⟨gb162, 2, none⟩ = some (.slice none 0 0) := zc BK162 2; have hfz13_0 := blk_frozen BK162.out 0; have hfz13_1 := blk_frozen BK162.out 1; have hfz13_2 := blk_frozen BK162.out 2))
 go_loopg [] k (fun kq w' => ∃ (x163000_1 : Int) (x163001_1 : List Int) (x163002_1 : List Int) (u163001 : Value) (u163002 : Value), Aside0 (spec_bxMake.l0 kq x163000_1 x163001_1 x163002_1 = some (r1, r2, r3, r4)) ∧ Aside0 (kq ≤ k) ∧ Aside0 (Kd.R (Kd.int .i64) 3 w' w.heap.size (fun k_ => some k_ ≠ (u163002 : Value).ownBlock) u163001 x163001_1) ∧ Aside0 (Kd.R (Kd.int .i64) 3 w' w.heap.size (fun k_ => some k_ ≠ (u163001 : Value).ownBlock) u163002 x163002_1) ∧ Aside0 (w'.heap[gb155]? = some (.cells #[.int .i64 0, (.slice none 0 0), (.slice none 0 0)] 27 (0, 0))) ∧ Aside0 (w'.heap[gb162]? = some (.cells #[.int .i64 x163000_1, u163001, u163002] 27 (0, 0))) ∧ Aside0 (Below w.heap.size w w'))
 case atStart => exact ⟨(a0), (t156), (t159), (.slice Ao10 t156.length co10), (.slice Ao9 t159.length co9), H', ⟨Nat.le_refl _⟩, ⟨by (with_reducible repeat (first | apply Kd.R_alloc | apply Kd.R_drewN | apply Kd.R_drew)); exact Kd.R_mono (Kd.R_far (p := ⟨gb162, 2, none⟩) (Kd.R_far (p := ⟨gb162, 1, none⟩) (Kd.R_far (p := ⟨gb162, 0, none⟩) (Kd.R_types HO158.out BK162.out (by decide)) (fun _ hk => hk.2) (.int .i64 a0)) (fun _ hk => hk.2) (.slice Ao10 t156.length co10)) (fun _ hk => hk.2) (.slice Ao9 t159.length co9)) (fun _ hk => hk.1.2)⟩, ⟨by (with_reducible repeat (first | apply Kd.R_alloc | apply Kd.R_drewN | apply Kd.R_drew)); exact Kd.R_mono (Kd.R_far (p := ⟨gb162, 2, none⟩) (Kd.R_far (p := ⟨gb162, 1, none⟩) (Kd.R_far (p := ⟨gb162, 0, none⟩) (Kd.R_types HO161.out BK162.out (by decide)) (fun _ hk => hk.2) (.int .i64 a0)) (fun _ hk => hk.2) (.slice Ao10 t156.length co10)) (fun _ hk => hk.2) (.slice Ao9 t159.length co9)) (fun _ hk => hk.1.2)⟩, ⟨zq5 BK155⟩, ⟨by (with_reducible repeat (first | refine blk_drewN ?_ _ | refine blk_drew ?_ | refine blk_alloc ?_ _)); refine blk_put (cs := #[.int .i64 a0, .slice Ao10 t156.length co10, .slice none 0 0]) ?_ 2 _ rfl; (with_reducible repeat (first | refine blk_drewN ?_ _ | refine blk_drew ?_ | refine blk_alloc ?_ _)); refine blk_put (cs := #[.int .i64 a0, .slice none 0 0, .slice none 0 0]) ?_ 1 _ rfl; (with_reducible repeat (first | refine blk_drewN ?_ _ | refine blk_drew ?_ | refine blk_alloc ?_ _)); refine blk_put (cs := #[.int .i64 0, .slice none 0 0, .slice none 0 0]) ?_ 0 _ rfl; (with_reducible repeat (first | refine blk_drewN ?_ _ | refine blk_drew ?_ | refine blk_alloc ?_ _)); exact BK162.out⟩, ⟨(zb1 HB)⟩⟩
 case round =>
  clear H'
  try clear c1
  try clear c2
  try clear p2
  try clear c7
  try clear c9
  try clear c12
  try clear hcz13_0
  try clear hcz13_1
  try clear hcz13_2
  try clear hfz13_0
  try clear hfz13_1
  try clear hfz13_2
  obtain ⟨x163000_1, x163001_1, x163002_1, u163001, u163002, HA, HK1, HO_163001, HO_163002, BK155, BK162, HB⟩ := hrel
  cases gk with
  | zero => exact absurd HA.out (by simp [spec_bxMake.l0])
  | succ k1 =>
   have H := HA.out
   clear HA
   simp only [spec_bxMake.l0] at H
   have HC14 := Aside0.mk H
   clear H
   go_upto_region 2 with (fail)
   go_cut [22] (fun v22 wc => ∃ (kq : Nat) (x22_13 : Bool), v22 = .bool x22_13 ∧ Aside0 (spec_bxMake.j1 kq x22_13 x163000_1 x163001_1 x163002_1 = some (r1, r2, r3, r4)) ∧ Aside0 (kq ≤ k1) ∧ Aside0 (Kd.R (Kd.int .i64) 3 wc w.heap.size (fun k_ => some k_ ≠ (u163002 : Value).ownBlock) u163001 x163001_1) ∧ Aside0 (Kd.R (Kd.int .i64) 3 wc w.heap.size (fun k_ => some k_ ≠ (u163001 : Value).ownBlock) u163002 x163002_1) ∧ Aside0 (wc.heap[gb155]? = some (.cells #[.int .i64 0, (.slice none 0 0), (.slice none 0 0)] 27 (0, 0))) ∧ Aside0 (wc.heap[gb162]? = some (.cells #[.int .i64 x163000_1, u163001, u163002] 27 (0, 0))) ∧ Aside0 (Below w.heap.size w wc))
   case first =>
    have H := HC14.out
    clear HC14
    by_cases c15 : x163000_1 > 0
    ·
     rw [if_pos c15] at H
     have c15b0 : decide (0 < x163000_1) = true := decide_eq_true c15
     clear c15
     (first | rw [c15b0] | (simp only [i64_w, i32_w]; rw [c15b0]) | skip)
     replace H := Option.bind_eq_some_iff.mp H
     obtain ⟨t163, A160, H⟩ := H
     replace H : (spec_bxMake.j1 k1 t163 x163000_1 x163001_1 x163002_1) = some (r1, r2, r3, r4) := H
     have A16 := Aside0.mk A160
     clear A160
     have H' := Aside0.mk H
     clear H
     have hnb17 := NB162_155.out
     have hnc17 := NB155_162.out
     have hcz18_0 : wr.cell? ⟨gb162, 0, none⟩ = some (.int .i64 x163000_1) := zc BK162 0
     have hcz18_1 : wr.cell? ⟨gb162, 1, none⟩ = some (u163001) := zc BK162 1
     have hcz18_2 : wr.cell? ⟨gb162, 2, none⟩ = some (u163002) := zc BK162 2
     have hfz18_0 := blk_frozen BK162.out 0
     have hfz18_1 := blk_frozen BK162.out 1
     have hfz18_2 := blk_frozen BK162.out 2
     obtain ⟨Ao19, co19, eo19⟩ := Kd.R_slice HO_163001.out
     subst eo19
     obtain ⟨Ao20, co20, eo20⟩ := Kd.R_slice HO_163002.out
     subst eo20
     go_wp2_with (first | (go_at_call 97; (with_reducible refine (spec_bxEven.calls k1 x163000_1 _ _ x163001_1 _ _ x163002_1 t163 _ ?side1 ?side2 ?side3 ?side4 A16.out).mono ?_); (case side1 => repeat (first | exact (Kd.R_reads' HO_163001.out).2.2 | (with_reducible refine Kd.C_alloc ?_ _) | (with_reducible refine Kd.C_drewN ?_ _) | (with_reducible refine Kd.C_drew ?_))); (case side2 => exact (Kd.R_reads' HO_163001.out).2.1); (case side3 => repeat (first | exact (Kd.R_reads' HO_163002.out).2.2 | (with_reducible refine Kd.C_alloc ?_ _) | (with_reducible refine Kd.C_drewN ?_ _) | (with_reducible refine Kd.C_drew ?_))); (case side4 => exact (Kd.R_reads' HO_163002.out).2.1); rintro e w21 ⟨rfl, hb⟩; replace HO_163001 := Aside0.mk (Kd.R_below (zq3 HO_163001) hb); replace HO_163002 := Aside0.mk (Kd.R_below (zq3 HO_163002) hb); replace BK155 := Aside0.mk (zbb BK155 hb); replace BK162 := Aside0.mk (zbb BK162 hb); replace HB := Aside0.mk (below_step (zb1 HB) hb); (try clear hb); (try clear hb2); (try clear hk); (try clear hi)))
     go_meet
     case rel => exact ⟨_, (t163), (by first | rfl | (simp; done) | (simp [*]; done)), H', ⟨by have := HK1.out; first | omega | exact Nat.le_refl _⟩, ⟨by (with_reducible repeat (first | apply Kd.R_alloc | apply Kd.R_drewN | apply Kd.R_drew)); exact HO_163001.out⟩, ⟨by (with_reducible repeat (first | apply Kd.R_alloc | apply Kd.R_drewN | apply Kd.R_drew)); exact HO_163002.out⟩, ⟨by (with_reducible repeat (first | refine blk_drewN ?_ _ | refine blk_drew ?_ | refine blk_alloc ?_ _)); exact BK155.out⟩, ⟨by (with_reducible repeat (first | refine blk_drewN ?_ _ | refine blk_drew ?_ | refine blk_alloc ?_ _)); exact BK162.out⟩, ⟨(zb1 HB)⟩⟩
    ·
     rw [if_neg c15] at H
     have c15b0 : decide (0 < x163000_1) = false := decide_eq_false c15
     clear c15
     (first | rw [c15b0] | (simp only [i64_w, i32_w]; rw [c15b0]) | skip)
     have H' := Aside0.mk H
     clear H
     have hnb22 := NB162_155.out
     have hnc22 := NB155_162.out
     have hcz23_0 : wr.cell? ⟨gb162, 0, none⟩ = some (.int .i64 x163000_1) := zc BK162 0
     have hcz23_1 : wr.cell? ⟨gb162, 1, none⟩ = some (u163001) := zc BK162 1
     have hcz23_2 : wr.cell? ⟨gb162, 2, none⟩ = some (u163002) := zc BK162 2
     have hfz23_0 := blk_frozen BK162.out 0
     have hfz23_1 := blk_frozen BK162.out 1
     have hfz23_2 := blk_frozen BK162.out 2
     go_wp2
     go_meet
     case rel => exact ⟨_, (false), (by first | rfl | (simp; done) | (simp [*]; done)), H', ⟨by have := HK1.out; first | omega | exact Nat.le_refl _⟩, ⟨by (with_reducible repeat (first | apply Kd.R_alloc | apply Kd.R_drewN | apply Kd.R_drew)); exact HO_163001.out⟩, ⟨by (with_reducible repeat (first | apply Kd.R_alloc | apply Kd.R_drewN | apply Kd.R_drew)); exact HO_163002.out⟩, ⟨by (with_reducible repeat (first | refine blk_drewN ?_ _ | refine blk_drew ?_ | refine blk_alloc ?_ _)); exact BK155.out⟩, ⟨by (with_reducible repeat (first | refine blk_drewN ?_ _ | refine blk_drew ?_ | refine blk_alloc ?_ _)); exact BK162.out⟩, ⟨(zb1 HB)⟩⟩
   case rest =>
    clear HC14
    try clear c1
    try clear c2
    try clear p2
    try clear c7
    try clear c9
    try clear c12
    try clear c15
    try clear c15b0
    try clear c17
    try clear c22
    try clear hcz13_0
    try clear hcz13_1
    try clear hcz13_2
    try clear hcz18_0
    try clear hcz18_1
    try clear hcz18_2
    try clear hcz23_0
    try clear hcz23_1
    try clear hcz23_2
    try clear hfz13_0
    try clear hfz13_1
    try clear hfz13_2
    try clear hfz18_0
    try clear hfz18_1
    try clear hfz18_2
    try clear hfz23_0
    try clear hfz23_1
    try clear hfz23_2
    try clear p2
    obtain ⟨kq, x22_13, rfl, HA, HJ13, HO_163001, HO_163002, BK155, BK162, HB⟩ := hcut
    cases kq with
    | zero => exact absurd HA.out (by simp [spec_bxMake.j1])
    | succ kj13 =>
     have H := HA.out
     clear HA
     simp only [spec_bxMake.j1] at H
     by_cases c24 : x22_13 = true
     ·
      subst c24
      have H1 : (spec_bxMake.l1 kj13 (x163001_1.length : Int) 0 (wrap64 (x163000_1 - 1)) x163001_1 x163002_1) = some (r1, r2, r3, r4) := by rw [if_pos rfl] at H; exact H
      clear H
      have H := H1
      clear H1
      have H' := Aside0.mk H
      clear H
      have hnb25 := NB162_155.out
      have hnc25 := NB155_162.out
      have hcz26_0 : wc.cell? ⟨gb162, 0, none⟩ = some (.int .i64 x163000_1) := zc BK162 0
      have hcz26_1 : wc.cell? ⟨gb162, 1, none⟩ = some (u163001) := zc BK162 1
      have hcz26_2 : wc.cell? ⟨gb162, 2, none⟩ = some (u163002) := zc BK162 2
      have hfz26_0 := blk_frozen BK162.out 0
      have hfz26_1 := blk_frozen BK162.out 1
      have hfz26_2 := blk_frozen BK162.out 2
      obtain ⟨Ao27, co27, eo27⟩ := Kd.R_slice HO_163001.out
      subst eo27
      go_wp2
      go_loopg [30] kj13 (fun kq v30 w' => ∃ (x30_3 : Int) (x163001_3 : List Int) (x163002_3 : List Int) (u163001 : Value) (u163002 : Value), v30 = .int .i64 x30_3 ∧ Aside0 (spec_bxMake.l1 kq (x163001_1.length : Int) x30_3 (wrap64 (x163000_1 - 1)) x163001_3 x163002_3 = some (r1, r2, r3, r4)) ∧ Aside0 (kq ≤ kj13) ∧ Aside0 (Kd.R (Kd.int .i64) 3 w' w.heap.size (fun k_ => some k_ ≠ (u163002 : Value).ownBlock) u163001 x163001_3) ∧ Aside0 (Kd.R (Kd.int .i64) 3 w' w.heap.size (fun k_ => some k_ ≠ (u163001 : Value).ownBlock) u163002 x163002_3) ∧ Aside0 (w'.heap[gb155]? = some (.cells #[.int .i64 0, (.slice none 0 0), (.slice none 0 0)] 27 (0, 0))) ∧ Aside0 (w'.heap[gb162]? = some (.cells #[.int .i64 (wrap64 (x163000_1 - 1)), u163001, u163002] 27 (0, 0))) ∧ Aside0 (Below w.heap.size w w'))
      case atStart => exact ⟨(0), (x163001_1), (x163002_1), (.slice Ao27 x163001_1.length co27), (u163002), (by first | rfl | (simp; done) | (simp [*]; done)), H', ⟨Nat.le_refl _⟩, ⟨by (with_reducible repeat (first | apply Kd.R_alloc | apply Kd.R_drewN | apply Kd.R_drew)); exact Kd.R_mono (Kd.R_far (p := ⟨gb162, 0, none⟩) (Kd.R_types HO_163001.out BK162.out (by decide)) (fun _ hk => hk.2) (.int .i64 (wrap64 (x163000_1 - 1)))) (fun _ hk => hk.1)⟩, ⟨by (with_reducible repeat (first | apply Kd.R_alloc | apply Kd.R_drewN | apply Kd.R_drew)); exact Kd.R_mono (Kd.R_far (p := ⟨gb162, 0, none⟩) (Kd.R_types HO_163002.out BK162.out (by decide)) (fun _ hk => hk.2) (.int .i64 (wrap64 (x163000_1 - 1)))) (fun _ hk => hk.1)⟩, ⟨zq5 BK155⟩, ⟨by (with_reducible repeat (first | refine blk_drewN ?_ _ | refine blk_drew ?_ | refine blk_alloc ?_ _)); refine blk_put (cs := #[.int .i64 x163000_1, .slice Ao27 x163001_1.length co27, u163002]) ?_ 0 _ rfl; (with_reducible repeat (first | refine blk_drewN ?_ _ | refine blk_drew ?_ | refine blk_alloc ?_ _)); exact BK162.out⟩, ⟨(zb1 HB)⟩⟩
      case round =>
       clear H'
       try clear c1
       try clear c2
       try clear p2
       try clear p6
       try clear c7
       try clear c9
       try clear c12
       try clear c15
       try clear c15b0
       try clear c17
       try clear c22
       try clear c24
       try clear c25
       try clear hcz13_0
       try clear hcz13_1
       try clear hcz13_2
       try clear hcz18_0
       try clear hcz18_1
       try clear hcz18_2
       try clear hcz23_0
       try clear hcz23_1
       try clear hcz23_2
       try clear hcz26_0
       try clear hcz26_1
       try clear hcz26_2
       try clear hfz13_0
       try clear hfz13_1
       try clear hfz13_2
       try clear hfz18_0
       try clear hfz18_1
       try clear hfz18_2
       try clear hfz23_0
       try clear hfz23_1
       try clear hfz23_2
       try clear hfz26_0
       try clear hfz26_1
       try clear hfz26_2
       try clear p2
       obtain ⟨x30_3, x163001_3, x163002_3, u163001, u163002, rfl, HA, HK3, HO_163001, HO_163002, BK155, BK162, HB⟩ := hrel
       cases gk with
       | zero => exact absurd HA.out (by simp [spec_bxMake.l1])
       | succ k3 =>
        have H := HA.out
        clear HA
        simp only [spec_bxMake.l1] at H
        by_cases c28 : x30_3 < (x163001_1.length : Int)
        ·
         rw [if_pos c28] at H
         have c28b0 : decide (x30_3 < (x163001_1.length : Int)) = true := decide_eq_true c28
         clear c28
         by_cases c29 : 0 ≤ x30_3
         ·
          rw [if_pos c29] at H
          have c29b0 : decide (0 ≤ x30_3) = true := decide_eq_true c29
          clear c29
          by_cases c30 : x30_3 < (x163001_3.length : Int)
          ·
           rw [if_pos c30] at H
           have c30b0 : decide (x30_3 < (x163001_3.length : Int)) = true := decide_eq_true c30
           clear c30
           obtain ⟨y166, hy166⟩ : ∃ y_ : List Int, y_ = (x163001_3.set (x30_3 : Int).toNat (wrap64 (Int.tdiv (rd x163001_3 x30_3) 2))) := ⟨_, rfl⟩
           replace H : (if x30_3 < (x163002_3.length : Int) then (spec_bxMake.l1 k3 (x163001_1.length : Int) (wrap64 (x30_3 + 1)) (wrap64 (x163000_1 - 1)) y166 (x163002_3.set (x30_3 : Int).toNat (wrap64 (Int.tdiv (rd x163002_3 x30_3) 2)))) else (none)) = some (r1, r2, r3, r4) := by first | (rw [hy166]; with_reducible exact H) | (have H2_ := (Option.bind_some _ _).symm.trans H; rw [hy166]; with_reducible exact H2_) | (have H2_ := (Option.bind_some _ _).symm.trans H; with_reducible exact H2_) | with_reducible exact H | (rw [hy166]; exact H) | exact H
           have Ny166 := Aside0.mk hy166
           clear hy166
           by_cases c32 : x30_3 < (x163002_3.length : Int)
           ·
            rw [if_pos c32] at H
            have c32b0 : decide (x30_3 < (x163002_3.length : Int)) = true := decide_eq_true c32
            clear c32
            obtain ⟨y168, hy168⟩ : ∃ y_ : List Int, y_ = (x163002_3.set (x30_3 : Int).toNat (wrap64 (Int.tdiv (rd x163002_3 x30_3) 2))) := ⟨_, rfl⟩
            replace H : (spec_bxMake.l1 k3 (x163001_1.length : Int) (wrap64 (x30_3 + 1)) (wrap64 (x163000_1 - 1)) y166 y168) = some (r1, r2, r3, r4) := by first | (rw [hy168]; with_reducible exact H) | (have H2_ := (Option.bind_some _ _).symm.trans H; rw [hy168]; with_reducible exact H2_) | (have H2_ := (Option.bind_some _ _).symm.trans H; with_reducible exact H2_) | with_reducible exact H | (rw [hy168]; exact H) | exact H
            have Ny168 := Aside0.mk hy168
            clear hy168
            have H' := Aside0.mk H
            clear H
            have hnb34 := NB162_155.out
            have hnc34 := NB155_162.out
            have hcz35_0 : wr.cell? ⟨gb162, 0, none⟩ = some (.int .i64 (wrap64 (x163000_1 - 1))) := zc BK162 0
            have hcz35_1 : wr.cell? ⟨gb162, 1, none⟩ = some (u163001) := zc BK162 1
            have hcz35_2 : wr.cell? ⟨gb162, 2, none⟩ = some (u163002) := zc BK162 2
            have hfz35_0 := blk_frozen BK162.out 0
            have hfz35_1 := blk_frozen BK162.out 1
            have hfz35_2 := blk_frozen BK162.out 2
            obtain ⟨Ao36, co36, eo36⟩ := Kd.R_slice HO_163001.out
            subst eo36
            have p165 : 0 ≤ (x30_3 : Int) := of_decide_eq_true (by first | (with_reducible assumption) | assumption)
            have q165 : x30_3 < (x163001_3.length : Int) := of_decide_eq_true (by first | (with_reducible assumption) | assumption)
            obtain ⟨ad165, e165, hx165_0⟩ := Kd.at_int (Kd.R_reads' HO_163001.out).2.2 x30_3 p165 q165
            cases e165
            replace p165 := eq_true p165
            replace q165 := eq_true q165
            have p31 : 0 ≤ (x30_3 : Int) := of_decide_eq_true (by first | (with_reducible assumption) | assumption)
            have q31 : (x30_3 : Int) < ((x163001_3.length : Int) : Int) := of_decide_eq_true (by first | (with_reducible assumption) | assumption)
            obtain ⟨go31, co31, eo31, gb31, gl31, cl31, HG31⟩ := Kd.R_form HO_163001.out (by omega)
            (first | cases eo31 | (injection eo31 with ea_ en_ ec_; (first | subst ea_ | (injection ea_ with ea_; subst ea_)); subst ec_; clear en_))
            have GB31 := Aside0.mk gb31
            have GG31 := Aside0.mk HG31
            clear gb31 gl31 HG31
            (first | simp only [add_plain] at hx165_0 | skip)
            obtain ⟨hx31_0, hf31_0⟩ := Kd.R_celln 0 HO_163001.out (x30_3 : Int) p31 q31
            replace p31 := eq_true p31
            replace q31 := eq_true q31
            have HP37 := Kd.R_putg HO_163001.out (x30_3 : Int) (wrap64 (Int.tdiv (rd x163001_3 x30_3) 2))
            go_wp2_with (first | ((with_reducible refine gate_store (t := 3) (p := 39) rfl ?_); refine store_event (t := 3) (p := 39) (v := ?vo_w38) (w1 := (wr.setCell ⟨go31, (x30_3 : Int).toNat, none⟩ (.int .i64 (wrap64 (Int.tdiv (rd x163001_3 x30_3) 2))))) ?hg ?ho ?hn ?hr ?_; (case ho => rfl); (case hg => rfl); (case hn => rfl); (case hr => first | (go_simp; done) | (go_simp; rfl)); intro w38 hw; have hg : wr.grownBy w38 (some go31) := (by rw [hw]; exact HP37.2); have hp_ : Kd.R (Kd.int .i64) 3 w38 w.heap.size (fun k_ => some k_ ≠ (u163002 : Value).ownBlock) (.slice (some ⟨go31, 0, none⟩) x163001_3.length co36) y166 := (by rw [hw, Ny166.out]; exact HP37.1); clear HP37; replace HO_163002 := Aside0.mk (Kd.R_after (v := (.slice (some ⟨go31, 0, none⟩) x163001_3.length co36)) (v1 := (.slice (some ⟨go31, 0, none⟩) x163001_3.length co36)) (ok := (fun _ => True)) (by (with_reducible repeat (first | apply Kd.R_alloc | apply Kd.R_drewN | apply Kd.R_drew)); exact Kd.R_mono HO_163002.out (fun _ hk => ⟨trivial, hk⟩)) hg (.inl rfl)); replace BK155 := Aside0.mk (blk_grown (g := gb155) (o := .cells #[.int .i64 0, .slice none 0 0, .slice none 0 0] 27 (0, 0)) (zq1 BK155) hg (Kd.R_ne HO_163001.out BK155.out (by decide))); replace BK162 := Aside0.mk (blk_grown (g := gb162) (o := .cells #[.int .i64 (wrap64 (x163000_1 - 1)), .slice (some ⟨go31, 0, none⟩) x163001_3.length co36, u163002] 27 (0, 0)) (zq1 BK162) hg (Kd.R_ne HO_163001.out BK162.out (by decide))); replace HO_163001 := Aside0.mk (hp_); replace HB := Aside0.mk ((by rw [hw]; exact below_set (HB.out) GB31.out : Below w.heap.size w w38)); clear hg hw hp_; have hcz39_0 : w38.cell? ⟨gb162, 0, none⟩ = some (.int .i64 (wrap64 (x163000_1 - 1))) := zc BK162 0; have hcz39_1 : w38.cell? ⟨gb162, 1, none⟩ = some (.slice (some ⟨go31, 0, none⟩) x163001_3.length co36) := zc BK162 1; have hcz39_2 : w38.cell? ⟨gb162, 2, none⟩ = some (u163002) := zc BK162 2; have hfz39_0 := blk_frozen BK162.out 0; have hfz39_1 := blk_frozen BK162.out 1; have hfz39_2 := blk_frozen BK162.out 2; obtain ⟨Ao40, co40, eo40⟩ := Kd.R_slice HO_163002.out; subst eo40; have p167 : 0 ≤ (x30_3 : Int) := of_decide_eq_true (by first | (with_reducible assumption) | assumption); have q167 : x30_3 < (x163002_3.length : Int) := of_decide_eq_true (by first | (with_reducible assumption) | assumption); obtain ⟨ad167, e167, hx167_0⟩ := Kd.at_int (Kd.R_reads' HO_163002.out).2.2 x30_3 p167 q167; cases e167; replace p167 := eq_true p167; replace q167 := eq_true q167; have p33 : 0 ≤ (x30_3 : Int) := of_decide_eq_true (by first | (with_reducible assumption) | assumption); have q33 : (x30_3 : Int) < ((x163002_3.length : Int) : Int) := of_decide_eq_true (by first | (with_reducible assumption) | assumption); obtain ⟨go33, co33, eo33, gb33, gl33, cl33, HG33⟩ := Kd.R_form HO_163002.out (by omega); (first | cases eo33 | (injection eo33 with ea_ en_ ec_; (first | subst ea_ | (injection ea_ with ea_; subst ea_)); subst ec_; clear en_)); have GB33 := Aside0.mk gb33; have GG33 := Aside0.mk HG33; clear gb33 gl33 HG33; (first | simp only [add_plain] at hx167_0 | skip); obtain ⟨hx33_0, hf33_0⟩ := Kd.R_celln 0 HO_163002.out (x30_3 : Int) p33 q33; replace p33 := eq_true p33; replace q33 := eq_true q33; have n_ := Aside0.mk (Kd.R_mono (ok' := (fun k_ => some k_ ≠ (.slice (some ⟨go31, 0, none⟩) x163001_3.length co36 : Value).ownBlock)) HO_163002.out (fun k_ hk => hk.2)); clear HO_163002; have HO_163002 := n_; clear n_; obtain ⟨hy41_, hz41_⟩ := Kd.R_celln 0 HO_163002.out (x30_3 : Int) (of_decide_eq_true (by first | (with_reducible assumption) | assumption)) (of_decide_eq_true (by first | (with_reducible assumption) | assumption)); have HP41 := Kd.R_putg HO_163002.out (x30_3 : Int) (wrap64 (Int.tdiv (rd x163002_3 x30_3) 2))) | ((with_reducible refine gate_store (t := 3) (p := 46) rfl ?_); refine store_event (t := 3) (p := 46) (v := ?vo_w42) (w1 := (w38.setCell ⟨go33, (x30_3 : Int).toNat, none⟩ (.int .i64 (wrap64 (Int.tdiv (rd x163002_3 x30_3) 2))))) ?hg ?ho ?hn ?hr ?_; (case ho => rfl); (case hg => rfl); (case hn => rfl); (case hr => first | (go_simp; done) | (go_simp; rfl)); intro w42 hw; have hg : w38.grownBy w42 (some go33) := (by rw [hw]; exact HP41.2); have hp_ : Kd.R (Kd.int .i64) 3 w42 w.heap.size (fun k_ => some k_ ≠ (.slice (some ⟨go31, 0, none⟩) x163001_3.length co36 : Value).ownBlock) (.slice (some ⟨go33, 0, none⟩) x163002_3.length co40) y168 := (by rw [hw, Ny168.out]; exact HP41.1); clear HP41; replace HO_163001 := Aside0.mk (Kd.R_after (v := (.slice (some ⟨go33, 0, none⟩) x163002_3.length co40)) (v1 := (.slice (some ⟨go33, 0, none⟩) x163002_3.length co40)) (ok := (fun _ => True)) (by (with_reducible repeat (first | apply Kd.R_alloc | apply Kd.R_drewN | apply Kd.R_drew)); exact Kd.R_mono HO_163001.out (fun _ hk => ⟨trivial, hk⟩)) hg (.inl rfl)); replace BK155 := Aside0.mk (blk_grown (g := gb155) (o := .cells #[.int .i64 0, .slice none 0 0, .slice none 0 0] 27 (0, 0)) (zq1 BK155) hg (Kd.R_ne HO_163002.out BK155.out (by decide))); replace BK162 := Aside0.mk (blk_grown (g := gb162) (o := .cells #[.int .i64 (wrap64 (x163000_1 - 1)), .slice (some ⟨go31, 0, none⟩) x163001_3.length co36, .slice (some ⟨go33, 0, none⟩) x163002_3.length co40] 27 (0, 0)) (zq1 BK162) hg (Kd.R_ne HO_163002.out BK162.out (by decide))); replace HO_163002 := Aside0.mk (hp_); replace HB := Aside0.mk ((by rw [hw]; exact below_set (HB.out) GB33.out : Below w.heap.size w w42)); clear hg hw hp_))
            go_roundg k3
            case measure => have := HK1.out; have := HJ13.out; have := HK3.out; omega
            case rel => exact ⟨(wrap64 (x30_3 + 1)), (y166), (y168), (.slice (some ⟨go31, 0, none⟩) x163001_3.length co36), (.slice (some ⟨go33, 0, none⟩) x163002_3.length co40), (by first | rfl | (simp; done) | (simp [*]; done)), H', ⟨by have := HK1.out; have := HJ13.out; have := HK3.out; omega⟩, ⟨by (with_reducible repeat (first | apply Kd.R_alloc | apply Kd.R_drewN | apply Kd.R_drew)); exact Kd.R_mono HO_163001.out (fun _ hk => hk.2)⟩, ⟨by (with_reducible repeat (first | apply Kd.R_alloc | apply Kd.R_drewN | apply Kd.R_drew)); exact HO_163002.out⟩, ⟨by (with_reducible repeat (first | refine blk_drewN ?_ _ | refine blk_drew ?_ | refine blk_alloc ?_ _)); exact BK155.out⟩, ⟨by (with_reducible repeat (first | refine blk_drewN ?_ _ | refine blk_drew ?_ | refine blk_alloc ?_ _)); exact BK162.out⟩, ⟨(zb1 HB)⟩⟩
           ·
            rw [if_neg c32] at H
            exact absurd H (by simp)
          ·
           rw [if_neg c30] at H
           exact absurd H (by simp)
         ·
          rw [if_neg c29] at H
          exact absurd H (by simp)
        ·
         rw [if_neg c28] at H
         have c28b0 : decide (x30_3 < (x163001_1.length : Int)) = false := decide_eq_false c28
         clear c28
         have H' := Aside0.mk H
         clear H
         go_wp2
         go_roundg k3
         case measure => have := HK1.out; have := HJ13.out; have := HK3.out; omega
         case rel => exact ⟨((wrap64 (x163000_1 - 1))), (x163001_3), (x163002_3), (u163001), (u163002), H', ⟨by have := HK1.out; have := HJ13.out; have := HK3.out; omega⟩, ⟨by (with_reducible repeat (first | apply Kd.R_alloc | apply Kd.R_drewN | apply Kd.R_drew)); exact HO_163001.out⟩, ⟨by (with_reducible repeat (first | apply Kd.R_alloc | apply Kd.R_drewN | apply Kd.R_drew)); exact HO_163002.out⟩, ⟨by (with_reducible repeat (first | refine blk_drewN ?_ _ | refine blk_drew ?_ | refine blk_alloc ?_ _)); exact BK155.out⟩, ⟨by (with_reducible repeat (first | refine blk_drewN ?_ _ | refine blk_drew ?_ | refine blk_alloc ?_ _)); exact BK162.out⟩, ⟨(zb1 HB)⟩⟩
     ·
      replace c24 := Bool.eq_false_iff.mpr c24
      subst c24
      have H1 : ((spec_bxGood.f kj13 x163000_1 x163001_1 x163002_1).bind fun t164 => (if t164 = true then (some (x163000_1, x163001_1, x163002_1, true)) else (some (0, ([] : List Int), ([] : List Int), false)))) = some (r1, r2, r3, r4) := by rw [if_neg (show ¬ (false = true) by decide)] at H; exact H
      clear H
      have H := H1
      clear H1
      replace H := Option.bind_eq_some_iff.mp H
      obtain ⟨t164, A430, H⟩ := H
      replace H : (if t164 = true then (some (x163000_1, x163001_1, x163002_1, true)) else (some (0, ([] : List Int), ([] : List Int), false))) = some (r1, r2, r3, r4) := H
      have A43 := Aside0.mk A430
      clear A430
      by_cases c44 : t164 = true
      ·
       subst c44
       have H1 : (some (x163000_1, x163001_1, x163002_1, true)) = some (r1, r2, r3, r4) := by rw [if_pos rfl] at H; exact H
       clear H
       have H := H1
       clear H1
       simp only [Option.some.injEq, Prod.mk.injEq] at H
       obtain ⟨rfl, rfl, rfl, rfl⟩ := H
       have hnb45 := NB162_155.out
       have hnc45 := NB155_162.out
       have hcz46_0 : wc.cell? ⟨gb162, 0, none⟩ = some (.int .i64 x163000_1) := zc BK162 0
       have hcz46_1 : wc.cell? ⟨gb162, 1, none⟩ = some (u163001) := zc BK162 1
       have hcz46_2 : wc.cell? ⟨gb162, 2, none⟩ = some (u163002) := zc BK162 2
       have hfz46_0 := blk_frozen BK162.out 0
       have hfz46_1 := blk_frozen BK162.out 1
       have hfz46_2 := blk_frozen BK162.out 2
       obtain ⟨Ao47, co47, eo47⟩ := Kd.R_slice HO_163001.out
       subst eo47
       obtain ⟨Ao48, co48, eo48⟩ := Kd.R_slice HO_163002.out
       subst eo48
       go_wp2_with (first | ((with_reducible refine gate_callee (f := 56) rfl ?_); refine goesL_ (some 49) rfl rfl Try.func56 (by kernel_rfl) rfl #[.agg #[.int .i64 x163000_1, .slice Ao47 x163001_1.length co47, .slice Ao48 x163002_1.length co48]] rfl zq6 ?_; (with_reducible refine (spec_bxGood.calls kj13 x163000_1 _ _ x163001_1 _ _ x163002_1 true _ ?side1 ?side2 ?side3 ?side4 A43.out).mono ?_); (case side1 => repeat (first | exact (Kd.R_reads' HO_163001.out).2.2 | (with_reducible refine Kd.C_alloc ?_ _) | (with_reducible refine Kd.C_drewN ?_ _) | (with_reducible refine Kd.C_drew ?_))); (case side2 => exact (Kd.R_reads' HO_163001.out).2.1); (case side3 => repeat (first | exact (Kd.R_reads' HO_163002.out).2.2 | (with_reducible refine Kd.C_alloc ?_ _) | (with_reducible refine Kd.C_drewN ?_ _) | (with_reducible refine Kd.C_drew ?_))); (case side4 => exact (Kd.R_reads' HO_163002.out).2.1); rintro e w49 ⟨rfl, hb⟩; refine ⟨_, rfl, ?_⟩; replace HO_163001 := Aside0.mk (Kd.R_below (zq3 HO_163001) hb); replace HO_163002 := Aside0.mk (Kd.R_below (zq3 HO_163002) hb); replace BK155 := Aside0.mk (zbb BK155 hb); replace BK162 := Aside0.mk (zbb BK162 hb); replace HB := Aside0.mk (below_step (zb1 HB) hb); (try clear hb); (try clear hb2); (try clear hk); (try clear hi); have hcz50_0 : w49.cell? ⟨gb162, 0, none⟩ = some (.int .i64 x163000_1) := zc BK162 0; have hcz50_1 : w49.cell? ⟨gb162, 1, none⟩ = some (.slice Ao47 x163001_1.length co47) := zc BK162 1; have hcz50_2 : w49.cell? ⟨gb162, 2, none⟩ = some (.slice Ao48 x163002_1.length co48) := zc BK162 2; have hfz50_0 := blk_frozen BK162.out 0; have hfz50_1 := blk_frozen BK162.out 1; have hfz50_2 := blk_frozen BK162.out 2; have hcz51_0 : w49.cell? ⟨gb155, 0, none⟩ = some (.int .i64 0) := zc BK155 0; have hcz51_1 : w49.cell? ⟨gb155, 1, none⟩ = some (.slice none 0 0) := zc BK155 1; have hcz51_2 : w49.cell? ⟨gb155, 2, none⟩ = some (.slice none 0 0) := zc BK155 2; have hfz51_0 := blk_frozen BK155.out 0; have hfz51_1 := blk_frozen BK155.out 1; have hfz51_2 := blk_frozen BK155.out 2))
       refine bodyPost_ret (results_ct rfl _ _ gb155 27 #[.int .i64 x163000_1, .slice Ao47 x163001_1.length co47, .slice Ao48 x163002_1.length co48] (0, 0) _ rfl (by (with_reducible repeat (first | refine blk_drewN ?_ _ | refine blk_drew ?_ | refine blk_alloc ?_ _)); refine blk_put (cs := #[.int .i64 x163000_1, .slice Ao47 x163001_1.length co47, .slice none 0 0]) ?_ 2 _ rfl; (with_reducible repeat (first | refine blk_drewN ?_ _ | refine blk_drew ?_ | refine blk_alloc ?_ _)); refine blk_put (cs := #[.int .i64 x163000_1, .slice none 0 0, .slice none 0 0]) ?_ 1 _ rfl; (with_reducible repeat (first | refine blk_drewN ?_ _ | refine blk_drew ?_ | refine blk_alloc ?_ _)); refine blk_put (cs := #[.int .i64 0, .slice none 0 0, .slice none 0 0]) ?_ 0 _ rfl; (with_reducible repeat (first | refine blk_drewN ?_ _ | refine blk_drew ?_ | refine blk_alloc ?_ _)); exact BK155.out) Try.underlying27 rfl (by kernel_rfl)) rfl ?_
       exact ⟨_, _, by first | rfl | (simp [errW_none, errW_some] <;> rfl) | (simp [*, errW_none, errW_some] <;> rfl), by (with_reducible repeat (first | apply Kd.R_alloc | apply Kd.R_drewN | apply Kd.R_drew)); exact Kd.R_mono (Kd.R_far (p := ⟨gb155, 2, none⟩) (Kd.R_far (p := ⟨gb155, 1, none⟩) (Kd.R_far (p := ⟨gb155, 0, none⟩) (Kd.R_types HO_163001.out BK155.out (by decide)) (fun _ hk => hk.2) (.int .i64 x163000_1)) (fun _ hk => hk.2) (.slice Ao47 x163001_1.length co47)) (fun _ hk => hk.2) (.slice Ao48 x163002_1.length co48)) (fun _ hk => hk.1), by (with_reducible repeat (first | apply Kd.R_alloc | apply Kd.R_drewN | apply Kd.R_drew)); exact Kd.R_mono (Kd.R_far (p := ⟨gb155, 2, none⟩) (Kd.R_far (p := ⟨gb155, 1, none⟩) (Kd.R_far (p := ⟨gb155, 0, none⟩) (Kd.R_types HO_163002.out BK155.out (by decide)) (fun _ hk => hk.2) (.int .i64 x163000_1)) (fun _ hk => hk.2) (.slice Ao47 x163001_1.length co47)) (fun _ hk => hk.2) (.slice Ao48 x163002_1.length co48)) (fun _ hk => hk.1), (zb1 HB)⟩
      ·
       replace c44 := Bool.eq_false_iff.mpr c44
       subst c44
       have H1 : (some (0, ([] : List Int), ([] : List Int), false)) = some (r1, r2, r3, r4) := by rw [if_neg (show ¬ (false = true) by decide)] at H; exact H
       clear H
       have H := H1
       clear H1
       simp only [Option.some.injEq, Prod.mk.injEq] at H
       obtain ⟨rfl, rfl, rfl, rfl⟩ := H
       have hnb52 := NB162_155.out
       have hnc52 := NB155_162.out
       have hcz53_0 : wc.cell? ⟨gb162, 0, none⟩ = some (.int .i64 x163000_1) := zc BK162 0
       have hcz53_1 : wc.cell? ⟨gb162, 1, none⟩ = some (u163001) := zc BK162 1
       have hcz53_2 : wc.cell? ⟨gb162, 2, none⟩ = some (u163002) := zc BK162 2
       have hfz53_0 := blk_frozen BK162.out 0
       have hfz53_1 := blk_frozen BK162.out 1
       have hfz53_2 := blk_frozen BK162.out 2
       obtain ⟨Ao54, co54, eo54⟩ := Kd.R_slice HO_163001.out
       subst eo54
       obtain ⟨Ao55, co55, eo55⟩ := Kd.R_slice HO_163002.out
       subst eo55
       go_wp2_with (first | ((with_reducible refine gate_callee (f := 56) rfl ?_); refine goesL_ (some 49) rfl rfl Try.func56 (by kernel_rfl) rfl #[.agg #[.int .i64 x163000_1, .slice Ao54 x163001_1.length co54, .slice Ao55 x163002_1.length co55]] rfl zq6 ?_; (with_reducible refine (spec_bxGood.calls kj13 x163000_1 _ _ x163001_1 _ _ x163002_1 false _ ?side1 ?side2 ?side3 ?side4 A43.out).mono ?_); (case side1 => repeat (first | exact (Kd.R_reads' HO_163001.out).2.2 | (with_reducible refine Kd.C_alloc ?_ _) | (with_reducible refine Kd.C_drewN ?_ _) | (with_reducible refine Kd.C_drew ?_))); (case side2 => exact (Kd.R_reads' HO_163001.out).2.1); (case side3 => repeat (first | exact (Kd.R_reads' HO_163002.out).2.2 | (with_reducible refine Kd.C_alloc ?_ _) | (with_reducible refine Kd.C_drewN ?_ _) | (with_reducible refine Kd.C_drew ?_))); (case side4 => exact (Kd.R_reads' HO_163002.out).2.1); rintro e w56 ⟨rfl, hb⟩; refine ⟨_, rfl, ?_⟩; replace HO_163001 := Aside0.mk (Kd.R_below (zq3 HO_163001) hb); replace HO_163002 := Aside0.mk (Kd.R_below (zq3 HO_163002) hb); replace BK155 := Aside0.mk (zbb BK155 hb); replace BK162 := Aside0.mk (zbb BK162 hb); replace HB := Aside0.mk (below_step (zb1 HB) hb); (try clear hb); (try clear hb2); (try clear hk); (try clear hi); have hcz57_0 : w56.cell? ⟨gb155, 0, none⟩ = some (.int .i64 0) := zc BK155 0; have hcz57_1 : w56.cell? ⟨gb155, 1, none⟩ = some (.slice none 0 0) := zc BK155 1; have hcz57_2 : w56.cell? ⟨gb155, 2, none⟩ = some (.slice none 0 0) := zc BK155 2; have hfz57_0 := blk_frozen BK155.out 0; have hfz57_1 := blk_frozen BK155.out 1; have hfz57_2 := blk_frozen BK155.out 2))
       refine bodyPost_ret (results_ct rfl _ _ gb155 27 #[.int .i64 0, .slice none 0 0, .slice none 0 0] (0, 0) _ rfl (by (with_reducible repeat (first | refine blk_drewN ?_ _ | refine blk_drew ?_ | refine blk_alloc ?_ _)); refine blk_put (cs := #[.int .i64 0, .slice none 0 0, .slice none 0 0]) ?_ 2 _ rfl; (with_reducible repeat (first | refine blk_drewN ?_ _ | refine blk_drew ?_ | refine blk_alloc ?_ _)); refine blk_put (cs := #[.int .i64 0, .slice none 0 0, .slice none 0 0]) ?_ 1 _ rfl; (with_reducible repeat (first | refine blk_drewN ?_ _ | refine blk_drew ?_ | refine blk_alloc ?_ _)); refine blk_put (cs := #[.int .i64 0, .slice none 0 0, .slice none 0 0]) ?_ 0 _ rfl; (with_reducible repeat (first | refine blk_drewN ?_ _ | refine blk_drew ?_ | refine blk_alloc ?_ _)); exact BK155.out) Try.underlying27 rfl (by kernel_rfl)) rfl ?_
       exact ⟨_, _, by first | rfl | (simp [errW_none, errW_some] <;> rfl) | (simp [*, errW_none, errW_some] <;> rfl), by first | exact Kd.R_nil _ _ _ _ _ | exact Kd.N_nil _ _ _ _ _ | exact Kd.V_nil _ _ _ _ _ | exact Kd.Q_nil _ _ _ _ _ | exact Kd.S_nil _ _ _ _ _, by first | exact Kd.R_nil _ _ _ _ _ | exact Kd.N_nil _ _ _ _ _ | exact Kd.V_nil _ _ _ _ _ | exact Kd.Q_nil _ _ _ _ _ | exact Kd.S_nil _ _ _ _ _, (zb1 HB)⟩
end Go.Proofs.Ytgaoniapddpaaaa.PD
