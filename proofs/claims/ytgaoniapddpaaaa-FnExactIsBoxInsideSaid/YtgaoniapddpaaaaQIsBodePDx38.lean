-- By wip/mk/drv.py
import Derived.Test.YtgaoniapddpaaaaQIsBodePDx0
import Derived.Test.YtgaoniapddpaaaaQIsBodePDx1
import Derived.Test.YtgaoniapddpaaaaQIsBodePDx3
namespace Go.Proofs.Ytgaoniapddpaaaa.PD
open Go.RowKit Go.Proofs.YtgaoniapddpaaaaW.PrintWords Go.Proofs.YtgaoniapddpaaaaW.PrintLast Go.Proofs.YtgaoniapddpaaaaW.PrintMore
attribute [local go_sem] max2_int min2_int max_two min_two max_three min_three max_four min_four
set_option linter.unusedVariables false
set_option linter.unusedSimpArgs false
/-! ### spec_bxIn: function 61 -/
set_option maxHeartbeats 8000000 in
set_option maxRecDepth 100000 in
theorem spec_bxIn.calls (k : Nat) (a0_0 : Int) (A0_1 : Option Addr) (c0_1 : Nat) (l0_1 : List Int) (A0_2 : Option Addr) (c0_2 : Nat) (l0_2 : List Int) (a1_0 : Int) (A1_1 : Option Addr) (c1_1 : Nat) (l1_1 : List Int) (A1_2 : Option Addr) (c1_2 : Nat) (l1_2 : List Int) (r : Bool) (w : World) (hr0_1 : Kd.C (Kd.int .i64) w A0_1 l0_1.length l0_1) (hc0_1 : l0_1.length ≤ c0_1) (hr0_2 : Kd.C (Kd.int .i64) w A0_2 l0_2.length l0_2) (hc0_2 : l0_2.length ≤ c0_2) (hr1_1 : Kd.C (Kd.int .i64) w A1_1 l1_1.length l1_1) (hc1_1 : l1_1.length ≤ c1_1) (hr1_2 : Kd.C (Kd.int .i64) w A1_2 l1_2.length l1_2) (hc1_2 : l1_2.length ≤ c1_2) (h : spec_bxIn.f k a0_0 l0_1 l0_2 a1_0 l1_1 l1_2 = some r) :
  Calls Try.prog 61 #[.agg #[.int .i64 a0_0, .slice A0_1 l0_1.length c0_1, .slice A0_2 l0_2.length c0_2], .agg #[.int .i64 a1_0, .slice A1_1 l1_1.length c1_1, .slice A1_2 l1_2.length c1_2]] w fun e w' => e = .returned (.bool r) ∧ Below w.heap.size w w' := by
 have hu27 := Try.underlying27
 have HR0_1 := Aside0.mk hr0_1
 have HC0_1 := Aside0.mk hc0_1
 clear hr0_1 hc0_1
 have HR0_2 := Aside0.mk hr0_2
 have HC0_2 := Aside0.mk hc0_2
 clear hr0_2 hc0_2
 have HR1_1 := Aside0.mk hr1_1
 have HC1_1 := Aside0.mk hc1_1
 clear hr1_1 hc1_1
 have HR1_2 := Aside0.mk hr1_2
 have HC1_2 := Aside0.mk hc1_2
 clear hr1_2 hc1_2
 have HB := Aside0.mk (Below.refl w.heap.size w)
 have H : ((spec_bxAt.f k a0_0 l0_1 l0_2).bind fun bt518 => ((spec_bxAt.f k a1_0 l1_1 l1_2).bind fun bt524 => (spec_bxIn.l0 k bt518.2 bt524.1 bt524.2 bt518.1 (bt518.1.length : Int) 0))) = some r := h
 clear h
 replace H := Option.bind_eq_some_iff.mp H
 obtain ⟨⟨t518, t521⟩, A30, H⟩ := H
 replace H : ((spec_bxAt.f k a1_0 l1_1 l1_2).bind fun bt524 => (spec_bxIn.l0 k t521 bt524.1 bt524.2 t518 (t518.length : Int) 0)) = some r := H
 have A3 := Aside0.mk A30
 clear A30
 replace H := Option.bind_eq_some_iff.mp H
 obtain ⟨⟨t524, t527⟩, A40, H⟩ := H
 replace H : (spec_bxIn.l0 k t521 t524 t527 t518 (t518.length : Int) 0) = some r := H
 have A4 := Aside0.mk A40
 clear A40
 have H' := Aside0.mk H
 clear H
 go_enter Try.func61, Try.ntmps61
 go_wp2_with (first | ((with_reducible refine gate_dst (N := 2) rfl ?_); refine zbe (N := 2) (cs := #[.int .i64 a0_0, .slice A0_1 l0_1.length c0_1, .slice A0_2 l0_2.length c0_2]) (t := 27) ?_; intro gb516 hg w5 hbox hb; have BK516 := Aside0.mk (hbox); have GW516 := Aside0.mk (zge (zb0 HB) hg); have GE516 := GW516; replace HB := Aside0.mk (below_step (zb0 HB) hb); clear hb hbox hg) | ((with_reducible refine gate_dst (N := 3) rfl ?_); refine zbe (N := 3) (cs := #[.int .i64 a1_0, .slice A1_1 l1_1.length c1_1, .slice A1_2 l1_2.length c1_2]) (t := 27) ?_; intro gb517 hg w6 hbox hb; have BK517 := Aside0.mk (hbox); have GW517 := Aside0.mk (zge (zb1 HB) hg); have GE517 := GW517; have NB516_517 := Aside0.mk (zlt BK516 hg); have NB517_516 := Aside0.mk (zgt BK516 hg); replace BK516 := Aside0.mk (zbb BK516 hb); replace HB := Aside0.mk (below_step (zb1 HB) hb); clear hb hbox hg; have hnb7 := NB516_517.out; have hnc7 := NB517_516.out; have hcz8_0 : w6.cell? ⟨gb516, 0, none⟩ = some (.int .i64 a0_0) := zc BK516 0; have hcz8_1 : w6.cell? ⟨gb516, 1, none⟩ = some (.slice A0_1 l0_1.length c0_1) := zc BK516 1; have hcz8_2 : w6.cell? ⟨gb516, 2, none⟩ = some (.slice A0_2 l0_2.length c0_2) := zc BK516 2; have hfz8_0 := blk_frozen BK516.out 0; have hfz8_1 := blk_frozen BK516.out 1; have hfz8_2 := blk_frozen BK516.out 2) | (go_at_call 82; (with_reducible refine (spec_bxAt.calls k a0_0 _ _ l0_1 _ _ l0_2 t518 t521 _ ?side1 ?side2 ?side3 ?side4 A3.out).mono ?_); (case side1 => repeat (first | exact (Kd.C_below HR0_1.out HB.out) | (with_reducible refine Kd.C_alloc ?_ _) | (with_reducible refine Kd.C_drewN ?_ _) | (with_reducible refine Kd.C_drew ?_))); (case side2 => exact HC0_1.out); (case side3 => repeat (first | exact (Kd.C_below HR0_2.out HB.out) | (with_reducible refine Kd.C_alloc ?_ _) | (with_reducible refine Kd.C_drewN ?_ _) | (with_reducible refine Kd.C_drew ?_))); (case side4 => exact HC0_2.out); rintro e w9 ⟨v519, v522, rfl, ho0, ho1, hb⟩; have HO520 := Aside0.mk (Kd.R_lower ho0 (below_size (zb1 HB))); have HO523 := Aside0.mk (Kd.R_lower ho1 (below_size (zb1 HB))); replace BK516 := Aside0.mk (zbb BK516 hb); replace BK517 := Aside0.mk (zbb BK517 hb); replace HB := Aside0.mk (below_step (zb1 HB) hb); (try clear hb); (try clear hb2); (try clear hk); (try clear hi); (try clear ho0); (try clear ho1); have hcz10_0 : w9.cell? ⟨gb517, 0, none⟩ = some (.int .i64 a1_0) := zc BK517 0; have hcz10_1 : w9.cell? ⟨gb517, 1, none⟩ = some (.slice A1_1 l1_1.length c1_1) := zc BK517 1; have hcz10_2 : w9.cell? ⟨gb517, 2, none⟩ = some (.slice A1_2 l1_2.length c1_2) := zc BK517 2; have hfz10_0 := blk_frozen BK517.out 0; have hfz10_1 := blk_frozen BK517.out 1; have hfz10_2 := blk_frozen BK517.out 2) | (go_at_call 82; (with_reducible refine (spec_bxAt.calls k a1_0 _ _ l1_1 _ _ l1_2 t524 t527 _ ?side1 ?side2 ?side3 ?side4 A4.out).mono ?_); (case side1 => repeat (first | exact (Kd.C_below HR1_1.out HB.out) | (with_reducible refine Kd.C_alloc ?_ _) | (with_reducible refine Kd.C_drewN ?_ _) | (with_reducible refine Kd.C_drew ?_))); (case side2 => exact HC1_1.out); (case side3 => repeat (first | exact (Kd.C_below HR1_2.out HB.out) | (with_reducible refine Kd.C_alloc ?_ _) | (with_reducible refine Kd.C_drewN ?_ _) | (with_reducible refine Kd.C_drew ?_))); (case side4 => exact HC1_2.out); rintro e w11 ⟨v525, v528, rfl, ho0, ho1, hb⟩; have HO526 := Aside0.mk (Kd.R_lower (Kd.R_new' (Kd.R_new' ho0 (Kd.R_lt (zq3 HO520))) (Kd.R_lt (zq3 HO523))) (below_size (zb1 HB))); have HO529 := Aside0.mk (Kd.R_lower (Kd.R_new' (Kd.R_new' ho1 (Kd.R_lt (zq3 HO520))) (Kd.R_lt (zq3 HO523))) (below_size (zb1 HB))); replace HO520 := Aside0.mk (Kd.R_mono (Kd.R_told (Kd.R_told (Kd.R_old (zq3 HO520) hb) (Kd.R_base ho0)) (Kd.R_base ho1)) (fun _ h_ => h_.1)); replace HO523 := Aside0.mk (Kd.R_mono (Kd.R_told (Kd.R_told (Kd.R_old (zq3 HO523) hb) (Kd.R_base ho0)) (Kd.R_base ho1)) (fun _ h_ => h_.1)); replace BK516 := Aside0.mk (zbb BK516 hb); replace BK517 := Aside0.mk (zbb BK517 hb); replace HB := Aside0.mk (below_step (zb1 HB) hb); (try clear hb); (try clear hb2); (try clear hk); (try clear hi); (try clear ho0); (try clear ho1); obtain ⟨Ao12, co12, eo12⟩ := Kd.R_slice HO520.out; subst eo12))
 repeat (go_quiet (first | ((with_reducible refine gate_dst (N := 2) rfl ?_); refine zbe (N := 2) (cs := #[.int .i64 a0_0, .slice A0_1 l0_1.length c0_1, .slice A0_2 l0_2.length c0_2]) (t := 27) ?_; intro gb516 hg w5 hbox hb; have BK516 := Aside0.mk (hbox); have GW516 := Aside0.mk (zge (zb0 HB) hg); have GE516 := GW516; replace HB := Aside0.mk (below_step (zb0 HB) hb); clear hb hbox hg) | ((with_reducible refine gate_dst (N := 3) rfl ?_); refine zbe (N := 3) (cs := #[.int .i64 a1_0, .slice A1_1 l1_1.length c1_1, .slice A1_2 l1_2.length c1_2]) (t := 27) ?_; intro gb517 hg w6 hbox hb; have BK517 := Aside0.mk (hbox); have GW517 := Aside0.mk (zge (zb1 HB) hg); have GE517 := GW517; have NB516_517 := Aside0.mk (zlt BK516 hg); have NB517_516 := Aside0.mk (zgt BK516 hg); replace BK516 := Aside0.mk (zbb BK516 hb); replace HB := Aside0.mk (below_step (zb1 HB) hb); clear hb hbox hg; have hnb7 := NB516_517.out; have hnc7 := NB517_516.out; have hcz8_0 : w6.cell? ⟨gb516, 0, none⟩ = some (.int .i64 a0_0) := zc BK516 0; have hcz8_1 : w6.cell? ⟨gb516, 1, none⟩ = some (.slice A0_1 l0_1.length c0_1) := zc BK516 1; have hcz8_2 : w6.cell? ⟨gb516, 2, none⟩ = some (.slice A0_2 l0_2.length c0_2) := zc BK516 2; have hfz8_0 := blk_frozen BK516.out 0; have hfz8_1 := blk_frozen BK516.out 1; have hfz8_2 := blk_frozen BK516.out 2) | (go_at_call 82; (with_reducible refine (spec_bxAt.calls k a0_0 _ _ l0_1 _ _ l0_2 t518 t521 _ ?side1 ?side2 ?side3 ?side4 A3.out).mono ?_); (case side1 => repeat (first | exact (Kd.C_below HR0_1.out HB.out) | (with_reducible refine Kd.C_alloc ?_ _) | (with_reducible refine Kd.C_drewN ?_ _) | (with_reducible refine Kd.C_drew ?_))); (case side2 => exact HC0_1.out); (case side3 => repeat (first | exact (Kd.C_below HR0_2.out HB.out) | (with_reducible refine Kd.C_alloc ?_ _) | (with_reducible refine Kd.C_drewN ?_ _) | (with_reducible refine Kd.C_drew ?_))); (case side4 => exact HC0_2.out); rintro e w9 ⟨v519, v522, rfl, ho0, ho1, hb⟩; have HO520 := Aside0.mk (Kd.R_lower ho0 (below_size (zb1 HB))); have HO523 := Aside0.mk (Kd.R_lower ho1 (below_size (zb1 HB))); replace BK516 := Aside0.mk (zbb BK516 hb); replace BK517 := Aside0.mk (zbb BK517 hb); replace HB := Aside0.mk (below_step (zb1 HB) hb); (try clear hb); (try clear hb2); (try clear hk); (try clear hi); (try clear ho0); (try clear ho1); have hcz10_0 : w9.cell? ⟨gb517, 0, none⟩ = some (.int .i64 a1_0) := zc BK517 0; have hcz10_1 : w9.cell? ⟨gb517, 1, none⟩ = some (.slice A1_1 l1_1.length c1_1) := zc BK517 1; have hcz10_2 : w9.cell? ⟨gb517, 2, none⟩ = some (.slice A1_2 l1_2.length c1_2) := zc BK517 2; have hfz10_0 := blk_frozen BK517.out 0; have hfz10_1 := blk_frozen BK517.out 1; have hfz10_2 := blk_frozen BK517.out 2) | (go_at_call 82; (with_reducible refine (spec_bxAt.calls k a1_0 _ _ l1_1 _ _ l1_2 t524 t527 _ ?side1 ?side2 ?side3 ?side4 A4.out).mono ?_); (case side1 => repeat (first | exact (Kd.C_below HR1_1.out HB.out) | (with_reducible refine Kd.C_alloc ?_ _) | (with_reducible refine Kd.C_drewN ?_ _) | (with_reducible refine Kd.C_drew ?_))); (case side2 => exact HC1_1.out); (case side3 => repeat (first | exact (Kd.C_below HR1_2.out HB.out) | (with_reducible refine Kd.C_alloc ?_ _) | (with_reducible refine Kd.C_drewN ?_ _) | (with_reducible refine Kd.C_drew ?_))); (case side4 => exact HC1_2.out); rintro e w11 ⟨v525, v528, rfl, ho0, ho1, hb⟩; have HO526 := Aside0.mk (Kd.R_lower (Kd.R_new' (Kd.R_new' ho0 (Kd.R_lt (zq3 HO520))) (Kd.R_lt (zq3 HO523))) (below_size (zb1 HB))); have HO529 := Aside0.mk (Kd.R_lower (Kd.R_new' (Kd.R_new' ho1 (Kd.R_lt (zq3 HO520))) (Kd.R_lt (zq3 HO523))) (below_size (zb1 HB))); replace HO520 := Aside0.mk (Kd.R_mono (Kd.R_told (Kd.R_told (Kd.R_old (zq3 HO520) hb) (Kd.R_base ho0)) (Kd.R_base ho1)) (fun _ h_ => h_.1)); replace HO523 := Aside0.mk (Kd.R_mono (Kd.R_told (Kd.R_told (Kd.R_old (zq3 HO523) hb) (Kd.R_base ho0)) (Kd.R_base ho1)) (fun _ h_ => h_.1)); replace BK516 := Aside0.mk (zbb BK516 hb); replace BK517 := Aside0.mk (zbb BK517 hb); replace HB := Aside0.mk (below_step (zb1 HB) hb); (try clear hb); (try clear hb2); (try clear hk); (try clear hi); (try clear ho0); (try clear ho1); obtain ⟨Ao12, co12, eo12⟩ := Kd.R_slice HO520.out; subst eo12)); try go_wp2_with (first | ((with_reducible refine gate_dst (N := 2) rfl ?_); refine zbe (N := 2) (cs := #[.int .i64 a0_0, .slice A0_1 l0_1.length c0_1, .slice A0_2 l0_2.length c0_2]) (t := 27) ?_; intro gb516 hg w5 hbox hb; have BK516 := Aside0.mk (hbox); have GW516 := Aside0.mk (zge (zb0 HB) hg); have GE516 := GW516; replace HB := Aside0.mk (below_step (zb0 HB) hb); clear hb hbox hg) | ((with_reducible refine gate_dst (N := 3) rfl ?_); refine zbe (N := 3) (cs := #[.int .i64 a1_0, .slice A1_1 l1_1.length c1_1, .slice A1_2 l1_2.length c1_2]) (t := 27) ?_; intro gb517 hg w6 hbox hb; have BK517 := Aside0.mk (hbox); have GW517 := Aside0.mk (zge (zb1 HB) hg); have GE517 := GW517; have NB516_517 := Aside0.mk (zlt BK516 hg); have NB517_516 := Aside0.mk (zgt BK516 hg); replace BK516 := Aside0.mk (zbb BK516 hb); replace HB := Aside0.mk (below_step (zb1 HB) hb); clear hb hbox hg; have hnb7 := NB516_517.out; have hnc7 := NB517_516.out; have hcz8_0 : w6.cell? ⟨gb516, 0, none⟩ = some (.int .i64 a0_0) := zc BK516 0; have hcz8_1 : w6.cell? ⟨gb516, 1, none⟩ = some (.slice A0_1 l0_1.length c0_1) := zc BK516 1; have hcz8_2 : w6.cell? ⟨gb516, 2, none⟩ = some (.slice A0_2 l0_2.length c0_2) := zc BK516 2; have hfz8_0 := blk_frozen BK516.out 0; have hfz8_1 := blk_frozen BK516.out 1; have hfz8_2 := blk_frozen BK516.out 2) | (go_at_call 82; (with_reducible refine (spec_bxAt.calls k a0_0 _ _ l0_1 _ _ l0_2 t518 t521 _ ?side1 ?side2 ?side3 ?side4 A3.out).mono ?_); (case side1 => repeat (first | exact (Kd.C_below HR0_1.out HB.out) | (with_reducible refine Kd.C_alloc ?_ _) | (with_reducible refine Kd.C_drewN ?_ _) | (with_reducible refine Kd.C_drew ?_))); (case side2 => exact HC0_1.out); (case side3 => repeat (first | exact (Kd.C_below HR0_2.out HB.out) | (with_reducible refine Kd.C_alloc ?_ _) | (with_reducible refine Kd.C_drewN ?_ _) | (with_reducible refine Kd.C_drew ?_))); (case side4 => exact HC0_2.out); rintro e w9 ⟨v519, v522, rfl, ho0, ho1, hb⟩; have HO520 := Aside0.mk (Kd.R_lower ho0 (below_size (zb1 HB))); have HO523 := Aside0.mk (Kd.R_lower ho1 (below_size (zb1 HB))); replace BK516 := Aside0.mk (zbb BK516 hb); replace BK517 := Aside0.mk (zbb BK517 hb); replace HB := Aside0.mk (below_step (zb1 HB) hb); (try clear hb); (try clear hb2); (try clear hk); (try clear hi); (try clear ho0); (try clear ho1); have hcz10_0 : w9.cell? ⟨gb517, 0, none⟩ = some (.int .i64 a1_0) := zc BK517 0; have hcz10_1 : w9.cell? ⟨gb517, 1, none⟩ = some (.slice A1_1 l1_1.length c1_1) := zc BK517 1; have hcz10_2 : w9.cell? ⟨gb517, 2, none⟩ = some (.slice A1_2 l1_2.length c1_2) := zc BK517 2; have hfz10_0 := blk_frozen BK517.out 0; have hfz10_1 := blk_frozen BK517.out 1; have hfz10_2 := blk_frozen BK517.out 2) | (go_at_call 82; (with_reducible refine (spec_bxAt.calls k a1_0 _ _ l1_1 _ _ l1_2 t524 t527 _ ?side1 ?side2 ?side3 ?side4 A4.out).mono ?_); (case side1 => repeat (first | exact (Kd.C_below HR1_1.out HB.out) | (with_reducible refine Kd.C_alloc ?_ _) | (with_reducible refine Kd.C_drewN ?_ _) | (with_reducible refine Kd.C_drew ?_))); (case side2 => exact HC1_1.out); (case side3 => repeat (first | exact (Kd.C_below HR1_2.out HB.out) | (with_reducible refine Kd.C_alloc ?_ _) | (with_reducible refine Kd.C_drewN ?_ _) | (with_reducible refine Kd.C_drew ?_))); (case side4 => exact HC1_2.out); rintro e w11 ⟨v525, v528, rfl, ho0, ho1, hb⟩; have HO526 := Aside0.mk (Kd.R_lower (Kd.R_new' (Kd.R_new' ho0 (Kd.R_lt (zq3 HO520))) (Kd.R_lt (zq3 HO523))) (below_size (zb1 HB))); have HO529 := Aside0.mk (Kd.R_lower (Kd.R_new' (Kd.R_new' ho1 (Kd.R_lt (zq3 HO520))) (Kd.R_lt (zq3 HO523))) (below_size (zb1 HB))); replace HO520 := Aside0.mk (Kd.R_mono (Kd.R_told (Kd.R_told (Kd.R_old (zq3 HO520) hb) (Kd.R_base ho0)) (Kd.R_base ho1)) (fun _ h_ => h_.1)); replace HO523 := Aside0.mk (Kd.R_mono (Kd.R_told (Kd.R_told (Kd.R_old (zq3 HO523) hb) (Kd.R_base ho0)) (Kd.R_base ho1)) (fun _ h_ => h_.1)); replace BK516 := Aside0.mk (zbb BK516 hb); replace BK517 := Aside0.mk (zbb BK517 hb); replace HB := Aside0.mk (below_step (zb1 HB) hb); (try clear hb); (try clear hb2); (try clear hk); (try clear hi); (try clear ho0); (try clear ho1); obtain ⟨Ao12, co12, eo12⟩ := Kd.R_slice HO520.out; subst eo12)))
 go_loopg [23] k (fun kq v23 w' => ∃ (x23_1 : Int), v23 = .int .i64 x23_1 ∧ Aside0 (spec_bxIn.l0 kq t521 t524 t527 t518 (t518.length : Int) x23_1 = some r) ∧ Aside0 (kq ≤ k) ∧ Aside0 (Kd.R (Kd.int .i64) 3 w' w.heap.size (fun k_ => some k_ ≠ (v525 : Value).ownBlock ∧ some k_ ≠ (v528 : Value).ownBlock ∧ some k_ ≠ ((.slice Ao12 t518.length co12) : Value).ownBlock) v522 t521) ∧ Aside0 (Kd.R (Kd.int .i64) 3 w' w.heap.size (fun k_ => some k_ ≠ (v522 : Value).ownBlock ∧ some k_ ≠ (v528 : Value).ownBlock ∧ some k_ ≠ ((.slice Ao12 t518.length co12) : Value).ownBlock) v525 t524) ∧ Aside0 (Kd.R (Kd.int .i64) 3 w' w.heap.size (fun k_ => some k_ ≠ (v522 : Value).ownBlock ∧ some k_ ≠ (v525 : Value).ownBlock ∧ some k_ ≠ ((.slice Ao12 t518.length co12) : Value).ownBlock) v528 t527) ∧ Aside0 (Kd.R (Kd.int .i64) 3 w' w.heap.size (fun k_ => some k_ ≠ (v522 : Value).ownBlock ∧ some k_ ≠ (v525 : Value).ownBlock ∧ some k_ ≠ (v528 : Value).ownBlock) (.slice Ao12 t518.length co12) t518) ∧ Aside0 (w'.heap[gb516]? = some (.cells #[.int .i64 a0_0, (.slice A0_1 l0_1.length c0_1), (.slice A0_2 l0_2.length c0_2)] 27 (0, 0))) ∧ Aside0 (w'.heap[gb517]? = some (.cells #[.int .i64 a1_0, (.slice A1_1 l1_1.length c1_1), (.slice A1_2 l1_2.length c1_2)] 27 (0, 0))) ∧ Aside0 (Below w.heap.size w w'))
 case atStart => exact ⟨(0), (by first | rfl | (simp; done) | (simp [*]; done)), H', ⟨Nat.le_refl _⟩, ⟨by (with_reducible repeat (first | apply Kd.R_alloc | apply Kd.R_drewN | apply Kd.R_drew)); exact Kd.R_mono HO523.out (fun _ hk => ⟨hk.1.2, ⟨hk.2, hk.1.1⟩⟩)⟩, ⟨by (with_reducible repeat (first | apply Kd.R_alloc | apply Kd.R_drewN | apply Kd.R_drew)); exact Kd.R_mono HO526.out (fun _ hk => ⟨hk.2, ⟨hk.1.1, hk.1.2⟩⟩)⟩, ⟨by (with_reducible repeat (first | apply Kd.R_alloc | apply Kd.R_drewN | apply Kd.R_drew)); exact Kd.R_mono HO529.out (fun _ hk => ⟨hk.2, ⟨hk.1.1, hk.1.2⟩⟩)⟩, ⟨by (with_reducible repeat (first | apply Kd.R_alloc | apply Kd.R_drewN | apply Kd.R_drew)); exact Kd.R_mono HO520.out (fun _ hk => ⟨hk.1.1, ⟨hk.1.2, hk.2⟩⟩)⟩, ⟨by (with_reducible repeat (first | refine blk_drewN ?_ _ | refine blk_drew ?_ | refine blk_alloc ?_ _)); exact BK516.out⟩, ⟨by (with_reducible repeat (first | refine blk_drewN ?_ _ | refine blk_drew ?_ | refine blk_alloc ?_ _)); exact BK517.out⟩, ⟨(zb1 HB)⟩⟩
 case round =>
  clear H'
  try clear c1
  try clear p2
  try clear c6
  try clear c7
  try clear hcz10_0
  try clear hcz10_1
  try clear hcz10_2
  try clear hcz8_0
  try clear hcz8_1
  try clear hcz8_2
  try clear hfz10_0
  try clear hfz10_1
  try clear hfz10_2
  try clear hfz8_0
  try clear hfz8_1
  try clear hfz8_2
  obtain ⟨x23_1, rfl, HA, HK1, HO_6, HO_7, HO_8, HO_21, BK516, BK517, HB⟩ := hrel
  cases gk with
  | zero => exact absurd HA.out (by simp [spec_bxIn.l0])
  | succ k1 =>
   have H := HA.out
   clear HA
   simp only [spec_bxIn.l0] at H
   by_cases c13 : x23_1 < (t518.length : Int)
   ·
    rw [if_pos c13] at H
    have c13b0 : decide (x23_1 < (t518.length : Int)) = true := decide_eq_true c13
    clear c13
    by_cases c14 : 0 ≤ x23_1
    ·
     rw [if_pos c14] at H
     have c14b0 : decide (0 ≤ x23_1) = true := decide_eq_true c14
     clear c14
     by_cases c15 : x23_1 < (t518.length : Int)
     ·
      rw [if_pos c15] at H
      have c15b0 : decide (x23_1 < (t518.length : Int)) = true := decide_eq_true c15
      clear c15
      by_cases c16 : x23_1 < (t524.length : Int)
      ·
       rw [if_pos c16] at H
       have c16b0 : decide (x23_1 < (t524.length : Int)) = true := decide_eq_true c16
       clear c16
       by_cases c17 : (rd t518 x23_1) < (rd t524 x23_1)
       ·
        rw [if_pos c17] at H
        have c17b0 : decide ((rd t518 x23_1) < (rd t524 x23_1)) = true := decide_eq_true c17
        clear c17
        obtain rfl := Option.some.inj H
        have p530 : 0 ≤ (x23_1 : Int) := of_decide_eq_true (by first | (with_reducible assumption) | assumption)
        have q530 : x23_1 < (t518.length : Int) := of_decide_eq_true (by first | (with_reducible assumption) | assumption)
        obtain ⟨ad530, e530, hx530_0⟩ := Kd.at_int (Kd.R_reads' HO_21.out).2.2 x23_1 p530 q530
        cases e530
        replace p530 := eq_true p530
        replace q530 := eq_true q530
        obtain ⟨Ao18, co18, eo18⟩ := Kd.R_slice HO_7.out
        subst eo18
        have p531 : 0 ≤ (x23_1 : Int) := of_decide_eq_true (by first | (with_reducible assumption) | assumption)
        have q531 : x23_1 < (t524.length : Int) := of_decide_eq_true (by first | (with_reducible assumption) | assumption)
        obtain ⟨ad531, e531, hx531_0⟩ := Kd.at_int (Kd.R_reads' HO_7.out).2.2 x23_1 p531 q531
        cases e531
        replace p531 := eq_true p531
        replace q531 := eq_true q531
        go_wp2
        repeat (go_quiet (fail); try go_wp2)
        go_ret
        exact ⟨by first | rfl | (simp [errW_none, errW_some] <;> rfl) | (simp [*, errW_none, errW_some] <;> rfl), (zb1 HB)⟩
       ·
        rw [if_neg c17] at H
        have c17b0 : decide ((rd t518 x23_1) < (rd t524 x23_1)) = false := decide_eq_false c17
        clear c17
        by_cases c19 : x23_1 < (t521.length : Int)
        ·
         rw [if_pos c19] at H
         have c19b0 : decide (x23_1 < (t521.length : Int)) = true := decide_eq_true c19
         clear c19
         by_cases c20 : x23_1 < (t527.length : Int)
         ·
          rw [if_pos c20] at H
          have c20b0 : decide (x23_1 < (t527.length : Int)) = true := decide_eq_true c20
          clear c20
          by_cases c21 : (rd t521 x23_1) > (rd t527 x23_1)
          ·
           rw [if_pos c21] at H
           have c21b0 : decide ((rd t527 x23_1) < (rd t521 x23_1)) = true := decide_eq_true c21
           clear c21
           obtain rfl := Option.some.inj H
           have p530 : 0 ≤ (x23_1 : Int) := of_decide_eq_true (by first | (with_reducible assumption) | assumption)
           have q530 : x23_1 < (t518.length : Int) := of_decide_eq_true (by first | (with_reducible assumption) | assumption)
           obtain ⟨ad530, e530, hx530_0⟩ := Kd.at_int (Kd.R_reads' HO_21.out).2.2 x23_1 p530 q530
           cases e530
           replace p530 := eq_true p530
           replace q530 := eq_true q530
           obtain ⟨Ao22, co22, eo22⟩ := Kd.R_slice HO_7.out
           subst eo22
           have p531 : 0 ≤ (x23_1 : Int) := of_decide_eq_true (by first | (with_reducible assumption) | assumption)
           have q531 : x23_1 < (t524.length : Int) := of_decide_eq_true (by first | (with_reducible assumption) | assumption)
           obtain ⟨ad531, e531, hx531_0⟩ := Kd.at_int (Kd.R_reads' HO_7.out).2.2 x23_1 p531 q531
           cases e531
           replace p531 := eq_true p531
           replace q531 := eq_true q531
           obtain ⟨Ao23, co23, eo23⟩ := Kd.R_slice HO_6.out
           subst eo23
           have p532 : 0 ≤ (x23_1 : Int) := of_decide_eq_true (by first | (with_reducible assumption) | assumption)
           have q532 : x23_1 < (t521.length : Int) := of_decide_eq_true (by first | (with_reducible assumption) | assumption)
           obtain ⟨ad532, e532, hx532_0⟩ := Kd.at_int (Kd.R_reads' HO_6.out).2.2 x23_1 p532 q532
           cases e532
           replace p532 := eq_true p532
           replace q532 := eq_true q532
           obtain ⟨Ao24, co24, eo24⟩ := Kd.R_slice HO_8.out
           subst eo24
           have p533 : 0 ≤ (x23_1 : Int) := of_decide_eq_true (by first | (with_reducible assumption) | assumption)
           have q533 : x23_1 < (t527.length : Int) := of_decide_eq_true (by first | (with_reducible assumption) | assumption)
           obtain ⟨ad533, e533, hx533_0⟩ := Kd.at_int (Kd.R_reads' HO_8.out).2.2 x23_1 p533 q533
           cases e533
           replace p533 := eq_true p533
           replace q533 := eq_true q533
           go_wp2
           repeat (go_quiet (fail); try go_wp2)
           go_ret
           exact ⟨by first | rfl | (simp [errW_none, errW_some] <;> rfl) | (simp [*, errW_none, errW_some] <;> rfl), (zb1 HB)⟩
          ·
           rw [if_neg c21] at H
           have c21b0 : decide ((rd t527 x23_1) < (rd t521 x23_1)) = false := decide_eq_false c21
           clear c21
           have H' := Aside0.mk H
           clear H
           have p530 : 0 ≤ (x23_1 : Int) := of_decide_eq_true (by first | (with_reducible assumption) | assumption)
           have q530 : x23_1 < (t518.length : Int) := of_decide_eq_true (by first | (with_reducible assumption) | assumption)
           obtain ⟨ad530, e530, hx530_0⟩ := Kd.at_int (Kd.R_reads' HO_21.out).2.2 x23_1 p530 q530
           cases e530
           replace p530 := eq_true p530
           replace q530 := eq_true q530
           obtain ⟨Ao25, co25, eo25⟩ := Kd.R_slice HO_7.out
           subst eo25
           have p531 : 0 ≤ (x23_1 : Int) := of_decide_eq_true (by first | (with_reducible assumption) | assumption)
           have q531 : x23_1 < (t524.length : Int) := of_decide_eq_true (by first | (with_reducible assumption) | assumption)
           obtain ⟨ad531, e531, hx531_0⟩ := Kd.at_int (Kd.R_reads' HO_7.out).2.2 x23_1 p531 q531
           cases e531
           replace p531 := eq_true p531
           replace q531 := eq_true q531
           obtain ⟨Ao26, co26, eo26⟩ := Kd.R_slice HO_6.out
           subst eo26
           have p532 : 0 ≤ (x23_1 : Int) := of_decide_eq_true (by first | (with_reducible assumption) | assumption)
           have q532 : x23_1 < (t521.length : Int) := of_decide_eq_true (by first | (with_reducible assumption) | assumption)
           obtain ⟨ad532, e532, hx532_0⟩ := Kd.at_int (Kd.R_reads' HO_6.out).2.2 x23_1 p532 q532
           cases e532
           replace p532 := eq_true p532
           replace q532 := eq_true q532
           obtain ⟨Ao27, co27, eo27⟩ := Kd.R_slice HO_8.out
           subst eo27
           have p533 : 0 ≤ (x23_1 : Int) := of_decide_eq_true (by first | (with_reducible assumption) | assumption)
           have q533 : x23_1 < (t527.length : Int) := of_decide_eq_true (by first | (with_reducible assumption) | assumption)
           obtain ⟨ad533, e533, hx533_0⟩ := Kd.at_int (Kd.R_reads' HO_8.out).2.2 x23_1 p533 q533
           cases e533
           replace p533 := eq_true p533
           replace q533 := eq_true q533
           go_wp2
           repeat (go_quiet (fail); try go_wp2)
           go_roundg k1
           case measure => have := HK1.out; omega
           case rel => exact ⟨(wrap64 (x23_1 + 1)), (by first | rfl | (simp; done) | (simp [*]; done)), H', ⟨by have := HK1.out; omega⟩, ⟨by (with_reducible repeat (first | apply Kd.R_alloc | apply Kd.R_drewN | apply Kd.R_drew)); exact HO_6.out⟩, ⟨by (with_reducible repeat (first | apply Kd.R_alloc | apply Kd.R_drewN | apply Kd.R_drew)); exact HO_7.out⟩, ⟨by (with_reducible repeat (first | apply Kd.R_alloc | apply Kd.R_drewN | apply Kd.R_drew)); exact HO_8.out⟩, ⟨by (with_reducible repeat (first | apply Kd.R_alloc | apply Kd.R_drewN | apply Kd.R_drew)); exact HO_21.out⟩, ⟨by (with_reducible repeat (first | refine blk_drewN ?_ _ | refine blk_drew ?_ | refine blk_alloc ?_ _)); exact BK516.out⟩, ⟨by (with_reducible repeat (first | refine blk_drewN ?_ _ | refine blk_drew ?_ | refine blk_alloc ?_ _)); exact BK517.out⟩, ⟨(zb1 HB)⟩⟩
         ·
          rw [if_neg c20] at H
          exact absurd H (by simp)
        ·
         rw [if_neg c19] at H
         exact absurd H (by simp)
      ·
       rw [if_neg c16] at H
       exact absurd H (by simp)
     ·
      rw [if_neg c15] at H
      exact absurd H (by simp)
    ·
     rw [if_neg c14] at H
     exact absurd H (by simp)
   ·
    rw [if_neg c13] at H
    have c13b0 : decide (x23_1 < (t518.length : Int)) = false := decide_eq_false c13
    clear c13
    obtain rfl := Option.some.inj H
    go_wp2
    repeat (go_quiet (fail); try go_wp2)
    go_ret
    exact ⟨by first | rfl | (simp [errW_none, errW_some] <;> rfl) | (simp [*, errW_none, errW_some] <;> rfl), (zb1 HB)⟩
end Go.Proofs.Ytgaoniapddpaaaa.PD
