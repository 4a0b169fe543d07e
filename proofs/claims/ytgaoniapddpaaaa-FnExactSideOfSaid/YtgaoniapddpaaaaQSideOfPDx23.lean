-- By wip/mk/drv.py
import Derived.Test.YtgaoniapddpaaaaQSideOfPDx0
import Derived.Test.YtgaoniapddpaaaaQSideOfPDx1
import Derived.Test.YtgaoniapddpaaaaQSideOfPDx2
import Derived.Test.YtgaoniapddpaaaaQSideOfPDx8
import Derived.Test.YtgaoniapddpaaaaQSideOfPDx22
import Derived.Test.YtgaoniapddpaaaaQSideOfPDx25
namespace Go.Proofs.Ytgaoniapddpaaaa.PD
open Go.RowKit Go.Proofs.YtgaoniapddpaaaaW.PrintWords Go.Proofs.YtgaoniapddpaaaaW.PrintLast Go.Proofs.YtgaoniapddpaaaaW.PrintMore
attribute [local go_sem] max2_int min2_int max_two min_two max_three min_three max_four min_four
set_option linter.unusedVariables false
set_option linter.unusedSimpArgs false
/-! ### impl_SideOf: function 24 -/
theorem z24_0 {P Q : Prop} (h : Aside0 (Q)) (f : Q → P := by intro h_; repeat (first | (with_reducible first | exact h_ | apply IsS27.alloc | apply IsS27.drewN | apply IsS27.drew | apply IsS27.set_0 | refine IsS27.far ?_ (Aside0.out (by assumption)) _) | exact h_)) : P := f h.out
theorem z24_1 {w W0 W1 : World} {B : Nat} (h : Aside0 (Below B w W0)) (f : Below B w W0 → Below B w W1 := by intro h_; repeat (first | (with_reducible first | exact h_ | apply below_alloc | apply pw_below_drewN | apply below_drew1 | refine below_set ?_ (IsS27.ge (Aside0.out (by assumption))) | refine below_set ?_ (Aside0.out (by assumption))) | exact h_)) : Below B w W1 := f h.out
set_option maxHeartbeats 8000000 in
set_option maxRecDepth 100000 in
theorem impl_SideOf.calls (k : Nat) (a0_0 : Int) (A0_1 : Option Addr) (c0_1 : Nat) (l0_1 : List Int) (A0_2 : Option Addr) (c0_2 : Nat) (l0_2 : List Int) (a1 : Int) (r1 : Int) (r2 : Int) (r3 : Int) (r4 : Int) (r5 : Bool) (w : World) (hr0_1 : Kd.C (Kd.int .i64) w A0_1 l0_1.length l0_1) (hc0_1 : l0_1.length ≤ c0_1) (hr0_2 : Kd.C (Kd.int .i64) w A0_2 l0_2.length l0_2) (hc0_2 : l0_2.length ≤ c0_2) (h : impl_SideOf.f k a0_0 l0_1 l0_2 a1 = some (r1, r2, r3, r4, r5)) :
  Calls Try.prog 24 #[.agg #[.int .i64 a0_0, .slice A0_1 l0_1.length c0_1, .slice A0_2 l0_2.length c0_2], .int .i64 a1] w fun e w' => e = .returned (.tuple #[.agg #[.int .i64 r1, .int .i64 r2], .agg #[.int .i64 r3, .int .i64 r4], .bool r5]) ∧ Below w.heap.size w w' := by
 have hu27 := Try.underlying27
 have hu37 := Try.underlying37
 have HR0_1 := Aside0.mk hr0_1
 have HC0_1 := Aside0.mk hc0_1
 clear hr0_1 hc0_1
 have HR0_2 := Aside0.mk hr0_2
 have HC0_2 := Aside0.mk hc0_2
 clear hr0_2 hc0_2
 have HB := Aside0.mk (Below.refl w.heap.size w)
 have H : ((impl_isBox.f k a0_0 l0_1 l0_2).bind fun bt280 => (if bt280.1 = true then ((impl_Box_has.f bt280.2 l0_1 l0_2 a1).bind fun bt282 => (if bt282.1 = true then ((impl_Box_side.f k bt282.2 l0_1 l0_2 a1).bind fun bt284 => (some (bt284.1, bt284.2.1, bt284.2.2.1, bt284.2.2.2.1, true))) else (some (0, 0, 0, 0, false)))) else (some (0, 0, 0, 0, false)))) = some (r1, r2, r3, r4, r5) := h
 clear h
 replace H := Option.bind_eq_some_iff.mp H
 obtain ⟨⟨t280, t281⟩, A30, H⟩ := H
 replace H : (if t280 = true then ((impl_Box_has.f t281 l0_1 l0_2 a1).bind fun bt282 => (if bt282.1 = true then ((impl_Box_side.f k bt282.2 l0_1 l0_2 a1).bind fun bt284 => (some (bt284.1, bt284.2.1, bt284.2.2.1, bt284.2.2.2.1, true))) else (some (0, 0, 0, 0, false)))) else (some (0, 0, 0, 0, false))) = some (r1, r2, r3, r4, r5) := H
 have A3 := Aside0.mk A30
 clear A30
 by_cases c4 : t280 = true
 ·
  subst c4
  have H1 : ((impl_Box_has.f t281 l0_1 l0_2 a1).bind fun bt282 => (if bt282.1 = true then ((impl_Box_side.f k bt282.2 l0_1 l0_2 a1).bind fun bt284 => (some (bt284.1, bt284.2.1, bt284.2.2.1, bt284.2.2.2.1, true))) else (some (0, 0, 0, 0, false)))) = some (r1, r2, r3, r4, r5) := by rw [if_pos rfl] at H; exact H
  clear H
  have H := H1
  clear H1
  replace H := Option.bind_eq_some_iff.mp H
  obtain ⟨⟨t282, t283⟩, A50, H⟩ := H
  replace H : (if t282 = true then ((impl_Box_side.f k t283 l0_1 l0_2 a1).bind fun bt284 => (some (bt284.1, bt284.2.1, bt284.2.2.1, bt284.2.2.2.1, true))) else (some (0, 0, 0, 0, false))) = some (r1, r2, r3, r4, r5) := H
  have A5 := Aside0.mk A50
  clear A50
  by_cases c6 : t282 = true
  ·
   subst c6
   have H1 : ((impl_Box_side.f k t283 l0_1 l0_2 a1).bind fun bt284 => (some (bt284.1, bt284.2.1, bt284.2.2.1, bt284.2.2.2.1, true))) = some (r1, r2, r3, r4, r5) := by rw [if_pos rfl] at H; exact H
   clear H
   have H := H1
   clear H1
   replace H := Option.bind_eq_some_iff.mp H
   obtain ⟨⟨t284, t285, t286, t287, t288⟩, A70, H⟩ := H
   replace H : (some (t284, t285, t286, t287, true)) = some (r1, r2, r3, r4, r5) := H
   have A7 := Aside0.mk A70
   clear A70
   simp only [Option.some.injEq, Prod.mk.injEq] at H
   obtain ⟨rfl, rfl, rfl, rfl, rfl⟩ := H
   go_enter Try.func24, Try.ntmps24
   try go_wp2_with (first | ((with_reducible refine gate_dst (N := 2) rfl ?_); refine zbe (N := 2) (cs := #[.int .i64 a0_0, .slice A0_1 l0_1.length c0_1, .slice A0_2 l0_2.length c0_2]) (t := 27) ?_; intro gb277 hg w8 hbox hb; have BK277 := Aside0.mk (hbox); have GW277 := Aside0.mk (zge (zb0 HB) hg); have GE277 := GW277; replace HB := Aside0.mk (below_step (zb0 HB) hb); clear hb hbox hg) | ((with_reducible refine gate_dst (N := 4) rfl ?_); refine zbe (N := 4) (cs := #[.int .i64 0, .int .i64 0]) (t := 37) ?_; intro gb278 hg w9 hbox hb; have BK278 := Aside0.mk (hbox); have GW278 := Aside0.mk (zge (zb1 HB) hg); have GE278 := GW278; have NB277_278 := Aside0.mk (zlt BK277 hg); have NB278_277 := Aside0.mk (zgt BK277 hg); replace BK277 := Aside0.mk (zbb BK277 hb); replace HB := Aside0.mk (below_step (zb1 HB) hb); clear hb hbox hg) | ((with_reducible refine gate_dst (N := 5) rfl ?_); refine zbe (N := 5) (cs := #[.int .i64 0, .int .i64 0]) (t := 37) ?_; intro gb279 hg w10 hbox hb; have BK279 := Aside0.mk (hbox); have GW279 := Aside0.mk (zge (zb1 HB) hg); have GE279 := GW279; have NB277_279 := Aside0.mk (zlt BK277 hg); have NB279_277 := Aside0.mk (zgt BK277 hg); have NB278_279 := Aside0.mk (zlt BK278 hg); have NB279_278 := Aside0.mk (zgt BK278 hg); replace BK277 := Aside0.mk (zbb BK277 hb); replace BK278 := Aside0.mk (zbb BK278 hb); replace HB := Aside0.mk (below_step (zb1 HB) hb); clear hb hbox hg; have HI277 : Aside0 (IsS27 w w10 gb277 a0_0 l0_1 l0_2) := ⟨⟨A0_1, c0_1, A0_2, c0_2, (zq1 BK277), GE277.out, HR0_1.out, HR0_2.out⟩⟩) | ((with_reducible refine gate_callee (f := 57) rfl ?_); refine goesL_ (some 9) rfl rfl Try.func57 (by kernel_rfl) rfl #[.pointer (some ⟨gb277, 0, none⟩)] rfl zq6 ?_; (with_reducible refine (impl_isBox.calls k gb277 a0_0 l0_1 l0_2 true t281 w _ ?side1 ?side2 A3.out).mono ?_); (case side1 => exact z24_0 HI277); (case side2 => exact z24_1 HB); rintro e w11 ⟨rfl, hi, hb, hk⟩; refine ⟨_, rfl, ?_⟩; replace BK278 := Aside0.mk (KeepBut.blk hk (zq1 BK278) NB278_277.out (by simp)); replace BK279 := Aside0.mk (KeepBut.blk hk (zq1 BK279) NB279_277.out (by simp)); replace HB := Aside0.mk (hb); replace HI277 := Aside0.mk (hi); (try clear hb); (try clear hb2); (try clear hk); (try clear hi)) | (go_at_call 65; (with_reducible refine (impl_Box_has.calls gb277 t281 l0_1 l0_2 a1 true t283 w _ ?side1 ?side2 A5.out).mono ?_); (case side1 => exact z24_0 HI277); (case side2 => exact z24_1 HB); rintro e w12 ⟨rfl, hi, hb, hk⟩; replace BK278 := Aside0.mk (KeepBut.blk hk (zq1 BK278) NB278_277.out (by simp)); replace BK279 := Aside0.mk (KeepBut.blk hk (zq1 BK279) NB279_277.out (by simp)); replace HB := Aside0.mk (hb); replace HI277 := Aside0.mk (hi); (try clear hb); (try clear hb2); (try clear hk); (try clear hi)) | ((with_reducible refine gate_callee (f := 66) rfl ?_); refine goesL_ (some 20) rfl rfl Try.func66 (by kernel_rfl) rfl #[.pointer (some ⟨gb277, 0, none⟩), .int .i64 a1] rfl zq6 ?_; (with_reducible refine (impl_Box_side.calls k gb277 t283 l0_1 l0_2 a1 t284 t285 t286 t287 t288 w _ ?side1 ?side2 A7.out).mono ?_); (case side1 => exact z24_0 HI277); (case side2 => exact z24_1 HB); rintro e w13 ⟨rfl, hi, hb, hk⟩; refine ⟨_, rfl, ?_⟩; replace BK278 := Aside0.mk (KeepBut.blk hk (zq1 BK278) NB278_277.out (by simp)); replace BK279 := Aside0.mk (KeepBut.blk hk (zq1 BK279) NB279_277.out (by simp)); replace HB := Aside0.mk (hb); replace HI277 := Aside0.mk (hi); (try clear hb); (try clear hb2); (try clear hk); (try clear hi)) | ((with_reducible refine gate_dst (N := 7) rfl ?_); refine zbe (N := 7) (cs := #[.int .i64 0, .int .i64 0]) (t := 37) ?_; intro gb289 hg w14 hbox hb; have BK289 := Aside0.mk (hbox); have GW289 := Aside0.mk (zge (z24_1 HB) hg); have GE289 := GW289; have NB278_289 := Aside0.mk (zlt BK278 hg); have NB289_278 := Aside0.mk (zgt BK278 hg); have NB279_289 := Aside0.mk (zlt BK279 hg); have NB289_279 := Aside0.mk (zgt BK279 hg); have NB277_289 := Aside0.mk ((by rw [hg]; exact Nat.ne_of_lt (IsS27.lt (show IsS27 w _ gb277 t288 l0_1 l0_2 from (z24_0 HI277))) : gb277 ≠ gb289)); have NB289_277 := Aside0.mk ((by rw [hg]; exact Nat.ne_of_gt (IsS27.lt (show IsS27 w _ gb277 t288 l0_1 l0_2 from (z24_0 HI277))) : gb289 ≠ gb277)); replace HI277 := Aside0.mk (IsS27.below (z24_0 HI277) hb); replace BK278 := Aside0.mk (zbb BK278 hb); replace BK279 := Aside0.mk (zbb BK279 hb); replace HB := Aside0.mk (below_step (z24_1 HB) hb); clear hb hbox hg) | ((with_reducible refine gate_dst (N := 8) rfl ?_); refine zbe (N := 8) (cs := #[.int .i64 0, .int .i64 0]) (t := 37) ?_; intro gb290 hg w15 hbox hb; have BK290 := Aside0.mk (hbox); have GW290 := Aside0.mk (zge (z24_1 HB) hg); have GE290 := GW290; have NB278_290 := Aside0.mk (zlt BK278 hg); have NB290_278 := Aside0.mk (zgt BK278 hg); have NB279_290 := Aside0.mk (zlt BK279 hg); have NB290_279 := Aside0.mk (zgt BK279 hg); have NB289_290 := Aside0.mk (zlt BK289 hg); have NB290_289 := Aside0.mk (zgt BK289 hg); have NB277_290 := Aside0.mk ((by rw [hg]; exact Nat.ne_of_lt (IsS27.lt (show IsS27 w _ gb277 t288 l0_1 l0_2 from (z24_0 HI277))) : gb277 ≠ gb290)); have NB290_277 := Aside0.mk ((by rw [hg]; exact Nat.ne_of_gt (IsS27.lt (show IsS27 w _ gb277 t288 l0_1 l0_2 from (z24_0 HI277))) : gb290 ≠ gb277)); replace HI277 := Aside0.mk (IsS27.below (z24_0 HI277) hb); replace BK278 := Aside0.mk (zbb BK278 hb); replace BK279 := Aside0.mk (zbb BK279 hb); replace BK289 := Aside0.mk (zbb BK289 hb); replace HB := Aside0.mk (below_step (z24_1 HB) hb); clear hb hbox hg; have hnb16 := NB289_278.out; have hnc16 := NB278_289.out; have hnb17 := NB289_279.out; have hnc17 := NB279_289.out; have hnb18 := NB289_290.out; have hnc18 := NB290_289.out; have hnb19 := NB289_277.out; have hnc19 := NB277_289.out; have hcz20_0 : w15.cell? ⟨gb289, 0, none⟩ = some (.int .i64 0) := zc BK289 0; have hcz20_1 : w15.cell? ⟨gb289, 1, none⟩ = some (.int .i64 0) := zc BK289 1; have hfz20_0 := blk_frozen BK289.out 0; have hfz20_1 := blk_frozen BK289.out 1; have hnb21 := NB290_278.out; have hnc21 := NB278_290.out; have hnb22 := NB290_279.out; have hnc22 := NB279_290.out; have hnb23 := NB290_277.out; have hnc23 := NB277_290.out; have hcz24_0 : w15.cell? ⟨gb290, 0, none⟩ = some (.int .i64 0) := zc BK290 0; have hcz24_1 : w15.cell? ⟨gb290, 1, none⟩ = some (.int .i64 0) := zc BK290 1; have hfz24_0 := blk_frozen BK290.out 0; have hfz24_1 := blk_frozen BK290.out 1))
   have n0_ : Aside0 (((((w15.setCell ⟨gb289, 0, none⟩ (.int .i64 t284)).setCell ⟨gb289, 1, none⟩ (.int .i64 t285)).setCell ⟨gb290, 0, none⟩ (.int .i64 t286)).setCell ⟨gb290, 1, none⟩ (.int .i64 t287)).heap[gb278]? = some (.cells #[.int .i64 0, .int .i64 0] 37 (0, 0))) := ⟨zq5 BK278⟩
   have n1_ : Aside0 (((((w15.setCell ⟨gb289, 0, none⟩ (.int .i64 t284)).setCell ⟨gb289, 1, none⟩ (.int .i64 t285)).setCell ⟨gb290, 0, none⟩ (.int .i64 t286)).setCell ⟨gb290, 1, none⟩ (.int .i64 t287)).heap[gb279]? = some (.cells #[.int .i64 0, .int .i64 0] 37 (0, 0))) := ⟨zq5 BK279⟩
   have n2_ : Aside0 (((((w15.setCell ⟨gb289, 0, none⟩ (.int .i64 t284)).setCell ⟨gb289, 1, none⟩ (.int .i64 t285)).setCell ⟨gb290, 0, none⟩ (.int .i64 t286)).setCell ⟨gb290, 1, none⟩ (.int .i64 t287)).heap[gb289]? = some (.cells #[.int .i64 t284, .int .i64 t285] 37 (0, 0))) := ⟨by (with_reducible repeat (first | refine blk_drewN ?_ _ | refine blk_drew ?_ | refine blk_alloc ?_ _)); refine blk_far ?_ NB289_290.out _; (with_reducible repeat (first | refine blk_drewN ?_ _ | refine blk_drew ?_ | refine blk_alloc ?_ _)); refine blk_far ?_ NB289_290.out _; (with_reducible repeat (first | refine blk_drewN ?_ _ | refine blk_drew ?_ | refine blk_alloc ?_ _)); refine blk_put (cs := #[.int .i64 t284, .int .i64 0]) ?_ 1 _ rfl; (with_reducible repeat (first | refine blk_drewN ?_ _ | refine blk_drew ?_ | refine blk_alloc ?_ _)); refine blk_put (cs := #[.int .i64 0, .int .i64 0]) ?_ 0 _ rfl; (with_reducible repeat (first | refine blk_drewN ?_ _ | refine blk_drew ?_ | refine blk_alloc ?_ _)); exact BK289.out⟩
   have n3_ : Aside0 (((((w15.setCell ⟨gb289, 0, none⟩ (.int .i64 t284)).setCell ⟨gb289, 1, none⟩ (.int .i64 t285)).setCell ⟨gb290, 0, none⟩ (.int .i64 t286)).setCell ⟨gb290, 1, none⟩ (.int .i64 t287)).heap[gb290]? = some (.cells #[.int .i64 t286, .int .i64 t287] 37 (0, 0))) := ⟨by (with_reducible repeat (first | refine blk_drewN ?_ _ | refine blk_drew ?_ | refine blk_alloc ?_ _)); refine blk_put (cs := #[.int .i64 t286, .int .i64 0]) ?_ 1 _ rfl; (with_reducible repeat (first | refine blk_drewN ?_ _ | refine blk_drew ?_ | refine blk_alloc ?_ _)); refine blk_put (cs := #[.int .i64 0, .int .i64 0]) ?_ 0 _ rfl; (with_reducible repeat (first | refine blk_drewN ?_ _ | refine blk_drew ?_ | refine blk_alloc ?_ _)); refine blk_far ?_ NB290_289.out _; (with_reducible repeat (first | refine blk_drewN ?_ _ | refine blk_drew ?_ | refine blk_alloc ?_ _)); refine blk_far ?_ NB290_289.out _; (with_reducible repeat (first | refine blk_drewN ?_ _ | refine blk_drew ?_ | refine blk_alloc ?_ _)); exact BK290.out⟩
   have n4_ : Aside0 (IsS27 w ((((w15.setCell ⟨gb289, 0, none⟩ (.int .i64 t284)).setCell ⟨gb289, 1, none⟩ (.int .i64 t285)).setCell ⟨gb290, 0, none⟩ (.int .i64 t286)).setCell ⟨gb290, 1, none⟩ (.int .i64 t287)) gb277 t288 l0_1 l0_2) := ⟨(z24_0 HI277)⟩
   have n5_ : Aside0 (Below w.heap.size w ((((w15.setCell ⟨gb289, 0, none⟩ (.int .i64 t284)).setCell ⟨gb289, 1, none⟩ (.int .i64 t285)).setCell ⟨gb290, 0, none⟩ (.int .i64 t286)).setCell ⟨gb290, 1, none⟩ (.int .i64 t287))) := ⟨(z24_1 HB)⟩
   (try clear BK278)
   (try clear BK279)
   (try clear BK289)
   (try clear BK290)
   (try clear HI277)
   (try clear HB)
   generalize ((((w15.setCell ⟨gb289, 0, none⟩ (.int .i64 t284)).setCell ⟨gb289, 1, none⟩ (.int .i64 t285)).setCell ⟨gb290, 0, none⟩ (.int .i64 t286)).setCell ⟨gb290, 1, none⟩ (.int .i64 t287)) = w25 at n0_ n1_ n2_ n3_ n4_ n5_ ⊢
   have BK278 := n0_; have BK279 := n1_; have BK289 := n2_; have BK290 := n3_; have HI277 := n4_; have HB := n5_
   clear n0_ n1_ n2_ n3_ n4_ n5_
   replace BK278 := Aside0.mk (blk_drew BK278.out); replace BK279 := Aside0.mk (blk_drew BK279.out); replace BK289 := Aside0.mk (blk_drew BK289.out); replace BK290 := Aside0.mk (blk_drew BK290.out); replace HI277 := Aside0.mk (IsS27.drew HI277.out); replace HB := Aside0.mk (below_drew1 HB.out)
   refine start_ (n := 5) (S := fun w' => w'.cell? ⟨gb289, 0, none⟩ = some (.int .i64 t284) ∧ w'.cell? ⟨gb289, 1, none⟩ = some (.int .i64 t285) ∧ w'.cell? ⟨gb290, 0, none⟩ = some (.int .i64 t286) ∧ w'.cell? ⟨gb290, 1, none⟩ = some (.int .i64 t287)) (ds := []) #[false, false, false, false, false] (by kernel_rfl) rfl rfl ⟨zc BK289 0, zc BK289 1, zc BK290 0, zc BK290 1⟩ (fun hHeld => ?_)
   generalize w25.drew = w26 at BK278 BK279 BK289 BK290 HI277 HB hHeld ⊢
   refine take_ (i := 0) (N := some 23) (v := ?_) (a' := ?_) #[true, false, false, false, false] rfl rfl (by kernel_rfl) (fun _ _ _ h => h) (Or.inl ⟨by rfl, ?_⟩) hHeld ?_ ?_
   rotate_left
   ·
    rintro w' ⟨s0, s1, s2, s3⟩
    go_simp
    with_reducible rfl
   rotate_left
   ·
    simp only [Act.put, List.setIfInBounds_toArray, List.set_cons_zero, List.set_cons_succ, i64_w, i32_w]
    rfl
   refine take_ (i := 1) (N := some 24) (v := ?_) (a' := ?_) #[true, true, false, false, false] rfl rfl (by kernel_rfl) (fun _ _ _ h => h) (Or.inl ⟨by rfl, ?_⟩) hHeld ?_ ?_
   rotate_left
   ·
    rintro w' ⟨s0, s1, s2, s3⟩
    go_simp
    with_reducible rfl
   rotate_left
   ·
    simp only [Act.put, List.setIfInBounds_toArray, List.set_cons_zero, List.set_cons_succ, i64_w, i32_w]
    rfl
   refine one_ (i := 2) (N := none) #[true, true, true, false, false] rfl rfl (by kernel_rfl) (by decide) (fun K hK => ?_)
   have hs27 : w26.cell? ⟨gb278, 0, none⟩ = some (.int .i64 0) := zc BK278 0
   have hfs27 := blk_frozen BK278.out 0
   have hns27_1 := NB279_278.out
   have hns27_2 := NB289_278.out
   have hns27_3 := NB290_278.out
   have hms27_1 := NB278_279.out
   have hms27_2 := NB278_289.out
   have hms27_3 := NB278_290.out
   have hs28 : w26.cell? ⟨gb278, 1, none⟩ = some (.int .i64 0) := zc BK278 1
   have hfs28 := blk_frozen BK278.out 1
   have hns28_1 := NB279_278.out
   have hns28_2 := NB289_278.out
   have hns28_3 := NB290_278.out
   have hms28_1 := NB278_279.out
   have hms28_2 := NB278_289.out
   have hms28_3 := NB278_290.out
   refine skip_ (w1 := ?_) (by rfl) rfl ?_ ?_
   rotate_left
   ·
    go_simp
    rfl
   refine hK.out _ _ ⟨((cell_far (p := ⟨gb278, _, none⟩) NB289_278.out _).trans (((cell_far (p := ⟨gb278, _, none⟩) NB289_278.out _).trans (hHeld.1)))), ((cell_far (p := ⟨gb278, _, none⟩) NB289_278.out _).trans (((cell_far (p := ⟨gb278, _, none⟩) NB289_278.out _).trans (hHeld.2.1)))), ((cell_far (p := ⟨gb278, _, none⟩) NB290_278.out _).trans (((cell_far (p := ⟨gb278, _, none⟩) NB290_278.out _).trans (hHeld.2.2.1)))), ((cell_far (p := ⟨gb278, _, none⟩) NB290_278.out _).trans (((cell_far (p := ⟨gb278, _, none⟩) NB290_278.out _).trans (hHeld.2.2.2))))⟩ (fun hHeld => ?_)
   clear hK K
   refine one_ (i := 3) (N := none) #[true, true, true, true, false] rfl rfl (by kernel_rfl) (by decide) (fun K hK => ?_)
   have hs29 : w26.cell? ⟨gb279, 0, none⟩ = some (.int .i64 0) := zc BK279 0
   have hfs29 := blk_frozen BK279.out 0
   have hns29_0 := NB278_279.out
   have hns29_2 := NB289_279.out
   have hns29_3 := NB290_279.out
   have hms29_0 := NB279_278.out
   have hms29_2 := NB279_289.out
   have hms29_3 := NB279_290.out
   have hs30 : w26.cell? ⟨gb279, 1, none⟩ = some (.int .i64 0) := zc BK279 1
   have hfs30 := blk_frozen BK279.out 1
   have hns30_0 := NB278_279.out
   have hns30_2 := NB289_279.out
   have hns30_3 := NB290_279.out
   have hms30_0 := NB279_278.out
   have hms30_2 := NB279_289.out
   have hms30_3 := NB279_290.out
   refine skip_ (w1 := ?_) (by rfl) rfl ?_ ?_
   rotate_left
   ·
    go_simp
    rfl
   refine hK.out _ _ ⟨((cell_far (p := ⟨gb279, _, none⟩) NB289_279.out _).trans (((cell_far (p := ⟨gb279, _, none⟩) NB289_279.out _).trans (hHeld.1)))), ((cell_far (p := ⟨gb279, _, none⟩) NB289_279.out _).trans (((cell_far (p := ⟨gb279, _, none⟩) NB289_279.out _).trans (hHeld.2.1)))), ((cell_far (p := ⟨gb279, _, none⟩) NB290_279.out _).trans (((cell_far (p := ⟨gb279, _, none⟩) NB290_279.out _).trans (hHeld.2.2.1)))), ((cell_far (p := ⟨gb279, _, none⟩) NB290_279.out _).trans (((cell_far (p := ⟨gb279, _, none⟩) NB290_279.out _).trans (hHeld.2.2.2))))⟩ (fun hHeld => ?_)
   clear hK K
   refine pure_ (i := 4) (N := some 6) (v := ?_) (a' := ?_) #[true, true, true, true, true] rfl rfl (by kernel_rfl) (fun _ _ _ h => h) (Or.inl ⟨by rfl, ?_⟩) ?_ ?_
   rotate_left
   ·
    intro w'
    go_simp
    with_reducible rfl
   rotate_left
   ·
    simp only [Act.put, List.setIfInBounds_toArray, List.set_cons_zero, List.set_cons_succ, i64_w, i32_w]
    rfl
   refine done_ (by kernel_rfl) ?_
   try go_wp2
   refine bodyPost_ret (results_list (rs := [.cell 4 37, .cell 5 37, .tmp 6]) rfl (by simp) (.cell gb278 37 #[.int .i64 t284, .int .i64 t285] (0, 0) _ rfl (by (with_reducible repeat (first | refine blk_drewN ?_ _ | refine blk_drew ?_ | refine blk_alloc ?_ _)); refine blk_far ?_ NB278_279.out _; (with_reducible repeat (first | refine blk_drewN ?_ _ | refine blk_drew ?_ | refine blk_alloc ?_ _)); refine blk_far ?_ NB278_279.out _; (with_reducible repeat (first | refine blk_drewN ?_ _ | refine blk_drew ?_ | refine blk_alloc ?_ _)); refine blk_put (cs := #[.int .i64 t284, .int .i64 0]) ?_ 1 _ rfl; (with_reducible repeat (first | refine blk_drewN ?_ _ | refine blk_drew ?_ | refine blk_alloc ?_ _)); refine blk_put (cs := #[.int .i64 0, .int .i64 0]) ?_ 0 _ rfl; (with_reducible repeat (first | refine blk_drewN ?_ _ | refine blk_drew ?_ | refine blk_alloc ?_ _)); exact BK278.out) Try.underlying37 rfl (by kernel_rfl) (.cell gb279 37 #[.int .i64 t286, .int .i64 t287] (0, 0) _ rfl (by (with_reducible repeat (first | refine blk_drewN ?_ _ | refine blk_drew ?_ | refine blk_alloc ?_ _)); refine blk_put (cs := #[.int .i64 t286, .int .i64 0]) ?_ 1 _ rfl; (with_reducible repeat (first | refine blk_drewN ?_ _ | refine blk_drew ?_ | refine blk_alloc ?_ _)); refine blk_put (cs := #[.int .i64 0, .int .i64 0]) ?_ 0 _ rfl; (with_reducible repeat (first | refine blk_drewN ?_ _ | refine blk_drew ?_ | refine blk_alloc ?_ _)); refine blk_far ?_ NB279_278.out _; (with_reducible repeat (first | refine blk_drewN ?_ _ | refine blk_drew ?_ | refine blk_alloc ?_ _)); refine blk_far ?_ NB279_278.out _; (with_reducible repeat (first | refine blk_drewN ?_ _ | refine blk_drew ?_ | refine blk_alloc ?_ _)); exact BK279.out) Try.underlying37 rfl (by kernel_rfl) (.tmp .nil)))) rfl ?_
   exact ⟨by first | rfl | (simp [errW_none, errW_some] <;> rfl) | (simp [*, errW_none, errW_some] <;> rfl), (z24_1 HB)⟩
  ·
   replace c6 := Bool.eq_false_iff.mpr c6
   subst c6
   have H1 : (some (0, 0, 0, 0, false)) = some (r1, r2, r3, r4, r5) := by rw [if_neg (show ¬ (false = true) by decide)] at H; exact H
   clear H
   have H := H1
   clear H1
   simp only [Option.some.injEq, Prod.mk.injEq] at H
   obtain ⟨rfl, rfl, rfl, rfl, rfl⟩ := H
   go_enter Try.func24, Try.ntmps24
   go_wp2_with (first | ((with_reducible refine gate_dst (N := 2) rfl ?_); refine zbe (N := 2) (cs := #[.int .i64 a0_0, .slice A0_1 l0_1.length c0_1, .slice A0_2 l0_2.length c0_2]) (t := 27) ?_; intro gb277 hg w31 hbox hb; have BK277 := Aside0.mk (hbox); have GW277 := Aside0.mk (zge (zb0 HB) hg); have GE277 := GW277; replace HB := Aside0.mk (below_step (zb0 HB) hb); clear hb hbox hg) | ((with_reducible refine gate_dst (N := 4) rfl ?_); refine zbe (N := 4) (cs := #[.int .i64 0, .int .i64 0]) (t := 37) ?_; intro gb278 hg w32 hbox hb; have BK278 := Aside0.mk (hbox); have GW278 := Aside0.mk (zge (zb1 HB) hg); have GE278 := GW278; have NB277_278 := Aside0.mk (zlt BK277 hg); have NB278_277 := Aside0.mk (zgt BK277 hg); replace BK277 := Aside0.mk (zbb BK277 hb); replace HB := Aside0.mk (below_step (zb1 HB) hb); clear hb hbox hg) | ((with_reducible refine gate_dst (N := 5) rfl ?_); refine zbe (N := 5) (cs := #[.int .i64 0, .int .i64 0]) (t := 37) ?_; intro gb279 hg w33 hbox hb; have BK279 := Aside0.mk (hbox); have GW279 := Aside0.mk (zge (zb1 HB) hg); have GE279 := GW279; have NB277_279 := Aside0.mk (zlt BK277 hg); have NB279_277 := Aside0.mk (zgt BK277 hg); have NB278_279 := Aside0.mk (zlt BK278 hg); have NB279_278 := Aside0.mk (zgt BK278 hg); replace BK277 := Aside0.mk (zbb BK277 hb); replace BK278 := Aside0.mk (zbb BK278 hb); replace HB := Aside0.mk (below_step (zb1 HB) hb); clear hb hbox hg; have HI277 : Aside0 (IsS27 w w33 gb277 a0_0 l0_1 l0_2) := ⟨⟨A0_1, c0_1, A0_2, c0_2, (zq1 BK277), GE277.out, HR0_1.out, HR0_2.out⟩⟩) | ((with_reducible refine gate_callee (f := 57) rfl ?_); refine goesL_ (some 9) rfl rfl Try.func57 (by kernel_rfl) rfl #[.pointer (some ⟨gb277, 0, none⟩)] rfl zq6 ?_; (with_reducible refine (impl_isBox.calls k gb277 a0_0 l0_1 l0_2 true t281 w _ ?side1 ?side2 A3.out).mono ?_); (case side1 => exact z24_0 HI277); (case side2 => exact z24_1 HB); rintro e w34 ⟨rfl, hi, hb, hk⟩; refine ⟨_, rfl, ?_⟩; replace BK278 := Aside0.mk (KeepBut.blk hk (zq1 BK278) NB278_277.out (by simp)); replace BK279 := Aside0.mk (KeepBut.blk hk (zq1 BK279) NB279_277.out (by simp)); replace HB := Aside0.mk (hb); replace HI277 := Aside0.mk (hi); (try clear hb); (try clear hb2); (try clear hk); (try clear hi)) | (go_at_call 65; (with_reducible refine (impl_Box_has.calls gb277 t281 l0_1 l0_2 a1 false t283 w _ ?side1 ?side2 A5.out).mono ?_); (case side1 => exact z24_0 HI277); (case side2 => exact z24_1 HB); rintro e w35 ⟨rfl, hi, hb, hk⟩; replace BK278 := Aside0.mk (KeepBut.blk hk (zq1 BK278) NB278_277.out (by simp)); replace BK279 := Aside0.mk (KeepBut.blk hk (zq1 BK279) NB279_277.out (by simp)); replace HB := Aside0.mk (hb); replace HI277 := Aside0.mk (hi); (try clear hb); (try clear hb2); (try clear hk); (try clear hi); have hnb36 := NB278_279.out; have hnc36 := NB279_278.out; have hnb37 := NB278_277.out; have hnc37 := NB277_278.out; have hcz38_0 : w35.cell? ⟨gb278, 0, none⟩ = some (.int .i64 0) := zc BK278 0; have hcz38_1 : w35.cell? ⟨gb278, 1, none⟩ = some (.int .i64 0) := zc BK278 1; have hfz38_0 := blk_frozen BK278.out 0; have hfz38_1 := blk_frozen BK278.out 1; have hnb39 := NB279_277.out; have hnc39 := NB277_279.out; have hcz40_0 : w35.cell? ⟨gb279, 0, none⟩ = some (.int .i64 0) := zc BK279 0; have hcz40_1 : w35.cell? ⟨gb279, 1, none⟩ = some (.int .i64 0) := zc BK279 1; have hfz40_0 := blk_frozen BK279.out 0; have hfz40_1 := blk_frozen BK279.out 1))
   refine bodyPost_ret (results_list (rs := [.cell 4 37, .cell 5 37, .tmp 6]) rfl (by simp) (.cell gb278 37 #[.int .i64 0, .int .i64 0] (0, 0) _ rfl (by (with_reducible repeat (first | refine blk_drewN ?_ _ | refine blk_drew ?_ | refine blk_alloc ?_ _)); refine blk_far ?_ NB278_279.out _; (with_reducible repeat (first | refine blk_drewN ?_ _ | refine blk_drew ?_ | refine blk_alloc ?_ _)); refine blk_far ?_ NB278_279.out _; (with_reducible repeat (first | refine blk_drewN ?_ _ | refine blk_drew ?_ | refine blk_alloc ?_ _)); refine blk_put (cs := #[.int .i64 0, .int .i64 0]) ?_ 1 _ rfl; (with_reducible repeat (first | refine blk_drewN ?_ _ | refine blk_drew ?_ | refine blk_alloc ?_ _)); refine blk_put (cs := #[.int .i64 0, .int .i64 0]) ?_ 0 _ rfl; (with_reducible repeat (first | refine blk_drewN ?_ _ | refine blk_drew ?_ | refine blk_alloc ?_ _)); exact BK278.out) Try.underlying37 rfl (by kernel_rfl) (.cell gb279 37 #[.int .i64 0, .int .i64 0] (0, 0) _ rfl (by (with_reducible repeat (first | refine blk_drewN ?_ _ | refine blk_drew ?_ | refine blk_alloc ?_ _)); refine blk_put (cs := #[.int .i64 0, .int .i64 0]) ?_ 1 _ rfl; (with_reducible repeat (first | refine blk_drewN ?_ _ | refine blk_drew ?_ | refine blk_alloc ?_ _)); refine blk_put (cs := #[.int .i64 0, .int .i64 0]) ?_ 0 _ rfl; (with_reducible repeat (first | refine blk_drewN ?_ _ | refine blk_drew ?_ | refine blk_alloc ?_ _)); refine blk_far ?_ NB279_278.out _; (with_reducible repeat (first | refine blk_drewN ?_ _ | refine blk_drew ?_ | refine blk_alloc ?_ _)); refine blk_far ?_ NB279_278.out _; (with_reducible repeat (first | refine blk_drewN ?_ _ | refine blk_drew ?_ | refine blk_alloc ?_ _)); exact BK279.out) Try.underlying37 rfl (by kernel_rfl) (.tmp .nil)))) rfl ?_
   exact ⟨by first | rfl | (simp [errW_none, errW_some] <;> rfl) | (simp [*, errW_none, errW_some] <;> rfl), (z24_1 HB)⟩
 ·
  replace c4 := Bool.eq_false_iff.mpr c4
  subst c4
  have H1 : (some (0, 0, 0, 0, false)) = some (r1, r2, r3, r4, r5) := by rw [if_neg (show ¬ (false = true) by decide)] at H; exact H
  clear H
  have H := H1
  clear H1
  simp only [Option.some.injEq, Prod.mk.injEq] at H
  obtain ⟨rfl, rfl, rfl, rfl, rfl⟩ := H
  go_enter Try.func24, Try.ntmps24
  go_wp2_with (first | ((with_reducible refine gate_dst (N := 2) rfl ?_); refine zbe (N := 2) (cs := #[.int .i64 a0_0, .slice A0_1 l0_1.length c0_1, .slice A0_2 l0_2.length c0_2]) (t := 27) ?_; intro gb277 hg w41 hbox hb; have BK277 := Aside0.mk (hbox); have GW277 := Aside0.mk (zge (zb0 HB) hg); have GE277 := GW277; replace HB := Aside0.mk (below_step (zb0 HB) hb); clear hb hbox hg) | ((with_reducible refine gate_dst (N := 4) rfl ?_); refine zbe (N := 4) (cs := #[.int .i64 0, .int .i64 0]) (t := 37) ?_; intro gb278 hg w42 hbox hb; have BK278 := Aside0.mk (hbox); have GW278 := Aside0.mk (zge (zb1 HB) hg); have GE278 := GW278; have NB277_278 := Aside0.mk (zlt BK277 hg); have NB278_277 := Aside0.mk (zgt BK277 hg); replace BK277 := Aside0.mk (zbb BK277 hb); replace HB := Aside0.mk (below_step (zb1 HB) hb); clear hb hbox hg) | ((with_reducible refine gate_dst (N := 5) rfl ?_); refine zbe (N := 5) (cs := #[.int .i64 0, .int .i64 0]) (t := 37) ?_; intro gb279 hg w43 hbox hb; have BK279 := Aside0.mk (hbox); have GW279 := Aside0.mk (zge (zb1 HB) hg); have GE279 := GW279; have NB277_279 := Aside0.mk (zlt BK277 hg); have NB279_277 := Aside0.mk (zgt BK277 hg); have NB278_279 := Aside0.mk (zlt BK278 hg); have NB279_278 := Aside0.mk (zgt BK278 hg); replace BK277 := Aside0.mk (zbb BK277 hb); replace BK278 := Aside0.mk (zbb BK278 hb); replace HB := Aside0.mk (below_step (zb1 HB) hb); clear hb hbox hg; have HI277 : Aside0 (IsS27 w w43 gb277 a0_0 l0_1 l0_2) := ⟨⟨A0_1, c0_1, A0_2, c0_2, (zq1 BK277), GE277.out, HR0_1.out, HR0_2.out⟩⟩) | ((with_reducible refine gate_callee (f := 57) rfl ?_); refine goesL_ (some 9) rfl rfl Try.func57 (by kernel_rfl) rfl #[.pointer (some ⟨gb277, 0, none⟩)] rfl zq6 ?_; (with_reducible refine (impl_isBox.calls k gb277 a0_0 l0_1 l0_2 false t281 w _ ?side1 ?side2 A3.out).mono ?_); (case side1 => exact z24_0 HI277); (case side2 => exact z24_1 HB); rintro e w44 ⟨rfl, hi, hb, hk⟩; refine ⟨_, rfl, ?_⟩; replace BK278 := Aside0.mk (KeepBut.blk hk (zq1 BK278) NB278_277.out (by simp)); replace BK279 := Aside0.mk (KeepBut.blk hk (zq1 BK279) NB279_277.out (by simp)); replace HB := Aside0.mk (hb); replace HI277 := Aside0.mk (hi); (try clear hb); (try clear hb2); (try clear hk); (try clear hi); have hnb45 := NB278_279.out; have hnc45 := NB279_278.out; have hnb46 := NB278_277.out; have hnc46 := NB277_278.out; have hcz47_0 : w44.cell? ⟨gb278, 0, none⟩ = some (.int .i64 0) := zc BK278 0; have hcz47_1 : w44.cell? ⟨gb278, 1, none⟩ = some (.int .i64 0) := zc BK278 1; have hfz47_0 := blk_frozen BK278.out 0; have hfz47_1 := blk_frozen BK278.out 1; have hnb48 := NB279_277.out; have hnc48 := NB277_279.out; have hcz49_0 : w44.cell? ⟨gb279, 0, none⟩ = some (.int .i64 0) := zc BK279 0; have hcz49_1 : w44.cell? ⟨gb279, 1, none⟩ = some (.int .i64 0) := zc BK279 1; have hfz49_0 := blk_frozen BK279.out 0; have hfz49_1 := blk_frozen BK279.out 1))
  refine bodyPost_ret (results_list (rs := [.cell 4 37, .cell 5 37, .tmp 6]) rfl (by simp) (.cell gb278 37 #[.int .i64 0, .int .i64 0] (0, 0) _ rfl (by (with_reducible repeat (first | refine blk_drewN ?_ _ | refine blk_drew ?_ | refine blk_alloc ?_ _)); refine blk_far ?_ NB278_279.out _; (with_reducible repeat (first | refine blk_drewN ?_ _ | refine blk_drew ?_ | refine blk_alloc ?_ _)); refine blk_far ?_ NB278_279.out _; (with_reducible repeat (first | refine blk_drewN ?_ _ | refine blk_drew ?_ | refine blk_alloc ?_ _)); refine blk_put (cs := #[.int .i64 0, .int .i64 0]) ?_ 1 _ rfl; (with_reducible repeat (first | refine blk_drewN ?_ _ | refine blk_drew ?_ | refine blk_alloc ?_ _)); refine blk_put (cs := #[.int .i64 0, .int .i64 0]) ?_ 0 _ rfl; (with_reducible repeat (first | refine blk_drewN ?_ _ | refine blk_drew ?_ | refine blk_alloc ?_ _)); exact BK278.out) Try.underlying37 rfl (by kernel_rfl) (.cell gb279 37 #[.int .i64 0, .int .i64 0] (0, 0) _ rfl (by (with_reducible repeat (first | refine blk_drewN ?_ _ | refine blk_drew ?_ | refine blk_alloc ?_ _)); refine blk_put (cs := #[.int .i64 0, .int .i64 0]) ?_ 1 _ rfl; (with_reducible repeat (first | refine blk_drewN ?_ _ | refine blk_drew ?_ | refine blk_alloc ?_ _)); refine blk_put (cs := #[.int .i64 0, .int .i64 0]) ?_ 0 _ rfl; (with_reducible repeat (first | refine blk_drewN ?_ _ | refine blk_drew ?_ | refine blk_alloc ?_ _)); refine blk_far ?_ NB279_278.out _; (with_reducible repeat (first | refine blk_drewN ?_ _ | refine blk_drew ?_ | refine blk_alloc ?_ _)); refine blk_far ?_ NB279_278.out _; (with_reducible repeat (first | refine blk_drewN ?_ _ | refine blk_drew ?_ | refine blk_alloc ?_ _)); exact BK279.out) Try.underlying37 rfl (by kernel_rfl) (.tmp .nil)))) rfl ?_
  exact ⟨by first | rfl | (simp [errW_none, errW_some] <;> rfl) | (simp [*, errW_none, errW_some] <;> rfl), (z24_1 HB)⟩
end Go.Proofs.Ytgaoniapddpaaaa.PD
