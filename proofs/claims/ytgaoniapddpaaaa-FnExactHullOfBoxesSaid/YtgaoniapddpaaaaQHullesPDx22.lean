-- By wip/mk/drv.py
import Derived.Test.YtgaoniapddpaaaaQHullesPDx0
import Derived.Test.YtgaoniapddpaaaaQHullesPDx1
import Derived.Test.YtgaoniapddpaaaaQHullesPDx12
import Derived.Test.YtgaoniapddpaaaaQHullesPDx17
namespace Go.Proofs.Ytgaoniapddpaaaa.PD
open Go.RowKit Go.Proofs.YtgaoniapddpaaaaW.PrintWords Go.Proofs.YtgaoniapddpaaaaW.PrintLast Go.Proofs.YtgaoniapddpaaaaW.PrintMore
attribute [local go_sem] max2_int min2_int max_two min_two max_three min_three max_four min_four
set_option linter.unusedVariables false
set_option linter.unusedSimpArgs false
/-! ### impl_HullOfBoxes: function 42 -/
-- PROOF
theorem impl_HullOfBoxes.keep {W w1 : World} {u v : Value} {xs : List Int} {base : Nat} (h : Kd.R (Kd.int .i64) 3 W base (fun _ => True) u xs) (ha : impl_align.Ap v u) (hg : W.grownBy w1 v.ownBlock) : Kd.R (Kd.int .i64) 3 w1 base (fun _ => True) u xs :=
 Kd.R_mono (Kd.R_after (v := v) (v1 := v) (ok := fun _ => True) (Kd.R_reok rfl h (fun k e => ⟨trivial, fun hv => ha k hv.symm e⟩)) hg (.inl rfl)) (fun _ _ => trivial)
set_option maxHeartbeats 8000000 in
set_option maxRecDepth 100000 in
theorem impl_HullOfBoxes.calls (k : Nat) (a0_0 : Int) (A0_1 : Option Addr) (c0_1 : Nat) (l0_1 : List Int) (A0_2 : Option Addr) (c0_2 : Nat) (l0_2 : List Int) (a1_0 : Int) (A1_1 : Option Addr) (c1_1 : Nat) (l1_1 : List Int) (A1_2 : Option Addr) (c1_2 : Nat) (l1_2 : List Int) (r1 : Int) (r2 : List Int) (r3 : List Int) (r4 : Bool) (w : World) (hr0_1 : Kd.C (Kd.int .i64) w A0_1 l0_1.length l0_1) (hc0_1 : l0_1.length ≤ c0_1) (hr0_2 : Kd.C (Kd.int .i64) w A0_2 l0_2.length l0_2) (hc0_2 : l0_2.length ≤ c0_2) (hr1_1 : Kd.C (Kd.int .i64) w A1_1 l1_1.length l1_1) (hc1_1 : l1_1.length ≤ c1_1) (hr1_2 : Kd.C (Kd.int .i64) w A1_2 l1_2.length l1_2) (hc1_2 : l1_2.length ≤ c1_2) (h : impl_HullOfBoxes.f k a0_0 l0_1 l0_2 a1_0 l1_1 l1_2 = some (r1, r2, r3, r4)) :
  Calls Try.prog 42 #[.agg #[.int .i64 a0_0, .slice A0_1 l0_1.length c0_1, .slice A0_2 l0_2.length c0_2], .agg #[.int .i64 a1_0, .slice A1_1 l1_1.length c1_1, .slice A1_2 l1_2.length c1_2]] w fun e w' => ∃ v1_ v2_ : Value, e = .returned (.tuple #[.agg #[.int .i64 r1, v1_, v2_], .bool r4]) ∧ Kd.R (Kd.int .i64) 3 w' w.heap.size (fun k_ => some k_ ≠ (v2_ : Value).ownBlock) v1_ r2 ∧ Kd.R (Kd.int .i64) 3 w' w.heap.size (fun k_ => some k_ ≠ (v1_ : Value).ownBlock) v2_ r3 ∧ Below w.heap.size w w' := by
 have hu27 := Try.underlying27
 have HB := Aside0.mk (Below.refl w.heap.size w)
 have HR01 := Aside0.mk hr0_1
 have HR02 := Aside0.mk hr0_2
 have HR11 := Aside0.mk hr1_1
 have HR12 := Aside0.mk hr1_2
 clear hr0_1 hr0_2 hr1_1 hr1_2 hc0_1 hc0_2 hc1_1 hc1_2
 unfold impl_HullOfBoxes.f at h
 obtain ⟨⟨b1, p2⟩, hA0, h⟩ := Option.bind_eq_some_iff.mp h
 have hA := Aside0.mk hA0
 clear hA0
 cases b1
 ·
  rw [if_neg Bool.false_ne_true] at h
  simp only [Option.some.injEq, Prod.mk.injEq] at h
  obtain ⟨rfl, rfl, rfl, rfl⟩ := h
  go_enter Try.func42, Try.ntmps42
  go_wp2_with (first | ((with_reducible refine gate_dst (N := 2) rfl ?_); refine zbe (N := 2) (cs := #[.int .i64 a0_0, .slice A0_1 l0_1.length c0_1, .slice A0_2 l0_2.length c0_2]) (t := 27) ?_; intro gb2 hg w2 hbox hb; have BK2 := Aside0.mk hbox; have GW2 := Aside0.mk (zge (zb1 HB) hg); replace HB := Aside0.mk (below_step (zb1 HB) hb); clear hb hbox hg) | ((with_reducible refine gate_dst (N := 3) rfl ?_); refine zbe (N := 3) (cs := #[.int .i64 a1_0, .slice A1_1 l1_1.length c1_1, .slice A1_2 l1_2.length c1_2]) (t := 27) ?_; intro gb3 hg w3 hbox hb; have BK3 := Aside0.mk hbox; have GW3 := Aside0.mk (zge (zb1 HB) hg); have NB23 := Aside0.mk (zlt BK2 hg); replace BK2 := Aside0.mk (zbb BK2 hb); replace HB := Aside0.mk (below_step (zb1 HB) hb); clear hb hbox hg) | ((with_reducible refine gate_dst (N := 4) rfl ?_); refine zbe (N := 4) (cs := #[.int .i64 0, .slice none 0 0, .slice none 0 0]) (t := 27) ?_; intro gb4 hg w4 hbox hb; have BK4 := Aside0.mk hbox; have GW4 := Aside0.mk (zge (zb1 HB) hg); have NB24 := Aside0.mk (zlt BK2 hg); replace BK2 := Aside0.mk (zbb BK2 hb); have NB34 := Aside0.mk (zlt BK3 hg); replace BK3 := Aside0.mk (zbb BK3 hb); replace HB := Aside0.mk (below_step (zb1 HB) hb); clear hb hbox hg; have hcyz4_0 : w4.cell? ⟨gb4, 0, none⟩ = some (.int .i64 0) := zc BK4 0; have hfyz4_0 := blk_frozen BK4.out 0; have hcyz4_1 : w4.cell? ⟨gb4, 1, none⟩ = some (.slice none 0 0) := zc BK4 1; have hfyz4_1 := blk_frozen BK4.out 1; have hcyz4_2 : w4.cell? ⟨gb4, 2, none⟩ = some (.slice none 0 0) := zc BK4 2; have hfyz4_2 := blk_frozen BK4.out 2) | ((with_reducible refine gate_callee (f := 57) rfl ?_); refine goesL_ (some 10) rfl rfl Try.func57 (by kernel_rfl) rfl #[.pointer (some ⟨gb2, 0, none⟩)] rfl zq6 ?_; refine (impl_isBox.reads k gb2 a0_0 A0_1 c0_1 l0_1 A0_2 c0_2 l0_2 false p2 _ (zq1 BK2) (Kd.C_below HR01.out (zb1 HB)) (Kd.C_below HR02.out (zb1 HB)) hA.out).mono ?_; rintro e wa ⟨rfl, hb⟩; refine ⟨_, rfl, ?_⟩; replace BK2 := Aside0.mk (zbb BK2 hb); replace BK3 := Aside0.mk (zbb BK3 hb); replace BK4 := Aside0.mk (zbb BK4 hb); replace HB := Aside0.mk (below_step (zb1 HB) hb); clear hb; have hc2_1 : wa.cell? ⟨gb2, 1, none⟩ = some (.slice A0_1 l0_1.length c0_1) := zc BK2 1; have hc3_1 : wa.cell? ⟨gb3, 1, none⟩ = some (.slice A1_1 l1_1.length c1_1) := zc BK3 1; have hcya4_0 : wa.cell? ⟨gb4, 0, none⟩ = some (.int .i64 0) := zc BK4 0; have hfya4_0 := blk_frozen BK4.out 0; have hcya4_1 : wa.cell? ⟨gb4, 1, none⟩ = some (.slice none 0 0) := zc BK4 1; have hfya4_1 := blk_frozen BK4.out 1; have hcya4_2 : wa.cell? ⟨gb4, 2, none⟩ = some (.slice none 0 0) := zc BK4 2; have hfya4_2 := blk_frozen BK4.out 2))
  refine bodyPost_ret (results_ct rfl _ _ gb4 27 #[.int .i64 0, .slice none 0 0, .slice none 0 0] (0, 0) _ rfl (by exact blk_put (cs := #[.int .i64 0, .slice none 0 0, .slice none 0 0]) (blk_put (cs := #[.int .i64 0, .slice none 0 0, .slice none 0 0]) (blk_put (cs := #[.int .i64 0, .slice none 0 0, .slice none 0 0]) BK4.out 0 _ rfl) 1 _ rfl) 2 _ rfl) Try.underlying27 rfl (by kernel_rfl)) rfl ?_
  exact ⟨_, _, by first | rfl | (simp; done) | (simp [*]; done), Kd.R_nil _ _ _ _ _, Kd.R_nil _ _ _ _ _, (zb1 HB)⟩
 ·
  rw [if_pos rfl] at h
  obtain ⟨⟨b2, q2⟩, hB0, h⟩ := Option.bind_eq_some_iff.mp h
  have hB2 := Aside0.mk hB0
  clear hB0
  cases b2
  ·
   rw [if_neg Bool.false_ne_true] at h
   simp only [Option.some.injEq, Prod.mk.injEq] at h
   obtain ⟨rfl, rfl, rfl, rfl⟩ := h
   go_enter Try.func42, Try.ntmps42
   go_wp2_with (first | ((with_reducible refine gate_dst (N := 2) rfl ?_); refine zbe (N := 2) (cs := #[.int .i64 a0_0, .slice A0_1 l0_1.length c0_1, .slice A0_2 l0_2.length c0_2]) (t := 27) ?_; intro gb2 hg w2 hbox hb; have BK2 := Aside0.mk hbox; have GW2 := Aside0.mk (zge (zb1 HB) hg); replace HB := Aside0.mk (below_step (zb1 HB) hb); clear hb hbox hg) | ((with_reducible refine gate_dst (N := 3) rfl ?_); refine zbe (N := 3) (cs := #[.int .i64 a1_0, .slice A1_1 l1_1.length c1_1, .slice A1_2 l1_2.length c1_2]) (t := 27) ?_; intro gb3 hg w3 hbox hb; have BK3 := Aside0.mk hbox; have GW3 := Aside0.mk (zge (zb1 HB) hg); have NB23 := Aside0.mk (zlt BK2 hg); replace BK2 := Aside0.mk (zbb BK2 hb); replace HB := Aside0.mk (below_step (zb1 HB) hb); clear hb hbox hg) | ((with_reducible refine gate_dst (N := 4) rfl ?_); refine zbe (N := 4) (cs := #[.int .i64 0, .slice none 0 0, .slice none 0 0]) (t := 27) ?_; intro gb4 hg w4 hbox hb; have BK4 := Aside0.mk hbox; have GW4 := Aside0.mk (zge (zb1 HB) hg); have NB24 := Aside0.mk (zlt BK2 hg); replace BK2 := Aside0.mk (zbb BK2 hb); have NB34 := Aside0.mk (zlt BK3 hg); replace BK3 := Aside0.mk (zbb BK3 hb); replace HB := Aside0.mk (below_step (zb1 HB) hb); clear hb hbox hg; have hcyz4_0 : w4.cell? ⟨gb4, 0, none⟩ = some (.int .i64 0) := zc BK4 0; have hfyz4_0 := blk_frozen BK4.out 0; have hcyz4_1 : w4.cell? ⟨gb4, 1, none⟩ = some (.slice none 0 0) := zc BK4 1; have hfyz4_1 := blk_frozen BK4.out 1; have hcyz4_2 : w4.cell? ⟨gb4, 2, none⟩ = some (.slice none 0 0) := zc BK4 2; have hfyz4_2 := blk_frozen BK4.out 2) | ((with_reducible refine gate_callee (f := 57) rfl ?_); refine goesL_ (some 10) rfl rfl Try.func57 (by kernel_rfl) rfl #[.pointer (some ⟨gb2, 0, none⟩)] rfl zq6 ?_; refine (impl_isBox.reads k gb2 a0_0 A0_1 c0_1 l0_1 A0_2 c0_2 l0_2 true p2 _ (zq1 BK2) (Kd.C_below HR01.out (zb1 HB)) (Kd.C_below HR02.out (zb1 HB)) hA.out).mono ?_; rintro e wa ⟨rfl, hb⟩; refine ⟨_, rfl, ?_⟩; replace BK2 := Aside0.mk (zbb BK2 hb); replace BK3 := Aside0.mk (zbb BK3 hb); replace BK4 := Aside0.mk (zbb BK4 hb); replace HB := Aside0.mk (below_step (zb1 HB) hb); clear hb; have hc2_1 : wa.cell? ⟨gb2, 1, none⟩ = some (.slice A0_1 l0_1.length c0_1) := zc BK2 1; have hc3_1 : wa.cell? ⟨gb3, 1, none⟩ = some (.slice A1_1 l1_1.length c1_1) := zc BK3 1; have hcya4_0 : wa.cell? ⟨gb4, 0, none⟩ = some (.int .i64 0) := zc BK4 0; have hfya4_0 := blk_frozen BK4.out 0; have hcya4_1 : wa.cell? ⟨gb4, 1, none⟩ = some (.slice none 0 0) := zc BK4 1; have hfya4_1 := blk_frozen BK4.out 1; have hcya4_2 : wa.cell? ⟨gb4, 2, none⟩ = some (.slice none 0 0) := zc BK4 2; have hfya4_2 := blk_frozen BK4.out 2) | (go_at_call 57; refine (impl_isBox.reads k gb3 a1_0 A1_1 c1_1 l1_1 A1_2 c1_2 l1_2 false q2 _ (zq1 BK3) (Kd.C_below HR11.out (zb1 HB)) (Kd.C_below HR12.out (zb1 HB)) hB2.out).mono ?_; rintro e wb ⟨rfl, hb⟩; replace BK2 := Aside0.mk (zbb BK2 hb); replace BK3 := Aside0.mk (zbb BK3 hb); replace BK4 := Aside0.mk (zbb BK4 hb); replace HB := Aside0.mk (below_step (zb1 HB) hb); clear hb; clear hc2_1 hc3_1; have hc2_1 : wb.cell? ⟨gb2, 1, none⟩ = some (.slice A0_1 l0_1.length c0_1) := zc BK2 1; have hc3_1 : wb.cell? ⟨gb3, 1, none⟩ = some (.slice A1_1 l1_1.length c1_1) := zc BK3 1; have hcyb4_0 : wb.cell? ⟨gb4, 0, none⟩ = some (.int .i64 0) := zc BK4 0; have hfyb4_0 := blk_frozen BK4.out 0; have hcyb4_1 : wb.cell? ⟨gb4, 1, none⟩ = some (.slice none 0 0) := zc BK4 1; have hfyb4_1 := blk_frozen BK4.out 1; have hcyb4_2 : wb.cell? ⟨gb4, 2, none⟩ = some (.slice none 0 0) := zc BK4 2; have hfyb4_2 := blk_frozen BK4.out 2))
   refine bodyPost_ret (results_ct rfl _ _ gb4 27 #[.int .i64 0, .slice none 0 0, .slice none 0 0] (0, 0) _ rfl (by exact blk_put (cs := #[.int .i64 0, .slice none 0 0, .slice none 0 0]) (blk_put (cs := #[.int .i64 0, .slice none 0 0, .slice none 0 0]) (blk_put (cs := #[.int .i64 0, .slice none 0 0, .slice none 0 0]) BK4.out 0 _ rfl) 1 _ rfl) 2 _ rfl) Try.underlying27 rfl (by kernel_rfl)) rfl ?_
   exact ⟨_, _, by first | rfl | (simp; done) | (simp [*]; done), Kd.R_nil _ _ _ _ _, Kd.R_nil _ _ _ _ _, (zb1 HB)⟩
  ·
   rw [if_pos rfl] at h
   by_cases hl : l0_1.length = l1_1.length
   ·
    rw [if_pos hl] at h
    obtain ⟨⟨u1, u2, u3, u4⟩, hX, h⟩ := Option.bind_eq_some_iff.mp h
    obtain ⟨⟨f1, f2⟩, hL, h⟩ := Option.bind_eq_some_iff.mp h
    dsimp only at hL h
    have H' := Aside0.mk hL
    unfold impl_align.f at hX
    obtain ⟨m, hm0⟩ : ∃ m, mx a0_0 a1_0 = m := ⟨_, rfl⟩
    rw [hm0] at hX h
    have hF := Aside0.mk h
    obtain ⟨x1, hX1, hX⟩ := Option.bind_eq_some_iff.mp hX
    obtain ⟨x2, hX2, hX⟩ := Option.bind_eq_some_iff.mp hX
    obtain ⟨x3, hX3, hX⟩ := Option.bind_eq_some_iff.mp hX
    obtain ⟨x4, hX4, hX⟩ := Option.bind_eq_some_iff.mp hX
    simp only [Option.some.injEq, Prod.mk.injEq] at hX
    obtain ⟨rfl, rfl, rfl, rfl⟩ := hX
    have hm := Aside0.mk hm0
    have X1 := Aside0.mk hX1
    have X2 := Aside0.mk hX2
    have X3 := Aside0.mk hX3
    have X4 := Aside0.mk hX4
    clear h hm0 hX1 hX2 hX3 hX4 hL
    have hl1 : (l0_1.length == l1_1.length) = true := by simp [hl]
    have hl2 : ((l0_1.length : Int) == (l1_1.length : Int)) = true := by simp [hl]
    have hl3 : ((l0_1.length : Int) != (l1_1.length : Int)) = false := by simp [hl]
    clear hl
    go_enter Try.func42, Try.ntmps42
    go_wp2_with (first | ((with_reducible refine gate_dst (N := 2) rfl ?_); refine zbe (N := 2) (cs := #[.int .i64 a0_0, .slice A0_1 l0_1.length c0_1, .slice A0_2 l0_2.length c0_2]) (t := 27) ?_; intro gb2 hg w2 hbox hb; have BK2 := Aside0.mk hbox; have GW2 := Aside0.mk (zge (zb1 HB) hg); replace HB := Aside0.mk (below_step (zb1 HB) hb); clear hb hbox hg) | ((with_reducible refine gate_dst (N := 3) rfl ?_); refine zbe (N := 3) (cs := #[.int .i64 a1_0, .slice A1_1 l1_1.length c1_1, .slice A1_2 l1_2.length c1_2]) (t := 27) ?_; intro gb3 hg w3 hbox hb; have BK3 := Aside0.mk hbox; have GW3 := Aside0.mk (zge (zb1 HB) hg); have NB23 := Aside0.mk (zlt BK2 hg); replace BK2 := Aside0.mk (zbb BK2 hb); replace HB := Aside0.mk (below_step (zb1 HB) hb); clear hb hbox hg) | ((with_reducible refine gate_dst (N := 4) rfl ?_); refine zbe (N := 4) (cs := #[.int .i64 0, .slice none 0 0, .slice none 0 0]) (t := 27) ?_; intro gb4 hg w4 hbox hb; have BK4 := Aside0.mk hbox; have GW4 := Aside0.mk (zge (zb1 HB) hg); have NB24 := Aside0.mk (zlt BK2 hg); replace BK2 := Aside0.mk (zbb BK2 hb); have NB34 := Aside0.mk (zlt BK3 hg); replace BK3 := Aside0.mk (zbb BK3 hb); replace HB := Aside0.mk (below_step (zb1 HB) hb); clear hb hbox hg; have hcyz4_0 : w4.cell? ⟨gb4, 0, none⟩ = some (.int .i64 0) := zc BK4 0; have hfyz4_0 := blk_frozen BK4.out 0; have hcyz4_1 : w4.cell? ⟨gb4, 1, none⟩ = some (.slice none 0 0) := zc BK4 1; have hfyz4_1 := blk_frozen BK4.out 1; have hcyz4_2 : w4.cell? ⟨gb4, 2, none⟩ = some (.slice none 0 0) := zc BK4 2; have hfyz4_2 := blk_frozen BK4.out 2) | ((with_reducible refine gate_callee (f := 57) rfl ?_); refine goesL_ (some 10) rfl rfl Try.func57 (by kernel_rfl) rfl #[.pointer (some ⟨gb2, 0, none⟩)] rfl zq6 ?_; refine (impl_isBox.reads k gb2 a0_0 A0_1 c0_1 l0_1 A0_2 c0_2 l0_2 true p2 _ (zq1 BK2) (Kd.C_below HR01.out (zb1 HB)) (Kd.C_below HR02.out (zb1 HB)) hA.out).mono ?_; rintro e wa ⟨rfl, hb⟩; refine ⟨_, rfl, ?_⟩; replace BK2 := Aside0.mk (zbb BK2 hb); replace BK3 := Aside0.mk (zbb BK3 hb); replace BK4 := Aside0.mk (zbb BK4 hb); replace HB := Aside0.mk (below_step (zb1 HB) hb); clear hb; have hc2_1 : wa.cell? ⟨gb2, 1, none⟩ = some (.slice A0_1 l0_1.length c0_1) := zc BK2 1; have hc3_1 : wa.cell? ⟨gb3, 1, none⟩ = some (.slice A1_1 l1_1.length c1_1) := zc BK3 1; have hcya4_0 : wa.cell? ⟨gb4, 0, none⟩ = some (.int .i64 0) := zc BK4 0; have hfya4_0 := blk_frozen BK4.out 0; have hcya4_1 : wa.cell? ⟨gb4, 1, none⟩ = some (.slice none 0 0) := zc BK4 1; have hfya4_1 := blk_frozen BK4.out 1; have hcya4_2 : wa.cell? ⟨gb4, 2, none⟩ = some (.slice none 0 0) := zc BK4 2; have hfya4_2 := blk_frozen BK4.out 2) | (go_at_call 57; refine (impl_isBox.reads k gb3 a1_0 A1_1 c1_1 l1_1 A1_2 c1_2 l1_2 true q2 _ (zq1 BK3) (Kd.C_below HR11.out (zb1 HB)) (Kd.C_below HR12.out (zb1 HB)) hB2.out).mono ?_; rintro e wb ⟨rfl, hb⟩; replace BK2 := Aside0.mk (zbb BK2 hb); replace BK3 := Aside0.mk (zbb BK3 hb); replace BK4 := Aside0.mk (zbb BK4 hb); replace HB := Aside0.mk (below_step (zb1 HB) hb); clear hb; clear hc2_1 hc3_1; have hc2_1 : wb.cell? ⟨gb2, 1, none⟩ = some (.slice A0_1 l0_1.length c0_1) := zc BK2 1; have hc3_1 : wb.cell? ⟨gb3, 1, none⟩ = some (.slice A1_1 l1_1.length c1_1) := zc BK3 1; have hcyb4_0 : wb.cell? ⟨gb4, 0, none⟩ = some (.int .i64 0) := zc BK4 0; have hfyb4_0 := blk_frozen BK4.out 0; have hcyb4_1 : wb.cell? ⟨gb4, 1, none⟩ = some (.slice none 0 0) := zc BK4 1; have hfyb4_1 := blk_frozen BK4.out 1; have hcyb4_2 : wb.cell? ⟨gb4, 2, none⟩ = some (.slice none 0 0) := zc BK4 2; have hfyb4_2 := blk_frozen BK4.out 2) | ((with_reducible refine gate_callee (f := 62) rfl ?_); refine goesL_ (some 27) rfl rfl Try.func62 (by kernel_rfl) rfl #[.pointer (some ⟨gb2, 0, none⟩), .pointer (some ⟨gb3, 0, none⟩)] rfl zq6 ?_; refine (impl_align.readsA k gb2 gb3 a0_0 A0_1 A0_2 c0_1 c0_2 l0_1 l0_2 a1_0 A1_1 A1_2 c1_1 c1_2 l1_1 l1_2 x1 x2 x3 x4 _ (zq1 BK2) (zq1 BK3) (Kd.C_below HR01.out (zb1 HB)) (Kd.C_below HR02.out (zb1 HB)) (Kd.C_below HR11.out (zb1 HB)) (Kd.C_below HR12.out (zb1 HB)) m hm.out X1.out X2.out X3.out X4.out).mono ?_; rintro e w6 ⟨v1, v2, v3, v4, rfl, ho1, ho2, ho3, ho4, ap12, ap13, ap14, ap23, ap24, hb⟩; obtain ⟨o1, e1, eo1⟩ := Kd.R_slice ho1; subst eo1; obtain ⟨o2, e2, eo2⟩ := Kd.R_slice ho2; subst eo2; obtain ⟨o3, e3, eo3⟩ := Kd.R_slice ho3; subst eo3; obtain ⟨o4, e4, eo4⟩ := Kd.R_slice ho4; subst eo4; refine ⟨_, rfl, ?_⟩; have HO1 := Aside0.mk (Kd.R_lower ho1 (below_size (zb1 HB))); have HO2 := Aside0.mk (Kd.R_lower ho2 (below_size (zb1 HB))); have HO3 := Aside0.mk (Kd.R_lower ho3 (below_size (zb1 HB))); have HO4 := Aside0.mk (Kd.R_lower ho4 (below_size (zb1 HB))); have AP12 := Aside0.mk ap12; have AP13 := Aside0.mk ap13; have AP14 := Aside0.mk ap14; have AP23 := Aside0.mk ap23; have AP24 := Aside0.mk ap24; replace BK4 := Aside0.mk (zbb BK4 hb); replace HB := Aside0.mk (below_step (zb1 HB) hb); clear hb ho1 ho2 ho3 ho4 ap12 ap13 ap14 ap23 ap24 hc2_1 hc3_1 BK2 BK3 hcya4_0 hfya4_0 hcya4_1 hfya4_1 hcya4_2 hfya4_2 hcyb4_0 hfyb4_0 hcyb4_1 hfyb4_1 hcyb4_2 hfyb4_2) | ((with_reducible refine gate_dst (N := 7) rfl ?_); refine zbe (N := 7) (cs := #[.int .i64 0, .slice none 0 0, .slice none 0 0]) (t := 27) ?_; intro gb7 hg w7 hbox hb; have BK7 := Aside0.mk hbox; have GW7 := Aside0.mk (zge (zb1 HB) hg); have NB47 := Aside0.mk (zlt BK4 hg); replace BK4 := Aside0.mk (zbb BK4 hb); replace HO1 := Aside0.mk (Kd.R_below (zq3 HO1) hb); replace HO2 := Aside0.mk (Kd.R_below (zq3 HO2) hb); replace HO3 := Aside0.mk (Kd.R_below (zq3 HO3) hb); replace HO4 := Aside0.mk (Kd.R_below (zq3 HO4) hb); replace HB := Aside0.mk (below_step (zb1 HB) hb); clear hb hbox hg) | ((with_reducible refine gate_dst (N := 8) rfl ?_); refine zbe (N := 8) (cs := #[.int .i64 0, .slice none 0 0, .slice none 0 0]) (t := 27) ?_; intro gb8 hg w8 hbox hb; have BK8 := Aside0.mk hbox; have GW8 := Aside0.mk (zge (zb1 HB) hg); have NB48 := Aside0.mk (zlt BK4 hg); replace BK4 := Aside0.mk (zbb BK4 hb); have NB78 := Aside0.mk (zlt BK7 hg); replace BK7 := Aside0.mk (zbb BK7 hb); replace HO1 := Aside0.mk (Kd.R_below (zq3 HO1) hb); replace HO2 := Aside0.mk (Kd.R_below (zq3 HO2) hb); replace HO3 := Aside0.mk (Kd.R_below (zq3 HO3) hb); replace HO4 := Aside0.mk (Kd.R_below (zq3 HO4) hb); replace HB := Aside0.mk (below_step (zb1 HB) hb); clear hb hbox hg; have NB87 := Aside0.mk NB78.out.symm; have hnb := NB78.out; have hnc := NB87.out; have hcz7_0 : w8.cell? ⟨gb7, 0, none⟩ = some (.int .i64 0) := zc BK7 0; have hfz7_0 := blk_frozen BK7.out 0; have hcz7_1 : w8.cell? ⟨gb7, 1, none⟩ = some (.slice none 0 0) := zc BK7 1; have hfz7_1 := blk_frozen BK7.out 1; have hcz7_2 : w8.cell? ⟨gb7, 2, none⟩ = some (.slice none 0 0) := zc BK7 2; have hfz7_2 := blk_frozen BK7.out 2; have hcz8_0 : w8.cell? ⟨gb8, 0, none⟩ = some (.int .i64 0) := zc BK8 0; have hfz8_0 := blk_frozen BK8.out 0; have hcz8_1 : w8.cell? ⟨gb8, 1, none⟩ = some (.slice none 0 0) := zc BK8 1; have hfz8_1 := blk_frozen BK8.out 1; have hcz8_2 : w8.cell? ⟨gb8, 2, none⟩ = some (.slice none 0 0) := zc BK8 2; have hfz8_2 := blk_frozen BK8.out 2))
    go_loopg [34] k (fun kq v34 w' => ∃ (i : Int) (y1 y2 : List Int), v34 = .int .i64 i ∧ Aside0 (impl_HullOfBoxes.l0 kq (x1.length : Int) y1 y2 x3 x4 i = some (f1, f2)) ∧ Aside0 (kq ≤ k) ∧ Aside0 (w'.heap[gb4]? = some (.cells #[.int .i64 0, .slice none 0 0, .slice none 0 0] 27 (0, 0))) ∧ Aside0 (w'.heap[gb7]? = some (.cells #[.int .i64 m, (.slice o1 x1.length e1), (.slice o2 x2.length e2)] 27 (0, 0))) ∧ Aside0 (w'.heap[gb8]? = some (.cells #[.int .i64 m, (.slice o3 x3.length e3), (.slice o4 x4.length e4)] 27 (0, 0))) ∧ Aside0 (Kd.R (Kd.int .i64) 3 w' w.heap.size (fun _ => True) (.slice o1 x1.length e1) y1) ∧ Aside0 (Kd.R (Kd.int .i64) 3 w' w.heap.size (fun _ => True) (.slice o2 x2.length e2) y2) ∧ Aside0 (Kd.R (Kd.int .i64) 3 w' w.heap.size (fun _ => True) (.slice o3 x3.length e3) x3) ∧ Aside0 (Kd.R (Kd.int .i64) 3 w' w.heap.size (fun _ => True) (.slice o4 x4.length e4) x4) ∧ Aside0 (Below w.heap.size w w'))
    case atStart => exact ⟨0, x1, x2, (by first | rfl | (simp; done) | (simp [*]; done)), H', ⟨Nat.le_refl _⟩, ⟨(impl_align.far3 (g := gb8) (impl_align.far3 (g := gb7) BK4.out NB47.out (.int .i64 m) (.slice o1 x1.length e1) (.slice o2 x2.length e2)) NB48.out (.int .i64 m) (.slice o3 x3.length e3) (.slice o4 x4.length e4))⟩, ⟨(impl_align.far3 (g := gb8) (impl_align.put3 BK7.out (.int .i64 m) (.slice o1 x1.length e1) (.slice o2 x2.length e2)) NB78.out (.int .i64 m) (.slice o3 x3.length e3) (.slice o4 x4.length e4))⟩, ⟨(impl_align.put3 (impl_align.far3 (g := gb7) BK8.out NB87.out (.int .i64 m) (.slice o1 x1.length e1) (.slice o2 x2.length e2)) (.int .i64 m) (.slice o3 x3.length e3) (.slice o4 x4.length e4))⟩, ⟨(impl_align.rfar3 (impl_align.rfar3 HO1.out BK7.out (by decide) (.int .i64 m) (.slice o1 x1.length e1) (.slice o2 x2.length e2)) (impl_align.far3 (g := gb7) BK8.out NB87.out (.int .i64 m) (.slice o1 x1.length e1) (.slice o2 x2.length e2)) (by decide) (.int .i64 m) (.slice o3 x3.length e3) (.slice o4 x4.length e4))⟩, ⟨(impl_align.rfar3 (impl_align.rfar3 HO2.out BK7.out (by decide) (.int .i64 m) (.slice o1 x1.length e1) (.slice o2 x2.length e2)) (impl_align.far3 (g := gb7) BK8.out NB87.out (.int .i64 m) (.slice o1 x1.length e1) (.slice o2 x2.length e2)) (by decide) (.int .i64 m) (.slice o3 x3.length e3) (.slice o4 x4.length e4))⟩, ⟨(impl_align.rfar3 (impl_align.rfar3 HO3.out BK7.out (by decide) (.int .i64 m) (.slice o1 x1.length e1) (.slice o2 x2.length e2)) (impl_align.far3 (g := gb7) BK8.out NB87.out (.int .i64 m) (.slice o1 x1.length e1) (.slice o2 x2.length e2)) (by decide) (.int .i64 m) (.slice o3 x3.length e3) (.slice o4 x4.length e4))⟩, ⟨(impl_align.rfar3 (impl_align.rfar3 HO4.out BK7.out (by decide) (.int .i64 m) (.slice o1 x1.length e1) (.slice o2 x2.length e2)) (impl_align.far3 (g := gb7) BK8.out NB87.out (.int .i64 m) (.slice o1 x1.length e1) (.slice o2 x2.length e2)) (by decide) (.int .i64 m) (.slice o3 x3.length e3) (.slice o4 x4.length e4))⟩, ⟨(zb1 HB)⟩⟩
    case round =>
     clear H' BK4 BK7 BK8 HO1 HO2 HO3 HO4 HB hcz7_0 hcz7_1 hcz7_2 hcz8_0 hcz8_1 hcz8_2 hfz7_0 hfz7_1 hfz7_2 hfz8_0 hfz8_1 hfz8_2
     obtain ⟨i, y1, y2, rfl, HA, HK1, BK4, BK7, BK8, HO1, HO2, HO3, HO4, HB⟩ := hrel
     have hd1 : wr.cell? ⟨gb7, 1, none⟩ = some (.slice o1 x1.length e1) := zc BK7 1
     have hd2 : wr.cell? ⟨gb7, 2, none⟩ = some (.slice o2 x2.length e2) := zc BK7 2
     cases gk with
     | zero => exact absurd HA.out (by simp [impl_HullOfBoxes.l0])
     | succ k1 =>
      have h := HA.out
      clear HA
      simp only [impl_HullOfBoxes.l0] at h
      by_cases c1 : i < (x1.length : Int)
      ·
       rw [if_pos c1] at h
       by_cases c0 : 0 ≤ i
       ·
        rw [if_pos c0] at h
        by_cases d1 : i < (y1.length : Int)
        ·
         rw [if_pos d1] at h
         by_cases d2 : i < (y2.length : Int)
         ·
          rw [if_pos d2] at h
          by_cases c3 : i < (x3.length : Int)
          ·
           rw [if_pos c3] at h
           by_cases c4 : i < (x4.length : Int)
           ·
            rw [if_pos c4] at h
            have c2 : i < (x2.length : Int) := by have := (Kd.R_reads' HO2.out).1; omega
            obtain ⟨m1, hm1⟩ : ∃ m_, mn (rd y1 i) (rd x3 i) = m_ := ⟨_, rfl⟩
            obtain ⟨m2, hm2⟩ : ∃ m_, mx (rd y2 i) (rd x4 i) = m_ := ⟨_, rfl⟩
            rw [hm1, hm2] at h
            obtain ⟨z1, hz1⟩ : ∃ z_ : List Int, z_ = y1.set (i : Int).toNat m1 := ⟨_, rfl⟩
            obtain ⟨z2, hz2⟩ : ∃ z_ : List Int, z_ = y2.set (i : Int).toNat m2 := ⟨_, rfl⟩
            rw [← hz1, ← hz2] at h
            have NY1 := Aside0.mk hz1
            have NY2 := Aside0.mk hz2
            have H' := Aside0.mk h
            have hx1 : (if rd x3 i < rd y1 i then rd x3 i else rd y1 i) = m1 := hm1
            have hx2 : (if rd y2 i < rd x4 i then rd x4 i else rd y2 i) = m2 := hm2
            clear h hm1 hm2 hz1 hz2 d1 d2
            obtain ⟨g1, co, eo, gb1_, gl, cl, HG⟩ := Kd.R_form HO1.out (by have := (Kd.R_reads' HO1.out).1; omega)
            injection eo with ea_ en_ ec_
            subst ea_
            subst ec_
            clear en_ gl HG
            have GB1 := Aside0.mk gb1_
            clear gb1_
            obtain ⟨g2, co, eo, gb2_, gl, cl, HG⟩ := Kd.R_form HO2.out (by have := (Kd.R_reads' HO2.out).1; omega)
            injection eo with ea_ en_ ec_
            subst ea_
            subst ec_
            clear en_ gl HG
            have GB2 := Aside0.mk gb2_
            clear gb2_
            obtain ⟨g3, co, eo, gb3_, gl, cl, HG⟩ := Kd.R_form HO3.out (by have := (Kd.R_reads' HO3.out).1; omega)
            injection eo with ea_ en_ ec_
            subst ea_
            subst ec_
            clear en_ gl HG
            have GB3 := Aside0.mk gb3_
            clear gb3_
            obtain ⟨g4, co, eo, gb4_, gl, cl, HG⟩ := Kd.R_form HO4.out (by have := (Kd.R_reads' HO4.out).1; omega)
            injection eo with ea_ en_ ec_
            subst ea_
            subst ec_
            clear en_ gl HG
            have GB4 := Aside0.mk gb4_
            clear gb4_
            have b0 := decide_eq_true c0
            have b1 := decide_eq_true c1
            have p0 := eq_true c0
            have p1 := eq_true c1
            have p2 := eq_true c2
            have p3 := eq_true c3
            have p4 := eq_true c4
            go_wp2
            replace HB := Aside0.mk (below_drew1 HB.out); replace BK4 := Aside0.mk (blk_drew BK4.out); replace BK7 := Aside0.mk (blk_drew BK7.out); replace BK8 := Aside0.mk (blk_drew BK8.out); replace HO1 := Aside0.mk (Kd.R_drew HO1.out); replace HO2 := Aside0.mk (Kd.R_drew HO2.out); replace HO3 := Aside0.mk (Kd.R_drew HO3.out); replace HO4 := Aside0.mk (Kd.R_drew HO4.out)
            refine start_ (n := 32) (S := fun w' => w'.cell? ⟨gb7, 1, none⟩ = some (.slice (some ⟨g1, 0, none⟩) x1.length e1) ∧ w'.cell? ⟨gb7, 2, none⟩ = some (.slice (some ⟨g2, 0, none⟩) x2.length e2) ∧ w'.cell? ⟨gb8, 1, none⟩ = some (.slice (some ⟨g3, 0, none⟩) x3.length e3) ∧ w'.cell? ⟨gb8, 2, none⟩ = some (.slice (some ⟨g4, 0, none⟩) x4.length e4) ∧ w'.cell? ⟨g3, (i : Int).toNat, none⟩ = some (.int .i64 (rd x3 i)) ∧ w'.cell? ⟨g4, (i : Int).toNat, none⟩ = some (.int .i64 (rd x4 i))) (ds := []) #[false, false, false, false, false, false, false, false, false, false, false, false, false, false, false, false, false, false, false, false, false, false, false, false, false, false, false, false, false, false, false, false] (by kernel_rfl) rfl rfl ⟨zc BK7 1, zc BK7 2, zc BK8 1, zc BK8 2, (Kd.R_celln 0 HO3.out i c0 c3).1, (Kd.R_celln 0 HO4.out i c0 c4).1⟩ (fun hHeld => ?_)
            clear hd1 hd2
            generalize wr.drew = wz at HB BK4 BK7 BK8 HO1 HO2 HO3 HO4 hHeld ⊢
            refine zp (i := 0) (N := some 37) #[true, false, false, false, false, false, false, false, false, false, false, false, false, false, false, false, false, false, false, false, false, false, false, false, false, false, false, false, false, false, false, false] (by kernel_rfl) ?_
            refine take_ (i := 1) (N := some 38) (v := ?_) (a' := ?_) #[true, true, false, false, false, false, false, false, false, false, false, false, false, false, false, false, false, false, false, false, false, false, false, false, false, false, false, false, false, false, false, false] rfl rfl (by kernel_rfl) (fun _ _ _ h => h) (Or.inl ⟨by rfl, ?_⟩) hHeld ?_ ?_
            rotate_left
            ·
             rintro w' ⟨s0, s1, s2, s3, s4, s5⟩
             go_simp
             with_reducible rfl
            rotate_left
            ·
             simp only [Act.put, List.setIfInBounds_toArray, List.set_cons_zero, List.set_cons_succ, i64_w, i32_w]; rfl
            refine zp (i := 2) (N := some 39) #[true, true, true, false, false, false, false, false, false, false, false, false, false, false, false, false, false, false, false, false, false, false, false, false, false, false, false, false, false, false, false, false] (by kernel_rfl) ?_
            refine zp (i := 3) (N := some 40) #[true, true, true, true, false, false, false, false, false, false, false, false, false, false, false, false, false, false, false, false, false, false, false, false, false, false, false, false, false, false, false, false] (by kernel_rfl) ?_
            refine take_ (i := 4) (N := some 41) (v := ?_) (a' := ?_) #[true, true, true, true, true, false, false, false, false, false, false, false, false, false, false, false, false, false, false, false, false, false, false, false, false, false, false, false, false, false, false, false] rfl rfl (by kernel_rfl) (fun _ _ _ h => h) (Or.inl ⟨by rfl, ?_⟩) hHeld ?_ ?_
            rotate_left
            ·
             rintro w' ⟨s0, s1, s2, s3, s4, s5⟩
             go_simp
             with_reducible rfl
            rotate_left
            ·
             simp only [Act.put, List.setIfInBounds_toArray, List.set_cons_zero, List.set_cons_succ, i64_w, i32_w]; rfl
            refine zp (i := 5) (N := some 42) #[true, true, true, true, true, true, false, false, false, false, false, false, false, false, false, false, false, false, false, false, false, false, false, false, false, false, false, false, false, false, false, false] (by kernel_rfl) ?_
            refine zp (i := 6) (N := some 43) #[true, true, true, true, true, true, true, false, false, false, false, false, false, false, false, false, false, false, false, false, false, false, false, false, false, false, false, false, false, false, false, false] (by kernel_rfl) ?_
            refine take_ (i := 7) (N := some 44) (v := ?_) (a' := ?_) #[true, true, true, true, true, true, true, true, false, false, false, false, false, false, false, false, false, false, false, false, false, false, false, false, false, false, false, false, false, false, false, false] rfl rfl (by kernel_rfl) (fun _ _ _ h => h) (Or.inl ⟨by rfl, ?_⟩) hHeld ?_ ?_
            rotate_left
            ·
             rintro w' ⟨s0, s1, s2, s3, s4, s5⟩
             go_simp
             with_reducible rfl
            rotate_left
            ·
             simp only [Act.put, List.setIfInBounds_toArray, List.set_cons_zero, List.set_cons_succ, i64_w, i32_w]; rfl
            refine zp (i := 8) (N := some 45) #[true, true, true, true, true, true, true, true, true, false, false, false, false, false, false, false, false, false, false, false, false, false, false, false, false, false, false, false, false, false, false, false] (by kernel_rfl) ?_
            refine zp (i := 9) (N := some 46) #[true, true, true, true, true, true, true, true, true, true, false, false, false, false, false, false, false, false, false, false, false, false, false, false, false, false, false, false, false, false, false, false] (by kernel_rfl) ?_
            refine zp (i := 11) (N := some 48) #[true, true, true, true, true, true, true, true, true, true, false, true, false, false, false, false, false, false, false, false, false, false, false, false, false, false, false, false, false, false, false, false] (by kernel_rfl) ?_
            refine take_ (i := 12) (N := some 49) (v := ?_) (a' := ?_) #[true, true, true, true, true, true, true, true, true, true, false, true, true, false, false, false, false, false, false, false, false, false, false, false, false, false, false, false, false, false, false, false] rfl rfl (by kernel_rfl) (fun _ _ _ h => h) (Or.inl ⟨by rfl, ?_⟩) hHeld ?_ ?_
            rotate_left
            ·
             rintro w' ⟨s0, s1, s2, s3, s4, s5⟩
             go_simp
             with_reducible rfl
            rotate_left
            ·
             simp only [Act.put, List.setIfInBounds_toArray, List.set_cons_zero, List.set_cons_succ, i64_w, i32_w]; rfl
            refine zp (i := 13) (N := some 50) #[true, true, true, true, true, true, true, true, true, true, false, true, true, true, false, false, false, false, false, false, false, false, false, false, false, false, false, false, false, false, false, false] (by kernel_rfl) ?_
            refine zp (i := 14) (N := some 51) #[true, true, true, true, true, true, true, true, true, true, false, true, true, true, true, false, false, false, false, false, false, false, false, false, false, false, false, false, false, false, false, false] (by kernel_rfl) ?_
            refine take_ (i := 15) (N := some 52) (v := ?_) (a' := ?_) #[true, true, true, true, true, true, true, true, true, true, false, true, true, true, true, true, false, false, false, false, false, false, false, false, false, false, false, false, false, false, false, false] rfl rfl (by kernel_rfl) (fun _ _ _ h => h) (Or.inl ⟨by rfl, ?_⟩) hHeld ?_ ?_
            rotate_left
            ·
             rintro w' ⟨s0, s1, s2, s3, s4, s5⟩
             go_simp
             with_reducible rfl
            rotate_left
            ·
             simp only [Act.put, List.setIfInBounds_toArray, List.set_cons_zero, List.set_cons_succ, i64_w, i32_w]; rfl
            refine zp (i := 17) (N := some 54) #[true, true, true, true, true, true, true, true, true, true, false, true, true, true, true, true, false, true, false, false, false, false, false, false, false, false, false, false, false, false, false, false] (by kernel_rfl) ?_
            refine take_ (i := 18) (N := some 55) (v := ?_) (a' := ?_) #[true, true, true, true, true, true, true, true, true, true, false, true, true, true, true, true, false, true, true, false, false, false, false, false, false, false, false, false, false, false, false, false] rfl rfl (by kernel_rfl) (fun _ _ _ h => h) (Or.inl ⟨by rfl, ?_⟩) hHeld ?_ ?_
            rotate_left
            ·
             rintro w' ⟨s0, s1, s2, s3, s4, s5⟩
             go_simp
             with_reducible rfl
            rotate_left
            ·
             simp only [Act.put, List.setIfInBounds_toArray, List.set_cons_zero, List.set_cons_succ, i64_w, i32_w]; rfl
            refine zp (i := 19) (N := some 56) #[true, true, true, true, true, true, true, true, true, true, false, true, true, true, true, true, false, true, true, true, false, false, false, false, false, false, false, false, false, false, false, false] (by kernel_rfl) ?_
            refine zp (i := 20) (N := some 57) #[true, true, true, true, true, true, true, true, true, true, false, true, true, true, true, true, false, true, true, true, true, false, false, false, false, false, false, false, false, false, false, false] (by kernel_rfl) ?_
            refine zp (i := 22) (N := some 59) #[true, true, true, true, true, true, true, true, true, true, false, true, true, true, true, true, false, true, true, true, true, false, true, false, false, false, false, false, false, false, false, false] (by kernel_rfl) ?_
            refine take_ (i := 23) (N := some 60) (v := ?_) (a' := ?_) #[true, true, true, true, true, true, true, true, true, true, false, true, true, true, true, true, false, true, true, true, true, false, true, true, false, false, false, false, false, false, false, false] rfl rfl (by kernel_rfl) (fun _ _ _ h => h) (Or.inl ⟨by rfl, ?_⟩) hHeld ?_ ?_
            rotate_left
            ·
             rintro w' ⟨s0, s1, s2, s3, s4, s5⟩
             go_simp
             with_reducible rfl
            rotate_left
            ·
             simp only [Act.put, List.setIfInBounds_toArray, List.set_cons_zero, List.set_cons_succ, i64_w, i32_w]; rfl
            refine zp (i := 24) (N := some 61) #[true, true, true, true, true, true, true, true, true, true, false, true, true, true, true, true, false, true, true, true, true, false, true, true, true, false, false, false, false, false, false, false] (by kernel_rfl) ?_
            refine zp (i := 25) (N := some 62) #[true, true, true, true, true, true, true, true, true, true, false, true, true, true, true, true, false, true, true, true, true, false, true, true, true, true, false, false, false, false, false, false] (by kernel_rfl) ?_
            refine take_ (i := 26) (N := some 63) (v := ?_) (a' := ?_) #[true, true, true, true, true, true, true, true, true, true, false, true, true, true, true, true, false, true, true, true, true, false, true, true, true, true, true, false, false, false, false, false] rfl rfl (by kernel_rfl) (fun _ _ _ h => h) (Or.inl ⟨by rfl, ?_⟩) hHeld ?_ ?_
            rotate_left
            ·
             rintro w' ⟨s0, s1, s2, s3, s4, s5⟩
             go_simp
             with_reducible rfl
            rotate_left
            ·
             simp only [Act.put, List.setIfInBounds_toArray, List.set_cons_zero, List.set_cons_succ, i64_w, i32_w]; rfl
            refine two_ (i := 10) (j := 21) (Ni := (some 47)) (Nj := (some 58)) #[true, true, true, true, true, true, true, true, true, true, true, true, true, true, true, true, false, true, true, true, true, false, true, true, true, true, true, false, false, false, false, false] #[true, true, true, true, true, true, true, true, true, true, false, true, true, true, true, true, false, true, true, true, true, true, true, true, true, true, true, false, false, false, false, false] rfl rfl rfl rfl (by kernel_rfl) (by decide) (by decide) (fun K hK => ?_) (fun K hK => ?_)
            ·
             have hl1 : World.cell? _ ⟨g1, (i : Int).toNat, none⟩ = some (.int .i64 (rd y1 i)) := (Kd.R_celln 0 HO1.out i c0 c1).1
             rw [if_pos (by rfl)]
             go_wp2
             clear hl1
             refine hK.out _ _ ⟨zc BK7 1, zc BK7 2, zc BK8 1, zc BK8 2, (Kd.R_celln 0 HO3.out i c0 c3).1, (Kd.R_celln 0 HO4.out i c0 c4).1⟩ (fun hHeld => ?_)
             clear hK K
             refine norm_ (a' := ?_) ?_ ?_
             rotate_left
             ·
              rfl
             refine zp (i := 16) (N := some 53) #[true, true, true, true, true, true, true, true, true, true, true, true, true, true, true, true, true, true, true, true, true, false, true, true, true, true, true, false, false, false, false, false] (by kernel_rfl) ?_
             refine one_ (i := 21) (N := (some 58)) #[true, true, true, true, true, true, true, true, true, true, true, true, true, true, true, true, true, true, true, true, true, true, true, true, true, true, true, false, false, false, false, false] rfl rfl (by kernel_rfl) (by decide) (fun K hK => ?_)
             have hl2 : World.cell? _ ⟨g2, (i : Int).toNat, none⟩ = some (.int .i64 (rd y2 i)) := (Kd.R_celln 0 HO2.out i c0 c2).1
             rw [if_pos (by rfl)]
             go_wp2
             clear hl2
             refine hK.out _ _ ⟨zc BK7 1, zc BK7 2, zc BK8 1, zc BK8 2, (Kd.R_celln 0 HO3.out i c0 c3).1, (Kd.R_celln 0 HO4.out i c0 c4).1⟩ (fun hHeld => ?_)
             clear hK K
             refine norm_ (a' := ?_) ?_ ?_
             rotate_left
             ·
              rfl
             refine zp (i := 27) (N := some 64) #[true, true, true, true, true, true, true, true, true, true, true, true, true, true, true, true, true, true, true, true, true, true, true, true, true, true, true, true, false, false, false, false] (by kernel_rfl) ?_
             refine zp (i := 28) (N := some 65) #[true, true, true, true, true, true, true, true, true, true, true, true, true, true, true, true, true, true, true, true, true, true, true, true, true, true, true, true, true, false, false, false] (by kernel_rfl) ?_
             refine one_ (i := 29) (N := none) #[true, true, true, true, true, true, true, true, true, true, true, true, true, true, true, true, true, true, true, true, true, true, true, true, true, true, true, true, true, true, false, false] rfl rfl (by kernel_rfl) (by decide) (fun K hK => ?_)
             have hl1 : World.cell? _ ⟨g1, (i : Int).toNat, none⟩ = some (.int .i64 (rd y1 i)) := (Kd.R_celln 0 HO1.out i c0 c1).1
             have hf1 : World.frozen? _ ⟨g1, (i : Int).toNat, none⟩ = false := (Kd.R_celln 0 HO1.out i c0 c1).2
             have HP := Kd.R_putg HO1.out (i : Int) m1
             rw [← NY1.out] at HP
             rw [if_pos (by rfl)]
             go_wp2
             clear hl1 hf1
             have hg := HP.2; have hp_ := HP.1; clear HP
             have hX2 := impl_HullOfBoxes.keep HO2.out (v := (.slice (some ⟨g1, 0, none⟩) x1.length e1)) AP12.out hg
             have hX3 := impl_HullOfBoxes.keep HO3.out (v := (.slice (some ⟨g1, 0, none⟩) x1.length e1)) AP13.out hg
             have hX4 := impl_HullOfBoxes.keep HO4.out (v := (.slice (some ⟨g1, 0, none⟩) x1.length e1)) AP14.out hg
             have hY4 := blk_grown BK4.out hg (Kd.R_ne HO1.out BK4.out (by decide))
             have hY7 := blk_grown BK7.out hg (Kd.R_ne HO1.out BK7.out (by decide))
             have hY8 := blk_grown BK8.out hg (Kd.R_ne HO1.out BK8.out (by decide))
             have hZ : Below w.heap.size w (wz.setCell ⟨g1, (i : Int).toNat, none⟩ (.int .i64 m1)) := below_set HB.out GB1.out
             clear hg HO2 HO3 HO4 BK4 BK7 BK8 HB HO1
             generalize World.setCell _ _ _ = wy1 at hX2 hX3 hX4 hY4 hY7 hY8 hZ hp_ ⊢
             have HO2 := Aside0.mk hX2; have HO3 := Aside0.mk hX3; have HO4 := Aside0.mk hX4; have BK4 := Aside0.mk hY4; have BK7 := Aside0.mk hY7; have BK8 := Aside0.mk hY8; have HB := Aside0.mk hZ; have HO1 := Aside0.mk hp_
             clear hX2 hX3 hX4 hY4 hY7 hY8 hZ hp_
             refine hK.out _ _ ⟨zc BK7 1, zc BK7 2, zc BK8 1, zc BK8 2, (Kd.R_celln 0 HO3.out i c0 c3).1, (Kd.R_celln 0 HO4.out i c0 c4).1⟩ (fun hHeld => ?_)
             clear hK K
             refine norm_ (a' := ?_) ?_ ?_
             rotate_left
             ·
              first | rfl | (simp only [Act.put, List.setIfInBounds_toArray, List.set_cons_zero, List.set_cons_succ, i64_w, i32_w]; rfl)
             refine zp (i := 30) (N := some 66) #[true, true, true, true, true, true, true, true, true, true, true, true, true, true, true, true, true, true, true, true, true, true, true, true, true, true, true, true, true, true, true, false] (by kernel_rfl) ?_
             refine one_ (i := 31) (N := none) #[true, true, true, true, true, true, true, true, true, true, true, true, true, true, true, true, true, true, true, true, true, true, true, true, true, true, true, true, true, true, true, true] rfl rfl (by kernel_rfl) (by decide) (fun K hK => ?_)
             have hl2 : World.cell? _ ⟨g2, (i : Int).toNat, none⟩ = some (.int .i64 (rd y2 i)) := (Kd.R_celln 0 HO2.out i c0 c2).1
             have hf2 : World.frozen? _ ⟨g2, (i : Int).toNat, none⟩ = false := (Kd.R_celln 0 HO2.out i c0 c2).2
             have HP := Kd.R_putg HO2.out (i : Int) m2
             rw [← NY2.out] at HP
             rw [if_pos (by rfl)]
             go_wp2
             clear hl2 hf2
             have hg := HP.2; have hp_ := HP.1; clear HP
             have hX1 := impl_HullOfBoxes.keep HO1.out (v := (.slice (some ⟨g2, 0, none⟩) x2.length e2)) AP12.out.symm hg
             have hX3 := impl_HullOfBoxes.keep HO3.out (v := (.slice (some ⟨g2, 0, none⟩) x2.length e2)) AP23.out hg
             have hX4 := impl_HullOfBoxes.keep HO4.out (v := (.slice (some ⟨g2, 0, none⟩) x2.length e2)) AP24.out hg
             have hY4 := blk_grown BK4.out hg (Kd.R_ne HO2.out BK4.out (by decide))
             have hY7 := blk_grown BK7.out hg (Kd.R_ne HO2.out BK7.out (by decide))
             have hY8 := blk_grown BK8.out hg (Kd.R_ne HO2.out BK8.out (by decide))
             have hZ : Below w.heap.size w (wy1.setCell ⟨g2, (i : Int).toNat, none⟩ (.int .i64 m2)) := below_set HB.out GB2.out
             clear hg HO1 HO3 HO4 BK4 BK7 BK8 HB HO2
             generalize World.setCell _ _ _ = wy2 at hX1 hX3 hX4 hY4 hY7 hY8 hZ hp_ ⊢
             have HO1 := Aside0.mk hX1; have HO3 := Aside0.mk hX3; have HO4 := Aside0.mk hX4; have BK4 := Aside0.mk hY4; have BK7 := Aside0.mk hY7; have BK8 := Aside0.mk hY8; have HB := Aside0.mk hZ; have HO2 := Aside0.mk hp_
             clear hX1 hX3 hX4 hY4 hY7 hY8 hZ hp_
             refine hK.out _ _ ⟨zc BK7 1, zc BK7 2, zc BK8 1, zc BK8 2, (Kd.R_celln 0 HO3.out i c0 c3).1, (Kd.R_celln 0 HO4.out i c0 c4).1⟩ (fun hHeld => ?_)
             clear hK K
             refine norm_ (a' := ?_) ?_ ?_
             rotate_left
             ·
              first | rfl | (simp only [Act.put, List.setIfInBounds_toArray, List.set_cons_zero, List.set_cons_succ, i64_w, i32_w]; rfl)
             refine done_ (by kernel_rfl) ?_
             go_wp2
             go_roundg k1
             case measure => have := HK1.out; omega
             case rel => exact ⟨(wrap64 (i + 1)), z1, z2, (by first | rfl | (simp; done) | (simp [*]; done)), H', ⟨by have := HK1.out; omega⟩, ⟨zq1 BK4⟩, ⟨zq1 BK7⟩, ⟨zq1 BK8⟩, ⟨zq3 HO1⟩, ⟨zq3 HO2⟩, ⟨zq3 HO3⟩, ⟨zq3 HO4⟩, ⟨(zb0 HB)⟩⟩
            ·
             have hl2 : World.cell? _ ⟨g2, (i : Int).toNat, none⟩ = some (.int .i64 (rd y2 i)) := (Kd.R_celln 0 HO2.out i c0 c2).1
             rw [if_pos (by rfl)]
             go_wp2
             clear hl2
             refine hK.out _ _ ⟨zc BK7 1, zc BK7 2, zc BK8 1, zc BK8 2, (Kd.R_celln 0 HO3.out i c0 c3).1, (Kd.R_celln 0 HO4.out i c0 c4).1⟩ (fun hHeld => ?_)
             clear hK K
             refine norm_ (a' := ?_) ?_ ?_
             rotate_left
             ·
              rfl
             refine zp (i := 27) (N := some 64) #[true, true, true, true, true, true, true, true, true, true, false, true, true, true, true, true, false, true, true, true, true, true, true, true, true, true, true, true, false, false, false, false] (by kernel_rfl) ?_
             refine one_ (i := 10) (N := (some 47)) #[true, true, true, true, true, true, true, true, true, true, true, true, true, true, true, true, false, true, true, true, true, true, true, true, true, true, true, true, false, false, false, false] rfl rfl (by kernel_rfl) (by decide) (fun K hK => ?_)
             have hl1 : World.cell? _ ⟨g1, (i : Int).toNat, none⟩ = some (.int .i64 (rd y1 i)) := (Kd.R_celln 0 HO1.out i c0 c1).1
             rw [if_pos (by rfl)]
             go_wp2
             clear hl1
             refine hK.out _ _ ⟨zc BK7 1, zc BK7 2, zc BK8 1, zc BK8 2, (Kd.R_celln 0 HO3.out i c0 c3).1, (Kd.R_celln 0 HO4.out i c0 c4).1⟩ (fun hHeld => ?_)
             clear hK K
             refine norm_ (a' := ?_) ?_ ?_
             rotate_left
             ·
              rfl
             refine zp (i := 16) (N := some 53) #[true, true, true, true, true, true, true, true, true, true, true, true, true, true, true, true, true, true, true, true, true, true, true, true, true, true, true, true, false, false, false, false] (by kernel_rfl) ?_
             refine zp (i := 28) (N := some 65) #[true, true, true, true, true, true, true, true, true, true, true, true, true, true, true, true, true, true, true, true, true, true, true, true, true, true, true, true, true, false, false, false] (by kernel_rfl) ?_
             refine one_ (i := 29) (N := none) #[true, true, true, true, true, true, true, true, true, true, true, true, true, true, true, true, true, true, true, true, true, true, true, true, true, true, true, true, true, true, false, false] rfl rfl (by kernel_rfl) (by decide) (fun K hK => ?_)
             have hl1 : World.cell? _ ⟨g1, (i : Int).toNat, none⟩ = some (.int .i64 (rd y1 i)) := (Kd.R_celln 0 HO1.out i c0 c1).1
             have hf1 : World.frozen? _ ⟨g1, (i : Int).toNat, none⟩ = false := (Kd.R_celln 0 HO1.out i c0 c1).2
             have HP := Kd.R_putg HO1.out (i : Int) m1
             rw [← NY1.out] at HP
             rw [if_pos (by rfl)]
             go_wp2
             clear hl1 hf1
             have hg := HP.2; have hp_ := HP.1; clear HP
             have hX2 := impl_HullOfBoxes.keep HO2.out (v := (.slice (some ⟨g1, 0, none⟩) x1.length e1)) AP12.out hg
             have hX3 := impl_HullOfBoxes.keep HO3.out (v := (.slice (some ⟨g1, 0, none⟩) x1.length e1)) AP13.out hg
             have hX4 := impl_HullOfBoxes.keep HO4.out (v := (.slice (some ⟨g1, 0, none⟩) x1.length e1)) AP14.out hg
             have hY4 := blk_grown BK4.out hg (Kd.R_ne HO1.out BK4.out (by decide))
             have hY7 := blk_grown BK7.out hg (Kd.R_ne HO1.out BK7.out (by decide))
             have hY8 := blk_grown BK8.out hg (Kd.R_ne HO1.out BK8.out (by decide))
             have hZ : Below w.heap.size w (wz.setCell ⟨g1, (i : Int).toNat, none⟩ (.int .i64 m1)) := below_set HB.out GB1.out
             clear hg HO2 HO3 HO4 BK4 BK7 BK8 HB HO1
             generalize World.setCell _ _ _ = wy1 at hX2 hX3 hX4 hY4 hY7 hY8 hZ hp_ ⊢
             have HO2 := Aside0.mk hX2; have HO3 := Aside0.mk hX3; have HO4 := Aside0.mk hX4; have BK4 := Aside0.mk hY4; have BK7 := Aside0.mk hY7; have BK8 := Aside0.mk hY8; have HB := Aside0.mk hZ; have HO1 := Aside0.mk hp_
             clear hX2 hX3 hX4 hY4 hY7 hY8 hZ hp_
             refine hK.out _ _ ⟨zc BK7 1, zc BK7 2, zc BK8 1, zc BK8 2, (Kd.R_celln 0 HO3.out i c0 c3).1, (Kd.R_celln 0 HO4.out i c0 c4).1⟩ (fun hHeld => ?_)
             clear hK K
             refine norm_ (a' := ?_) ?_ ?_
             rotate_left
             ·
              first | rfl | (simp only [Act.put, List.setIfInBounds_toArray, List.set_cons_zero, List.set_cons_succ, i64_w, i32_w]; rfl)
             refine zp (i := 30) (N := some 66) #[true, true, true, true, true, true, true, true, true, true, true, true, true, true, true, true, true, true, true, true, true, true, true, true, true, true, true, true, true, true, true, false] (by kernel_rfl) ?_
             refine one_ (i := 31) (N := none) #[true, true, true, true, true, true, true, true, true, true, true, true, true, true, true, true, true, true, true, true, true, true, true, true, true, true, true, true, true, true, true, true] rfl rfl (by kernel_rfl) (by decide) (fun K hK => ?_)
             have hl2 : World.cell? _ ⟨g2, (i : Int).toNat, none⟩ = some (.int .i64 (rd y2 i)) := (Kd.R_celln 0 HO2.out i c0 c2).1
             have hf2 : World.frozen? _ ⟨g2, (i : Int).toNat, none⟩ = false := (Kd.R_celln 0 HO2.out i c0 c2).2
             have HP := Kd.R_putg HO2.out (i : Int) m2
             rw [← NY2.out] at HP
             rw [if_pos (by rfl)]
             go_wp2
             clear hl2 hf2
             have hg := HP.2; have hp_ := HP.1; clear HP
             have hX1 := impl_HullOfBoxes.keep HO1.out (v := (.slice (some ⟨g2, 0, none⟩) x2.length e2)) AP12.out.symm hg
             have hX3 := impl_HullOfBoxes.keep HO3.out (v := (.slice (some ⟨g2, 0, none⟩) x2.length e2)) AP23.out hg
             have hX4 := impl_HullOfBoxes.keep HO4.out (v := (.slice (some ⟨g2, 0, none⟩) x2.length e2)) AP24.out hg
             have hY4 := blk_grown BK4.out hg (Kd.R_ne HO2.out BK4.out (by decide))
             have hY7 := blk_grown BK7.out hg (Kd.R_ne HO2.out BK7.out (by decide))
             have hY8 := blk_grown BK8.out hg (Kd.R_ne HO2.out BK8.out (by decide))
             have hZ : Below w.heap.size w (wy1.setCell ⟨g2, (i : Int).toNat, none⟩ (.int .i64 m2)) := below_set HB.out GB2.out
             clear hg HO1 HO3 HO4 BK4 BK7 BK8 HB HO2
             generalize World.setCell _ _ _ = wy2 at hX1 hX3 hX4 hY4 hY7 hY8 hZ hp_ ⊢
             have HO1 := Aside0.mk hX1; have HO3 := Aside0.mk hX3; have HO4 := Aside0.mk hX4; have BK4 := Aside0.mk hY4; have BK7 := Aside0.mk hY7; have BK8 := Aside0.mk hY8; have HB := Aside0.mk hZ; have HO2 := Aside0.mk hp_
             clear hX1 hX3 hX4 hY4 hY7 hY8 hZ hp_
             refine hK.out _ _ ⟨zc BK7 1, zc BK7 2, zc BK8 1, zc BK8 2, (Kd.R_celln 0 HO3.out i c0 c3).1, (Kd.R_celln 0 HO4.out i c0 c4).1⟩ (fun hHeld => ?_)
             clear hK K
             refine norm_ (a' := ?_) ?_ ?_
             rotate_left
             ·
              first | rfl | (simp only [Act.put, List.setIfInBounds_toArray, List.set_cons_zero, List.set_cons_succ, i64_w, i32_w]; rfl)
             refine done_ (by kernel_rfl) ?_
             go_wp2
             go_roundg k1
             case measure => have := HK1.out; omega
             case rel => exact ⟨(wrap64 (i + 1)), z1, z2, (by first | rfl | (simp; done) | (simp [*]; done)), H', ⟨by have := HK1.out; omega⟩, ⟨zq1 BK4⟩, ⟨zq1 BK7⟩, ⟨zq1 BK8⟩, ⟨zq3 HO1⟩, ⟨zq3 HO2⟩, ⟨zq3 HO3⟩, ⟨zq3 HO4⟩, ⟨(zb0 HB)⟩⟩
           ·
            rw [if_neg c4] at h; cases h
          ·
           rw [if_neg c3] at h; cases h
         ·
          rw [if_neg d2] at h; cases h
        ·
         rw [if_neg d1] at h; cases h
       ·
        rw [if_neg c0] at h; cases h
      ·
       rw [if_neg c1] at h
       simp only [Option.some.injEq, Prod.mk.injEq] at h
       obtain ⟨rfl, rfl⟩ := h
       have b1 := decide_eq_false c1
       clear c1
       go_wp2_with (((with_reducible refine gate_callee (f := 77) rfl ?_); refine goesL_ (some 73) rfl rfl Try.func77 (by kernel_rfl) rfl #[.int .i64 m, .slice o1 x1.length e1, .slice o2 x2.length e2] rfl zq6 ?_; have hq1 := Kd.R_reads' HO1.out; have hq2 := Kd.R_reads' HO2.out; rw [hq1.1] at hq1; rw [hq2.1] at hq2; have hc := impl_boxOf.calls k m o1 e1 y1 o2 e2 y2 r1 r2 r3 r4 wr hq1.2.2 hq1.2.1 hq2.2.2 hq2.2.1 hF.out; rw [← (Kd.R_reads' HO1.out).1, ← (Kd.R_reads' HO2.out).1] at hc; refine hc.mono ?_; clear hc hq1 hq2; rintro e w9 ⟨v1, v2, rfl, ho1, ho2, hb⟩; refine ⟨_, rfl, ?_⟩; obtain ⟨p1, q1, eo1⟩ := Kd.R_slice ho1; subst eo1; obtain ⟨p2, q2, eo2⟩ := Kd.R_slice ho2; subst eo2; have HQ1 := Aside0.mk (Kd.R_lower ho1 (below_size (zb1 HB))); have HQ2 := Aside0.mk (Kd.R_lower ho2 (below_size (zb1 HB))); replace BK4 := Aside0.mk (zbb BK4 hb); replace HB := Aside0.mk (below_step (zb1 HB) hb); clear hb ho1 ho2; have hcye4_0 : w9.cell? ⟨gb4, 0, none⟩ = some (.int .i64 0) := zc BK4 0; have hfye4_0 := blk_frozen BK4.out 0; have hcye4_1 : w9.cell? ⟨gb4, 1, none⟩ = some (.slice none 0 0) := zc BK4 1; have hfye4_1 := blk_frozen BK4.out 1; have hcye4_2 : w9.cell? ⟨gb4, 2, none⟩ = some (.slice none 0 0) := zc BK4 2; have hfye4_2 := blk_frozen BK4.out 2))
       refine bodyPost_ret (results_ct rfl _ _ gb4 27 #[.int .i64 r1, .slice p1 r2.length q1, .slice p2 r3.length q2] (0, 0) _ rfl (by exact blk_put (cs := #[.int .i64 r1, .slice p1 r2.length q1, .slice none 0 0]) (blk_put (cs := #[.int .i64 r1, .slice none 0 0, .slice none 0 0]) (blk_put (cs := #[.int .i64 0, .slice none 0 0, .slice none 0 0]) BK4.out 0 _ rfl) 1 _ rfl) 2 _ rfl) Try.underlying27 rfl (by kernel_rfl)) rfl ?_
       exact ⟨_, _, by first | rfl | (simp; done) | (simp [*]; done), (by (with_reducible repeat (first | apply Kd.R_alloc | apply Kd.R_drewN | apply Kd.R_drew)); exact Kd.R_mono (Kd.R_far (p := ⟨gb4, 2, none⟩) (Kd.R_far (p := ⟨gb4, 1, none⟩) (Kd.R_far (p := ⟨gb4, 0, none⟩) (Kd.R_types HQ1.out BK4.out (by decide)) (fun _ hk => hk.2) (.int .i64 r1)) (fun _ hk => hk.2) (.slice p1 r2.length q1)) (fun _ hk => hk.2) (.slice p2 r3.length q2)) (fun _ hk => hk.1)), (by (with_reducible repeat (first | apply Kd.R_alloc | apply Kd.R_drewN | apply Kd.R_drew)); exact Kd.R_mono (Kd.R_far (p := ⟨gb4, 2, none⟩) (Kd.R_far (p := ⟨gb4, 1, none⟩) (Kd.R_far (p := ⟨gb4, 0, none⟩) (Kd.R_types HQ2.out BK4.out (by decide)) (fun _ hk => hk.2) (.int .i64 r1)) (fun _ hk => hk.2) (.slice p1 r2.length q1)) (fun _ hk => hk.2) (.slice p2 r3.length q2)) (fun _ hk => hk.1)), (zb1 HB)⟩
   ·
    rw [if_neg hl] at h
    simp only [Option.some.injEq, Prod.mk.injEq] at h
    obtain ⟨rfl, rfl, rfl, rfl⟩ := h
    have hl1 : (l0_1.length == l1_1.length) = false := by simp [hl]
    have hl2 : ((l0_1.length : Int) == (l1_1.length : Int)) = false := by simp; omega
    have hl3 : ((l0_1.length : Int) != (l1_1.length : Int)) = true := by simp; omega
    clear hl
    go_enter Try.func42, Try.ntmps42
    go_wp2_with (first | ((with_reducible refine gate_dst (N := 2) rfl ?_); refine zbe (N := 2) (cs := #[.int .i64 a0_0, .slice A0_1 l0_1.length c0_1, .slice A0_2 l0_2.length c0_2]) (t := 27) ?_; intro gb2 hg w2 hbox hb; have BK2 := Aside0.mk hbox; have GW2 := Aside0.mk (zge (zb1 HB) hg); replace HB := Aside0.mk (below_step (zb1 HB) hb); clear hb hbox hg) | ((with_reducible refine gate_dst (N := 3) rfl ?_); refine zbe (N := 3) (cs := #[.int .i64 a1_0, .slice A1_1 l1_1.length c1_1, .slice A1_2 l1_2.length c1_2]) (t := 27) ?_; intro gb3 hg w3 hbox hb; have BK3 := Aside0.mk hbox; have GW3 := Aside0.mk (zge (zb1 HB) hg); have NB23 := Aside0.mk (zlt BK2 hg); replace BK2 := Aside0.mk (zbb BK2 hb); replace HB := Aside0.mk (below_step (zb1 HB) hb); clear hb hbox hg) | ((with_reducible refine gate_dst (N := 4) rfl ?_); refine zbe (N := 4) (cs := #[.int .i64 0, .slice none 0 0, .slice none 0 0]) (t := 27) ?_; intro gb4 hg w4 hbox hb; have BK4 := Aside0.mk hbox; have GW4 := Aside0.mk (zge (zb1 HB) hg); have NB24 := Aside0.mk (zlt BK2 hg); replace BK2 := Aside0.mk (zbb BK2 hb); have NB34 := Aside0.mk (zlt BK3 hg); replace BK3 := Aside0.mk (zbb BK3 hb); replace HB := Aside0.mk (below_step (zb1 HB) hb); clear hb hbox hg; have hcyz4_0 : w4.cell? ⟨gb4, 0, none⟩ = some (.int .i64 0) := zc BK4 0; have hfyz4_0 := blk_frozen BK4.out 0; have hcyz4_1 : w4.cell? ⟨gb4, 1, none⟩ = some (.slice none 0 0) := zc BK4 1; have hfyz4_1 := blk_frozen BK4.out 1; have hcyz4_2 : w4.cell? ⟨gb4, 2, none⟩ = some (.slice none 0 0) := zc BK4 2; have hfyz4_2 := blk_frozen BK4.out 2) | ((with_reducible refine gate_callee (f := 57) rfl ?_); refine goesL_ (some 10) rfl rfl Try.func57 (by kernel_rfl) rfl #[.pointer (some ⟨gb2, 0, none⟩)] rfl zq6 ?_; refine (impl_isBox.reads k gb2 a0_0 A0_1 c0_1 l0_1 A0_2 c0_2 l0_2 true p2 _ (zq1 BK2) (Kd.C_below HR01.out (zb1 HB)) (Kd.C_below HR02.out (zb1 HB)) hA.out).mono ?_; rintro e wa ⟨rfl, hb⟩; refine ⟨_, rfl, ?_⟩; replace BK2 := Aside0.mk (zbb BK2 hb); replace BK3 := Aside0.mk (zbb BK3 hb); replace BK4 := Aside0.mk (zbb BK4 hb); replace HB := Aside0.mk (below_step (zb1 HB) hb); clear hb; have hc2_1 : wa.cell? ⟨gb2, 1, none⟩ = some (.slice A0_1 l0_1.length c0_1) := zc BK2 1; have hc3_1 : wa.cell? ⟨gb3, 1, none⟩ = some (.slice A1_1 l1_1.length c1_1) := zc BK3 1; have hcya4_0 : wa.cell? ⟨gb4, 0, none⟩ = some (.int .i64 0) := zc BK4 0; have hfya4_0 := blk_frozen BK4.out 0; have hcya4_1 : wa.cell? ⟨gb4, 1, none⟩ = some (.slice none 0 0) := zc BK4 1; have hfya4_1 := blk_frozen BK4.out 1; have hcya4_2 : wa.cell? ⟨gb4, 2, none⟩ = some (.slice none 0 0) := zc BK4 2; have hfya4_2 := blk_frozen BK4.out 2) | (go_at_call 57; refine (impl_isBox.reads k gb3 a1_0 A1_1 c1_1 l1_1 A1_2 c1_2 l1_2 true q2 _ (zq1 BK3) (Kd.C_below HR11.out (zb1 HB)) (Kd.C_below HR12.out (zb1 HB)) hB2.out).mono ?_; rintro e wb ⟨rfl, hb⟩; replace BK2 := Aside0.mk (zbb BK2 hb); replace BK3 := Aside0.mk (zbb BK3 hb); replace BK4 := Aside0.mk (zbb BK4 hb); replace HB := Aside0.mk (below_step (zb1 HB) hb); clear hb; clear hc2_1 hc3_1; have hc2_1 : wb.cell? ⟨gb2, 1, none⟩ = some (.slice A0_1 l0_1.length c0_1) := zc BK2 1; have hc3_1 : wb.cell? ⟨gb3, 1, none⟩ = some (.slice A1_1 l1_1.length c1_1) := zc BK3 1; have hcyb4_0 : wb.cell? ⟨gb4, 0, none⟩ = some (.int .i64 0) := zc BK4 0; have hfyb4_0 := blk_frozen BK4.out 0; have hcyb4_1 : wb.cell? ⟨gb4, 1, none⟩ = some (.slice none 0 0) := zc BK4 1; have hfyb4_1 := blk_frozen BK4.out 1; have hcyb4_2 : wb.cell? ⟨gb4, 2, none⟩ = some (.slice none 0 0) := zc BK4 2; have hfyb4_2 := blk_frozen BK4.out 2))
    refine bodyPost_ret (results_ct rfl _ _ gb4 27 #[.int .i64 0, .slice none 0 0, .slice none 0 0] (0, 0) _ rfl (by exact blk_put (cs := #[.int .i64 0, .slice none 0 0, .slice none 0 0]) (blk_put (cs := #[.int .i64 0, .slice none 0 0, .slice none 0 0]) (blk_put (cs := #[.int .i64 0, .slice none 0 0, .slice none 0 0]) BK4.out 0 _ rfl) 1 _ rfl) 2 _ rfl) Try.underlying27 rfl (by kernel_rfl)) rfl ?_
    exact ⟨_, _, by first | rfl | (simp; done) | (simp [*]; done), Kd.R_nil _ _ _ _ _, Kd.R_nil _ _ _ _ _, (zb1 HB)⟩
end Go.Proofs.Ytgaoniapddpaaaa.PD
