-- By wip/mk/drv.py
import Derived.Test.YtgaoniapddpaaaaQCornOfPDx0
import Derived.Test.YtgaoniapddpaaaaQCornOfPDx1
import Derived.Test.YtgaoniapddpaaaaQCornOfPDx2
import Derived.Test.YtgaoniapddpaaaaQCornOfPDx4
import Derived.Test.YtgaoniapddpaaaaQCornOfPDx6
import Derived.Test.YtgaoniapddpaaaaQCornOfPDx7
import Derived.Test.YtgaoniapddpaaaaQCornOfPDx19
import Derived.Test.YtgaoniapddpaaaaQCornOfPDx24
import Derived.Test.YtgaoniapddpaaaaQCornOfPDx26
namespace Go.Proofs.Ytgaoniapddpaaaa.PD
open Go.RowKit Go.Proofs.YtgaoniapddpaaaaW.PrintWords Go.Proofs.YtgaoniapddpaaaaW.PrintLast Go.Proofs.YtgaoniapddpaaaaW.PrintMore
attribute [local go_sem] max2_int min2_int max_two min_two max_three min_three max_four min_four
set_option linter.unusedVariables false
set_option linter.unusedSimpArgs false
/-! ### laws_FnExactCornersOf: function 11 -/
-- PROOF
theorem z_step {α : Type} {d : Kd α} {e base B : Nat} {ok : Nat → Prop} {W w1 : World} {u : Value} {xs : List α} (hb : Below B W w1) (h : Kd.S d e W base (fun k => ok k ∧ k < B) u xs) : Kd.S d e w1 base (fun k => ok k ∧ k < B) u xs := Kd.S_step h (fun k hk _ => hb.block k hk.2)
theorem z_pack {α β : Type} {d : Kd α} {d' : Kd β} {e e' base n ga : Nat} {ok : Nat → Prop} {W w1 : World} {u v : Value} {xs : List α} {ys : List β} (hp : Kd.S d e W base ok u xs) (hg : Kd.S d' e' w1 W.heap.size (fun k_ => W.heap.size ≤ k_) v ys) (hb : Below W.heap.size W w1) (ha : ga < W.heap.size) (hn : n ≤ W.heap.size) :
    ∃ B, Kd.S d e w1 base (fun k => ok k ∧ k < B) u xs ∧ Kd.S d' e' w1 B (fun k_ => B ≤ k_) v ys ∧ (ga < B ∧ n ≤ B) ∧ B ≤ w1.heap.size := ⟨W.heap.size, Kd.S_old hp hb, hg, ⟨ha, hn⟩, hb.size⟩
theorem z_chain {n B : Nat} {w W w1 : World} (h0 : Below n w W) (h1 : Below B W w1) (hn : n ≤ B) : Below n w w1 := ⟨h1.os.trans h0.os, h1.tape.trans h0.tape, h1.output.trans h0.output, Nat.le_trans h0.size h1.size, fun k hk => (h1.block k (by omega)).trans (h0.block k hk)⟩
set_option maxHeartbeats 8000000 in
set_option maxRecDepth 100000 in
theorem laws_FnExactCornersOf.calls (k : Nat) (a0_0 : Int) (A0_1 : Option Addr) (c0_1 : Nat) (l0_1 : List Int) (A0_2 : Option Addr) (c0_2 : Nat) (l0_2 : List Int) (r : Bool) (w : World) (hr0_1 : Kd.C (Kd.int .i64) w A0_1 l0_1.length l0_1) (hc0_1 : l0_1.length ≤ c0_1) (hr0_2 : Kd.C (Kd.int .i64) w A0_2 l0_2.length l0_2) (hc0_2 : l0_2.length ≤ c0_2) (h : laws_FnExactCornersOf.f k a0_0 l0_1 l0_2 = some r) :
  Calls Try.prog 11 #[.agg #[.int .i64 a0_0, .slice A0_1 l0_1.length c0_1, .slice A0_2 l0_2.length c0_2]] w fun e w' => e = .returned (.bool r) ∧ Below w.heap.size w w' := by
 have hu24 := Try.underlying24
 have hu27 := Try.underlying27
 have HR0_1 := Aside0.mk hr0_1
 have HC0_1 := Aside0.mk hc0_1
 clear hr0_1 hc0_1
 have HR0_2 := Aside0.mk hr0_2
 have HC0_2 := Aside0.mk hc0_2
 clear hr0_2 hc0_2
 have HB := Aside0.mk (Below.refl w.heap.size w)
 have H : ((laws_szBox.f a0_0 l0_1 l0_2 1000000).bind fun t364 => (if t364 < 0 then (some true) else ((laws_toBox.f k a0_0 l0_1 l0_2 false).bind fun bt365 => ((spec_CornersOf.f k bt365.1 bt365.2.1 bt365.2.2).bind fun bt372 => ((laws_toBox.f k a0_0 l0_1 l0_2 false).bind fun bt376 => ((impl_CornersOf.f k bt376.1 bt376.2.1 bt376.2.2).bind fun bt384 => ((laws_eqDyadicSS.f k bt384.1 bt372.1).bind fun t388 => (if t388 = true then (if (bt384.2 != bt372.2) = true then (none) else ((laws_toBox.f k a0_0 l0_1 l0_2 false).bind fun bt389 => ((laws_intactBox.f bt376.1 bt376.2.1 bt376.2.2 bt389.1 bt389.2.1 bt389.2.2).bind fun t396 => (if t396 = true then ((laws_markBox.f k bt376.1 bt376.2.1 bt376.2.2 101).bind fun bt397 => (if bt397.1 < 0 then (none) else ((laws_eqDyadicSS.f k bt384.1 bt372.1).bind fun t400 => (if t400 = true then ((laws_markDyadicSS.f k bt384.1 101).bind fun bt401 => ((laws_heldDyadicSS.f k bt401.2 101).bind fun t402 => (if t402 < 0 then (none) else (if t402 = bt401.1 then ((laws_toBox.f k a0_0 l0_1 l0_2 true).bind fun bt403 => ((impl_CornersOf.f k bt403.1 bt403.2.1 bt403.2.2).bind fun bt410 => ((laws_eqDyadicSS.f k bt410.1 bt372.1).bind fun t414 => (if t414 = true then (if (bt410.2 != bt372.2) = true then (none) else ((laws_heldDyadicSS.f k bt401.2 101).bind fun t415 => (if t415 < 0 then (none) else (if t415 = bt401.1 then (some true) else (none))))) else (none))))) else (none))))) else (none))))) else (none))))) else (none))))))))) = some r := h
 clear h
 replace H := Option.bind_eq_some_iff.mp H
 obtain ⟨t364, A20, H⟩ := H
 replace H : (if t364 < 0 then (some true) else ((laws_toBox.f k a0_0 l0_1 l0_2 false).bind fun bt365 => ((spec_CornersOf.f k bt365.1 bt365.2.1 bt365.2.2).bind fun bt372 => ((laws_toBox.f k a0_0 l0_1 l0_2 false).bind fun bt376 => ((impl_CornersOf.f k bt376.1 bt376.2.1 bt376.2.2).bind fun bt384 => ((laws_eqDyadicSS.f k bt384.1 bt372.1).bind fun t388 => (if t388 = true then (if (bt384.2 != bt372.2) = true then (none) else ((laws_toBox.f k a0_0 l0_1 l0_2 false).bind fun bt389 => ((laws_intactBox.f bt376.1 bt376.2.1 bt376.2.2 bt389.1 bt389.2.1 bt389.2.2).bind fun t396 => (if t396 = true then ((laws_markBox.f k bt376.1 bt376.2.1 bt376.2.2 101).bind fun bt397 => (if bt397.1 < 0 then (none) else ((laws_eqDyadicSS.f k bt384.1 bt372.1).bind fun t400 => (if t400 = true then ((laws_markDyadicSS.f k bt384.1 101).bind fun bt401 => ((laws_heldDyadicSS.f k bt401.2 101).bind fun t402 => (if t402 < 0 then (none) else (if t402 = bt401.1 then ((laws_toBox.f k a0_0 l0_1 l0_2 true).bind fun bt403 => ((impl_CornersOf.f k bt403.1 bt403.2.1 bt403.2.2).bind fun bt410 => ((laws_eqDyadicSS.f k bt410.1 bt372.1).bind fun t414 => (if t414 = true then (if (bt410.2 != bt372.2) = true then (none) else ((laws_heldDyadicSS.f k bt401.2 101).bind fun t415 => (if t415 < 0 then (none) else (if t415 = bt401.1 then (some true) else (none))))) else (none))))) else (none))))) else (none))))) else (none))))) else (none)))))))) = some r := H
 have A2 := Aside0.mk A20
 clear A20
 by_cases c3 : t364 < 0
 ·
  rw [if_pos c3] at H
  have c3b0 : decide (t364 < 0) = true := decide_eq_true c3
  clear c3
  obtain rfl := Option.some.inj H
  go_enter Try.func11, Try.ntmps11
  go_wp2_with (first | ((with_reducible refine gate_dst (N := 1) rfl ?_); refine zbe (N := 1) (cs := #[.int .i64 a0_0, .slice A0_1 l0_1.length c0_1, .slice A0_2 l0_2.length c0_2]) (t := 24) ?_; intro gb363 hg w4 hbox hb; have BK363 := Aside0.mk (hbox); have GW363 := Aside0.mk (zge (zb0 HB) hg); have GE363 := GW363; replace HB := Aside0.mk (below_step (zb0 HB) hb); clear hb hbox hg; have hcz5_0 : w4.cell? ⟨gb363, 0, none⟩ = some (.int .i64 a0_0) := zc BK363 0; have hcz5_1 : w4.cell? ⟨gb363, 1, none⟩ = some (.slice A0_1 l0_1.length c0_1) := zc BK363 1; have hcz5_2 : w4.cell? ⟨gb363, 2, none⟩ = some (.slice A0_2 l0_2.length c0_2) := zc BK363 2; have hfz5_0 := blk_frozen BK363.out 0; have hfz5_1 := blk_frozen BK363.out 1; have hfz5_2 := blk_frozen BK363.out 2) | ((with_reducible refine gate_callee (f := 14) rfl ?_); refine goesL_ (some 16) rfl rfl Try.func14 (by kernel_rfl) rfl #[.agg #[.int .i64 a0_0, .slice A0_1 l0_1.length c0_1, .slice A0_2 l0_2.length c0_2], .int .i64 1000000] rfl zq6 ?_; (with_reducible refine (laws_szBox.calls a0_0 _ _ l0_1 _ _ l0_2 1000000 t364 _ ?side1 ?side2 ?side3 ?side4 A2.out).mono ?_); (case side1 => repeat (first | exact (Kd.C_below HR0_1.out HB.out) | (with_reducible refine Kd.C_alloc ?_ _) | (with_reducible refine Kd.C_drewN ?_ _) | (with_reducible refine Kd.C_drew ?_))); (case side2 => exact HC0_1.out); (case side3 => repeat (first | exact (Kd.C_below HR0_2.out HB.out) | (with_reducible refine Kd.C_alloc ?_ _) | (with_reducible refine Kd.C_drewN ?_ _) | (with_reducible refine Kd.C_drew ?_))); (case side4 => exact HC0_2.out); rintro e w6 ⟨rfl, hb⟩; refine ⟨_, rfl, ?_⟩; replace HB := Aside0.mk (below_step (zb0 HB) hb); (try clear hb); (try clear hb2); (try clear hk); (try clear hi)))
  go_ret
  exact ⟨by first | rfl | (simp [errW_none, errW_some] <;> rfl) | (simp [*, errW_none, errW_some] <;> rfl), (zb0 HB)⟩
 ·
  rw [if_neg c3] at H
  have c3b0 : decide (t364 < 0) = false := decide_eq_false c3
  clear c3
  replace H := Option.bind_eq_some_iff.mp H
  obtain ⟨⟨t365, t366, t369⟩, A70, H⟩ := H
  replace H : ((spec_CornersOf.f k t365 t366 t369).bind fun bt372 => ((laws_toBox.f k a0_0 l0_1 l0_2 false).bind fun bt376 => ((impl_CornersOf.f k bt376.1 bt376.2.1 bt376.2.2).bind fun bt384 => ((laws_eqDyadicSS.f k bt384.1 bt372.1).bind fun t388 => (if t388 = true then (if (bt384.2 != bt372.2) = true then (none) else ((laws_toBox.f k a0_0 l0_1 l0_2 false).bind fun bt389 => ((laws_intactBox.f bt376.1 bt376.2.1 bt376.2.2 bt389.1 bt389.2.1 bt389.2.2).bind fun t396 => (if t396 = true then ((laws_markBox.f k bt376.1 bt376.2.1 bt376.2.2 101).bind fun bt397 => (if bt397.1 < 0 then (none) else ((laws_eqDyadicSS.f k bt384.1 bt372.1).bind fun t400 => (if t400 = true then ((laws_markDyadicSS.f k bt384.1 101).bind fun bt401 => ((laws_heldDyadicSS.f k bt401.2 101).bind fun t402 => (if t402 < 0 then (none) else (if t402 = bt401.1 then ((laws_toBox.f k a0_0 l0_1 l0_2 true).bind fun bt403 => ((impl_CornersOf.f k bt403.1 bt403.2.1 bt403.2.2).bind fun bt410 => ((laws_eqDyadicSS.f k bt410.1 bt372.1).bind fun t414 => (if t414 = true then (if (bt410.2 != bt372.2) = true then (none) else ((laws_heldDyadicSS.f k bt401.2 101).bind fun t415 => (if t415 < 0 then (none) else (if t415 = bt401.1 then (some true) else (none))))) else (none))))) else (none))))) else (none))))) else (none))))) else (none)))))) = some r := H
  have A7 := Aside0.mk A70
  clear A70
  replace H := Option.bind_eq_some_iff.mp H
  obtain ⟨⟨t372, t375⟩, A80, H⟩ := H
  replace H : ((laws_toBox.f k a0_0 l0_1 l0_2 false).bind fun bt376 => ((impl_CornersOf.f k bt376.1 bt376.2.1 bt376.2.2).bind fun bt384 => ((laws_eqDyadicSS.f k bt384.1 t372).bind fun t388 => (if t388 = true then (if (bt384.2 != t375) = true then (none) else ((laws_toBox.f k a0_0 l0_1 l0_2 false).bind fun bt389 => ((laws_intactBox.f bt376.1 bt376.2.1 bt376.2.2 bt389.1 bt389.2.1 bt389.2.2).bind fun t396 => (if t396 = true then ((laws_markBox.f k bt376.1 bt376.2.1 bt376.2.2 101).bind fun bt397 => (if bt397.1 < 0 then (none) else ((laws_eqDyadicSS.f k bt384.1 t372).bind fun t400 => (if t400 = true then ((laws_markDyadicSS.f k bt384.1 101).bind fun bt401 => ((laws_heldDyadicSS.f k bt401.2 101).bind fun t402 => (if t402 < 0 then (none) else (if t402 = bt401.1 then ((laws_toBox.f k a0_0 l0_1 l0_2 true).bind fun bt403 => ((impl_CornersOf.f k bt403.1 bt403.2.1 bt403.2.2).bind fun bt410 => ((laws_eqDyadicSS.f k bt410.1 t372).bind fun t414 => (if t414 = true then (if (bt410.2 != t375) = true then (none) else ((laws_heldDyadicSS.f k bt401.2 101).bind fun t415 => (if t415 < 0 then (none) else (if t415 = bt401.1 then (some true) else (none))))) else (none))))) else (none))))) else (none))))) else (none))))) else (none))))) = some r := H
  have A8 := Aside0.mk A80
  clear A80
  replace H := Option.bind_eq_some_iff.mp H
  obtain ⟨⟨t376, t377, t380⟩, A90, H⟩ := H
  replace H : ((impl_CornersOf.f k t376 t377 t380).bind fun bt384 => ((laws_eqDyadicSS.f k bt384.1 t372).bind fun t388 => (if t388 = true then (if (bt384.2 != t375) = true then (none) else ((laws_toBox.f k a0_0 l0_1 l0_2 false).bind fun bt389 => ((laws_intactBox.f t376 t377 t380 bt389.1 bt389.2.1 bt389.2.2).bind fun t396 => (if t396 = true then ((laws_markBox.f k t376 t377 t380 101).bind fun bt397 => (if bt397.1 < 0 then (none) else ((laws_eqDyadicSS.f k bt384.1 t372).bind fun t400 => (if t400 = true then ((laws_markDyadicSS.f k bt384.1 101).bind fun bt401 => ((laws_heldDyadicSS.f k bt401.2 101).bind fun t402 => (if t402 < 0 then (none) else (if t402 = bt401.1 then ((laws_toBox.f k a0_0 l0_1 l0_2 true).bind fun bt403 => ((impl_CornersOf.f k bt403.1 bt403.2.1 bt403.2.2).bind fun bt410 => ((laws_eqDyadicSS.f k bt410.1 t372).bind fun t414 => (if t414 = true then (if (bt410.2 != t375) = true then (none) else ((laws_heldDyadicSS.f k bt401.2 101).bind fun t415 => (if t415 < 0 then (none) else (if t415 = bt401.1 then (some true) else (none))))) else (none))))) else (none))))) else (none))))) else (none))))) else (none)))) = some r := H
  have A9 := Aside0.mk A90
  clear A90
  replace H := Option.bind_eq_some_iff.mp H
  obtain ⟨⟨t384, t387⟩, A100, H⟩ := H
  replace H : ((laws_eqDyadicSS.f k t384 t372).bind fun t388 => (if t388 = true then (if (t387 != t375) = true then (none) else ((laws_toBox.f k a0_0 l0_1 l0_2 false).bind fun bt389 => ((laws_intactBox.f t376 t377 t380 bt389.1 bt389.2.1 bt389.2.2).bind fun t396 => (if t396 = true then ((laws_markBox.f k t376 t377 t380 101).bind fun bt397 => (if bt397.1 < 0 then (none) else ((laws_eqDyadicSS.f k t384 t372).bind fun t400 => (if t400 = true then ((laws_markDyadicSS.f k t384 101).bind fun bt401 => ((laws_heldDyadicSS.f k bt401.2 101).bind fun t402 => (if t402 < 0 then (none) else (if t402 = bt401.1 then ((laws_toBox.f k a0_0 l0_1 l0_2 true).bind fun bt403 => ((impl_CornersOf.f k bt403.1 bt403.2.1 bt403.2.2).bind fun bt410 => ((laws_eqDyadicSS.f k bt410.1 t372).bind fun t414 => (if t414 = true then (if (bt410.2 != t375) = true then (none) else ((laws_heldDyadicSS.f k bt401.2 101).bind fun t415 => (if t415 < 0 then (none) else (if t415 = bt401.1 then (some true) else (none))))) else (none))))) else (none))))) else (none))))) else (none))))) else (none))) = some r := H
  have A10 := Aside0.mk A100
  clear A100
  replace H := Option.bind_eq_some_iff.mp H
  obtain ⟨t388, A110, H⟩ := H
  replace H : (if t388 = true then (if (t387 != t375) = true then (none) else ((laws_toBox.f k a0_0 l0_1 l0_2 false).bind fun bt389 => ((laws_intactBox.f t376 t377 t380 bt389.1 bt389.2.1 bt389.2.2).bind fun t396 => (if t396 = true then ((laws_markBox.f k t376 t377 t380 101).bind fun bt397 => (if bt397.1 < 0 then (none) else ((laws_eqDyadicSS.f k t384 t372).bind fun t400 => (if t400 = true then ((laws_markDyadicSS.f k t384 101).bind fun bt401 => ((laws_heldDyadicSS.f k bt401.2 101).bind fun t402 => (if t402 < 0 then (none) else (if t402 = bt401.1 then ((laws_toBox.f k a0_0 l0_1 l0_2 true).bind fun bt403 => ((impl_CornersOf.f k bt403.1 bt403.2.1 bt403.2.2).bind fun bt410 => ((laws_eqDyadicSS.f k bt410.1 t372).bind fun t414 => (if t414 = true then (if (bt410.2 != t375) = true then (none) else ((laws_heldDyadicSS.f k bt401.2 101).bind fun t415 => (if t415 < 0 then (none) else (if t415 = bt401.1 then (some true) else (none))))) else (none))))) else (none))))) else (none))))) else (none))))) else (none)) = some r := H
  have A11 := Aside0.mk A110
  clear A110
  by_cases c12 : t388 = true
  ·
   subst c12
   have H1 : (if (t387 != t375) = true then (none) else ((laws_toBox.f k a0_0 l0_1 l0_2 false).bind fun bt389 => ((laws_intactBox.f t376 t377 t380 bt389.1 bt389.2.1 bt389.2.2).bind fun t396 => (if t396 = true then ((laws_markBox.f k t376 t377 t380 101).bind fun bt397 => (if bt397.1 < 0 then (none) else ((laws_eqDyadicSS.f k t384 t372).bind fun t400 => (if t400 = true then ((laws_markDyadicSS.f k t384 101).bind fun bt401 => ((laws_heldDyadicSS.f k bt401.2 101).bind fun t402 => (if t402 < 0 then (none) else (if t402 = bt401.1 then ((laws_toBox.f k a0_0 l0_1 l0_2 true).bind fun bt403 => ((impl_CornersOf.f k bt403.1 bt403.2.1 bt403.2.2).bind fun bt410 => ((laws_eqDyadicSS.f k bt410.1 t372).bind fun t414 => (if t414 = true then (if (bt410.2 != t375) = true then (none) else ((laws_heldDyadicSS.f k bt401.2 101).bind fun t415 => (if t415 < 0 then (none) else (if t415 = bt401.1 then (some true) else (none))))) else (none))))) else (none))))) else (none))))) else (none))))) = some r := by rw [if_pos rfl] at H; exact H
   clear H
   have H := H1
   clear H1
   by_cases c13 : (t387 != t375) = true
   ·
    rw [if_pos c13] at H
    exact absurd H (by simp)
   ·
    rw [if_neg c13] at H
    have c13b0 : (t387 != t375) = false := by simpa using c13
    (try (have c13b1 : decide (t387 = t375) = true := by simpa using c13))
    (try (have c13b2 : (t387 == t375) = true := by simpa using c13))
    clear c13
    replace H := Option.bind_eq_some_iff.mp H
    obtain ⟨⟨t389, t390, t393⟩, A140, H⟩ := H
    replace H : ((laws_intactBox.f t376 t377 t380 t389 t390 t393).bind fun t396 => (if t396 = true then ((laws_markBox.f k t376 t377 t380 101).bind fun bt397 => (if bt397.1 < 0 then (none) else ((laws_eqDyadicSS.f k t384 t372).bind fun t400 => (if t400 = true then ((laws_markDyadicSS.f k t384 101).bind fun bt401 => ((laws_heldDyadicSS.f k bt401.2 101).bind fun t402 => (if t402 < 0 then (none) else (if t402 = bt401.1 then ((laws_toBox.f k a0_0 l0_1 l0_2 true).bind fun bt403 => ((impl_CornersOf.f k bt403.1 bt403.2.1 bt403.2.2).bind fun bt410 => ((laws_eqDyadicSS.f k bt410.1 t372).bind fun t414 => (if t414 = true then (if (bt410.2 != t375) = true then (none) else ((laws_heldDyadicSS.f k bt401.2 101).bind fun t415 => (if t415 < 0 then (none) else (if t415 = bt401.1 then (some true) else (none))))) else (none))))) else (none))))) else (none))))) else (none))) = some r := H
    have A14 := Aside0.mk A140
    clear A140
    replace H := Option.bind_eq_some_iff.mp H
    obtain ⟨t396, A150, H⟩ := H
    replace H : (if t396 = true then ((laws_markBox.f k t376 t377 t380 101).bind fun bt397 => (if bt397.1 < 0 then (none) else ((laws_eqDyadicSS.f k t384 t372).bind fun t400 => (if t400 = true then ((laws_markDyadicSS.f k t384 101).bind fun bt401 => ((laws_heldDyadicSS.f k bt401.2 101).bind fun t402 => (if t402 < 0 then (none) else (if t402 = bt401.1 then ((laws_toBox.f k a0_0 l0_1 l0_2 true).bind fun bt403 => ((impl_CornersOf.f k bt403.1 bt403.2.1 bt403.2.2).bind fun bt410 => ((laws_eqDyadicSS.f k bt410.1 t372).bind fun t414 => (if t414 = true then (if (bt410.2 != t375) = true then (none) else ((laws_heldDyadicSS.f k bt401.2 101).bind fun t415 => (if t415 < 0 then (none) else (if t415 = bt401.1 then (some true) else (none))))) else (none))))) else (none))))) else (none))))) else (none)) = some r := H
    have A15 := Aside0.mk A150
    clear A150
    by_cases c16 : t396 = true
    ·
     subst c16
     have H1 : ((laws_markBox.f k t376 t377 t380 101).bind fun bt397 => (if bt397.1 < 0 then (none) else ((laws_eqDyadicSS.f k t384 t372).bind fun t400 => (if t400 = true then ((laws_markDyadicSS.f k t384 101).bind fun bt401 => ((laws_heldDyadicSS.f k bt401.2 101).bind fun t402 => (if t402 < 0 then (none) else (if t402 = bt401.1 then ((laws_toBox.f k a0_0 l0_1 l0_2 true).bind fun bt403 => ((impl_CornersOf.f k bt403.1 bt403.2.1 bt403.2.2).bind fun bt410 => ((laws_eqDyadicSS.f k bt410.1 t372).bind fun t414 => (if t414 = true then (if (bt410.2 != t375) = true then (none) else ((laws_heldDyadicSS.f k bt401.2 101).bind fun t415 => (if t415 < 0 then (none) else (if t415 = bt401.1 then (some true) else (none))))) else (none))))) else (none))))) else (none))))) = some r := by rw [if_pos rfl] at H; exact H
     clear H
     have H := H1
     clear H1
     replace H := Option.bind_eq_some_iff.mp H
     obtain ⟨⟨t397, t398, t399⟩, A170, H⟩ := H
     replace H : (if t397 < 0 then (none) else ((laws_eqDyadicSS.f k t384 t372).bind fun t400 => (if t400 = true then ((laws_markDyadicSS.f k t384 101).bind fun bt401 => ((laws_heldDyadicSS.f k bt401.2 101).bind fun t402 => (if t402 < 0 then (none) else (if t402 = bt401.1 then ((laws_toBox.f k a0_0 l0_1 l0_2 true).bind fun bt403 => ((impl_CornersOf.f k bt403.1 bt403.2.1 bt403.2.2).bind fun bt410 => ((laws_eqDyadicSS.f k bt410.1 t372).bind fun t414 => (if t414 = true then (if (bt410.2 != t375) = true then (none) else ((laws_heldDyadicSS.f k bt401.2 101).bind fun t415 => (if t415 < 0 then (none) else (if t415 = bt401.1 then (some true) else (none))))) else (none))))) else (none))))) else (none)))) = some r := H
     have A17 := Aside0.mk A170
     clear A170
     by_cases c18 : t397 < 0
     ·
      rw [if_pos c18] at H
      exact absurd H (by simp)
     ·
      rw [if_neg c18] at H
      have c18b0 : decide (t397 < 0) = false := decide_eq_false c18
      clear c18
      replace H := Option.bind_eq_some_iff.mp H
      obtain ⟨t400, A190, H⟩ := H
      replace H : (if t400 = true then ((laws_markDyadicSS.f k t384 101).bind fun bt401 => ((laws_heldDyadicSS.f k bt401.2 101).bind fun t402 => (if t402 < 0 then (none) else (if t402 = bt401.1 then ((laws_toBox.f k a0_0 l0_1 l0_2 true).bind fun bt403 => ((impl_CornersOf.f k bt403.1 bt403.2.1 bt403.2.2).bind fun bt410 => ((laws_eqDyadicSS.f k bt410.1 t372).bind fun t414 => (if t414 = true then (if (bt410.2 != t375) = true then (none) else ((laws_heldDyadicSS.f k bt401.2 101).bind fun t415 => (if t415 < 0 then (none) else (if t415 = bt401.1 then (some true) else (none))))) else (none))))) else (none))))) else (none)) = some r := H
      have A19 := Aside0.mk A190
      clear A190
      by_cases c20 : t400 = true
      ·
       subst c20
       have H1 : ((laws_markDyadicSS.f k t384 101).bind fun bt401 => ((laws_heldDyadicSS.f k bt401.2 101).bind fun t402 => (if t402 < 0 then (none) else (if t402 = bt401.1 then ((laws_toBox.f k a0_0 l0_1 l0_2 true).bind fun bt403 => ((impl_CornersOf.f k bt403.1 bt403.2.1 bt403.2.2).bind fun bt410 => ((laws_eqDyadicSS.f k bt410.1 t372).bind fun t414 => (if t414 = true then (if (bt410.2 != t375) = true then (none) else ((laws_heldDyadicSS.f k bt401.2 101).bind fun t415 => (if t415 < 0 then (none) else (if t415 = bt401.1 then (some true) else (none))))) else (none))))) else (none))))) = some r := by rw [if_pos rfl] at H; exact H
       clear H
       have H := H1
       clear H1
       replace H := Option.bind_eq_some_iff.mp H
       obtain ⟨⟨t401, t401g⟩, A210, H⟩ := H
       replace H : ((laws_heldDyadicSS.f k t401g 101).bind fun t402 => (if t402 < 0 then (none) else (if t402 = t401 then ((laws_toBox.f k a0_0 l0_1 l0_2 true).bind fun bt403 => ((impl_CornersOf.f k bt403.1 bt403.2.1 bt403.2.2).bind fun bt410 => ((laws_eqDyadicSS.f k bt410.1 t372).bind fun t414 => (if t414 = true then (if (bt410.2 != t375) = true then (none) else ((laws_heldDyadicSS.f k t401g 101).bind fun t415 => (if t415 < 0 then (none) else (if t415 = t401 then (some true) else (none))))) else (none))))) else (none)))) = some r := H
       have A21 := Aside0.mk A210
       clear A210
       replace H := Option.bind_eq_some_iff.mp H
       obtain ⟨t402, A220, H⟩ := H
       replace H : (if t402 < 0 then (none) else (if t402 = t401 then ((laws_toBox.f k a0_0 l0_1 l0_2 true).bind fun bt403 => ((impl_CornersOf.f k bt403.1 bt403.2.1 bt403.2.2).bind fun bt410 => ((laws_eqDyadicSS.f k bt410.1 t372).bind fun t414 => (if t414 = true then (if (bt410.2 != t375) = true then (none) else ((laws_heldDyadicSS.f k t401g 101).bind fun t415 => (if t415 < 0 then (none) else (if t415 = t401 then (some true) else (none))))) else (none))))) else (none))) = some r := H
       have A22 := Aside0.mk A220
       clear A220
       by_cases c23 : t402 < 0
       ·
        rw [if_pos c23] at H
        exact absurd H (by simp)
       ·
        rw [if_neg c23] at H
        have c23b0 : decide (t402 < 0) = false := decide_eq_false c23
        clear c23
        by_cases c24 : t402 = t401
        ·
         rw [if_pos c24] at H
         have c24b0 : (t402 == t401) = true := beq_iff_eq.mpr c24
         have c24b1 : (t402 != t401) = false := bne_eq_false_iff_eq.mpr c24
         clear c24
         replace H := Option.bind_eq_some_iff.mp H
         obtain ⟨⟨t403, t404, t407⟩, A250, H⟩ := H
         replace H : ((impl_CornersOf.f k t403 t404 t407).bind fun bt410 => ((laws_eqDyadicSS.f k bt410.1 t372).bind fun t414 => (if t414 = true then (if (bt410.2 != t375) = true then (none) else ((laws_heldDyadicSS.f k t401g 101).bind fun t415 => (if t415 < 0 then (none) else (if t415 = t401 then (some true) else (none))))) else (none)))) = some r := H
         have A25 := Aside0.mk A250
         clear A250
         replace H := Option.bind_eq_some_iff.mp H
         obtain ⟨⟨t410, t413⟩, A260, H⟩ := H
         replace H : ((laws_eqDyadicSS.f k t410 t372).bind fun t414 => (if t414 = true then (if (t413 != t375) = true then (none) else ((laws_heldDyadicSS.f k t401g 101).bind fun t415 => (if t415 < 0 then (none) else (if t415 = t401 then (some true) else (none))))) else (none))) = some r := H
         have A26 := Aside0.mk A260
         clear A260
         replace H := Option.bind_eq_some_iff.mp H
         obtain ⟨t414, A270, H⟩ := H
         replace H : (if t414 = true then (if (t413 != t375) = true then (none) else ((laws_heldDyadicSS.f k t401g 101).bind fun t415 => (if t415 < 0 then (none) else (if t415 = t401 then (some true) else (none))))) else (none)) = some r := H
         have A27 := Aside0.mk A270
         clear A270
         by_cases c28 : t414 = true
         ·
          subst c28
          have H1 : (if (t413 != t375) = true then (none) else ((laws_heldDyadicSS.f k t401g 101).bind fun t415 => (if t415 < 0 then (none) else (if t415 = t401 then (some true) else (none))))) = some r := by rw [if_pos rfl] at H; exact H
          clear H
          have H := H1
          clear H1
          by_cases c29 : (t413 != t375) = true
          ·
           rw [if_pos c29] at H
           exact absurd H (by simp)
          ·
           rw [if_neg c29] at H
           have c29b0 : (t413 != t375) = false := by simpa using c29
           (try (have c29b1 : decide (t413 = t375) = true := by simpa using c29))
           (try (have c29b2 : (t413 == t375) = true := by simpa using c29))
           clear c29
           replace H := Option.bind_eq_some_iff.mp H
           obtain ⟨t415, A300, H⟩ := H
           replace H : (if t415 < 0 then (none) else (if t415 = t401 then (some true) else (none))) = some r := H
           have A30 := Aside0.mk A300
           clear A300
           by_cases c31 : t415 < 0
           ·
            rw [if_pos c31] at H
            exact absurd H (by simp)
           ·
            rw [if_neg c31] at H
            have c31b0 : decide (t415 < 0) = false := decide_eq_false c31
            clear c31
            by_cases c32 : t415 = t401
            ·
             rw [if_pos c32] at H
             have c32b0 : (t415 == t401) = true := beq_iff_eq.mpr c32
             have c32b1 : (t415 != t401) = false := bne_eq_false_iff_eq.mpr c32
             clear c32
             obtain rfl := Option.some.inj H
             go_enter Try.func11, Try.ntmps11
             try go_wp2_with (first | ((with_reducible refine gate_dst (N := 1) rfl ?_); refine zbe (N := 1) (cs := #[.int .i64 a0_0, .slice A0_1 l0_1.length c0_1, .slice A0_2 l0_2.length c0_2]) (t := 24) ?_; intro gb363 hg w33 hbox hb; have BK363 := Aside0.mk (hbox); have GW363 := Aside0.mk (zge (zb0 HB) hg); have GE363 := GW363; replace HB := Aside0.mk (below_step (zb0 HB) hb); clear hb hbox hg; have hcz34_0 : w33.cell? ⟨gb363, 0, none⟩ = some (.int .i64 a0_0) := zc BK363 0; have hcz34_1 : w33.cell? ⟨gb363, 1, none⟩ = some (.slice A0_1 l0_1.length c0_1) := zc BK363 1; have hcz34_2 : w33.cell? ⟨gb363, 2, none⟩ = some (.slice A0_2 l0_2.length c0_2) := zc BK363 2; have hfz34_0 := blk_frozen BK363.out 0; have hfz34_1 := blk_frozen BK363.out 1; have hfz34_2 := blk_frozen BK363.out 2) | ((with_reducible refine gate_callee (f := 14) rfl ?_); refine goesL_ (some 16) rfl rfl Try.func14 (by kernel_rfl) rfl #[.agg #[.int .i64 a0_0, .slice A0_1 l0_1.length c0_1, .slice A0_2 l0_2.length c0_2], .int .i64 1000000] rfl zq6 ?_; (with_reducible refine (laws_szBox.calls a0_0 _ _ l0_1 _ _ l0_2 1000000 t364 _ ?side1 ?side2 ?side3 ?side4 A2.out).mono ?_); (case side1 => repeat (first | exact (Kd.C_below HR0_1.out HB.out) | (with_reducible refine Kd.C_alloc ?_ _) | (with_reducible refine Kd.C_drewN ?_ _) | (with_reducible refine Kd.C_drew ?_))); (case side2 => exact HC0_1.out); (case side3 => repeat (first | exact (Kd.C_below HR0_2.out HB.out) | (with_reducible refine Kd.C_alloc ?_ _) | (with_reducible refine Kd.C_drewN ?_ _) | (with_reducible refine Kd.C_drew ?_))); (case side4 => exact HC0_2.out); rintro e w35 ⟨rfl, hb⟩; refine ⟨_, rfl, ?_⟩; replace BK363 := Aside0.mk (zbb BK363 hb); replace HB := Aside0.mk (below_step (zb1 HB) hb); (try clear hb); (try clear hb2); (try clear hk); (try clear hi); have hcz36_0 : w35.cell? ⟨gb363, 0, none⟩ = some (.int .i64 a0_0) := zc BK363 0; have hcz36_1 : w35.cell? ⟨gb363, 1, none⟩ = some (.slice A0_1 l0_1.length c0_1) := zc BK363 1; have hcz36_2 : w35.cell? ⟨gb363, 2, none⟩ = some (.slice A0_2 l0_2.length c0_2) := zc BK363 2; have hfz36_0 := blk_frozen BK363.out 0; have hfz36_1 := blk_frozen BK363.out 1; have hfz36_2 := blk_frozen BK363.out 2) | ((with_reducible refine gate_callee (f := 16) rfl ?_); refine goesL_ (some 21) rfl rfl Try.func16 (by kernel_rfl) rfl #[.agg #[.int .i64 a0_0, .slice A0_1 l0_1.length c0_1, .slice A0_2 l0_2.length c0_2], .bool false] rfl zq6 ?_; (with_reducible refine (laws_toBox.calls k a0_0 _ _ l0_1 _ _ l0_2 false t365 t366 t369 _ ?side1 ?side2 ?side3 ?side4 A7.out).mono ?_); (case side1 => repeat (first | exact (Kd.C_below HR0_1.out HB.out) | (with_reducible refine Kd.C_alloc ?_ _) | (with_reducible refine Kd.C_drewN ?_ _) | (with_reducible refine Kd.C_drew ?_))); (case side2 => exact HC0_1.out); (case side3 => repeat (first | exact (Kd.C_below HR0_2.out HB.out) | (with_reducible refine Kd.C_alloc ?_ _) | (with_reducible refine Kd.C_drewN ?_ _) | (with_reducible refine Kd.C_drew ?_))); (case side4 => exact HC0_2.out); rintro e w37 ⟨v367, v370, rfl, ho0, ho1, hb, ho0F, ho1F⟩; refine ⟨_, rfl, ?_⟩; have n0_ := Aside0.mk (Kd.R_lower ho0 (below_size (zb1 HB))); have n0F_ := Aside0.mk (Kd.R_lower ho0F (below_size (zb1 HB))); have n1_ := Aside0.mk (Kd.R_lower ho1 (below_size (zb1 HB))); have n1F_ := Aside0.mk (Kd.R_lower ho1F (below_size (zb1 HB))); have n2_ := Aside0.mk (zbb BK363 hb); have n3_ := Aside0.mk (below_step (zb1 HB) hb); clear BK363; clear HB; have HO368 := n0_; have HO368F := n0F_; have HO371 := n1_; have HO371F := n1F_; have BK363 := n2_; have HB := n3_; clear n0_ n1_ n2_ n3_ n0F_ n1F_; (try clear hb); (try clear hb2); (try clear hk); (try clear hi); (try clear ho0); (try clear ho0F); (try clear ho1); (try clear ho1F); obtain ⟨Ao38, co38, eo38⟩ := Kd.R_slice HO368.out; subst eo38; obtain ⟨Ao39, co39, eo39⟩ := Kd.R_slice HO371.out; subst eo39) | ((with_reducible refine gate_callee (f := 43) rfl ?_); refine goesL_ (some 22) rfl rfl Try.func43 (by kernel_rfl) rfl #[.agg #[.int .i64 t365, .slice Ao38 t366.length co38, .slice Ao39 t369.length co39]] rfl zq6 ?_; (with_reducible refine (spec_CornersOf.calls k t365 _ _ t366 _ _ t369 t372 t375 _ ?side1 ?side2 ?side3 ?side4 A8.out).mono ?_); (case side1 => repeat (first | exact (Kd.R_reads' HO368.out).2.2 | (with_reducible refine Kd.C_alloc ?_ _) | (with_reducible refine Kd.C_drewN ?_ _) | (with_reducible refine Kd.C_drew ?_))); (case side2 => exact (Kd.R_reads' HO368.out).2.1); (case side3 => repeat (first | exact (Kd.R_reads' HO371.out).2.2 | (with_reducible refine Kd.C_alloc ?_ _) | (with_reducible refine Kd.C_drewN ?_ _) | (with_reducible refine Kd.C_drew ?_))); (case side4 => exact (Kd.R_reads' HO371.out).2.1); rintro e w40 ⟨v373, rfl, ho0, hb⟩; refine ⟨_, rfl, ?_⟩; have n0_ := Aside0.mk (Kd.R_below (zq3 HO368) hb); have n0F_ := Aside0.mk (Kd.R_below (zq3 HO368F) hb); have n1_ := Aside0.mk (Kd.R_below (zq3 HO371) hb); have n1F_ := Aside0.mk (Kd.R_below (zq3 HO371F) hb); have n2_ := Aside0.mk (Kd.S_lower ho0 (below_size (zb1 HB))); have n3_ := Aside0.mk (zbb BK363 hb); have n4_ := Aside0.mk (below_step (zb1 HB) hb); clear HO368 HO368F; clear HO371 HO371F; clear BK363; clear HB; have HO368 := n0_; have HO368F := n0F_; have HO371 := n1_; have HO371F := n1F_; have HO374 := n2_; have BK363 := n3_; have HB := n4_; clear n0_ n1_ n2_ n3_ n4_ n0F_ n1F_; (try clear hb); (try clear hb2); (try clear hk); (try clear hi); (try clear ho0); have hcz41_0 : w40.cell? ⟨gb363, 0, none⟩ = some (.int .i64 a0_0) := zc BK363 0; have hcz41_1 : w40.cell? ⟨gb363, 1, none⟩ = some (.slice A0_1 l0_1.length c0_1) := zc BK363 1; have hcz41_2 : w40.cell? ⟨gb363, 2, none⟩ = some (.slice A0_2 l0_2.length c0_2) := zc BK363 2; have hfz41_0 := blk_frozen BK363.out 0; have hfz41_1 := blk_frozen BK363.out 1; have hfz41_2 := blk_frozen BK363.out 2) | ((with_reducible refine gate_callee (f := 16) rfl ?_); refine goesL_ (some 26) rfl rfl Try.func16 (by kernel_rfl) rfl #[.agg #[.int .i64 a0_0, .slice A0_1 l0_1.length c0_1, .slice A0_2 l0_2.length c0_2], .bool false] rfl zq6 ?_; (with_reducible refine (laws_toBox.calls k a0_0 _ _ l0_1 _ _ l0_2 false t376 t377 t380 _ ?side1 ?side2 ?side3 ?side4 A9.out).mono ?_); (case side1 => repeat (first | exact (Kd.C_below HR0_1.out HB.out) | (with_reducible refine Kd.C_alloc ?_ _) | (with_reducible refine Kd.C_drewN ?_ _) | (with_reducible refine Kd.C_drew ?_))); (case side2 => exact HC0_1.out); (case side3 => repeat (first | exact (Kd.C_below HR0_2.out HB.out) | (with_reducible refine Kd.C_alloc ?_ _) | (with_reducible refine Kd.C_drewN ?_ _) | (with_reducible refine Kd.C_drew ?_))); (case side4 => exact HC0_2.out); rintro e w42 ⟨v378, v381, rfl, ho0, ho1, hb, ho0F, ho1F⟩; refine ⟨_, rfl, ?_⟩; have n0_ := Aside0.mk (Kd.S_below (by (with_reducible repeat (first | apply Kd.S_alloc | apply Kd.S_drewN | apply Kd.S_drew)); exact HO374.out) hb); have n1_ := Aside0.mk (Kd.R_lower ho0 (below_size (zb1 HB))); have n1F_ := Aside0.mk (Kd.R_lower ho0F (below_size (zb1 HB))); have n2_ := Aside0.mk (Kd.R_lower ho1 (below_size (zb1 HB))); have n2F_ := Aside0.mk (Kd.R_lower ho1F (below_size (zb1 HB))); have n3_ := Aside0.mk (zbb BK363 hb); have n4_ := Aside0.mk (below_step (zb1 HB) hb); clear HO374; clear BK363; clear HB; have HO374 := n0_; have HO379 := n1_; have HO379F := n1F_; have HO382 := n2_; have HO382F := n2F_; have BK363 := n3_; have HB := n4_; clear n0_ n1_ n2_ n3_ n4_ n1F_ n2F_; (try clear hb); (try clear hb2); (try clear hk); (try clear hi); (try clear ho0); (try clear ho0F); (try clear ho1); (try clear ho1F)) | ((with_reducible refine gate_dst (N := 6) rfl ?_); refine zbe (N := 6) (cs := #[.int .i64 0, .slice none 0 0, .slice none 0 0]) (t := 27) ?_; intro gb383 hg w43 hbox hb; have n0_ := Aside0.mk (Kd.S_below (by (with_reducible repeat (first | apply Kd.S_alloc | apply Kd.S_drewN | apply Kd.S_drew)); exact HO374.out) hb); have n1_ := Aside0.mk (Kd.R_below (zq3 HO379) hb); have n1F_ := Aside0.mk (Kd.R_below (zq3 HO379F) hb); have n2_ := Aside0.mk (Kd.R_below (zq3 HO382) hb); have n2F_ := Aside0.mk (Kd.R_below (zq3 HO382F) hb); have n3_ := Aside0.mk (zbb BK363 hb); have n4_ := Aside0.mk (below_step (zb1 HB) hb); have n5_ := Aside0.mk (hbox); have n6_ := Aside0.mk (zge (zb1 HB) hg); have n7_ := Aside0.mk (zge (zb1 HB) hg); have n8_ := Aside0.mk (zlt BK363 hg); have n9_ := Aside0.mk (zgt BK363 hg); clear HO374; clear HO379 HO379F; clear HO382 HO382F; clear BK363; clear HB; have HO374 := n0_; have HO379 := n1_; have HO379F := n1F_; have HO382 := n2_; have HO382F := n2F_; have BK363 := n3_; have HB := n4_; have BK383 := n5_; have GW383 := n6_; have GE383 := n7_; have NB363_383 := n8_; have NB383_363 := n9_; clear n0_ n1_ n2_ n3_ n4_ n5_ n6_ n7_ n8_ n9_ n1F_ n2F_; clear hb hbox hg; have hnb44 := NB383_363.out; have hnc44 := NB363_383.out; have hcz45_0 : w43.cell? ⟨gb383, 0, none⟩ = some (.int .i64 0) := zc BK383 0; have hcz45_1 : w43.cell? ⟨gb383, 1, none⟩ = some (.slice none 0 0) := zc BK383 1; have hcz45_2 : w43.cell? ⟨gb383, 2, none⟩ = some (.slice none 0 0) := zc BK383 2; have hfz45_0 := blk_frozen BK383.out 0; have hfz45_1 := blk_frozen BK383.out 1; have hfz45_2 := blk_frozen BK383.out 2; obtain ⟨Ao46, co46, eo46⟩ := Kd.R_slice HO379.out; subst eo46; obtain ⟨Ao47, co47, eo47⟩ := Kd.R_slice HO382.out; subst eo47) | ((with_reducible refine gate_callee (f := 44) rfl ?_); refine goesL_ (some 29) rfl rfl Try.func44 (by kernel_rfl) rfl #[.agg #[.int .i64 t376, .slice Ao46 t377.length co46, .slice Ao47 t380.length co47]] rfl zq6 ?_; (with_reducible refine (impl_CornersOf.calls k t376 _ _ t377 _ _ t380 t384 t387 _ ?side1 ?side2 ?side3 ?side4 A10.out).mono ?_); (case side1 => refine (Kd.R_reads' (e := 3) (base := w.heap.size) (ok := fun k_ => some k_ ≠ (.slice Ao47 t380.length co47 : Value).ownBlock) (n := t377.length) (c := co46) ?_).2.2; exact (by (with_reducible repeat (first | apply Kd.R_alloc | apply Kd.R_drewN | apply Kd.R_drew)); exact (Kd.R_mono (Kd.R_far (p := ⟨gb383, 2, none⟩) (Kd.R_far (p := ⟨gb383, 1, none⟩) (Kd.R_far (p := ⟨gb383, 0, none⟩) (Kd.R_types HO379.out BK383.out (by decide)) (fun _ hk => hk.2) (.int .i64 t376)) (fun _ hk => hk.2) (.slice Ao46 t377.length co46)) (fun _ hk => hk.2) (.slice Ao47 t380.length co47)) (fun _ h_ => h_.1)))); (case side2 => exact (Kd.R_reads' HO379.out).2.1); (case side3 => refine (Kd.R_reads' (e := 3) (base := w.heap.size) (ok := fun k_ => some k_ ≠ (.slice Ao46 t377.length co46 : Value).ownBlock) (n := t380.length) (c := co47) ?_).2.2; exact (by (with_reducible repeat (first | apply Kd.R_alloc | apply Kd.R_drewN | apply Kd.R_drew)); exact (Kd.R_mono (Kd.R_far (p := ⟨gb383, 2, none⟩) (Kd.R_far (p := ⟨gb383, 1, none⟩) (Kd.R_far (p := ⟨gb383, 0, none⟩) (Kd.R_types HO382.out BK383.out (by decide)) (fun _ hk => hk.2) (.int .i64 t376)) (fun _ hk => hk.2) (.slice Ao46 t377.length co46)) (fun _ hk => hk.2) (.slice Ao47 t380.length co47)) (fun _ h_ => h_.1)))); (case side4 => exact (Kd.R_reads' HO382.out).2.1); rintro e w48 ⟨v385, rfl, ho0, hb⟩; refine ⟨_, rfl, ?_⟩; obtain ⟨B_, HP0_, HG0_, HQ0_⟩ := z_pack (by (with_reducible repeat (first | apply Kd.S_alloc | apply Kd.S_drewN | apply Kd.S_drew)); exact (Kd.S_mono (Kd.S_far (p := ⟨gb383, 2, none⟩) (Kd.S_far (p := ⟨gb383, 1, none⟩) (Kd.S_far (p := ⟨gb383, 0, none⟩) (Kd.S_types HO374.out BK383.out (by decide)) (fun _ hk => hk.2) (.int .i64 t376)) (fun _ hk => hk.2) (.slice Ao46 t377.length co46)) (fun _ hk => hk.2) (.slice Ao47 t380.length co47)) (fun _ h_ => h_.1))) ho0 hb (by have h_ := blk_lt BK363.out; first | exact h_ | simpa [World.setCell] using h_) (below_size (zb1 HB)); have HP := Aside0.mk HP0_; have HG := Aside0.mk HG0_; have HQ := Aside0.mk HQ0_.1; have HSz := Aside0.mk HQ0_.2; clear HP0_ HG0_ HQ0_; have n0_ := Aside0.mk (Kd.S_elder' (by (with_reducible repeat (first | apply Kd.S_alloc | apply Kd.S_drewN | apply Kd.S_drew)); exact (Kd.S_mono (Kd.S_far (p := ⟨gb383, 2, none⟩) (Kd.S_far (p := ⟨gb383, 1, none⟩) (Kd.S_far (p := ⟨gb383, 0, none⟩) (Kd.S_types HO374.out BK383.out (by decide)) (fun _ hk => hk.2) (.int .i64 t376)) (fun _ hk => hk.2) (.slice Ao46 t377.length co46)) (fun _ hk => hk.2) (.slice Ao47 t380.length co47)) (fun _ h_ => h_.1))) (Kd.S_base ho0) hb); have n1_ := Aside0.mk (Kd.R_below (by (with_reducible repeat (first | apply Kd.R_alloc | apply Kd.R_drewN | apply Kd.R_drew)); exact (Kd.R_mono (Kd.R_far (p := ⟨gb383, 2, none⟩) (Kd.R_far (p := ⟨gb383, 1, none⟩) (Kd.R_far (p := ⟨gb383, 0, none⟩) (Kd.R_types HO379.out BK383.out (by decide)) (fun _ hk => hk.2) (.int .i64 t376)) (fun _ hk => hk.2) (.slice Ao46 t377.length co46)) (fun _ hk => hk.2) (.slice Ao47 t380.length co47)) (fun _ h_ => h_.1))) hb); have n1F_ := Aside0.mk (Kd.R_below (by (with_reducible repeat (first | apply Kd.R_alloc | apply Kd.R_drewN | apply Kd.R_drew)); exact (Kd.R_mono (Kd.R_far (p := ⟨gb383, 2, none⟩) (Kd.R_far (p := ⟨gb383, 1, none⟩) (Kd.R_far (p := ⟨gb383, 0, none⟩) (Kd.R_types HO379F.out BK383.out (by decide)) (fun _ hk => hk.2) (.int .i64 t376)) (fun _ hk => hk.2) (.slice Ao46 t377.length co46)) (fun _ hk => hk.2) (.slice Ao47 t380.length co47)) (fun _ h_ => h_.1))) hb); have n2_ := Aside0.mk (Kd.R_below (by (with_reducible repeat (first | apply Kd.R_alloc | apply Kd.R_drewN | apply Kd.R_drew)); exact (Kd.R_mono (Kd.R_far (p := ⟨gb383, 2, none⟩) (Kd.R_far (p := ⟨gb383, 1, none⟩) (Kd.R_far (p := ⟨gb383, 0, none⟩) (Kd.R_types HO382.out BK383.out (by decide)) (fun _ hk => hk.2) (.int .i64 t376)) (fun _ hk => hk.2) (.slice Ao46 t377.length co46)) (fun _ hk => hk.2) (.slice Ao47 t380.length co47)) (fun _ h_ => h_.1))) hb); have n2F_ := Aside0.mk (Kd.R_below (by (with_reducible repeat (first | apply Kd.R_alloc | apply Kd.R_drewN | apply Kd.R_drew)); exact (Kd.R_mono (Kd.R_far (p := ⟨gb383, 2, none⟩) (Kd.R_far (p := ⟨gb383, 1, none⟩) (Kd.R_far (p := ⟨gb383, 0, none⟩) (Kd.R_types HO382F.out BK383.out (by decide)) (fun _ hk => hk.2) (.int .i64 t376)) (fun _ hk => hk.2) (.slice Ao46 t377.length co46)) (fun _ hk => hk.2) (.slice Ao47 t380.length co47)) (fun _ h_ => h_.1))) hb); have n3_ := Aside0.mk (Kd.S_lower (Kd.S_new' ho0 (Kd.S_lt (by (with_reducible repeat (first | apply Kd.S_alloc | apply Kd.S_drewN | apply Kd.S_drew)); exact (Kd.S_mono (Kd.S_far (p := ⟨gb383, 2, none⟩) (Kd.S_far (p := ⟨gb383, 1, none⟩) (Kd.S_far (p := ⟨gb383, 0, none⟩) (Kd.S_types HO374.out BK383.out (by decide)) (fun _ hk => hk.2) (.int .i64 t376)) (fun _ hk => hk.2) (.slice Ao46 t377.length co46)) (fun _ hk => hk.2) (.slice Ao47 t380.length co47)) (fun _ h_ => h_.1))))) (below_size (zb1 HB))); have n4_ := Aside0.mk (blk_below (g := gb363) (o := .cells #[.int .i64 a0_0, .slice A0_1 l0_1.length c0_1, .slice A0_2 l0_2.length c0_2] 24 (0, 0)) (zq5 BK363) hb); have n5_ := Aside0.mk (blk_below (g := gb383) (o := .cells #[.int .i64 t376, .slice Ao46 t377.length co46, .slice Ao47 t380.length co47] 27 (0, 0)) (by (with_reducible repeat (first | refine blk_drewN ?_ _ | refine blk_drew ?_ | refine blk_alloc ?_ _)); refine blk_put (cs := #[.int .i64 t376, .slice Ao46 t377.length co46, .slice none 0 0]) ?_ 2 _ rfl; (with_reducible repeat (first | refine blk_drewN ?_ _ | refine blk_drew ?_ | refine blk_alloc ?_ _)); refine blk_put (cs := #[.int .i64 t376, .slice none 0 0, .slice none 0 0]) ?_ 1 _ rfl; (with_reducible repeat (first | refine blk_drewN ?_ _ | refine blk_drew ?_ | refine blk_alloc ?_ _)); refine blk_put (cs := #[.int .i64 0, .slice none 0 0, .slice none 0 0]) ?_ 0 _ rfl; (with_reducible repeat (first | refine blk_drewN ?_ _ | refine blk_drew ?_ | refine blk_alloc ?_ _)); exact BK383.out) hb); have n6_ := Aside0.mk (below_step (zb1 HB) hb); clear HO374; clear HO379 HO379F; clear HO382 HO382F; clear BK363; clear BK383; clear HB; have HO374 := n0_; have HO379 := n1_; have HO379F := n1F_; have HO382 := n2_; have HO382F := n2F_; have HO386 := n3_; have BK363 := n4_; have BK383 := n5_; have HB := n6_; clear n0_ n1_ n2_ n3_ n4_ n5_ n6_ n1F_ n2F_; (try clear hb); (try clear hb2); (try clear hk); (try clear hi); (try clear ho0); obtain ⟨Ao49, co49, eo49⟩ := Kd.S_slice HO386.out; subst eo49; obtain ⟨Ao50, co50, eo50⟩ := Kd.S_slice HO374.out; subst eo50) | ((with_reducible refine gate_callee (f := 45) rfl ?_); refine goesL_ (some 34) rfl rfl Try.func45 (by kernel_rfl) rfl #[.slice Ao49 t384.length co49, .slice Ao50 t372.length co50] rfl zq6 ?_; (with_reducible refine (laws_eqDyadicSS.calls k _ _ t384 _ _ t372 true _ ?side1 ?side2 ?side3 ?side4 A11.out).mono ?_); (case side1 => repeat (first | exact (Kd.S_reads' HO386.out).2.2 | (with_reducible refine Kd.C_alloc ?_ _) | (with_reducible refine Kd.C_drewN ?_ _) | (with_reducible refine Kd.C_drew ?_))); (case side2 => exact (Kd.S_reads' HO386.out).2.1); (case side3 => repeat (first | exact (Kd.S_reads' HO374.out).2.2 | (with_reducible refine Kd.C_alloc ?_ _) | (with_reducible refine Kd.C_drewN ?_ _) | (with_reducible refine Kd.C_drew ?_))); (case side4 => exact (Kd.S_reads' HO374.out).2.1); rintro e w51 ⟨rfl, hb⟩; refine ⟨_, rfl, ?_⟩; replace HP := Aside0.mk (Kd.S_below (by (with_reducible repeat (first | apply Kd.S_alloc | apply Kd.S_drewN | apply Kd.S_drew)); exact HP.out) hb); replace HG := Aside0.mk (Kd.S_below (by (with_reducible repeat (first | apply Kd.S_alloc | apply Kd.S_drewN | apply Kd.S_drew)); exact HG.out) hb); replace HSz := Aside0.mk (Nat.le_trans HSz.out hb.size); have n0_ := Aside0.mk (Kd.S_below (by (with_reducible repeat (first | apply Kd.S_alloc | apply Kd.S_drewN | apply Kd.S_drew)); exact HO374.out) hb); have n1_ := Aside0.mk (Kd.R_below (zq3 HO379) hb); have n1F_ := Aside0.mk (Kd.R_below (zq3 HO379F) hb); have n2_ := Aside0.mk (Kd.R_below (zq3 HO382) hb); have n2F_ := Aside0.mk (Kd.R_below (zq3 HO382F) hb); have n3_ := Aside0.mk (Kd.S_below (by (with_reducible repeat (first | apply Kd.S_alloc | apply Kd.S_drewN | apply Kd.S_drew)); exact HO386.out) hb); have n4_ := Aside0.mk (zbb BK363 hb); have n5_ := Aside0.mk (zbb BK383 hb); have n6_ := Aside0.mk (below_step (zb1 HB) hb); clear HO374; clear HO379 HO379F; clear HO382 HO382F; clear HO386; clear BK363; clear BK383; clear HB; have HO374 := n0_; have HO379 := n1_; have HO379F := n1F_; have HO382 := n2_; have HO382F := n2F_; have HO386 := n3_; have BK363 := n4_; have BK383 := n5_; have HB := n6_; clear n0_ n1_ n2_ n3_ n4_ n5_ n6_ n1F_ n2F_; (try clear hb); (try clear hb2); (try clear hk); (try clear hi)))
             have n0_ := Aside0.mk (Kd.S_drew HO374.out)
             have n1_ := Aside0.mk (Kd.R_drew HO379.out)
             have n1F_ := Aside0.mk (Kd.R_drew HO379F.out)
             have n2_ := Aside0.mk (Kd.R_drew HO382.out)
             have n2F_ := Aside0.mk (Kd.R_drew HO382F.out)
             have n3_ := Aside0.mk (Kd.S_drew HO386.out)
             have n4_ := Aside0.mk (blk_drew BK363.out)
             have n5_ := Aside0.mk (blk_drew BK383.out)
             have n6_ := Aside0.mk (below_drew1 HB.out)
             clear HO374 HO379 HO379F HO382 HO382F HO386 BK363 BK383 HB
             have HO374 := n0_; have HO379 := n1_; have HO379F := n1F_; have HO382 := n2_; have HO382F := n2F_; have HO386 := n3_; have BK363 := n4_; have BK383 := n5_; have HB := n6_
             clear n0_ n1_ n2_ n3_ n4_ n5_ n6_ n1F_ n2F_
             replace HP := Aside0.mk (Kd.S_drew HP.out); replace HG := Aside0.mk (Kd.S_drew HG.out); replace HSz := Aside0.mk (show B_ ≤ (w51.drew).heap.size from HSz.out)
             refine start_ (n := 5) (S := fun w' => w'.cell? ⟨gb383, 0, none⟩ = some (.int .i64 t376) ∧ w'.cell? ⟨gb383, 1, none⟩ = some (.slice Ao46 t377.length co46) ∧ w'.cell? ⟨gb383, 2, none⟩ = some (.slice Ao47 t380.length co47) ∧ w'.cell? ⟨gb363, 0, none⟩ = some (.int .i64 a0_0) ∧ w'.cell? ⟨gb363, 1, none⟩ = some (.slice A0_1 l0_1.length c0_1) ∧ w'.cell? ⟨gb363, 2, none⟩ = some (.slice A0_2 l0_2.length c0_2)) (ds := []) #[false, false, false, false, false] (by kernel_rfl) rfl rfl ⟨zc BK383 0, zc BK383 1, zc BK383 2, zc BK363 0, zc BK363 1, zc BK363 2⟩ (fun hHeld => ?_)
             generalize w51.drew = w52 at HP HG HSz HO374 HO379 HO382 HO386 BK363 BK383 HB hHeld HO379F HO382F ⊢
             refine take_ (i := 0) (N := some 41) (v := ?_) (a' := ?_) #[true, false, false, false, false] rfl rfl (by kernel_rfl) (fun _ _ _ h => h) (Or.inl ⟨by rfl, ?_⟩) hHeld ?_ ?_
             rotate_left
             ·
              rintro w' ⟨s0, s1, s2, s3, s4, s5⟩
              go_simp
              with_reducible rfl
             rotate_left
             ·
              simp only [Act.put, List.setIfInBounds_toArray, List.set_cons_zero, List.set_cons_succ, i64_w, i32_w]
              rfl
             refine take_ (i := 1) (N := some 42) (v := ?_) (a' := ?_) #[true, true, false, false, false] rfl rfl (by kernel_rfl) (fun _ _ _ h => h) (Or.inl ⟨by rfl, ?_⟩) hHeld ?_ ?_
             rotate_left
             ·
              rintro w' ⟨s0, s1, s2, s3, s4, s5⟩
              go_simp
              with_reducible rfl
             rotate_left
             ·
              simp only [Act.put, List.setIfInBounds_toArray, List.set_cons_zero, List.set_cons_succ, i64_w, i32_w]
              rfl
             refine one_ (i := 2) (N := some 43) #[true, true, true, false, false] rfl rfl (by kernel_rfl) (by decide) (fun K hK => ?_)
             refine goes_ Try.func16 (by kernel_rfl) rfl #[.agg #[.int .i64 a0_0, .slice A0_1 l0_1.length c0_1, .slice A0_2 l0_2.length c0_2], .bool false] (by rfl) rfl rfl zq6 ?_
             with_reducible refine (laws_toBox.calls k a0_0 _ _ l0_1 _ _ l0_2 false t389 t390 t393 _ ?side1 ?side2 ?side3 ?side4 A14.out).mono ?_
             (case side1 => repeat (first | exact (Kd.C_below HR0_1.out HB.out) | (with_reducible refine Kd.C_alloc ?_ _) | (with_reducible refine Kd.C_drewN ?_ _) | (with_reducible refine Kd.C_drew ?_)))
             (case side2 => exact HC0_1.out)
             (case side3 => repeat (first | exact (Kd.C_below HR0_2.out HB.out) | (with_reducible refine Kd.C_alloc ?_ _) | (with_reducible refine Kd.C_drewN ?_ _) | (with_reducible refine Kd.C_drew ?_)))
             (case side4 => exact HC0_2.out)
             rintro e w53 ⟨v391, v394, rfl, ho0, ho1, hb, ho0F, ho1F⟩
             refine ⟨_, rfl, ?_⟩
             replace HP := Aside0.mk (Kd.S_below (by (with_reducible repeat (first | apply Kd.S_alloc | apply Kd.S_drewN | apply Kd.S_drew)); exact HP.out) hb)
             replace HG := Aside0.mk (Kd.S_below (by (with_reducible repeat (first | apply Kd.S_alloc | apply Kd.S_drewN | apply Kd.S_drew)); exact HG.out) hb)
             replace HSz := Aside0.mk (Nat.le_trans HSz.out hb.size)
             have n0_ := Aside0.mk (Kd.S_below (by (with_reducible repeat (first | apply Kd.S_alloc | apply Kd.S_drewN | apply Kd.S_drew)); exact HO374.out) hb)
             have n1_ := Aside0.mk (Kd.R_mono (Kd.R_told (Kd.R_told (Kd.R_old (zq3 HO379) hb) (Kd.R_base ho0)) (Kd.R_base ho1)) (fun _ h_ => h_.1))
             have n1F_ := Aside0.mk (Kd.R_mono (Kd.R_told (Kd.R_told (Kd.R_old (zq3 HO379F) hb) (Kd.R_base ho0)) (Kd.R_base ho1)) (fun _ h_ => h_.1))
             have n2_ := Aside0.mk (Kd.R_mono (Kd.R_told (Kd.R_told (Kd.R_old (zq3 HO382) hb) (Kd.R_base ho0)) (Kd.R_base ho1)) (fun _ h_ => h_.1))
             have n2F_ := Aside0.mk (Kd.R_mono (Kd.R_told (Kd.R_told (Kd.R_old (zq3 HO382F) hb) (Kd.R_base ho0)) (Kd.R_base ho1)) (fun _ h_ => h_.1))
             have n3_ := Aside0.mk (Kd.S_below (by (with_reducible repeat (first | apply Kd.S_alloc | apply Kd.S_drewN | apply Kd.S_drew)); exact HO386.out) hb)
             have n4_ := Aside0.mk (Kd.R_lower (Kd.R_new' (Kd.R_new' ho0 (Kd.R_lt (zq3 HO379))) (Kd.R_lt (zq3 HO382))) (below_size (zb1 HB)))
             have n4F_ := Aside0.mk (Kd.R_lower (Kd.R_new' (Kd.R_new' ho0F (Kd.R_lt (zq3 HO379))) (Kd.R_lt (zq3 HO382))) (below_size (zb1 HB)))
             have n5_ := Aside0.mk (Kd.R_lower (Kd.R_new' (Kd.R_new' ho1 (Kd.R_lt (zq3 HO379))) (Kd.R_lt (zq3 HO382))) (below_size (zb1 HB)))
             have n5F_ := Aside0.mk (Kd.R_lower (Kd.R_new' (Kd.R_new' ho1F (Kd.R_lt (zq3 HO379))) (Kd.R_lt (zq3 HO382))) (below_size (zb1 HB)))
             have n6_ := Aside0.mk (zbb BK363 hb)
             have n7_ := Aside0.mk (zbb BK383 hb)
             have n8_ := Aside0.mk (below_step (zb1 HB) hb)
             clear HO374 HO379 HO379F HO382 HO382F HO386 BK363 BK383 HB
             have HO374 := n0_; have HO379 := n1_; have HO379F := n1F_; have HO382 := n2_; have HO382F := n2F_; have HO386 := n3_; have HO392 := n4_; have HO392F := n4F_; have HO395 := n5_; have HO395F := n5F_; have BK363 := n6_; have BK383 := n7_; have HB := n8_
             clear n0_ n1_ n2_ n3_ n4_ n5_ n6_ n7_ n8_ n1F_ n2F_ n4F_ n5F_
             (try clear hb)
             (try clear hb2)
             (try clear hk)
             (try clear hi)
             (try clear ho0)
             (try clear ho0F)
             (try clear ho1)
             (try clear ho1F)
             obtain ⟨Ao54, co54, eo54⟩ := Kd.R_slice HO392.out
             (first | subst eo54 | (injection eo54 with f1_ f2_ f3_; have f4_ := f1_.symm; have f5_ := f3_.symm; clear f1_ f2_ f3_; subst f4_; subst f5_))
             obtain ⟨Ao55, co55, eo55⟩ := Kd.R_slice HO395.out
             (first | subst eo55 | (injection eo55 with f1_ f2_ f3_; have f4_ := f1_.symm; have f5_ := f3_.symm; clear f1_ f2_ f3_; subst f4_; subst f5_))
             refine hK.out _ _ ⟨zc BK383 0, zc BK383 1, zc BK383 2, zc BK363 0, zc BK363 1, zc BK363 2⟩ (fun hHeld => ?_)
             clear hK K
             refine norm_ (a' := ?_) ?_ ?_
             rotate_left
             ·
              show Act.put _ (some 43) _ = _
              simp only [Act.put, List.setIfInBounds_toArray, List.set_cons_zero, List.set_cons_succ, i64_w, i32_w]; rfl
             refine one_ (i := 3) (N := some 44) #[true, true, true, true, false] rfl rfl (by kernel_rfl) (by decide) (fun K hK => ?_)
             refine goes_ Try.func18 (by kernel_rfl) rfl #[.agg #[.int .i64 t376, .slice Ao46 t377.length co46, .slice Ao47 t380.length co47], .agg #[.int .i64 t389, .slice Ao54 t390.length co54, .slice Ao55 t393.length co55]] (by rfl) rfl rfl zq6 ?_
             with_reducible refine (laws_intactBox.calls t376 _ _ t377 _ _ t380 t389 _ _ t390 _ _ t393 true _ ?side1 ?side2 ?side3 ?side4 ?side5 ?side6 ?side7 ?side8 A15.out ?sideF1 ?sideF2 ?sideF3 ?sideF4 ?sideF5 ?sideF6 ?sideF7 ?sideF8).mono ?_
             (case side1 => repeat (first | exact (Kd.R_reads' HO379.out).2.2 | (with_reducible refine Kd.C_alloc ?_ _) | (with_reducible refine Kd.C_drewN ?_ _) | (with_reducible refine Kd.C_drew ?_)))
             (case side2 => exact (Kd.R_reads' HO379.out).2.1)
             (case side3 => repeat (first | exact (Kd.R_reads' HO382.out).2.2 | (with_reducible refine Kd.C_alloc ?_ _) | (with_reducible refine Kd.C_drewN ?_ _) | (with_reducible refine Kd.C_drew ?_)))
             (case side4 => exact (Kd.R_reads' HO382.out).2.1)
             (case side5 => repeat (first | exact (Kd.R_reads' HO392.out).2.2 | (with_reducible refine Kd.C_alloc ?_ _) | (with_reducible refine Kd.C_drewN ?_ _) | (with_reducible refine Kd.C_drew ?_)))
             (case side6 => exact (Kd.R_reads' HO392.out).2.1)
             (case side7 => repeat (first | exact (Kd.R_reads' HO395.out).2.2 | (with_reducible refine Kd.C_alloc ?_ _) | (with_reducible refine Kd.C_drewN ?_ _) | (with_reducible refine Kd.C_drew ?_)))
             (case side8 => exact (Kd.R_reads' HO395.out).2.1)
             (case sideF1 => repeat (first | exact (Kd.R_reads' HO379F.out).2.2 | (with_reducible refine Kd.C_alloc ?_ _) | (with_reducible refine Kd.C_drewN ?_ _) | (with_reducible refine Kd.C_drew ?_)))
             (case sideF2 => exact (Kd.R_reads' HO379F.out).2.1)
             (case sideF3 => repeat (first | exact (Kd.R_reads' HO382F.out).2.2 | (with_reducible refine Kd.C_alloc ?_ _) | (with_reducible refine Kd.C_drewN ?_ _) | (with_reducible refine Kd.C_drew ?_)))
             (case sideF4 => exact (Kd.R_reads' HO382F.out).2.1)
             (case sideF5 => repeat (first | exact (Kd.R_reads' HO392F.out).2.2 | (with_reducible refine Kd.C_alloc ?_ _) | (with_reducible refine Kd.C_drewN ?_ _) | (with_reducible refine Kd.C_drew ?_)))
             (case sideF6 => exact (Kd.R_reads' HO392F.out).2.1)
             (case sideF7 => repeat (first | exact (Kd.R_reads' HO395F.out).2.2 | (with_reducible refine Kd.C_alloc ?_ _) | (with_reducible refine Kd.C_drewN ?_ _) | (with_reducible refine Kd.C_drew ?_)))
             (case sideF8 => exact (Kd.R_reads' HO395F.out).2.1)
             rintro e w56 ⟨rfl, hb⟩
             refine ⟨_, rfl, ?_⟩
             replace HP := Aside0.mk (Kd.S_below (by (with_reducible repeat (first | apply Kd.S_alloc | apply Kd.S_drewN | apply Kd.S_drew)); exact HP.out) hb)
             replace HG := Aside0.mk (Kd.S_below (by (with_reducible repeat (first | apply Kd.S_alloc | apply Kd.S_drewN | apply Kd.S_drew)); exact HG.out) hb)
             replace HSz := Aside0.mk (Nat.le_trans HSz.out hb.size)
             have n0_ := Aside0.mk (Kd.S_below (by (with_reducible repeat (first | apply Kd.S_alloc | apply Kd.S_drewN | apply Kd.S_drew)); exact HO374.out) hb)
             have n1_ := Aside0.mk (Kd.R_below (zq3 HO379) hb)
             have n1F_ := Aside0.mk (Kd.R_below (zq3 HO379F) hb)
             have n2_ := Aside0.mk (Kd.R_below (zq3 HO382) hb)
             have n2F_ := Aside0.mk (Kd.R_below (zq3 HO382F) hb)
             have n3_ := Aside0.mk (Kd.S_below (by (with_reducible repeat (first | apply Kd.S_alloc | apply Kd.S_drewN | apply Kd.S_drew)); exact HO386.out) hb)
             have n4_ := Aside0.mk (Kd.R_below (zq3 HO392) hb)
             have n4F_ := Aside0.mk (Kd.R_below (zq3 HO392F) hb)
             have n5_ := Aside0.mk (Kd.R_below (zq3 HO395) hb)
             have n5F_ := Aside0.mk (Kd.R_below (zq3 HO395F) hb)
             have n6_ := Aside0.mk (zbb BK363 hb)
             have n7_ := Aside0.mk (zbb BK383 hb)
             have n8_ := Aside0.mk (below_step (zb1 HB) hb)
             clear HO374 HO379 HO379F HO382 HO382F HO386 HO392 HO392F HO395 HO395F BK363 BK383 HB
             have HO374 := n0_; have HO379 := n1_; have HO379F := n1F_; have HO382 := n2_; have HO382F := n2F_; have HO386 := n3_; have HO392 := n4_; have HO392F := n4F_; have HO395 := n5_; have HO395F := n5F_; have BK363 := n6_; have BK383 := n7_; have HB := n8_
             clear n0_ n1_ n2_ n3_ n4_ n5_ n6_ n7_ n8_ n1F_ n2F_ n4F_ n5F_
             (try clear hb)
             (try clear hb2)
             (try clear hk)
             (try clear hi)
             refine hK.out _ _ ⟨zc BK383 0, zc BK383 1, zc BK383 2, zc BK363 0, zc BK363 1, zc BK363 2⟩ (fun hHeld => ?_)
             clear hK K
             refine norm_ (a' := ?_) ?_ ?_
             rotate_left
             ·
              show Act.put _ (some 44) _ = _
              simp only [Act.put, List.setIfInBounds_toArray, List.set_cons_zero, List.set_cons_succ, i64_w, i32_w]; rfl
             refine pure_ (i := 4) (N := some 45) (v := ?_) (a' := ?_) #[true, true, true, true, true] rfl rfl (by kernel_rfl) (fun _ _ _ h => h) (Or.inl ⟨by rfl, ?_⟩) ?_ ?_
             rotate_left
             ·
              intro w'
              go_simp
              with_reducible rfl
             rotate_left
             ·
              simp only [Act.put, List.setIfInBounds_toArray, List.set_cons_zero, List.set_cons_succ, i64_w, i32_w]
              rfl
             refine done_ (by kernel_rfl) ?_
             have hcz57_0 : w56.cell? ⟨gb383, 0, none⟩ = some (.int .i64 t376) := zc BK383 0
             have hcz57_1 : w56.cell? ⟨gb383, 1, none⟩ = some (.slice Ao46 t377.length co46) := zc BK383 1
             have hcz57_2 : w56.cell? ⟨gb383, 2, none⟩ = some (.slice Ao47 t380.length co47) := zc BK383 2
             have hfz57_0 := blk_frozen BK383.out 0
             have hfz57_1 := blk_frozen BK383.out 1
             have hfz57_2 := blk_frozen BK383.out 2
             try go_wp2_with (first | ((with_reducible refine gate_callee (f := 34) rfl ?_); refine goesL_ (some 48) rfl rfl Try.func34 (by kernel_rfl) rfl #[.agg #[.int .i64 t376, .slice Ao46 t377.length co46, .slice Ao47 t380.length co47], .int .i64 101] rfl zq6 ?_; (with_reducible refine (laws_markBox.calls k t376 (fun k_ => some k_ = (.slice Ao46 t377.length co46 : Value).ownBlock) (.slice Ao46 t377.length co46) t377 (fun k_ => some k_ = (.slice Ao47 t380.length co47 : Value).ownBlock) (.slice Ao47 t380.length co47) t380 101 t397 t398 t399 w _ ?side1 ?side2 ?side3 ?side4 ?side5 A17.out).mono ?_); (case side1 => exact zb1 HB); (case side2 => exact Kd.R_tight rfl HO379.out); (case side3 => exact fun k_ e_ => (HO379.out.1 k_ e_.symm).1.1); (case side4 => exact Kd.R_tight rfl HO382.out); (case side5 => exact fun k_ e_ => (HO382.out.1 k_ e_.symm).1.1); rintro e w58 ⟨rfl, hy0, hy1, hb, hkp⟩; refine ⟨_, rfl, ?_⟩; replace HP := Aside0.mk (Kd.S_mono (Kd.S_keptB ((Kd.S_apart' (Kd.S_apart' (by (with_reducible repeat (first | apply Kd.S_alloc | apply Kd.S_drewN | apply Kd.S_drew)); exact HP.out) (Kd.R_typed HO379.out) (by decide)) (Kd.R_typed HO382.out) (by decide))) hkp (fun k_ hk_ hs_ => Or.elim hs_ (fun e_ => (hk_.1.2) e_) (fun e_ => (hk_.2) e_))) (fun _ hk_ => hk_.1.1.1)); replace HG := Aside0.mk (Kd.S_mono (Kd.S_keptB ((Kd.S_apart' (Kd.S_apart' (by (with_reducible repeat (first | apply Kd.S_alloc | apply Kd.S_drewN | apply Kd.S_drew)); exact HG.out) (Kd.R_typed HO379.out) (by decide)) (Kd.R_typed HO382.out) (by decide))) hkp (fun k_ hk_ hs_ => Or.elim hs_ (fun e_ => (hk_.1.2) e_) (fun e_ => (hk_.2) e_))) (fun _ hk_ => hk_.1.1.1)); replace HSz := Aside0.mk (Nat.le_trans HSz.out hkp.1); have n0_ := Aside0.mk (blk_kept (zq1 BK363) hkp (fun hs_ => Or.elim hs_ (fun e_ => (fun e_ => (Kd.R_ne HO379.out BK363.out (by decide)) e_) e_) (fun e_ => (fun e_ => (Kd.R_ne HO382.out BK363.out (by decide)) e_) e_))); have n1_ := Aside0.mk (Kd.S_mono (ok' := fun k_ => some k_ ≠ (.slice Ao49 t384.length co49 : Value).ownBlock) (Kd.S_keptB ((Kd.S_apart' (Kd.S_apart' HO374.out (Kd.R_typed HO379.out) (by decide)) (Kd.R_typed HO382.out) (by decide))) hkp (fun k_ hk_ hs_ => Or.elim hs_ (fun e_ => (hk_.1.2) e_) (fun e_ => (hk_.2) e_))) (fun k_ hk_ => hk_.1.1.1.2)); have n2_ := Aside0.mk (Kd.R_reok rfl hy0 (fun k_ e_ => HO379.out.1 k_ e_)); have n3_ := Aside0.mk (Kd.R_reok rfl hy1 (fun k_ e_ => HO382.out.1 k_ e_)); have n4_ := Aside0.mk (Kd.S_mono (ok' := fun k_ => some k_ ≠ (.slice Ao50 t372.length co50 : Value).ownBlock) (Kd.S_keptB ((Kd.S_apart' (Kd.S_apart' HO386.out (Kd.R_typed HO379.out) (by decide)) (Kd.R_typed HO382.out) (by decide))) hkp (fun k_ hk_ hs_ => Or.elim hs_ (fun e_ => (hk_.1.2) e_) (fun e_ => (hk_.2) e_))) (fun k_ hk_ => hk_.1.1.1.2)); have n5_ := Aside0.mk (hb); clear BK363; clear HO374; clear HO379 HO379F; clear HO382 HO382F; clear HO386; clear HB; have BK363 := n0_; have HO374 := n1_; have HO379 := n2_; have HO382 := n3_; have HO386 := n4_; have HB := n5_; clear n0_ n1_ n2_ n3_ n4_ n5_; (try clear hb); (try clear hkp); (try clear hy0); (try clear hy1)) | (go_at_call 45; (with_reducible refine (laws_eqDyadicSS.calls k _ _ t384 _ _ t372 true _ ?side1 ?side2 ?side3 ?side4 A19.out).mono ?_); (case side1 => repeat (first | exact (Kd.S_reads' HO386.out).2.2 | (with_reducible refine Kd.C_alloc ?_ _) | (with_reducible refine Kd.C_drewN ?_ _) | (with_reducible refine Kd.C_drew ?_))); (case side2 => exact (Kd.S_reads' HO386.out).2.1); (case side3 => repeat (first | exact (Kd.S_reads' HO374.out).2.2 | (with_reducible refine Kd.C_alloc ?_ _) | (with_reducible refine Kd.C_drewN ?_ _) | (with_reducible refine Kd.C_drew ?_))); (case side4 => exact (Kd.S_reads' HO374.out).2.1); rintro e w59 ⟨rfl, hb⟩; replace HP := Aside0.mk (Kd.S_below (by (with_reducible repeat (first | apply Kd.S_alloc | apply Kd.S_drewN | apply Kd.S_drew)); exact HP.out) hb); replace HG := Aside0.mk (Kd.S_below (by (with_reducible repeat (first | apply Kd.S_alloc | apply Kd.S_drewN | apply Kd.S_drew)); exact HG.out) hb); replace HSz := Aside0.mk (Nat.le_trans HSz.out hb.size); replace HO374 := Aside0.mk (Kd.S_below (by (with_reducible repeat (first | apply Kd.S_alloc | apply Kd.S_drewN | apply Kd.S_drew)); exact HO374.out) hb); replace HO386 := Aside0.mk (Kd.S_below (by (with_reducible repeat (first | apply Kd.S_alloc | apply Kd.S_drewN | apply Kd.S_drew)); exact HO386.out) hb); replace BK363 := Aside0.mk (zbb BK363 hb); replace HB := Aside0.mk (below_step (zb1 HB) hb); (try clear hb); (try clear hb2); (try clear hk); (try clear hi)) | ((with_reducible refine gate_callee (f := 46) rfl ?_); refine goesL_ (some 64) rfl rfl Try.func46 (by kernel_rfl) rfl #[.slice Ao49 t384.length co49, .int .i64 101] rfl zq6 ?_; (with_reducible refine (laws_markDyadicSS.calls k B_ (fun k_ => B_ ≤ k_) (.slice Ao49 t384.length co49) t384 101 t401 t401g _ ?side1 ?side2 A21.out).mono ?_); (case side1 => exact HSz.out); (case side2 => exact (by (with_reducible repeat (first | apply Kd.S_alloc | apply Kd.S_drewN | apply Kd.S_drew)); exact HG.out)); rintro e w60 ⟨rfl, hr, hb, hk⟩; refine ⟨_, rfl, ?_⟩; have hL_ := (Kd.S_reads' hr).1; rw [hL_] at hr; rw [hL_]; clear hL_; replace HO386 := Aside0.mk (Kd.S_mono (ok' := fun k_ => some k_ ≠ (.slice Ao50 t372.length co50 : Value).ownBlock) (Kd.S_lower hr HQ.out.2) (fun k_ hk_ e_ => by have h1_ := ((Kd.S_R HP.out).1 k_ e_.symm).2; exact Or.elim hk_ (fun h2_ => Nat.not_lt.2 h2_ h1_) (fun h2_ => Nat.not_lt.2 h2_ (Nat.lt_of_lt_of_le h1_ HSz.out)))); replace HO374 := Aside0.mk (Kd.S_mono (ok' := fun k_ => some k_ ≠ (.slice Ao49 t384.length co49 : Value).ownBlock) (z_step hb (by (with_reducible repeat (first | apply Kd.S_alloc | apply Kd.S_drewN | apply Kd.S_drew)); exact HP.out)) (fun k_ hk_ e_ => by have h1_ := Kd.S_base HG.out k_ e_.symm; have h2_ := hk_.2; omega)); replace BK363 := Aside0.mk ((hb.block _ HQ.out.1).trans (zq1 BK363)); replace HB := Aside0.mk (z_chain (zb1 HB) hb HQ.out.2); clear hr hk HP HG HSz; (try clear hb); (try clear hb2); (try clear hk); (try clear hi)) | ((with_reducible refine gate_callee (f := 47) rfl ?_); refine goesL_ (some 67) rfl rfl Try.func47 (by kernel_rfl) rfl #[.slice Ao49 t401g.length co49, .int .i64 101] rfl zq6 ?_; (with_reducible refine (laws_heldDyadicSS.calls k _ _ t401g 101 t402 _ ?side1 ?side2 A22.out).mono ?_); (case side1 => repeat (first | exact (Kd.S_reads' HO386.out).2.2 | (with_reducible refine Kd.C_alloc ?_ _) | (with_reducible refine Kd.C_drewN ?_ _) | (with_reducible refine Kd.C_drew ?_))); (case side2 => exact (Kd.S_reads' HO386.out).2.1); rintro e w' ⟨rfl, ⟨nd, rfl⟩⟩; refine ⟨_, rfl, ?_⟩; have hcz61_0 : w60.cell? ⟨gb363, 0, none⟩ = some (.int .i64 a0_0) := zc BK363 0; have hcz61_1 : w60.cell? ⟨gb363, 1, none⟩ = some (.slice A0_1 l0_1.length c0_1) := zc BK363 1; have hcz61_2 : w60.cell? ⟨gb363, 2, none⟩ = some (.slice A0_2 l0_2.length c0_2) := zc BK363 2; have hfz61_0 := blk_frozen BK363.out 0; have hfz61_1 := blk_frozen BK363.out 1; have hfz61_2 := blk_frozen BK363.out 2) | ((with_reducible refine gate_callee (f := 16) rfl ?_); refine goesL_ (some 75) rfl rfl Try.func16 (by kernel_rfl) rfl #[.agg #[.int .i64 a0_0, .slice A0_1 l0_1.length c0_1, .slice A0_2 l0_2.length c0_2], .bool true] rfl zq6 ?_; (with_reducible refine (laws_toBox.calls k a0_0 _ _ l0_1 _ _ l0_2 true t403 t404 t407 _ ?side1 ?side2 ?side3 ?side4 A25.out).mono ?_); (case side1 => repeat (first | exact (Kd.C_below HR0_1.out (zb0 HB)) | (with_reducible refine Kd.C_alloc ?_ _) | (with_reducible refine Kd.C_drewN ?_ _) | (with_reducible refine Kd.C_drew ?_))); (case side2 => exact HC0_1.out); (case side3 => repeat (first | exact (Kd.C_below HR0_2.out (zb0 HB)) | (with_reducible refine Kd.C_alloc ?_ _) | (with_reducible refine Kd.C_drewN ?_ _) | (with_reducible refine Kd.C_drew ?_))); (case side4 => exact HC0_2.out); rintro e w62 ⟨v405, v408, rfl, ho0, ho1, hb, ho0F, ho1F⟩; refine ⟨_, rfl, ?_⟩; have n0_ := Aside0.mk (Kd.S_below (by (with_reducible repeat (first | apply Kd.S_alloc | apply Kd.S_drewN | apply Kd.S_drew)); exact HO374.out) hb); have n1_ := Aside0.mk (Kd.S_below (by (with_reducible repeat (first | apply Kd.S_alloc | apply Kd.S_drewN | apply Kd.S_drew)); exact HO386.out) hb); have n2_ := Aside0.mk (Kd.R_lower ho0 (below_size (zb0 HB))); have n2F_ := Aside0.mk (Kd.R_lower ho0F (below_size (zb0 HB))); have n3_ := Aside0.mk (Kd.R_lower ho1 (below_size (zb0 HB))); have n3F_ := Aside0.mk (Kd.R_lower ho1F (below_size (zb0 HB))); have n4_ := Aside0.mk (below_step (zb0 HB) hb); clear HO374; clear HO386; clear HB; have HO374 := n0_; have HO386 := n1_; have HO406 := n2_; have HO406F := n2F_; have HO409 := n3_; have HO409F := n3F_; have HB := n4_; clear n0_ n1_ n2_ n3_ n4_ n2F_ n3F_; (try clear hb); (try clear hb2); (try clear hk); (try clear hi); (try clear ho0); (try clear ho0F); (try clear ho1); (try clear ho1F); obtain ⟨Ao63, co63, eo63⟩ := Kd.R_slice HO406.out; subst eo63; obtain ⟨Ao64, co64, eo64⟩ := Kd.R_slice HO409.out; subst eo64) | ((with_reducible refine gate_callee (f := 44) rfl ?_); refine goesL_ (some 76) rfl rfl Try.func44 (by kernel_rfl) rfl #[.agg #[.int .i64 t403, .slice Ao63 t404.length co63, .slice Ao64 t407.length co64]] rfl zq6 ?_; (with_reducible refine (impl_CornersOf.calls k t403 _ _ t404 _ _ t407 t410 t413 _ ?side1 ?side2 ?side3 ?side4 A26.out).mono ?_); (case side1 => repeat (first | exact (Kd.R_reads' HO406.out).2.2 | (with_reducible refine Kd.C_alloc ?_ _) | (with_reducible refine Kd.C_drewN ?_ _) | (with_reducible refine Kd.C_drew ?_))); (case side2 => exact (Kd.R_reads' HO406.out).2.1); (case side3 => repeat (first | exact (Kd.R_reads' HO409.out).2.2 | (with_reducible refine Kd.C_alloc ?_ _) | (with_reducible refine Kd.C_drewN ?_ _) | (with_reducible refine Kd.C_drew ?_))); (case side4 => exact (Kd.R_reads' HO409.out).2.1); rintro e w65 ⟨v411, rfl, ho0, hb⟩; refine ⟨_, rfl, ?_⟩; have n0_ := Aside0.mk (Kd.S_elder' (by (with_reducible repeat (first | apply Kd.S_alloc | apply Kd.S_drewN | apply Kd.S_drew)); exact HO374.out) (Kd.S_base ho0) hb); have n1_ := Aside0.mk (Kd.S_elder' (by (with_reducible repeat (first | apply Kd.S_alloc | apply Kd.S_drewN | apply Kd.S_drew)); exact HO386.out) (Kd.S_base ho0) hb); have n2_ := Aside0.mk (Kd.R_below (zq3 HO406) hb); have n2F_ := Aside0.mk (Kd.R_below (zq3 HO406F) hb); have n3_ := Aside0.mk (Kd.R_below (zq3 HO409) hb); have n3F_ := Aside0.mk (Kd.R_below (zq3 HO409F) hb); have n4_ := Aside0.mk (Kd.S_lower (Kd.S_new' (Kd.S_new' ho0 (Kd.S_lt (by (with_reducible repeat (first | apply Kd.S_alloc | apply Kd.S_drewN | apply Kd.S_drew)); exact HO374.out))) (Kd.S_lt (by (with_reducible repeat (first | apply Kd.S_alloc | apply Kd.S_drewN | apply Kd.S_drew)); exact HO386.out))) (below_size (zb0 HB))); have n5_ := Aside0.mk (below_step (zb0 HB) hb); clear HO374; clear HO386; clear HO406 HO406F; clear HO409 HO409F; clear HB; have HO374 := n0_; have HO386 := n1_; have HO406 := n2_; have HO406F := n2F_; have HO409 := n3_; have HO409F := n3F_; have HO412 := n4_; have HB := n5_; clear n0_ n1_ n2_ n3_ n4_ n5_ n2F_ n3F_; (try clear hb); (try clear hb2); (try clear hk); (try clear hi); (try clear ho0); obtain ⟨Ao66, co66, eo66⟩ := Kd.S_slice HO412.out; subst eo66) | ((with_reducible refine gate_callee (f := 45) rfl ?_); refine goesL_ (some 81) rfl rfl Try.func45 (by kernel_rfl) rfl #[.slice Ao66 t410.length co66, .slice Ao50 t372.length co50] rfl zq6 ?_; (with_reducible refine (laws_eqDyadicSS.calls k _ _ t410 _ _ t372 true _ ?side1 ?side2 ?side3 ?side4 A27.out).mono ?_); (case side1 => repeat (first | exact (Kd.S_reads' HO412.out).2.2 | (with_reducible refine Kd.C_alloc ?_ _) | (with_reducible refine Kd.C_drewN ?_ _) | (with_reducible refine Kd.C_drew ?_))); (case side2 => exact (Kd.S_reads' HO412.out).2.1); (case side3 => repeat (first | exact (Kd.S_reads' HO374.out).2.2 | (with_reducible refine Kd.C_alloc ?_ _) | (with_reducible refine Kd.C_drewN ?_ _) | (with_reducible refine Kd.C_drew ?_))); (case side4 => exact (Kd.S_reads' HO374.out).2.1); rintro e w67 ⟨rfl, hb⟩; refine ⟨_, rfl, ?_⟩; replace HO374 := Aside0.mk (Kd.S_below (by (with_reducible repeat (first | apply Kd.S_alloc | apply Kd.S_drewN | apply Kd.S_drew)); exact HO374.out) hb); replace HO386 := Aside0.mk (Kd.S_below (by (with_reducible repeat (first | apply Kd.S_alloc | apply Kd.S_drewN | apply Kd.S_drew)); exact HO386.out) hb); replace HO412 := Aside0.mk (Kd.S_below (by (with_reducible repeat (first | apply Kd.S_alloc | apply Kd.S_drewN | apply Kd.S_drew)); exact HO412.out) hb); replace HB := Aside0.mk (below_step (zb0 HB) hb); (try clear hb); (try clear hb2); (try clear hk); (try clear hi)) | ((with_reducible refine gate_callee (f := 47) rfl ?_); refine goesL_ (some 90) rfl rfl Try.func47 (by kernel_rfl) rfl #[.slice Ao49 t401g.length co49, .int .i64 101] rfl zq6 ?_; (with_reducible refine (laws_heldDyadicSS.calls k _ _ t401g 101 t415 _ ?side1 ?side2 A30.out).mono ?_); (case side1 => repeat (first | exact (Kd.S_reads' HO386.out).2.2 | (with_reducible refine Kd.C_alloc ?_ _) | (with_reducible refine Kd.C_drewN ?_ _) | (with_reducible refine Kd.C_drew ?_))); (case side2 => exact (Kd.S_reads' HO386.out).2.1); rintro e w' ⟨rfl, ⟨nd, rfl⟩⟩; refine ⟨_, rfl, ?_⟩))
             go_ret
             exact ⟨by first | rfl | (simp [errW_none, errW_some] <;> rfl) | (simp [*, errW_none, errW_some] <;> rfl), (zb0 HB)⟩
            ·
             rw [if_neg c32] at H
             exact absurd H (by simp)
         ·
          replace c28 := Bool.eq_false_iff.mpr c28
          subst c28
          have H1 : (none) = some r := by rw [if_neg (show ¬ (false = true) by decide)] at H; exact H
          clear H
          have H := H1
          clear H1
          exact absurd H (by simp)
        ·
         rw [if_neg c24] at H
         exact absurd H (by simp)
      ·
       replace c20 := Bool.eq_false_iff.mpr c20
       subst c20
       have H1 : (none) = some r := by rw [if_neg (show ¬ (false = true) by decide)] at H; exact H
       clear H
       have H := H1
       clear H1
       exact absurd H (by simp)
    ·
     replace c16 := Bool.eq_false_iff.mpr c16
     subst c16
     have H1 : (none) = some r := by rw [if_neg (show ¬ (false = true) by decide)] at H; exact H
     clear H
     have H := H1
     clear H1
     exact absurd H (by simp)
  ·
   replace c12 := Bool.eq_false_iff.mpr c12
   subst c12
   have H1 : (none) = some r := by rw [if_neg (show ¬ (false = true) by decide)] at H; exact H
   clear H
   have H := H1
   clear H1
   exact absurd H (by simp)
end Go.Proofs.Ytgaoniapddpaaaa.PD
