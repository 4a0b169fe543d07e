-- By wip/mk/drv.py
import Derived.Test.YtgaoniapddpaaaaQHalvOfPDx0
import Derived.Test.YtgaoniapddpaaaaQHalvOfPDx1
import Derived.Test.YtgaoniapddpaaaaQHalvOfPDx2
import Derived.Test.YtgaoniapddpaaaaQHalvOfPDx3
import Derived.Test.YtgaoniapddpaaaaQHalvOfPDx5
import Derived.Test.YtgaoniapddpaaaaQHalvOfPDx6
import Derived.Test.YtgaoniapddpaaaaQHalvOfPDx11
import Derived.Test.YtgaoniapddpaaaaQHalvOfPDx15
import Derived.Test.YtgaoniapddpaaaaQHalvOfPDx17
import Derived.Test.YtgaoniapddpaaaaQHalvOfPDx18
namespace Go.Proofs.Ytgaoniapddpaaaa.PD
open Go.RowKit Go.Proofs.YtgaoniapddpaaaaW.PrintWords Go.Proofs.YtgaoniapddpaaaaW.PrintLast Go.Proofs.YtgaoniapddpaaaaW.PrintMore
attribute [local go_sem] max2_int min2_int max_two min_two max_three min_three max_four min_four
set_option linter.unusedVariables false
set_option linter.unusedSimpArgs false
/-! ### laws_FnExactHalvesOf: function 13 -/
-- PROOF
theorem z_lt3 {w : World} {p1 p2 p3 : Addr} {u1 u2 u3 : Value} {n : Nat} (h : n < w.heap.size) : n < (((w.setCell p1 u1).setCell p2 u2).setCell p3 u3).heap.size := by rw [Go.Deep.nblk_setCell, Go.Deep.nblk_setCell, Go.Deep.nblk_setCell]; exact h
theorem z_step {α : Type} {d : Kd α} {e base B : Nat} {ok : Nat → Prop} {W w1 : World} {u : Value} {xs : List α} (hb : Below B W w1) (h : Kd.S d e W base (fun k => ok k ∧ k < B) u xs) : Kd.S d e w1 base (fun k => ok k ∧ k < B) u xs := Kd.S_step h (fun k hk _ => hb.block k hk.2)
theorem z_pack {α β : Type} {d : Kd α} {d' : Kd β} {e e' base n ga gx : Nat} {ok okg : Nat → Prop} {W w1 : World} {u v u1 u2 : Value} {xs : List α} {ys : List β} (hp : Kd.S d e W base ok u xs) (hg : Kd.S d' e' w1 W.heap.size okg v ys) (hb : Below W.heap.size W w1) (ha : ga < W.heap.size) (hx : gx < W.heap.size) (hn : n ≤ W.heap.size) (h1 : ∀ k, u1.ownBlock = some k → k < W.heap.size) (h2 : ∀ k, u2.ownBlock = some k → k < W.heap.size) :
    ∃ B, Kd.S d e w1 base (fun k => ok k ∧ k < B) u xs ∧ Kd.S d' e' w1 B (fun k_ => B ≤ k_) v ys ∧ (ga < B ∧ gx < B ∧ n ≤ B) ∧ B ≤ w1.heap.size ∧ (∀ k, u1.ownBlock = some k → k < B) ∧ (∀ k, u2.ownBlock = some k → k < B) := ⟨W.heap.size, Kd.S_old hp hb, Kd.S_mono (Kd.S_bound hg) (fun _ h => h.2.1), ⟨ha, hx, hn⟩, hb.size, h1, h2⟩
theorem z_chain {n B : Nat} {w W w1 : World} (h0 : Below n w W) (h1 : Below B W w1) (hn : n ≤ B) : Below n w w1 := ⟨h1.os.trans h0.os, h1.tape.trans h0.tape, h1.output.trans h0.output, Nat.le_trans h0.size h1.size, fun k hk => (h1.block k (by omega)).trans (h0.block k hk)⟩
set_option maxHeartbeats 8000000 in
set_option maxRecDepth 100000 in
theorem laws_FnExactHalvesOf.calls (k : Nat) (a0_0 : Int) (A0_1 : Option Addr) (c0_1 : Nat) (l0_1 : List Int) (A0_2 : Option Addr) (c0_2 : Nat) (l0_2 : List Int) (a1 : Int) (r : Bool) (w : World) (hr0_1 : Kd.C (Kd.int .i64) w A0_1 l0_1.length l0_1) (hc0_1 : l0_1.length ≤ c0_1) (hr0_2 : Kd.C (Kd.int .i64) w A0_2 l0_2.length l0_2) (hc0_2 : l0_2.length ≤ c0_2) (h : laws_FnExactHalvesOf.f k a0_0 l0_1 l0_2 a1 = some r) :
  Calls Try.prog 13 #[.agg #[.int .i64 a0_0, .slice A0_1 l0_1.length c0_1, .slice A0_2 l0_2.length c0_2], .int .i64 a1] w fun e w' => e = .returned (.bool r) ∧ Below w.heap.size w w' := by
 have hu24 := Try.underlying24
 have hu27 := Try.underlying27
 have HR0_1 := Aside0.mk hr0_1
 have HC0_1 := Aside0.mk hc0_1
 clear hr0_1 hc0_1
 have HR0_2 := Aside0.mk hr0_2
 have HC0_2 := Aside0.mk hc0_2
 clear hr0_2 hc0_2
 have HB := Aside0.mk (Below.refl w.heap.size w)
 have H : ((laws_szBox.f a0_0 l0_1 l0_2 1000000).bind fun t205 => (if t205 < 0 then (some true) else ((laws_toBox.f k a0_0 l0_1 l0_2 false).bind fun bt206 => ((spec_HalvesOf.f k bt206.1 bt206.2.1 bt206.2.2 a1).bind fun bt213 => ((laws_toBox.f k a0_0 l0_1 l0_2 false).bind fun bt217 => ((impl_HalvesOf.f k bt217.1 bt217.2.1 bt217.2.2 a1).bind fun bt225 => ((laws_eqBoxS.f k bt225.1 bt213.1).bind fun t229 => (if t229 = true then (if (bt225.2 != bt213.2) = true then (none) else ((laws_toBox.f k a0_0 l0_1 l0_2 false).bind fun bt230 => ((laws_intactBox.f bt217.1 bt217.2.1 bt217.2.2 bt230.1 bt230.2.1 bt230.2.2).bind fun t237 => (if t237 = true then ((laws_markBox.f k bt217.1 bt217.2.1 bt217.2.2 101).bind fun bt238 => (if bt238.1 < 0 then (none) else ((laws_eqBoxS.f k bt225.1 bt213.1).bind fun t241 => (if t241 = true then ((laws_markBoxS.f k bt225.1 101).bind fun bt242 => ((laws_heldBoxS.f k bt242.2 101).bind fun t243 => (if t243 < 0 then (none) else (if t243 = bt242.1 then ((laws_toBox.f k a0_0 l0_1 l0_2 true).bind fun bt244 => ((impl_HalvesOf.f k bt244.1 bt244.2.1 bt244.2.2 a1).bind fun bt251 => ((laws_eqBoxS.f k bt251.1 bt213.1).bind fun t255 => (if t255 = true then (if (bt251.2 != bt213.2) = true then (none) else ((laws_heldBoxS.f k bt242.2 101).bind fun t256 => (if t256 < 0 then (none) else (if t256 = bt242.1 then (some true) else (none))))) else (none))))) else (none))))) else (none))))) else (none))))) else (none))))))))) = some r := h
 clear h
 replace H := Option.bind_eq_some_iff.mp H
 obtain ⟨t205, A30, H⟩ := H
 replace H : (if t205 < 0 then (some true) else ((laws_toBox.f k a0_0 l0_1 l0_2 false).bind fun bt206 => ((spec_HalvesOf.f k bt206.1 bt206.2.1 bt206.2.2 a1).bind fun bt213 => ((laws_toBox.f k a0_0 l0_1 l0_2 false).bind fun bt217 => ((impl_HalvesOf.f k bt217.1 bt217.2.1 bt217.2.2 a1).bind fun bt225 => ((laws_eqBoxS.f k bt225.1 bt213.1).bind fun t229 => (if t229 = true then (if (bt225.2 != bt213.2) = true then (none) else ((laws_toBox.f k a0_0 l0_1 l0_2 false).bind fun bt230 => ((laws_intactBox.f bt217.1 bt217.2.1 bt217.2.2 bt230.1 bt230.2.1 bt230.2.2).bind fun t237 => (if t237 = true then ((laws_markBox.f k bt217.1 bt217.2.1 bt217.2.2 101).bind fun bt238 => (if bt238.1 < 0 then (none) else ((laws_eqBoxS.f k bt225.1 bt213.1).bind fun t241 => (if t241 = true then ((laws_markBoxS.f k bt225.1 101).bind fun bt242 => ((laws_heldBoxS.f k bt242.2 101).bind fun t243 => (if t243 < 0 then (none) else (if t243 = bt242.1 then ((laws_toBox.f k a0_0 l0_1 l0_2 true).bind fun bt244 => ((impl_HalvesOf.f k bt244.1 bt244.2.1 bt244.2.2 a1).bind fun bt251 => ((laws_eqBoxS.f k bt251.1 bt213.1).bind fun t255 => (if t255 = true then (if (bt251.2 != bt213.2) = true then (none) else ((laws_heldBoxS.f k bt242.2 101).bind fun t256 => (if t256 < 0 then (none) else (if t256 = bt242.1 then (some true) else (none))))) else (none))))) else (none))))) else (none))))) else (none))))) else (none)))))))) = some r := H
 have A3 := Aside0.mk A30
 clear A30
 by_cases c4 : t205 < 0
 ·
  rw [if_pos c4] at H
  have c4b0 : decide (t205 < 0) = true := decide_eq_true c4
  clear c4
  obtain rfl := Option.some.inj H
  go_enter Try.func13, Try.ntmps13
  go_wp2_with (first | ((with_reducible refine gate_dst (N := 2) rfl ?_); refine zbe (N := 2) (cs := #[.int .i64 a0_0, .slice A0_1 l0_1.length c0_1, .slice A0_2 l0_2.length c0_2]) (t := 24) ?_; intro gb204 hg w5 hbox hb; have BK204 := Aside0.mk (hbox); have GW204 := Aside0.mk (zge (zb0 HB) hg); have GE204 := GW204; replace HB := Aside0.mk (below_step (zb0 HB) hb); clear hb hbox hg; have hcz6_0 : w5.cell? ⟨gb204, 0, none⟩ = some (.int .i64 a0_0) := zc BK204 0; have hcz6_1 : w5.cell? ⟨gb204, 1, none⟩ = some (.slice A0_1 l0_1.length c0_1) := zc BK204 1; have hcz6_2 : w5.cell? ⟨gb204, 2, none⟩ = some (.slice A0_2 l0_2.length c0_2) := zc BK204 2; have hfz6_0 := blk_frozen BK204.out 0; have hfz6_1 := blk_frozen BK204.out 1; have hfz6_2 := blk_frozen BK204.out 2) | ((with_reducible refine gate_callee (f := 14) rfl ?_); refine goesL_ (some 18) rfl rfl Try.func14 (by kernel_rfl) rfl #[.agg #[.int .i64 a0_0, .slice A0_1 l0_1.length c0_1, .slice A0_2 l0_2.length c0_2], .int .i64 1000000] rfl zq6 ?_; (with_reducible refine (laws_szBox.calls a0_0 _ _ l0_1 _ _ l0_2 1000000 t205 _ ?side1 ?side2 ?side3 ?side4 A3.out).mono ?_); (case side1 => repeat (first | exact (Kd.C_below HR0_1.out HB.out) | (with_reducible refine Kd.C_alloc ?_ _) | (with_reducible refine Kd.C_drewN ?_ _) | (with_reducible refine Kd.C_drew ?_))); (case side2 => exact HC0_1.out); (case side3 => repeat (first | exact (Kd.C_below HR0_2.out HB.out) | (with_reducible refine Kd.C_alloc ?_ _) | (with_reducible refine Kd.C_drewN ?_ _) | (with_reducible refine Kd.C_drew ?_))); (case side4 => exact HC0_2.out); rintro e w7 ⟨rfl, hb⟩; refine ⟨_, rfl, ?_⟩; replace HB := Aside0.mk (below_step (zb0 HB) hb); (try clear hb); (try clear hb2); (try clear hk); (try clear hi)))
  go_ret
  exact ⟨by first | rfl | (simp [errW_none, errW_some] <;> rfl) | (simp [*, errW_none, errW_some] <;> rfl), (zb0 HB)⟩
 ·
  rw [if_neg c4] at H
  have c4b0 : decide (t205 < 0) = false := decide_eq_false c4
  clear c4
  replace H := Option.bind_eq_some_iff.mp H
  obtain ⟨⟨t206, t207, t210⟩, A80, H⟩ := H
  replace H : ((spec_HalvesOf.f k t206 t207 t210 a1).bind fun bt213 => ((laws_toBox.f k a0_0 l0_1 l0_2 false).bind fun bt217 => ((impl_HalvesOf.f k bt217.1 bt217.2.1 bt217.2.2 a1).bind fun bt225 => ((laws_eqBoxS.f k bt225.1 bt213.1).bind fun t229 => (if t229 = true then (if (bt225.2 != bt213.2) = true then (none) else ((laws_toBox.f k a0_0 l0_1 l0_2 false).bind fun bt230 => ((laws_intactBox.f bt217.1 bt217.2.1 bt217.2.2 bt230.1 bt230.2.1 bt230.2.2).bind fun t237 => (if t237 = true then ((laws_markBox.f k bt217.1 bt217.2.1 bt217.2.2 101).bind fun bt238 => (if bt238.1 < 0 then (none) else ((laws_eqBoxS.f k bt225.1 bt213.1).bind fun t241 => (if t241 = true then ((laws_markBoxS.f k bt225.1 101).bind fun bt242 => ((laws_heldBoxS.f k bt242.2 101).bind fun t243 => (if t243 < 0 then (none) else (if t243 = bt242.1 then ((laws_toBox.f k a0_0 l0_1 l0_2 true).bind fun bt244 => ((impl_HalvesOf.f k bt244.1 bt244.2.1 bt244.2.2 a1).bind fun bt251 => ((laws_eqBoxS.f k bt251.1 bt213.1).bind fun t255 => (if t255 = true then (if (bt251.2 != bt213.2) = true then (none) else ((laws_heldBoxS.f k bt242.2 101).bind fun t256 => (if t256 < 0 then (none) else (if t256 = bt242.1 then (some true) else (none))))) else (none))))) else (none))))) else (none))))) else (none))))) else (none)))))) = some r := H
  have A8 := Aside0.mk A80
  clear A80
  replace H := Option.bind_eq_some_iff.mp H
  obtain ⟨⟨t213, t216⟩, A90, H⟩ := H
  replace H : ((laws_toBox.f k a0_0 l0_1 l0_2 false).bind fun bt217 => ((impl_HalvesOf.f k bt217.1 bt217.2.1 bt217.2.2 a1).bind fun bt225 => ((laws_eqBoxS.f k bt225.1 t213).bind fun t229 => (if t229 = true then (if (bt225.2 != t216) = true then (none) else ((laws_toBox.f k a0_0 l0_1 l0_2 false).bind fun bt230 => ((laws_intactBox.f bt217.1 bt217.2.1 bt217.2.2 bt230.1 bt230.2.1 bt230.2.2).bind fun t237 => (if t237 = true then ((laws_markBox.f k bt217.1 bt217.2.1 bt217.2.2 101).bind fun bt238 => (if bt238.1 < 0 then (none) else ((laws_eqBoxS.f k bt225.1 t213).bind fun t241 => (if t241 = true then ((laws_markBoxS.f k bt225.1 101).bind fun bt242 => ((laws_heldBoxS.f k bt242.2 101).bind fun t243 => (if t243 < 0 then (none) else (if t243 = bt242.1 then ((laws_toBox.f k a0_0 l0_1 l0_2 true).bind fun bt244 => ((impl_HalvesOf.f k bt244.1 bt244.2.1 bt244.2.2 a1).bind fun bt251 => ((laws_eqBoxS.f k bt251.1 t213).bind fun t255 => (if t255 = true then (if (bt251.2 != t216) = true then (none) else ((laws_heldBoxS.f k bt242.2 101).bind fun t256 => (if t256 < 0 then (none) else (if t256 = bt242.1 then (some true) else (none))))) else (none))))) else (none))))) else (none))))) else (none))))) else (none))))) = some r := H
  have A9 := Aside0.mk A90
  clear A90
  replace H := Option.bind_eq_some_iff.mp H
  obtain ⟨⟨t217, t218, t221⟩, A100, H⟩ := H
  replace H : ((impl_HalvesOf.f k t217 t218 t221 a1).bind fun bt225 => ((laws_eqBoxS.f k bt225.1 t213).bind fun t229 => (if t229 = true then (if (bt225.2 != t216) = true then (none) else ((laws_toBox.f k a0_0 l0_1 l0_2 false).bind fun bt230 => ((laws_intactBox.f t217 t218 t221 bt230.1 bt230.2.1 bt230.2.2).bind fun t237 => (if t237 = true then ((laws_markBox.f k t217 t218 t221 101).bind fun bt238 => (if bt238.1 < 0 then (none) else ((laws_eqBoxS.f k bt225.1 t213).bind fun t241 => (if t241 = true then ((laws_markBoxS.f k bt225.1 101).bind fun bt242 => ((laws_heldBoxS.f k bt242.2 101).bind fun t243 => (if t243 < 0 then (none) else (if t243 = bt242.1 then ((laws_toBox.f k a0_0 l0_1 l0_2 true).bind fun bt244 => ((impl_HalvesOf.f k bt244.1 bt244.2.1 bt244.2.2 a1).bind fun bt251 => ((laws_eqBoxS.f k bt251.1 t213).bind fun t255 => (if t255 = true then (if (bt251.2 != t216) = true then (none) else ((laws_heldBoxS.f k bt242.2 101).bind fun t256 => (if t256 < 0 then (none) else (if t256 = bt242.1 then (some true) else (none))))) else (none))))) else (none))))) else (none))))) else (none))))) else (none)))) = some r := H
  have A10 := Aside0.mk A100
  clear A100
  replace H := Option.bind_eq_some_iff.mp H
  obtain ⟨⟨t225, t228⟩, A110, H⟩ := H
  replace H : ((laws_eqBoxS.f k t225 t213).bind fun t229 => (if t229 = true then (if (t228 != t216) = true then (none) else ((laws_toBox.f k a0_0 l0_1 l0_2 false).bind fun bt230 => ((laws_intactBox.f t217 t218 t221 bt230.1 bt230.2.1 bt230.2.2).bind fun t237 => (if t237 = true then ((laws_markBox.f k t217 t218 t221 101).bind fun bt238 => (if bt238.1 < 0 then (none) else ((laws_eqBoxS.f k t225 t213).bind fun t241 => (if t241 = true then ((laws_markBoxS.f k t225 101).bind fun bt242 => ((laws_heldBoxS.f k bt242.2 101).bind fun t243 => (if t243 < 0 then (none) else (if t243 = bt242.1 then ((laws_toBox.f k a0_0 l0_1 l0_2 true).bind fun bt244 => ((impl_HalvesOf.f k bt244.1 bt244.2.1 bt244.2.2 a1).bind fun bt251 => ((laws_eqBoxS.f k bt251.1 t213).bind fun t255 => (if t255 = true then (if (bt251.2 != t216) = true then (none) else ((laws_heldBoxS.f k bt242.2 101).bind fun t256 => (if t256 < 0 then (none) else (if t256 = bt242.1 then (some true) else (none))))) else (none))))) else (none))))) else (none))))) else (none))))) else (none))) = some r := H
  have A11 := Aside0.mk A110
  clear A110
  replace H := Option.bind_eq_some_iff.mp H
  obtain ⟨t229, A120, H⟩ := H
  replace H : (if t229 = true then (if (t228 != t216) = true then (none) else ((laws_toBox.f k a0_0 l0_1 l0_2 false).bind fun bt230 => ((laws_intactBox.f t217 t218 t221 bt230.1 bt230.2.1 bt230.2.2).bind fun t237 => (if t237 = true then ((laws_markBox.f k t217 t218 t221 101).bind fun bt238 => (if bt238.1 < 0 then (none) else ((laws_eqBoxS.f k t225 t213).bind fun t241 => (if t241 = true then ((laws_markBoxS.f k t225 101).bind fun bt242 => ((laws_heldBoxS.f k bt242.2 101).bind fun t243 => (if t243 < 0 then (none) else (if t243 = bt242.1 then ((laws_toBox.f k a0_0 l0_1 l0_2 true).bind fun bt244 => ((impl_HalvesOf.f k bt244.1 bt244.2.1 bt244.2.2 a1).bind fun bt251 => ((laws_eqBoxS.f k bt251.1 t213).bind fun t255 => (if t255 = true then (if (bt251.2 != t216) = true then (none) else ((laws_heldBoxS.f k bt242.2 101).bind fun t256 => (if t256 < 0 then (none) else (if t256 = bt242.1 then (some true) else (none))))) else (none))))) else (none))))) else (none))))) else (none))))) else (none)) = some r := H
  have A12 := Aside0.mk A120
  clear A120
  by_cases c13 : t229 = true
  ·
   subst c13
   have H1 : (if (t228 != t216) = true then (none) else ((laws_toBox.f k a0_0 l0_1 l0_2 false).bind fun bt230 => ((laws_intactBox.f t217 t218 t221 bt230.1 bt230.2.1 bt230.2.2).bind fun t237 => (if t237 = true then ((laws_markBox.f k t217 t218 t221 101).bind fun bt238 => (if bt238.1 < 0 then (none) else ((laws_eqBoxS.f k t225 t213).bind fun t241 => (if t241 = true then ((laws_markBoxS.f k t225 101).bind fun bt242 => ((laws_heldBoxS.f k bt242.2 101).bind fun t243 => (if t243 < 0 then (none) else (if t243 = bt242.1 then ((laws_toBox.f k a0_0 l0_1 l0_2 true).bind fun bt244 => ((impl_HalvesOf.f k bt244.1 bt244.2.1 bt244.2.2 a1).bind fun bt251 => ((laws_eqBoxS.f k bt251.1 t213).bind fun t255 => (if t255 = true then (if (bt251.2 != t216) = true then (none) else ((laws_heldBoxS.f k bt242.2 101).bind fun t256 => (if t256 < 0 then (none) else (if t256 = bt242.1 then (some true) else (none))))) else (none))))) else (none))))) else (none))))) else (none))))) = some r := by rw [if_pos rfl] at H; exact H
   clear H
   have H := H1
   clear H1
   by_cases c14 : (t228 != t216) = true
   ·
    rw [if_pos c14] at H
    exact absurd H (by simp)
   ·
    rw [if_neg c14] at H
    have c14b0 : (t228 != t216) = false := by simpa using c14
    (try (have c14b1 : decide (t228 = t216) = true := by simpa using c14))
    (try (have c14b2 : (t228 == t216) = true := by simpa using c14))
    clear c14
    replace H := Option.bind_eq_some_iff.mp H
    obtain ⟨⟨t230, t231, t234⟩, A150, H⟩ := H
    replace H : ((laws_intactBox.f t217 t218 t221 t230 t231 t234).bind fun t237 => (if t237 = true then ((laws_markBox.f k t217 t218 t221 101).bind fun bt238 => (if bt238.1 < 0 then (none) else ((laws_eqBoxS.f k t225 t213).bind fun t241 => (if t241 = true then ((laws_markBoxS.f k t225 101).bind fun bt242 => ((laws_heldBoxS.f k bt242.2 101).bind fun t243 => (if t243 < 0 then (none) else (if t243 = bt242.1 then ((laws_toBox.f k a0_0 l0_1 l0_2 true).bind fun bt244 => ((impl_HalvesOf.f k bt244.1 bt244.2.1 bt244.2.2 a1).bind fun bt251 => ((laws_eqBoxS.f k bt251.1 t213).bind fun t255 => (if t255 = true then (if (bt251.2 != t216) = true then (none) else ((laws_heldBoxS.f k bt242.2 101).bind fun t256 => (if t256 < 0 then (none) else (if t256 = bt242.1 then (some true) else (none))))) else (none))))) else (none))))) else (none))))) else (none))) = some r := H
    have A15 := Aside0.mk A150
    clear A150
    replace H := Option.bind_eq_some_iff.mp H
    obtain ⟨t237, A160, H⟩ := H
    replace H : (if t237 = true then ((laws_markBox.f k t217 t218 t221 101).bind fun bt238 => (if bt238.1 < 0 then (none) else ((laws_eqBoxS.f k t225 t213).bind fun t241 => (if t241 = true then ((laws_markBoxS.f k t225 101).bind fun bt242 => ((laws_heldBoxS.f k bt242.2 101).bind fun t243 => (if t243 < 0 then (none) else (if t243 = bt242.1 then ((laws_toBox.f k a0_0 l0_1 l0_2 true).bind fun bt244 => ((impl_HalvesOf.f k bt244.1 bt244.2.1 bt244.2.2 a1).bind fun bt251 => ((laws_eqBoxS.f k bt251.1 t213).bind fun t255 => (if t255 = true then (if (bt251.2 != t216) = true then (none) else ((laws_heldBoxS.f k bt242.2 101).bind fun t256 => (if t256 < 0 then (none) else (if t256 = bt242.1 then (some true) else (none))))) else (none))))) else (none))))) else (none))))) else (none)) = some r := H
    have A16 := Aside0.mk A160
    clear A160
    by_cases c17 : t237 = true
    ·
     subst c17
     have H1 : ((laws_markBox.f k t217 t218 t221 101).bind fun bt238 => (if bt238.1 < 0 then (none) else ((laws_eqBoxS.f k t225 t213).bind fun t241 => (if t241 = true then ((laws_markBoxS.f k t225 101).bind fun bt242 => ((laws_heldBoxS.f k bt242.2 101).bind fun t243 => (if t243 < 0 then (none) else (if t243 = bt242.1 then ((laws_toBox.f k a0_0 l0_1 l0_2 true).bind fun bt244 => ((impl_HalvesOf.f k bt244.1 bt244.2.1 bt244.2.2 a1).bind fun bt251 => ((laws_eqBoxS.f k bt251.1 t213).bind fun t255 => (if t255 = true then (if (bt251.2 != t216) = true then (none) else ((laws_heldBoxS.f k bt242.2 101).bind fun t256 => (if t256 < 0 then (none) else (if t256 = bt242.1 then (some true) else (none))))) else (none))))) else (none))))) else (none))))) = some r := by rw [if_pos rfl] at H; exact H
     clear H
     have H := H1
     clear H1
     replace H := Option.bind_eq_some_iff.mp H
     obtain ⟨⟨t238, t239, t240⟩, A180, H⟩ := H
     replace H : (if t238 < 0 then (none) else ((laws_eqBoxS.f k t225 t213).bind fun t241 => (if t241 = true then ((laws_markBoxS.f k t225 101).bind fun bt242 => ((laws_heldBoxS.f k bt242.2 101).bind fun t243 => (if t243 < 0 then (none) else (if t243 = bt242.1 then ((laws_toBox.f k a0_0 l0_1 l0_2 true).bind fun bt244 => ((impl_HalvesOf.f k bt244.1 bt244.2.1 bt244.2.2 a1).bind fun bt251 => ((laws_eqBoxS.f k bt251.1 t213).bind fun t255 => (if t255 = true then (if (bt251.2 != t216) = true then (none) else ((laws_heldBoxS.f k bt242.2 101).bind fun t256 => (if t256 < 0 then (none) else (if t256 = bt242.1 then (some true) else (none))))) else (none))))) else (none))))) else (none)))) = some r := H
     have A18 := Aside0.mk A180
     clear A180
     by_cases c19 : t238 < 0
     ·
      rw [if_pos c19] at H
      exact absurd H (by simp)
     ·
      rw [if_neg c19] at H
      have c19b0 : decide (t238 < 0) = false := decide_eq_false c19
      clear c19
      replace H := Option.bind_eq_some_iff.mp H
      obtain ⟨t241, A200, H⟩ := H
      replace H : (if t241 = true then ((laws_markBoxS.f k t225 101).bind fun bt242 => ((laws_heldBoxS.f k bt242.2 101).bind fun t243 => (if t243 < 0 then (none) else (if t243 = bt242.1 then ((laws_toBox.f k a0_0 l0_1 l0_2 true).bind fun bt244 => ((impl_HalvesOf.f k bt244.1 bt244.2.1 bt244.2.2 a1).bind fun bt251 => ((laws_eqBoxS.f k bt251.1 t213).bind fun t255 => (if t255 = true then (if (bt251.2 != t216) = true then (none) else ((laws_heldBoxS.f k bt242.2 101).bind fun t256 => (if t256 < 0 then (none) else (if t256 = bt242.1 then (some true) else (none))))) else (none))))) else (none))))) else (none)) = some r := H
      have A20 := Aside0.mk A200
      clear A200
      by_cases c21 : t241 = true
      ·
       subst c21
       have H1 : ((laws_markBoxS.f k t225 101).bind fun bt242 => ((laws_heldBoxS.f k bt242.2 101).bind fun t243 => (if t243 < 0 then (none) else (if t243 = bt242.1 then ((laws_toBox.f k a0_0 l0_1 l0_2 true).bind fun bt244 => ((impl_HalvesOf.f k bt244.1 bt244.2.1 bt244.2.2 a1).bind fun bt251 => ((laws_eqBoxS.f k bt251.1 t213).bind fun t255 => (if t255 = true then (if (bt251.2 != t216) = true then (none) else ((laws_heldBoxS.f k bt242.2 101).bind fun t256 => (if t256 < 0 then (none) else (if t256 = bt242.1 then (some true) else (none))))) else (none))))) else (none))))) = some r := by rw [if_pos rfl] at H; exact H
       clear H
       have H := H1
       clear H1
       replace H := Option.bind_eq_some_iff.mp H
       obtain ⟨⟨t242, t242g⟩, A220, H⟩ := H
       replace H : ((laws_heldBoxS.f k t242g 101).bind fun t243 => (if t243 < 0 then (none) else (if t243 = t242 then ((laws_toBox.f k a0_0 l0_1 l0_2 true).bind fun bt244 => ((impl_HalvesOf.f k bt244.1 bt244.2.1 bt244.2.2 a1).bind fun bt251 => ((laws_eqBoxS.f k bt251.1 t213).bind fun t255 => (if t255 = true then (if (bt251.2 != t216) = true then (none) else ((laws_heldBoxS.f k t242g 101).bind fun t256 => (if t256 < 0 then (none) else (if t256 = t242 then (some true) else (none))))) else (none))))) else (none)))) = some r := H
       have A22 := Aside0.mk A220
       clear A220
       replace H := Option.bind_eq_some_iff.mp H
       obtain ⟨t243, A230, H⟩ := H
       replace H : (if t243 < 0 then (none) else (if t243 = t242 then ((laws_toBox.f k a0_0 l0_1 l0_2 true).bind fun bt244 => ((impl_HalvesOf.f k bt244.1 bt244.2.1 bt244.2.2 a1).bind fun bt251 => ((laws_eqBoxS.f k bt251.1 t213).bind fun t255 => (if t255 = true then (if (bt251.2 != t216) = true then (none) else ((laws_heldBoxS.f k t242g 101).bind fun t256 => (if t256 < 0 then (none) else (if t256 = t242 then (some true) else (none))))) else (none))))) else (none))) = some r := H
       have A23 := Aside0.mk A230
       clear A230
       by_cases c24 : t243 < 0
       ·
        rw [if_pos c24] at H
        exact absurd H (by simp)
       ·
        rw [if_neg c24] at H
        have c24b0 : decide (t243 < 0) = false := decide_eq_false c24
        clear c24
        by_cases c25 : t243 = t242
        ·
         rw [if_pos c25] at H
         have c25b0 : (t243 == t242) = true := beq_iff_eq.mpr c25
         have c25b1 : (t243 != t242) = false := bne_eq_false_iff_eq.mpr c25
         clear c25
         replace H := Option.bind_eq_some_iff.mp H
         obtain ⟨⟨t244, t245, t248⟩, A260, H⟩ := H
         replace H : ((impl_HalvesOf.f k t244 t245 t248 a1).bind fun bt251 => ((laws_eqBoxS.f k bt251.1 t213).bind fun t255 => (if t255 = true then (if (bt251.2 != t216) = true then (none) else ((laws_heldBoxS.f k t242g 101).bind fun t256 => (if t256 < 0 then (none) else (if t256 = t242 then (some true) else (none))))) else (none)))) = some r := H
         have A26 := Aside0.mk A260
         clear A260
         replace H := Option.bind_eq_some_iff.mp H
         obtain ⟨⟨t251, t254⟩, A270, H⟩ := H
         replace H : ((laws_eqBoxS.f k t251 t213).bind fun t255 => (if t255 = true then (if (t254 != t216) = true then (none) else ((laws_heldBoxS.f k t242g 101).bind fun t256 => (if t256 < 0 then (none) else (if t256 = t242 then (some true) else (none))))) else (none))) = some r := H
         have A27 := Aside0.mk A270
         clear A270
         replace H := Option.bind_eq_some_iff.mp H
         obtain ⟨t255, A280, H⟩ := H
         replace H : (if t255 = true then (if (t254 != t216) = true then (none) else ((laws_heldBoxS.f k t242g 101).bind fun t256 => (if t256 < 0 then (none) else (if t256 = t242 then (some true) else (none))))) else (none)) = some r := H
         have A28 := Aside0.mk A280
         clear A280
         by_cases c29 : t255 = true
         ·
          subst c29
          have H1 : (if (t254 != t216) = true then (none) else ((laws_heldBoxS.f k t242g 101).bind fun t256 => (if t256 < 0 then (none) else (if t256 = t242 then (some true) else (none))))) = some r := by rw [if_pos rfl] at H; exact H
          clear H
          have H := H1
          clear H1
          by_cases c30 : (t254 != t216) = true
          ·
           rw [if_pos c30] at H
           exact absurd H (by simp)
          ·
           rw [if_neg c30] at H
           have c30b0 : (t254 != t216) = false := by simpa using c30
           (try (have c30b1 : decide (t254 = t216) = true := by simpa using c30))
           (try (have c30b2 : (t254 == t216) = true := by simpa using c30))
           clear c30
           replace H := Option.bind_eq_some_iff.mp H
           obtain ⟨t256, A310, H⟩ := H
           replace H : (if t256 < 0 then (none) else (if t256 = t242 then (some true) else (none))) = some r := H
           have A31 := Aside0.mk A310
           clear A310
           by_cases c32 : t256 < 0
           ·
            rw [if_pos c32] at H
            exact absurd H (by simp)
           ·
            rw [if_neg c32] at H
            have c32b0 : decide (t256 < 0) = false := decide_eq_false c32
            clear c32
            by_cases c33 : t256 = t242
            ·
             rw [if_pos c33] at H
             have c33b0 : (t256 == t242) = true := beq_iff_eq.mpr c33
             have c33b1 : (t256 != t242) = false := bne_eq_false_iff_eq.mpr c33
             clear c33
             obtain rfl := Option.some.inj H
             go_enter Try.func13, Try.ntmps13
             try go_wp2_with (first | ((with_reducible refine gate_dst (N := 2) rfl ?_); refine zbe (N := 2) (cs := #[.int .i64 a0_0, .slice A0_1 l0_1.length c0_1, .slice A0_2 l0_2.length c0_2]) (t := 24) ?_; intro gb204 hg w34 hbox hb; have BK204 := Aside0.mk (hbox); have GW204 := Aside0.mk (zge (zb0 HB) hg); have GE204 := GW204; replace HB := Aside0.mk (below_step (zb0 HB) hb); clear hb hbox hg; have hcz35_0 : w34.cell? ⟨gb204, 0, none⟩ = some (.int .i64 a0_0) := zc BK204 0; have hcz35_1 : w34.cell? ⟨gb204, 1, none⟩ = some (.slice A0_1 l0_1.length c0_1) := zc BK204 1; have hcz35_2 : w34.cell? ⟨gb204, 2, none⟩ = some (.slice A0_2 l0_2.length c0_2) := zc BK204 2; have hfz35_0 := blk_frozen BK204.out 0; have hfz35_1 := blk_frozen BK204.out 1; have hfz35_2 := blk_frozen BK204.out 2) | ((with_reducible refine gate_callee (f := 14) rfl ?_); refine goesL_ (some 18) rfl rfl Try.func14 (by kernel_rfl) rfl #[.agg #[.int .i64 a0_0, .slice A0_1 l0_1.length c0_1, .slice A0_2 l0_2.length c0_2], .int .i64 1000000] rfl zq6 ?_; (with_reducible refine (laws_szBox.calls a0_0 _ _ l0_1 _ _ l0_2 1000000 t205 _ ?side1 ?side2 ?side3 ?side4 A3.out).mono ?_); (case side1 => repeat (first | exact (Kd.C_below HR0_1.out HB.out) | (with_reducible refine Kd.C_alloc ?_ _) | (with_reducible refine Kd.C_drewN ?_ _) | (with_reducible refine Kd.C_drew ?_))); (case side2 => exact HC0_1.out); (case side3 => repeat (first | exact (Kd.C_below HR0_2.out HB.out) | (with_reducible refine Kd.C_alloc ?_ _) | (with_reducible refine Kd.C_drewN ?_ _) | (with_reducible refine Kd.C_drew ?_))); (case side4 => exact HC0_2.out); rintro e w36 ⟨rfl, hb⟩; refine ⟨_, rfl, ?_⟩; replace BK204 := Aside0.mk (zbb BK204 hb); replace HB := Aside0.mk (below_step (zb1 HB) hb); (try clear hb); (try clear hb2); (try clear hk); (try clear hi); have hcz37_0 : w36.cell? ⟨gb204, 0, none⟩ = some (.int .i64 a0_0) := zc BK204 0; have hcz37_1 : w36.cell? ⟨gb204, 1, none⟩ = some (.slice A0_1 l0_1.length c0_1) := zc BK204 1; have hcz37_2 : w36.cell? ⟨gb204, 2, none⟩ = some (.slice A0_2 l0_2.length c0_2) := zc BK204 2; have hfz37_0 := blk_frozen BK204.out 0; have hfz37_1 := blk_frozen BK204.out 1; have hfz37_2 := blk_frozen BK204.out 2) | ((with_reducible refine gate_callee (f := 16) rfl ?_); refine goesL_ (some 23) rfl rfl Try.func16 (by kernel_rfl) rfl #[.agg #[.int .i64 a0_0, .slice A0_1 l0_1.length c0_1, .slice A0_2 l0_2.length c0_2], .bool false] rfl zq6 ?_; (with_reducible refine (laws_toBox.calls k a0_0 _ _ l0_1 _ _ l0_2 false t206 t207 t210 _ ?side1 ?side2 ?side3 ?side4 A8.out).mono ?_); (case side1 => repeat (first | exact (Kd.C_below HR0_1.out HB.out) | (with_reducible refine Kd.C_alloc ?_ _) | (with_reducible refine Kd.C_drewN ?_ _) | (with_reducible refine Kd.C_drew ?_))); (case side2 => exact HC0_1.out); (case side3 => repeat (first | exact (Kd.C_below HR0_2.out HB.out) | (with_reducible refine Kd.C_alloc ?_ _) | (with_reducible refine Kd.C_drewN ?_ _) | (with_reducible refine Kd.C_drew ?_))); (case side4 => exact HC0_2.out); rintro e w38 ⟨v208, v211, rfl, ho0, ho1, hb, ho0F, ho1F⟩; refine ⟨_, rfl, ?_⟩; have n0_ := Aside0.mk (Kd.R_lower ho0 (below_size (zb1 HB))); have n0F_ := Aside0.mk (Kd.R_lower ho0F (below_size (zb1 HB))); have n1_ := Aside0.mk (Kd.R_lower ho1 (below_size (zb1 HB))); have n1F_ := Aside0.mk (Kd.R_lower ho1F (below_size (zb1 HB))); have n2_ := Aside0.mk (zbb BK204 hb); have n3_ := Aside0.mk (below_step (zb1 HB) hb); clear BK204; clear HB; have HO209 := n0_; have HO209F := n0F_; have HO212 := n1_; have HO212F := n1F_; have BK204 := n2_; have HB := n3_; clear n0_ n1_ n2_ n3_ n0F_ n1F_; (try clear hb); (try clear hb2); (try clear hk); (try clear hi); (try clear ho0); (try clear ho0F); (try clear ho1); (try clear ho1F); obtain ⟨Ao39, co39, eo39⟩ := Kd.R_slice HO209.out; subst eo39; obtain ⟨Ao40, co40, eo40⟩ := Kd.R_slice HO212.out; subst eo40) | ((with_reducible refine gate_callee (f := 50) rfl ?_); refine goesL_ (some 25) rfl rfl Try.func50 (by kernel_rfl) rfl #[.agg #[.int .i64 t206, .slice Ao39 t207.length co39, .slice Ao40 t210.length co40], .int .i64 a1] rfl zq6 ?_; (with_reducible refine (spec_HalvesOf.calls k t206 _ _ t207 _ _ t210 a1 t213 t216 _ ?side1 ?side2 ?side3 ?side4 A9.out).mono ?_); (case side1 => repeat (first | exact (Kd.R_reads' HO209.out).2.2 | (with_reducible refine Kd.C_alloc ?_ _) | (with_reducible refine Kd.C_drewN ?_ _) | (with_reducible refine Kd.C_drew ?_))); (case side2 => exact (Kd.R_reads' HO209.out).2.1); (case side3 => repeat (first | exact (Kd.R_reads' HO212.out).2.2 | (with_reducible refine Kd.C_alloc ?_ _) | (with_reducible refine Kd.C_drewN ?_ _) | (with_reducible refine Kd.C_drew ?_))); (case side4 => exact (Kd.R_reads' HO212.out).2.1); rintro e w41 ⟨v214, rfl, ho0, hb⟩; refine ⟨_, rfl, ?_⟩; have n0_ := Aside0.mk (Kd.R_below (zq3 HO209) hb); have n0F_ := Aside0.mk (Kd.R_below (zq3 HO209F) hb); have n1_ := Aside0.mk (Kd.R_below (zq3 HO212) hb); have n1F_ := Aside0.mk (Kd.R_below (zq3 HO212F) hb); have n2_ := Aside0.mk (Kd.S_lower (Kd.S_new' (Kd.S_new' ho0 (Kd.R_lt (zq3 HO209))) (Kd.R_lt (zq3 HO212))) (below_size (zb1 HB))); have n3_ := Aside0.mk (zbb BK204 hb); have n4_ := Aside0.mk (below_step (zb1 HB) hb); clear HO209 HO209F; clear HO212 HO212F; clear BK204; clear HB; have HO209 := n0_; have HO209F := n0F_; have HO212 := n1_; have HO212F := n1F_; have HO215 := n2_; have BK204 := n3_; have HB := n4_; clear n0_ n1_ n2_ n3_ n4_ n0F_ n1F_; (try clear hb); (try clear hb2); (try clear hk); (try clear hi); (try clear ho0); have hcz42_0 : w41.cell? ⟨gb204, 0, none⟩ = some (.int .i64 a0_0) := zc BK204 0; have hcz42_1 : w41.cell? ⟨gb204, 1, none⟩ = some (.slice A0_1 l0_1.length c0_1) := zc BK204 1; have hcz42_2 : w41.cell? ⟨gb204, 2, none⟩ = some (.slice A0_2 l0_2.length c0_2) := zc BK204 2; have hfz42_0 := blk_frozen BK204.out 0; have hfz42_1 := blk_frozen BK204.out 1; have hfz42_2 := blk_frozen BK204.out 2) | ((with_reducible refine gate_callee (f := 16) rfl ?_); refine goesL_ (some 29) rfl rfl Try.func16 (by kernel_rfl) rfl #[.agg #[.int .i64 a0_0, .slice A0_1 l0_1.length c0_1, .slice A0_2 l0_2.length c0_2], .bool false] rfl zq6 ?_; (with_reducible refine (laws_toBox.calls k a0_0 _ _ l0_1 _ _ l0_2 false t217 t218 t221 _ ?side1 ?side2 ?side3 ?side4 A10.out).mono ?_); (case side1 => repeat (first | exact (Kd.C_below HR0_1.out HB.out) | (with_reducible refine Kd.C_alloc ?_ _) | (with_reducible refine Kd.C_drewN ?_ _) | (with_reducible refine Kd.C_drew ?_))); (case side2 => exact HC0_1.out); (case side3 => repeat (first | exact (Kd.C_below HR0_2.out HB.out) | (with_reducible refine Kd.C_alloc ?_ _) | (with_reducible refine Kd.C_drewN ?_ _) | (with_reducible refine Kd.C_drew ?_))); (case side4 => exact HC0_2.out); rintro e w43 ⟨v219, v222, rfl, ho0, ho1, hb, ho0F, ho1F⟩; refine ⟨_, rfl, ?_⟩; have n0_ := Aside0.mk (Kd.S_mono (Kd.S_told (Kd.S_told (Kd.S_old (by (with_reducible repeat (first | apply Kd.S_alloc | apply Kd.S_drewN | apply Kd.S_drew)); exact HO215.out) hb) (Kd.R_base ho0)) (Kd.R_base ho1)) (fun _ h_ => h_.1)); have n1_ := Aside0.mk (Kd.R_lower ho0 (below_size (zb1 HB))); have n1F_ := Aside0.mk (Kd.R_lower ho0F (below_size (zb1 HB))); have n2_ := Aside0.mk (Kd.R_lower ho1 (below_size (zb1 HB))); have n2F_ := Aside0.mk (Kd.R_lower ho1F (below_size (zb1 HB))); have n3_ := Aside0.mk (zbb BK204 hb); have n4_ := Aside0.mk (below_step (zb1 HB) hb); clear HO215; clear BK204; clear HB; have HO215 := n0_; have HO220 := n1_; have HO220F := n1F_; have HO223 := n2_; have HO223F := n2F_; have BK204 := n3_; have HB := n4_; clear n0_ n1_ n2_ n3_ n4_ n1F_ n2F_; (try clear hb); (try clear hb2); (try clear hk); (try clear hi); (try clear ho0); (try clear ho0F); (try clear ho1); (try clear ho1F)) | ((with_reducible refine gate_dst (N := 8) rfl ?_); refine zbe (N := 8) (cs := #[.int .i64 0, .slice none 0 0, .slice none 0 0]) (t := 27) ?_; intro gb224 hg w44 hbox hb; have n0_ := Aside0.mk (Kd.S_below (Kd.S_elderB (by (with_reducible repeat (first | apply Kd.S_alloc | apply Kd.S_drewN | apply Kd.S_drew)); exact HO215.out) gb224 (Nat.le_of_eq hg.symm)) hb); have n1_ := Aside0.mk (Kd.R_below (zq3 HO220) hb); have n1F_ := Aside0.mk (Kd.R_below (zq3 HO220F) hb); have n2_ := Aside0.mk (Kd.R_below (zq3 HO223) hb); have n2F_ := Aside0.mk (Kd.R_below (zq3 HO223F) hb); have n3_ := Aside0.mk (zbb BK204 hb); have n4_ := Aside0.mk (below_step (zb1 HB) hb); have n5_ := Aside0.mk (hbox); have n6_ := Aside0.mk (zge (zb1 HB) hg); have n7_ := Aside0.mk (zge (zb1 HB) hg); have n8_ := Aside0.mk (zlt BK204 hg); have n9_ := Aside0.mk (zgt BK204 hg); clear HO215; clear HO220 HO220F; clear HO223 HO223F; clear BK204; clear HB; have HO215 := n0_; have HO220 := n1_; have HO220F := n1F_; have HO223 := n2_; have HO223F := n2F_; have BK204 := n3_; have HB := n4_; have BK224 := n5_; have GW224 := n6_; have GE224 := n7_; have NB204_224 := n8_; have NB224_204 := n9_; clear n0_ n1_ n2_ n3_ n4_ n5_ n6_ n7_ n8_ n9_ n1F_ n2F_; clear hb hbox hg; have hnb45 := NB224_204.out; have hnc45 := NB204_224.out; have hcz46_0 : w44.cell? ⟨gb224, 0, none⟩ = some (.int .i64 0) := zc BK224 0; have hcz46_1 : w44.cell? ⟨gb224, 1, none⟩ = some (.slice none 0 0) := zc BK224 1; have hcz46_2 : w44.cell? ⟨gb224, 2, none⟩ = some (.slice none 0 0) := zc BK224 2; have hfz46_0 := blk_frozen BK224.out 0; have hfz46_1 := blk_frozen BK224.out 1; have hfz46_2 := blk_frozen BK224.out 2; obtain ⟨Ao47, co47, eo47⟩ := Kd.R_slice HO220.out; subst eo47; obtain ⟨Ao48, co48, eo48⟩ := Kd.R_slice HO223.out; subst eo48) | ((with_reducible refine gate_callee (f := 51) rfl ?_); refine goesL_ (some 33) rfl rfl Try.func51 (by kernel_rfl) rfl #[.agg #[.int .i64 t217, .slice Ao47 t218.length co47, .slice Ao48 t221.length co48], .int .i64 a1] rfl zq6 ?_; (with_reducible refine (impl_HalvesOf.calls k t217 _ _ t218 _ _ t221 a1 t225 t228 _ ?side1 ?side2 ?side3 ?side4 A11.out).mono ?_); (case side1 => refine (Kd.R_reads' (e := 3) (base := w.heap.size) (ok := fun k_ => some k_ ≠ (.slice Ao48 t221.length co48 : Value).ownBlock) (n := t218.length) (c := co47) ?_).2.2; exact (by (with_reducible repeat (first | apply Kd.R_alloc | apply Kd.R_drewN | apply Kd.R_drew)); exact (Kd.R_mono (Kd.R_far (p := ⟨gb224, 2, none⟩) (Kd.R_far (p := ⟨gb224, 1, none⟩) (Kd.R_far (p := ⟨gb224, 0, none⟩) (Kd.R_types HO220.out BK224.out (by decide)) (fun _ hk => hk.2) (.int .i64 t217)) (fun _ hk => hk.2) (.slice Ao47 t218.length co47)) (fun _ hk => hk.2) (.slice Ao48 t221.length co48)) (fun _ h_ => h_.1)))); (case side2 => exact (Kd.R_reads' HO220.out).2.1); (case side3 => refine (Kd.R_reads' (e := 3) (base := w.heap.size) (ok := fun k_ => some k_ ≠ (.slice Ao47 t218.length co47 : Value).ownBlock) (n := t221.length) (c := co48) ?_).2.2; exact (by (with_reducible repeat (first | apply Kd.R_alloc | apply Kd.R_drewN | apply Kd.R_drew)); exact (Kd.R_mono (Kd.R_far (p := ⟨gb224, 2, none⟩) (Kd.R_far (p := ⟨gb224, 1, none⟩) (Kd.R_far (p := ⟨gb224, 0, none⟩) (Kd.R_types HO223.out BK224.out (by decide)) (fun _ hk => hk.2) (.int .i64 t217)) (fun _ hk => hk.2) (.slice Ao47 t218.length co47)) (fun _ hk => hk.2) (.slice Ao48 t221.length co48)) (fun _ h_ => h_.1)))); (case side4 => exact (Kd.R_reads' HO223.out).2.1); rintro e w49 ⟨v226, rfl, ho0, hb⟩; refine ⟨_, rfl, ?_⟩; obtain ⟨B_, HP0_, HG0_, HQ0_⟩ := z_pack (u1 := .slice Ao47 t218.length co47) (u2 := .slice Ao48 t221.length co48) (gx := gb224) (Kd.S_mono (ok' := fun k_ => some k_ ≠ (.slice Ao47 t218.length co47 : Value).ownBlock ∧ some k_ ≠ (.slice Ao48 t221.length co48 : Value).ownBlock ∧ k_ ≠ gb224) (by (with_reducible repeat (first | apply Kd.S_alloc | apply Kd.S_drewN | apply Kd.S_drew)); exact (Kd.S_mono (Kd.S_far (p := ⟨gb224, 2, none⟩) (Kd.S_far (p := ⟨gb224, 1, none⟩) (Kd.S_far (p := ⟨gb224, 0, none⟩) (Kd.S_mono HO215.out (fun k_ hk => (⟨hk, hk.2⟩ : _ ∧ k_ ≠ gb224))) (fun _ hk => hk.2) (.int .i64 t217)) (fun _ hk => hk.2) (.slice Ao47 t218.length co47)) (fun _ hk => hk.2) (.slice Ao48 t221.length co48)) (fun _ h_ => h_.1))) (fun k_ h_ => ⟨(by first | exact h_.2 | exact h_.1.2 | exact h_.1.1.2 | exact h_.1.1.1.2 | exact h_.1.1.1.1.2 | exact h_.2.2 | exact h_.1.1.1.1.1.2), (by first | exact h_.2 | exact h_.1.2 | exact h_.1.1.2 | exact h_.1.1.1.2 | exact h_.1.1.1.1.2 | exact h_.2.2 | exact h_.1.1.1.1.1.2), (by first | exact h_.2 | exact h_.1.2 | exact h_.1.1.2 | exact h_.1.1.1.2 | exact h_.1.1.1.1.2 | exact h_.2.2 | exact h_.1.1.1.1.1.2)⟩)) ho0 hb (z_lt3 (blk_lt BK204.out)) (z_lt3 (blk_lt BK224.out)) (below_size (zb1 HB)) (fun k_ e_ => z_lt3 (Kd.R_lt HO220.out k_ e_)) (fun k_ e_ => z_lt3 (Kd.R_lt HO223.out k_ e_)); have HP := Aside0.mk HP0_; have HG := Aside0.mk HG0_; have HQ := Aside0.mk HQ0_.1; have HSz := Aside0.mk HQ0_.2.1; have HX := Aside0.mk HQ0_.2.2; clear HP0_ HG0_ HQ0_; have n0_ := Aside0.mk (Kd.S_elder' (by (with_reducible repeat (first | apply Kd.S_alloc | apply Kd.S_drewN | apply Kd.S_drew)); exact (Kd.S_mono (Kd.S_far (p := ⟨gb224, 2, none⟩) (Kd.S_far (p := ⟨gb224, 1, none⟩) (Kd.S_far (p := ⟨gb224, 0, none⟩) (Kd.S_mono HO215.out (fun k_ hk => (⟨hk, hk.2⟩ : _ ∧ k_ ≠ gb224))) (fun _ hk => hk.2) (.int .i64 t217)) (fun _ hk => hk.2) (.slice Ao47 t218.length co47)) (fun _ hk => hk.2) (.slice Ao48 t221.length co48)) (fun _ h_ => h_.1))) (Kd.S_base ho0) hb); have n1_ := Aside0.mk (Kd.R_below (by (with_reducible repeat (first | apply Kd.R_alloc | apply Kd.R_drewN | apply Kd.R_drew)); exact (Kd.R_mono (Kd.R_far (p := ⟨gb224, 2, none⟩) (Kd.R_far (p := ⟨gb224, 1, none⟩) (Kd.R_far (p := ⟨gb224, 0, none⟩) (Kd.R_types HO220.out BK224.out (by decide)) (fun _ hk => hk.2) (.int .i64 t217)) (fun _ hk => hk.2) (.slice Ao47 t218.length co47)) (fun _ hk => hk.2) (.slice Ao48 t221.length co48)) (fun _ h_ => h_.1))) hb); have n1F_ := Aside0.mk (Kd.R_below (by (with_reducible repeat (first | apply Kd.R_alloc | apply Kd.R_drewN | apply Kd.R_drew)); exact (Kd.R_mono (Kd.R_far (p := ⟨gb224, 2, none⟩) (Kd.R_far (p := ⟨gb224, 1, none⟩) (Kd.R_far (p := ⟨gb224, 0, none⟩) (Kd.R_types HO220F.out BK224.out (by decide)) (fun _ hk => hk.2) (.int .i64 t217)) (fun _ hk => hk.2) (.slice Ao47 t218.length co47)) (fun _ hk => hk.2) (.slice Ao48 t221.length co48)) (fun _ h_ => h_.1))) hb); have n2_ := Aside0.mk (Kd.R_below (by (with_reducible repeat (first | apply Kd.R_alloc | apply Kd.R_drewN | apply Kd.R_drew)); exact (Kd.R_mono (Kd.R_far (p := ⟨gb224, 2, none⟩) (Kd.R_far (p := ⟨gb224, 1, none⟩) (Kd.R_far (p := ⟨gb224, 0, none⟩) (Kd.R_types HO223.out BK224.out (by decide)) (fun _ hk => hk.2) (.int .i64 t217)) (fun _ hk => hk.2) (.slice Ao47 t218.length co47)) (fun _ hk => hk.2) (.slice Ao48 t221.length co48)) (fun _ h_ => h_.1))) hb); have n2F_ := Aside0.mk (Kd.R_below (by (with_reducible repeat (first | apply Kd.R_alloc | apply Kd.R_drewN | apply Kd.R_drew)); exact (Kd.R_mono (Kd.R_far (p := ⟨gb224, 2, none⟩) (Kd.R_far (p := ⟨gb224, 1, none⟩) (Kd.R_far (p := ⟨gb224, 0, none⟩) (Kd.R_types HO223F.out BK224.out (by decide)) (fun _ hk => hk.2) (.int .i64 t217)) (fun _ hk => hk.2) (.slice Ao47 t218.length co47)) (fun _ hk => hk.2) (.slice Ao48 t221.length co48)) (fun _ h_ => h_.1))) hb); have n3_ := Aside0.mk (Kd.S_lower (Kd.S_newB (Kd.S_new' (Kd.S_new' (Kd.S_new' ho0 (Kd.S_lt (by (with_reducible repeat (first | apply Kd.S_alloc | apply Kd.S_drewN | apply Kd.S_drew)); exact (Kd.S_mono (Kd.S_far (p := ⟨gb224, 2, none⟩) (Kd.S_far (p := ⟨gb224, 1, none⟩) (Kd.S_far (p := ⟨gb224, 0, none⟩) (Kd.S_mono HO215.out (fun k_ hk => (⟨hk, hk.2⟩ : _ ∧ k_ ≠ gb224))) (fun _ hk => hk.2) (.int .i64 t217)) (fun _ hk => hk.2) (.slice Ao47 t218.length co47)) (fun _ hk => hk.2) (.slice Ao48 t221.length co48)) (fun _ h_ => h_.1))))) (Kd.R_lt (by (with_reducible repeat (first | apply Kd.R_alloc | apply Kd.R_drewN | apply Kd.R_drew)); exact (Kd.R_mono (Kd.R_far (p := ⟨gb224, 2, none⟩) (Kd.R_far (p := ⟨gb224, 1, none⟩) (Kd.R_far (p := ⟨gb224, 0, none⟩) (Kd.R_types HO220.out BK224.out (by decide)) (fun _ hk => hk.2) (.int .i64 t217)) (fun _ hk => hk.2) (.slice Ao47 t218.length co47)) (fun _ hk => hk.2) (.slice Ao48 t221.length co48)) (fun _ h_ => h_.1))))) (Kd.R_lt (by (with_reducible repeat (first | apply Kd.R_alloc | apply Kd.R_drewN | apply Kd.R_drew)); exact (Kd.R_mono (Kd.R_far (p := ⟨gb224, 2, none⟩) (Kd.R_far (p := ⟨gb224, 1, none⟩) (Kd.R_far (p := ⟨gb224, 0, none⟩) (Kd.R_types HO223.out BK224.out (by decide)) (fun _ hk => hk.2) (.int .i64 t217)) (fun _ hk => hk.2) (.slice Ao47 t218.length co47)) (fun _ hk => hk.2) (.slice Ao48 t221.length co48)) (fun _ h_ => h_.1))))) (g := gb224) (o := .cells #[.int .i64 t217, .slice Ao47 t218.length co47, .slice Ao48 t221.length co48] 27 (0, 0)) (by (with_reducible repeat (first | refine blk_drewN ?_ _ | refine blk_drew ?_ | refine blk_alloc ?_ _)); refine blk_put (cs := #[.int .i64 t217, .slice Ao47 t218.length co47, .slice none 0 0]) ?_ 2 _ rfl; (with_reducible repeat (first | refine blk_drewN ?_ _ | refine blk_drew ?_ | refine blk_alloc ?_ _)); refine blk_put (cs := #[.int .i64 t217, .slice none 0 0, .slice none 0 0]) ?_ 1 _ rfl; (with_reducible repeat (first | refine blk_drewN ?_ _ | refine blk_drew ?_ | refine blk_alloc ?_ _)); refine blk_put (cs := #[.int .i64 0, .slice none 0 0, .slice none 0 0]) ?_ 0 _ rfl; (with_reducible repeat (first | refine blk_drewN ?_ _ | refine blk_drew ?_ | refine blk_alloc ?_ _)); exact BK224.out)) (below_size (zb1 HB))); have n4_ := Aside0.mk (blk_below (g := gb204) (o := .cells #[.int .i64 a0_0, .slice A0_1 l0_1.length c0_1, .slice A0_2 l0_2.length c0_2] 24 (0, 0)) (zq5 BK204) hb); have n5_ := Aside0.mk (blk_below (g := gb224) (o := .cells #[.int .i64 t217, .slice Ao47 t218.length co47, .slice Ao48 t221.length co48] 27 (0, 0)) (by (with_reducible repeat (first | refine blk_drewN ?_ _ | refine blk_drew ?_ | refine blk_alloc ?_ _)); refine blk_put (cs := #[.int .i64 t217, .slice Ao47 t218.length co47, .slice none 0 0]) ?_ 2 _ rfl; (with_reducible repeat (first | refine blk_drewN ?_ _ | refine blk_drew ?_ | refine blk_alloc ?_ _)); refine blk_put (cs := #[.int .i64 t217, .slice none 0 0, .slice none 0 0]) ?_ 1 _ rfl; (with_reducible repeat (first | refine blk_drewN ?_ _ | refine blk_drew ?_ | refine blk_alloc ?_ _)); refine blk_put (cs := #[.int .i64 0, .slice none 0 0, .slice none 0 0]) ?_ 0 _ rfl; (with_reducible repeat (first | refine blk_drewN ?_ _ | refine blk_drew ?_ | refine blk_alloc ?_ _)); exact BK224.out) hb); have n6_ := Aside0.mk (below_step (zb1 HB) hb); clear HO215; clear HO220 HO220F; clear HO223 HO223F; clear BK204; clear BK224; clear HB; have HO215 := n0_; have HO220 := n1_; have HO220F := n1F_; have HO223 := n2_; have HO223F := n2F_; have HO227 := n3_; have BK204 := n4_; have BK224 := n5_; have HB := n6_; clear n0_ n1_ n2_ n3_ n4_ n5_ n6_ n1F_ n2F_; (try clear hb); (try clear hb2); (try clear hk); (try clear hi); (try clear ho0); obtain ⟨Ao50, co50, eo50⟩ := Kd.S_slice HO227.out; subst eo50; obtain ⟨Ao51, co51, eo51⟩ := Kd.S_slice HO215.out; subst eo51) | ((with_reducible refine gate_callee (f := 52) rfl ?_); refine goesL_ (some 38) rfl rfl Try.func52 (by kernel_rfl) rfl #[.slice Ao50 t225.length co50, .slice Ao51 t213.length co51] rfl zq6 ?_; (with_reducible refine (laws_eqBoxS.calls k _ _ t225 _ _ t213 true _ ?side1 ?side2 ?side3 ?side4 A12.out).mono ?_); (case side1 => repeat (first | exact (Kd.S_reads' HO227.out).2.2 | (with_reducible refine Kd.C_alloc ?_ _) | (with_reducible refine Kd.C_drewN ?_ _) | (with_reducible refine Kd.C_drew ?_))); (case side2 => exact (Kd.S_reads' HO227.out).2.1); (case side3 => repeat (first | exact (Kd.S_reads' HO215.out).2.2 | (with_reducible refine Kd.C_alloc ?_ _) | (with_reducible refine Kd.C_drewN ?_ _) | (with_reducible refine Kd.C_drew ?_))); (case side4 => exact (Kd.S_reads' HO215.out).2.1); rintro e w52 ⟨rfl, hb⟩; refine ⟨_, rfl, ?_⟩; replace HP := Aside0.mk (Kd.S_below (by (with_reducible repeat (first | apply Kd.S_alloc | apply Kd.S_drewN | apply Kd.S_drew)); exact HP.out) hb); replace HG := Aside0.mk (Kd.S_below (by (with_reducible repeat (first | apply Kd.S_alloc | apply Kd.S_drewN | apply Kd.S_drew)); exact HG.out) hb); replace HSz := Aside0.mk (Nat.le_trans HSz.out hb.size); have n0_ := Aside0.mk (Kd.S_below (by (with_reducible repeat (first | apply Kd.S_alloc | apply Kd.S_drewN | apply Kd.S_drew)); exact HO215.out) hb); have n1_ := Aside0.mk (Kd.R_below (zq3 HO220) hb); have n1F_ := Aside0.mk (Kd.R_below (zq3 HO220F) hb); have n2_ := Aside0.mk (Kd.R_below (zq3 HO223) hb); have n2F_ := Aside0.mk (Kd.R_below (zq3 HO223F) hb); have n3_ := Aside0.mk (Kd.S_below (by (with_reducible repeat (first | apply Kd.S_alloc | apply Kd.S_drewN | apply Kd.S_drew)); exact HO227.out) hb); have n4_ := Aside0.mk (zbb BK204 hb); have n5_ := Aside0.mk (zbb BK224 hb); have n6_ := Aside0.mk (below_step (zb1 HB) hb); clear HO215; clear HO220 HO220F; clear HO223 HO223F; clear HO227; clear BK204; clear BK224; clear HB; have HO215 := n0_; have HO220 := n1_; have HO220F := n1F_; have HO223 := n2_; have HO223F := n2F_; have HO227 := n3_; have BK204 := n4_; have BK224 := n5_; have HB := n6_; clear n0_ n1_ n2_ n3_ n4_ n5_ n6_ n1F_ n2F_; (try clear hb); (try clear hb2); (try clear hk); (try clear hi)))
             have n0_ := Aside0.mk (Kd.S_drew HO215.out)
             have n1_ := Aside0.mk (Kd.R_drew HO220.out)
             have n1F_ := Aside0.mk (Kd.R_drew HO220F.out)
             have n2_ := Aside0.mk (Kd.R_drew HO223.out)
             have n2F_ := Aside0.mk (Kd.R_drew HO223F.out)
             have n3_ := Aside0.mk (Kd.S_drew HO227.out)
             have n4_ := Aside0.mk (blk_drew BK204.out)
             have n5_ := Aside0.mk (blk_drew BK224.out)
             have n6_ := Aside0.mk (below_drew1 HB.out)
             clear HO215 HO220 HO220F HO223 HO223F HO227 BK204 BK224 HB
             have HO215 := n0_; have HO220 := n1_; have HO220F := n1F_; have HO223 := n2_; have HO223F := n2F_; have HO227 := n3_; have BK204 := n4_; have BK224 := n5_; have HB := n6_
             clear n0_ n1_ n2_ n3_ n4_ n5_ n6_ n1F_ n2F_
             replace HP := Aside0.mk (Kd.S_drew HP.out); replace HG := Aside0.mk (Kd.S_drew HG.out); replace HSz := Aside0.mk (show B_ ≤ (w52.drew).heap.size from HSz.out)
             refine start_ (n := 5) (S := fun w' => w'.cell? ⟨gb224, 0, none⟩ = some (.int .i64 t217) ∧ w'.cell? ⟨gb224, 1, none⟩ = some (.slice Ao47 t218.length co47) ∧ w'.cell? ⟨gb224, 2, none⟩ = some (.slice Ao48 t221.length co48) ∧ w'.cell? ⟨gb204, 0, none⟩ = some (.int .i64 a0_0) ∧ w'.cell? ⟨gb204, 1, none⟩ = some (.slice A0_1 l0_1.length c0_1) ∧ w'.cell? ⟨gb204, 2, none⟩ = some (.slice A0_2 l0_2.length c0_2)) (ds := []) #[false, false, false, false, false] (by kernel_rfl) rfl rfl ⟨zc BK224 0, zc BK224 1, zc BK224 2, zc BK204 0, zc BK204 1, zc BK204 2⟩ (fun hHeld => ?_)
             generalize w52.drew = w53 at HP HG HSz HO215 HO220 HO223 HO227 BK204 BK224 HB hHeld HO220F HO223F ⊢
             refine take_ (i := 0) (N := some 45) (v := ?_) (a' := ?_) #[true, false, false, false, false] rfl rfl (by kernel_rfl) (fun _ _ _ h => h) (Or.inl ⟨by rfl, ?_⟩) hHeld ?_ ?_
             rotate_left
             ·
              rintro w' ⟨s0, s1, s2, s3, s4, s5⟩
              go_simp
              with_reducible rfl
             rotate_left
             ·
              simp only [Act.put, List.setIfInBounds_toArray, List.set_cons_zero, List.set_cons_succ, i64_w, i32_w]
              rfl
             refine take_ (i := 1) (N := some 46) (v := ?_) (a' := ?_) #[true, true, false, false, false] rfl rfl (by kernel_rfl) (fun _ _ _ h => h) (Or.inl ⟨by rfl, ?_⟩) hHeld ?_ ?_
             rotate_left
             ·
              rintro w' ⟨s0, s1, s2, s3, s4, s5⟩
              go_simp
              with_reducible rfl
             rotate_left
             ·
              simp only [Act.put, List.setIfInBounds_toArray, List.set_cons_zero, List.set_cons_succ, i64_w, i32_w]
              rfl
             refine one_ (i := 2) (N := some 47) #[true, true, true, false, false] rfl rfl (by kernel_rfl) (by decide) (fun K hK => ?_)
             refine goes_ Try.func16 (by kernel_rfl) rfl #[.agg #[.int .i64 a0_0, .slice A0_1 l0_1.length c0_1, .slice A0_2 l0_2.length c0_2], .bool false] (by rfl) rfl rfl zq6 ?_
             with_reducible refine (laws_toBox.calls k a0_0 _ _ l0_1 _ _ l0_2 false t230 t231 t234 _ ?side1 ?side2 ?side3 ?side4 A15.out).mono ?_
             (case side1 => repeat (first | exact (Kd.C_below HR0_1.out HB.out) | (with_reducible refine Kd.C_alloc ?_ _) | (with_reducible refine Kd.C_drewN ?_ _) | (with_reducible refine Kd.C_drew ?_)))
             (case side2 => exact HC0_1.out)
             (case side3 => repeat (first | exact (Kd.C_below HR0_2.out HB.out) | (with_reducible refine Kd.C_alloc ?_ _) | (with_reducible refine Kd.C_drewN ?_ _) | (with_reducible refine Kd.C_drew ?_)))
             (case side4 => exact HC0_2.out)
             rintro e w54 ⟨v232, v235, rfl, ho0, ho1, hb, ho0F, ho1F⟩
             refine ⟨_, rfl, ?_⟩
             replace HP := Aside0.mk (Kd.S_below (by (with_reducible repeat (first | apply Kd.S_alloc | apply Kd.S_drewN | apply Kd.S_drew)); exact HP.out) hb)
             replace HG := Aside0.mk (Kd.S_below (by (with_reducible repeat (first | apply Kd.S_alloc | apply Kd.S_drewN | apply Kd.S_drew)); exact HG.out) hb)
             replace HSz := Aside0.mk (Nat.le_trans HSz.out hb.size)
             have n0_ := Aside0.mk (Kd.S_mono (Kd.S_told (Kd.S_told (Kd.S_old (by (with_reducible repeat (first | apply Kd.S_alloc | apply Kd.S_drewN | apply Kd.S_drew)); exact HO215.out) hb) (Kd.R_base ho0)) (Kd.R_base ho1)) (fun _ h_ => h_.1))
             have n1_ := Aside0.mk (Kd.R_mono (Kd.R_told (Kd.R_told (Kd.R_old (zq3 HO220) hb) (Kd.R_base ho0)) (Kd.R_base ho1)) (fun _ h_ => h_.1))
             have n1F_ := Aside0.mk (Kd.R_mono (Kd.R_told (Kd.R_told (Kd.R_old (zq3 HO220F) hb) (Kd.R_base ho0)) (Kd.R_base ho1)) (fun _ h_ => h_.1))
             have n2_ := Aside0.mk (Kd.R_mono (Kd.R_told (Kd.R_told (Kd.R_old (zq3 HO223) hb) (Kd.R_base ho0)) (Kd.R_base ho1)) (fun _ h_ => h_.1))
             have n2F_ := Aside0.mk (Kd.R_mono (Kd.R_told (Kd.R_told (Kd.R_old (zq3 HO223F) hb) (Kd.R_base ho0)) (Kd.R_base ho1)) (fun _ h_ => h_.1))
             have n3_ := Aside0.mk (Kd.S_mono (Kd.S_told (Kd.S_told (Kd.S_old (by (with_reducible repeat (first | apply Kd.S_alloc | apply Kd.S_drewN | apply Kd.S_drew)); exact HO227.out) hb) (Kd.R_base ho0)) (Kd.R_base ho1)) (fun _ h_ => h_.1))
             have n4_ := Aside0.mk (Kd.R_lower (Kd.R_new' (Kd.R_new' ho0 (Kd.R_lt (zq3 HO220))) (Kd.R_lt (zq3 HO223))) (below_size (zb1 HB)))
             have n4F_ := Aside0.mk (Kd.R_lower (Kd.R_new' (Kd.R_new' ho0F (Kd.R_lt (zq3 HO220))) (Kd.R_lt (zq3 HO223))) (below_size (zb1 HB)))
             have n5_ := Aside0.mk (Kd.R_lower (Kd.R_new' (Kd.R_new' ho1 (Kd.R_lt (zq3 HO220))) (Kd.R_lt (zq3 HO223))) (below_size (zb1 HB)))
             have n5F_ := Aside0.mk (Kd.R_lower (Kd.R_new' (Kd.R_new' ho1F (Kd.R_lt (zq3 HO220))) (Kd.R_lt (zq3 HO223))) (below_size (zb1 HB)))
             have n6_ := Aside0.mk (zbb BK204 hb)
             have n7_ := Aside0.mk (zbb BK224 hb)
             have n8_ := Aside0.mk (below_step (zb1 HB) hb)
             clear HO215 HO220 HO220F HO223 HO223F HO227 BK204 BK224 HB
             have HO215 := n0_; have HO220 := n1_; have HO220F := n1F_; have HO223 := n2_; have HO223F := n2F_; have HO227 := n3_; have HO233 := n4_; have HO233F := n4F_; have HO236 := n5_; have HO236F := n5F_; have BK204 := n6_; have BK224 := n7_; have HB := n8_
             clear n0_ n1_ n2_ n3_ n4_ n5_ n6_ n7_ n8_ n1F_ n2F_ n4F_ n5F_
             (try clear hb)
             (try clear hb2)
             (try clear hk)
             (try clear hi)
             (try clear ho0)
             (try clear ho0F)
             (try clear ho1)
             (try clear ho1F)
             obtain ⟨Ao55, co55, eo55⟩ := Kd.R_slice HO233.out
             (first | subst eo55 | (injection eo55 with f1_ f2_ f3_; have f4_ := f1_.symm; have f5_ := f3_.symm; clear f1_ f2_ f3_; subst f4_; subst f5_))
             obtain ⟨Ao56, co56, eo56⟩ := Kd.R_slice HO236.out
             (first | subst eo56 | (injection eo56 with f1_ f2_ f3_; have f4_ := f1_.symm; have f5_ := f3_.symm; clear f1_ f2_ f3_; subst f4_; subst f5_))
             refine hK.out _ _ ⟨zc BK224 0, zc BK224 1, zc BK224 2, zc BK204 0, zc BK204 1, zc BK204 2⟩ (fun hHeld => ?_)
             clear hK K
             refine norm_ (a' := ?_) ?_ ?_
             rotate_left
             ·
              show Act.put _ (some 47) _ = _
              simp only [Act.put, List.setIfInBounds_toArray, List.set_cons_zero, List.set_cons_succ, i64_w, i32_w]; rfl
             refine one_ (i := 3) (N := some 48) #[true, true, true, true, false] rfl rfl (by kernel_rfl) (by decide) (fun K hK => ?_)
             refine goes_ Try.func18 (by kernel_rfl) rfl #[.agg #[.int .i64 t217, .slice Ao47 t218.length co47, .slice Ao48 t221.length co48], .agg #[.int .i64 t230, .slice Ao55 t231.length co55, .slice Ao56 t234.length co56]] (by rfl) rfl rfl zq6 ?_
             with_reducible refine (laws_intactBox.calls t217 _ _ t218 _ _ t221 t230 _ _ t231 _ _ t234 true _ ?side1 ?side2 ?side3 ?side4 ?side5 ?side6 ?side7 ?side8 A16.out ?sideF1 ?sideF2 ?sideF3 ?sideF4 ?sideF5 ?sideF6 ?sideF7 ?sideF8).mono ?_
             (case side1 => repeat (first | exact (Kd.R_reads' HO220.out).2.2 | (with_reducible refine Kd.C_alloc ?_ _) | (with_reducible refine Kd.C_drewN ?_ _) | (with_reducible refine Kd.C_drew ?_)))
             (case side2 => exact (Kd.R_reads' HO220.out).2.1)
             (case side3 => repeat (first | exact (Kd.R_reads' HO223.out).2.2 | (with_reducible refine Kd.C_alloc ?_ _) | (with_reducible refine Kd.C_drewN ?_ _) | (with_reducible refine Kd.C_drew ?_)))
             (case side4 => exact (Kd.R_reads' HO223.out).2.1)
             (case side5 => repeat (first | exact (Kd.R_reads' HO233.out).2.2 | (with_reducible refine Kd.C_alloc ?_ _) | (with_reducible refine Kd.C_drewN ?_ _) | (with_reducible refine Kd.C_drew ?_)))
             (case side6 => exact (Kd.R_reads' HO233.out).2.1)
             (case side7 => repeat (first | exact (Kd.R_reads' HO236.out).2.2 | (with_reducible refine Kd.C_alloc ?_ _) | (with_reducible refine Kd.C_drewN ?_ _) | (with_reducible refine Kd.C_drew ?_)))
             (case side8 => exact (Kd.R_reads' HO236.out).2.1)
             (case sideF1 => repeat (first | exact (Kd.R_reads' HO220F.out).2.2 | (with_reducible refine Kd.C_alloc ?_ _) | (with_reducible refine Kd.C_drewN ?_ _) | (with_reducible refine Kd.C_drew ?_)))
             (case sideF2 => exact (Kd.R_reads' HO220F.out).2.1)
             (case sideF3 => repeat (first | exact (Kd.R_reads' HO223F.out).2.2 | (with_reducible refine Kd.C_alloc ?_ _) | (with_reducible refine Kd.C_drewN ?_ _) | (with_reducible refine Kd.C_drew ?_)))
             (case sideF4 => exact (Kd.R_reads' HO223F.out).2.1)
             (case sideF5 => repeat (first | exact (Kd.R_reads' HO233F.out).2.2 | (with_reducible refine Kd.C_alloc ?_ _) | (with_reducible refine Kd.C_drewN ?_ _) | (with_reducible refine Kd.C_drew ?_)))
             (case sideF6 => exact (Kd.R_reads' HO233F.out).2.1)
             (case sideF7 => repeat (first | exact (Kd.R_reads' HO236F.out).2.2 | (with_reducible refine Kd.C_alloc ?_ _) | (with_reducible refine Kd.C_drewN ?_ _) | (with_reducible refine Kd.C_drew ?_)))
             (case sideF8 => exact (Kd.R_reads' HO236F.out).2.1)
             rintro e w57 ⟨rfl, hb⟩
             refine ⟨_, rfl, ?_⟩
             replace HP := Aside0.mk (Kd.S_below (by (with_reducible repeat (first | apply Kd.S_alloc | apply Kd.S_drewN | apply Kd.S_drew)); exact HP.out) hb)
             replace HG := Aside0.mk (Kd.S_below (by (with_reducible repeat (first | apply Kd.S_alloc | apply Kd.S_drewN | apply Kd.S_drew)); exact HG.out) hb)
             replace HSz := Aside0.mk (Nat.le_trans HSz.out hb.size)
             have n0_ := Aside0.mk (Kd.S_below (by (with_reducible repeat (first | apply Kd.S_alloc | apply Kd.S_drewN | apply Kd.S_drew)); exact HO215.out) hb)
             have n1_ := Aside0.mk (Kd.R_below (zq3 HO220) hb)
             have n1F_ := Aside0.mk (Kd.R_below (zq3 HO220F) hb)
             have n2_ := Aside0.mk (Kd.R_below (zq3 HO223) hb)
             have n2F_ := Aside0.mk (Kd.R_below (zq3 HO223F) hb)
             have n3_ := Aside0.mk (Kd.S_below (by (with_reducible repeat (first | apply Kd.S_alloc | apply Kd.S_drewN | apply Kd.S_drew)); exact HO227.out) hb)
             have n4_ := Aside0.mk (Kd.R_below (zq3 HO233) hb)
             have n4F_ := Aside0.mk (Kd.R_below (zq3 HO233F) hb)
             have n5_ := Aside0.mk (Kd.R_below (zq3 HO236) hb)
             have n5F_ := Aside0.mk (Kd.R_below (zq3 HO236F) hb)
             have n6_ := Aside0.mk (zbb BK204 hb)
             have n7_ := Aside0.mk (zbb BK224 hb)
             have n8_ := Aside0.mk (below_step (zb1 HB) hb)
             clear HO215 HO220 HO220F HO223 HO223F HO227 HO233 HO233F HO236 HO236F BK204 BK224 HB
             have HO215 := n0_; have HO220 := n1_; have HO220F := n1F_; have HO223 := n2_; have HO223F := n2F_; have HO227 := n3_; have HO233 := n4_; have HO233F := n4F_; have HO236 := n5_; have HO236F := n5F_; have BK204 := n6_; have BK224 := n7_; have HB := n8_
             clear n0_ n1_ n2_ n3_ n4_ n5_ n6_ n7_ n8_ n1F_ n2F_ n4F_ n5F_
             (try clear hb)
             (try clear hb2)
             (try clear hk)
             (try clear hi)
             refine hK.out _ _ ⟨zc BK224 0, zc BK224 1, zc BK224 2, zc BK204 0, zc BK204 1, zc BK204 2⟩ (fun hHeld => ?_)
             clear hK K
             refine norm_ (a' := ?_) ?_ ?_
             rotate_left
             ·
              show Act.put _ (some 48) _ = _
              simp only [Act.put, List.setIfInBounds_toArray, List.set_cons_zero, List.set_cons_succ, i64_w, i32_w]; rfl
             refine pure_ (i := 4) (N := some 49) (v := ?_) (a' := ?_) #[true, true, true, true, true] rfl rfl (by kernel_rfl) (fun _ _ _ h => h) (Or.inl ⟨by rfl, ?_⟩) ?_ ?_
             rotate_left
             ·
              intro w'
              go_simp
              with_reducible rfl
             rotate_left
             ·
              simp only [Act.put, List.setIfInBounds_toArray, List.set_cons_zero, List.set_cons_succ, i64_w, i32_w]
              rfl
             refine done_ (by kernel_rfl) ?_
             have hcz58_0 : w57.cell? ⟨gb224, 0, none⟩ = some (.int .i64 t217) := zc BK224 0
             have hcz58_1 : w57.cell? ⟨gb224, 1, none⟩ = some (.slice Ao47 t218.length co47) := zc BK224 1
             have hcz58_2 : w57.cell? ⟨gb224, 2, none⟩ = some (.slice Ao48 t221.length co48) := zc BK224 2
             have hfz58_0 := blk_frozen BK224.out 0
             have hfz58_1 := blk_frozen BK224.out 1
             have hfz58_2 := blk_frozen BK224.out 2
             try go_wp2_with (first | ((with_reducible refine gate_callee (f := 34) rfl ?_); refine goesL_ (some 52) rfl rfl Try.func34 (by kernel_rfl) rfl #[.agg #[.int .i64 t217, .slice Ao47 t218.length co47, .slice Ao48 t221.length co48], .int .i64 101] rfl zq6 ?_; (with_reducible refine (laws_markBox.calls k t217 (fun k_ => some k_ = (.slice Ao47 t218.length co47 : Value).ownBlock) (.slice Ao47 t218.length co47) t218 (fun k_ => some k_ = (.slice Ao48 t221.length co48 : Value).ownBlock) (.slice Ao48 t221.length co48) t221 101 t238 t239 t240 w _ ?side1 ?side2 ?side3 ?side4 ?side5 A18.out).mono ?_); (case side1 => exact zb1 HB); (case side2 => exact Kd.R_tight rfl HO220.out); (case side3 => exact fun k_ e_ => (HO220.out.1 k_ e_.symm).1.1); (case side4 => exact Kd.R_tight rfl HO223.out); (case side5 => exact fun k_ e_ => (HO223.out.1 k_ e_.symm).1.1); rintro e w59 ⟨rfl, hy0, hy1, hb, hkp⟩; refine ⟨_, rfl, ?_⟩; replace HP := Aside0.mk (Kd.S_mono (Kd.S_keptB (by (with_reducible repeat (first | apply Kd.S_alloc | apply Kd.S_drewN | apply Kd.S_drew)); exact HP.out) hkp (fun k_ hk_ hs_ => by exact Or.elim hs_ (fun e_ => hk_.1.1 e_) (fun e_ => hk_.1.2.1 e_))) (fun _ hk_ => hk_.1)); replace HG := Aside0.mk (Kd.S_mono (Kd.S_keptB (by (with_reducible repeat (first | apply Kd.S_alloc | apply Kd.S_drewN | apply Kd.S_drew)); exact HG.out) hkp (fun k_ hk_ hs_ => by exact Or.elim hs_ (fun e_ => Nat.not_lt.2 hk_ (HX.out.1 k_ e_.symm)) (fun e_ => Nat.not_lt.2 hk_ (HX.out.2 k_ e_.symm)))) (fun _ hk_ => hk_.1)); replace HSz := Aside0.mk (Nat.le_trans HSz.out hkp.1); have n0_ := Aside0.mk (blk_kept (zq1 BK204) hkp (fun hs_ => Or.elim hs_ (fun e_ => (fun e_ => (Kd.R_ne HO220.out BK204.out (by decide)) e_) e_) (fun e_ => (fun e_ => (Kd.R_ne HO223.out BK204.out (by decide)) e_) e_))); have n1_ := Aside0.mk (Kd.S_mono (ok' := fun k_ => some k_ ≠ (.slice Ao47 t218.length co47 : Value).ownBlock ∧ some k_ ≠ (.slice Ao48 t221.length co48 : Value).ownBlock ∧ some k_ ≠ (.slice Ao50 t225.length co50 : Value).ownBlock ∧ k_ ≠ gb224) (Kd.S_keptB (HO215.out) hkp (fun k_ hk_ hs_ => Or.elim hs_ (fun e_ => (hk_.1.1.1.1.1.2) e_) (fun e_ => (hk_.1.1.1.1.2) e_))) (fun k_ hk_ => ⟨hk_.1.1.1.1.1.1.2, hk_.1.1.1.1.1.2, hk_.1.1.1.2, hk_.1.1.1.1.2⟩)); have n2_ := Aside0.mk (Kd.R_reok rfl hy0 (fun k_ e_ => HO220.out.1 k_ e_)); have n3_ := Aside0.mk (Kd.R_reok rfl hy1 (fun k_ e_ => HO223.out.1 k_ e_)); have n4_ := Aside0.mk (blk_kept (zq1 BK224) hkp (fun hs_ => Or.elim hs_ (fun e_ => (fun e_ => (Kd.R_ne HO220.out BK224.out (by decide)) e_) e_) (fun e_ => (fun e_ => (Kd.R_ne HO223.out BK224.out (by decide)) e_) e_))); have n5_ := Aside0.mk (Kd.S_mono (ok' := fun k_ => some k_ ≠ (.slice Ao51 t213.length co51 : Value).ownBlock ∧ some k_ ≠ (.slice Ao47 t218.length co47 : Value).ownBlock ∧ some k_ ≠ (.slice Ao48 t221.length co48 : Value).ownBlock ∧ k_ ≠ gb224) (Kd.S_keptB (HO227.out) hkp (fun k_ hk_ hs_ => Or.elim hs_ (fun e_ => (hk_.1.1.1.1.2) e_) (fun e_ => (hk_.1.1.1.2) e_))) (fun k_ hk_ => ⟨hk_.1.1.1.1.1.1.2, hk_.1.1.1.1.1.2, hk_.1.1.1.1.2, hk_.1.1.1.2⟩)); have n6_ := Aside0.mk (hb); clear BK204; clear HO215; clear HO220 HO220F; clear HO223 HO223F; clear BK224; clear HO227; clear HB; have BK204 := n0_; have HO215 := n1_; have HO220 := n2_; have HO223 := n3_; have BK224 := n4_; have HO227 := n5_; have HB := n6_; clear n0_ n1_ n2_ n3_ n4_ n5_ n6_; (try clear hb); (try clear hkp); (try clear hy0); (try clear hy1)) | (go_at_call 52; (with_reducible refine (laws_eqBoxS.calls k _ _ t225 _ _ t213 true _ ?side1 ?side2 ?side3 ?side4 A20.out).mono ?_); (case side1 => repeat (first | exact (Kd.S_reads' HO227.out).2.2 | (with_reducible refine Kd.C_alloc ?_ _) | (with_reducible refine Kd.C_drewN ?_ _) | (with_reducible refine Kd.C_drew ?_))); (case side2 => exact (Kd.S_reads' HO227.out).2.1); (case side3 => repeat (first | exact (Kd.S_reads' HO215.out).2.2 | (with_reducible refine Kd.C_alloc ?_ _) | (with_reducible refine Kd.C_drewN ?_ _) | (with_reducible refine Kd.C_drew ?_))); (case side4 => exact (Kd.S_reads' HO215.out).2.1); rintro e w60 ⟨rfl, hb⟩; replace HP := Aside0.mk (Kd.S_below (by (with_reducible repeat (first | apply Kd.S_alloc | apply Kd.S_drewN | apply Kd.S_drew)); exact HP.out) hb); replace HG := Aside0.mk (Kd.S_below (by (with_reducible repeat (first | apply Kd.S_alloc | apply Kd.S_drewN | apply Kd.S_drew)); exact HG.out) hb); replace HSz := Aside0.mk (Nat.le_trans HSz.out hb.size); replace HO215 := Aside0.mk (Kd.S_below (by (with_reducible repeat (first | apply Kd.S_alloc | apply Kd.S_drewN | apply Kd.S_drew)); exact HO215.out) hb); replace HO227 := Aside0.mk (Kd.S_below (by (with_reducible repeat (first | apply Kd.S_alloc | apply Kd.S_drewN | apply Kd.S_drew)); exact HO227.out) hb); replace BK204 := Aside0.mk (zbb BK204 hb); replace BK224 := Aside0.mk (zbb BK224 hb); replace HB := Aside0.mk (below_step (zb1 HB) hb); (try clear hb); (try clear hb2); (try clear hk); (try clear hi)) | ((with_reducible refine gate_callee (f := 53) rfl ?_); refine goesL_ (some 68) rfl rfl Try.func53 (by kernel_rfl) rfl #[.slice Ao50 t225.length co50, .int .i64 101] rfl zq6 ?_; (with_reducible refine (laws_markBoxS.calls k B_ (fun k_ => B_ ≤ k_) (.slice Ao50 t225.length co50) t225 101 t242 t242g _ ?side1 ?side2 A22.out).mono ?_); (case side1 => exact HSz.out); (case side2 => exact (by (with_reducible repeat (first | apply Kd.S_alloc | apply Kd.S_drewN | apply Kd.S_drew)); exact HG.out)); rintro e w61 ⟨rfl, hr, hb, hk⟩; refine ⟨_, rfl, ?_⟩; have hL_ := (Kd.S_reads' hr).1; rw [hL_] at hr; rw [hL_]; clear hL_; replace HO227 := Aside0.mk (Kd.S_mono (ok' := fun k_ => some k_ ≠ (.slice Ao51 t213.length co51 : Value).ownBlock ∧ some k_ ≠ (.slice Ao47 t218.length co47 : Value).ownBlock ∧ some k_ ≠ (.slice Ao48 t221.length co48 : Value).ownBlock ∧ k_ ≠ gb224) (Kd.S_lower hr HQ.out.2.2) (fun k_ hk_ => by have hB_ : B_ ≤ k_ := Or.elim hk_ id (fun h2_ => Nat.le_trans HSz.out h2_); exact ⟨(fun e_ => Nat.not_lt.2 hB_ ((Kd.S_R HP.out).1 k_ e_.symm).2), (fun e_ => Nat.not_lt.2 hB_ (HX.out.1 k_ e_.symm)), (fun e_ => Nat.not_lt.2 hB_ (HX.out.2 k_ e_.symm)), (fun e_ => Nat.not_lt.2 hB_ (by rw [e_]; exact HQ.out.2.1))⟩)); replace HO215 := Aside0.mk (Kd.S_mono (ok' := fun k_ => some k_ ≠ (.slice Ao47 t218.length co47 : Value).ownBlock ∧ some k_ ≠ (.slice Ao48 t221.length co48 : Value).ownBlock ∧ some k_ ≠ (.slice Ao50 t225.length co50 : Value).ownBlock ∧ k_ ≠ gb224) (z_step hb (by (with_reducible repeat (first | apply Kd.S_alloc | apply Kd.S_drewN | apply Kd.S_drew)); exact HP.out)) (fun k_ hk_ => by exact ⟨hk_.1.1, hk_.1.2.1, (fun e_ => Nat.not_lt.2 (Kd.S_base HG.out k_ e_.symm) hk_.2), hk_.1.2.2⟩)); replace BK204 := Aside0.mk ((hb.block _ HQ.out.1).trans (zq1 BK204)); replace BK224 := Aside0.mk ((hb.block _ HQ.out.2.1).trans (zq1 BK224)); replace HB := Aside0.mk (z_chain (zb1 HB) hb HQ.out.2.2); clear hr hk HP HG HSz HX; (try clear hb); (try clear hb2); (try clear hk); (try clear hi)) | ((with_reducible refine gate_callee (f := 54) rfl ?_); refine goesL_ (some 71) rfl rfl Try.func54 (by kernel_rfl) rfl #[.slice Ao50 t242g.length co50, .int .i64 101] rfl zq6 ?_; (with_reducible refine (laws_heldBoxS.calls k _ _ t242g 101 t243 _ ?side1 ?side2 A23.out).mono ?_); (case side1 => repeat (first | exact (Kd.S_reads' HO227.out).2.2 | (with_reducible refine Kd.C_alloc ?_ _) | (with_reducible refine Kd.C_drewN ?_ _) | (with_reducible refine Kd.C_drew ?_))); (case side2 => exact (Kd.S_reads' HO227.out).2.1); rintro e w' ⟨rfl, ⟨nd, rfl⟩⟩; refine ⟨_, rfl, ?_⟩; have hcz62_0 : w61.cell? ⟨gb204, 0, none⟩ = some (.int .i64 a0_0) := zc BK204 0; have hcz62_1 : w61.cell? ⟨gb204, 1, none⟩ = some (.slice A0_1 l0_1.length c0_1) := zc BK204 1; have hcz62_2 : w61.cell? ⟨gb204, 2, none⟩ = some (.slice A0_2 l0_2.length c0_2) := zc BK204 2; have hfz62_0 := blk_frozen BK204.out 0; have hfz62_1 := blk_frozen BK204.out 1; have hfz62_2 := blk_frozen BK204.out 2) | ((with_reducible refine gate_callee (f := 16) rfl ?_); refine goesL_ (some 79) rfl rfl Try.func16 (by kernel_rfl) rfl #[.agg #[.int .i64 a0_0, .slice A0_1 l0_1.length c0_1, .slice A0_2 l0_2.length c0_2], .bool true] rfl zq6 ?_; (with_reducible refine (laws_toBox.calls k a0_0 _ _ l0_1 _ _ l0_2 true t244 t245 t248 _ ?side1 ?side2 ?side3 ?side4 A26.out).mono ?_); (case side1 => repeat (first | exact (Kd.C_below HR0_1.out (zb1 HB)) | (with_reducible refine Kd.C_alloc ?_ _) | (with_reducible refine Kd.C_drewN ?_ _) | (with_reducible refine Kd.C_drew ?_))); (case side2 => exact HC0_1.out); (case side3 => repeat (first | exact (Kd.C_below HR0_2.out (zb1 HB)) | (with_reducible refine Kd.C_alloc ?_ _) | (with_reducible refine Kd.C_drewN ?_ _) | (with_reducible refine Kd.C_drew ?_))); (case side4 => exact HC0_2.out); rintro e w63 ⟨v246, v249, rfl, ho0, ho1, hb, ho0F, ho1F⟩; refine ⟨_, rfl, ?_⟩; have n0_ := Aside0.mk (Kd.S_mono (Kd.S_told (Kd.S_told (Kd.S_old (by (with_reducible repeat (first | apply Kd.S_alloc | apply Kd.S_drewN | apply Kd.S_drew)); exact HO215.out) hb) (Kd.R_base ho0)) (Kd.R_base ho1)) (fun _ h_ => h_.1)); have n1_ := Aside0.mk (Kd.S_mono (Kd.S_told (Kd.S_told (Kd.S_old (by (with_reducible repeat (first | apply Kd.S_alloc | apply Kd.S_drewN | apply Kd.S_drew)); exact HO227.out) hb) (Kd.R_base ho0)) (Kd.R_base ho1)) (fun _ h_ => h_.1)); have n2_ := Aside0.mk (Kd.R_lower ho0 (below_size (zb1 HB))); have n2F_ := Aside0.mk (Kd.R_lower ho0F (below_size (zb1 HB))); have n3_ := Aside0.mk (Kd.R_lower ho1 (below_size (zb1 HB))); have n3F_ := Aside0.mk (Kd.R_lower ho1F (below_size (zb1 HB))); have n4_ := Aside0.mk (zbb BK224 hb); have n5_ := Aside0.mk (below_step (zb1 HB) hb); clear HO215; clear HO227; clear BK224; clear HB; have HO215 := n0_; have HO227 := n1_; have HO247 := n2_; have HO247F := n2F_; have HO250 := n3_; have HO250F := n3F_; have BK224 := n4_; have HB := n5_; clear n0_ n1_ n2_ n3_ n4_ n5_ n2F_ n3F_; (try clear hb); (try clear hb2); (try clear hk); (try clear hi); (try clear ho0); (try clear ho0F); (try clear ho1); (try clear ho1F); obtain ⟨Ao64, co64, eo64⟩ := Kd.R_slice HO247.out; subst eo64; obtain ⟨Ao65, co65, eo65⟩ := Kd.R_slice HO250.out; subst eo65) | ((with_reducible refine gate_callee (f := 51) rfl ?_); refine goesL_ (some 81) rfl rfl Try.func51 (by kernel_rfl) rfl #[.agg #[.int .i64 t244, .slice Ao64 t245.length co64, .slice Ao65 t248.length co65], .int .i64 a1] rfl zq6 ?_; (with_reducible refine (impl_HalvesOf.calls k t244 _ _ t245 _ _ t248 a1 t251 t254 _ ?side1 ?side2 ?side3 ?side4 A27.out).mono ?_); (case side1 => repeat (first | exact (Kd.R_reads' HO247.out).2.2 | (with_reducible refine Kd.C_alloc ?_ _) | (with_reducible refine Kd.C_drewN ?_ _) | (with_reducible refine Kd.C_drew ?_))); (case side2 => exact (Kd.R_reads' HO247.out).2.1); (case side3 => repeat (first | exact (Kd.R_reads' HO250.out).2.2 | (with_reducible refine Kd.C_alloc ?_ _) | (with_reducible refine Kd.C_drewN ?_ _) | (with_reducible refine Kd.C_drew ?_))); (case side4 => exact (Kd.R_reads' HO250.out).2.1); rintro e w66 ⟨v252, rfl, ho0, hb⟩; refine ⟨_, rfl, ?_⟩; have n0_ := Aside0.mk (Kd.S_elder' (by (with_reducible repeat (first | apply Kd.S_alloc | apply Kd.S_drewN | apply Kd.S_drew)); exact HO215.out) (Kd.S_base ho0) hb); have n1_ := Aside0.mk (Kd.S_elder' (by (with_reducible repeat (first | apply Kd.S_alloc | apply Kd.S_drewN | apply Kd.S_drew)); exact HO227.out) (Kd.S_base ho0) hb); have n2_ := Aside0.mk (Kd.R_below (zq3 HO247) hb); have n2F_ := Aside0.mk (Kd.R_below (zq3 HO247F) hb); have n3_ := Aside0.mk (Kd.R_below (zq3 HO250) hb); have n3F_ := Aside0.mk (Kd.R_below (zq3 HO250F) hb); have n4_ := Aside0.mk (Kd.S_lower (Kd.S_newB (Kd.S_new' (Kd.S_new' (Kd.S_new' (Kd.S_new' ho0 (Kd.S_lt (by (with_reducible repeat (first | apply Kd.S_alloc | apply Kd.S_drewN | apply Kd.S_drew)); exact HO215.out))) (Kd.S_lt (by (with_reducible repeat (first | apply Kd.S_alloc | apply Kd.S_drewN | apply Kd.S_drew)); exact HO227.out))) (Kd.R_lt (zq3 HO247))) (Kd.R_lt (zq3 HO250))) (g := gb224) (o := .cells #[.int .i64 t217, .slice Ao47 t218.length co47, .slice Ao48 t221.length co48] 27 (0, 0)) (zq1 BK224)) (below_size (zb1 HB))); have n5_ := Aside0.mk (zbb BK224 hb); have n6_ := Aside0.mk (below_step (zb1 HB) hb); clear HO215; clear HO227; clear HO247 HO247F; clear HO250 HO250F; clear BK224; clear HB; have HO215 := n0_; have HO227 := n1_; have HO247 := n2_; have HO247F := n2F_; have HO250 := n3_; have HO250F := n3F_; have HO253 := n4_; have BK224 := n5_; have HB := n6_; clear n0_ n1_ n2_ n3_ n4_ n5_ n6_ n2F_ n3F_; (try clear hb); (try clear hb2); (try clear hk); (try clear hi); (try clear ho0); obtain ⟨Ao67, co67, eo67⟩ := Kd.S_slice HO253.out; subst eo67) | ((with_reducible refine gate_callee (f := 52) rfl ?_); refine goesL_ (some 86) rfl rfl Try.func52 (by kernel_rfl) rfl #[.slice Ao67 t251.length co67, .slice Ao51 t213.length co51] rfl zq6 ?_; (with_reducible refine (laws_eqBoxS.calls k _ _ t251 _ _ t213 true _ ?side1 ?side2 ?side3 ?side4 A28.out).mono ?_); (case side1 => repeat (first | exact (Kd.S_reads' HO253.out).2.2 | (with_reducible refine Kd.C_alloc ?_ _) | (with_reducible refine Kd.C_drewN ?_ _) | (with_reducible refine Kd.C_drew ?_))); (case side2 => exact (Kd.S_reads' HO253.out).2.1); (case side3 => repeat (first | exact (Kd.S_reads' HO215.out).2.2 | (with_reducible refine Kd.C_alloc ?_ _) | (with_reducible refine Kd.C_drewN ?_ _) | (with_reducible refine Kd.C_drew ?_))); (case side4 => exact (Kd.S_reads' HO215.out).2.1); rintro e w68 ⟨rfl, hb⟩; refine ⟨_, rfl, ?_⟩; replace HO215 := Aside0.mk (Kd.S_below (by (with_reducible repeat (first | apply Kd.S_alloc | apply Kd.S_drewN | apply Kd.S_drew)); exact HO215.out) hb); replace HO227 := Aside0.mk (Kd.S_below (by (with_reducible repeat (first | apply Kd.S_alloc | apply Kd.S_drewN | apply Kd.S_drew)); exact HO227.out) hb); replace HO253 := Aside0.mk (Kd.S_below (by (with_reducible repeat (first | apply Kd.S_alloc | apply Kd.S_drewN | apply Kd.S_drew)); exact HO253.out) hb); replace BK224 := Aside0.mk (zbb BK224 hb); replace HB := Aside0.mk (below_step (zb1 HB) hb); (try clear hb); (try clear hb2); (try clear hk); (try clear hi)) | ((with_reducible refine gate_callee (f := 54) rfl ?_); refine goesL_ (some 95) rfl rfl Try.func54 (by kernel_rfl) rfl #[.slice Ao50 t242g.length co50, .int .i64 101] rfl zq6 ?_; (with_reducible refine (laws_heldBoxS.calls k _ _ t242g 101 t256 _ ?side1 ?side2 A31.out).mono ?_); (case side1 => repeat (first | exact (Kd.S_reads' HO227.out).2.2 | (with_reducible refine Kd.C_alloc ?_ _) | (with_reducible refine Kd.C_drewN ?_ _) | (with_reducible refine Kd.C_drew ?_))); (case side2 => exact (Kd.S_reads' HO227.out).2.1); rintro e w' ⟨rfl, ⟨nd, rfl⟩⟩; refine ⟨_, rfl, ?_⟩))
             go_ret
             exact ⟨by first | rfl | (simp [errW_none, errW_some] <;> rfl) | (simp [*, errW_none, errW_some] <;> rfl), (zb1 HB)⟩
            ·
             rw [if_neg c33] at H
             exact absurd H (by simp)
         ·
          replace c29 := Bool.eq_false_iff.mpr c29
          subst c29
          have H1 : (none) = some r := by rw [if_neg (show ¬ (false = true) by decide)] at H; exact H
          clear H
          have H := H1
          clear H1
          exact absurd H (by simp)
        ·
         rw [if_neg c25] at H
         exact absurd H (by simp)
      ·
       replace c21 := Bool.eq_false_iff.mpr c21
       subst c21
       have H1 : (none) = some r := by rw [if_neg (show ¬ (false = true) by decide)] at H; exact H
       clear H
       have H := H1
       clear H1
       exact absurd H (by simp)
    ·
     replace c17 := Bool.eq_false_iff.mpr c17
     subst c17
     have H1 : (none) = some r := by rw [if_neg (show ¬ (false = true) by decide)] at H; exact H
     clear H
     have H := H1
     clear H1
     exact absurd H (by simp)
  ·
   replace c13 := Bool.eq_false_iff.mpr c13
   subst c13
   have H1 : (none) = some r := by rw [if_neg (show ¬ (false = true) by decide)] at H; exact H
   clear H
   have H := H1
   clear H1
   exact absurd H (by simp)
end Go.Proofs.Ytgaoniapddpaaaa.PD
