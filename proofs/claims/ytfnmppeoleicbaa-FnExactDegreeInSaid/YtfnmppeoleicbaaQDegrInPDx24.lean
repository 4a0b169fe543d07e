-- By wip/mk/drv.py
import Derived.Test.YtfnmppeoleicbaaQDegrInPDx0
import Derived.Test.YtfnmppeoleicbaaQDegrInPDx1
import Derived.Test.YtfnmppeoleicbaaQDegrInPDx4
import Derived.Test.YtfnmppeoleicbaaQDegrInPDx9
namespace Go.Proofs.Ytfnmppeoleicbaa.PD
open Go.RowKit Go.Proofs.YtfnmppeoleicbaaW.PrintWords Go.Proofs.YtfnmppeoleicbaaW.PrintLast Go.Proofs.YtfnmppeoleicbaaW.PrintMore
attribute [local go_sem] max2_int min2_int max_two min_two max_three min_three max_four min_four
set_option linter.unusedVariables false
set_option linter.unusedSimpArgs false
/-! ### impl_DegreeIn: function 23 -/
-- PROOF
set_option maxHeartbeats 8000000 in
set_option maxRecDepth 100000 in
theorem impl_DegreeIn.exps (c x y z : Int) (w : World) : Calls Try.prog 61 #[.agg #[.int .i64 c, .int .i64 x, .int .i64 y, .int .i64 z]] w fun e w' => e = .returned (.agg #[.int .i64 x, .int .i64 y, .int .i64 z]) ∧ Below w.heap.size w w' := by
 have hu55 := Try.underlying55
 have HB := Aside0.mk (Below.refl w.heap.size w)
 go_enter Try.func61, Try.ntmps61
 go_wp2_with (first | ((with_reducible refine gate_dst (N := 1) rfl ?_); refine zbe (N := 1) (cs := #[.int .i64 c, .int .i64 x, .int .i64 y, .int .i64 z]) (t := 55) ?_; intro gb1 hg w1 hbox hb; have BK1 := Aside0.mk hbox; have GW1 := Aside0.mk (zge (zb0 HB) hg); replace HB := Aside0.mk (below_step (zb0 HB) hb); clear hb hbox hg) | ((with_reducible refine gate_dst (N := 2) rfl ?_); refine zbe (N := 2) (cs := #[.int .i64 0, .int .i64 0, .int .i64 0]) (t := 61) ?_; intro gb2 hg w2 hbox hb; have BK2 := Aside0.mk hbox; have GW2 := Aside0.mk (zge (zb0 HB) hg); replace BK1 := Aside0.mk (zbb BK1 hb); replace HB := Aside0.mk (below_step (zb0 HB) hb); clear hb hbox hg; have hc1 : w2.cell? ⟨gb1, 1, none⟩ = some (.int .i64 x) := zc BK1 1; have hc2 : w2.cell? ⟨gb1, 2, none⟩ = some (.int .i64 y) := zc BK1 2; have hc3 : w2.cell? ⟨gb1, 3, none⟩ = some (.int .i64 z) := zc BK1 3; have hd0 : w2.cell? ⟨gb2, 0, none⟩ = some (.int .i64 0) := zc BK2 0; have hd1 : w2.cell? ⟨gb2, 1, none⟩ = some (.int .i64 0) := zc BK2 1; have hd2 : w2.cell? ⟨gb2, 2, none⟩ = some (.int .i64 0) := zc BK2 2; have hf0 := blk_frozen BK2.out 0; have hf1 := blk_frozen BK2.out 1; have hf2 := blk_frozen BK2.out 2))
 refine bodyPost_ret (results_cell_row rfl _ _ gb2 61 #[.int .i64 x, .int .i64 y, .int .i64 z] (0, 0) _ rfl (by (with_reducible repeat (first | refine blk_drewN ?_ _ | refine blk_drew ?_ | refine blk_alloc ?_ _)); refine blk_put (cs := #[.int .i64 x, .int .i64 y, .int .i64 0]) ?_ 2 _ rfl; refine blk_put (cs := #[.int .i64 x, .int .i64 0, .int .i64 0]) ?_ 1 _ rfl; refine blk_put (cs := #[.int .i64 0, .int .i64 0, .int .i64 0]) ?_ 0 _ rfl; exact BK2.out) Try.underlying61 rfl (by kernel_rfl)) rfl ?_
 exact ⟨by first | rfl | (simp; done) | (simp [*]; done), (zb1 HB)⟩
theorem impl_DegreeIn.ix0 (x y z : Int) (w : World) : (Instr.index 61 (.agg #[.int .i64 x, .int .i64 y, .int .i64 z]) (.int .i64 0)).run Try.prog w = .ok (.int .i64 x) w := by
 have hA := Try.underlying61
 simp only [Instr.index]
 go_simp
theorem impl_DegreeIn.ix1 (x y z : Int) (w : World) : (Instr.index 61 (.agg #[.int .i64 x, .int .i64 y, .int .i64 z]) (.int .i64 1)).run Try.prog w = .ok (.int .i64 y) w := by
 have hA := Try.underlying61
 simp only [Instr.index]
 go_simp
theorem impl_DegreeIn.ix2 (x y z : Int) (w : World) : (Instr.index 61 (.agg #[.int .i64 x, .int .i64 y, .int .i64 z]) (.int .i64 2)).run Try.prog w = .ok (.int .i64 z) w := by
 have hA := Try.underlying61
 simp only [Instr.index]
 go_simp
set_option maxHeartbeats 8000000 in
set_option maxRecDepth 100000 in
theorem impl_DegreeIn.calls (k : Nat) (A0 : Option Addr) (c0 : Nat) (l0 : List (S55)) (a1 : Int) (r1 : Int) (r2 : Bool) (w : World) (hr0 : Kd.C k55 w A0 l0.length l0) (hc0 : l0.length ≤ c0) (h : impl_DegreeIn.f k l0 a1 = some (r1, r2)) :
  Calls Try.prog 23 #[.slice A0 l0.length c0, .int .i64 a1] w fun e w' => e = .returned (.tuple #[.int .i64 r1, .bool r2]) ∧ Below w.heap.size w w' := by
 have hu55 := Try.underlying55
 have HR0 := Aside0.mk hr0
 have HC0 := Aside0.mk hc0
 have HB := Aside0.mk (Below.refl w.heap.size w)
 clear hr0 hc0
 unfold impl_DegreeIn.f at h
 obtain ⟨b1, hA0, h⟩ := Option.bind_eq_some_iff.mp h
 have hA := Aside0.mk hA0
 clear hA0
 cases b1
 ·
  rw [if_neg Bool.false_ne_true] at h
  simp only [Option.some.injEq, Prod.mk.injEq] at h
  obtain ⟨rfl, rfl⟩ := h
  go_enter Try.func23, Try.ntmps23
  go_wp2_with (((with_reducible refine gate_callee (f := 55) rfl ?_); refine goesL_ (some 10) rfl rfl Try.func55 (by kernel_rfl) rfl #[.slice A0 l0.length c0] rfl zq6 ?_; refine (impl_isPoly.calls k _ _ l0 _ _ HR0.out HC0.out hA.out).mono ?_; rintro e w4 ⟨rfl, hb⟩; refine ⟨_, rfl, ?_⟩; replace HB := Aside0.mk (below_step (zb0 HB) hb); clear hb))
  go_ret2
  exact ⟨by first | rfl | (simp; done) | (simp [*]; done), (zb1 HB)⟩
 ·
  rw [if_pos rfl] at h
  obtain ⟨b2, hU0, h⟩ := Option.bind_eq_some_iff.mp h
  have hU := Aside0.mk hU0
  clear hU0
  cases b2
  ·
   rw [if_neg Bool.false_ne_true] at h
   simp only [Option.some.injEq, Prod.mk.injEq] at h
   obtain ⟨rfl, rfl⟩ := h
   go_enter Try.func23, Try.ntmps23
   go_wp2_with (first | ((with_reducible refine gate_callee (f := 55) rfl ?_); refine goesL_ (some 10) rfl rfl Try.func55 (by kernel_rfl) rfl #[.slice A0 l0.length c0] rfl zq6 ?_; refine (impl_isPoly.calls k _ _ l0 _ _ HR0.out HC0.out hA.out).mono ?_; rintro e w4 ⟨rfl, hb⟩; refine ⟨_, rfl, ?_⟩; replace HB := Aside0.mk (below_step (zb0 HB) hb); clear hb) | (go_at_call 60; refine (impl_isUnknown.calls _ _ _ hU.out).mono ?_; rintro e w' ⟨rfl, ⟨nd, rfl⟩⟩))
   go_ret2
   exact ⟨by first | rfl | (simp; done) | (simp [*]; done), (zb1 HB)⟩
  ·
   rw [if_pos rfl] at h
   by_cases q0 : 0 ≤ a1
   ·
    rw [if_pos q0] at h
    by_cases q2 : a1 ≤ 2
    ·
     rw [if_pos q2] at h
     obtain ⟨aa, haa⟩ : ∃ aa, aa = a1 := ⟨_, rfl⟩
     rw [← haa] at h
     have H' := Aside0.mk h
     clear h
     have hcase : a1 = 0 ∨ a1 = 1 ∨ a1 = 2 := by omega
     clear q0 q2
     rcases hcase with rfl | rfl | rfl
     all_goals (
      go_enter Try.func23, Try.ntmps23
      go_wp2_with (first | ((with_reducible refine gate_callee (f := 55) rfl ?_); refine goesL_ (some 10) rfl rfl Try.func55 (by kernel_rfl) rfl #[.slice A0 l0.length c0] rfl zq6 ?_; refine (impl_isPoly.calls k _ _ l0 _ _ HR0.out HC0.out hA.out).mono ?_; rintro e w4 ⟨rfl, hb⟩; refine ⟨_, rfl, ?_⟩; replace HB := Aside0.mk (below_step (zb0 HB) hb); clear hb) | (go_at_call 60; refine (impl_isUnknown.calls _ _ _ hU.out).mono ?_; rintro e w' ⟨rfl, ⟨nd, rfl⟩⟩))
      go_loopg [6, 19] k (fun kq v6 v19 w' => ∃ (m : Int) (i : Int), v6 = .int .i64 m ∧ v19 = .int .i64 i ∧ Aside0 (impl_DegreeIn.l0 kq l0 aa m i = some (r1, r2)) ∧ Aside0 (kq ≤ k) ∧ Aside0 (Below w.heap.size w w'))
      case atStart => exact ⟨-1, 0, (by first | rfl | (simp; done) | (simp [*]; done)), (by first | rfl | (simp; done) | (simp [*]; done)), H', ⟨Nat.le_refl _⟩, ⟨(zb0 HB)⟩⟩
      case round =>
       clear H' HB
       obtain ⟨m, i, rfl, rfl, HA, HK1, HB⟩ := hrel
       cases gk with
       | zero => exact absurd HA.out (by simp [impl_DegreeIn.l0])
       | succ k1 =>
        have H := HA.out
        clear HA
        simp only [impl_DegreeIn.l0] at H
        by_cases c : i < (l0.length : Int)
        ·
         rw [if_pos c] at H
         by_cases c' : 0 ≤ i
         ·
          rw [if_pos c'] at H
          obtain ⟨m', hm'⟩ : ∃ m', mx m (impl_DegreeIn.pw (rd_T55 l0 i) aa) = m' := ⟨_, rfl⟩
          rw [hm'] at H
          have H' := Aside0.mk H
          clear H
          simp only [mx, impl_DegreeIn.pw, haa, if_true, if_false, Int.reduceEq, ↓reduceIte] at hm'
          have cb := decide_eq_true c
          have cb' := decide_eq_true c'
          obtain ⟨ad, ead, hx0, hx1, hx2, hx3⟩ := at_T55 HR0.out i c' c
          subst ead
          have hv0 := hx0; have hv1 := hx1; have hv2 := hx2; have hv3 := hx3
          replace hx0 := (HB.out.cell (World.block_lt_of_cell? w _ hx0)).trans hx0
          replace hx1 := (HB.out.cell (World.block_lt_of_cell? w _ hx1)).trans hx1
          replace hx2 := (HB.out.cell (World.block_lt_of_cell? w _ hx2)).trans hx2
          replace hx3 := (HB.out.cell (World.block_lt_of_cell? w _ hx3)).trans hx3
          have hi0 := impl_DegreeIn.ix0
          have hi1 := impl_DegreeIn.ix1
          have hi2 := impl_DegreeIn.ix2
          have p1 := eq_true c
          have p2 := eq_true c'
          clear c c'
          go_wp2_with (first | ((with_reducible refine gate_dst (N := 8) rfl ?_); refine zbe (N := 8) (cs := #[.int .i64 0, .int .i64 0, .int .i64 0, .int .i64 0]) (t := 55) ?_; intro gb8 hg w8 hbox hb; have BK8 := Aside0.mk hbox; have GW8 := Aside0.mk (zge (zb0 HB) hg); replace HB := Aside0.mk (below_step (zb0 HB) hb); clear hb hbox hg; have hcz8_0 : w8.cell? ⟨gb8, 0, none⟩ = some (.int .i64 0) := zc BK8 0; have hcz8_1 : w8.cell? ⟨gb8, 1, none⟩ = some (.int .i64 0) := zc BK8 1; have hcz8_2 : w8.cell? ⟨gb8, 2, none⟩ = some (.int .i64 0) := zc BK8 2; have hcz8_3 : w8.cell? ⟨gb8, 3, none⟩ = some (.int .i64 0) := zc BK8 3; have hfz8_0 := blk_frozen BK8.out 0; have hfz8_1 := blk_frozen BK8.out 1; have hfz8_2 := blk_frozen BK8.out 2; have hfz8_3 := blk_frozen BK8.out 3) | ((with_reducible refine gate_callee (f := 61) rfl ?_); refine goesL_ (some 25) rfl rfl Try.func61 (by kernel_rfl) rfl #[.agg #[.int .i64 (rd_T55 l0 i).f0, .int .i64 (rd_T55 l0 i).f1, .int .i64 (rd_T55 l0 i).f2, .int .i64 (rd_T55 l0 i).f3]] rfl zq6 ?_; refine (impl_DegreeIn.exps (rd_T55 l0 i).f0 (rd_T55 l0 i).f1 (rd_T55 l0 i).f2 (rd_T55 l0 i).f3 _).mono ?_; rintro e w9 ⟨rfl, hb⟩; refine ⟨_, rfl, ?_⟩; replace HB := Aside0.mk (below_step (zb1 HB) hb); clear hb))
          go_roundg k1
          case measure => have := HK1.out; omega
          case rel => exact ⟨m', (wrap64 (i + 1)), (by first | rfl | (simp; done) | (simp [*]; done)), (by first | rfl | (simp; done) | (simp [*]; done)), H', ⟨by have := HK1.out; omega⟩, ⟨(zb1 HB)⟩⟩
         ·
          rw [if_neg c'] at H; cases H
        ·
         rw [if_neg c] at H
         simp only [Option.some.injEq, Prod.mk.injEq] at H
         obtain ⟨rfl, rfl⟩ := H
         have cb := decide_eq_false c
         clear c
         go_wp2
         go_ret2
         exact ⟨by first | rfl | (simp; done) | (simp [*]; done), (zb1 HB)⟩)
    ·
     rw [if_neg q2] at h; cases h
   ·
    rw [if_neg q0] at h; cases h
end Go.Proofs.Ytfnmppeoleicbaa.PD
