-- By wip/mk/drv.py
import Derived.Test.YtfnmppeoleicbaaQPutIerPDx0
import Derived.Test.YtfnmppeoleicbaaQPutIerPDx1
import Derived.Test.YtfnmppeoleicbaaQPutIerPDx3
import Derived.Test.YtfnmppeoleicbaaQPutIerPDx13
import Derived.Test.YtfnmppeoleicbaaQPutIerPDx14
import Derived.Test.YtfnmppeoleicbaaQPutIerPDx15
namespace Go.Proofs.Ytfnmppeoleicbaa.PD
open Go.RowKit Go.Proofs.YtfnmppeoleicbaaW.PrintWords Go.Proofs.YtfnmppeoleicbaaW.PrintLast Go.Proofs.YtfnmppeoleicbaaW.PrintMore
attribute [local go_sem] max2_int min2_int max_two min_two max_three min_three max_four min_four
set_option linter.unusedVariables false
set_option linter.unusedSimpArgs false
/-! ### impl_PutInteger: function 48 -/
-- PROOF
set_option maxHeartbeats 8000000 in
set_option maxRecDepth 100000 in
theorem impl_PutInteger.exps (c x y z : Int) (w : World) : Calls Try.prog 61 #[.agg #[.int .i64 c, .int .i64 x, .int .i64 y, .int .i64 z]] w fun e w' => e = .returned (.agg #[.int .i64 x, .int .i64 y, .int .i64 z]) ∧ Below w.heap.size w w' := by
  have hu55 := Try.underlying55
  have HB := Aside0.mk (Below.refl w.heap.size w)
  go_enter Try.func61, Try.ntmps61
  go_wp2_with (first | ((with_reducible refine gate_dst (N := 1) rfl ?_); refine zbe (N := 1) (cs := #[.int .i64 c, .int .i64 x, .int .i64 y, .int .i64 z]) (t := 55) ?_; intro gb1 hg w1 hbox hb; have BK1 := Aside0.mk hbox; have GW1 := Aside0.mk (zge (zb0 HB) hg); replace HB := Aside0.mk (below_step (zb0 HB) hb); clear hb hbox hg) | ((with_reducible refine gate_dst (N := 2) rfl ?_); refine zbe (N := 2) (cs := #[.int .i64 0, .int .i64 0, .int .i64 0]) (t := 61) ?_; intro gb2 hg w2 hbox hb; have BK2 := Aside0.mk hbox; have GW2 := Aside0.mk (zge (zb0 HB) hg); replace BK1 := Aside0.mk (zbb BK1 hb); replace HB := Aside0.mk (below_step (zb0 HB) hb); clear hb hbox hg; have hc1 : w2.cell? ⟨gb1, 1, none⟩ = some (.int .i64 x) := zc BK1 1; have hc2 : w2.cell? ⟨gb1, 2, none⟩ = some (.int .i64 y) := zc BK1 2; have hc3 : w2.cell? ⟨gb1, 3, none⟩ = some (.int .i64 z) := zc BK1 3; have hd0 : w2.cell? ⟨gb2, 0, none⟩ = some (.int .i64 0) := zc BK2 0; have hd1 : w2.cell? ⟨gb2, 1, none⟩ = some (.int .i64 0) := zc BK2 1; have hd2 : w2.cell? ⟨gb2, 2, none⟩ = some (.int .i64 0) := zc BK2 2; have hf0 := blk_frozen BK2.out 0; have hf1 := blk_frozen BK2.out 1; have hf2 := blk_frozen BK2.out 2))
  refine bodyPost_ret (results_cell_row rfl _ _ gb2 61 #[.int .i64 x, .int .i64 y, .int .i64 z] (0, 0) _ rfl (by (with_reducible repeat (first | refine blk_drewN ?_ _ | refine blk_drew ?_ | refine blk_alloc ?_ _)); refine blk_put (cs := #[.int .i64 x, .int .i64 y, .int .i64 0]) ?_ 2 _ rfl; refine blk_put (cs := #[.int .i64 x, .int .i64 0, .int .i64 0]) ?_ 1 _ rfl; refine blk_put (cs := #[.int .i64 0, .int .i64 0, .int .i64 0]) ?_ 0 _ rfl; exact BK2.out) Try.underlying61 rfl (by kernel_rfl)) rfl ?_
  exact ⟨by first | rfl | (simp; done) | (simp [*]; done), (zb1 HB)⟩
set_option maxHeartbeats 8000000 in
set_option maxRecDepth 100000 in
theorem impl_PutInteger.termOf (c x y z : Int) (w : World) : Calls Try.prog 83 #[.int .i64 c, .agg #[.int .i64 x, .int .i64 y, .int .i64 z]] w fun e w' => e = .returned (.agg #[.int .i64 c, .int .i64 x, .int .i64 y, .int .i64 z]) ∧ Below w.heap.size w w' := by
  have hu55 := Try.underlying55
  have hu61 := Try.underlying61
  have HB := Aside0.mk (Below.refl w.heap.size w)
  go_enter Try.func83, Try.ntmps83
  go_wp2_with (first | ((with_reducible refine gate_dst (N := 3) rfl ?_); refine zbe (N := 3) (cs := #[.int .i64 x, .int .i64 y, .int .i64 z]) (t := 61) ?_; intro gb3 hg w3 hbox hb; have BK3 := Aside0.mk hbox; have GW3 := Aside0.mk (zge (zb1 HB) hg); replace HB := Aside0.mk (below_step (zb1 HB) hb); clear hb hbox hg; skip) | ((with_reducible refine gate_dst (N := 4) rfl ?_); refine zbe (N := 4) (cs := #[.int .i64 0, .int .i64 0, .int .i64 0, .int .i64 0]) (t := 55) ?_; intro gb4 hg w4 hbox hb; have BK4 := Aside0.mk hbox; have GW4 := Aside0.mk (zge (zb1 HB) hg); replace BK3 := Aside0.mk (zbb BK3 hb); replace HB := Aside0.mk (below_step (zb1 HB) hb); clear hb hbox hg; have hcza_0 : w4.cell? ⟨gb3, 0, none⟩ = some (.int .i64 x) := zc BK3 0; have hcza_1 : w4.cell? ⟨gb3, 1, none⟩ = some (.int .i64 y) := zc BK3 1; have hcza_2 : w4.cell? ⟨gb3, 2, none⟩ = some (.int .i64 z) := zc BK3 2; have hfza_0 := blk_frozen BK3.out 0; have hfza_1 := blk_frozen BK3.out 1; have hfza_2 := blk_frozen BK3.out 2; have hczb_0 : w4.cell? ⟨gb4, 0, none⟩ = some (.int .i64 0) := zc BK4 0; have hczb_1 : w4.cell? ⟨gb4, 1, none⟩ = some (.int .i64 0) := zc BK4 1; have hczb_2 : w4.cell? ⟨gb4, 2, none⟩ = some (.int .i64 0) := zc BK4 2; have hczb_3 : w4.cell? ⟨gb4, 3, none⟩ = some (.int .i64 0) := zc BK4 3; have hfzb_0 := blk_frozen BK4.out 0; have hfzb_1 := blk_frozen BK4.out 1; have hfzb_2 := blk_frozen BK4.out 2; have hfzb_3 := blk_frozen BK4.out 3))
  refine bodyPost_ret (results_cell_row rfl _ _ gb4 55 #[.int .i64 c, .int .i64 x, .int .i64 y, .int .i64 z] (0, 0) _ rfl (by (with_reducible repeat (first | refine blk_drewN ?_ _ | refine blk_drew ?_ | refine blk_alloc ?_ _)); refine blk_put (cs := #[.int .i64 c, .int .i64 x, .int .i64 y, .int .i64 0]) ?_ 3 _ rfl; refine blk_put (cs := #[.int .i64 c, .int .i64 x, .int .i64 0, .int .i64 0]) ?_ 2 _ rfl; refine blk_put (cs := #[.int .i64 c, .int .i64 0, .int .i64 0, .int .i64 0]) ?_ 1 _ rfl; refine blk_put (cs := #[.int .i64 0, .int .i64 0, .int .i64 0, .int .i64 0]) ?_ 0 _ rfl; exact BK4.out) Try.underlying55 rfl (by kernel_rfl)) rfl ?_
  exact ⟨by first | rfl | (simp; done) | (simp [*]; done), (zb1 HB)⟩
set_option maxHeartbeats 8000000 in
set_option maxRecDepth 100000 in
theorem impl_PutInteger.calls (k : Nat) (A0 : Option Addr) (c0 : Nat) (l0 : List (S55)) (a1 : Int) (a2 : Int) (r1 : List (S55)) (r2 : Bool) (w : World) (hr0 : Kd.C k55 w A0 l0.length l0) (hc0 : l0.length ≤ c0) (h : impl_PutInteger.f k l0 a1 a2 = some (r1, r2)) :
    Calls Try.prog 48 #[.slice A0 l0.length c0, .int .i64 a1, .int .i64 a2] w fun e w' => ∃ v0_ : Value, e = .returned (.tuple #[v0_, .bool r2]) ∧ Kd.R k55 55 w' w.heap.size (fun _ => True) v0_ r1 ∧ Below w.heap.size w w' := by
  have hu55 := Try.underlying55
  have hu61 := Try.underlying61
  have HR0 := Aside0.mk hr0
  have HC0 := Aside0.mk hc0
  have HB := Aside0.mk (Below.refl w.heap.size w)
  clear hr0 hc0
  unfold impl_PutInteger.f at h
  obtain ⟨b1, hA0, h⟩ := Option.bind_eq_some_iff.mp h
  have hA := Aside0.mk hA0
  clear hA0
  cases b1
  ·
    rw [if_neg Bool.false_ne_true] at h
    simp only [Option.some.injEq, Prod.mk.injEq] at h
    obtain ⟨rfl, rfl⟩ := h
    go_enter Try.func48, Try.ntmps48
    go_wp2_with (first | ((with_reducible refine gate_callee (f := 55) rfl ?_); refine goesL_ (some 14) rfl rfl Try.func55 (by kernel_rfl) rfl #[.slice A0 l0.length c0] rfl zq6 ?_; refine (impl_isPoly.calls k _ _ l0 _ _ HR0.out HC0.out hA.out).mono ?_; rintro e w4 ⟨rfl, hb⟩; refine ⟨_, rfl, ?_⟩; replace HB := Aside0.mk (below_step (zb0 HB) hb); clear hb))
    go_ret2
    exact ⟨_, by first | rfl | (simp; done) | (simp [*]; done), Kd.R_nil _ _ _ _ _, (zb1 HB)⟩
  · rw [if_pos rfl] at h
    obtain ⟨b2, hU0, h⟩ := Option.bind_eq_some_iff.mp h
    have hU := Aside0.mk hU0
    clear hU0
    cases b2
    ·
      rw [if_neg Bool.false_ne_true] at h
      simp only [Option.some.injEq, Prod.mk.injEq] at h
      obtain ⟨rfl, rfl⟩ := h
      go_enter Try.func48, Try.ntmps48
      go_wp2_with (first | ((with_reducible refine gate_callee (f := 55) rfl ?_); refine goesL_ (some 14) rfl rfl Try.func55 (by kernel_rfl) rfl #[.slice A0 l0.length c0] rfl zq6 ?_; refine (impl_isPoly.calls k _ _ l0 _ _ HR0.out HC0.out hA.out).mono ?_; rintro e w4 ⟨rfl, hb⟩; refine ⟨_, rfl, ?_⟩; replace HB := Aside0.mk (below_step (zb0 HB) hb); clear hb) | (go_at_call 60; refine (impl_isUnknown.calls _ _ _ hU.out).mono ?_; rintro e w' ⟨rfl, ⟨nd, rfl⟩⟩))
      go_ret2
      exact ⟨_, by first | rfl | (simp; done) | (simp [*]; done), Kd.R_nil _ _ _ _ _, (zb1 HB)⟩
    · rw [if_pos rfl] at h
      obtain ⟨b3, hV0, h⟩ := Option.bind_eq_some_iff.mp h
      have hV := Aside0.mk hV0
      clear hV0
      cases b3
      ·
        rw [if_neg Bool.false_ne_true] at h
        simp only [Option.some.injEq, Prod.mk.injEq] at h
        obtain ⟨rfl, rfl⟩ := h
        go_enter Try.func48, Try.ntmps48
        go_wp2_with (first | ((with_reducible refine gate_callee (f := 55) rfl ?_); refine goesL_ (some 14) rfl rfl Try.func55 (by kernel_rfl) rfl #[.slice A0 l0.length c0] rfl zq6 ?_; refine (impl_isPoly.calls k _ _ l0 _ _ HR0.out HC0.out hA.out).mono ?_; rintro e w4 ⟨rfl, hb⟩; refine ⟨_, rfl, ?_⟩; replace HB := Aside0.mk (below_step (zb0 HB) hb); clear hb) | (go_at_call 60; refine (impl_isUnknown.calls _ _ _ hU.out).mono ?_; rintro e w' ⟨rfl, ⟨nd, rfl⟩⟩) | (go_at_call 72; refine (impl_inside.calls _ _ _ _ _ hV.out).mono ?_; rintro e w' ⟨rfl, ⟨nd2, rfl⟩⟩))
        go_ret2
        exact ⟨_, by first | rfl | (simp; done) | (simp [*]; done), Kd.R_nil _ _ _ _ _, (zb1 HB)⟩
      · rw [if_pos rfl] at h
        by_cases q0 : 0 ≤ a1
        · rw [if_pos q0] at h
          by_cases q2 : a1 ≤ 2
          · rw [if_pos q2] at h
            obtain ⟨aa, haa⟩ : ∃ aa, aa = a1 := ⟨_, rfl⟩
            have hk : impl_PutInteger.l0 k l0 a1 a2 [] 0 = impl_PutInteger.l0 k l0 aa a2 [] 0 := by rw [haa]
            rw [hk] at h
            clear hk
            have H' := Aside0.mk h
            clear h
            have hcase : a1 = 0 ∨ a1 = 1 ∨ a1 = 2 := by omega
            clear q0 q2
            rcases hcase with rfl | rfl | rfl
            · go_enter Try.func48, Try.ntmps48
              go_wp2_with (first | ((with_reducible refine gate_callee (f := 55) rfl ?_); refine goesL_ (some 14) rfl rfl Try.func55 (by kernel_rfl) rfl #[.slice A0 l0.length c0] rfl zq6 ?_; refine (impl_isPoly.calls k _ _ l0 _ _ HR0.out HC0.out hA.out).mono ?_; rintro e w4 ⟨rfl, hb⟩; refine ⟨_, rfl, ?_⟩; replace HB := Aside0.mk (below_step (zb0 HB) hb); clear hb) | (go_at_call 60; refine (impl_isUnknown.calls _ _ _ hU.out).mono ?_; rintro e w' ⟨rfl, ⟨nd, rfl⟩⟩) | (go_at_call 72; refine (impl_inside.calls _ _ _ _ _ hV.out).mono ?_; rintro e w' ⟨rfl, ⟨nd2, rfl⟩⟩))
              go_loopg [8, 28] k (fun kq v8 v28 w' => ∃ (x : List S55) (i : Int), v28 = .int .i64 i ∧ Aside0 (impl_PutInteger.l0 kq l0 aa a2 x i = some (r1, r2)) ∧ Aside0 (kq ≤ k) ∧ Aside0 (Kd.R k55 55 w' w.heap.size (fun _ => True) v8 x) ∧ Aside0 (Below w.heap.size w w'))
              case atStart => exact ⟨[], 0, (by first | rfl | (simp; done) | (simp [*]; done)), H', ⟨Nat.le_refl _⟩, ⟨Kd.R_nil _ _ _ _ _⟩, ⟨(zb0 HB)⟩⟩
              case round =>
                clear H' HB
                obtain ⟨x, i, rfl, HA, HK1, HO, HB⟩ := hrel
                cases gk with
                | zero => exact absurd HA.out (by simp [impl_PutInteger.l0])
                | succ k1 =>
                  have H := HA.out
                  clear HA
                  simp only [impl_PutInteger.l0] at H
                  by_cases c : i < (l0.length : Int)
                  · rw [if_pos c] at H
                    by_cases c' : 0 ≤ i
                    · rw [if_pos c'] at H
                      have he : impl_PutInteger.pw (rd_T55 l0 i) aa = (rd_T55 l0 i).f1 := by rw [haa]; simp [impl_PutInteger.pw]
                      rw [he] at H
                      clear he
                      have H' := Aside0.mk H
                      clear H
                      have cb := decide_eq_true c
                      have cb' := decide_eq_true c'
                      obtain ⟨ad, ead, hx0, hx1, hx2, hx3⟩ := at_T55 HR0.out i c' c
                      subst ead
                      replace hx0 := (HB.out.cell (World.block_lt_of_cell? w _ hx0)).trans hx0
                      replace hx1 := (HB.out.cell (World.block_lt_of_cell? w _ hx1)).trans hx1
                      replace hx2 := (HB.out.cell (World.block_lt_of_cell? w _ hx2)).trans hx2
                      replace hx3 := (HB.out.cell (World.block_lt_of_cell? w _ hx3)).trans hx3
                      have p1 := eq_true c
                      have p2 := eq_true c'
                      clear c c'
                      have HC := Aside0.mk (Below.refl wr.heap.size wr)
                      go_wp2_with (first | ((with_reducible refine gate_dst (N := 10) rfl ?_); refine zbe (N := 10) (cs := #[.int .i64 0, .int .i64 0, .int .i64 0, .int .i64 0]) (t := 55) ?_; intro gb10 hg w7 hbox hb; have BK10 := Aside0.mk hbox; have GW10 := Aside0.mk (zge (zb1 HC) hg); replace HC := Aside0.mk (below_step (zb1 HC) hb); clear hb hbox hg; have hcza_0 : w7.cell? ⟨gb10, 0, none⟩ = some (.int .i64 0) := zc BK10 0; have hcza_1 : w7.cell? ⟨gb10, 1, none⟩ = some (.int .i64 0) := zc BK10 1; have hcza_2 : w7.cell? ⟨gb10, 2, none⟩ = some (.int .i64 0) := zc BK10 2; have hcza_3 : w7.cell? ⟨gb10, 3, none⟩ = some (.int .i64 0) := zc BK10 3; have hfza_0 := blk_frozen BK10.out 0; have hfza_1 := blk_frozen BK10.out 1; have hfza_2 := blk_frozen BK10.out 2; have hfza_3 := blk_frozen BK10.out 3) | ((with_reducible refine gate_callee (f := 61) rfl ?_); refine goesL_ (some 33) rfl rfl Try.func61 (by kernel_rfl) rfl #[.agg #[.int .i64 ((rd_T55 l0 i).f0), .int .i64 ((rd_T55 l0 i).f1), .int .i64 ((rd_T55 l0 i).f2), .int .i64 ((rd_T55 l0 i).f3)]] rfl zq6 ?_; refine (impl_PutInteger.exps (rd_T55 l0 i).f0 (rd_T55 l0 i).f1 (rd_T55 l0 i).f2 (rd_T55 l0 i).f3 _).mono ?_; rintro e w9 ⟨rfl, hb⟩; refine ⟨_, rfl, ?_⟩; replace BK10 := Aside0.mk (blk_below (g := gb10) (o := .cells #[.int .i64 ((rd_T55 l0 i).f0), .int .i64 ((rd_T55 l0 i).f1), .int .i64 ((rd_T55 l0 i).f2), .int .i64 ((rd_T55 l0 i).f3)] 55 (0, 0)) (by (with_reducible repeat (first | refine blk_drewN ?_ _ | refine blk_drew ?_ | refine blk_alloc ?_ _)); refine blk_put (cs := #[.int .i64 ((rd_T55 l0 i).f0), .int .i64 ((rd_T55 l0 i).f1), .int .i64 ((rd_T55 l0 i).f2), .int .i64 0]) ?_ 3 _ rfl; (with_reducible repeat (first | refine blk_drewN ?_ _ | refine blk_drew ?_ | refine blk_alloc ?_ _)); refine blk_put (cs := #[.int .i64 ((rd_T55 l0 i).f0), .int .i64 ((rd_T55 l0 i).f1), .int .i64 0, .int .i64 0]) ?_ 2 _ rfl; (with_reducible repeat (first | refine blk_drewN ?_ _ | refine blk_drew ?_ | refine blk_alloc ?_ _)); refine blk_put (cs := #[.int .i64 ((rd_T55 l0 i).f0), .int .i64 0, .int .i64 0, .int .i64 0]) ?_ 1 _ rfl; (with_reducible repeat (first | refine blk_drewN ?_ _ | refine blk_drew ?_ | refine blk_alloc ?_ _)); refine blk_put (cs := #[.int .i64 0, .int .i64 0, .int .i64 0, .int .i64 0]) ?_ 0 _ rfl; (with_reducible repeat (first | refine blk_drewN ?_ _ | refine blk_drew ?_ | refine blk_alloc ?_ _)); exact BK10.out) hb); replace HC := Aside0.mk (below_step (zb1 HC) hb); clear hb) | (go_at_call 61; refine (impl_PutInteger.exps (rd_T55 l0 i).f0 (rd_T55 l0 i).f1 (rd_T55 l0 i).f2 (rd_T55 l0 i).f3 _).mono ?_; rintro e w9 ⟨rfl, hb⟩; replace BK10 := Aside0.mk (blk_below (g := gb10) (o := .cells #[.int .i64 ((rd_T55 l0 i).f0), .int .i64 ((rd_T55 l0 i).f1), .int .i64 ((rd_T55 l0 i).f2), .int .i64 ((rd_T55 l0 i).f3)] 55 (0, 0)) (by (with_reducible repeat (first | refine blk_drewN ?_ _ | refine blk_drew ?_ | refine blk_alloc ?_ _)); refine blk_put (cs := #[.int .i64 ((rd_T55 l0 i).f0), .int .i64 ((rd_T55 l0 i).f1), .int .i64 ((rd_T55 l0 i).f2), .int .i64 0]) ?_ 3 _ rfl; (with_reducible repeat (first | refine blk_drewN ?_ _ | refine blk_drew ?_ | refine blk_alloc ?_ _)); refine blk_put (cs := #[.int .i64 ((rd_T55 l0 i).f0), .int .i64 ((rd_T55 l0 i).f1), .int .i64 0, .int .i64 0]) ?_ 2 _ rfl; (with_reducible repeat (first | refine blk_drewN ?_ _ | refine blk_drew ?_ | refine blk_alloc ?_ _)); refine blk_put (cs := #[.int .i64 ((rd_T55 l0 i).f0), .int .i64 0, .int .i64 0, .int .i64 0]) ?_ 1 _ rfl; (with_reducible repeat (first | refine blk_drewN ?_ _ | refine blk_drew ?_ | refine blk_alloc ?_ _)); refine blk_put (cs := #[.int .i64 0, .int .i64 0, .int .i64 0, .int .i64 0]) ?_ 0 _ rfl; (with_reducible repeat (first | refine blk_drewN ?_ _ | refine blk_drew ?_ | refine blk_alloc ?_ _)); exact BK10.out) hb); replace HC := Aside0.mk (below_step (zb1 HC) hb); clear hb) | ((with_reducible refine gate_dst (N := 11) rfl ?_); refine zbe (N := 11) (cs := #[.int .i64 0, .int .i64 0, .int .i64 0]) (t := 61) ?_; intro gb11 hg w10 hbox hb; have BK11 := Aside0.mk hbox; have GW11 := Aside0.mk (zge (zb1 HC) hg); have NB87 := Aside0.mk (by rw [hg]; exact Nat.ne_of_gt (blk_lt (zq1 BK10)) : gb11 ≠ gb10); have NB78 := Aside0.mk (Ne.symm NB87.out); replace BK10 := Aside0.mk (zbb BK10 hb); replace HC := Aside0.mk (below_step (zb1 HC) hb); clear hb hbox hg; have hnb := NB87.out; have hnc := NB78.out; have hczc_0 : w10.cell? ⟨gb10, 0, none⟩ = some (.int .i64 ((rd_T55 l0 i).f0)) := zc BK10 0; have hczc_1 : w10.cell? ⟨gb10, 1, none⟩ = some (.int .i64 ((rd_T55 l0 i).f1)) := zc BK10 1; have hczc_2 : w10.cell? ⟨gb10, 2, none⟩ = some (.int .i64 ((rd_T55 l0 i).f2)) := zc BK10 2; have hczc_3 : w10.cell? ⟨gb10, 3, none⟩ = some (.int .i64 ((rd_T55 l0 i).f3)) := zc BK10 3; have hfzc_0 := blk_frozen BK10.out 0; have hfzc_1 := blk_frozen BK10.out 1; have hfzc_2 := blk_frozen BK10.out 2; have hfzc_3 := blk_frozen BK10.out 3; have hczd_0 : w10.cell? ⟨gb11, 0, none⟩ = some (.int .i64 0) := zc BK11 0; have hczd_1 : w10.cell? ⟨gb11, 1, none⟩ = some (.int .i64 0) := zc BK11 1; have hczd_2 : w10.cell? ⟨gb11, 2, none⟩ = some (.int .i64 0) := zc BK11 2; have hfzd_0 := blk_frozen BK11.out 0; have hfzd_1 := blk_frozen BK11.out 1; have hfzd_2 := blk_frozen BK11.out 2))
                      go_loopg [12, 39] k1 (fun kq v12 v39 w' => ∃ (c j : Int), v12 = .int .i64 c ∧ v39 = .int .i64 j ∧ Aside0 (impl_PutInteger.l1 kq l0 aa a2 x i c (rd_T55 l0 i).f1 j = some (r1, r2)) ∧ Aside0 (kq ≤ k1) ∧ Aside0 (w'.heap[gb11]? = some (.cells #[.int .i64 ((rd_T55 l0 i).f1), .int .i64 ((rd_T55 l0 i).f2), .int .i64 ((rd_T55 l0 i).f3)] 61 (0, 0))) ∧ Aside0 (Below wr.heap.size wr w'))
                      case atStart => exact ⟨_, 0, (by first | rfl | (simp; done) | (simp [*]; done)), (by first | rfl | (simp; done) | (simp [*]; done)), H', ⟨Nat.le_refl _⟩, ⟨by (with_reducible repeat (first | refine blk_drewN ?_ _ | refine blk_drew ?_ | refine blk_alloc ?_ _)); refine blk_put (cs := #[.int .i64 ((rd_T55 l0 i).f1), .int .i64 ((rd_T55 l0 i).f2), .int .i64 0]) ?_ 2 _ rfl; (with_reducible repeat (first | refine blk_drewN ?_ _ | refine blk_drew ?_ | refine blk_alloc ?_ _)); refine blk_put (cs := #[.int .i64 ((rd_T55 l0 i).f1), .int .i64 0, .int .i64 0]) ?_ 1 _ rfl; (with_reducible repeat (first | refine blk_drewN ?_ _ | refine blk_drew ?_ | refine blk_alloc ?_ _)); refine blk_put (cs := #[.int .i64 0, .int .i64 0, .int .i64 0]) ?_ 0 _ rfl; (with_reducible repeat (first | refine blk_drewN ?_ _ | refine blk_drew ?_ | refine blk_alloc ?_ _)); exact BK11.out⟩, ⟨(zb1 HC)⟩⟩
                      case round =>
                        clear H' HC BK10 BK11 hx0 hx1 hx2 hx3 cb cb' p1 p2
                        (try clear hnb hnc)
                        obtain ⟨c, j, rfl, rfl, HA, HK2, BK11, HC⟩ := hrel
                        cases gk with
                        | zero => exact absurd HA.out (by simp [impl_PutInteger.l1])
                        | succ k2 =>
                          have H := HA.out
                          clear HA
                          simp only [impl_PutInteger.l1] at H
                          by_cases c5 : j < (rd_T55 l0 i).f1
                          · rw [if_pos c5] at H
                            have cb := decide_eq_true c5
                            clear c5
                            have H' := Aside0.mk H
                            clear H
                            go_wp2
                            go_roundg k2
                            case measure => have := HK2.out; omega
                            case rel => exact ⟨_, _, (by first | rfl | (simp; done) | (simp [*]; done)), (by first | rfl | (simp; done) | (simp [*]; done)), H', ⟨by have := HK2.out; omega⟩, ⟨zq1 BK11⟩, ⟨(zb1 HC)⟩⟩
                          · rw [if_neg c5] at H
                            have cb := decide_eq_false c5
                            clear c5
                            by_cases c9 : x.length < 4398046511104
                            · rw [if_pos c9] at H
                              have LM := Aside0.mk c9
                              clear c9
                              have ht : impl_PutInteger.tm (rd_T55 l0 i) aa c = (⟨c, 0, (rd_T55 l0 i).f2, (rd_T55 l0 i).f3⟩ : S55) := by rw [haa]; simp [impl_PutInteger.tm]
                              rw [ht] at H
                              clear ht
                              obtain ⟨y, hy⟩ : ∃ y_ : List S55, y_ = x ++ [(⟨c, 0, (rd_T55 l0 i).f2, (rd_T55 l0 i).f3⟩ : S55)] := ⟨_, rfl⟩
                              rw [← hy] at H
                              have Ny := Aside0.mk hy
                              clear hy
                              have H' := Aside0.mk H
                              clear H
                              have hcze_0 : wr.cell? ⟨gb11, 0, none⟩ = some (.int .i64 ((rd_T55 l0 i).f1)) := zc BK11 0; have hcze_1 : wr.cell? ⟨gb11, 1, none⟩ = some (.int .i64 ((rd_T55 l0 i).f2)) := zc BK11 1; have hcze_2 : wr.cell? ⟨gb11, 2, none⟩ = some (.int .i64 ((rd_T55 l0 i).f3)) := zc BK11 2; have hfze_0 := blk_frozen BK11.out 0; have hfze_1 := blk_frozen BK11.out 1; have hfze_2 := blk_frozen BK11.out 2
                              go_wp2_with (first | ((with_reducible refine gate_callee (f := 83) rfl ?_); refine goesL_ (some 50) rfl rfl Try.func83 (by kernel_rfl) rfl #[.int .i64 c, .agg #[.int .i64 0, .int .i64 ((rd_T55 l0 i).f2), .int .i64 ((rd_T55 l0 i).f3)]] rfl zq6 ?_; refine (impl_PutInteger.termOf c 0 (rd_T55 l0 i).f2 (rd_T55 l0 i).f3 _).mono ?_; rintro e w11 ⟨rfl, hb⟩; refine ⟨_, rfl, ?_⟩; replace HC := Aside0.mk (below_step (zb1 HC) hb); clear hb) | (go_at_call 83; refine (impl_PutInteger.termOf c 0 (rd_T55 l0 i).f2 (rd_T55 l0 i).f3 _).mono ?_; rintro e w11 ⟨rfl, hb⟩; replace HC := Aside0.mk (below_step (zb1 HC) hb); clear hb) | ((with_reducible refine gate_builtin (b := .append) (xs := #[.tmp 47, .tmp 51]) rfl ?_); at_builtin; refine Kd.R_append k55 (w0 := w) w.heap.size rfl (.tmp 47) (.tmp 51) 25 55 (.agg #[(.int .i64 0), (.int .i64 0), (.int .i64 0), (.int .i64 0)]) 32 rfl Try.underlying25 info55 rfl (by decide) (by omega) _ x (⟨c, 0, (rd_T55 l0 i).f2, (rd_T55 l0 i).f3⟩ : S55) [.int .i64 c, .int .i64 0, .int .i64 ((rd_T55 l0 i).f2), .int .i64 ((rd_T55 l0 i).f3)] (fun _ => True) (fun _ => False) rfl (by first | (go_simp; done) | (go_simp; rfl)) ?aP (fun _ hk => hk.elim) ?aF ?aO ?aB ?aS ?aL ?_; (case aP => exact k55_mkM _ _ _ (⟨c, 0, (rd_T55 l0 i).f2, (rd_T55 l0 i).f3⟩ : S55)); (case aB => exact (below_step HB.out (zb1 HC))); (case aF => exact (fun _ _ => trivial)); (case aO => exact (Kd.R_below HO.out (zb1 HC))); (case aS => exact (below_size (below_step HB.out (zb1 HC)))); (case aL => have := LM.out; omega); intro v36 w12 ho hb hg hat; rw [← Ny.out] at ho; have HO2 := Aside0.mk ho; have HB2 := Aside0.mk hb; clear ho hb hg hat))
                              go_roundg k2
                              case measure => have := HK1.out; have := HK2.out; omega
                              case rel => exact ⟨y, (wrap64 (i + 1)), (by first | rfl | (simp; done) | (simp [*]; done)), H', ⟨by have := HK1.out; have := HK2.out; omega⟩, ⟨zq3 HO2⟩, ⟨(zb1 HB2)⟩⟩
                            · rw [if_neg c9] at H; cases H
                    · rw [if_neg c'] at H; cases H
                  · rw [if_neg c] at H
                    have cb := decide_eq_false c
                    clear c
                    obtain ⟨t, hc0, hp0⟩ := Option.bind_eq_some_iff.mp H
                    clear H
                    have A6 := Aside0.mk hc0
                    have A7 := Aside0.mk hp0
                    clear hc0 hp0
                    obtain ⟨Ao, co, eo⟩ := Kd.R_slice HO.out
                    subst eo
                    go_wp2_with (first | ((with_reducible refine gate_callee (f := 75) rfl ?_); refine goesL_ (some 55) rfl rfl Try.func75 (by kernel_rfl) rfl #[.slice Ao x.length co] rfl zq6 ?_; (with_reducible refine (impl_collect.calls _ _ x t _ (Kd.R_reads' HO.out).2.2 (Kd.R_reads' HO.out).2.1 A6.out).mono ?_); rintro e w6 ⟨v6, rfl, ho, hb⟩; refine ⟨_, rfl, ?_⟩; have HO6 := Aside0.mk (Kd.R_lower ho (below_size (zb0 HB))); replace HB := Aside0.mk (below_step (zb0 HB) hb); clear ho hb; obtain ⟨Aq, cq, eq6⟩ := Kd.R_slice HO6.out; subst eq6) | (go_at_call 75; (with_reducible refine (impl_collect.calls _ _ x t _ (Kd.R_reads' HO.out).2.2 (Kd.R_reads' HO.out).2.1 A6.out).mono ?_); rintro e w6 ⟨v6, rfl, ho, hb⟩; have HO6 := Aside0.mk (Kd.R_lower ho (below_size (zb0 HB))); replace HB := Aside0.mk (below_step (zb0 HB) hb); clear ho hb; obtain ⟨Aq, cq, eq6⟩ := Kd.R_slice HO6.out; subst eq6) | ((with_reducible refine gate_callee (f := 74) rfl ?_); refine goesL_ (some 56) rfl rfl Try.func74 (by kernel_rfl) rfl #[.slice Aq t.length cq] rfl zq6 ?_; (with_reducible refine (impl_polyResult.calls k1 (fun k_ => some k_ = (.slice Aq t.length cq : Value).ownBlock) (.slice Aq t.length cq) t r1 r2 w _ (zb0 HB) (Kd.R_tight rfl HO6.out) A7.out).mono ?_); rintro e w7 ⟨v7, rfl, ho, hb, hkp⟩; refine ⟨_, rfl, ?_⟩; have HO7 := Aside0.mk (Kd.R_mono (ok' := fun k_ => True) ho (fun k_ hk_ => trivial)); clear HB; have HB := Aside0.mk hb; clear ho hb hkp) | (go_at_call 74; (with_reducible refine (impl_polyResult.calls k1 (fun k_ => some k_ = (.slice Aq t.length cq : Value).ownBlock) (.slice Aq t.length cq) t r1 r2 w _ (zb0 HB) (Kd.R_tight rfl HO6.out) A7.out).mono ?_); rintro e w7 ⟨v7, rfl, ho, hb, hkp⟩; have HO7 := Aside0.mk (Kd.R_mono (ok' := fun k_ => True) ho (fun k_ hk_ => trivial)); clear HB; have HB := Aside0.mk hb; clear ho hb hkp))
                    go_ret2
                    exact ⟨_, by first | rfl | (simp; done) | (simp [*]; done), zq3 HO7, (zb0 HB)⟩
            · go_enter Try.func48, Try.ntmps48
              go_wp2_with (first | ((with_reducible refine gate_callee (f := 55) rfl ?_); refine goesL_ (some 14) rfl rfl Try.func55 (by kernel_rfl) rfl #[.slice A0 l0.length c0] rfl zq6 ?_; refine (impl_isPoly.calls k _ _ l0 _ _ HR0.out HC0.out hA.out).mono ?_; rintro e w4 ⟨rfl, hb⟩; refine ⟨_, rfl, ?_⟩; replace HB := Aside0.mk (below_step (zb0 HB) hb); clear hb) | (go_at_call 60; refine (impl_isUnknown.calls _ _ _ hU.out).mono ?_; rintro e w' ⟨rfl, ⟨nd, rfl⟩⟩) | (go_at_call 72; refine (impl_inside.calls _ _ _ _ _ hV.out).mono ?_; rintro e w' ⟨rfl, ⟨nd2, rfl⟩⟩))
              go_loopg [8, 28] k (fun kq v8 v28 w' => ∃ (x : List S55) (i : Int), v28 = .int .i64 i ∧ Aside0 (impl_PutInteger.l0 kq l0 aa a2 x i = some (r1, r2)) ∧ Aside0 (kq ≤ k) ∧ Aside0 (Kd.R k55 55 w' w.heap.size (fun _ => True) v8 x) ∧ Aside0 (Below w.heap.size w w'))
              case atStart => exact ⟨[], 0, (by first | rfl | (simp; done) | (simp [*]; done)), H', ⟨Nat.le_refl _⟩, ⟨Kd.R_nil _ _ _ _ _⟩, ⟨(zb0 HB)⟩⟩
              case round =>
                clear H' HB
                obtain ⟨x, i, rfl, HA, HK1, HO, HB⟩ := hrel
                cases gk with
                | zero => exact absurd HA.out (by simp [impl_PutInteger.l0])
                | succ k1 =>
                  have H := HA.out
                  clear HA
                  simp only [impl_PutInteger.l0] at H
                  by_cases c : i < (l0.length : Int)
                  · rw [if_pos c] at H
                    by_cases c' : 0 ≤ i
                    · rw [if_pos c'] at H
                      have he : impl_PutInteger.pw (rd_T55 l0 i) aa = (rd_T55 l0 i).f2 := by rw [haa]; simp [impl_PutInteger.pw]
                      rw [he] at H
                      clear he
                      have H' := Aside0.mk H
                      clear H
                      have cb := decide_eq_true c
                      have cb' := decide_eq_true c'
                      obtain ⟨ad, ead, hx0, hx1, hx2, hx3⟩ := at_T55 HR0.out i c' c
                      subst ead
                      replace hx0 := (HB.out.cell (World.block_lt_of_cell? w _ hx0)).trans hx0
                      replace hx1 := (HB.out.cell (World.block_lt_of_cell? w _ hx1)).trans hx1
                      replace hx2 := (HB.out.cell (World.block_lt_of_cell? w _ hx2)).trans hx2
                      replace hx3 := (HB.out.cell (World.block_lt_of_cell? w _ hx3)).trans hx3
                      have p1 := eq_true c
                      have p2 := eq_true c'
                      clear c c'
                      have HC := Aside0.mk (Below.refl wr.heap.size wr)
                      go_wp2_with (first | ((with_reducible refine gate_dst (N := 10) rfl ?_); refine zbe (N := 10) (cs := #[.int .i64 0, .int .i64 0, .int .i64 0, .int .i64 0]) (t := 55) ?_; intro gb10 hg w7 hbox hb; have BK10 := Aside0.mk hbox; have GW10 := Aside0.mk (zge (zb1 HC) hg); replace HC := Aside0.mk (below_step (zb1 HC) hb); clear hb hbox hg; have hcza_0 : w7.cell? ⟨gb10, 0, none⟩ = some (.int .i64 0) := zc BK10 0; have hcza_1 : w7.cell? ⟨gb10, 1, none⟩ = some (.int .i64 0) := zc BK10 1; have hcza_2 : w7.cell? ⟨gb10, 2, none⟩ = some (.int .i64 0) := zc BK10 2; have hcza_3 : w7.cell? ⟨gb10, 3, none⟩ = some (.int .i64 0) := zc BK10 3; have hfza_0 := blk_frozen BK10.out 0; have hfza_1 := blk_frozen BK10.out 1; have hfza_2 := blk_frozen BK10.out 2; have hfza_3 := blk_frozen BK10.out 3) | ((with_reducible refine gate_callee (f := 61) rfl ?_); refine goesL_ (some 33) rfl rfl Try.func61 (by kernel_rfl) rfl #[.agg #[.int .i64 ((rd_T55 l0 i).f0), .int .i64 ((rd_T55 l0 i).f1), .int .i64 ((rd_T55 l0 i).f2), .int .i64 ((rd_T55 l0 i).f3)]] rfl zq6 ?_; refine (impl_PutInteger.exps (rd_T55 l0 i).f0 (rd_T55 l0 i).f1 (rd_T55 l0 i).f2 (rd_T55 l0 i).f3 _).mono ?_; rintro e w9 ⟨rfl, hb⟩; refine ⟨_, rfl, ?_⟩; replace BK10 := Aside0.mk (blk_below (g := gb10) (o := .cells #[.int .i64 ((rd_T55 l0 i).f0), .int .i64 ((rd_T55 l0 i).f1), .int .i64 ((rd_T55 l0 i).f2), .int .i64 ((rd_T55 l0 i).f3)] 55 (0, 0)) (by (with_reducible repeat (first | refine blk_drewN ?_ _ | refine blk_drew ?_ | refine blk_alloc ?_ _)); refine blk_put (cs := #[.int .i64 ((rd_T55 l0 i).f0), .int .i64 ((rd_T55 l0 i).f1), .int .i64 ((rd_T55 l0 i).f2), .int .i64 0]) ?_ 3 _ rfl; (with_reducible repeat (first | refine blk_drewN ?_ _ | refine blk_drew ?_ | refine blk_alloc ?_ _)); refine blk_put (cs := #[.int .i64 ((rd_T55 l0 i).f0), .int .i64 ((rd_T55 l0 i).f1), .int .i64 0, .int .i64 0]) ?_ 2 _ rfl; (with_reducible repeat (first | refine blk_drewN ?_ _ | refine blk_drew ?_ | refine blk_alloc ?_ _)); refine blk_put (cs := #[.int .i64 ((rd_T55 l0 i).f0), .int .i64 0, .int .i64 0, .int .i64 0]) ?_ 1 _ rfl; (with_reducible repeat (first | refine blk_drewN ?_ _ | refine blk_drew ?_ | refine blk_alloc ?_ _)); refine blk_put (cs := #[.int .i64 0, .int .i64 0, .int .i64 0, .int .i64 0]) ?_ 0 _ rfl; (with_reducible repeat (first | refine blk_drewN ?_ _ | refine blk_drew ?_ | refine blk_alloc ?_ _)); exact BK10.out) hb); replace HC := Aside0.mk (below_step (zb1 HC) hb); clear hb) | (go_at_call 61; refine (impl_PutInteger.exps (rd_T55 l0 i).f0 (rd_T55 l0 i).f1 (rd_T55 l0 i).f2 (rd_T55 l0 i).f3 _).mono ?_; rintro e w9 ⟨rfl, hb⟩; replace BK10 := Aside0.mk (blk_below (g := gb10) (o := .cells #[.int .i64 ((rd_T55 l0 i).f0), .int .i64 ((rd_T55 l0 i).f1), .int .i64 ((rd_T55 l0 i).f2), .int .i64 ((rd_T55 l0 i).f3)] 55 (0, 0)) (by (with_reducible repeat (first | refine blk_drewN ?_ _ | refine blk_drew ?_ | refine blk_alloc ?_ _)); refine blk_put (cs := #[.int .i64 ((rd_T55 l0 i).f0), .int .i64 ((rd_T55 l0 i).f1), .int .i64 ((rd_T55 l0 i).f2), .int .i64 0]) ?_ 3 _ rfl; (with_reducible repeat (first | refine blk_drewN ?_ _ | refine blk_drew ?_ | refine blk_alloc ?_ _)); refine blk_put (cs := #[.int .i64 ((rd_T55 l0 i).f0), .int .i64 ((rd_T55 l0 i).f1), .int .i64 0, .int .i64 0]) ?_ 2 _ rfl; (with_reducible repeat (first | refine blk_drewN ?_ _ | refine blk_drew ?_ | refine blk_alloc ?_ _)); refine blk_put (cs := #[.int .i64 ((rd_T55 l0 i).f0), .int .i64 0, .int .i64 0, .int .i64 0]) ?_ 1 _ rfl; (with_reducible repeat (first | refine blk_drewN ?_ _ | refine blk_drew ?_ | refine blk_alloc ?_ _)); refine blk_put (cs := #[.int .i64 0, .int .i64 0, .int .i64 0, .int .i64 0]) ?_ 0 _ rfl; (with_reducible repeat (first | refine blk_drewN ?_ _ | refine blk_drew ?_ | refine blk_alloc ?_ _)); exact BK10.out) hb); replace HC := Aside0.mk (below_step (zb1 HC) hb); clear hb) | ((with_reducible refine gate_dst (N := 11) rfl ?_); refine zbe (N := 11) (cs := #[.int .i64 0, .int .i64 0, .int .i64 0]) (t := 61) ?_; intro gb11 hg w10 hbox hb; have BK11 := Aside0.mk hbox; have GW11 := Aside0.mk (zge (zb1 HC) hg); have NB87 := Aside0.mk (by rw [hg]; exact Nat.ne_of_gt (blk_lt (zq1 BK10)) : gb11 ≠ gb10); have NB78 := Aside0.mk (Ne.symm NB87.out); replace BK10 := Aside0.mk (zbb BK10 hb); replace HC := Aside0.mk (below_step (zb1 HC) hb); clear hb hbox hg; have hnb := NB87.out; have hnc := NB78.out; have hczc_0 : w10.cell? ⟨gb10, 0, none⟩ = some (.int .i64 ((rd_T55 l0 i).f0)) := zc BK10 0; have hczc_1 : w10.cell? ⟨gb10, 1, none⟩ = some (.int .i64 ((rd_T55 l0 i).f1)) := zc BK10 1; have hczc_2 : w10.cell? ⟨gb10, 2, none⟩ = some (.int .i64 ((rd_T55 l0 i).f2)) := zc BK10 2; have hczc_3 : w10.cell? ⟨gb10, 3, none⟩ = some (.int .i64 ((rd_T55 l0 i).f3)) := zc BK10 3; have hfzc_0 := blk_frozen BK10.out 0; have hfzc_1 := blk_frozen BK10.out 1; have hfzc_2 := blk_frozen BK10.out 2; have hfzc_3 := blk_frozen BK10.out 3; have hczd_0 : w10.cell? ⟨gb11, 0, none⟩ = some (.int .i64 0) := zc BK11 0; have hczd_1 : w10.cell? ⟨gb11, 1, none⟩ = some (.int .i64 0) := zc BK11 1; have hczd_2 : w10.cell? ⟨gb11, 2, none⟩ = some (.int .i64 0) := zc BK11 2; have hfzd_0 := blk_frozen BK11.out 0; have hfzd_1 := blk_frozen BK11.out 1; have hfzd_2 := blk_frozen BK11.out 2))
                      go_loopg [12, 39] k1 (fun kq v12 v39 w' => ∃ (c j : Int), v12 = .int .i64 c ∧ v39 = .int .i64 j ∧ Aside0 (impl_PutInteger.l1 kq l0 aa a2 x i c (rd_T55 l0 i).f2 j = some (r1, r2)) ∧ Aside0 (kq ≤ k1) ∧ Aside0 (w'.heap[gb11]? = some (.cells #[.int .i64 ((rd_T55 l0 i).f1), .int .i64 ((rd_T55 l0 i).f2), .int .i64 ((rd_T55 l0 i).f3)] 61 (0, 0))) ∧ Aside0 (Below wr.heap.size wr w'))
                      case atStart => exact ⟨_, 0, (by first | rfl | (simp; done) | (simp [*]; done)), (by first | rfl | (simp; done) | (simp [*]; done)), H', ⟨Nat.le_refl _⟩, ⟨by (with_reducible repeat (first | refine blk_drewN ?_ _ | refine blk_drew ?_ | refine blk_alloc ?_ _)); refine blk_put (cs := #[.int .i64 ((rd_T55 l0 i).f1), .int .i64 ((rd_T55 l0 i).f2), .int .i64 0]) ?_ 2 _ rfl; (with_reducible repeat (first | refine blk_drewN ?_ _ | refine blk_drew ?_ | refine blk_alloc ?_ _)); refine blk_put (cs := #[.int .i64 ((rd_T55 l0 i).f1), .int .i64 0, .int .i64 0]) ?_ 1 _ rfl; (with_reducible repeat (first | refine blk_drewN ?_ _ | refine blk_drew ?_ | refine blk_alloc ?_ _)); refine blk_put (cs := #[.int .i64 0, .int .i64 0, .int .i64 0]) ?_ 0 _ rfl; (with_reducible repeat (first | refine blk_drewN ?_ _ | refine blk_drew ?_ | refine blk_alloc ?_ _)); exact BK11.out⟩, ⟨(zb1 HC)⟩⟩
                      case round =>
                        clear H' HC BK10 BK11 hx0 hx1 hx2 hx3 cb cb' p1 p2
                        (try clear hnb hnc)
                        obtain ⟨c, j, rfl, rfl, HA, HK2, BK11, HC⟩ := hrel
                        cases gk with
                        | zero => exact absurd HA.out (by simp [impl_PutInteger.l1])
                        | succ k2 =>
                          have H := HA.out
                          clear HA
                          simp only [impl_PutInteger.l1] at H
                          by_cases c5 : j < (rd_T55 l0 i).f2
                          · rw [if_pos c5] at H
                            have cb := decide_eq_true c5
                            clear c5
                            have H' := Aside0.mk H
                            clear H
                            go_wp2
                            go_roundg k2
                            case measure => have := HK2.out; omega
                            case rel => exact ⟨_, _, (by first | rfl | (simp; done) | (simp [*]; done)), (by first | rfl | (simp; done) | (simp [*]; done)), H', ⟨by have := HK2.out; omega⟩, ⟨zq1 BK11⟩, ⟨(zb1 HC)⟩⟩
                          · rw [if_neg c5] at H
                            have cb := decide_eq_false c5
                            clear c5
                            by_cases c9 : x.length < 4398046511104
                            · rw [if_pos c9] at H
                              have LM := Aside0.mk c9
                              clear c9
                              have ht : impl_PutInteger.tm (rd_T55 l0 i) aa c = (⟨c, (rd_T55 l0 i).f1, 0, (rd_T55 l0 i).f3⟩ : S55) := by rw [haa]; simp [impl_PutInteger.tm]
                              rw [ht] at H
                              clear ht
                              obtain ⟨y, hy⟩ : ∃ y_ : List S55, y_ = x ++ [(⟨c, (rd_T55 l0 i).f1, 0, (rd_T55 l0 i).f3⟩ : S55)] := ⟨_, rfl⟩
                              rw [← hy] at H
                              have Ny := Aside0.mk hy
                              clear hy
                              have H' := Aside0.mk H
                              clear H
                              have hcze_0 : wr.cell? ⟨gb11, 0, none⟩ = some (.int .i64 ((rd_T55 l0 i).f1)) := zc BK11 0; have hcze_1 : wr.cell? ⟨gb11, 1, none⟩ = some (.int .i64 ((rd_T55 l0 i).f2)) := zc BK11 1; have hcze_2 : wr.cell? ⟨gb11, 2, none⟩ = some (.int .i64 ((rd_T55 l0 i).f3)) := zc BK11 2; have hfze_0 := blk_frozen BK11.out 0; have hfze_1 := blk_frozen BK11.out 1; have hfze_2 := blk_frozen BK11.out 2
                              go_wp2_with (first | ((with_reducible refine gate_callee (f := 83) rfl ?_); refine goesL_ (some 50) rfl rfl Try.func83 (by kernel_rfl) rfl #[.int .i64 c, .agg #[.int .i64 ((rd_T55 l0 i).f1), .int .i64 0, .int .i64 ((rd_T55 l0 i).f3)]] rfl zq6 ?_; refine (impl_PutInteger.termOf c (rd_T55 l0 i).f1 0 (rd_T55 l0 i).f3 _).mono ?_; rintro e w11 ⟨rfl, hb⟩; refine ⟨_, rfl, ?_⟩; replace HC := Aside0.mk (below_step (zb1 HC) hb); clear hb) | (go_at_call 83; refine (impl_PutInteger.termOf c (rd_T55 l0 i).f1 0 (rd_T55 l0 i).f3 _).mono ?_; rintro e w11 ⟨rfl, hb⟩; replace HC := Aside0.mk (below_step (zb1 HC) hb); clear hb) | ((with_reducible refine gate_builtin (b := .append) (xs := #[.tmp 47, .tmp 51]) rfl ?_); at_builtin; refine Kd.R_append k55 (w0 := w) w.heap.size rfl (.tmp 47) (.tmp 51) 25 55 (.agg #[(.int .i64 0), (.int .i64 0), (.int .i64 0), (.int .i64 0)]) 32 rfl Try.underlying25 info55 rfl (by decide) (by omega) _ x (⟨c, (rd_T55 l0 i).f1, 0, (rd_T55 l0 i).f3⟩ : S55) [.int .i64 c, .int .i64 ((rd_T55 l0 i).f1), .int .i64 0, .int .i64 ((rd_T55 l0 i).f3)] (fun _ => True) (fun _ => False) rfl (by first | (go_simp; done) | (go_simp; rfl)) ?aP (fun _ hk => hk.elim) ?aF ?aO ?aB ?aS ?aL ?_; (case aP => exact k55_mkM _ _ _ (⟨c, (rd_T55 l0 i).f1, 0, (rd_T55 l0 i).f3⟩ : S55)); (case aB => exact (below_step HB.out (zb1 HC))); (case aF => exact (fun _ _ => trivial)); (case aO => exact (Kd.R_below HO.out (zb1 HC))); (case aS => exact (below_size (below_step HB.out (zb1 HC)))); (case aL => have := LM.out; omega); intro v36 w12 ho hb hg hat; rw [← Ny.out] at ho; have HO2 := Aside0.mk ho; have HB2 := Aside0.mk hb; clear ho hb hg hat))
                              go_roundg k2
                              case measure => have := HK1.out; have := HK2.out; omega
                              case rel => exact ⟨y, (wrap64 (i + 1)), (by first | rfl | (simp; done) | (simp [*]; done)), H', ⟨by have := HK1.out; have := HK2.out; omega⟩, ⟨zq3 HO2⟩, ⟨(zb1 HB2)⟩⟩
                            · rw [if_neg c9] at H; cases H
                    · rw [if_neg c'] at H; cases H
                  · rw [if_neg c] at H
                    have cb := decide_eq_false c
                    clear c
                    obtain ⟨t, hc0, hp0⟩ := Option.bind_eq_some_iff.mp H
                    clear H
                    have A6 := Aside0.mk hc0
                    have A7 := Aside0.mk hp0
                    clear hc0 hp0
                    obtain ⟨Ao, co, eo⟩ := Kd.R_slice HO.out
                    subst eo
                    go_wp2_with (first | ((with_reducible refine gate_callee (f := 75) rfl ?_); refine goesL_ (some 55) rfl rfl Try.func75 (by kernel_rfl) rfl #[.slice Ao x.length co] rfl zq6 ?_; (with_reducible refine (impl_collect.calls _ _ x t _ (Kd.R_reads' HO.out).2.2 (Kd.R_reads' HO.out).2.1 A6.out).mono ?_); rintro e w6 ⟨v6, rfl, ho, hb⟩; refine ⟨_, rfl, ?_⟩; have HO6 := Aside0.mk (Kd.R_lower ho (below_size (zb0 HB))); replace HB := Aside0.mk (below_step (zb0 HB) hb); clear ho hb; obtain ⟨Aq, cq, eq6⟩ := Kd.R_slice HO6.out; subst eq6) | (go_at_call 75; (with_reducible refine (impl_collect.calls _ _ x t _ (Kd.R_reads' HO.out).2.2 (Kd.R_reads' HO.out).2.1 A6.out).mono ?_); rintro e w6 ⟨v6, rfl, ho, hb⟩; have HO6 := Aside0.mk (Kd.R_lower ho (below_size (zb0 HB))); replace HB := Aside0.mk (below_step (zb0 HB) hb); clear ho hb; obtain ⟨Aq, cq, eq6⟩ := Kd.R_slice HO6.out; subst eq6) | ((with_reducible refine gate_callee (f := 74) rfl ?_); refine goesL_ (some 56) rfl rfl Try.func74 (by kernel_rfl) rfl #[.slice Aq t.length cq] rfl zq6 ?_; (with_reducible refine (impl_polyResult.calls k1 (fun k_ => some k_ = (.slice Aq t.length cq : Value).ownBlock) (.slice Aq t.length cq) t r1 r2 w _ (zb0 HB) (Kd.R_tight rfl HO6.out) A7.out).mono ?_); rintro e w7 ⟨v7, rfl, ho, hb, hkp⟩; refine ⟨_, rfl, ?_⟩; have HO7 := Aside0.mk (Kd.R_mono (ok' := fun k_ => True) ho (fun k_ hk_ => trivial)); clear HB; have HB := Aside0.mk hb; clear ho hb hkp) | (go_at_call 74; (with_reducible refine (impl_polyResult.calls k1 (fun k_ => some k_ = (.slice Aq t.length cq : Value).ownBlock) (.slice Aq t.length cq) t r1 r2 w _ (zb0 HB) (Kd.R_tight rfl HO6.out) A7.out).mono ?_); rintro e w7 ⟨v7, rfl, ho, hb, hkp⟩; have HO7 := Aside0.mk (Kd.R_mono (ok' := fun k_ => True) ho (fun k_ hk_ => trivial)); clear HB; have HB := Aside0.mk hb; clear ho hb hkp))
                    go_ret2
                    exact ⟨_, by first | rfl | (simp; done) | (simp [*]; done), zq3 HO7, (zb0 HB)⟩
            · go_enter Try.func48, Try.ntmps48
              go_wp2_with (first | ((with_reducible refine gate_callee (f := 55) rfl ?_); refine goesL_ (some 14) rfl rfl Try.func55 (by kernel_rfl) rfl #[.slice A0 l0.length c0] rfl zq6 ?_; refine (impl_isPoly.calls k _ _ l0 _ _ HR0.out HC0.out hA.out).mono ?_; rintro e w4 ⟨rfl, hb⟩; refine ⟨_, rfl, ?_⟩; replace HB := Aside0.mk (below_step (zb0 HB) hb); clear hb) | (go_at_call 60; refine (impl_isUnknown.calls _ _ _ hU.out).mono ?_; rintro e w' ⟨rfl, ⟨nd, rfl⟩⟩) | (go_at_call 72; refine (impl_inside.calls _ _ _ _ _ hV.out).mono ?_; rintro e w' ⟨rfl, ⟨nd2, rfl⟩⟩))
              go_loopg [8, 28] k (fun kq v8 v28 w' => ∃ (x : List S55) (i : Int), v28 = .int .i64 i ∧ Aside0 (impl_PutInteger.l0 kq l0 aa a2 x i = some (r1, r2)) ∧ Aside0 (kq ≤ k) ∧ Aside0 (Kd.R k55 55 w' w.heap.size (fun _ => True) v8 x) ∧ Aside0 (Below w.heap.size w w'))
              case atStart => exact ⟨[], 0, (by first | rfl | (simp; done) | (simp [*]; done)), H', ⟨Nat.le_refl _⟩, ⟨Kd.R_nil _ _ _ _ _⟩, ⟨(zb0 HB)⟩⟩
              case round =>
                clear H' HB
                obtain ⟨x, i, rfl, HA, HK1, HO, HB⟩ := hrel
                cases gk with
                | zero => exact absurd HA.out (by simp [impl_PutInteger.l0])
                | succ k1 =>
                  have H := HA.out
                  clear HA
                  simp only [impl_PutInteger.l0] at H
                  by_cases c : i < (l0.length : Int)
                  · rw [if_pos c] at H
                    by_cases c' : 0 ≤ i
                    · rw [if_pos c'] at H
                      have he : impl_PutInteger.pw (rd_T55 l0 i) aa = (rd_T55 l0 i).f3 := by rw [haa]; simp [impl_PutInteger.pw]
                      rw [he] at H
                      clear he
                      have H' := Aside0.mk H
                      clear H
                      have cb := decide_eq_true c
                      have cb' := decide_eq_true c'
                      obtain ⟨ad, ead, hx0, hx1, hx2, hx3⟩ := at_T55 HR0.out i c' c
                      subst ead
                      replace hx0 := (HB.out.cell (World.block_lt_of_cell? w _ hx0)).trans hx0
                      replace hx1 := (HB.out.cell (World.block_lt_of_cell? w _ hx1)).trans hx1
                      replace hx2 := (HB.out.cell (World.block_lt_of_cell? w _ hx2)).trans hx2
                      replace hx3 := (HB.out.cell (World.block_lt_of_cell? w _ hx3)).trans hx3
                      have p1 := eq_true c
                      have p2 := eq_true c'
                      clear c c'
                      have HC := Aside0.mk (Below.refl wr.heap.size wr)
                      go_wp2_with (first | ((with_reducible refine gate_dst (N := 10) rfl ?_); refine zbe (N := 10) (cs := #[.int .i64 0, .int .i64 0, .int .i64 0, .int .i64 0]) (t := 55) ?_; intro gb10 hg w7 hbox hb; have BK10 := Aside0.mk hbox; have GW10 := Aside0.mk (zge (zb1 HC) hg); replace HC := Aside0.mk (below_step (zb1 HC) hb); clear hb hbox hg; have hcza_0 : w7.cell? ⟨gb10, 0, none⟩ = some (.int .i64 0) := zc BK10 0; have hcza_1 : w7.cell? ⟨gb10, 1, none⟩ = some (.int .i64 0) := zc BK10 1; have hcza_2 : w7.cell? ⟨gb10, 2, none⟩ = some (.int .i64 0) := zc BK10 2; have hcza_3 : w7.cell? ⟨gb10, 3, none⟩ = some (.int .i64 0) := zc BK10 3; have hfza_0 := blk_frozen BK10.out 0; have hfza_1 := blk_frozen BK10.out 1; have hfza_2 := blk_frozen BK10.out 2; have hfza_3 := blk_frozen BK10.out 3) | ((with_reducible refine gate_callee (f := 61) rfl ?_); refine goesL_ (some 33) rfl rfl Try.func61 (by kernel_rfl) rfl #[.agg #[.int .i64 ((rd_T55 l0 i).f0), .int .i64 ((rd_T55 l0 i).f1), .int .i64 ((rd_T55 l0 i).f2), .int .i64 ((rd_T55 l0 i).f3)]] rfl zq6 ?_; refine (impl_PutInteger.exps (rd_T55 l0 i).f0 (rd_T55 l0 i).f1 (rd_T55 l0 i).f2 (rd_T55 l0 i).f3 _).mono ?_; rintro e w9 ⟨rfl, hb⟩; refine ⟨_, rfl, ?_⟩; replace BK10 := Aside0.mk (blk_below (g := gb10) (o := .cells #[.int .i64 ((rd_T55 l0 i).f0), .int .i64 ((rd_T55 l0 i).f1), .int .i64 ((rd_T55 l0 i).f2), .int .i64 ((rd_T55 l0 i).f3)] 55 (0, 0)) (by (with_reducible repeat (first | refine blk_drewN ?_ _ | refine blk_drew ?_ | refine blk_alloc ?_ _)); refine blk_put (cs := #[.int .i64 ((rd_T55 l0 i).f0), .int .i64 ((rd_T55 l0 i).f1), .int .i64 ((rd_T55 l0 i).f2), .int .i64 0]) ?_ 3 _ rfl; (with_reducible repeat (first | refine blk_drewN ?_ _ | refine blk_drew ?_ | refine blk_alloc ?_ _)); refine blk_put (cs := #[.int .i64 ((rd_T55 l0 i).f0), .int .i64 ((rd_T55 l0 i).f1), .int .i64 0, .int .i64 0]) ?_ 2 _ rfl; (with_reducible repeat (first | refine blk_drewN ?_ _ | refine blk_drew ?_ | refine blk_alloc ?_ _)); refine blk_put (cs := #[.int .i64 ((rd_T55 l0 i).f0), .int .i64 0, .int .i64 0, .int .i64 0]) ?_ 1 _ rfl; (with_reducible repeat (first | refine blk_drewN ?_ _ | refine blk_drew ?_ | refine blk_alloc ?_ _)); refine blk_put (cs := #[.int .i64 0, .int .i64 0, .int .i64 0, .int .i64 0]) ?_ 0 _ rfl; (with_reducible repeat (first | refine blk_drewN ?_ _ | refine blk_drew ?_ | refine blk_alloc ?_ _)); exact BK10.out) hb); replace HC := Aside0.mk (below_step (zb1 HC) hb); clear hb) | (go_at_call 61; refine (impl_PutInteger.exps (rd_T55 l0 i).f0 (rd_T55 l0 i).f1 (rd_T55 l0 i).f2 (rd_T55 l0 i).f3 _).mono ?_; rintro e w9 ⟨rfl, hb⟩; replace BK10 := Aside0.mk (blk_below (g := gb10) (o := .cells #[.int .i64 ((rd_T55 l0 i).f0), .int .i64 ((rd_T55 l0 i).f1), .int .i64 ((rd_T55 l0 i).f2), .int .i64 ((rd_T55 l0 i).f3)] 55 (0, 0)) (by (with_reducible repeat (first | refine blk_drewN ?_ _ | refine blk_drew ?_ | refine blk_alloc ?_ _)); refine blk_put (cs := #[.int .i64 ((rd_T55 l0 i).f0), .int .i64 ((rd_T55 l0 i).f1), .int .i64 ((rd_T55 l0 i).f2), .int .i64 0]) ?_ 3 _ rfl; (with_reducible repeat (first | refine blk_drewN ?_ _ | refine blk_drew ?_ | refine blk_alloc ?_ _)); refine blk_put (cs := #[.int .i64 ((rd_T55 l0 i).f0), .int .i64 ((rd_T55 l0 i).f1), .int .i64 0, .int .i64 0]) ?_ 2 _ rfl; (with_reducible repeat (first | refine blk_drewN ?_ _ | refine blk_drew ?_ | refine blk_alloc ?_ _)); refine blk_put (cs := #[.int .i64 ((rd_T55 l0 i).f0), .int .i64 0, .int .i64 0, .int .i64 0]) ?_ 1 _ rfl; (with_reducible repeat (first | refine blk_drewN ?_ _ | refine blk_drew ?_ | refine blk_alloc ?_ _)); refine blk_put (cs := #[.int .i64 0, .int .i64 0, .int .i64 0, .int .i64 0]) ?_ 0 _ rfl; (with_reducible repeat (first | refine blk_drewN ?_ _ | refine blk_drew ?_ | refine blk_alloc ?_ _)); exact BK10.out) hb); replace HC := Aside0.mk (below_step (zb1 HC) hb); clear hb) | ((with_reducible refine gate_dst (N := 11) rfl ?_); refine zbe (N := 11) (cs := #[.int .i64 0, .int .i64 0, .int .i64 0]) (t := 61) ?_; intro gb11 hg w10 hbox hb; have BK11 := Aside0.mk hbox; have GW11 := Aside0.mk (zge (zb1 HC) hg); have NB87 := Aside0.mk (by rw [hg]; exact Nat.ne_of_gt (blk_lt (zq1 BK10)) : gb11 ≠ gb10); have NB78 := Aside0.mk (Ne.symm NB87.out); replace BK10 := Aside0.mk (zbb BK10 hb); replace HC := Aside0.mk (below_step (zb1 HC) hb); clear hb hbox hg; have hnb := NB87.out; have hnc := NB78.out; have hczc_0 : w10.cell? ⟨gb10, 0, none⟩ = some (.int .i64 ((rd_T55 l0 i).f0)) := zc BK10 0; have hczc_1 : w10.cell? ⟨gb10, 1, none⟩ = some (.int .i64 ((rd_T55 l0 i).f1)) := zc BK10 1; have hczc_2 : w10.cell? ⟨gb10, 2, none⟩ = some (.int .i64 ((rd_T55 l0 i).f2)) := zc BK10 2; have hczc_3 : w10.cell? ⟨gb10, 3, none⟩ = some (.int .i64 ((rd_T55 l0 i).f3)) := zc BK10 3; have hfzc_0 := blk_frozen BK10.out 0; have hfzc_1 := blk_frozen BK10.out 1; have hfzc_2 := blk_frozen BK10.out 2; have hfzc_3 := blk_frozen BK10.out 3; have hczd_0 : w10.cell? ⟨gb11, 0, none⟩ = some (.int .i64 0) := zc BK11 0; have hczd_1 : w10.cell? ⟨gb11, 1, none⟩ = some (.int .i64 0) := zc BK11 1; have hczd_2 : w10.cell? ⟨gb11, 2, none⟩ = some (.int .i64 0) := zc BK11 2; have hfzd_0 := blk_frozen BK11.out 0; have hfzd_1 := blk_frozen BK11.out 1; have hfzd_2 := blk_frozen BK11.out 2))
                      go_loopg [12, 39] k1 (fun kq v12 v39 w' => ∃ (c j : Int), v12 = .int .i64 c ∧ v39 = .int .i64 j ∧ Aside0 (impl_PutInteger.l1 kq l0 aa a2 x i c (rd_T55 l0 i).f3 j = some (r1, r2)) ∧ Aside0 (kq ≤ k1) ∧ Aside0 (w'.heap[gb11]? = some (.cells #[.int .i64 ((rd_T55 l0 i).f1), .int .i64 ((rd_T55 l0 i).f2), .int .i64 ((rd_T55 l0 i).f3)] 61 (0, 0))) ∧ Aside0 (Below wr.heap.size wr w'))
                      case atStart => exact ⟨_, 0, (by first | rfl | (simp; done) | (simp [*]; done)), (by first | rfl | (simp; done) | (simp [*]; done)), H', ⟨Nat.le_refl _⟩, ⟨by (with_reducible repeat (first | refine blk_drewN ?_ _ | refine blk_drew ?_ | refine blk_alloc ?_ _)); refine blk_put (cs := #[.int .i64 ((rd_T55 l0 i).f1), .int .i64 ((rd_T55 l0 i).f2), .int .i64 0]) ?_ 2 _ rfl; (with_reducible repeat (first | refine blk_drewN ?_ _ | refine blk_drew ?_ | refine blk_alloc ?_ _)); refine blk_put (cs := #[.int .i64 ((rd_T55 l0 i).f1), .int .i64 0, .int .i64 0]) ?_ 1 _ rfl; (with_reducible repeat (first | refine blk_drewN ?_ _ | refine blk_drew ?_ | refine blk_alloc ?_ _)); refine blk_put (cs := #[.int .i64 0, .int .i64 0, .int .i64 0]) ?_ 0 _ rfl; (with_reducible repeat (first | refine blk_drewN ?_ _ | refine blk_drew ?_ | refine blk_alloc ?_ _)); exact BK11.out⟩, ⟨(zb1 HC)⟩⟩
                      case round =>
                        clear H' HC BK10 BK11 hx0 hx1 hx2 hx3 cb cb' p1 p2
                        (try clear hnb hnc)
                        obtain ⟨c, j, rfl, rfl, HA, HK2, BK11, HC⟩ := hrel
                        cases gk with
                        | zero => exact absurd HA.out (by simp [impl_PutInteger.l1])
                        | succ k2 =>
                          have H := HA.out
                          clear HA
                          simp only [impl_PutInteger.l1] at H
                          by_cases c5 : j < (rd_T55 l0 i).f3
                          · rw [if_pos c5] at H
                            have cb := decide_eq_true c5
                            clear c5
                            have H' := Aside0.mk H
                            clear H
                            go_wp2
                            go_roundg k2
                            case measure => have := HK2.out; omega
                            case rel => exact ⟨_, _, (by first | rfl | (simp; done) | (simp [*]; done)), (by first | rfl | (simp; done) | (simp [*]; done)), H', ⟨by have := HK2.out; omega⟩, ⟨zq1 BK11⟩, ⟨(zb1 HC)⟩⟩
                          · rw [if_neg c5] at H
                            have cb := decide_eq_false c5
                            clear c5
                            by_cases c9 : x.length < 4398046511104
                            · rw [if_pos c9] at H
                              have LM := Aside0.mk c9
                              clear c9
                              have ht : impl_PutInteger.tm (rd_T55 l0 i) aa c = (⟨c, (rd_T55 l0 i).f1, (rd_T55 l0 i).f2, 0⟩ : S55) := by rw [haa]; simp [impl_PutInteger.tm]
                              rw [ht] at H
                              clear ht
                              obtain ⟨y, hy⟩ : ∃ y_ : List S55, y_ = x ++ [(⟨c, (rd_T55 l0 i).f1, (rd_T55 l0 i).f2, 0⟩ : S55)] := ⟨_, rfl⟩
                              rw [← hy] at H
                              have Ny := Aside0.mk hy
                              clear hy
                              have H' := Aside0.mk H
                              clear H
                              have hcze_0 : wr.cell? ⟨gb11, 0, none⟩ = some (.int .i64 ((rd_T55 l0 i).f1)) := zc BK11 0; have hcze_1 : wr.cell? ⟨gb11, 1, none⟩ = some (.int .i64 ((rd_T55 l0 i).f2)) := zc BK11 1; have hcze_2 : wr.cell? ⟨gb11, 2, none⟩ = some (.int .i64 ((rd_T55 l0 i).f3)) := zc BK11 2; have hfze_0 := blk_frozen BK11.out 0; have hfze_1 := blk_frozen BK11.out 1; have hfze_2 := blk_frozen BK11.out 2
                              go_wp2_with (first | ((with_reducible refine gate_callee (f := 83) rfl ?_); refine goesL_ (some 50) rfl rfl Try.func83 (by kernel_rfl) rfl #[.int .i64 c, .agg #[.int .i64 ((rd_T55 l0 i).f1), .int .i64 ((rd_T55 l0 i).f2), .int .i64 0]] rfl zq6 ?_; refine (impl_PutInteger.termOf c (rd_T55 l0 i).f1 (rd_T55 l0 i).f2 0 _).mono ?_; rintro e w11 ⟨rfl, hb⟩; refine ⟨_, rfl, ?_⟩; replace HC := Aside0.mk (below_step (zb1 HC) hb); clear hb) | (go_at_call 83; refine (impl_PutInteger.termOf c (rd_T55 l0 i).f1 (rd_T55 l0 i).f2 0 _).mono ?_; rintro e w11 ⟨rfl, hb⟩; replace HC := Aside0.mk (below_step (zb1 HC) hb); clear hb) | ((with_reducible refine gate_builtin (b := .append) (xs := #[.tmp 47, .tmp 51]) rfl ?_); at_builtin; refine Kd.R_append k55 (w0 := w) w.heap.size rfl (.tmp 47) (.tmp 51) 25 55 (.agg #[(.int .i64 0), (.int .i64 0), (.int .i64 0), (.int .i64 0)]) 32 rfl Try.underlying25 info55 rfl (by decide) (by omega) _ x (⟨c, (rd_T55 l0 i).f1, (rd_T55 l0 i).f2, 0⟩ : S55) [.int .i64 c, .int .i64 ((rd_T55 l0 i).f1), .int .i64 ((rd_T55 l0 i).f2), .int .i64 0] (fun _ => True) (fun _ => False) rfl (by first | (go_simp; done) | (go_simp; rfl)) ?aP (fun _ hk => hk.elim) ?aF ?aO ?aB ?aS ?aL ?_; (case aP => exact k55_mkM _ _ _ (⟨c, (rd_T55 l0 i).f1, (rd_T55 l0 i).f2, 0⟩ : S55)); (case aB => exact (below_step HB.out (zb1 HC))); (case aF => exact (fun _ _ => trivial)); (case aO => exact (Kd.R_below HO.out (zb1 HC))); (case aS => exact (below_size (below_step HB.out (zb1 HC)))); (case aL => have := LM.out; omega); intro v36 w12 ho hb hg hat; rw [← Ny.out] at ho; have HO2 := Aside0.mk ho; have HB2 := Aside0.mk hb; clear ho hb hg hat))
                              go_roundg k2
                              case measure => have := HK1.out; have := HK2.out; omega
                              case rel => exact ⟨y, (wrap64 (i + 1)), (by first | rfl | (simp; done) | (simp [*]; done)), H', ⟨by have := HK1.out; have := HK2.out; omega⟩, ⟨zq3 HO2⟩, ⟨(zb1 HB2)⟩⟩
                            · rw [if_neg c9] at H; cases H
                    · rw [if_neg c'] at H; cases H
                  · rw [if_neg c] at H
                    have cb := decide_eq_false c
                    clear c
                    obtain ⟨t, hc0, hp0⟩ := Option.bind_eq_some_iff.mp H
                    clear H
                    have A6 := Aside0.mk hc0
                    have A7 := Aside0.mk hp0
                    clear hc0 hp0
                    obtain ⟨Ao, co, eo⟩ := Kd.R_slice HO.out
                    subst eo
                    go_wp2_with (first | ((with_reducible refine gate_callee (f := 75) rfl ?_); refine goesL_ (some 55) rfl rfl Try.func75 (by kernel_rfl) rfl #[.slice Ao x.length co] rfl zq6 ?_; (with_reducible refine (impl_collect.calls _ _ x t _ (Kd.R_reads' HO.out).2.2 (Kd.R_reads' HO.out).2.1 A6.out).mono ?_); rintro e w6 ⟨v6, rfl, ho, hb⟩; refine ⟨_, rfl, ?_⟩; have HO6 := Aside0.mk (Kd.R_lower ho (below_size (zb0 HB))); replace HB := Aside0.mk (below_step (zb0 HB) hb); clear ho hb; obtain ⟨Aq, cq, eq6⟩ := Kd.R_slice HO6.out; subst eq6) | (go_at_call 75; (with_reducible refine (impl_collect.calls _ _ x t _ (Kd.R_reads' HO.out).2.2 (Kd.R_reads' HO.out).2.1 A6.out).mono ?_); rintro e w6 ⟨v6, rfl, ho, hb⟩; have HO6 := Aside0.mk (Kd.R_lower ho (below_size (zb0 HB))); replace HB := Aside0.mk (below_step (zb0 HB) hb); clear ho hb; obtain ⟨Aq, cq, eq6⟩ := Kd.R_slice HO6.out; subst eq6) | ((with_reducible refine gate_callee (f := 74) rfl ?_); refine goesL_ (some 56) rfl rfl Try.func74 (by kernel_rfl) rfl #[.slice Aq t.length cq] rfl zq6 ?_; (with_reducible refine (impl_polyResult.calls k1 (fun k_ => some k_ = (.slice Aq t.length cq : Value).ownBlock) (.slice Aq t.length cq) t r1 r2 w _ (zb0 HB) (Kd.R_tight rfl HO6.out) A7.out).mono ?_); rintro e w7 ⟨v7, rfl, ho, hb, hkp⟩; refine ⟨_, rfl, ?_⟩; have HO7 := Aside0.mk (Kd.R_mono (ok' := fun k_ => True) ho (fun k_ hk_ => trivial)); clear HB; have HB := Aside0.mk hb; clear ho hb hkp) | (go_at_call 74; (with_reducible refine (impl_polyResult.calls k1 (fun k_ => some k_ = (.slice Aq t.length cq : Value).ownBlock) (.slice Aq t.length cq) t r1 r2 w _ (zb0 HB) (Kd.R_tight rfl HO6.out) A7.out).mono ?_); rintro e w7 ⟨v7, rfl, ho, hb, hkp⟩; have HO7 := Aside0.mk (Kd.R_mono (ok' := fun k_ => True) ho (fun k_ hk_ => trivial)); clear HB; have HB := Aside0.mk hb; clear ho hb hkp))
                    go_ret2
                    exact ⟨_, by first | rfl | (simp; done) | (simp [*]; done), zq3 HO7, (zb0 HB)⟩
          · rw [if_neg q2] at h; cases h
        · rw [if_neg q0] at h; cases h
end Go.Proofs.Ytfnmppeoleicbaa.PD
