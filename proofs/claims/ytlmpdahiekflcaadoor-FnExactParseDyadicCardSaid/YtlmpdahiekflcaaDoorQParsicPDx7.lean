-- By wip/mk/drv.py
import Derived.Test.YtlmpdahiekflcaaDoorQParsicPDx0
import Derived.Test.YtlmpdahiekflcaaDoorQParsicPDx1
import Derived.Test.YtlmpdahiekflcaaDoorQParsicPDx2
import Derived.Test.YtlmpdahiekflcaaDoorQParsicPDx6
namespace Go.Proofs.YtlmpdahiekflcaaDoor.PD
open Go.RowKit Go.Proofs.YtlmpdahiekflcaaDoorW.PrintWords Go.Proofs.YtlmpdahiekflcaaDoorW.PrintLast Go.Proofs.YtlmpdahiekflcaaDoorW.PrintMore
attribute [local go_sem] max2_int min2_int max_two min_two max_three min_three max_four min_four
set_option linter.unusedVariables false
set_option linter.unusedSimpArgs false
/-! ### spec_dyParse: function 7 -/
set_option maxHeartbeats 8000000 in
set_option maxRecDepth 100000 in
theorem spec_dyParse.calls (k : Nat) (a0 : ByteArray) (r1 : Int) (r2 : Int) (r3 : Bool) (w : World) (h : spec_dyParse.f k a0 = some (r1, r2, r3)) :
  Calls Tryd.prog 7 #[.string a0] w fun e w' => e = .returned (.tuple #[.agg #[.int .i64 r1, .int .i64 r2], .bool r3]) ∧ Below w.heap.size w w' := by
 have hu23 := Tryd.underlying23
 have HB := Aside0.mk (Below.refl w.heap.size w)
 have H : ((spec_l1Split.f k a0 47).bind fun t125 => (if (a0.size : Int) > 20 then (spec_dyParse.j0 k a0 t125 true) else (spec_dyParse.j0 k a0 t125 (decide ((t125.length : Int) > 2))))) = some (r1, r2, r3) := h
 clear h
 replace H := Option.bind_eq_some_iff.mp H
 obtain ⟨t125, A20, H⟩ := H
 replace H : (if (a0.size : Int) > 20 then (spec_dyParse.j0 k a0 t125 true) else (spec_dyParse.j0 k a0 t125 (decide ((t125.length : Int) > 2)))) = some (r1, r2, r3) := H
 have A2 := Aside0.mk A20
 clear A20
 have HC3 := Aside0.mk H
 clear H
 go_enter Tryd.func7, Tryd.ntmps7
 go_upto_region 2 with (first | ((with_reducible refine gate_dst (N := 2) rfl ?_); (try (refine gate_guard (by rfl) ?_; dsimp only)); refine zbe (N := 2) (cs := #[.int .i64 0, .int .i64 0]) (t := 23) ?_; intro gb124 hg w4 hbox hb; have BK124 := Aside0.mk (hbox); have GW124 := Aside0.mk (zge (zb0 HB) hg); have GE124 := GW124; replace HB := Aside0.mk (below_step (zb0 HB) hb); clear hb hbox hg) | ((with_reducible refine gate_callee (f := 12) rfl ?_); refine goesL_ (some 7) rfl rfl Tryd.func12 (by kernel_rfl) rfl #[.string a0, .int .u8 47] rfl zq6 ?_; (with_reducible refine (spec_l1Split.calls k a0 47 t125 _ A2.out).mono ?_); rintro e w5 ⟨v126, rfl, ho0, hb⟩; refine ⟨_, rfl, ?_⟩; have HO127 := Aside0.mk (Kd.R_lower ho0 (below_size (zb1 HB))); replace BK124 := Aside0.mk (zbb BK124 hb); replace HB := Aside0.mk (below_step (zb1 HB) hb); (try clear hb); (try clear hb2); (try clear hk); (try clear hi); (try clear ho0)))
 (try simp only [Act.put, List.setIfInBounds_toArray, List.set_cons_zero, List.set_cons_succ])
 go_cut [15] (fun v15 wc => ∃ (kq : Nat) (x15_2 : Bool), v15 = .bool x15_2 ∧ Aside0 (spec_dyParse.j0 kq a0 t125 x15_2 = some (r1, r2, r3)) ∧ Aside0 (kq ≤ k) ∧ Aside0 (Kd.R Kd.string 9 wc w.heap.size (fun _ => True) v126 t125) ∧ Aside0 (wc.heap[gb124]? = some (.cells #[.int .i64 0, .int .i64 0] 23 (0, 0))) ∧ Aside0 (Below w.heap.size w wc))
 case first =>
  have H := HC3.out
  clear HC3
  by_cases c6 : (a0.size : Int) > 20
  ·
   rw [if_pos c6] at H
   have c6b0 : decide (20 < (a0.size : Int)) = true := decide_eq_true c6
   have c6b1 : decide (20 < a0.size) = true := decide_eq_true (by omega)
   clear c6
   (first | rw [c6b0] | (simp only [i64_w, i32_w]; rw [c6b0]) | skip)
   have H' := Aside0.mk H
   clear H
   go_wp2
   go_meet
   case rel => exact ⟨_, (true), (by first | rfl | (simp; done) | (simp [*]; done)), H', ⟨by first | omega | exact Nat.le_refl _⟩, ⟨by (with_reducible repeat (first | apply Kd.R_alloc | apply Kd.R_drewN | apply Kd.R_drew)); exact HO127.out⟩, ⟨by (with_reducible repeat (first | refine blk_drewN ?_ _ | refine blk_drew ?_ | refine blk_alloc ?_ _)); exact BK124.out⟩, ⟨(zb1 HB)⟩⟩
  ·
   rw [if_neg c6] at H
   have c6b0 : decide (20 < (a0.size : Int)) = false := decide_eq_false c6
   have c6b1 : decide (20 < a0.size) = false := decide_eq_false (by omega)
   clear c6
   (first | rw [c6b0] | (simp only [i64_w, i32_w]; rw [c6b0]) | skip)
   have H' := Aside0.mk H
   clear H
   obtain ⟨Ao7, co7, eo7⟩ := Kd.R_slice HO127.out
   subst eo7
   go_wp2
   go_meet
   case rel => exact ⟨_, (decide ((t125.length : Int) > 2)), (by first | rfl | (simp; done) | (simp [*]; done)), H', ⟨by first | omega | exact Nat.le_refl _⟩, ⟨by (with_reducible repeat (first | apply Kd.R_alloc | apply Kd.R_drewN | apply Kd.R_drew)); exact HO127.out⟩, ⟨by (with_reducible repeat (first | refine blk_drewN ?_ _ | refine blk_drew ?_ | refine blk_alloc ?_ _)); exact BK124.out⟩, ⟨(zb1 HB)⟩⟩
 case rest =>
  clear HC3
  try clear c1
  try clear p2
  try clear c6
  try clear c6b0
  try clear c6b1
  try clear c7
  obtain ⟨kq, x15_2, rfl, HA, HJ2, HO_4, BK124, HB⟩ := hcut
  cases kq with
  | zero => exact absurd HA.out (by simp [spec_dyParse.j0])
  | succ kj2 =>
   have H := HA.out
   clear HA
   simp only [spec_dyParse.j0] at H
   by_cases c8 : x15_2 = true
   ·
    subst c8
    have H1 : (some (0, 0, false)) = some (r1, r2, r3) := by rw [if_pos rfl] at H; exact H
    clear H
    have H := H1
    clear H1
    simp only [Option.some.injEq, Prod.mk.injEq] at H
    obtain ⟨rfl, rfl, rfl⟩ := H
    have hcz9_0 : wc.cell? ⟨gb124, 0, none⟩ = some (.int .i64 0) := zc BK124 0
    have hcz9_1 : wc.cell? ⟨gb124, 1, none⟩ = some (.int .i64 0) := zc BK124 1
    have hfz9_0 := blk_frozen BK124.out 0
    have hfz9_1 := blk_frozen BK124.out 1
    go_wp2
    refine bodyPost_ret (results_ct rfl _ _ gb124 23 #[.int .i64 0, .int .i64 0] (0, 0) _ rfl (by (with_reducible repeat (first | refine blk_drewN ?_ _ | refine blk_drew ?_ | refine blk_alloc ?_ _)); refine blk_put (cs := #[.int .i64 0, .int .i64 0]) ?_ 1 _ rfl; (with_reducible repeat (first | refine blk_drewN ?_ _ | refine blk_drew ?_ | refine blk_alloc ?_ _)); refine blk_put (cs := #[.int .i64 0, .int .i64 0]) ?_ 0 _ rfl; (with_reducible repeat (first | refine blk_drewN ?_ _ | refine blk_drew ?_ | refine blk_alloc ?_ _)); exact BK124.out) Tryd.underlying23 rfl (by kernel_rfl)) rfl ?_
    exact ⟨by first | rfl | (simp [errW_none, errW_some] <;> rfl) | (simp [*, errW_none, errW_some] <;> rfl), (zb1 HB)⟩
   ·
    replace c8 := Bool.eq_false_iff.mpr c8
    subst c8
    have H1 : (if 0 < (t125.length : Int) then ((spec_dyRead.f kj2 (rdOf ByteArray.empty t125 0)).bind fun t129 => (if (t125.length : Int) = 2 then (if 1 < (t125.length : Int) then (spec_dyParse.j1 kj2 a0 t125 (decide (((rdOf ByteArray.empty t125 1).size : Int) > 2)) t129 0) else (none)) else (spec_dyParse.j1 kj2 a0 t125 false t129 0))) else (none)) = some (r1, r2, r3) := by rw [if_neg (show ¬ (false = true) by decide)] at H; exact H
    clear H
    have H := H1
    clear H1
    by_cases c10 : 0 < (t125.length : Int)
    ·
     rw [if_pos c10] at H
     have c10b0 : decide (0 < (t125.length : Int)) = true := decide_eq_true c10
     have c10b1 : decide (0 < t125.length) = true := decide_eq_true (by omega)
     clear c10
     replace H := Option.bind_eq_some_iff.mp H
     obtain ⟨t129, A110, H⟩ := H
     replace H : (if (t125.length : Int) = 2 then (if 1 < (t125.length : Int) then (spec_dyParse.j1 kj2 a0 t125 (decide (((rdOf ByteArray.empty t125 1).size : Int) > 2)) t129 0) else (none)) else (spec_dyParse.j1 kj2 a0 t125 false t129 0)) = some (r1, r2, r3) := H
     have A11 := Aside0.mk A110
     clear A110
     have HC12 := Aside0.mk H
     clear H
     obtain ⟨Ao13, co13, eo13⟩ := Kd.R_slice HO_4.out
     subst eo13
     have p128 : 0 ≤ (0 : Int) := (by omega)
     have q128 : 0 < (t125.length : Int) := of_decide_eq_true (by first | (with_reducible assumption) | assumption)
     obtain ⟨ad128, e128, hx128_0⟩ := Kd.at_string (Kd.R_reads' HO_4.out).2.2 0 p128 q128
     cases e128
     have qi128 : (0 < t125.length) = True := eq_true (by omega)
     (try rw [show ((0 : Int)).toNat = 0 from rfl] at hx128_0)
     (try rw [Addr.add_zero'] at hx128_0)
     replace p128 := eq_true p128
     replace q128 := eq_true q128
     go_upto_region 5 with (first | ((with_reducible refine gate_callee (f := 13) rfl ?_); refine goesL_ (some 20) rfl rfl Tryd.func13 (by kernel_rfl) rfl #[.string (rdOf ByteArray.empty t125 0)] rfl zq6 ?_; (with_reducible refine (spec_dyRead.calls kj2 (rdOf ByteArray.empty t125 0) t129 _ A11.out).mono ?_); rintro e w' ⟨rfl, ⟨nd, rfl⟩⟩; refine ⟨_, rfl, ?_⟩; (try (rw [drewN_self wc]; generalize hq_ : World.drewN wc _ = wc; have n0_ : Aside0 (Kd.R Kd.string 9 wc w.heap.size (fun _ => True) (.slice (some ad128) t125.length co13) t125) := ⟨by rw [← hq_]; exact (zq3 HO_4)⟩; have n1_ : Aside0 (wc.heap[gb124]? = some (.cells #[.int .i64 0, .int .i64 0] 23 (0, 0))) := ⟨by rw [← hq_]; exact (zq1 BK124)⟩; have n2_ : Aside0 (Below w.heap.size w wc) := ⟨by rw [← hq_]; exact (zb1 HB)⟩; clear HO_4 BK124 HB hq_; have HO_4 := n0_; have BK124 := n1_; have HB := n2_; clear n0_ n1_ n2_))) | ((with_reducible refine gate_dst (N := 5) rfl ?_); (try (refine gate_guard (by rfl) ?_; dsimp only)); refine zbe (N := 5) (cs := #[.int .i64 0, .int .i64 0]) (t := 23) ?_; intro gb130 hg w14 hbox hb; have BK130 := Aside0.mk (hbox); have GW130 := Aside0.mk (zge (zb1 HB) hg); have GE130 := GW130; have NB124_130 := Aside0.mk (zlt BK124 hg); have NB130_124 := Aside0.mk (zgt BK124 hg); replace HO_4 := Aside0.mk (Kd.R_below (zq3 HO_4) hb); replace BK124 := Aside0.mk (zbb BK124 hb); replace HB := Aside0.mk (below_step (zb1 HB) hb); clear hb hbox hg; have hnb15 := NB130_124.out; have hnc15 := NB124_130.out; have hcz16_0 : w14.cell? ⟨gb130, 0, none⟩ = some (.int .i64 0) := zc BK130 0; have hcz16_1 : w14.cell? ⟨gb130, 1, none⟩ = some (.int .i64 0) := zc BK130 1; have hfz16_0 := blk_frozen BK130.out 0; have hfz16_1 := blk_frozen BK130.out 1))
     (try simp only [Act.put, List.setIfInBounds_toArray, List.set_cons_zero, List.set_cons_succ])
     go_cut [31] (fun v31 wc => ∃ (kq : Nat) (x31_11 : Bool), v31 = .bool x31_11 ∧ Aside0 (spec_dyParse.j1 kq a0 t125 x31_11 t129 0 = some (r1, r2, r3)) ∧ Aside0 (kq ≤ kj2) ∧ Aside0 (Kd.R Kd.string 9 wc w.heap.size (fun _ => True) (.slice (some ad128) t125.length co13) t125) ∧ Aside0 (wc.heap[gb124]? = some (.cells #[.int .i64 0, .int .i64 0] 23 (0, 0))) ∧ Aside0 (wc.heap[gb130]? = some (.cells #[.int .i64 t129, .int .i64 0] 23 (0, 0))) ∧ Aside0 (Below w.heap.size w wc))
     case first =>
      have H := HC12.out
      clear HC12
      by_cases c17 : (t125.length : Int) = 2
      ·
       rw [if_pos c17] at H
       have c17b0 : ((t125.length : Int) == 2) = true := beq_iff_eq.mpr c17
       have c17b1 : ((t125.length : Int) != 2) = false := bne_eq_false_iff_eq.mpr c17
       clear c17
       (first | rw [c17b0] | (simp only [i64_w, i32_w]; rw [c17b0]) | skip)
       by_cases c18 : 1 < (t125.length : Int)
       ·
        rw [if_pos c18] at H
        have c18b0 : decide (1 < (t125.length : Int)) = true := decide_eq_true c18
        have c18b1 : decide (1 < t125.length) = true := decide_eq_true (by omega)
        clear c18
        have H' := Aside0.mk H
        clear H
        have p131 : 0 ≤ (1 : Int) := (by omega)
        have q131 : 1 < (t125.length : Int) := of_decide_eq_true (by first | (with_reducible assumption) | assumption)
        obtain ⟨ad131, e131, hx131_0⟩ := Kd.at_string (Kd.R_reads' HO_4.out).2.2 1 p131 q131
        obtain rfl : ad128 = ad131 := (by injection e131)
        (try simp only [show (1 : Int).toNat = 1 from rfl, Nat.reduceMul, Nat.reduceEqDiff, Go.Addr.add, ↓reduceIte] at hx131_0)
        have qi131 : (1 < t125.length) = True := eq_true (by omega)
        (try rw [show ((1 : Int)).toNat = 1 from rfl] at hx131_0)
        have hn131_0 : ad128.block ≠ gb130 := Kd.own_blk (Kd.R_ne HO_4.out BK130.out (by decide))
        have hn131_1 : ad128.block ≠ gb130 := Kd.own_blk (Kd.R_ne HO_4.out BK130.out (by decide))
        replace hx131_0 := (cell_far (p := ⟨gb130, 0, none⟩) (by first | (rw [add_block]; exact hn131_0) | (show (Addr.add _ _).block ≠ _; rw [add_block]; exact hn131_0) | exact hn131_0) (.int .i64 t129)).trans hx131_0
        replace hx131_0 := (cell_far (p := ⟨gb130, 1, none⟩) (by first | (rw [add_block]; exact hn131_1) | (show (Addr.add _ _).block ≠ _; rw [add_block]; exact hn131_1) | exact hn131_1) (.int .i64 0)).trans hx131_0
        clear hn131_0 hn131_1
        replace p131 := eq_true p131
        replace q131 := eq_true q131
        go_wp2
        go_meet
        case rel => exact ⟨_, (decide (((rdOf ByteArray.empty t125 1).size : Int) > 2)), (by first | rfl | (simp; done) | (simp [*]; done)), H', ⟨by have := HJ2.out; first | omega | exact Nat.le_refl _⟩, ⟨by (with_reducible repeat (first | apply Kd.R_alloc | apply Kd.R_drewN | apply Kd.R_drew)); exact Kd.R_mono (Kd.R_far (p := ⟨gb130, 1, none⟩) (Kd.R_far (p := ⟨gb130, 0, none⟩) (Kd.R_types HO_4.out BK130.out (by decide)) (fun _ hk => hk.2) (.int .i64 t129)) (fun _ hk => hk.2) (.int .i64 0)) (fun _ hk => trivial)⟩, ⟨zq5 BK124⟩, ⟨by (with_reducible repeat (first | refine blk_drewN ?_ _ | refine blk_drew ?_ | refine blk_alloc ?_ _)); refine blk_put (cs := #[.int .i64 t129, .int .i64 0]) ?_ 1 _ rfl; (with_reducible repeat (first | refine blk_drewN ?_ _ | refine blk_drew ?_ | refine blk_alloc ?_ _)); refine blk_put (cs := #[.int .i64 0, .int .i64 0]) ?_ 0 _ rfl; (with_reducible repeat (first | refine blk_drewN ?_ _ | refine blk_drew ?_ | refine blk_alloc ?_ _)); exact BK130.out⟩, ⟨(zb1 HB)⟩⟩
       ·
        rw [if_neg c18] at H
        exact absurd H (by simp)
      ·
       rw [if_neg c17] at H
       have c17b0 : ((t125.length : Int) == 2) = false := beq_eq_false_iff_ne.mpr c17
       have c17b1 : ((t125.length : Int) != 2) = true := bne_iff_ne.mpr c17
       (first | rw [c17b0] | (simp only [i64_w, i32_w]; rw [c17b0]) | skip)
       have H' := Aside0.mk H
       clear H
       go_wp2
       go_meet
       case rel => exact ⟨_, (false), (by first | rfl | (simp; done) | (simp [*]; done)), H', ⟨by have := HJ2.out; first | omega | exact Nat.le_refl _⟩, ⟨by (with_reducible repeat (first | apply Kd.R_alloc | apply Kd.R_drewN | apply Kd.R_drew)); exact Kd.R_mono (Kd.R_far (p := ⟨gb130, 1, none⟩) (Kd.R_far (p := ⟨gb130, 0, none⟩) (Kd.R_types HO_4.out BK130.out (by decide)) (fun _ hk => hk.2) (.int .i64 t129)) (fun _ hk => hk.2) (.int .i64 0)) (fun _ hk => trivial)⟩, ⟨zq5 BK124⟩, ⟨by (with_reducible repeat (first | refine blk_drewN ?_ _ | refine blk_drew ?_ | refine blk_alloc ?_ _)); refine blk_put (cs := #[.int .i64 t129, .int .i64 0]) ?_ 1 _ rfl; (with_reducible repeat (first | refine blk_drewN ?_ _ | refine blk_drew ?_ | refine blk_alloc ?_ _)); refine blk_put (cs := #[.int .i64 0, .int .i64 0]) ?_ 0 _ rfl; (with_reducible repeat (first | refine blk_drewN ?_ _ | refine blk_drew ?_ | refine blk_alloc ?_ _)); exact BK130.out⟩, ⟨(zb1 HB)⟩⟩
     case rest =>
      clear HC12
      try clear c1
      try clear p1
      try clear q1
      try clear hx1
      try clear qi1
      try clear p2
      try clear c6
      try clear c6b0
      try clear c6b1
      try clear c7
      try clear c8
      try clear c10
      try clear c10b0
      try clear c10b1
      try clear c12
      try clear p12
      try clear q12
      try clear hx12
      try clear qi12
      try clear c13
      try clear p13
      try clear q13
      try clear hx13
      try clear qi13
      try clear c15
      try clear c17
      try clear c17b0
      try clear c17b1
      try clear c18
      try clear c18b0
      try clear c18b1
      try clear hcz16_0
      try clear hcz16_1
      try clear hcz9_0
      try clear hcz9_1
      try clear hfz16_0
      try clear hfz16_1
      try clear hfz9_0
      try clear hfz9_1
      try clear hx128_0
      try clear hx131_0
      try clear p128
      try clear p131
      try clear p2
      try clear q128
      try clear q131
      obtain ⟨kq, x31_11, rfl, HA, HJ11, HO_4, BK124, BK130, HB⟩ := hcut
      cases kq with
      | zero => exact absurd HA.out (by simp [spec_dyParse.j1])
      | succ kj11 =>
       have H := HA.out
       clear HA
       simp only [spec_dyParse.j1] at H
       have HC19 := Aside0.mk H
       clear H
       go_upto_if 31 with (fail)
       go_cut [] (fun wc => ∃ (kq : Nat) (x131001_18 : Int), Aside0 (spec_dyParse.j2 kq a0 t129 x131001_18 = some (r1, r2, r3)) ∧ Aside0 (kq ≤ kj11) ∧ Aside0 (wc.heap[gb124]? = some (.cells #[.int .i64 0, .int .i64 0] 23 (0, 0))) ∧ Aside0 (wc.heap[gb130]? = some (.cells #[.int .i64 t129, .int .i64 x131001_18] 23 (0, 0))) ∧ Aside0 (Below w.heap.size w wc))
       case first =>
        have H := HC19.out
        clear HC19
        by_cases c20 : x31_11 = true
        ·
         subst c20
         have H1 : (if 1 < (t125.length : Int) then (if 2 ≤ ((rdOf ByteArray.empty t125 1).size : Int) then ((spec_l1Read.f kj11 ((rdOf ByteArray.empty t125 1).extract 2 (rdOf ByteArray.empty t125 1).size)).bind fun t133 => (spec_dyParse.j2 kj11 a0 t129 t133)) else (none)) else (none)) = some (r1, r2, r3) := by rw [if_pos rfl] at H; exact H
         clear H
         have H := H1
         clear H1
         by_cases c21 : 1 < (t125.length : Int)
         ·
          rw [if_pos c21] at H
          have c21b0 : decide (1 < (t125.length : Int)) = true := decide_eq_true c21
          have c21b1 : decide (1 < t125.length) = true := decide_eq_true (by omega)
          clear c21
          (first | rw [c21b0] | (simp only [i64_w, i32_w]; rw [c21b0]) | skip)
          by_cases c22 : 2 ≤ ((rdOf ByteArray.empty t125 1).size : Int)
          ·
           rw [if_pos c22] at H
           have c22b0 := eq_true c22
           have c22b1 : decide (2 ≤ ((rdOf ByteArray.empty t125 1).size : Int)) = true := decide_eq_true c22
           clear c22
           replace H := Option.bind_eq_some_iff.mp H
           obtain ⟨t133, A230, H⟩ := H
           replace H : (spec_dyParse.j2 kj11 a0 t129 t133) = some (r1, r2, r3) := H
           have A23 := Aside0.mk A230
           clear A230
           have H' := Aside0.mk H
           clear H
           have p132 : 0 ≤ (1 : Int) := (by omega)
           have q132 : 1 < (t125.length : Int) := of_decide_eq_true (by first | (with_reducible assumption) | assumption)
           obtain ⟨ad132, e132, hx132_0⟩ := Kd.at_string (Kd.R_reads' HO_4.out).2.2 1 p132 q132
           obtain rfl : ad128 = ad132 := (by injection e132)
           (try simp only [show (1 : Int).toNat = 1 from rfl, Nat.reduceMul, Nat.reduceEqDiff, Go.Addr.add, ↓reduceIte] at hx132_0)
           have qi132 : (1 < t125.length) = True := eq_true (by omega)
           (try rw [show ((1 : Int)).toNat = 1 from rfl] at hx132_0)
           replace p132 := eq_true p132
           replace q132 := eq_true q132
           go_wp2_with (first | ((with_reducible refine gate_callee (f := 14) rfl ?_); refine goesL_ (some 36) rfl rfl Tryd.func14 (by kernel_rfl) rfl #[.string ((rdOf ByteArray.empty t125 1).extract 2 (rdOf ByteArray.empty t125 1).size)] rfl zq6 ?_; (with_reducible refine (spec_l1Read.calls kj11 ((rdOf ByteArray.empty t125 1).extract 2 (rdOf ByteArray.empty t125 1).size) t133 _ A23.out).mono ?_); rintro e w' ⟨rfl, ⟨nd, rfl⟩⟩; refine ⟨_, rfl, ?_⟩; (try (rw [drewN_self wc]; generalize hq_ : World.drewN wc _ = wc; have n0_ : Aside0 (Kd.R Kd.string 9 wc w.heap.size (fun _ => True) (.slice (some ad128) t125.length co13) t125) := ⟨by rw [← hq_]; exact (zq3 HO_4)⟩; have n1_ : Aside0 (wc.heap[gb124]? = some (.cells #[.int .i64 0, .int .i64 0] 23 (0, 0))) := ⟨by rw [← hq_]; exact (zq1 BK124)⟩; have n2_ : Aside0 (wc.heap[gb130]? = some (.cells #[.int .i64 t129, .int .i64 0] 23 (0, 0))) := ⟨by rw [← hq_]; exact (zq1 BK130)⟩; have n3_ : Aside0 (Below w.heap.size w wc) := ⟨by rw [← hq_]; exact (zb1 HB)⟩; clear HO_4 BK124 BK130 HB hq_; have HO_4 := n0_; have BK124 := n1_; have BK130 := n2_; have HB := n3_; clear n0_ n1_ n2_ n3_)); have hnb24 := NB130_124.out; have hnc24 := NB124_130.out; have hcz25_0 : wc.cell? ⟨gb130, 0, none⟩ = some (.int .i64 t129) := zc BK130 0; have hcz25_1 : wc.cell? ⟨gb130, 1, none⟩ = some (.int .i64 0) := zc BK130 1; have hfz25_0 := blk_frozen BK130.out 0; have hfz25_1 := blk_frozen BK130.out 1))
           go_meet
           case rel => exact ⟨_, (t133), H', ⟨by have := HJ2.out; have := HJ11.out; first | omega | exact Nat.le_refl _⟩, ⟨zq5 BK124⟩, ⟨by (with_reducible repeat (first | refine blk_drewN ?_ _ | refine blk_drew ?_ | refine blk_alloc ?_ _)); refine blk_put (cs := #[.int .i64 t129, .int .i64 0]) ?_ 1 _ rfl; (with_reducible repeat (first | refine blk_drewN ?_ _ | refine blk_drew ?_ | refine blk_alloc ?_ _)); exact BK130.out⟩, ⟨(zb1 HB)⟩⟩
          ·
           rw [if_neg c22] at H
           exact absurd H (by simp)
         ·
          rw [if_neg c21] at H
          exact absurd H (by simp)
        ·
         replace c20 := Bool.eq_false_iff.mpr c20
         subst c20
         have H1 : (spec_dyParse.j2 kj11 a0 t129 0) = some (r1, r2, r3) := by rw [if_neg (show ¬ (false = true) by decide)] at H; exact H
         clear H
         have H := H1
         clear H1
         have H' := Aside0.mk H
         clear H
         go_wp2
         go_meet
         case rel => exact ⟨_, (0), H', ⟨by have := HJ2.out; have := HJ11.out; first | omega | exact Nat.le_refl _⟩, ⟨by (with_reducible repeat (first | refine blk_drewN ?_ _ | refine blk_drew ?_ | refine blk_alloc ?_ _)); exact BK124.out⟩, ⟨by (with_reducible repeat (first | refine blk_drewN ?_ _ | refine blk_drew ?_ | refine blk_alloc ?_ _)); exact BK130.out⟩, ⟨(zb1 HB)⟩⟩
       case rest =>
        clear HC19
        try clear c1
        try clear p1
        try clear q1
        try clear hx1
        try clear qi1
        try clear c2
        try clear p2
        try clear c6
        try clear c6b0
        try clear c6b1
        try clear c7
        try clear c8
        try clear c10
        try clear c10b0
        try clear c10b1
        try clear c12
        try clear p12
        try clear q12
        try clear hx12
        try clear qi12
        try clear c13
        try clear p13
        try clear q13
        try clear hx13
        try clear qi13
        try clear c14
        try clear c15
        try clear c17
        try clear c17b0
        try clear c17b1
        try clear c18
        try clear c18b0
        try clear c18b1
        try clear c20
        try clear c21
        try clear c21b0
        try clear c21b1
        try clear c22
        try clear c22b0
        try clear c22b1
        try clear c24
        try clear hcz16_0
        try clear hcz16_1
        try clear hcz25_0
        try clear hcz25_1
        try clear hcz9_0
        try clear hcz9_1
        try clear hfz16_0
        try clear hfz16_1
        try clear hfz25_0
        try clear hfz25_1
        try clear hfz9_0
        try clear hfz9_1
        try clear hx128_0
        try clear hx131_0
        try clear hx132_0
        try clear p1
        try clear p12
        try clear p128
        try clear p13
        try clear p131
        try clear p132
        try clear p2
        try clear q1
        try clear q12
        try clear q128
        try clear q13
        try clear q131
        try clear q132
        obtain ⟨kq, x131001_18, HA, HJ18, BK124, BK130, HB⟩ := hcut
        cases kq with
        | zero => exact absurd HA.out (by simp [spec_dyParse.j2])
        | succ kj18 =>
         have H := HA.out
         clear HA
         simp only [spec_dyParse.j2] at H
         replace H := Option.bind_eq_some_iff.mp H
         obtain ⟨t134, A260, H⟩ := H
         replace H : (if t134 = true then ((spec_dyText.f kj18 t129 x131001_18).bind fun t135 => (if t135.toList = a0.toList then (some (t129, x131001_18, true)) else (some (0, 0, false)))) else (some (0, 0, false))) = some (r1, r2, r3) := H
         have A26 := Aside0.mk A260
         clear A260
         by_cases c27 : t134 = true
         ·
          subst c27
          have H1 : ((spec_dyText.f kj18 t129 x131001_18).bind fun t135 => (if t135.toList = a0.toList then (some (t129, x131001_18, true)) else (some (0, 0, false)))) = some (r1, r2, r3) := by rw [if_pos rfl] at H; exact H
          clear H
          have H := H1
          clear H1
          replace H := Option.bind_eq_some_iff.mp H
          obtain ⟨t135, A280, H⟩ := H
          replace H : (if t135.toList = a0.toList then (some (t129, x131001_18, true)) else (some (0, 0, false))) = some (r1, r2, r3) := H
          have A28 := Aside0.mk A280
          clear A280
          by_cases c29 : t135.toList = a0.toList
          ·
           rw [if_pos c29] at H
           have c29b0 : (t135.toList == a0.toList) = true := beq_iff_eq.mpr c29
           have c29b1 : (t135.toList != a0.toList) = false := bne_eq_false_iff_eq.mpr c29
           clear c29
           simp only [Option.some.injEq, Prod.mk.injEq] at H
           obtain ⟨rfl, rfl, rfl⟩ := H
           have hnb30 := NB130_124.out
           have hnc30 := NB124_130.out
           have hcz31_0 : wc.cell? ⟨gb130, 0, none⟩ = some (.int .i64 t129) := zc BK130 0
           have hcz31_1 : wc.cell? ⟨gb130, 1, none⟩ = some (.int .i64 x131001_18) := zc BK130 1
           have hfz31_0 := blk_frozen BK130.out 0
           have hfz31_1 := blk_frozen BK130.out 1
           go_wp2_with (first | ((with_reducible refine gate_callee (f := 15) rfl ?_); refine goesL_ (some 39) rfl rfl Tryd.func15 (by kernel_rfl) rfl #[.agg #[.int .i64 t129, .int .i64 x131001_18]] rfl zq6 ?_; (with_reducible refine (spec_dyGood.calls t129 x131001_18 true _ A26.out).mono ?_); rintro e w32 ⟨rfl, hb⟩; refine ⟨_, rfl, ?_⟩; replace BK124 := Aside0.mk (zbb BK124 hb); replace BK130 := Aside0.mk (zbb BK130 hb); replace HB := Aside0.mk (below_step (zb1 HB) hb); (try clear hb); (try clear hb2); (try clear hk); (try clear hi); have hcz33_0 : w32.cell? ⟨gb130, 0, none⟩ = some (.int .i64 t129) := zc BK130 0; have hcz33_1 : w32.cell? ⟨gb130, 1, none⟩ = some (.int .i64 x131001_18) := zc BK130 1; have hfz33_0 := blk_frozen BK130.out 0; have hfz33_1 := blk_frozen BK130.out 1) | (go_at_call 16; (with_reducible refine (spec_dyText.calls kj18 t129 x131001_18 t135 _ A28.out).mono ?_); rintro e w34 ⟨rfl, hb⟩; replace BK124 := Aside0.mk (zbb BK124 hb); replace BK130 := Aside0.mk (zbb BK130 hb); replace HB := Aside0.mk (below_step (zb1 HB) hb); (try clear hb); (try clear hb2); (try clear hk); (try clear hi); have hcz35_0 : w34.cell? ⟨gb130, 0, none⟩ = some (.int .i64 t129) := zc BK130 0; have hcz35_1 : w34.cell? ⟨gb130, 1, none⟩ = some (.int .i64 x131001_18) := zc BK130 1; have hfz35_0 := blk_frozen BK130.out 0; have hfz35_1 := blk_frozen BK130.out 1; have hcz36_0 : w34.cell? ⟨gb124, 0, none⟩ = some (.int .i64 0) := zc BK124 0; have hcz36_1 : w34.cell? ⟨gb124, 1, none⟩ = some (.int .i64 0) := zc BK124 1; have hfz36_0 := blk_frozen BK124.out 0; have hfz36_1 := blk_frozen BK124.out 1))
           refine bodyPost_ret (results_ct rfl _ _ gb124 23 #[.int .i64 t129, .int .i64 x131001_18] (0, 0) _ rfl (by (with_reducible repeat (first | refine blk_drewN ?_ _ | refine blk_drew ?_ | refine blk_alloc ?_ _)); refine blk_put (cs := #[.int .i64 t129, .int .i64 0]) ?_ 1 _ rfl; (with_reducible repeat (first | refine blk_drewN ?_ _ | refine blk_drew ?_ | refine blk_alloc ?_ _)); refine blk_put (cs := #[.int .i64 0, .int .i64 0]) ?_ 0 _ rfl; (with_reducible repeat (first | refine blk_drewN ?_ _ | refine blk_drew ?_ | refine blk_alloc ?_ _)); exact BK124.out) Tryd.underlying23 rfl (by kernel_rfl)) rfl ?_
           exact ⟨by first | rfl | (simp [errW_none, errW_some] <;> rfl) | (simp [*, errW_none, errW_some] <;> rfl), (zb1 HB)⟩
          ·
           rw [if_neg c29] at H
           have c29b0 : (t135.toList == a0.toList) = false := beq_eq_false_iff_ne.mpr c29
           have c29b1 : (t135.toList != a0.toList) = true := bne_iff_ne.mpr c29
           simp only [Option.some.injEq, Prod.mk.injEq] at H
           obtain ⟨rfl, rfl, rfl⟩ := H
           have hnb37 := NB130_124.out
           have hnc37 := NB124_130.out
           have hcz38_0 : wc.cell? ⟨gb130, 0, none⟩ = some (.int .i64 t129) := zc BK130 0
           have hcz38_1 : wc.cell? ⟨gb130, 1, none⟩ = some (.int .i64 x131001_18) := zc BK130 1
           have hfz38_0 := blk_frozen BK130.out 0
           have hfz38_1 := blk_frozen BK130.out 1
           go_wp2_with (first | ((with_reducible refine gate_callee (f := 15) rfl ?_); refine goesL_ (some 39) rfl rfl Tryd.func15 (by kernel_rfl) rfl #[.agg #[.int .i64 t129, .int .i64 x131001_18]] rfl zq6 ?_; (with_reducible refine (spec_dyGood.calls t129 x131001_18 true _ A26.out).mono ?_); rintro e w39 ⟨rfl, hb⟩; refine ⟨_, rfl, ?_⟩; replace BK124 := Aside0.mk (zbb BK124 hb); replace BK130 := Aside0.mk (zbb BK130 hb); replace HB := Aside0.mk (below_step (zb1 HB) hb); (try clear hb); (try clear hb2); (try clear hk); (try clear hi); have hcz40_0 : w39.cell? ⟨gb130, 0, none⟩ = some (.int .i64 t129) := zc BK130 0; have hcz40_1 : w39.cell? ⟨gb130, 1, none⟩ = some (.int .i64 x131001_18) := zc BK130 1; have hfz40_0 := blk_frozen BK130.out 0; have hfz40_1 := blk_frozen BK130.out 1) | (go_at_call 16; (with_reducible refine (spec_dyText.calls kj18 t129 x131001_18 t135 _ A28.out).mono ?_); rintro e w41 ⟨rfl, hb⟩; replace BK124 := Aside0.mk (zbb BK124 hb); replace BK130 := Aside0.mk (zbb BK130 hb); replace HB := Aside0.mk (below_step (zb1 HB) hb); (try clear hb); (try clear hb2); (try clear hk); (try clear hi); have hcz42_0 : w41.cell? ⟨gb124, 0, none⟩ = some (.int .i64 0) := zc BK124 0; have hcz42_1 : w41.cell? ⟨gb124, 1, none⟩ = some (.int .i64 0) := zc BK124 1; have hfz42_0 := blk_frozen BK124.out 0; have hfz42_1 := blk_frozen BK124.out 1))
           refine bodyPost_ret (results_ct rfl _ _ gb124 23 #[.int .i64 0, .int .i64 0] (0, 0) _ rfl (by (with_reducible repeat (first | refine blk_drewN ?_ _ | refine blk_drew ?_ | refine blk_alloc ?_ _)); refine blk_put (cs := #[.int .i64 0, .int .i64 0]) ?_ 1 _ rfl; (with_reducible repeat (first | refine blk_drewN ?_ _ | refine blk_drew ?_ | refine blk_alloc ?_ _)); refine blk_put (cs := #[.int .i64 0, .int .i64 0]) ?_ 0 _ rfl; (with_reducible repeat (first | refine blk_drewN ?_ _ | refine blk_drew ?_ | refine blk_alloc ?_ _)); exact BK124.out) Tryd.underlying23 rfl (by kernel_rfl)) rfl ?_
           exact ⟨by first | rfl | (simp [errW_none, errW_some] <;> rfl) | (simp [*, errW_none, errW_some] <;> rfl), (zb1 HB)⟩
         ·
          replace c27 := Bool.eq_false_iff.mpr c27
          subst c27
          have H1 : (some (0, 0, false)) = some (r1, r2, r3) := by rw [if_neg (show ¬ (false = true) by decide)] at H; exact H
          clear H
          have H := H1
          clear H1
          simp only [Option.some.injEq, Prod.mk.injEq] at H
          obtain ⟨rfl, rfl, rfl⟩ := H
          have hnb43 := NB130_124.out
          have hnc43 := NB124_130.out
          have hcz44_0 : wc.cell? ⟨gb130, 0, none⟩ = some (.int .i64 t129) := zc BK130 0
          have hcz44_1 : wc.cell? ⟨gb130, 1, none⟩ = some (.int .i64 x131001_18) := zc BK130 1
          have hfz44_0 := blk_frozen BK130.out 0
          have hfz44_1 := blk_frozen BK130.out 1
          go_wp2_with (first | ((with_reducible refine gate_callee (f := 15) rfl ?_); refine goesL_ (some 39) rfl rfl Tryd.func15 (by kernel_rfl) rfl #[.agg #[.int .i64 t129, .int .i64 x131001_18]] rfl zq6 ?_; (with_reducible refine (spec_dyGood.calls t129 x131001_18 false _ A26.out).mono ?_); rintro e w45 ⟨rfl, hb⟩; refine ⟨_, rfl, ?_⟩; replace BK124 := Aside0.mk (zbb BK124 hb); replace BK130 := Aside0.mk (zbb BK130 hb); replace HB := Aside0.mk (below_step (zb1 HB) hb); (try clear hb); (try clear hb2); (try clear hk); (try clear hi); have hcz46_0 : w45.cell? ⟨gb124, 0, none⟩ = some (.int .i64 0) := zc BK124 0; have hcz46_1 : w45.cell? ⟨gb124, 1, none⟩ = some (.int .i64 0) := zc BK124 1; have hfz46_0 := blk_frozen BK124.out 0; have hfz46_1 := blk_frozen BK124.out 1))
          refine bodyPost_ret (results_ct rfl _ _ gb124 23 #[.int .i64 0, .int .i64 0] (0, 0) _ rfl (by (with_reducible repeat (first | refine blk_drewN ?_ _ | refine blk_drew ?_ | refine blk_alloc ?_ _)); refine blk_put (cs := #[.int .i64 0, .int .i64 0]) ?_ 1 _ rfl; (with_reducible repeat (first | refine blk_drewN ?_ _ | refine blk_drew ?_ | refine blk_alloc ?_ _)); refine blk_put (cs := #[.int .i64 0, .int .i64 0]) ?_ 0 _ rfl; (with_reducible repeat (first | refine blk_drewN ?_ _ | refine blk_drew ?_ | refine blk_alloc ?_ _)); exact BK124.out) Tryd.underlying23 rfl (by kernel_rfl)) rfl ?_
          exact ⟨by first | rfl | (simp [errW_none, errW_some] <;> rfl) | (simp [*, errW_none, errW_some] <;> rfl), (zb1 HB)⟩
    ·
     rw [if_neg c10] at H
     exact absurd H (by simp)
end Go.Proofs.YtlmpdahiekflcaaDoor.PD
