-- By wip/mk/drv.py
import Derived.Test.YthanmlojikidbaaQPolylsPDx0
namespace Go.Proofs.Ythanmlojikidbaa.PD
open Go.RowKit Go.Proofs.YthanmlojikidbaaW.PrintWords Go.Proofs.YthanmlojikidbaaW.PrintLast Go.Proofs.YthanmlojikidbaaW.PrintMore
attribute [local go_sem] max2_int min2_int max_two min_two max_three min_three max_four min_four
set_option linter.unusedVariables false
set_option linter.unusedSimpArgs false
/-! ### spec_poGood: function 33 -/
def spec_poGood.T4 : Bool × List (List Nat × List Nat) := (true, [([], []), ([0], [0]), ([1], [1]), ([2, 1], [2]), ([3], [3]), ([4, 3], [3, 4]), ([5, 3], [3, 5]), ([3, 6], [3, 6]), ([7, 3], [7]), ([8], [8]), ([9, 8], [8, 9]), ([10, 8, 8], [8, 10]), ([11], [11]), ([11], [11]), ([13, 11], [11, 13]), ([12, 14, 11], [11, 12, 14]), ([15, 11], [11, 15]), ([11], [11]), ([16, 17, 11, 11], [11, 16, 17]), ([18, 11], [11, 18]), ([11, 19, 8], [8, 11, 19]), ([8, 20], [8, 20])])
def spec_poGood.B4 : List Nat := [0, 1, 3, 7, 15, 31, 63, 127, 255, 511, 1023, 2047, 4095, 4095, 12287, 32767, 65535, 4095, 262143, 524287, 1048575, 2097151]
theorem spec_poGood.tab4 : rtab .any (opsOf Try.f33 4) = spec_poGood.T4 := by kernel_rfl
theorem spec_poGood.bits4 : waitsOk spec_poGood.T4.2 spec_poGood.B4 = true := by kernel_rfl
set_option maxHeartbeats 8000000 in
set_option maxRecDepth 100000 in
theorem spec_poGood.calls (k : Nat) (A0 : Option Addr) (c0 : Nat) (l0 : List (S51)) (r : Bool) (w : World) (hr0 : Kd.C k51 w A0 l0.length l0) (hc0 : l0.length ≤ c0) (h : spec_poGood.f k l0 = some r) :
  Calls Try.prog 33 #[.slice A0 l0.length c0] w fun e w' => e = .returned (.bool r) ∧ Below w.heap.size w w' := by
 have hu51 := Try.underlying51
 have HR0 := Aside0.mk hr0
 have HC0 := Aside0.mk hc0
 clear hr0 hc0
 have HB := Aside0.mk (Below.refl w.heap.size w)
 have H : (spec_poGood.l0 k l0 l0 (l0.length : Int) 0) = some r := h
 clear h
 have H' := Aside0.mk H
 clear H
 go_enter Try.func33, Try.ntmps33
 go_wp2
 go_loopg [7] k (fun kq v7 w' => ∃ (x7_1 : Int), v7 = .int .i64 x7_1 ∧ Aside0 (spec_poGood.l0 kq l0 l0 (l0.length : Int) x7_1 = some r) ∧ Aside0 (kq ≤ k) ∧ Aside0 (Below w.heap.size w w'))
 case atStart => exact ⟨(0), (by first | rfl | (simp; done) | (simp [*]; done)), H', ⟨Nat.le_refl _⟩, ⟨(zb0 HB)⟩⟩
 case round =>
  clear H'
  obtain ⟨x7_1, rfl, HA, HK1, HB⟩ := hrel
  cases gk with
  | zero => exact absurd HA.out (by simp [spec_poGood.l0])
  | succ k1 =>
   have H := HA.out
   clear HA
   simp only [spec_poGood.l0] at H
   by_cases c2 : x7_1 < (l0.length : Int)
   ·
    rw [if_pos c2] at H
    have c2b0 : decide (x7_1 < (l0.length : Int)) = true := decide_eq_true c2
    clear c2
    by_cases c3 : 0 ≤ x7_1
    ·
     rw [if_pos c3] at H
     have c3b0 : decide (0 ≤ x7_1) = true := decide_eq_true c3
     clear c3
     by_cases c4 : x7_1 < (l0.length : Int)
     ·
      rw [if_pos c4] at H
      have c4b0 : decide (x7_1 < (l0.length : Int)) = true := decide_eq_true c4
      clear c4
      replace H := Option.bind_eq_some_iff.mp H
      obtain ⟨t113, A50, H⟩ := H
      replace H : (if t113 = true then (if ((rd_T51 l0 x7_1).f0) = 0 then (some false) else (if x7_1 > 0 then (if 0 ≤ (wrap64 (x7_1 - 1)) then (if (wrap64 (x7_1 - 1)) < (l0.length : Int) then ((spec_poOrder.f ((rd_T51 l0 (wrap64 (x7_1 - 1))).f0) ((rd_T51 l0 (wrap64 (x7_1 - 1))).f1) ((rd_T51 l0 (wrap64 (x7_1 - 1))).f2) ((rd_T51 l0 (wrap64 (x7_1 - 1))).f3) ((rd_T51 l0 x7_1).f0) ((rd_T51 l0 x7_1).f1) ((rd_T51 l0 x7_1).f2) ((rd_T51 l0 x7_1).f3)).bind fun t115 => (if t115 ≥ 0 then (some false) else (spec_poGood.l0 k1 l0 l0 (l0.length : Int) (wrap64 (x7_1 + 1))))) else (none)) else (none)) else (spec_poGood.l0 k1 l0 l0 (l0.length : Int) (wrap64 (x7_1 + 1))))) else (some false)) = some r := H
      have A5 := Aside0.mk A50
      clear A50
      by_cases c6 : t113 = true
      ·
       subst c6
       have H1 : (if ((rd_T51 l0 x7_1).f0) = 0 then (some false) else (if x7_1 > 0 then (if 0 ≤ (wrap64 (x7_1 - 1)) then (if (wrap64 (x7_1 - 1)) < (l0.length : Int) then ((spec_poOrder.f ((rd_T51 l0 (wrap64 (x7_1 - 1))).f0) ((rd_T51 l0 (wrap64 (x7_1 - 1))).f1) ((rd_T51 l0 (wrap64 (x7_1 - 1))).f2) ((rd_T51 l0 (wrap64 (x7_1 - 1))).f3) ((rd_T51 l0 x7_1).f0) ((rd_T51 l0 x7_1).f1) ((rd_T51 l0 x7_1).f2) ((rd_T51 l0 x7_1).f3)).bind fun t115 => (if t115 ≥ 0 then (some false) else (spec_poGood.l0 k1 l0 l0 (l0.length : Int) (wrap64 (x7_1 + 1))))) else (none)) else (none)) else (spec_poGood.l0 k1 l0 l0 (l0.length : Int) (wrap64 (x7_1 + 1))))) = some r := by rw [if_pos rfl] at H; exact H
       clear H
       have H := H1
       clear H1
       by_cases c7 : ((rd_T51 l0 x7_1).f0) = 0
       ·
        rw [if_pos c7] at H
        have c7b0 : (((rd_T51 l0 x7_1).f0) == 0) = true := beq_iff_eq.mpr c7
        have c7b1 : (((rd_T51 l0 x7_1).f0) != 0) = false := bne_eq_false_iff_eq.mpr c7
        clear c7
        obtain rfl := Option.some.inj H
        have p111 : 0 ≤ (x7_1 : Int) := of_decide_eq_true (by first | (with_reducible assumption) | assumption)
        have q111 : x7_1 < (l0.length : Int) := of_decide_eq_true (by first | (with_reducible assumption) | assumption)
        obtain ⟨ad111, e111, hx111_0, hx111_1, hx111_2, hx111_3⟩ := at_T51 HR0.out x7_1 p111 q111
        cases e111
        replace hx111_0 := pw_cell_below HB.out hx111_0
        replace hx111_1 := pw_cell_below HB.out hx111_1
        replace hx111_2 := pw_cell_below HB.out hx111_2
        replace hx111_3 := pw_cell_below HB.out hx111_3
        replace p111 := eq_true p111
        replace q111 := eq_true q111
        try go_wp2_with (first | ((with_reducible refine gate_dst (N := 4) rfl ?_); refine zbe (N := 4) (cs := #[.int .i64 0, .int .i64 0, .int .i64 0, .int .i64 0]) (t := 51) ?_; intro gb112 hg w8 hbox hb; have BK112 := Aside0.mk (hbox); have GW112 := Aside0.mk (zge (zb0 HB) hg); have GE112 := GW112; replace HB := Aside0.mk (below_step (zb0 HB) hb); clear hb hbox hg; have hcz9_0 : w8.cell? ⟨gb112, 0, none⟩ = some (.int .i64 0) := zc BK112 0; have hcz9_1 : w8.cell? ⟨gb112, 1, none⟩ = some (.int .i64 0) := zc BK112 1; have hcz9_2 : w8.cell? ⟨gb112, 2, none⟩ = some (.int .i64 0) := zc BK112 2; have hcz9_3 : w8.cell? ⟨gb112, 3, none⟩ = some (.int .i64 0) := zc BK112 3; have hfz9_0 := blk_frozen BK112.out 0; have hfz9_1 := blk_frozen BK112.out 1; have hfz9_2 := blk_frozen BK112.out 2; have hfz9_3 := blk_frozen BK112.out 3))
        have n0_ : Aside0 (((((w8.setCell ⟨gb112, 0, none⟩ (.int .i64 ((rd_T51 l0 x7_1).f0))).setCell ⟨gb112, 1, none⟩ (.int .i64 ((rd_T51 l0 x7_1).f1))).setCell ⟨gb112, 2, none⟩ (.int .i64 ((rd_T51 l0 x7_1).f2))).setCell ⟨gb112, 3, none⟩ (.int .i64 ((rd_T51 l0 x7_1).f3))).heap[gb112]? = some (.cells #[.int .i64 ((rd_T51 l0 x7_1).f0), .int .i64 ((rd_T51 l0 x7_1).f1), .int .i64 ((rd_T51 l0 x7_1).f2), .int .i64 ((rd_T51 l0 x7_1).f3)] 51 (0, 0))) := ⟨by (with_reducible repeat (first | refine blk_drewN ?_ _ | refine blk_drew ?_ | refine blk_alloc ?_ _)); refine blk_put (cs := #[.int .i64 ((rd_T51 l0 x7_1).f0), .int .i64 ((rd_T51 l0 x7_1).f1), .int .i64 ((rd_T51 l0 x7_1).f2), .int .i64 0]) ?_ 3 _ rfl; (with_reducible repeat (first | refine blk_drewN ?_ _ | refine blk_drew ?_ | refine blk_alloc ?_ _)); refine blk_put (cs := #[.int .i64 ((rd_T51 l0 x7_1).f0), .int .i64 ((rd_T51 l0 x7_1).f1), .int .i64 0, .int .i64 0]) ?_ 2 _ rfl; (with_reducible repeat (first | refine blk_drewN ?_ _ | refine blk_drew ?_ | refine blk_alloc ?_ _)); refine blk_put (cs := #[.int .i64 ((rd_T51 l0 x7_1).f0), .int .i64 0, .int .i64 0, .int .i64 0]) ?_ 1 _ rfl; (with_reducible repeat (first | refine blk_drewN ?_ _ | refine blk_drew ?_ | refine blk_alloc ?_ _)); refine blk_put (cs := #[.int .i64 0, .int .i64 0, .int .i64 0, .int .i64 0]) ?_ 0 _ rfl; (with_reducible repeat (first | refine blk_drewN ?_ _ | refine blk_drew ?_ | refine blk_alloc ?_ _)); exact BK112.out⟩
        have n1_ : Aside0 (Below w.heap.size w ((((w8.setCell ⟨gb112, 0, none⟩ (.int .i64 ((rd_T51 l0 x7_1).f0))).setCell ⟨gb112, 1, none⟩ (.int .i64 ((rd_T51 l0 x7_1).f1))).setCell ⟨gb112, 2, none⟩ (.int .i64 ((rd_T51 l0 x7_1).f2))).setCell ⟨gb112, 3, none⟩ (.int .i64 ((rd_T51 l0 x7_1).f3)))) := ⟨(zb1 HB)⟩
        (try clear BK112)
        (try clear HB)
        generalize ((((w8.setCell ⟨gb112, 0, none⟩ (.int .i64 ((rd_T51 l0 x7_1).f0))).setCell ⟨gb112, 1, none⟩ (.int .i64 ((rd_T51 l0 x7_1).f1))).setCell ⟨gb112, 2, none⟩ (.int .i64 ((rd_T51 l0 x7_1).f2))).setCell ⟨gb112, 3, none⟩ (.int .i64 ((rd_T51 l0 x7_1).f3))) = w10 at n0_ n1_ ⊢
        have BK112 := n0_; have HB := n1_
        clear n0_ n1_
        replace BK112 := Aside0.mk (blk_drew BK112.out); replace HB := Aside0.mk (below_drew1 HB.out)
        refine start_ (n := 22) (S := fun w' => w'.cell? ⟨gb112, 0, none⟩ = some (.int .i64 ((rd_T51 l0 x7_1).f0)) ∧ w'.cell? ⟨gb112, 1, none⟩ = some (.int .i64 ((rd_T51 l0 x7_1).f1)) ∧ w'.cell? ⟨gb112, 2, none⟩ = some (.int .i64 ((rd_T51 l0 x7_1).f2)) ∧ w'.cell? ⟨gb112, 3, none⟩ = some (.int .i64 ((rd_T51 l0 x7_1).f3))) (ds := []) (bn 22 0) (by kernel_rfl) rfl rfl ⟨zc BK112 0, zc BK112 1, zc BK112 2, zc BK112 3⟩ (fun hHeld => ?_); refine with_tabW spec_poGood.tab4 spec_poGood.bits4 (fun HT_ HW_ => ?_)
        generalize w10.drew = w11 at BK112 HB hHeld ⊢
        refine zk (i := 0) (N := some 12) (bn 22 1) (take_ofW HT_.out HW_.out (by kernel_rfl)) hHeld ?_
        refine one_ (i := 1) (N := some 13) (bn 22 3) rfl rfl (one_of HT_.out (by kernel_rfl)) (by decide) (fun K hK => ?_)
        refine goes_ Try.func66 (by kernel_rfl) rfl #[.agg #[.int .i64 ((rd_T51 l0 x7_1).f0), .int .i64 ((rd_T51 l0 x7_1).f1), .int .i64 ((rd_T51 l0 x7_1).f2), .int .i64 ((rd_T51 l0 x7_1).f3)]] (by rfl) rfl rfl zq6 ?_
        with_reducible refine (spec_poTerm.calls ((rd_T51 l0 x7_1).f0) ((rd_T51 l0 x7_1).f1) ((rd_T51 l0 x7_1).f2) ((rd_T51 l0 x7_1).f3) true _ A5.out).mono ?_
        rintro e w12 ⟨rfl, hb⟩
        refine ⟨_, rfl, ?_⟩
        replace BK112 := Aside0.mk (zbb BK112 hb); replace HB := Aside0.mk (below_step (zb1 HB) hb)
        (try clear hb)
        (try clear hb2)
        (try clear hk)
        (try clear hi)
        refine hK.out _ _ ⟨zc BK112 0, zc BK112 1, zc BK112 2, zc BK112 3⟩ (fun hHeld => ?_)
        clear hK K
        refine norm_ (a' := ?_) ?_ ?_
        rotate_left
        ·
         show Act.put _ (some 13) _ = _
         simp only [Act.put, List.setIfInBounds_toArray, List.set_cons_zero, List.set_cons_succ, i64_w, i32_w]; rfl
        refine zp (i := 2) (N := some 14) (bn 22 7) (any_of HT_.out (by kernel_rfl)) ?_
        refine zp (i := 3) (N := some 15) (bn 22 15) (any_of HT_.out (by kernel_rfl)) ?_
        refine zp (i := 4) (N := some 16) (bn 22 31) (any_of HT_.out (by kernel_rfl)) ?_
        refine zk (i := 5) (N := some 17) (bn 22 63) (take_ofW HT_.out HW_.out (by kernel_rfl)) hHeld ?_
        refine zp (i := 6) (N := some 18) (bn 22 127) (any_of HT_.out (by kernel_rfl)) ?_
        refine zp (i := 7) (N := some 19) (bn 22 255) (any_of HT_.out (by kernel_rfl)) ?_
        refine zp (i := 8) (N := some 20) (bn 22 511) (any_of HT_.out (by kernel_rfl)) ?_
        refine zu (i := 9) (N := some 21) (bn 22 1023) (any_of HT_.out (by kernel_rfl)) ?_
        refine zu (i := 10) (N := some 22) (bn 22 2047) (any_of HT_.out (by kernel_rfl)) ?_
        refine zu (i := 11) (N := some 23) (bn 22 4095) (any_of HT_.out (by kernel_rfl)) ?_
        refine zu (i := 12) (N := some 24) (bn 22 8191) (any_of HT_.out (by kernel_rfl)) ?_
        refine zu (i := 13) (N := some 25) (bn 22 16383) (any_of HT_.out (by kernel_rfl)) ?_
        refine zu (i := 14) (N := some 26) (bn 22 32767) (any_of HT_.out (by kernel_rfl)) ?_
        refine zu (i := 15) (N := some 27) (bn 22 65535) (any_of HT_.out (by kernel_rfl)) ?_
        refine zu (i := 16) (N := some 28) (bn 22 131071) (any_of HT_.out (by kernel_rfl)) ?_
        refine zu (i := 17) (N := some 29) (bn 22 262143) (any_of HT_.out (by kernel_rfl)) ?_
        refine zu (i := 18) (N := some 30) (bn 22 524287) (any_of HT_.out (by kernel_rfl)) ?_
        refine zu (i := 19) (N := some 31) (bn 22 1048575) (any_of HT_.out (by kernel_rfl)) ?_
        refine zu (i := 20) (N := some 32) (bn 22 2097151) (any_of HT_.out (by kernel_rfl)) ?_
        refine zp (i := 21) (N := some 33) (bn 22 4194303) (any_of HT_.out (by kernel_rfl)) ?_
        refine done_ (done_of HT_.out (by kernel_rfl)) ?_
        try go_wp2
        go_ret
        exact ⟨by first | rfl | (simp [errW_none, errW_some] <;> rfl) | (simp [*, errW_none, errW_some] <;> rfl), (zb1 HB)⟩
       ·
        rw [if_neg c7] at H
        have c7b0 : (((rd_T51 l0 x7_1).f0) == 0) = false := beq_eq_false_iff_ne.mpr c7
        have c7b1 : (((rd_T51 l0 x7_1).f0) != 0) = true := bne_iff_ne.mpr c7
        by_cases c13 : x7_1 > 0
        ·
         rw [if_pos c13] at H
         have c13b0 : decide (0 < x7_1) = true := decide_eq_true c13
         clear c13
         obtain ⟨ji14, hji14⟩ : ∃ j_ : Int, (wrap64 (x7_1 - 1)) = j_ := ⟨_, rfl⟩
         replace H : (if 0 ≤ (ji14) then (if (ji14) < (l0.length : Int) then ((spec_poOrder.f ((rd_T51 l0 (ji14)).f0) ((rd_T51 l0 (ji14)).f1) ((rd_T51 l0 (ji14)).f2) ((rd_T51 l0 (ji14)).f3) ((rd_T51 l0 x7_1).f0) ((rd_T51 l0 x7_1).f1) ((rd_T51 l0 x7_1).f2) ((rd_T51 l0 x7_1).f3)).bind fun t115 => (if t115 ≥ 0 then (some false) else (spec_poGood.l0 k1 l0 l0 (l0.length : Int) (wrap64 (x7_1 + 1))))) else (none)) else (none)) = some r := by first | (rw [hji14] at H; exact H) | (simp only [hji14] at H ⊢; exact H)
         (try rw [hji14] at A5)
         have hji14w : (IntKind.i64.wrap (x7_1 - 1)) = ji14 := (i64_w _).trans hji14
         by_cases c15 : 0 ≤ (ji14)
         ·
          rw [if_pos c15] at H
          have c15b0 : decide (0 ≤ (ji14)) = true := decide_eq_true c15
          clear c15
          by_cases c16 : (ji14) < (l0.length : Int)
          ·
           rw [if_pos c16] at H
           have c16b0 : decide ((ji14) < (l0.length : Int)) = true := decide_eq_true c16
           clear c16
           replace H := Option.bind_eq_some_iff.mp H
           obtain ⟨t115, A170, H⟩ := H
           replace H : (if t115 ≥ 0 then (some false) else (spec_poGood.l0 k1 l0 l0 (l0.length : Int) (wrap64 (x7_1 + 1)))) = some r := H
           have A17 := Aside0.mk A170
           clear A170
           by_cases c18 : t115 ≥ 0
           ·
            rw [if_pos c18] at H
            have c18b0 : decide (0 ≤ t115) = true := decide_eq_true c18
            clear c18
            obtain rfl := Option.some.inj H
            have p111 : 0 ≤ (x7_1 : Int) := of_decide_eq_true (by first | (with_reducible assumption) | assumption)
            have q111 : x7_1 < (l0.length : Int) := of_decide_eq_true (by first | (with_reducible assumption) | assumption)
            obtain ⟨ad111, e111, hx111_0, hx111_1, hx111_2, hx111_3⟩ := at_T51 HR0.out x7_1 p111 q111
            cases e111
            replace hx111_0 := pw_cell_below HB.out hx111_0
            replace hx111_1 := pw_cell_below HB.out hx111_1
            replace hx111_2 := pw_cell_below HB.out hx111_2
            replace hx111_3 := pw_cell_below HB.out hx111_3
            replace p111 := eq_true p111
            replace q111 := eq_true q111
            try go_wp2_with (first | ((with_reducible refine gate_dst (N := 4) rfl ?_); refine zbe (N := 4) (cs := #[.int .i64 0, .int .i64 0, .int .i64 0, .int .i64 0]) (t := 51) ?_; intro gb112 hg w19 hbox hb; have BK112 := Aside0.mk (hbox); have GW112 := Aside0.mk (zge (zb0 HB) hg); have GE112 := GW112; replace HB := Aside0.mk (below_step (zb0 HB) hb); clear hb hbox hg; have hcz20_0 : w19.cell? ⟨gb112, 0, none⟩ = some (.int .i64 0) := zc BK112 0; have hcz20_1 : w19.cell? ⟨gb112, 1, none⟩ = some (.int .i64 0) := zc BK112 1; have hcz20_2 : w19.cell? ⟨gb112, 2, none⟩ = some (.int .i64 0) := zc BK112 2; have hcz20_3 : w19.cell? ⟨gb112, 3, none⟩ = some (.int .i64 0) := zc BK112 3; have hfz20_0 := blk_frozen BK112.out 0; have hfz20_1 := blk_frozen BK112.out 1; have hfz20_2 := blk_frozen BK112.out 2; have hfz20_3 := blk_frozen BK112.out 3))
            have n0_ : Aside0 (((((w19.setCell ⟨gb112, 0, none⟩ (.int .i64 ((rd_T51 l0 x7_1).f0))).setCell ⟨gb112, 1, none⟩ (.int .i64 ((rd_T51 l0 x7_1).f1))).setCell ⟨gb112, 2, none⟩ (.int .i64 ((rd_T51 l0 x7_1).f2))).setCell ⟨gb112, 3, none⟩ (.int .i64 ((rd_T51 l0 x7_1).f3))).heap[gb112]? = some (.cells #[.int .i64 ((rd_T51 l0 x7_1).f0), .int .i64 ((rd_T51 l0 x7_1).f1), .int .i64 ((rd_T51 l0 x7_1).f2), .int .i64 ((rd_T51 l0 x7_1).f3)] 51 (0, 0))) := ⟨by (with_reducible repeat (first | refine blk_drewN ?_ _ | refine blk_drew ?_ | refine blk_alloc ?_ _)); refine blk_put (cs := #[.int .i64 ((rd_T51 l0 x7_1).f0), .int .i64 ((rd_T51 l0 x7_1).f1), .int .i64 ((rd_T51 l0 x7_1).f2), .int .i64 0]) ?_ 3 _ rfl; (with_reducible repeat (first | refine blk_drewN ?_ _ | refine blk_drew ?_ | refine blk_alloc ?_ _)); refine blk_put (cs := #[.int .i64 ((rd_T51 l0 x7_1).f0), .int .i64 ((rd_T51 l0 x7_1).f1), .int .i64 0, .int .i64 0]) ?_ 2 _ rfl; (with_reducible repeat (first | refine blk_drewN ?_ _ | refine blk_drew ?_ | refine blk_alloc ?_ _)); refine blk_put (cs := #[.int .i64 ((rd_T51 l0 x7_1).f0), .int .i64 0, .int .i64 0, .int .i64 0]) ?_ 1 _ rfl; (with_reducible repeat (first | refine blk_drewN ?_ _ | refine blk_drew ?_ | refine blk_alloc ?_ _)); refine blk_put (cs := #[.int .i64 0, .int .i64 0, .int .i64 0, .int .i64 0]) ?_ 0 _ rfl; (with_reducible repeat (first | refine blk_drewN ?_ _ | refine blk_drew ?_ | refine blk_alloc ?_ _)); exact BK112.out⟩
            have n1_ : Aside0 (Below w.heap.size w ((((w19.setCell ⟨gb112, 0, none⟩ (.int .i64 ((rd_T51 l0 x7_1).f0))).setCell ⟨gb112, 1, none⟩ (.int .i64 ((rd_T51 l0 x7_1).f1))).setCell ⟨gb112, 2, none⟩ (.int .i64 ((rd_T51 l0 x7_1).f2))).setCell ⟨gb112, 3, none⟩ (.int .i64 ((rd_T51 l0 x7_1).f3)))) := ⟨(zb1 HB)⟩
            (try clear BK112)
            (try clear HB)
            generalize ((((w19.setCell ⟨gb112, 0, none⟩ (.int .i64 ((rd_T51 l0 x7_1).f0))).setCell ⟨gb112, 1, none⟩ (.int .i64 ((rd_T51 l0 x7_1).f1))).setCell ⟨gb112, 2, none⟩ (.int .i64 ((rd_T51 l0 x7_1).f2))).setCell ⟨gb112, 3, none⟩ (.int .i64 ((rd_T51 l0 x7_1).f3))) = w21 at n0_ n1_ ⊢
            have BK112 := n0_; have HB := n1_
            clear n0_ n1_
            replace BK112 := Aside0.mk (blk_drew BK112.out); replace HB := Aside0.mk (below_drew1 HB.out)
            have p114 : 0 ≤ ((ji14) : Int) := of_decide_eq_true (by first | (with_reducible assumption) | assumption)
            have q114 : (ji14) < (l0.length : Int) := of_decide_eq_true (by first | (with_reducible assumption) | assumption)
            obtain ⟨ad114, e114, hx114_0, hx114_1, hx114_2, hx114_3⟩ := at_T51 HR0.out (ji14) p114 q114
            have hw114_3 := hx114_3; have hw114_2 := hx114_2; have hw114_1 := hx114_1; have hw114_0 := hx114_0
            obtain rfl : ad111 = ad114 := (by injection e114)
            replace hx114_0 := pw_cell_below HB.out hx114_0
            replace hx114_1 := pw_cell_below HB.out hx114_1
            replace hx114_2 := pw_cell_below HB.out hx114_2
            replace hx114_3 := pw_cell_below HB.out hx114_3
            replace p114 := eq_true p114
            replace q114 := eq_true q114
            refine start_ (n := 22) (S := fun w' => w'.cell? ⟨gb112, 0, none⟩ = some (.int .i64 ((rd_T51 l0 x7_1).f0)) ∧ w'.cell? ⟨gb112, 1, none⟩ = some (.int .i64 ((rd_T51 l0 x7_1).f1)) ∧ w'.cell? ⟨gb112, 2, none⟩ = some (.int .i64 ((rd_T51 l0 x7_1).f2)) ∧ w'.cell? ⟨gb112, 3, none⟩ = some (.int .i64 ((rd_T51 l0 x7_1).f3)) ∧ w'.cell? (ad111.add (((ji14)).toNat * 4)) = some (.int .i64 ((rd_T51 l0 (ji14)).f0)) ∧ w'.cell? ⟨(ad111.add (((ji14)).toNat * 4)).block, (ad111.add (((ji14)).toNat * 4)).off + 1, none⟩ = some (.int .i64 ((rd_T51 l0 (ji14)).f1)) ∧ w'.cell? ⟨(ad111.add (((ji14)).toNat * 4)).block, (ad111.add (((ji14)).toNat * 4)).off + 2, none⟩ = some (.int .i64 ((rd_T51 l0 (ji14)).f2)) ∧ w'.cell? ⟨(ad111.add (((ji14)).toNat * 4)).block, (ad111.add (((ji14)).toNat * 4)).off + 3, none⟩ = some (.int .i64 ((rd_T51 l0 (ji14)).f3))) (ds := []) (bn 22 0) (by kernel_rfl) rfl rfl ⟨zc BK112 0, zc BK112 1, zc BK112 2, zc BK112 3, (pw_cell_below HB.out hw114_0), (pw_cell_below HB.out hw114_1), (pw_cell_below HB.out hw114_2), (pw_cell_below HB.out hw114_3)⟩ (fun hHeld => ?_); refine with_tabW spec_poGood.tab4 spec_poGood.bits4 (fun HT_ HW_ => ?_)
            generalize w21.drew = w22 at BK112 HB hx114_0 hx114_1 hx114_2 hx114_3 hHeld ⊢
            refine zk (i := 0) (N := some 12) (bn 22 1) (take_ofW HT_.out HW_.out (by kernel_rfl)) hHeld ?_
            refine one_ (i := 1) (N := some 13) (bn 22 3) rfl rfl (one_of HT_.out (by kernel_rfl)) (by decide) (fun K hK => ?_)
            refine goes_ Try.func66 (by kernel_rfl) rfl #[.agg #[.int .i64 ((rd_T51 l0 x7_1).f0), .int .i64 ((rd_T51 l0 x7_1).f1), .int .i64 ((rd_T51 l0 x7_1).f2), .int .i64 ((rd_T51 l0 x7_1).f3)]] (by rfl) rfl rfl zq6 ?_
            with_reducible refine (spec_poTerm.calls ((rd_T51 l0 x7_1).f0) ((rd_T51 l0 x7_1).f1) ((rd_T51 l0 x7_1).f2) ((rd_T51 l0 x7_1).f3) true _ A5.out).mono ?_
            rintro e w23 ⟨rfl, hb⟩
            refine ⟨_, rfl, ?_⟩
            replace BK112 := Aside0.mk (zbb BK112 hb); replace HB := Aside0.mk (below_step (zb1 HB) hb)
            (try clear hb)
            (try clear hb2)
            (try clear hk)
            (try clear hi)
            refine hK.out _ _ ⟨zc BK112 0, zc BK112 1, zc BK112 2, zc BK112 3, (pw_cell_below HB.out hw114_0), (pw_cell_below HB.out hw114_1), (pw_cell_below HB.out hw114_2), (pw_cell_below HB.out hw114_3)⟩ (fun hHeld => ?_)
            clear hK K
            refine norm_ (a' := ?_) ?_ ?_
            rotate_left
            ·
             show Act.put _ (some 13) _ = _
             simp only [Act.put, List.setIfInBounds_toArray, List.set_cons_zero, List.set_cons_succ, i64_w, i32_w]; rfl
            refine zp (i := 2) (N := some 14) (bn 22 7) (any_of HT_.out (by kernel_rfl)) ?_
            refine zp (i := 3) (N := some 15) (bn 22 15) (any_of HT_.out (by kernel_rfl)) ?_
            refine zp (i := 4) (N := some 16) (bn 22 31) (any_of HT_.out (by kernel_rfl)) ?_
            refine zk (i := 5) (N := some 17) (bn 22 63) (take_ofW HT_.out HW_.out (by kernel_rfl)) hHeld ?_
            refine zp (i := 6) (N := some 18) (bn 22 127) (any_of HT_.out (by kernel_rfl)) ?_
            refine zp (i := 7) (N := some 19) (bn 22 255) (any_of HT_.out (by kernel_rfl)) ?_
            refine zp (i := 8) (N := some 20) (bn 22 511) (any_of HT_.out (by kernel_rfl)) ?_
            refine zp (i := 9) (N := some 21) (bn 22 1023) (any_of HT_.out (by kernel_rfl)) ?_
            refine zp (i := 10) (N := some 22) (bn 22 2047) (any_of HT_.out (by kernel_rfl)) ?_
            refine zp (i := 11) (N := some 23) (bn 22 4095) (any_of HT_.out (by kernel_rfl)) ?_
            refine zp (i := 12) (N := some 24) (bn 22 8191) (any_of HT_.out (by kernel_rfl)) ?_
            refine zp (i := 13) (N := some 25) (bn 22 16383) (any_of HT_.out (by kernel_rfl)) ?_
            refine zp (i := 14) (N := some 26) (bn 22 32767) (any_of HT_.out (by kernel_rfl)) ?_
            refine zp (i := 15) (N := some 27) (bn 22 65535) (any_of HT_.out (by kernel_rfl)) ?_
            refine zk (i := 16) (N := some 28) (bn 22 131071) (take_ofW HT_.out HW_.out (by kernel_rfl)) hHeld ?_
            refine zk (i := 17) (N := some 29) (bn 22 262143) (take_ofW HT_.out HW_.out (by kernel_rfl)) hHeld ?_
            refine one_ (i := 18) (N := some 30) (bn 22 524287) rfl rfl (one_of HT_.out (by kernel_rfl)) (by decide) (fun K hK => ?_)
            refine goes_ Try.func69 (by kernel_rfl) rfl #[.agg #[.int .i64 ((rd_T51 l0 (ji14)).f0), .int .i64 ((rd_T51 l0 (ji14)).f1), .int .i64 ((rd_T51 l0 (ji14)).f2), .int .i64 ((rd_T51 l0 (ji14)).f3)], .agg #[.int .i64 ((rd_T51 l0 x7_1).f0), .int .i64 ((rd_T51 l0 x7_1).f1), .int .i64 ((rd_T51 l0 x7_1).f2), .int .i64 ((rd_T51 l0 x7_1).f3)]] (by rfl) rfl rfl (by (try simp only [List.map_toArray, List.map_cons, List.map_nil]); first | done | (simp only [hji14]; rfl) | rfl | (simp only [List.length_drop, List.length_take]; rfl)) ?_
            with_reducible refine (spec_poOrder.calls ((rd_T51 l0 (ji14)).f0) ((rd_T51 l0 (ji14)).f1) ((rd_T51 l0 (ji14)).f2) ((rd_T51 l0 (ji14)).f3) ((rd_T51 l0 x7_1).f0) ((rd_T51 l0 x7_1).f1) ((rd_T51 l0 x7_1).f2) ((rd_T51 l0 x7_1).f3) t115 _ A17.out).mono ?_
            rintro e w24 ⟨rfl, hb⟩
            refine ⟨_, rfl, ?_⟩
            replace BK112 := Aside0.mk (zbb BK112 hb); replace HB := Aside0.mk (below_step (zb1 HB) hb)
            (try clear hb)
            (try clear hb2)
            (try clear hk)
            (try clear hi)
            refine hK.out _ _ ⟨zc BK112 0, zc BK112 1, zc BK112 2, zc BK112 3, (pw_cell_below HB.out hw114_0), (pw_cell_below HB.out hw114_1), (pw_cell_below HB.out hw114_2), (pw_cell_below HB.out hw114_3)⟩ (fun hHeld => ?_)
            clear hK K
            refine norm_ (a' := ?_) ?_ ?_
            rotate_left
            ·
             show Act.put _ (some 30) _ = _
             simp only [Act.put, List.setIfInBounds_toArray, List.set_cons_zero, List.set_cons_succ, i64_w, i32_w]; rfl
            refine zp (i := 19) (N := some 31) (bn 22 1048575) (any_of HT_.out (by kernel_rfl)) ?_
            refine zp (i := 20) (N := some 32) (bn 22 2097151) (any_of HT_.out (by kernel_rfl)) ?_
            refine zp (i := 21) (N := some 33) (bn 22 4194303) (any_of HT_.out (by kernel_rfl)) ?_
            refine done_ (done_of HT_.out (by kernel_rfl)) ?_
            try go_wp2
            go_ret
            exact ⟨by first | rfl | (simp [errW_none, errW_some] <;> rfl) | (simp only [← hji14]; first | rfl | (simp [errW_none, errW_some] <;> rfl)) | (simp [*, errW_none, errW_some] <;> rfl), (zb1 HB)⟩
           ·
            rw [if_neg c18] at H
            have c18b0 : decide (0 ≤ t115) = false := decide_eq_false c18
            clear c18
            have H' := Aside0.mk H
            clear H
            have p111 : 0 ≤ (x7_1 : Int) := of_decide_eq_true (by first | (with_reducible assumption) | assumption)
            have q111 : x7_1 < (l0.length : Int) := of_decide_eq_true (by first | (with_reducible assumption) | assumption)
            obtain ⟨ad111, e111, hx111_0, hx111_1, hx111_2, hx111_3⟩ := at_T51 HR0.out x7_1 p111 q111
            cases e111
            replace hx111_0 := pw_cell_below HB.out hx111_0
            replace hx111_1 := pw_cell_below HB.out hx111_1
            replace hx111_2 := pw_cell_below HB.out hx111_2
            replace hx111_3 := pw_cell_below HB.out hx111_3
            replace p111 := eq_true p111
            replace q111 := eq_true q111
            try go_wp2_with (first | ((with_reducible refine gate_dst (N := 4) rfl ?_); refine zbe (N := 4) (cs := #[.int .i64 0, .int .i64 0, .int .i64 0, .int .i64 0]) (t := 51) ?_; intro gb112 hg w25 hbox hb; have BK112 := Aside0.mk (hbox); have GW112 := Aside0.mk (zge (zb0 HB) hg); have GE112 := GW112; replace HB := Aside0.mk (below_step (zb0 HB) hb); clear hb hbox hg; have hcz26_0 : w25.cell? ⟨gb112, 0, none⟩ = some (.int .i64 0) := zc BK112 0; have hcz26_1 : w25.cell? ⟨gb112, 1, none⟩ = some (.int .i64 0) := zc BK112 1; have hcz26_2 : w25.cell? ⟨gb112, 2, none⟩ = some (.int .i64 0) := zc BK112 2; have hcz26_3 : w25.cell? ⟨gb112, 3, none⟩ = some (.int .i64 0) := zc BK112 3; have hfz26_0 := blk_frozen BK112.out 0; have hfz26_1 := blk_frozen BK112.out 1; have hfz26_2 := blk_frozen BK112.out 2; have hfz26_3 := blk_frozen BK112.out 3))
            have n0_ : Aside0 (((((w25.setCell ⟨gb112, 0, none⟩ (.int .i64 ((rd_T51 l0 x7_1).f0))).setCell ⟨gb112, 1, none⟩ (.int .i64 ((rd_T51 l0 x7_1).f1))).setCell ⟨gb112, 2, none⟩ (.int .i64 ((rd_T51 l0 x7_1).f2))).setCell ⟨gb112, 3, none⟩ (.int .i64 ((rd_T51 l0 x7_1).f3))).heap[gb112]? = some (.cells #[.int .i64 ((rd_T51 l0 x7_1).f0), .int .i64 ((rd_T51 l0 x7_1).f1), .int .i64 ((rd_T51 l0 x7_1).f2), .int .i64 ((rd_T51 l0 x7_1).f3)] 51 (0, 0))) := ⟨by (with_reducible repeat (first | refine blk_drewN ?_ _ | refine blk_drew ?_ | refine blk_alloc ?_ _)); refine blk_put (cs := #[.int .i64 ((rd_T51 l0 x7_1).f0), .int .i64 ((rd_T51 l0 x7_1).f1), .int .i64 ((rd_T51 l0 x7_1).f2), .int .i64 0]) ?_ 3 _ rfl; (with_reducible repeat (first | refine blk_drewN ?_ _ | refine blk_drew ?_ | refine blk_alloc ?_ _)); refine blk_put (cs := #[.int .i64 ((rd_T51 l0 x7_1).f0), .int .i64 ((rd_T51 l0 x7_1).f1), .int .i64 0, .int .i64 0]) ?_ 2 _ rfl; (with_reducible repeat (first | refine blk_drewN ?_ _ | refine blk_drew ?_ | refine blk_alloc ?_ _)); refine blk_put (cs := #[.int .i64 ((rd_T51 l0 x7_1).f0), .int .i64 0, .int .i64 0, .int .i64 0]) ?_ 1 _ rfl; (with_reducible repeat (first | refine blk_drewN ?_ _ | refine blk_drew ?_ | refine blk_alloc ?_ _)); refine blk_put (cs := #[.int .i64 0, .int .i64 0, .int .i64 0, .int .i64 0]) ?_ 0 _ rfl; (with_reducible repeat (first | refine blk_drewN ?_ _ | refine blk_drew ?_ | refine blk_alloc ?_ _)); exact BK112.out⟩
            have n1_ : Aside0 (Below w.heap.size w ((((w25.setCell ⟨gb112, 0, none⟩ (.int .i64 ((rd_T51 l0 x7_1).f0))).setCell ⟨gb112, 1, none⟩ (.int .i64 ((rd_T51 l0 x7_1).f1))).setCell ⟨gb112, 2, none⟩ (.int .i64 ((rd_T51 l0 x7_1).f2))).setCell ⟨gb112, 3, none⟩ (.int .i64 ((rd_T51 l0 x7_1).f3)))) := ⟨(zb1 HB)⟩
            (try clear BK112)
            (try clear HB)
            generalize ((((w25.setCell ⟨gb112, 0, none⟩ (.int .i64 ((rd_T51 l0 x7_1).f0))).setCell ⟨gb112, 1, none⟩ (.int .i64 ((rd_T51 l0 x7_1).f1))).setCell ⟨gb112, 2, none⟩ (.int .i64 ((rd_T51 l0 x7_1).f2))).setCell ⟨gb112, 3, none⟩ (.int .i64 ((rd_T51 l0 x7_1).f3))) = w27 at n0_ n1_ ⊢
            have BK112 := n0_; have HB := n1_
            clear n0_ n1_
            replace BK112 := Aside0.mk (blk_drew BK112.out); replace HB := Aside0.mk (below_drew1 HB.out)
            have p114 : 0 ≤ ((ji14) : Int) := of_decide_eq_true (by first | (with_reducible assumption) | assumption)
            have q114 : (ji14) < (l0.length : Int) := of_decide_eq_true (by first | (with_reducible assumption) | assumption)
            obtain ⟨ad114, e114, hx114_0, hx114_1, hx114_2, hx114_3⟩ := at_T51 HR0.out (ji14) p114 q114
            have hw114_3 := hx114_3; have hw114_2 := hx114_2; have hw114_1 := hx114_1; have hw114_0 := hx114_0
            obtain rfl : ad111 = ad114 := (by injection e114)
            replace hx114_0 := pw_cell_below HB.out hx114_0
            replace hx114_1 := pw_cell_below HB.out hx114_1
            replace hx114_2 := pw_cell_below HB.out hx114_2
            replace hx114_3 := pw_cell_below HB.out hx114_3
            replace p114 := eq_true p114
            replace q114 := eq_true q114
            refine start_ (n := 22) (S := fun w' => w'.cell? ⟨gb112, 0, none⟩ = some (.int .i64 ((rd_T51 l0 x7_1).f0)) ∧ w'.cell? ⟨gb112, 1, none⟩ = some (.int .i64 ((rd_T51 l0 x7_1).f1)) ∧ w'.cell? ⟨gb112, 2, none⟩ = some (.int .i64 ((rd_T51 l0 x7_1).f2)) ∧ w'.cell? ⟨gb112, 3, none⟩ = some (.int .i64 ((rd_T51 l0 x7_1).f3)) ∧ w'.cell? (ad111.add (((ji14)).toNat * 4)) = some (.int .i64 ((rd_T51 l0 (ji14)).f0)) ∧ w'.cell? ⟨(ad111.add (((ji14)).toNat * 4)).block, (ad111.add (((ji14)).toNat * 4)).off + 1, none⟩ = some (.int .i64 ((rd_T51 l0 (ji14)).f1)) ∧ w'.cell? ⟨(ad111.add (((ji14)).toNat * 4)).block, (ad111.add (((ji14)).toNat * 4)).off + 2, none⟩ = some (.int .i64 ((rd_T51 l0 (ji14)).f2)) ∧ w'.cell? ⟨(ad111.add (((ji14)).toNat * 4)).block, (ad111.add (((ji14)).toNat * 4)).off + 3, none⟩ = some (.int .i64 ((rd_T51 l0 (ji14)).f3))) (ds := []) (bn 22 0) (by kernel_rfl) rfl rfl ⟨zc BK112 0, zc BK112 1, zc BK112 2, zc BK112 3, (pw_cell_below HB.out hw114_0), (pw_cell_below HB.out hw114_1), (pw_cell_below HB.out hw114_2), (pw_cell_below HB.out hw114_3)⟩ (fun hHeld => ?_); refine with_tabW spec_poGood.tab4 spec_poGood.bits4 (fun HT_ HW_ => ?_)
            generalize w27.drew = w28 at BK112 HB hx114_0 hx114_1 hx114_2 hx114_3 hHeld ⊢
            refine zk (i := 0) (N := some 12) (bn 22 1) (take_ofW HT_.out HW_.out (by kernel_rfl)) hHeld ?_
            refine one_ (i := 1) (N := some 13) (bn 22 3) rfl rfl (one_of HT_.out (by kernel_rfl)) (by decide) (fun K hK => ?_)
            refine goes_ Try.func66 (by kernel_rfl) rfl #[.agg #[.int .i64 ((rd_T51 l0 x7_1).f0), .int .i64 ((rd_T51 l0 x7_1).f1), .int .i64 ((rd_T51 l0 x7_1).f2), .int .i64 ((rd_T51 l0 x7_1).f3)]] (by rfl) rfl rfl zq6 ?_
            with_reducible refine (spec_poTerm.calls ((rd_T51 l0 x7_1).f0) ((rd_T51 l0 x7_1).f1) ((rd_T51 l0 x7_1).f2) ((rd_T51 l0 x7_1).f3) true _ A5.out).mono ?_
            rintro e w29 ⟨rfl, hb⟩
            refine ⟨_, rfl, ?_⟩
            replace BK112 := Aside0.mk (zbb BK112 hb); replace HB := Aside0.mk (below_step (zb1 HB) hb)
            (try clear hb)
            (try clear hb2)
            (try clear hk)
            (try clear hi)
            refine hK.out _ _ ⟨zc BK112 0, zc BK112 1, zc BK112 2, zc BK112 3, (pw_cell_below HB.out hw114_0), (pw_cell_below HB.out hw114_1), (pw_cell_below HB.out hw114_2), (pw_cell_below HB.out hw114_3)⟩ (fun hHeld => ?_)
            clear hK K
            refine norm_ (a' := ?_) ?_ ?_
            rotate_left
            ·
             show Act.put _ (some 13) _ = _
             simp only [Act.put, List.setIfInBounds_toArray, List.set_cons_zero, List.set_cons_succ, i64_w, i32_w]; rfl
            refine zp (i := 2) (N := some 14) (bn 22 7) (any_of HT_.out (by kernel_rfl)) ?_
            refine zp (i := 3) (N := some 15) (bn 22 15) (any_of HT_.out (by kernel_rfl)) ?_
            refine zp (i := 4) (N := some 16) (bn 22 31) (any_of HT_.out (by kernel_rfl)) ?_
            refine zk (i := 5) (N := some 17) (bn 22 63) (take_ofW HT_.out HW_.out (by kernel_rfl)) hHeld ?_
            refine zp (i := 6) (N := some 18) (bn 22 127) (any_of HT_.out (by kernel_rfl)) ?_
            refine zp (i := 7) (N := some 19) (bn 22 255) (any_of HT_.out (by kernel_rfl)) ?_
            refine zp (i := 8) (N := some 20) (bn 22 511) (any_of HT_.out (by kernel_rfl)) ?_
            refine zp (i := 9) (N := some 21) (bn 22 1023) (any_of HT_.out (by kernel_rfl)) ?_
            refine zp (i := 10) (N := some 22) (bn 22 2047) (any_of HT_.out (by kernel_rfl)) ?_
            refine zp (i := 11) (N := some 23) (bn 22 4095) (any_of HT_.out (by kernel_rfl)) ?_
            refine zp (i := 12) (N := some 24) (bn 22 8191) (any_of HT_.out (by kernel_rfl)) ?_
            refine zp (i := 13) (N := some 25) (bn 22 16383) (any_of HT_.out (by kernel_rfl)) ?_
            refine zp (i := 14) (N := some 26) (bn 22 32767) (any_of HT_.out (by kernel_rfl)) ?_
            refine zp (i := 15) (N := some 27) (bn 22 65535) (any_of HT_.out (by kernel_rfl)) ?_
            refine zk (i := 16) (N := some 28) (bn 22 131071) (take_ofW HT_.out HW_.out (by kernel_rfl)) hHeld ?_
            refine zk (i := 17) (N := some 29) (bn 22 262143) (take_ofW HT_.out HW_.out (by kernel_rfl)) hHeld ?_
            refine one_ (i := 18) (N := some 30) (bn 22 524287) rfl rfl (one_of HT_.out (by kernel_rfl)) (by decide) (fun K hK => ?_)
            refine goes_ Try.func69 (by kernel_rfl) rfl #[.agg #[.int .i64 ((rd_T51 l0 (ji14)).f0), .int .i64 ((rd_T51 l0 (ji14)).f1), .int .i64 ((rd_T51 l0 (ji14)).f2), .int .i64 ((rd_T51 l0 (ji14)).f3)], .agg #[.int .i64 ((rd_T51 l0 x7_1).f0), .int .i64 ((rd_T51 l0 x7_1).f1), .int .i64 ((rd_T51 l0 x7_1).f2), .int .i64 ((rd_T51 l0 x7_1).f3)]] (by rfl) rfl rfl (by (try simp only [List.map_toArray, List.map_cons, List.map_nil]); first | done | (simp only [hji14]; rfl) | rfl | (simp only [List.length_drop, List.length_take]; rfl)) ?_
            with_reducible refine (spec_poOrder.calls ((rd_T51 l0 (ji14)).f0) ((rd_T51 l0 (ji14)).f1) ((rd_T51 l0 (ji14)).f2) ((rd_T51 l0 (ji14)).f3) ((rd_T51 l0 x7_1).f0) ((rd_T51 l0 x7_1).f1) ((rd_T51 l0 x7_1).f2) ((rd_T51 l0 x7_1).f3) t115 _ A17.out).mono ?_
            rintro e w30 ⟨rfl, hb⟩
            refine ⟨_, rfl, ?_⟩
            replace BK112 := Aside0.mk (zbb BK112 hb); replace HB := Aside0.mk (below_step (zb1 HB) hb)
            (try clear hb)
            (try clear hb2)
            (try clear hk)
            (try clear hi)
            refine hK.out _ _ ⟨zc BK112 0, zc BK112 1, zc BK112 2, zc BK112 3, (pw_cell_below HB.out hw114_0), (pw_cell_below HB.out hw114_1), (pw_cell_below HB.out hw114_2), (pw_cell_below HB.out hw114_3)⟩ (fun hHeld => ?_)
            clear hK K
            refine norm_ (a' := ?_) ?_ ?_
            rotate_left
            ·
             show Act.put _ (some 30) _ = _
             simp only [Act.put, List.setIfInBounds_toArray, List.set_cons_zero, List.set_cons_succ, i64_w, i32_w]; rfl
            refine zp (i := 19) (N := some 31) (bn 22 1048575) (any_of HT_.out (by kernel_rfl)) ?_
            refine zp (i := 20) (N := some 32) (bn 22 2097151) (any_of HT_.out (by kernel_rfl)) ?_
            refine zp (i := 21) (N := some 33) (bn 22 4194303) (any_of HT_.out (by kernel_rfl)) ?_
            refine done_ (done_of HT_.out (by kernel_rfl)) ?_
            try go_wp2
            go_roundg k1
            case measure => have := HK1.out; omega
            case rel => exact ⟨(wrap64 (x7_1 + 1)), (by first | rfl | (simp; done) | (simp [*]; done)), H', ⟨by have := HK1.out; omega⟩, ⟨(zb1 HB)⟩⟩
          ·
           rw [if_neg c16] at H
           exact absurd H (by simp)
         ·
          rw [if_neg c15] at H
          exact absurd H (by simp)
        ·
         rw [if_neg c13] at H
         have c13b0 : decide (0 < x7_1) = false := decide_eq_false c13
         clear c13
         have H' := Aside0.mk H
         clear H
         have p111 : 0 ≤ (x7_1 : Int) := of_decide_eq_true (by first | (with_reducible assumption) | assumption)
         have q111 : x7_1 < (l0.length : Int) := of_decide_eq_true (by first | (with_reducible assumption) | assumption)
         obtain ⟨ad111, e111, hx111_0, hx111_1, hx111_2, hx111_3⟩ := at_T51 HR0.out x7_1 p111 q111
         cases e111
         replace hx111_0 := pw_cell_below HB.out hx111_0
         replace hx111_1 := pw_cell_below HB.out hx111_1
         replace hx111_2 := pw_cell_below HB.out hx111_2
         replace hx111_3 := pw_cell_below HB.out hx111_3
         replace p111 := eq_true p111
         replace q111 := eq_true q111
         try go_wp2_with (first | ((with_reducible refine gate_dst (N := 4) rfl ?_); refine zbe (N := 4) (cs := #[.int .i64 0, .int .i64 0, .int .i64 0, .int .i64 0]) (t := 51) ?_; intro gb112 hg w31 hbox hb; have BK112 := Aside0.mk (hbox); have GW112 := Aside0.mk (zge (zb0 HB) hg); have GE112 := GW112; replace HB := Aside0.mk (below_step (zb0 HB) hb); clear hb hbox hg; have hcz32_0 : w31.cell? ⟨gb112, 0, none⟩ = some (.int .i64 0) := zc BK112 0; have hcz32_1 : w31.cell? ⟨gb112, 1, none⟩ = some (.int .i64 0) := zc BK112 1; have hcz32_2 : w31.cell? ⟨gb112, 2, none⟩ = some (.int .i64 0) := zc BK112 2; have hcz32_3 : w31.cell? ⟨gb112, 3, none⟩ = some (.int .i64 0) := zc BK112 3; have hfz32_0 := blk_frozen BK112.out 0; have hfz32_1 := blk_frozen BK112.out 1; have hfz32_2 := blk_frozen BK112.out 2; have hfz32_3 := blk_frozen BK112.out 3))
         have n0_ : Aside0 (((((w31.setCell ⟨gb112, 0, none⟩ (.int .i64 ((rd_T51 l0 x7_1).f0))).setCell ⟨gb112, 1, none⟩ (.int .i64 ((rd_T51 l0 x7_1).f1))).setCell ⟨gb112, 2, none⟩ (.int .i64 ((rd_T51 l0 x7_1).f2))).setCell ⟨gb112, 3, none⟩ (.int .i64 ((rd_T51 l0 x7_1).f3))).heap[gb112]? = some (.cells #[.int .i64 ((rd_T51 l0 x7_1).f0), .int .i64 ((rd_T51 l0 x7_1).f1), .int .i64 ((rd_T51 l0 x7_1).f2), .int .i64 ((rd_T51 l0 x7_1).f3)] 51 (0, 0))) := ⟨by (with_reducible repeat (first | refine blk_drewN ?_ _ | refine blk_drew ?_ | refine blk_alloc ?_ _)); refine blk_put (cs := #[.int .i64 ((rd_T51 l0 x7_1).f0), .int .i64 ((rd_T51 l0 x7_1).f1), .int .i64 ((rd_T51 l0 x7_1).f2), .int .i64 0]) ?_ 3 _ rfl; (with_reducible repeat (first | refine blk_drewN ?_ _ | refine blk_drew ?_ | refine blk_alloc ?_ _)); refine blk_put (cs := #[.int .i64 ((rd_T51 l0 x7_1).f0), .int .i64 ((rd_T51 l0 x7_1).f1), .int .i64 0, .int .i64 0]) ?_ 2 _ rfl; (with_reducible repeat (first | refine blk_drewN ?_ _ | refine blk_drew ?_ | refine blk_alloc ?_ _)); refine blk_put (cs := #[.int .i64 ((rd_T51 l0 x7_1).f0), .int .i64 0, .int .i64 0, .int .i64 0]) ?_ 1 _ rfl; (with_reducible repeat (first | refine blk_drewN ?_ _ | refine blk_drew ?_ | refine blk_alloc ?_ _)); refine blk_put (cs := #[.int .i64 0, .int .i64 0, .int .i64 0, .int .i64 0]) ?_ 0 _ rfl; (with_reducible repeat (first | refine blk_drewN ?_ _ | refine blk_drew ?_ | refine blk_alloc ?_ _)); exact BK112.out⟩
         have n1_ : Aside0 (Below w.heap.size w ((((w31.setCell ⟨gb112, 0, none⟩ (.int .i64 ((rd_T51 l0 x7_1).f0))).setCell ⟨gb112, 1, none⟩ (.int .i64 ((rd_T51 l0 x7_1).f1))).setCell ⟨gb112, 2, none⟩ (.int .i64 ((rd_T51 l0 x7_1).f2))).setCell ⟨gb112, 3, none⟩ (.int .i64 ((rd_T51 l0 x7_1).f3)))) := ⟨(zb1 HB)⟩
         (try clear BK112)
         (try clear HB)
         generalize ((((w31.setCell ⟨gb112, 0, none⟩ (.int .i64 ((rd_T51 l0 x7_1).f0))).setCell ⟨gb112, 1, none⟩ (.int .i64 ((rd_T51 l0 x7_1).f1))).setCell ⟨gb112, 2, none⟩ (.int .i64 ((rd_T51 l0 x7_1).f2))).setCell ⟨gb112, 3, none⟩ (.int .i64 ((rd_T51 l0 x7_1).f3))) = w33 at n0_ n1_ ⊢
         have BK112 := n0_; have HB := n1_
         clear n0_ n1_
         replace BK112 := Aside0.mk (blk_drew BK112.out); replace HB := Aside0.mk (below_drew1 HB.out)
         refine start_ (n := 22) (S := fun w' => w'.cell? ⟨gb112, 0, none⟩ = some (.int .i64 ((rd_T51 l0 x7_1).f0)) ∧ w'.cell? ⟨gb112, 1, none⟩ = some (.int .i64 ((rd_T51 l0 x7_1).f1)) ∧ w'.cell? ⟨gb112, 2, none⟩ = some (.int .i64 ((rd_T51 l0 x7_1).f2)) ∧ w'.cell? ⟨gb112, 3, none⟩ = some (.int .i64 ((rd_T51 l0 x7_1).f3))) (ds := []) (bn 22 0) (by kernel_rfl) rfl rfl ⟨zc BK112 0, zc BK112 1, zc BK112 2, zc BK112 3⟩ (fun hHeld => ?_); refine with_tabW spec_poGood.tab4 spec_poGood.bits4 (fun HT_ HW_ => ?_)
         generalize w33.drew = w34 at BK112 HB hHeld ⊢
         refine zk (i := 0) (N := some 12) (bn 22 1) (take_ofW HT_.out HW_.out (by kernel_rfl)) hHeld ?_
         refine one_ (i := 1) (N := some 13) (bn 22 3) rfl rfl (one_of HT_.out (by kernel_rfl)) (by decide) (fun K hK => ?_)
         refine goes_ Try.func66 (by kernel_rfl) rfl #[.agg #[.int .i64 ((rd_T51 l0 x7_1).f0), .int .i64 ((rd_T51 l0 x7_1).f1), .int .i64 ((rd_T51 l0 x7_1).f2), .int .i64 ((rd_T51 l0 x7_1).f3)]] (by rfl) rfl rfl zq6 ?_
         with_reducible refine (spec_poTerm.calls ((rd_T51 l0 x7_1).f0) ((rd_T51 l0 x7_1).f1) ((rd_T51 l0 x7_1).f2) ((rd_T51 l0 x7_1).f3) true _ A5.out).mono ?_
         rintro e w35 ⟨rfl, hb⟩
         refine ⟨_, rfl, ?_⟩
         replace BK112 := Aside0.mk (zbb BK112 hb); replace HB := Aside0.mk (below_step (zb1 HB) hb)
         (try clear hb)
         (try clear hb2)
         (try clear hk)
         (try clear hi)
         refine hK.out _ _ ⟨zc BK112 0, zc BK112 1, zc BK112 2, zc BK112 3⟩ (fun hHeld => ?_)
         clear hK K
         refine norm_ (a' := ?_) ?_ ?_
         rotate_left
         ·
          show Act.put _ (some 13) _ = _
          simp only [Act.put, List.setIfInBounds_toArray, List.set_cons_zero, List.set_cons_succ, i64_w, i32_w]; rfl
         refine zp (i := 2) (N := some 14) (bn 22 7) (any_of HT_.out (by kernel_rfl)) ?_
         refine zp (i := 3) (N := some 15) (bn 22 15) (any_of HT_.out (by kernel_rfl)) ?_
         refine zp (i := 4) (N := some 16) (bn 22 31) (any_of HT_.out (by kernel_rfl)) ?_
         refine zk (i := 5) (N := some 17) (bn 22 63) (take_ofW HT_.out HW_.out (by kernel_rfl)) hHeld ?_
         refine zp (i := 6) (N := some 18) (bn 22 127) (any_of HT_.out (by kernel_rfl)) ?_
         refine zp (i := 7) (N := some 19) (bn 22 255) (any_of HT_.out (by kernel_rfl)) ?_
         refine zp (i := 8) (N := some 20) (bn 22 511) (any_of HT_.out (by kernel_rfl)) ?_
         refine zp (i := 9) (N := some 21) (bn 22 1023) (any_of HT_.out (by kernel_rfl)) ?_
         refine zp (i := 10) (N := some 22) (bn 22 2047) (any_of HT_.out (by kernel_rfl)) ?_
         refine zp (i := 11) (N := some 23) (bn 22 4095) (any_of HT_.out (by kernel_rfl)) ?_
         refine zu (i := 12) (N := some 24) (bn 22 8191) (any_of HT_.out (by kernel_rfl)) ?_
         refine zu (i := 13) (N := some 25) (bn 22 16383) (any_of HT_.out (by kernel_rfl)) ?_
         refine zu (i := 14) (N := some 26) (bn 22 32767) (any_of HT_.out (by kernel_rfl)) ?_
         refine zu (i := 15) (N := some 27) (bn 22 65535) (any_of HT_.out (by kernel_rfl)) ?_
         refine zu (i := 16) (N := some 28) (bn 22 131071) (any_of HT_.out (by kernel_rfl)) ?_
         refine zu (i := 17) (N := some 29) (bn 22 262143) (any_of HT_.out (by kernel_rfl)) ?_
         refine zu (i := 18) (N := some 30) (bn 22 524287) (any_of HT_.out (by kernel_rfl)) ?_
         refine zu (i := 19) (N := some 31) (bn 22 1048575) (any_of HT_.out (by kernel_rfl)) ?_
         refine zp (i := 20) (N := some 32) (bn 22 2097151) (any_of HT_.out (by kernel_rfl)) ?_
         refine zp (i := 21) (N := some 33) (bn 22 4194303) (any_of HT_.out (by kernel_rfl)) ?_
         refine done_ (done_of HT_.out (by kernel_rfl)) ?_
         try go_wp2
         go_roundg k1
         case measure => have := HK1.out; omega
         case rel => exact ⟨(wrap64 (x7_1 + 1)), (by first | rfl | (simp; done) | (simp [*]; done)), H', ⟨by have := HK1.out; omega⟩, ⟨(zb1 HB)⟩⟩
      ·
       replace c6 := Bool.eq_false_iff.mpr c6
       subst c6
       have H1 : (some false) = some r := by rw [if_neg (show ¬ (false = true) by decide)] at H; exact H
       clear H
       have H := H1
       clear H1
       obtain rfl := Option.some.inj H
       have p111 : 0 ≤ (x7_1 : Int) := of_decide_eq_true (by first | (with_reducible assumption) | assumption)
       have q111 : x7_1 < (l0.length : Int) := of_decide_eq_true (by first | (with_reducible assumption) | assumption)
       obtain ⟨ad111, e111, hx111_0, hx111_1, hx111_2, hx111_3⟩ := at_T51 HR0.out x7_1 p111 q111
       cases e111
       replace hx111_0 := pw_cell_below HB.out hx111_0
       replace hx111_1 := pw_cell_below HB.out hx111_1
       replace hx111_2 := pw_cell_below HB.out hx111_2
       replace hx111_3 := pw_cell_below HB.out hx111_3
       replace p111 := eq_true p111
       replace q111 := eq_true q111
       try go_wp2_with (first | ((with_reducible refine gate_dst (N := 4) rfl ?_); refine zbe (N := 4) (cs := #[.int .i64 0, .int .i64 0, .int .i64 0, .int .i64 0]) (t := 51) ?_; intro gb112 hg w36 hbox hb; have BK112 := Aside0.mk (hbox); have GW112 := Aside0.mk (zge (zb0 HB) hg); have GE112 := GW112; replace HB := Aside0.mk (below_step (zb0 HB) hb); clear hb hbox hg; have hcz37_0 : w36.cell? ⟨gb112, 0, none⟩ = some (.int .i64 0) := zc BK112 0; have hcz37_1 : w36.cell? ⟨gb112, 1, none⟩ = some (.int .i64 0) := zc BK112 1; have hcz37_2 : w36.cell? ⟨gb112, 2, none⟩ = some (.int .i64 0) := zc BK112 2; have hcz37_3 : w36.cell? ⟨gb112, 3, none⟩ = some (.int .i64 0) := zc BK112 3; have hfz37_0 := blk_frozen BK112.out 0; have hfz37_1 := blk_frozen BK112.out 1; have hfz37_2 := blk_frozen BK112.out 2; have hfz37_3 := blk_frozen BK112.out 3))
       have n0_ : Aside0 (((((w36.setCell ⟨gb112, 0, none⟩ (.int .i64 ((rd_T51 l0 x7_1).f0))).setCell ⟨gb112, 1, none⟩ (.int .i64 ((rd_T51 l0 x7_1).f1))).setCell ⟨gb112, 2, none⟩ (.int .i64 ((rd_T51 l0 x7_1).f2))).setCell ⟨gb112, 3, none⟩ (.int .i64 ((rd_T51 l0 x7_1).f3))).heap[gb112]? = some (.cells #[.int .i64 ((rd_T51 l0 x7_1).f0), .int .i64 ((rd_T51 l0 x7_1).f1), .int .i64 ((rd_T51 l0 x7_1).f2), .int .i64 ((rd_T51 l0 x7_1).f3)] 51 (0, 0))) := ⟨by (with_reducible repeat (first | refine blk_drewN ?_ _ | refine blk_drew ?_ | refine blk_alloc ?_ _)); refine blk_put (cs := #[.int .i64 ((rd_T51 l0 x7_1).f0), .int .i64 ((rd_T51 l0 x7_1).f1), .int .i64 ((rd_T51 l0 x7_1).f2), .int .i64 0]) ?_ 3 _ rfl; (with_reducible repeat (first | refine blk_drewN ?_ _ | refine blk_drew ?_ | refine blk_alloc ?_ _)); refine blk_put (cs := #[.int .i64 ((rd_T51 l0 x7_1).f0), .int .i64 ((rd_T51 l0 x7_1).f1), .int .i64 0, .int .i64 0]) ?_ 2 _ rfl; (with_reducible repeat (first | refine blk_drewN ?_ _ | refine blk_drew ?_ | refine blk_alloc ?_ _)); refine blk_put (cs := #[.int .i64 ((rd_T51 l0 x7_1).f0), .int .i64 0, .int .i64 0, .int .i64 0]) ?_ 1 _ rfl; (with_reducible repeat (first | refine blk_drewN ?_ _ | refine blk_drew ?_ | refine blk_alloc ?_ _)); refine blk_put (cs := #[.int .i64 0, .int .i64 0, .int .i64 0, .int .i64 0]) ?_ 0 _ rfl; (with_reducible repeat (first | refine blk_drewN ?_ _ | refine blk_drew ?_ | refine blk_alloc ?_ _)); exact BK112.out⟩
       have n1_ : Aside0 (Below w.heap.size w ((((w36.setCell ⟨gb112, 0, none⟩ (.int .i64 ((rd_T51 l0 x7_1).f0))).setCell ⟨gb112, 1, none⟩ (.int .i64 ((rd_T51 l0 x7_1).f1))).setCell ⟨gb112, 2, none⟩ (.int .i64 ((rd_T51 l0 x7_1).f2))).setCell ⟨gb112, 3, none⟩ (.int .i64 ((rd_T51 l0 x7_1).f3)))) := ⟨(zb1 HB)⟩
       (try clear BK112)
       (try clear HB)
       generalize ((((w36.setCell ⟨gb112, 0, none⟩ (.int .i64 ((rd_T51 l0 x7_1).f0))).setCell ⟨gb112, 1, none⟩ (.int .i64 ((rd_T51 l0 x7_1).f1))).setCell ⟨gb112, 2, none⟩ (.int .i64 ((rd_T51 l0 x7_1).f2))).setCell ⟨gb112, 3, none⟩ (.int .i64 ((rd_T51 l0 x7_1).f3))) = w38 at n0_ n1_ ⊢
       have BK112 := n0_; have HB := n1_
       clear n0_ n1_
       replace BK112 := Aside0.mk (blk_drew BK112.out); replace HB := Aside0.mk (below_drew1 HB.out)
       refine start_ (n := 22) (S := fun w' => w'.cell? ⟨gb112, 0, none⟩ = some (.int .i64 ((rd_T51 l0 x7_1).f0)) ∧ w'.cell? ⟨gb112, 1, none⟩ = some (.int .i64 ((rd_T51 l0 x7_1).f1)) ∧ w'.cell? ⟨gb112, 2, none⟩ = some (.int .i64 ((rd_T51 l0 x7_1).f2)) ∧ w'.cell? ⟨gb112, 3, none⟩ = some (.int .i64 ((rd_T51 l0 x7_1).f3))) (ds := []) (bn 22 0) (by kernel_rfl) rfl rfl ⟨zc BK112 0, zc BK112 1, zc BK112 2, zc BK112 3⟩ (fun hHeld => ?_); refine with_tabW spec_poGood.tab4 spec_poGood.bits4 (fun HT_ HW_ => ?_)
       generalize w38.drew = w39 at BK112 HB hHeld ⊢
       refine zk (i := 0) (N := some 12) (bn 22 1) (take_ofW HT_.out HW_.out (by kernel_rfl)) hHeld ?_
       refine one_ (i := 1) (N := some 13) (bn 22 3) rfl rfl (one_of HT_.out (by kernel_rfl)) (by decide) (fun K hK => ?_)
       refine goes_ Try.func66 (by kernel_rfl) rfl #[.agg #[.int .i64 ((rd_T51 l0 x7_1).f0), .int .i64 ((rd_T51 l0 x7_1).f1), .int .i64 ((rd_T51 l0 x7_1).f2), .int .i64 ((rd_T51 l0 x7_1).f3)]] (by rfl) rfl rfl zq6 ?_
       with_reducible refine (spec_poTerm.calls ((rd_T51 l0 x7_1).f0) ((rd_T51 l0 x7_1).f1) ((rd_T51 l0 x7_1).f2) ((rd_T51 l0 x7_1).f3) false _ A5.out).mono ?_
       rintro e w40 ⟨rfl, hb⟩
       refine ⟨_, rfl, ?_⟩
       replace BK112 := Aside0.mk (zbb BK112 hb); replace HB := Aside0.mk (below_step (zb1 HB) hb)
       (try clear hb)
       (try clear hb2)
       (try clear hk)
       (try clear hi)
       refine hK.out _ _ ⟨zc BK112 0, zc BK112 1, zc BK112 2, zc BK112 3⟩ (fun hHeld => ?_)
       clear hK K
       refine norm_ (a' := ?_) ?_ ?_
       rotate_left
       ·
        show Act.put _ (some 13) _ = _
        simp only [Act.put, List.setIfInBounds_toArray, List.set_cons_zero, List.set_cons_succ, i64_w, i32_w]; rfl
       refine zp (i := 2) (N := some 14) (bn 22 7) (any_of HT_.out (by kernel_rfl)) ?_
       refine zp (i := 3) (N := some 15) (bn 22 15) (any_of HT_.out (by kernel_rfl)) ?_
       refine zu (i := 4) (N := some 16) (bn 22 31) (any_of HT_.out (by kernel_rfl)) ?_
       refine zu (i := 5) (N := some 17) (bn 22 63) (any_of HT_.out (by kernel_rfl)) ?_
       refine zu (i := 6) (N := some 18) (bn 22 127) (any_of HT_.out (by kernel_rfl)) ?_
       refine zp (i := 7) (N := some 19) (bn 22 255) (any_of HT_.out (by kernel_rfl)) ?_
       refine zp (i := 8) (N := some 20) (bn 22 511) (any_of HT_.out (by kernel_rfl)) ?_
       refine zu (i := 9) (N := some 21) (bn 22 1023) (any_of HT_.out (by kernel_rfl)) ?_
       refine zu (i := 10) (N := some 22) (bn 22 2047) (any_of HT_.out (by kernel_rfl)) ?_
       refine zu (i := 11) (N := some 23) (bn 22 4095) (any_of HT_.out (by kernel_rfl)) ?_
       refine zu (i := 12) (N := some 24) (bn 22 8191) (any_of HT_.out (by kernel_rfl)) ?_
       refine zu (i := 13) (N := some 25) (bn 22 16383) (any_of HT_.out (by kernel_rfl)) ?_
       refine zu (i := 14) (N := some 26) (bn 22 32767) (any_of HT_.out (by kernel_rfl)) ?_
       refine zu (i := 15) (N := some 27) (bn 22 65535) (any_of HT_.out (by kernel_rfl)) ?_
       refine zu (i := 16) (N := some 28) (bn 22 131071) (any_of HT_.out (by kernel_rfl)) ?_
       refine zu (i := 17) (N := some 29) (bn 22 262143) (any_of HT_.out (by kernel_rfl)) ?_
       refine zu (i := 18) (N := some 30) (bn 22 524287) (any_of HT_.out (by kernel_rfl)) ?_
       refine zu (i := 19) (N := some 31) (bn 22 1048575) (any_of HT_.out (by kernel_rfl)) ?_
       refine zu (i := 20) (N := some 32) (bn 22 2097151) (any_of HT_.out (by kernel_rfl)) ?_
       refine zp (i := 21) (N := some 33) (bn 22 4194303) (any_of HT_.out (by kernel_rfl)) ?_
       refine done_ (done_of HT_.out (by kernel_rfl)) ?_
       try go_wp2
       go_ret
       exact ⟨by first | rfl | (simp [errW_none, errW_some] <;> rfl) | (simp [*, errW_none, errW_some] <;> rfl), (zb1 HB)⟩
     ·
      rw [if_neg c4] at H
      exact absurd H (by simp)
    ·
     rw [if_neg c3] at H
     exact absurd H (by simp)
   ·
    rw [if_neg c2] at H
    have c2b0 : decide (x7_1 < (l0.length : Int)) = false := decide_eq_false c2
    clear c2
    obtain rfl := Option.some.inj H
    go_wp2
    go_ret
    exact ⟨by first | rfl | (simp [errW_none, errW_some] <;> rfl) | (simp [*, errW_none, errW_some] <;> rfl), (zb0 HB)⟩
/-! ### spec_poPut: function 72 -/
def spec_poPut.T2 : Bool × List (List Nat × List Nat) := (true, [([], []), ([], []), ([1], [1]), ([0, 2], [0, 2]), ([3], [3]), ([4], [4]), ([4], [4]), ([5, 6, 4], [4, 5, 6]), ([7, 4], [4, 7]), ([4], [4]), ([8, 9, 4, 4], [4, 8, 9]), ([10, 4], [4, 10]), ([4, 11], [4, 11])])
def spec_poPut.B2 : List Nat := [0, 0, 2, 7, 15, 31, 31, 127, 255, 31, 1023, 2047, 4095]
theorem spec_poPut.tab2 : rtab .any (opsOf Try.f72 2) = spec_poPut.T2 := by kernel_rfl
theorem spec_poPut.bits2 : waitsOk spec_poPut.T2.2 spec_poPut.B2 = true := by kernel_rfl
def spec_poPut.T5 : Bool × List (List Nat × List Nat) := (true, [([], []), ([], []), ([1], [1]), ([0, 2], [0, 2]), ([3], [3]), ([4], [4]), ([4], [4]), ([5, 6, 4], [4, 5, 6]), ([7, 4], [4, 7]), ([4], [4]), ([8, 9, 4, 4], [4, 8, 9]), ([10, 4], [4, 10]), ([4, 11], [4, 11])])
def spec_poPut.B5 : List Nat := [0, 0, 2, 7, 15, 31, 31, 127, 255, 31, 1023, 2047, 4095]
theorem spec_poPut.tab5 : rtab .any (opsOf Try.f72 5) = spec_poPut.T5 := by kernel_rfl
theorem spec_poPut.bits5 : waitsOk spec_poPut.T5.2 spec_poPut.B5 = true := by kernel_rfl
def spec_poPut.T6 : Bool × List (List Nat × List Nat) := (true, [([], []), ([0], [0]), ([], []), ([], []), ([2, 3], [2, 3]), ([4], [4]), ([5], [5]), ([1, 6], [1, 6]), ([0, 1, 2, 3, 4, 5, 6, 7], []), ([8, 7, 0, 1, 2, 3, 4, 5, 6, 7], [7, 8])])
def spec_poPut.B6 : List Nat := [0, 1, 0, 0, 12, 28, 60, 127, 255, 511]
theorem spec_poPut.tab6 : rtab .any (opsOf Try.f72 6) = spec_poPut.T6 := by kernel_rfl
theorem spec_poPut.bits6 : waitsOk spec_poPut.T6.2 spec_poPut.B6 = true := by kernel_rfl
set_option maxHeartbeats 8000000 in
set_option maxRecDepth 100000 in
theorem spec_poPut.calls (k : Nat) (A0 : Option Addr) (c0 : Nat) (l0 : List (S51)) (a1_0 : Int) (a1_1 : Int) (a1_2 : Int) (a1_3 : Int) (r : List (S51)) (w : World) (hr0 : Kd.C k51 w A0 l0.length l0) (hc0 : l0.length ≤ c0) (h : spec_poPut.f k l0 a1_0 a1_1 a1_2 a1_3 = some r) :
  Calls Try.prog 72 #[.slice A0 l0.length c0, .agg #[.int .i64 a1_0, .int .i64 a1_1, .int .i64 a1_2, .int .i64 a1_3]] w fun e w' => ∃ v0_ : Value, e = .returned (v0_) ∧ Kd.R k51 51 w' w.heap.size (fun _ => True) v0_ r ∧ Below w.heap.size w w' := by
 have hu51 := Try.underlying51
 have HR0 := Aside0.mk hr0
 have HC0 := Aside0.mk hc0
 clear hr0 hc0
 have HB := Aside0.mk (Below.refl w.heap.size w)
 have H : (spec_poPut.l0 k l0 0 a1_0 a1_1 a1_2 a1_3) = some r := h
 clear h
 have HC3 := Aside0.mk H
 clear H
 go_enter Try.func72, Try.ntmps72
 go_upto_block 0 with (first | ((with_reducible refine gate_dst (N := 3) rfl ?_); refine zbe (N := 3) (cs := #[.int .i64 a1_0, .int .i64 a1_1, .int .i64 a1_2, .int .i64 a1_3]) (t := 51) ?_; intro gb130 hg w4 hbox hb; have BK130 := Aside0.mk (hbox); have GW130 := Aside0.mk (zge (zb0 HB) hg); have GE130 := GW130; replace HB := Aside0.mk (below_step (zb0 HB) hb); clear hb hbox hg))
 (try simp only [Act.put, List.setIfInBounds_toArray, List.set_cons_zero, List.set_cons_succ])
 go_cut [5] (fun v5 wc => ∃ (kq : Nat) (x5_2 : Int), v5 = .int .i64 x5_2 ∧ Aside0 (spec_poPut.j1 kq l0 x5_2 a1_0 a1_1 a1_2 a1_3 = some r) ∧ Aside0 (kq ≤ k) ∧ Aside0 (wc.heap[gb130]? = some (.cells #[.int .i64 a1_0, .int .i64 a1_1, .int .i64 a1_2, .int .i64 a1_3] 51 (0, 0))) ∧ Aside0 (Below w.heap.size w wc))
 case first =>
  have H := HC3.out
  clear HC3
  have H' := Aside0.mk H
  clear H
  go_wp2
  go_loopg [5] k (fun kq v5 w' => ∃ (x5_1 : Int), v5 = .int .i64 x5_1 ∧ Aside0 (spec_poPut.l0 kq l0 x5_1 a1_0 a1_1 a1_2 a1_3 = some r) ∧ Aside0 (kq ≤ k) ∧ Aside0 (w'.heap[gb130]? = some (.cells #[.int .i64 a1_0, .int .i64 a1_1, .int .i64 a1_2, .int .i64 a1_3] 51 (0, 0))) ∧ Aside0 (Below w.heap.size w w'))
  case atStart => exact ⟨(0), (by first | rfl | (simp; done) | (simp [*]; done)), H', ⟨Nat.le_refl _⟩, ⟨by (with_reducible repeat (first | refine blk_drewN ?_ _ | refine blk_drew ?_ | refine blk_alloc ?_ _)); exact BK130.out⟩, ⟨(zb1 HB)⟩⟩
  case round =>
   clear H'
   try clear p2
   obtain ⟨x5_1, rfl, HA, HK1, BK130, HB⟩ := hrel
   cases gk with
   | zero => exact absurd HA.out (by simp [spec_poPut.l0])
   | succ k1 =>
    have H := HA.out
    clear HA
    simp only [spec_poPut.l0] at H
    by_cases c5 : x5_1 < (l0.length : Int)
    ·
     rw [if_pos c5] at H
     have c5b0 : decide (x5_1 < (l0.length : Int)) = true := decide_eq_true c5
     clear c5
     (first | rw [c5b0] | (simp only [i64_w, i32_w]; rw [c5b0]) | skip)
     by_cases c6 : 0 ≤ x5_1
     ·
      rw [if_pos c6] at H
      have c6b0 : decide (0 ≤ x5_1) = true := decide_eq_true c6
      clear c6
      replace H := Option.bind_eq_some_iff.mp H
      obtain ⟨t132, A70, H⟩ := H
      replace H : (if t132 < 0 then (spec_poPut.l0 k1 l0 (wrap64 (x5_1 + 1)) a1_0 a1_1 a1_2 a1_3) else (spec_poPut.j1 k1 l0 x5_1 a1_0 a1_1 a1_2 a1_3)) = some r := H
      have A7 := Aside0.mk A70
      clear A70
      by_cases c8 : t132 < 0
      ·
       rw [if_pos c8] at H
       have c8b0 : decide (t132 < 0) = true := decide_eq_true c8
       clear c8
       have H' := Aside0.mk H
       clear H
       try go_wp2
       replace BK130 := Aside0.mk (blk_drew BK130.out); replace HB := Aside0.mk (below_drew1 HB.out)
       have p131 : 0 ≤ (x5_1 : Int) := of_decide_eq_true (by first | (with_reducible assumption) | assumption)
       have q131 : x5_1 < (l0.length : Int) := of_decide_eq_true (by first | (with_reducible assumption) | assumption)
       obtain ⟨ad131, e131, hx131_0, hx131_1, hx131_2, hx131_3⟩ := at_T51 HR0.out x5_1 p131 q131
       have hw131_3 := hx131_3; have hw131_2 := hx131_2; have hw131_1 := hx131_1; have hw131_0 := hx131_0
       cases e131
       replace hx131_0 := pw_cell_below HB.out hx131_0
       replace hx131_1 := pw_cell_below HB.out hx131_1
       replace hx131_2 := pw_cell_below HB.out hx131_2
       replace hx131_3 := pw_cell_below HB.out hx131_3
       replace p131 := eq_true p131
       replace q131 := eq_true q131
       refine start_ (n := 13) (S := fun w' => w'.cell? ⟨gb130, 0, none⟩ = some (.int .i64 a1_0) ∧ w'.cell? ⟨gb130, 1, none⟩ = some (.int .i64 a1_1) ∧ w'.cell? ⟨gb130, 2, none⟩ = some (.int .i64 a1_2) ∧ w'.cell? ⟨gb130, 3, none⟩ = some (.int .i64 a1_3) ∧ w'.cell? (ad131.add ((x5_1).toNat * 4)) = some (.int .i64 ((rd_T51 l0 x5_1).f0)) ∧ w'.cell? ⟨(ad131.add ((x5_1).toNat * 4)).block, (ad131.add ((x5_1).toNat * 4)).off + 1, none⟩ = some (.int .i64 ((rd_T51 l0 x5_1).f1)) ∧ w'.cell? ⟨(ad131.add ((x5_1).toNat * 4)).block, (ad131.add ((x5_1).toNat * 4)).off + 2, none⟩ = some (.int .i64 ((rd_T51 l0 x5_1).f2)) ∧ w'.cell? ⟨(ad131.add ((x5_1).toNat * 4)).block, (ad131.add ((x5_1).toNat * 4)).off + 3, none⟩ = some (.int .i64 ((rd_T51 l0 x5_1).f3))) (ds := []) (bn 13 0) (by kernel_rfl) rfl rfl ⟨zc BK130 0, zc BK130 1, zc BK130 2, zc BK130 3, (pw_cell_below HB.out hw131_0), (pw_cell_below HB.out hw131_1), (pw_cell_below HB.out hw131_2), (pw_cell_below HB.out hw131_3)⟩ (fun hHeld => ?_); refine with_tabW spec_poPut.tab2 spec_poPut.bits2 (fun HT_ HW_ => ?_)
       generalize wr.drew = w9 at BK130 HB hx131_0 hx131_1 hx131_2 hx131_3 hHeld ⊢
       refine zp (i := 0) (N := some 8) (bn 13 1) (any_of HT_.out (by kernel_rfl)) ?_
       refine zp (i := 1) (N := some 9) (bn 13 3) (any_of HT_.out (by kernel_rfl)) ?_
       refine zp (i := 2) (N := some 10) (bn 13 7) (any_of HT_.out (by kernel_rfl)) ?_
       refine zp (i := 3) (N := some 11) (bn 13 15) (any_of HT_.out (by kernel_rfl)) ?_
       refine zp (i := 4) (N := some 12) (bn 13 31) (any_of HT_.out (by kernel_rfl)) ?_
       refine zp (i := 5) (N := some 13) (bn 13 63) (any_of HT_.out (by kernel_rfl)) ?_
       refine zp (i := 6) (N := some 14) (bn 13 127) (any_of HT_.out (by kernel_rfl)) ?_
       refine zp (i := 7) (N := some 15) (bn 13 255) (any_of HT_.out (by kernel_rfl)) ?_
       refine zk (i := 8) (N := some 16) (bn 13 511) (take_ofW HT_.out HW_.out (by kernel_rfl)) hHeld ?_
       refine zk (i := 9) (N := some 17) (bn 13 1023) (take_ofW HT_.out HW_.out (by kernel_rfl)) hHeld ?_
       refine one_ (i := 10) (N := some 18) (bn 13 2047) rfl rfl (one_of HT_.out (by kernel_rfl)) (by decide) (fun K hK => ?_)
       refine goes_ Try.func69 (by kernel_rfl) rfl #[.agg #[.int .i64 ((rd_T51 l0 x5_1).f0), .int .i64 ((rd_T51 l0 x5_1).f1), .int .i64 ((rd_T51 l0 x5_1).f2), .int .i64 ((rd_T51 l0 x5_1).f3)], .agg #[.int .i64 a1_0, .int .i64 a1_1, .int .i64 a1_2, .int .i64 a1_3]] (by rfl) rfl rfl zq6 ?_
       with_reducible refine (spec_poOrder.calls ((rd_T51 l0 x5_1).f0) ((rd_T51 l0 x5_1).f1) ((rd_T51 l0 x5_1).f2) ((rd_T51 l0 x5_1).f3) a1_0 a1_1 a1_2 a1_3 t132 _ A7.out).mono ?_
       rintro e w10 ⟨rfl, hb⟩
       refine ⟨_, rfl, ?_⟩
       replace BK130 := Aside0.mk (zbb BK130 hb); replace HB := Aside0.mk (below_step (zb1 HB) hb)
       (try clear hb)
       (try clear hb2)
       (try clear hk)
       (try clear hi)
       refine hK.out _ _ ⟨zc BK130 0, zc BK130 1, zc BK130 2, zc BK130 3, (pw_cell_below HB.out hw131_0), (pw_cell_below HB.out hw131_1), (pw_cell_below HB.out hw131_2), (pw_cell_below HB.out hw131_3)⟩ (fun hHeld => ?_)
       clear hK K
       refine norm_ (a' := ?_) ?_ ?_
       rotate_left
       ·
        show Act.put _ (some 18) _ = _
        simp only [Act.put, List.setIfInBounds_toArray, List.set_cons_zero, List.set_cons_succ, i64_w, i32_w]; rfl
       refine zp (i := 11) (N := some 19) (bn 13 4095) (any_of HT_.out (by kernel_rfl)) ?_
       refine zp (i := 12) (N := some 20) (bn 13 8191) (any_of HT_.out (by kernel_rfl)) ?_
       refine done_ (done_of HT_.out (by kernel_rfl)) ?_
       try go_wp2
       go_roundg k1
       case measure => have := HK1.out; omega
       case rel => exact ⟨(wrap64 (x5_1 + 1)), (by first | rfl | (simp; done) | (simp [*]; done)), H', ⟨by have := HK1.out; omega⟩, ⟨by (with_reducible repeat (first | refine blk_drewN ?_ _ | refine blk_drew ?_ | refine blk_alloc ?_ _)); exact BK130.out⟩, ⟨(zb1 HB)⟩⟩
      ·
       rw [if_neg c8] at H
       have c8b0 : decide (t132 < 0) = false := decide_eq_false c8
       clear c8
       have H' := Aside0.mk H
       clear H
       try go_wp2
       replace BK130 := Aside0.mk (blk_drew BK130.out); replace HB := Aside0.mk (below_drew1 HB.out)
       have p131 : 0 ≤ (x5_1 : Int) := of_decide_eq_true (by first | (with_reducible assumption) | assumption)
       have q131 : x5_1 < (l0.length : Int) := of_decide_eq_true (by first | (with_reducible assumption) | assumption)
       obtain ⟨ad131, e131, hx131_0, hx131_1, hx131_2, hx131_3⟩ := at_T51 HR0.out x5_1 p131 q131
       have hw131_3 := hx131_3; have hw131_2 := hx131_2; have hw131_1 := hx131_1; have hw131_0 := hx131_0
       cases e131
       replace hx131_0 := pw_cell_below HB.out hx131_0
       replace hx131_1 := pw_cell_below HB.out hx131_1
       replace hx131_2 := pw_cell_below HB.out hx131_2
       replace hx131_3 := pw_cell_below HB.out hx131_3
       replace p131 := eq_true p131
       replace q131 := eq_true q131
       refine start_ (n := 13) (S := fun w' => w'.cell? ⟨gb130, 0, none⟩ = some (.int .i64 a1_0) ∧ w'.cell? ⟨gb130, 1, none⟩ = some (.int .i64 a1_1) ∧ w'.cell? ⟨gb130, 2, none⟩ = some (.int .i64 a1_2) ∧ w'.cell? ⟨gb130, 3, none⟩ = some (.int .i64 a1_3) ∧ w'.cell? (ad131.add ((x5_1).toNat * 4)) = some (.int .i64 ((rd_T51 l0 x5_1).f0)) ∧ w'.cell? ⟨(ad131.add ((x5_1).toNat * 4)).block, (ad131.add ((x5_1).toNat * 4)).off + 1, none⟩ = some (.int .i64 ((rd_T51 l0 x5_1).f1)) ∧ w'.cell? ⟨(ad131.add ((x5_1).toNat * 4)).block, (ad131.add ((x5_1).toNat * 4)).off + 2, none⟩ = some (.int .i64 ((rd_T51 l0 x5_1).f2)) ∧ w'.cell? ⟨(ad131.add ((x5_1).toNat * 4)).block, (ad131.add ((x5_1).toNat * 4)).off + 3, none⟩ = some (.int .i64 ((rd_T51 l0 x5_1).f3))) (ds := []) (bn 13 0) (by kernel_rfl) rfl rfl ⟨zc BK130 0, zc BK130 1, zc BK130 2, zc BK130 3, (pw_cell_below HB.out hw131_0), (pw_cell_below HB.out hw131_1), (pw_cell_below HB.out hw131_2), (pw_cell_below HB.out hw131_3)⟩ (fun hHeld => ?_); refine with_tabW spec_poPut.tab2 spec_poPut.bits2 (fun HT_ HW_ => ?_)
       generalize wr.drew = w11 at BK130 HB hx131_0 hx131_1 hx131_2 hx131_3 hHeld ⊢
       refine zp (i := 0) (N := some 8) (bn 13 1) (any_of HT_.out (by kernel_rfl)) ?_
       refine zp (i := 1) (N := some 9) (bn 13 3) (any_of HT_.out (by kernel_rfl)) ?_
       refine zp (i := 2) (N := some 10) (bn 13 7) (any_of HT_.out (by kernel_rfl)) ?_
       refine zp (i := 3) (N := some 11) (bn 13 15) (any_of HT_.out (by kernel_rfl)) ?_
       refine zp (i := 4) (N := some 12) (bn 13 31) (any_of HT_.out (by kernel_rfl)) ?_
       refine zp (i := 5) (N := some 13) (bn 13 63) (any_of HT_.out (by kernel_rfl)) ?_
       refine zp (i := 6) (N := some 14) (bn 13 127) (any_of HT_.out (by kernel_rfl)) ?_
       refine zp (i := 7) (N := some 15) (bn 13 255) (any_of HT_.out (by kernel_rfl)) ?_
       refine zk (i := 8) (N := some 16) (bn 13 511) (take_ofW HT_.out HW_.out (by kernel_rfl)) hHeld ?_
       refine zk (i := 9) (N := some 17) (bn 13 1023) (take_ofW HT_.out HW_.out (by kernel_rfl)) hHeld ?_
       refine one_ (i := 10) (N := some 18) (bn 13 2047) rfl rfl (one_of HT_.out (by kernel_rfl)) (by decide) (fun K hK => ?_)
       refine goes_ Try.func69 (by kernel_rfl) rfl #[.agg #[.int .i64 ((rd_T51 l0 x5_1).f0), .int .i64 ((rd_T51 l0 x5_1).f1), .int .i64 ((rd_T51 l0 x5_1).f2), .int .i64 ((rd_T51 l0 x5_1).f3)], .agg #[.int .i64 a1_0, .int .i64 a1_1, .int .i64 a1_2, .int .i64 a1_3]] (by rfl) rfl rfl zq6 ?_
       with_reducible refine (spec_poOrder.calls ((rd_T51 l0 x5_1).f0) ((rd_T51 l0 x5_1).f1) ((rd_T51 l0 x5_1).f2) ((rd_T51 l0 x5_1).f3) a1_0 a1_1 a1_2 a1_3 t132 _ A7.out).mono ?_
       rintro e w12 ⟨rfl, hb⟩
       refine ⟨_, rfl, ?_⟩
       replace BK130 := Aside0.mk (zbb BK130 hb); replace HB := Aside0.mk (below_step (zb1 HB) hb)
       (try clear hb)
       (try clear hb2)
       (try clear hk)
       (try clear hi)
       refine hK.out _ _ ⟨zc BK130 0, zc BK130 1, zc BK130 2, zc BK130 3, (pw_cell_below HB.out hw131_0), (pw_cell_below HB.out hw131_1), (pw_cell_below HB.out hw131_2), (pw_cell_below HB.out hw131_3)⟩ (fun hHeld => ?_)
       clear hK K
       refine norm_ (a' := ?_) ?_ ?_
       rotate_left
       ·
        show Act.put _ (some 18) _ = _
        simp only [Act.put, List.setIfInBounds_toArray, List.set_cons_zero, List.set_cons_succ, i64_w, i32_w]; rfl
       refine zp (i := 11) (N := some 19) (bn 13 4095) (any_of HT_.out (by kernel_rfl)) ?_
       refine zp (i := 12) (N := some 20) (bn 13 8191) (any_of HT_.out (by kernel_rfl)) ?_
       refine done_ (done_of HT_.out (by kernel_rfl)) ?_
       try go_wp2
       go_meet
       case rel => exact ⟨_, (x5_1), (by first | rfl | (simp; done) | (simp [*]; done)), H', ⟨by have := HK1.out; first | omega | exact Nat.le_refl _⟩, ⟨by (with_reducible repeat (first | refine blk_drewN ?_ _ | refine blk_drew ?_ | refine blk_alloc ?_ _)); exact BK130.out⟩, ⟨(zb1 HB)⟩⟩
     ·
      rw [if_neg c6] at H
      exact absurd H (by simp)
    ·
     rw [if_neg c5] at H
     have c5b0 : decide (x5_1 < (l0.length : Int)) = false := decide_eq_false c5
     clear c5
     (first | rw [c5b0] | (simp only [i64_w, i32_w]; rw [c5b0]) | skip)
     have H' := Aside0.mk H
     clear H
     try go_wp2
     replace BK130 := Aside0.mk (blk_drew BK130.out); replace HB := Aside0.mk (below_drew1 HB.out)
     refine start_ (n := 13) (S := fun w' => True) (ds := []) (bn 13 0) (by kernel_rfl) rfl rfl trivial (fun hHeld => ?_); refine with_tabW spec_poPut.tab2 spec_poPut.bits2 (fun HT_ HW_ => ?_)
     generalize wr.drew = w13 at BK130 HB hHeld ⊢
     refine zp (i := 0) (N := some 8) (bn 13 1) (any_of HT_.out (by kernel_rfl)) ?_
     refine zp (i := 1) (N := some 9) (bn 13 3) (any_of HT_.out (by kernel_rfl)) ?_
     refine zp (i := 2) (N := some 10) (bn 13 7) (any_of HT_.out (by kernel_rfl)) ?_
     refine zp (i := 3) (N := some 11) (bn 13 15) (any_of HT_.out (by kernel_rfl)) ?_
     refine zp (i := 4) (N := some 12) (bn 13 31) (any_of HT_.out (by kernel_rfl)) ?_
     refine zu (i := 5) (N := some 13) (bn 13 63) (any_of HT_.out (by kernel_rfl)) ?_
     refine zu (i := 6) (N := some 14) (bn 13 127) (any_of HT_.out (by kernel_rfl)) ?_
     refine zu (i := 7) (N := some 15) (bn 13 255) (any_of HT_.out (by kernel_rfl)) ?_
     refine zu (i := 8) (N := some 16) (bn 13 511) (any_of HT_.out (by kernel_rfl)) ?_
     refine zu (i := 9) (N := some 17) (bn 13 1023) (any_of HT_.out (by kernel_rfl)) ?_
     refine zu (i := 10) (N := some 18) (bn 13 2047) (any_of HT_.out (by kernel_rfl)) ?_
     refine zu (i := 11) (N := some 19) (bn 13 4095) (any_of HT_.out (by kernel_rfl)) ?_
     refine zp (i := 12) (N := some 20) (bn 13 8191) (any_of HT_.out (by kernel_rfl)) ?_
     refine done_ (done_of HT_.out (by kernel_rfl)) ?_
     try go_wp2
     go_meet
     case rel => exact ⟨_, (x5_1), (by first | rfl | (simp; done) | (simp [*]; done)), H', ⟨by have := HK1.out; first | omega | exact Nat.le_refl _⟩, ⟨by (with_reducible repeat (first | refine blk_drewN ?_ _ | refine blk_drew ?_ | refine blk_alloc ?_ _)); exact BK130.out⟩, ⟨(zb1 HB)⟩⟩
 case rest =>
  clear HC3
  try clear p1
  try clear q1
  try clear hx1
  try clear p2
  try clear c5
  try clear c5b0
  try clear c6
  try clear c6b0
  try clear p6
  try clear c7
  try clear c8
  try clear c8b0
  try clear p13
  try clear q13
  try clear hx13
  try clear hx131_0
  try clear hx131_1
  try clear hx131_2
  try clear hx131_3
  try clear p131
  try clear p2
  try clear q131
  obtain ⟨kq, x5_2, rfl, HA, HJ2, BK130, HB⟩ := hcut
  cases kq with
  | zero => exact absurd HA.out (by simp [spec_poPut.j1])
  | succ kj2 =>
   have H := HA.out
   clear HA
   simp only [spec_poPut.j1] at H
   by_cases c14 : 0 ≤ x5_2
   ·
    rw [if_pos c14] at H
    have c14b0 := eq_true c14
    have c14b1 : decide (0 ≤ x5_2) = true := decide_eq_true c14
    clear c14
    by_cases c15 : x5_2 ≤ (l0.length : Int)
    ·
     rw [if_pos c15] at H
     have c15b0 := eq_true c15
     have c15b1 : decide (x5_2 ≤ (l0.length : Int)) = true := decide_eq_true c15
     clear c15
     obtain ⟨y133, hy133⟩ : ∃ y_ : List (S51), y_ = (l0.drop (x5_2 : Int).toNat) := ⟨_, rfl⟩
     replace H : (if x5_2 < (l0.length : Int) then ((spec_poOrder.f ((rd_T51 l0 x5_2).f0) ((rd_T51 l0 x5_2).f1) ((rd_T51 l0 x5_2).f2) ((rd_T51 l0 x5_2).f3) a1_0 a1_1 a1_2 a1_3).bind fun t138 => (spec_poPut.j2 kj2 l0 x5_2 y133 (t138 == 0) a1_0 a1_1 a1_2 a1_3)) else (spec_poPut.j2 kj2 l0 x5_2 y133 false a1_0 a1_1 a1_2 a1_3)) = some r := by first | (rw [hy133]; with_reducible exact H) | (have H2_ := (Option.bind_some _ _).symm.trans H; rw [hy133]; with_reducible exact H2_) | (have H2_ := (Option.bind_some _ _).symm.trans H; with_reducible exact H2_) | with_reducible exact H | (rw [hy133]; exact H) | exact H
     have Ny133 := Aside0.mk hy133
     clear hy133
     have HC16 := Aside0.mk H
     clear H
     have q17 : (x5_2 : Int) ≤ ((l0.length : Int) : Int) := of_decide_eq_true (by first | (with_reducible assumption) | assumption)
     obtain ⟨i017, hi017, _, hsz17, _⟩ := info_parts info51
     have hroom17 : l0.length ≤ c0 := HC0.out
     have hC17 : Kd.C k51 _ A0 l0.length l0 := HR0.out
     have q017 : (0 : Int) ≤ (x5_2 : Int) := of_decide_eq_true (by first | (with_reducible assumption) | assumption)
     have hcut17 := cut_from (P := Try.prog) 25 51 .i64 Try.underlying25 hi017 4 hsz17 A0 l0.length c0 x5_2 q017 q17
     have hr17 := Kd.C_drop (m := (x5_2 : Int).toNat) (c := c0) hC17 (by omega) hroom17
     obtain ⟨A17, hA17⟩ : ∃ A1, A1 = (if c0 = (x5_2 : Int).toNat then A0 else (A0 : Option Addr).map (·.add ((x5_2 : Int).toNat * 4))) := ⟨_, rfl⟩
     obtain ⟨c17, hc17⟩ : ∃ c1, c1 = c0 - (x5_2 : Int).toNat := ⟨_, rfl⟩
     have hy17 : y133.length = l0.length - (x5_2 : Int).toNat := (by rw [Ny133.out, List.length_drop] <;> omega)
     rw [show (l0).drop (x5_2 : Int).toNat = y133 from Ny133.out.symm] at hr17
     replace hr17 : Kd.C k51 _ A17 y133.length y133 := (by rw [hA17]; exact hr17)
     rw [← hy17, ← hA17, ← hc17] at hcut17
     have HR136 := Aside0.mk hr17
     have HC136 := Aside0.mk (show y133.length ≤ c17 from by rw [hy17, hc17]; exact Nat.sub_le_sub_right hroom17 _)
     clear hr17 hC17 hroom17 hi017 hsz17 hc17
     have KY17 := Aside0.mk hy17
     have KA17 := Aside0.mk hA17
     clear hy17 hA17
     replace q17 := eq_true q17
     go_upto_region 5 with (fail)
     go_cut [38] (fun v38 wc => ∃ (kq : Nat) (x38_15 : Bool), v38 = .bool x38_15 ∧ Aside0 (spec_poPut.j2 kq l0 x5_2 y133 x38_15 a1_0 a1_1 a1_2 a1_3 = some r) ∧ Aside0 (kq ≤ kj2) ∧ Aside0 (wc.heap[gb130]? = some (.cells #[.int .i64 a1_0, .int .i64 a1_1, .int .i64 a1_2, .int .i64 a1_3] 51 (0, 0))) ∧ Aside0 (Below w.heap.size w wc))
     case first =>
      have H := HC16.out
      clear HC16
      by_cases c18 : x5_2 < (l0.length : Int)
      ·
       rw [if_pos c18] at H
       have c18b0 : decide (x5_2 < (l0.length : Int)) = true := decide_eq_true c18
       clear c18
       (first | rw [c18b0] | (simp only [i64_w, i32_w]; rw [c18b0]) | skip)
       replace H := Option.bind_eq_some_iff.mp H
       obtain ⟨t138, A190, H⟩ := H
       replace H : (spec_poPut.j2 kj2 l0 x5_2 y133 (t138 == 0) a1_0 a1_1 a1_2 a1_3) = some r := H
       have A19 := Aside0.mk A190
       clear A190
       have H' := Aside0.mk H
       clear H
       try go_wp2
       replace BK130 := Aside0.mk (blk_drew BK130.out); replace HB := Aside0.mk (below_drew1 HB.out)
       have p137 : 0 ≤ (x5_2 : Int) := of_decide_eq_true (by first | (with_reducible assumption) | assumption)
       have q137 : x5_2 < (l0.length : Int) := of_decide_eq_true (by first | (with_reducible assumption) | assumption)
       obtain ⟨ad137, e137, hx137_0, hx137_1, hx137_2, hx137_3⟩ := at_T51 HR0.out x5_2 p137 q137
       have hw137_3 := hx137_3; have hw137_2 := hx137_2; have hw137_1 := hx137_1; have hw137_0 := hx137_0
       cases e137
       replace hx137_0 := pw_cell_below HB.out hx137_0
       replace hx137_1 := pw_cell_below HB.out hx137_1
       replace hx137_2 := pw_cell_below HB.out hx137_2
       replace hx137_3 := pw_cell_below HB.out hx137_3
       replace p137 := eq_true p137
       replace q137 := eq_true q137
       refine start_ (n := 13) (S := fun w' => w'.cell? ⟨gb130, 0, none⟩ = some (.int .i64 a1_0) ∧ w'.cell? ⟨gb130, 1, none⟩ = some (.int .i64 a1_1) ∧ w'.cell? ⟨gb130, 2, none⟩ = some (.int .i64 a1_2) ∧ w'.cell? ⟨gb130, 3, none⟩ = some (.int .i64 a1_3) ∧ w'.cell? (ad137.add ((x5_2).toNat * 4)) = some (.int .i64 ((rd_T51 l0 x5_2).f0)) ∧ w'.cell? ⟨(ad137.add ((x5_2).toNat * 4)).block, (ad137.add ((x5_2).toNat * 4)).off + 1, none⟩ = some (.int .i64 ((rd_T51 l0 x5_2).f1)) ∧ w'.cell? ⟨(ad137.add ((x5_2).toNat * 4)).block, (ad137.add ((x5_2).toNat * 4)).off + 2, none⟩ = some (.int .i64 ((rd_T51 l0 x5_2).f2)) ∧ w'.cell? ⟨(ad137.add ((x5_2).toNat * 4)).block, (ad137.add ((x5_2).toNat * 4)).off + 3, none⟩ = some (.int .i64 ((rd_T51 l0 x5_2).f3))) (ds := []) (bn 13 0) (by kernel_rfl) rfl rfl ⟨zc BK130 0, zc BK130 1, zc BK130 2, zc BK130 3, (pw_cell_below HB.out hw137_0), (pw_cell_below HB.out hw137_1), (pw_cell_below HB.out hw137_2), (pw_cell_below HB.out hw137_3)⟩ (fun hHeld => ?_); refine with_tabW spec_poPut.tab5 spec_poPut.bits5 (fun HT_ HW_ => ?_)
       generalize wc.drew = w20 at BK130 HB hx137_0 hx137_1 hx137_2 hx137_3 hHeld ⊢
       refine zp (i := 0) (N := some 26) (bn 13 1) (any_of HT_.out (by kernel_rfl)) ?_
       refine zp (i := 1) (N := some 27) (bn 13 3) (any_of HT_.out (by kernel_rfl)) ?_
       refine zp (i := 2) (N := some 28) (bn 13 7) (any_of HT_.out (by kernel_rfl)) ?_
       refine zp (i := 3) (N := some 29) (bn 13 15) (any_of HT_.out (by kernel_rfl)) ?_
       refine zp (i := 4) (N := some 30) (bn 13 31) (any_of HT_.out (by kernel_rfl)) ?_
       refine zp (i := 5) (N := some 31) (bn 13 63) (any_of HT_.out (by kernel_rfl)) ?_
       refine zp (i := 6) (N := some 32) (bn 13 127) (any_of HT_.out (by kernel_rfl)) ?_
       refine zp (i := 7) (N := some 33) (bn 13 255) (any_of HT_.out (by kernel_rfl)) ?_
       refine zk (i := 8) (N := some 34) (bn 13 511) (take_ofW HT_.out HW_.out (by kernel_rfl)) hHeld ?_
       refine zk (i := 9) (N := some 35) (bn 13 1023) (take_ofW HT_.out HW_.out (by kernel_rfl)) hHeld ?_
       refine one_ (i := 10) (N := some 36) (bn 13 2047) rfl rfl (one_of HT_.out (by kernel_rfl)) (by decide) (fun K hK => ?_)
       refine goes_ Try.func69 (by kernel_rfl) rfl #[.agg #[.int .i64 ((rd_T51 l0 x5_2).f0), .int .i64 ((rd_T51 l0 x5_2).f1), .int .i64 ((rd_T51 l0 x5_2).f2), .int .i64 ((rd_T51 l0 x5_2).f3)], .agg #[.int .i64 a1_0, .int .i64 a1_1, .int .i64 a1_2, .int .i64 a1_3]] (by rfl) rfl rfl zq6 ?_
       with_reducible refine (spec_poOrder.calls ((rd_T51 l0 x5_2).f0) ((rd_T51 l0 x5_2).f1) ((rd_T51 l0 x5_2).f2) ((rd_T51 l0 x5_2).f3) a1_0 a1_1 a1_2 a1_3 t138 _ A19.out).mono ?_
       rintro e w21 ⟨rfl, hb⟩
       refine ⟨_, rfl, ?_⟩
       replace BK130 := Aside0.mk (zbb BK130 hb); replace HB := Aside0.mk (below_step (zb1 HB) hb)
       (try clear hb)
       (try clear hb2)
       (try clear hk)
       (try clear hi)
       refine hK.out _ _ ⟨zc BK130 0, zc BK130 1, zc BK130 2, zc BK130 3, (pw_cell_below HB.out hw137_0), (pw_cell_below HB.out hw137_1), (pw_cell_below HB.out hw137_2), (pw_cell_below HB.out hw137_3)⟩ (fun hHeld => ?_)
       clear hK K
       refine norm_ (a' := ?_) ?_ ?_
       rotate_left
       ·
        show Act.put _ (some 36) _ = _
        simp only [Act.put, List.setIfInBounds_toArray, List.set_cons_zero, List.set_cons_succ, i64_w, i32_w]; rfl
       refine zp (i := 11) (N := some 37) (bn 13 4095) (any_of HT_.out (by kernel_rfl)) ?_
       refine zp (i := 12) (N := some 38) (bn 13 8191) (any_of HT_.out (by kernel_rfl)) ?_
       refine done_ (done_of HT_.out (by kernel_rfl)) ?_
       try go_wp2
       go_meet
       case rel => exact ⟨_, ((t138 == 0)), (by first | rfl | (simp; done) | (simp [*]; done)), H', ⟨by have := HJ2.out; first | omega | exact Nat.le_refl _⟩, ⟨by (with_reducible repeat (first | refine blk_drewN ?_ _ | refine blk_drew ?_ | refine blk_alloc ?_ _)); exact BK130.out⟩, ⟨(zb1 HB)⟩⟩
      ·
       rw [if_neg c18] at H
       have c18b0 : decide (x5_2 < (l0.length : Int)) = false := decide_eq_false c18
       clear c18
       (first | rw [c18b0] | (simp only [i64_w, i32_w]; rw [c18b0]) | skip)
       have H' := Aside0.mk H
       clear H
       try go_wp2
       replace BK130 := Aside0.mk (blk_drew BK130.out); replace HB := Aside0.mk (below_drew1 HB.out)
       refine start_ (n := 13) (S := fun w' => True) (ds := []) (bn 13 0) (by kernel_rfl) rfl rfl trivial (fun hHeld => ?_); refine with_tabW spec_poPut.tab5 spec_poPut.bits5 (fun HT_ HW_ => ?_)
       generalize wc.drew = w22 at BK130 HB hHeld ⊢
       refine zp (i := 0) (N := some 26) (bn 13 1) (any_of HT_.out (by kernel_rfl)) ?_
       refine zp (i := 1) (N := some 27) (bn 13 3) (any_of HT_.out (by kernel_rfl)) ?_
       refine zp (i := 2) (N := some 28) (bn 13 7) (any_of HT_.out (by kernel_rfl)) ?_
       refine zp (i := 3) (N := some 29) (bn 13 15) (any_of HT_.out (by kernel_rfl)) ?_
       refine zp (i := 4) (N := some 30) (bn 13 31) (any_of HT_.out (by kernel_rfl)) ?_
       refine zu (i := 5) (N := some 31) (bn 13 63) (any_of HT_.out (by kernel_rfl)) ?_
       refine zu (i := 6) (N := some 32) (bn 13 127) (any_of HT_.out (by kernel_rfl)) ?_
       refine zu (i := 7) (N := some 33) (bn 13 255) (any_of HT_.out (by kernel_rfl)) ?_
       refine zu (i := 8) (N := some 34) (bn 13 511) (any_of HT_.out (by kernel_rfl)) ?_
       refine zu (i := 9) (N := some 35) (bn 13 1023) (any_of HT_.out (by kernel_rfl)) ?_
       refine zu (i := 10) (N := some 36) (bn 13 2047) (any_of HT_.out (by kernel_rfl)) ?_
       refine zu (i := 11) (N := some 37) (bn 13 4095) (any_of HT_.out (by kernel_rfl)) ?_
       refine zp (i := 12) (N := some 38) (bn 13 8191) (any_of HT_.out (by kernel_rfl)) ?_
       refine done_ (done_of HT_.out (by kernel_rfl)) ?_
       try go_wp2
       go_meet
       case rel => exact ⟨_, (false), (by first | rfl | (simp; done) | (simp [*]; done)), H', ⟨by have := HJ2.out; first | omega | exact Nat.le_refl _⟩, ⟨by (with_reducible repeat (first | refine blk_drewN ?_ _ | refine blk_drew ?_ | refine blk_alloc ?_ _)); exact BK130.out⟩, ⟨(zb1 HB)⟩⟩
     case rest =>
      clear HC16
      try clear c1
      try clear p1
      try clear q1
      try clear hx1
      try clear p2
      try clear c5
      try clear c5b0
      try clear c6
      try clear c6b0
      try clear p6
      try clear c7
      try clear c8
      try clear c8b0
      try clear p13
      try clear q13
      try clear hx13
      try clear c14
      try clear c14b0
      try clear c14b1
      try clear c15
      try clear c15b0
      try clear c15b1
      try clear c17
      try clear q17
      try clear c18
      try clear c18b0
      try clear hx131_0
      try clear hx131_1
      try clear hx131_2
      try clear hx131_3
      try clear hx137_0
      try clear hx137_1
      try clear hx137_2
      try clear hx137_3
      try clear p1
      try clear p13
      try clear p131
      try clear p137
      try clear p2
      try clear p6
      try clear q017
      try clear q1
      try clear q13
      try clear q131
      try clear q137
      try clear q17
      obtain ⟨kq, x38_15, rfl, HA, HJ15, BK130, HB⟩ := hcut
      cases kq with
      | zero => exact absurd HA.out (by simp [spec_poPut.j2])
      | succ kj15 =>
       have H := HA.out
       clear HA
       simp only [spec_poPut.j2] at H
       by_cases c23 : x38_15 = true
       ·
        subst c23
        have H1 : (if 0 ≤ x5_2 then (if x5_2 < (l0.length : Int) then (if 0 ≤ (wrap64 (x5_2 + 1)) then (if (wrap64 (x5_2 + 1)) ≤ (l0.length : Int) then ((some (l0.drop ((wrap64 (x5_2 + 1)) : Int).toNat : List (S51))).bind fun y140 => ((some (([] : List (S51)) : List (S51))).bind fun y144 => (if x5_2 ≤ (l0.length : Int) then ((some (l0.take (x5_2 : Int).toNat : List (S51))).bind fun y147 => (if y144.length + y147.length < 4398046511104 then ((some (y144 ++ y147 : List (S51))).bind fun y151 => (if (wrap64 (a1_0 + ((rd_T51 l0 x5_2).f0))) = 0 then (if y151.length + y140.length < 4398046511104 then (some (y151 ++ y140)) else (none)) else (if y151.length < 4398046511104 then ((some (y151 ++ [(⟨wrap64 (a1_0 + ((rd_T51 l0 x5_2).f0)), a1_1, a1_2, a1_3⟩ : S51)] : List (S51))).bind fun y157 => (if y157.length + y140.length < 4398046511104 then (some (y157 ++ y140)) else (none))) else (none)))) else (none))) else (none)))) else (none)) else (none)) else (none)) else (none)) = some r := by rw [if_pos rfl] at H; exact H
        clear H
        have H := H1
        clear H1
        by_cases c24 : 0 ≤ x5_2
        ·
         rw [if_pos c24] at H
         have c24b0 : decide (0 ≤ x5_2) = true := decide_eq_true c24
         clear c24
         by_cases c25 : x5_2 < (l0.length : Int)
         ·
          rw [if_pos c25] at H
          have c25b0 : decide (x5_2 < (l0.length : Int)) = true := decide_eq_true c25
          clear c25
          obtain ⟨ji26, hji26⟩ : ∃ j_ : Int, (wrap64 (x5_2 + 1)) = j_ := ⟨_, rfl⟩
          replace H : (if 0 ≤ (ji26) then (if (ji26) ≤ (l0.length : Int) then ((some (l0.drop ((ji26) : Int).toNat : List (S51))).bind fun y140 => ((some (([] : List (S51)) : List (S51))).bind fun y144 => (if x5_2 ≤ (l0.length : Int) then ((some (l0.take (x5_2 : Int).toNat : List (S51))).bind fun y147 => (if y144.length + y147.length < 4398046511104 then ((some (y144 ++ y147 : List (S51))).bind fun y151 => (if (wrap64 (a1_0 + ((rd_T51 l0 x5_2).f0))) = 0 then (if y151.length + y140.length < 4398046511104 then (some (y151 ++ y140)) else (none)) else (if y151.length < 4398046511104 then ((some (y151 ++ [(⟨wrap64 (a1_0 + ((rd_T51 l0 x5_2).f0)), a1_1, a1_2, a1_3⟩ : S51)] : List (S51))).bind fun y157 => (if y157.length + y140.length < 4398046511104 then (some (y157 ++ y140)) else (none))) else (none)))) else (none))) else (none)))) else (none)) else (none)) = some r := by first | (rw [hji26] at H; exact H) | (simp only [hji26] at H ⊢; exact H)
          have hji26w : (IntKind.i64.wrap (x5_2 + 1)) = ji26 := (i64_w _).trans hji26
          by_cases c27 : 0 ≤ (ji26)
          ·
           rw [if_pos c27] at H
           have c27b0 := eq_true c27
           have c27b1 : decide (0 ≤ (ji26)) = true := decide_eq_true c27
           clear c27
           by_cases c28 : (ji26) ≤ (l0.length : Int)
           ·
            rw [if_pos c28] at H
            have c28b0 := eq_true c28
            have c28b1 : decide ((ji26) ≤ (l0.length : Int)) = true := decide_eq_true c28
            clear c28
            obtain ⟨y140, hy140⟩ : ∃ y_ : List (S51), y_ = (l0.drop ((ji26) : Int).toNat) := ⟨_, rfl⟩
            replace H : ((some (([] : List (S51)) : List (S51))).bind fun y144 => (if x5_2 ≤ (l0.length : Int) then ((some (l0.take (x5_2 : Int).toNat : List (S51))).bind fun y147 => (if y144.length + y147.length < 4398046511104 then ((some (y144 ++ y147 : List (S51))).bind fun y151 => (if (wrap64 (a1_0 + ((rd_T51 l0 x5_2).f0))) = 0 then (if y151.length + y140.length < 4398046511104 then (some (y151 ++ y140)) else (none)) else (if y151.length < 4398046511104 then ((some (y151 ++ [(⟨wrap64 (a1_0 + ((rd_T51 l0 x5_2).f0)), a1_1, a1_2, a1_3⟩ : S51)] : List (S51))).bind fun y157 => (if y157.length + y140.length < 4398046511104 then (some (y157 ++ y140)) else (none))) else (none)))) else (none))) else (none))) = some r := by first | (rw [hy140]; with_reducible exact H) | (have H2_ := (Option.bind_some _ _).symm.trans H; rw [hy140]; with_reducible exact H2_) | (have H2_ := (Option.bind_some _ _).symm.trans H; with_reducible exact H2_) | with_reducible exact H | (rw [hy140]; exact H) | exact H
            have Ny140 := Aside0.mk hy140
            clear hy140
            obtain ⟨y144, hy144⟩ : ∃ y_ : List (S51), y_ = (([] : List (S51))) := ⟨_, rfl⟩
            replace H : (if x5_2 ≤ (l0.length : Int) then ((some (l0.take (x5_2 : Int).toNat : List (S51))).bind fun y147 => (if y144.length + y147.length < 4398046511104 then ((some (y144 ++ y147 : List (S51))).bind fun y151 => (if (wrap64 (a1_0 + ((rd_T51 l0 x5_2).f0))) = 0 then (if y151.length + y140.length < 4398046511104 then (some (y151 ++ y140)) else (none)) else (if y151.length < 4398046511104 then ((some (y151 ++ [(⟨wrap64 (a1_0 + ((rd_T51 l0 x5_2).f0)), a1_1, a1_2, a1_3⟩ : S51)] : List (S51))).bind fun y157 => (if y157.length + y140.length < 4398046511104 then (some (y157 ++ y140)) else (none))) else (none)))) else (none))) else (none)) = some r := by first | (rw [hy144]; with_reducible exact H) | (have H2_ := (Option.bind_some _ _).symm.trans H; rw [hy144]; with_reducible exact H2_) | (have H2_ := (Option.bind_some _ _).symm.trans H; with_reducible exact H2_) | with_reducible exact H | (rw [hy144]; exact H) | exact H
            have Ny144 := Aside0.mk hy144
            clear hy144
            have c29b0 := eq_true (of_decide_eq_true (by first | (with_reducible assumption) | assumption) : 0 ≤ x5_2)
            by_cases c30 : x5_2 ≤ (l0.length : Int)
            ·
             rw [if_pos c30] at H
             have c30b0 := eq_true c30
             have c30b1 : decide (x5_2 ≤ (l0.length : Int)) = true := decide_eq_true c30
             clear c30
             obtain ⟨y147, hy147⟩ : ∃ y_ : List (S51), y_ = (l0.take (x5_2 : Int).toNat) := ⟨_, rfl⟩
             replace H : (if y144.length + y147.length < 4398046511104 then ((some (y144 ++ y147 : List (S51))).bind fun y151 => (if (wrap64 (a1_0 + ((rd_T51 l0 x5_2).f0))) = 0 then (if y151.length + y140.length < 4398046511104 then (some (y151 ++ y140)) else (none)) else (if y151.length < 4398046511104 then ((some (y151 ++ [(⟨wrap64 (a1_0 + ((rd_T51 l0 x5_2).f0)), a1_1, a1_2, a1_3⟩ : S51)] : List (S51))).bind fun y157 => (if y157.length + y140.length < 4398046511104 then (some (y157 ++ y140)) else (none))) else (none)))) else (none)) = some r := by first | (rw [hy147]; with_reducible exact H) | (have H2_ := (Option.bind_some _ _).symm.trans H; rw [hy147]; with_reducible exact H2_) | (have H2_ := (Option.bind_some _ _).symm.trans H; with_reducible exact H2_) | with_reducible exact H | (rw [hy147]; exact H) | exact H
             have Ny147 := Aside0.mk hy147
             clear hy147
             by_cases c31 : y144.length + y147.length < 4398046511104
             ·
              rw [if_pos c31] at H
              have LMc31 := Aside0.mk c31
              clear c31
              obtain ⟨y151, hy151⟩ : ∃ y_ : List (S51), y_ = (y144 ++ y147) := ⟨_, rfl⟩
              replace H : (if (wrap64 (a1_0 + ((rd_T51 l0 x5_2).f0))) = 0 then (if y151.length + y140.length < 4398046511104 then (some (y151 ++ y140)) else (none)) else (if y151.length < 4398046511104 then ((some (y151 ++ [(⟨wrap64 (a1_0 + ((rd_T51 l0 x5_2).f0)), a1_1, a1_2, a1_3⟩ : S51)] : List (S51))).bind fun y157 => (if y157.length + y140.length < 4398046511104 then (some (y157 ++ y140)) else (none))) else (none))) = some r := by first | (rw [hy151]; with_reducible exact H) | (have H2_ := (Option.bind_some _ _).symm.trans H; rw [hy151]; with_reducible exact H2_) | (have H2_ := (Option.bind_some _ _).symm.trans H; with_reducible exact H2_) | with_reducible exact H | (rw [hy151]; exact H) | exact H
              have Ny151 := Aside0.mk hy151
              clear hy151
              by_cases c32 : (wrap64 (a1_0 + ((rd_T51 l0 x5_2).f0))) = 0
              ·
               rw [if_pos c32] at H
               have c32b0 : ((wrap64 (a1_0 + ((rd_T51 l0 x5_2).f0))) == 0) = true := beq_iff_eq.mpr c32
               have c32b1 : ((wrap64 (a1_0 + ((rd_T51 l0 x5_2).f0))) != 0) = false := bne_eq_false_iff_eq.mpr c32
               clear c32
               by_cases c33 : y151.length + y140.length < 4398046511104
               ·
                rw [if_pos c33] at H
                have LMc33 := Aside0.mk c33
                clear c33
                obtain ⟨y154, hy154⟩ : ∃ y_ : List (S51), y_ = (y151 ++ y140) := ⟨_, rfl⟩
                replace H : (some y154) = some r := by first | (rw [hy154]; with_reducible exact H) | (have H2_ := (Option.bind_some _ _).symm.trans H; rw [hy154]; with_reducible exact H2_) | (have H2_ := (Option.bind_some _ _).symm.trans H; with_reducible exact H2_) | with_reducible exact H | (rw [hy154]; exact H) | exact H
                have Ny154 := Aside0.mk hy154
                clear hy154
                obtain rfl := Option.some.inj H
                try go_wp2
                replace BK130 := Aside0.mk (blk_drew BK130.out); replace HB := Aside0.mk (below_drew1 HB.out)
                have p139 : 0 ≤ (x5_2 : Int) := of_decide_eq_true (by first | (with_reducible assumption) | assumption)
                have q139 : x5_2 < (l0.length : Int) := of_decide_eq_true (by first | (with_reducible assumption) | assumption)
                obtain ⟨ad139, e139, hx139_0, hx139_1, hx139_2, hx139_3⟩ := at_T51 HR0.out x5_2 p139 q139
                have hw139_3 := hx139_3; have hw139_2 := hx139_2; have hw139_1 := hx139_1; have hw139_0 := hx139_0
                cases e139
                replace hx139_0 := pw_cell_below HB.out hx139_0
                replace hx139_1 := pw_cell_below HB.out hx139_1
                replace hx139_2 := pw_cell_below HB.out hx139_2
                replace hx139_3 := pw_cell_below HB.out hx139_3
                replace p139 := eq_true p139
                replace q139 := eq_true q139
                refine start_ (n := 10) (S := fun w' => w'.cell? ⟨gb130, 0, none⟩ = some (.int .i64 a1_0) ∧ w'.cell? ⟨gb130, 1, none⟩ = some (.int .i64 a1_1) ∧ w'.cell? ⟨gb130, 2, none⟩ = some (.int .i64 a1_2) ∧ w'.cell? ⟨gb130, 3, none⟩ = some (.int .i64 a1_3) ∧ w'.cell? (ad139.add ((x5_2).toNat * 4)) = some (.int .i64 ((rd_T51 l0 x5_2).f0)) ∧ w'.cell? ⟨(ad139.add ((x5_2).toNat * 4)).block, (ad139.add ((x5_2).toNat * 4)).off + 1, none⟩ = some (.int .i64 ((rd_T51 l0 x5_2).f1)) ∧ w'.cell? ⟨(ad139.add ((x5_2).toNat * 4)).block, (ad139.add ((x5_2).toNat * 4)).off + 2, none⟩ = some (.int .i64 ((rd_T51 l0 x5_2).f2)) ∧ w'.cell? ⟨(ad139.add ((x5_2).toNat * 4)).block, (ad139.add ((x5_2).toNat * 4)).off + 3, none⟩ = some (.int .i64 ((rd_T51 l0 x5_2).f3))) (ds := [9]) (bn 10 0) (by kernel_rfl) rfl rfl ⟨zc BK130 0, zc BK130 1, zc BK130 2, zc BK130 3, (pw_cell_below HB.out hw139_0), (pw_cell_below HB.out hw139_1), (pw_cell_below HB.out hw139_2), (pw_cell_below HB.out hw139_3)⟩ (fun hHeld => ?_); refine with_tabW spec_poPut.tab6 spec_poPut.bits6 (fun HT_ HW_ => ?_)
                generalize wc.drew = w34 at BK130 HB hx139_0 hx139_1 hx139_2 hx139_3 hHeld ⊢
                refine zp (i := 0) (N := some 39) (bn 10 1) (any_of HT_.out (by kernel_rfl)) ?_
                refine zp (i := 2) (N := some 41) (bn 10 5) (any_of HT_.out (by kernel_rfl)) ?_
                refine zp (i := 3) (N := some 42) (bn 10 13) (any_of HT_.out (by kernel_rfl)) ?_
                refine zp (i := 4) (N := some 43) (bn 10 29) (any_of HT_.out (by kernel_rfl)) ?_
                refine zp (i := 5) (N := some 44) (bn 10 61) (any_of HT_.out (by kernel_rfl)) ?_
                refine zk (i := 1) (N := some 40) (bn 10 63) (take_ofW HT_.out HW_.out (by kernel_rfl)) hHeld ?_
                refine zk (i := 6) (N := some 45) (bn 10 127) (take_ofW HT_.out HW_.out (by kernel_rfl)) hHeld ?_
                refine zp (i := 7) (N := some 46) (bn 10 255) (any_of HT_.out (by kernel_rfl)) ?_
                refine zp (i := 8) (N := some 47) (bn 10 511) (any_of HT_.out (by kernel_rfl)) ?_
                refine last_ (i := 9) (N := none) #[true, true, true, true, true, true, true, true, true, true] rfl rfl (one_of HT_.out (by kernel_rfl)) (by decide) (fun K hK => ?_)
                have hs35 : w34.cell? ⟨gb130, 0, none⟩ = some (.int .i64 a1_0) := zc BK130 0
                have hfs35 := blk_frozen BK130.out 0
                refine skip_ (w1 := ?_) (by rfl) rfl ?_ ?_
                rotate_left
                ·
                 go_simp
                 rfl
                refine hK.out _ _ ?_
                clear hK K
                refine done_ (done_of HT_.out (by kernel_rfl)) ?_
                have n0_ : Aside0 ((w34.setCell ⟨gb130, 0, none⟩ (.int .i64 (wrap64 (a1_0 + ((rd_T51 l0 x5_2).f0))))).heap[gb130]? = some (.cells #[.int .i64 (wrap64 (a1_0 + ((rd_T51 l0 x5_2).f0))), .int .i64 a1_1, .int .i64 a1_2, .int .i64 a1_3] 51 (0, 0))) := ⟨by (with_reducible repeat (first | refine blk_drewN ?_ _ | refine blk_drew ?_ | refine blk_alloc ?_ _)); refine blk_put (cs := #[.int .i64 a1_0, .int .i64 a1_1, .int .i64 a1_2, .int .i64 a1_3]) ?_ 0 _ rfl; (with_reducible repeat (first | refine blk_drewN ?_ _ | refine blk_drew ?_ | refine blk_alloc ?_ _)); exact BK130.out⟩
                have n1_ : Aside0 (Below w.heap.size w (w34.setCell ⟨gb130, 0, none⟩ (.int .i64 (wrap64 (a1_0 + ((rd_T51 l0 x5_2).f0)))))) := ⟨(zb1 HB)⟩
                (try clear BK130)
                (try clear HB)
                generalize (w34.setCell ⟨gb130, 0, none⟩ (.int .i64 (wrap64 (a1_0 + ((rd_T51 l0 x5_2).f0))))) = w36 at n0_ n1_ ⊢
                have BK130 := n0_; have HB := n1_
                clear n0_ n1_
                have q37 : ((ji26) : Int) ≤ ((l0.length : Int) : Int) := of_decide_eq_true (by first | (with_reducible assumption) | assumption)
                obtain ⟨i037, hi037, _, hsz37, _⟩ := info_parts info51
                have hroom37 : l0.length ≤ c0 := HC0.out
                have hC37 : Kd.C k51 _ (some ad139) l0.length l0 := HR0.out
                have q037 : (0 : Int) ≤ ((ji26) : Int) := of_decide_eq_true (by first | (with_reducible assumption) | assumption)
                have hcut37 := cut_from (P := Try.prog) 25 51 .i64 Try.underlying25 hi037 4 hsz37 (some ad139) l0.length c0 (ji26) q037 q37
                have hr37 := Kd.C_drop (m := ((ji26) : Int).toNat) (c := c0) hC37 (by omega) hroom37
                obtain ⟨A37, hA37⟩ : ∃ A1, A1 = (if c0 = ((ji26) : Int).toNat then (some ad139) else ((some ad139) : Option Addr).map (·.add (((ji26) : Int).toNat * 4))) := ⟨_, rfl⟩
                obtain ⟨c37, hc37⟩ : ∃ c1, c1 = c0 - ((ji26) : Int).toNat := ⟨_, rfl⟩
                have hy37 : y140.length = l0.length - ((ji26) : Int).toNat := (by rw [Ny140.out, List.length_drop] <;> omega)
                rw [show (l0).drop ((ji26) : Int).toNat = y140 from Ny140.out.symm] at hr37
                replace hr37 : Kd.C k51 _ A37 y140.length y140 := (by rw [hA37]; exact hr37)
                rw [← hy37, ← hA37, ← hc37] at hcut37
                have HR143 := Aside0.mk hr37
                have HC143 := Aside0.mk (show y140.length ≤ c37 from by rw [hy37, hc37]; exact Nat.sub_le_sub_right hroom37 _)
                clear hr37 hC37 hroom37 hi037 hsz37 hc37
                have KY37 := Aside0.mk hy37
                have KA37 := Aside0.mk hA37
                clear hy37 hA37
                replace q37 := eq_true q37
                try go_wp2_with (first | ((with_reducible refine gate_dst (N := 52) rfl ?_); refine Kd.R_lit k51 _ 51 ?hg (N := 52) ?hd (xs := ([] : List (S51))) (inner := []) (ok := fun _ => True) (okp := fun _ => True) ?hr ?hp (fun _ hk => hk) trivial (Below.refl _ _) (Nat.le_refl _) (by simp) ?_; (case hd => rfl); (case hg => rfl); (case hr => first | (go_simp; done) | (go_simp; rfl)); (case hp => exact (Reps.none _ _)); intro v145 w38 ho39 hb hg_ hnew_; clear hg_ hnew_; (first | rw [← Ny144.out] at ho39 | (simp only [Int.reduceToNat] at ho39; rw [← Ny144.out] at ho39)); have HO146 := Aside0.mk (Kd.R_lower (Kd.R_newB ho39 (g := gb130) (o := .cells #[.int .i64 (wrap64 (a1_0 + ((rd_T51 l0 x5_2).f0))), .int .i64 a1_1, .int .i64 a1_2, .int .i64 a1_3] 51 (0, 0)) (zq1 BK130)) (below_size (zb1 HB))); replace BK130 := Aside0.mk (zbb BK130 hb); replace HB := Aside0.mk (below_step (zb1 HB) hb); clear hb ho39; have q40 : (x5_2 : Int) ≤ ((l0.length : Int) : Int) := of_decide_eq_true (by first | (with_reducible assumption) | assumption); obtain ⟨i040, hi040, _, hsz40, _⟩ := info_parts info51; have hroom40 : l0.length ≤ c0 := HC0.out; have hC40 : Kd.C k51 _ (some ad139) l0.length l0 := HR0.out; have hcut40 := cut_to (P := Try.prog) 25 51 .i64 Try.underlying25 hi040 (some ad139) l0.length c0 x5_2 (of_decide_eq_true (by first | (with_reducible assumption) | assumption)) q40 hroom40; have hr40 := Kd.C_take (m := (x5_2 : Int).toNat) hC40 (by omega); have hy40 : y147.length = (x5_2 : Int).toNat := (by rw [Ny147.out, List.length_take]; omega); rw [← Ny147.out] at hr40; rw [← hy40] at hcut40; have HR150 := Aside0.mk hr40; have HC150 := Aside0.mk (show y147.length ≤ c0 from by omega); clear hr40 hC40 hroom40 hi040 hsz40; have KY40 := Aside0.mk hy40; clear hy40; replace q40 := eq_true q40) | ((with_reducible refine gate_builtin (b := .append) (xs := #[.tmp 52, .tmp 55]) rfl ?_); at_builtin; refine Kd.R_append_rows k51 (w0 := w) w.heap.size rfl (.tmp 52) (.tmp 55) 25 51 (.agg #[(.int .i64 0), (.int .i64 0), (.int .i64 0), (.int .i64 0)]) 32 rfl Try.underlying25 info51 rfl (by decide) (by omega) v145 y144 y147 _ _ _ (fun k_ => k_ ≠ gb130) (fun _ => False) rfl rfl ?aO ?aR (fun _ _ h => h) (fun _ h => h.elim) ?aF ?aB ?aS ?aL ?_; (case aR => repeat (first | exact (Kd.C_below HR150.out HB.out) | (with_reducible refine Kd.C_alloc ?_ _) | (with_reducible refine Kd.C_drewN ?_ _) | (with_reducible refine Kd.C_drew ?_))); (case aB => exact (zb1 HB)); (case aF => exact (fun k_ hk => Kd.freshB (g := gb130) (o := .cells #[.int .i64 (wrap64 (a1_0 + ((rd_T51 l0 x5_2).f0))), .int .i64 a1_1, .int .i64 a1_2, .int .i64 a1_3] 51 (0, 0)) (zq1 BK130) k_ hk)); (case aO => exact (by (with_reducible repeat (first | apply Kd.R_alloc | apply Kd.R_drewN | apply Kd.R_drew)); exact Kd.R_mono HO146.out (fun _ hk => hk.2))); (case aS => exact (below_size (zb1 HB))); (case aL => have := LMc31.out; omega); intro v152 w41 ho hb hg hat; rw [← Ny151.out] at ho; have HO153 := Aside0.mk (ho); replace BK130 := Aside0.mk (blk_grown (g := gb130) (o := .cells #[.int .i64 (wrap64 (a1_0 + ((rd_T51 l0 x5_2).f0))), .int .i64 a1_1, .int .i64 a1_2, .int .i64 a1_3] 51 (0, 0)) (zq1 BK130) hg (Kd.R_away HO146.out (fun _ hk => hk.2))); replace HB := Aside0.mk (hb); clear HO146; clear ho hb hg hat; have hcz42_0 : w41.cell? ⟨gb130, 0, none⟩ = some (.int .i64 (wrap64 (a1_0 + ((rd_T51 l0 x5_2).f0)))) := zc BK130 0; have hcz42_1 : w41.cell? ⟨gb130, 1, none⟩ = some (.int .i64 a1_1) := zc BK130 1; have hcz42_2 : w41.cell? ⟨gb130, 2, none⟩ = some (.int .i64 a1_2) := zc BK130 2; have hcz42_3 : w41.cell? ⟨gb130, 3, none⟩ = some (.int .i64 a1_3) := zc BK130 3; have hfz42_0 := blk_frozen BK130.out 0; have hfz42_1 := blk_frozen BK130.out 1; have hfz42_2 := blk_frozen BK130.out 2; have hfz42_3 := blk_frozen BK130.out 3) | ((with_reducible refine gate_builtin (b := .append) (xs := #[.tmp 64, .tmp 65]) rfl ?_); at_builtin; refine Kd.R_append_rows k51 (w0 := w) w.heap.size rfl (.tmp 64) (.tmp 65) 25 51 (.agg #[(.int .i64 0), (.int .i64 0), (.int .i64 0), (.int .i64 0)]) 32 rfl Try.underlying25 info51 rfl (by decide) (by omega) v152 y151 y140 _ _ _ (fun k_ => k_ ≠ gb130) (fun _ => False) rfl rfl ?aO ?aR (fun _ _ h => h) (fun _ h => h.elim) ?aF ?aB ?aS ?aL ?_; (case aR => repeat (first | exact (Kd.C_below HR143.out HB.out) | (with_reducible refine Kd.C_alloc ?_ _) | (with_reducible refine Kd.C_drewN ?_ _) | (with_reducible refine Kd.C_drew ?_))); (case aB => exact (zb1 HB)); (case aF => exact (fun k_ hk => Kd.freshB (g := gb130) (o := .cells #[.int .i64 (wrap64 (a1_0 + ((rd_T51 l0 x5_2).f0))), .int .i64 a1_1, .int .i64 a1_2, .int .i64 a1_3] 51 (0, 0)) (zq1 BK130) k_ hk)); (case aO => exact (zq3 HO153)); (case aS => exact (below_size (zb1 HB))); (case aL => have := LMc33.out; omega); intro v155 w43 ho hb hg hat; rw [← Ny154.out] at ho; have HO156 := Aside0.mk (ho); replace BK130 := Aside0.mk (blk_grown (g := gb130) (o := .cells #[.int .i64 (wrap64 (a1_0 + ((rd_T51 l0 x5_2).f0))), .int .i64 a1_1, .int .i64 a1_2, .int .i64 a1_3] 51 (0, 0)) (zq1 BK130) hg (Kd.R_away HO153.out (fun _ hk => hk))); replace HB := Aside0.mk (hb); clear HO153; clear ho hb hg hat))
                go_ret
                exact ⟨_, by first | rfl | (simp [errW_none, errW_some] <;> rfl) | (simp only [← hji26]; first | rfl | (simp [errW_none, errW_some] <;> rfl)) | (simp [*, errW_none, errW_some] <;> rfl), by (with_reducible repeat (first | apply Kd.R_alloc | apply Kd.R_drewN | apply Kd.R_drew)); exact Kd.R_mono HO156.out (fun _ hk => trivial), (zb1 HB)⟩
               ·
                rw [if_neg c33] at H
                exact absurd H (by simp)
              ·
               rw [if_neg c32] at H
               have c32b0 : ((wrap64 (a1_0 + ((rd_T51 l0 x5_2).f0))) == 0) = false := beq_eq_false_iff_ne.mpr c32
               have c32b1 : ((wrap64 (a1_0 + ((rd_T51 l0 x5_2).f0))) != 0) = true := bne_iff_ne.mpr c32
               by_cases c44 : y151.length < 4398046511104
               ·
                rw [if_pos c44] at H
                have LMc44 := Aside0.mk c44
                clear c44
                obtain ⟨y157, hy157⟩ : ∃ y_ : List (S51), y_ = (y151 ++ [(⟨wrap64 (a1_0 + ((rd_T51 l0 x5_2).f0)), a1_1, a1_2, a1_3⟩ : S51)]) := ⟨_, rfl⟩
                replace H : (if y157.length + y140.length < 4398046511104 then (some (y157 ++ y140)) else (none)) = some r := by first | (rw [hy157]; with_reducible exact H) | (have H2_ := (Option.bind_some _ _).symm.trans H; rw [hy157]; with_reducible exact H2_) | (have H2_ := (Option.bind_some _ _).symm.trans H; with_reducible exact H2_) | with_reducible exact H | (rw [hy157]; exact H) | exact H
                have Ny157 := Aside0.mk hy157
                clear hy157
                by_cases c45 : y157.length + y140.length < 4398046511104
                ·
                 rw [if_pos c45] at H
                 have LMc45 := Aside0.mk c45
                 clear c45
                 obtain ⟨y160, hy160⟩ : ∃ y_ : List (S51), y_ = (y157 ++ y140) := ⟨_, rfl⟩
                 replace H : (some y160) = some r := by first | (rw [hy160]; with_reducible exact H) | (have H2_ := (Option.bind_some _ _).symm.trans H; rw [hy160]; with_reducible exact H2_) | (have H2_ := (Option.bind_some _ _).symm.trans H; with_reducible exact H2_) | with_reducible exact H | (rw [hy160]; exact H) | exact H
                 have Ny160 := Aside0.mk hy160
                 clear hy160
                 obtain rfl := Option.some.inj H
                 try go_wp2
                 replace BK130 := Aside0.mk (blk_drew BK130.out); replace HB := Aside0.mk (below_drew1 HB.out)
                 have p139 : 0 ≤ (x5_2 : Int) := of_decide_eq_true (by first | (with_reducible assumption) | assumption)
                 have q139 : x5_2 < (l0.length : Int) := of_decide_eq_true (by first | (with_reducible assumption) | assumption)
                 obtain ⟨ad139, e139, hx139_0, hx139_1, hx139_2, hx139_3⟩ := at_T51 HR0.out x5_2 p139 q139
                 have hw139_3 := hx139_3; have hw139_2 := hx139_2; have hw139_1 := hx139_1; have hw139_0 := hx139_0
                 cases e139
                 replace hx139_0 := pw_cell_below HB.out hx139_0
                 replace hx139_1 := pw_cell_below HB.out hx139_1
                 replace hx139_2 := pw_cell_below HB.out hx139_2
                 replace hx139_3 := pw_cell_below HB.out hx139_3
                 replace p139 := eq_true p139
                 replace q139 := eq_true q139
                 refine start_ (n := 10) (S := fun w' => w'.cell? ⟨gb130, 0, none⟩ = some (.int .i64 a1_0) ∧ w'.cell? ⟨gb130, 1, none⟩ = some (.int .i64 a1_1) ∧ w'.cell? ⟨gb130, 2, none⟩ = some (.int .i64 a1_2) ∧ w'.cell? ⟨gb130, 3, none⟩ = some (.int .i64 a1_3) ∧ w'.cell? (ad139.add ((x5_2).toNat * 4)) = some (.int .i64 ((rd_T51 l0 x5_2).f0)) ∧ w'.cell? ⟨(ad139.add ((x5_2).toNat * 4)).block, (ad139.add ((x5_2).toNat * 4)).off + 1, none⟩ = some (.int .i64 ((rd_T51 l0 x5_2).f1)) ∧ w'.cell? ⟨(ad139.add ((x5_2).toNat * 4)).block, (ad139.add ((x5_2).toNat * 4)).off + 2, none⟩ = some (.int .i64 ((rd_T51 l0 x5_2).f2)) ∧ w'.cell? ⟨(ad139.add ((x5_2).toNat * 4)).block, (ad139.add ((x5_2).toNat * 4)).off + 3, none⟩ = some (.int .i64 ((rd_T51 l0 x5_2).f3))) (ds := [9]) (bn 10 0) (by kernel_rfl) rfl rfl ⟨zc BK130 0, zc BK130 1, zc BK130 2, zc BK130 3, (pw_cell_below HB.out hw139_0), (pw_cell_below HB.out hw139_1), (pw_cell_below HB.out hw139_2), (pw_cell_below HB.out hw139_3)⟩ (fun hHeld => ?_); refine with_tabW spec_poPut.tab6 spec_poPut.bits6 (fun HT_ HW_ => ?_)
                 generalize wc.drew = w46 at BK130 HB hx139_0 hx139_1 hx139_2 hx139_3 hHeld ⊢
                 refine zp (i := 0) (N := some 39) (bn 10 1) (any_of HT_.out (by kernel_rfl)) ?_
                 refine zp (i := 2) (N := some 41) (bn 10 5) (any_of HT_.out (by kernel_rfl)) ?_
                 refine zp (i := 3) (N := some 42) (bn 10 13) (any_of HT_.out (by kernel_rfl)) ?_
                 refine zp (i := 4) (N := some 43) (bn 10 29) (any_of HT_.out (by kernel_rfl)) ?_
                 refine zp (i := 5) (N := some 44) (bn 10 61) (any_of HT_.out (by kernel_rfl)) ?_
                 refine zk (i := 1) (N := some 40) (bn 10 63) (take_ofW HT_.out HW_.out (by kernel_rfl)) hHeld ?_
                 refine zk (i := 6) (N := some 45) (bn 10 127) (take_ofW HT_.out HW_.out (by kernel_rfl)) hHeld ?_
                 refine zp (i := 7) (N := some 46) (bn 10 255) (any_of HT_.out (by kernel_rfl)) ?_
                 refine zp (i := 8) (N := some 47) (bn 10 511) (any_of HT_.out (by kernel_rfl)) ?_
                 refine last_ (i := 9) (N := none) #[true, true, true, true, true, true, true, true, true, true] rfl rfl (one_of HT_.out (by kernel_rfl)) (by decide) (fun K hK => ?_)
                 have hs47 : w46.cell? ⟨gb130, 0, none⟩ = some (.int .i64 a1_0) := zc BK130 0
                 have hfs47 := blk_frozen BK130.out 0
                 refine skip_ (w1 := ?_) (by rfl) rfl ?_ ?_
                 rotate_left
                 ·
                  go_simp
                  rfl
                 refine hK.out _ _ ?_
                 clear hK K
                 refine done_ (done_of HT_.out (by kernel_rfl)) ?_
                 have n0_ : Aside0 ((w46.setCell ⟨gb130, 0, none⟩ (.int .i64 (wrap64 (a1_0 + ((rd_T51 l0 x5_2).f0))))).heap[gb130]? = some (.cells #[.int .i64 (wrap64 (a1_0 + ((rd_T51 l0 x5_2).f0))), .int .i64 a1_1, .int .i64 a1_2, .int .i64 a1_3] 51 (0, 0))) := ⟨by (with_reducible repeat (first | refine blk_drewN ?_ _ | refine blk_drew ?_ | refine blk_alloc ?_ _)); refine blk_put (cs := #[.int .i64 a1_0, .int .i64 a1_1, .int .i64 a1_2, .int .i64 a1_3]) ?_ 0 _ rfl; (with_reducible repeat (first | refine blk_drewN ?_ _ | refine blk_drew ?_ | refine blk_alloc ?_ _)); exact BK130.out⟩
                 have n1_ : Aside0 (Below w.heap.size w (w46.setCell ⟨gb130, 0, none⟩ (.int .i64 (wrap64 (a1_0 + ((rd_T51 l0 x5_2).f0)))))) := ⟨(zb1 HB)⟩
                 (try clear BK130)
                 (try clear HB)
                 generalize (w46.setCell ⟨gb130, 0, none⟩ (.int .i64 (wrap64 (a1_0 + ((rd_T51 l0 x5_2).f0))))) = w48 at n0_ n1_ ⊢
                 have BK130 := n0_; have HB := n1_
                 clear n0_ n1_
                 have q49 : ((ji26) : Int) ≤ ((l0.length : Int) : Int) := of_decide_eq_true (by first | (with_reducible assumption) | assumption)
                 obtain ⟨i049, hi049, _, hsz49, _⟩ := info_parts info51
                 have hroom49 : l0.length ≤ c0 := HC0.out
                 have hC49 : Kd.C k51 _ (some ad139) l0.length l0 := HR0.out
                 have q049 : (0 : Int) ≤ ((ji26) : Int) := of_decide_eq_true (by first | (with_reducible assumption) | assumption)
                 have hcut49 := cut_from (P := Try.prog) 25 51 .i64 Try.underlying25 hi049 4 hsz49 (some ad139) l0.length c0 (ji26) q049 q49
                 have hr49 := Kd.C_drop (m := ((ji26) : Int).toNat) (c := c0) hC49 (by omega) hroom49
                 obtain ⟨A49, hA49⟩ : ∃ A1, A1 = (if c0 = ((ji26) : Int).toNat then (some ad139) else ((some ad139) : Option Addr).map (·.add (((ji26) : Int).toNat * 4))) := ⟨_, rfl⟩
                 obtain ⟨c49, hc49⟩ : ∃ c1, c1 = c0 - ((ji26) : Int).toNat := ⟨_, rfl⟩
                 have hy49 : y140.length = l0.length - ((ji26) : Int).toNat := (by rw [Ny140.out, List.length_drop] <;> omega)
                 rw [show (l0).drop ((ji26) : Int).toNat = y140 from Ny140.out.symm] at hr49
                 replace hr49 : Kd.C k51 _ A49 y140.length y140 := (by rw [hA49]; exact hr49)
                 rw [← hy49, ← hA49, ← hc49] at hcut49
                 have HR143 := Aside0.mk hr49
                 have HC143 := Aside0.mk (show y140.length ≤ c49 from by rw [hy49, hc49]; exact Nat.sub_le_sub_right hroom49 _)
                 clear hr49 hC49 hroom49 hi049 hsz49 hc49
                 have KY49 := Aside0.mk hy49
                 have KA49 := Aside0.mk hA49
                 clear hy49 hA49
                 replace q49 := eq_true q49
                 try go_wp2_with (first | ((with_reducible refine gate_dst (N := 52) rfl ?_); refine Kd.R_lit k51 _ 51 ?hg (N := 52) ?hd (xs := ([] : List (S51))) (inner := []) (ok := fun _ => True) (okp := fun _ => True) ?hr ?hp (fun _ hk => hk) trivial (Below.refl _ _) (Nat.le_refl _) (by simp) ?_; (case hd => rfl); (case hg => rfl); (case hr => first | (go_simp; done) | (go_simp; rfl)); (case hp => exact (Reps.none _ _)); intro v145 w50 ho51 hb hg_ hnew_; clear hg_ hnew_; (first | rw [← Ny144.out] at ho51 | (simp only [Int.reduceToNat] at ho51; rw [← Ny144.out] at ho51)); have HO146 := Aside0.mk (Kd.R_lower (Kd.R_newB ho51 (g := gb130) (o := .cells #[.int .i64 (wrap64 (a1_0 + ((rd_T51 l0 x5_2).f0))), .int .i64 a1_1, .int .i64 a1_2, .int .i64 a1_3] 51 (0, 0)) (zq1 BK130)) (below_size (zb1 HB))); replace BK130 := Aside0.mk (zbb BK130 hb); replace HB := Aside0.mk (below_step (zb1 HB) hb); clear hb ho51; have q52 : (x5_2 : Int) ≤ ((l0.length : Int) : Int) := of_decide_eq_true (by first | (with_reducible assumption) | assumption); obtain ⟨i052, hi052, _, hsz52, _⟩ := info_parts info51; have hroom52 : l0.length ≤ c0 := HC0.out; have hC52 : Kd.C k51 _ (some ad139) l0.length l0 := HR0.out; have hcut52 := cut_to (P := Try.prog) 25 51 .i64 Try.underlying25 hi052 (some ad139) l0.length c0 x5_2 (of_decide_eq_true (by first | (with_reducible assumption) | assumption)) q52 hroom52; have hr52 := Kd.C_take (m := (x5_2 : Int).toNat) hC52 (by omega); have hy52 : y147.length = (x5_2 : Int).toNat := (by rw [Ny147.out, List.length_take]; omega); rw [← Ny147.out] at hr52; rw [← hy52] at hcut52; have HR150 := Aside0.mk hr52; have HC150 := Aside0.mk (show y147.length ≤ c0 from by omega); clear hr52 hC52 hroom52 hi052 hsz52; have KY52 := Aside0.mk hy52; clear hy52; replace q52 := eq_true q52) | ((with_reducible refine gate_builtin (b := .append) (xs := #[.tmp 52, .tmp 55]) rfl ?_); at_builtin; refine Kd.R_append_rows k51 (w0 := w) w.heap.size rfl (.tmp 52) (.tmp 55) 25 51 (.agg #[(.int .i64 0), (.int .i64 0), (.int .i64 0), (.int .i64 0)]) 32 rfl Try.underlying25 info51 rfl (by decide) (by omega) v145 y144 y147 _ _ _ (fun k_ => k_ ≠ gb130) (fun _ => False) rfl rfl ?aO ?aR (fun _ _ h => h) (fun _ h => h.elim) ?aF ?aB ?aS ?aL ?_; (case aR => repeat (first | exact (Kd.C_below HR150.out HB.out) | (with_reducible refine Kd.C_alloc ?_ _) | (with_reducible refine Kd.C_drewN ?_ _) | (with_reducible refine Kd.C_drew ?_))); (case aB => exact (zb1 HB)); (case aF => exact (fun k_ hk => Kd.freshB (g := gb130) (o := .cells #[.int .i64 (wrap64 (a1_0 + ((rd_T51 l0 x5_2).f0))), .int .i64 a1_1, .int .i64 a1_2, .int .i64 a1_3] 51 (0, 0)) (zq1 BK130) k_ hk)); (case aO => exact (by (with_reducible repeat (first | apply Kd.R_alloc | apply Kd.R_drewN | apply Kd.R_drew)); exact Kd.R_mono HO146.out (fun _ hk => hk.2))); (case aS => exact (below_size (zb1 HB))); (case aL => have := LMc31.out; omega); intro v152 w53 ho hb hg hat; rw [← Ny151.out] at ho; have HO153 := Aside0.mk (ho); replace BK130 := Aside0.mk (blk_grown (g := gb130) (o := .cells #[.int .i64 (wrap64 (a1_0 + ((rd_T51 l0 x5_2).f0))), .int .i64 a1_1, .int .i64 a1_2, .int .i64 a1_3] 51 (0, 0)) (zq1 BK130) hg (Kd.R_away HO146.out (fun _ hk => hk.2))); replace HB := Aside0.mk (hb); clear HO146; clear ho hb hg hat; have hcz54_0 : w53.cell? ⟨gb130, 0, none⟩ = some (.int .i64 (wrap64 (a1_0 + ((rd_T51 l0 x5_2).f0)))) := zc BK130 0; have hcz54_1 : w53.cell? ⟨gb130, 1, none⟩ = some (.int .i64 a1_1) := zc BK130 1; have hcz54_2 : w53.cell? ⟨gb130, 2, none⟩ = some (.int .i64 a1_2) := zc BK130 2; have hcz54_3 : w53.cell? ⟨gb130, 3, none⟩ = some (.int .i64 a1_3) := zc BK130 3; have hfz54_0 := blk_frozen BK130.out 0; have hfz54_1 := blk_frozen BK130.out 1; have hfz54_2 := blk_frozen BK130.out 2; have hfz54_3 := blk_frozen BK130.out 3) | ((with_reducible refine gate_builtin (b := .append) (xs := #[.tmp 60, .tmp 62]) rfl ?_); at_builtin; refine Kd.R_append k51 (w0 := w) w.heap.size rfl (.tmp 60) (.tmp 62) 25 51 (.agg #[(.int .i64 0), (.int .i64 0), (.int .i64 0), (.int .i64 0)]) 32 rfl Try.underlying25 info51 rfl (by decide) (by omega) v152 y151 (⟨wrap64 (a1_0 + ((rd_T51 l0 x5_2).f0)), a1_1, a1_2, a1_3⟩ : S51) [.int .i64 (wrap64 (a1_0 + ((rd_T51 l0 x5_2).f0))), .int .i64 a1_1, .int .i64 a1_2, .int .i64 a1_3] (fun k_ => k_ ≠ gb130) (fun _ => False) rfl rfl ?aP (fun _ hk => hk.elim) ?aF ?aO ?aB ?aS ?aL ?_; (case aP => exact k51_mkM _ _ _ (⟨wrap64 (a1_0 + ((rd_T51 l0 x5_2).f0)), a1_1, a1_2, a1_3⟩ : S51)); (case aB => exact (zb1 HB)); (case aF => exact (fun k_ hk => Kd.freshB (g := gb130) (o := .cells #[.int .i64 (wrap64 (a1_0 + ((rd_T51 l0 x5_2).f0))), .int .i64 a1_1, .int .i64 a1_2, .int .i64 a1_3] 51 (0, 0)) (zq1 BK130) k_ hk)); (case aO => exact (zq3 HO153)); (case aS => exact (below_size (zb1 HB))); (case aL => have := LMc44.out; omega); intro v158 w55 ho hb hg hat; rw [← Ny157.out] at ho; have HO159 := Aside0.mk (ho); replace BK130 := Aside0.mk (blk_grown (g := gb130) (o := .cells #[.int .i64 (wrap64 (a1_0 + ((rd_T51 l0 x5_2).f0))), .int .i64 a1_1, .int .i64 a1_2, .int .i64 a1_3] 51 (0, 0)) (zq1 BK130) hg (Kd.R_away HO153.out (fun _ hk => hk))); replace HB := Aside0.mk (hb); clear HO153; clear ho hb hg hat) | ((with_reducible refine gate_builtin (b := .append) (xs := #[.tmp 64, .tmp 65]) rfl ?_); at_builtin; refine Kd.R_append_rows k51 (w0 := w) w.heap.size rfl (.tmp 64) (.tmp 65) 25 51 (.agg #[(.int .i64 0), (.int .i64 0), (.int .i64 0), (.int .i64 0)]) 32 rfl Try.underlying25 info51 rfl (by decide) (by omega) v158 y157 y140 _ _ _ (fun k_ => k_ ≠ gb130) (fun _ => False) rfl rfl ?aO ?aR (fun _ _ h => h) (fun _ h => h.elim) ?aF ?aB ?aS ?aL ?_; (case aR => repeat (first | exact (Kd.C_below HR143.out HB.out) | (with_reducible refine Kd.C_alloc ?_ _) | (with_reducible refine Kd.C_drewN ?_ _) | (with_reducible refine Kd.C_drew ?_))); (case aB => exact (zb1 HB)); (case aF => exact (fun k_ hk => Kd.freshB (g := gb130) (o := .cells #[.int .i64 (wrap64 (a1_0 + ((rd_T51 l0 x5_2).f0))), .int .i64 a1_1, .int .i64 a1_2, .int .i64 a1_3] 51 (0, 0)) (zq1 BK130) k_ hk)); (case aO => exact (zq3 HO159)); (case aS => exact (below_size (zb1 HB))); (case aL => have := LMc45.out; omega); intro v161 w56 ho hb hg hat; rw [← Ny160.out] at ho; have HO162 := Aside0.mk (ho); replace BK130 := Aside0.mk (blk_grown (g := gb130) (o := .cells #[.int .i64 (wrap64 (a1_0 + ((rd_T51 l0 x5_2).f0))), .int .i64 a1_1, .int .i64 a1_2, .int .i64 a1_3] 51 (0, 0)) (zq1 BK130) hg (Kd.R_away HO159.out (fun _ hk => hk))); replace HB := Aside0.mk (hb); clear HO159; clear ho hb hg hat))
                 go_ret
                 exact ⟨_, by first | rfl | (simp [errW_none, errW_some] <;> rfl) | (simp only [← hji26]; first | rfl | (simp [errW_none, errW_some] <;> rfl)) | (simp [*, errW_none, errW_some] <;> rfl), by (with_reducible repeat (first | apply Kd.R_alloc | apply Kd.R_drewN | apply Kd.R_drew)); exact Kd.R_mono HO162.out (fun _ hk => trivial), (zb1 HB)⟩
                ·
                 rw [if_neg c45] at H
                 exact absurd H (by simp)
               ·
                rw [if_neg c44] at H
                exact absurd H (by simp)
             ·
              rw [if_neg c31] at H
              exact absurd H (by simp)
            ·
             rw [if_neg c30] at H
             exact absurd H (by simp)
           ·
            rw [if_neg c28] at H
            exact absurd H (by simp)
          ·
           rw [if_neg c27] at H
           exact absurd H (by simp)
         ·
          rw [if_neg c25] at H
          exact absurd H (by simp)
        ·
         rw [if_neg c24] at H
         exact absurd H (by simp)
       ·
        replace c23 := Bool.eq_false_iff.mpr c23
        subst c23
        have H1 : ((some (([] : List (S51)) : List (S51))).bind fun y163 => (if 0 ≤ x5_2 then (if x5_2 ≤ (l0.length : Int) then ((some (l0.take (x5_2 : Int).toNat : List (S51))).bind fun y166 => (if y163.length + y166.length < 4398046511104 then ((some (y163 ++ y166 : List (S51))).bind fun y170 => (if a1_0 = 0 then (if y170.length + y133.length < 4398046511104 then (some (y170 ++ y133)) else (none)) else (if y170.length < 4398046511104 then ((some (y170 ++ [(⟨a1_0, a1_1, a1_2, a1_3⟩ : S51)] : List (S51))).bind fun y176 => (if y176.length + y133.length < 4398046511104 then (some (y176 ++ y133)) else (none))) else (none)))) else (none))) else (none)) else (none))) = some r := by rw [if_neg (show ¬ (false = true) by decide)] at H; exact H
        clear H
        have H := H1
        clear H1
        obtain ⟨y163, hy163⟩ : ∃ y_ : List (S51), y_ = (([] : List (S51))) := ⟨_, rfl⟩
        replace H : (if 0 ≤ x5_2 then (if x5_2 ≤ (l0.length : Int) then ((some (l0.take (x5_2 : Int).toNat : List (S51))).bind fun y166 => (if y163.length + y166.length < 4398046511104 then ((some (y163 ++ y166 : List (S51))).bind fun y170 => (if a1_0 = 0 then (if y170.length + y133.length < 4398046511104 then (some (y170 ++ y133)) else (none)) else (if y170.length < 4398046511104 then ((some (y170 ++ [(⟨a1_0, a1_1, a1_2, a1_3⟩ : S51)] : List (S51))).bind fun y176 => (if y176.length + y133.length < 4398046511104 then (some (y176 ++ y133)) else (none))) else (none)))) else (none))) else (none)) else (none)) = some r := by first | (rw [hy163]; with_reducible exact H) | (have H2_ := (Option.bind_some _ _).symm.trans H; rw [hy163]; with_reducible exact H2_) | (have H2_ := (Option.bind_some _ _).symm.trans H; with_reducible exact H2_) | with_reducible exact H | (rw [hy163]; exact H) | exact H
        have Ny163 := Aside0.mk hy163
        clear hy163
        by_cases c57 : 0 ≤ x5_2
        ·
         rw [if_pos c57] at H
         have c57b0 := eq_true c57
         have c57b1 : decide (0 ≤ x5_2) = true := decide_eq_true c57
         clear c57
         by_cases c58 : x5_2 ≤ (l0.length : Int)
         ·
          rw [if_pos c58] at H
          have c58b0 := eq_true c58
          have c58b1 : decide (x5_2 ≤ (l0.length : Int)) = true := decide_eq_true c58
          clear c58
          obtain ⟨y166, hy166⟩ : ∃ y_ : List (S51), y_ = (l0.take (x5_2 : Int).toNat) := ⟨_, rfl⟩
          replace H : (if y163.length + y166.length < 4398046511104 then ((some (y163 ++ y166 : List (S51))).bind fun y170 => (if a1_0 = 0 then (if y170.length + y133.length < 4398046511104 then (some (y170 ++ y133)) else (none)) else (if y170.length < 4398046511104 then ((some (y170 ++ [(⟨a1_0, a1_1, a1_2, a1_3⟩ : S51)] : List (S51))).bind fun y176 => (if y176.length + y133.length < 4398046511104 then (some (y176 ++ y133)) else (none))) else (none)))) else (none)) = some r := by first | (rw [hy166]; with_reducible exact H) | (have H2_ := (Option.bind_some _ _).symm.trans H; rw [hy166]; with_reducible exact H2_) | (have H2_ := (Option.bind_some _ _).symm.trans H; with_reducible exact H2_) | with_reducible exact H | (rw [hy166]; exact H) | exact H
          have Ny166 := Aside0.mk hy166
          clear hy166
          by_cases c59 : y163.length + y166.length < 4398046511104
          ·
           rw [if_pos c59] at H
           have LMc59 := Aside0.mk c59
           clear c59
           obtain ⟨y170, hy170⟩ : ∃ y_ : List (S51), y_ = (y163 ++ y166) := ⟨_, rfl⟩
           replace H : (if a1_0 = 0 then (if y170.length + y133.length < 4398046511104 then (some (y170 ++ y133)) else (none)) else (if y170.length < 4398046511104 then ((some (y170 ++ [(⟨a1_0, a1_1, a1_2, a1_3⟩ : S51)] : List (S51))).bind fun y176 => (if y176.length + y133.length < 4398046511104 then (some (y176 ++ y133)) else (none))) else (none))) = some r := by first | (rw [hy170]; with_reducible exact H) | (have H2_ := (Option.bind_some _ _).symm.trans H; rw [hy170]; with_reducible exact H2_) | (have H2_ := (Option.bind_some _ _).symm.trans H; with_reducible exact H2_) | with_reducible exact H | (rw [hy170]; exact H) | exact H
           have Ny170 := Aside0.mk hy170
           clear hy170
           by_cases c60 : a1_0 = 0
           ·
            rw [if_pos c60] at H
            have c60b0 : (a1_0 == 0) = true := beq_iff_eq.mpr c60
            have c60b1 : (a1_0 != 0) = false := bne_eq_false_iff_eq.mpr c60
            clear c60
            by_cases c61 : y170.length + y133.length < 4398046511104
            ·
             rw [if_pos c61] at H
             have LMc61 := Aside0.mk c61
             clear c61
             obtain ⟨y173, hy173⟩ : ∃ y_ : List (S51), y_ = (y170 ++ y133) := ⟨_, rfl⟩
             replace H : (some y173) = some r := by first | (rw [hy173]; with_reducible exact H) | (have H2_ := (Option.bind_some _ _).symm.trans H; rw [hy173]; with_reducible exact H2_) | (have H2_ := (Option.bind_some _ _).symm.trans H; with_reducible exact H2_) | with_reducible exact H | (rw [hy173]; exact H) | exact H
             have Ny173 := Aside0.mk hy173
             clear hy173
             obtain rfl := Option.some.inj H
             go_wp2_with (first | ((with_reducible refine gate_dst (N := 52) rfl ?_); refine Kd.R_lit k51 _ 51 ?hg (N := 52) ?hd (xs := ([] : List (S51))) (inner := []) (ok := fun _ => True) (okp := fun _ => True) ?hr ?hp (fun _ hk => hk) trivial (Below.refl _ _) (Nat.le_refl _) (by simp) ?_; (case hd => rfl); (case hg => rfl); (case hr => first | (go_simp; done) | (go_simp; rfl)); (case hp => exact (Reps.none _ _)); intro v164 w62 ho63 hb hg_ hnew_; clear hg_ hnew_; (first | rw [← Ny163.out] at ho63 | (simp only [Int.reduceToNat] at ho63; rw [← Ny163.out] at ho63)); have HO165 := Aside0.mk (Kd.R_lower (Kd.R_newB ho63 (g := gb130) (o := .cells #[.int .i64 a1_0, .int .i64 a1_1, .int .i64 a1_2, .int .i64 a1_3] 51 (0, 0)) (zq1 BK130)) (below_size (zb1 HB))); replace BK130 := Aside0.mk (zbb BK130 hb); replace HB := Aside0.mk (below_step (zb1 HB) hb); clear hb ho63; have q64 : (x5_2 : Int) ≤ ((l0.length : Int) : Int) := of_decide_eq_true (by first | (with_reducible assumption) | assumption); obtain ⟨i064, hi064, _, hsz64, _⟩ := info_parts info51; have hroom64 : l0.length ≤ c0 := HC0.out; have hC64 : Kd.C k51 _ A0 l0.length l0 := HR0.out; have hcut64 := cut_to (P := Try.prog) 25 51 .i64 Try.underlying25 hi064 A0 l0.length c0 x5_2 (of_decide_eq_true (by first | (with_reducible assumption) | assumption)) q64 hroom64; have hr64 := Kd.C_take (m := (x5_2 : Int).toNat) hC64 (by omega); have hy64 : y166.length = (x5_2 : Int).toNat := (by rw [Ny166.out, List.length_take]; omega); rw [← Ny166.out] at hr64; rw [← hy64] at hcut64; have HR169 := Aside0.mk hr64; have HC169 := Aside0.mk (show y166.length ≤ c0 from by omega); clear hr64 hC64 hroom64 hi064 hsz64; have KY64 := Aside0.mk hy64; clear hy64; replace q64 := eq_true q64) | ((with_reducible refine gate_builtin (b := .append) (xs := #[.tmp 52, .tmp 55]) rfl ?_); at_builtin; refine Kd.R_append_rows k51 (w0 := w) w.heap.size rfl (.tmp 52) (.tmp 55) 25 51 (.agg #[(.int .i64 0), (.int .i64 0), (.int .i64 0), (.int .i64 0)]) 32 rfl Try.underlying25 info51 rfl (by decide) (by omega) v164 y163 y166 _ _ _ (fun k_ => k_ ≠ gb130) (fun _ => False) rfl rfl ?aO ?aR (fun _ _ h => h) (fun _ h => h.elim) ?aF ?aB ?aS ?aL ?_; (case aR => repeat (first | exact (Kd.C_below HR169.out HB.out) | (with_reducible refine Kd.C_alloc ?_ _) | (with_reducible refine Kd.C_drewN ?_ _) | (with_reducible refine Kd.C_drew ?_))); (case aB => exact (zb1 HB)); (case aF => exact (fun k_ hk => Kd.freshB (g := gb130) (o := .cells #[.int .i64 a1_0, .int .i64 a1_1, .int .i64 a1_2, .int .i64 a1_3] 51 (0, 0)) (zq1 BK130) k_ hk)); (case aO => exact (by (with_reducible repeat (first | apply Kd.R_alloc | apply Kd.R_drewN | apply Kd.R_drew)); exact Kd.R_mono HO165.out (fun _ hk => hk.2))); (case aS => exact (below_size (zb1 HB))); (case aL => have := LMc59.out; omega); intro v171 w65 ho hb hg hat; rw [← Ny170.out] at ho; have HO172 := Aside0.mk (ho); replace BK130 := Aside0.mk (blk_grown (g := gb130) (o := .cells #[.int .i64 a1_0, .int .i64 a1_1, .int .i64 a1_2, .int .i64 a1_3] 51 (0, 0)) (zq1 BK130) hg (Kd.R_away HO165.out (fun _ hk => hk.2))); replace HB := Aside0.mk (hb); clear HO165; clear ho hb hg hat; have hcz66_0 : w65.cell? ⟨gb130, 0, none⟩ = some (.int .i64 a1_0) := zc BK130 0; have hcz66_1 : w65.cell? ⟨gb130, 1, none⟩ = some (.int .i64 a1_1) := zc BK130 1; have hcz66_2 : w65.cell? ⟨gb130, 2, none⟩ = some (.int .i64 a1_2) := zc BK130 2; have hcz66_3 : w65.cell? ⟨gb130, 3, none⟩ = some (.int .i64 a1_3) := zc BK130 3; have hfz66_0 := blk_frozen BK130.out 0; have hfz66_1 := blk_frozen BK130.out 1; have hfz66_2 := blk_frozen BK130.out 2; have hfz66_3 := blk_frozen BK130.out 3) | ((with_reducible refine gate_builtin (b := .append) (xs := #[.tmp 64, .tmp 65]) rfl ?_); at_builtin; refine Kd.R_append_rows k51 (w0 := w) w.heap.size rfl (.tmp 64) (.tmp 65) 25 51 (.agg #[(.int .i64 0), (.int .i64 0), (.int .i64 0), (.int .i64 0)]) 32 rfl Try.underlying25 info51 rfl (by decide) (by omega) v171 y170 y133 _ _ _ (fun k_ => k_ ≠ gb130) (fun _ => False) rfl rfl ?aO ?aR (fun _ _ h => h) (fun _ h => h.elim) ?aF ?aB ?aS ?aL ?_; (case aR => repeat (first | exact (Kd.C_below HR136.out HB.out) | (with_reducible refine Kd.C_alloc ?_ _) | (with_reducible refine Kd.C_drewN ?_ _) | (with_reducible refine Kd.C_drew ?_))); (case aB => exact (zb1 HB)); (case aF => exact (fun k_ hk => Kd.freshB (g := gb130) (o := .cells #[.int .i64 a1_0, .int .i64 a1_1, .int .i64 a1_2, .int .i64 a1_3] 51 (0, 0)) (zq1 BK130) k_ hk)); (case aO => exact (zq3 HO172)); (case aS => exact (below_size (zb1 HB))); (case aL => have := LMc61.out; omega); intro v174 w67 ho hb hg hat; rw [← Ny173.out] at ho; have HO175 := Aside0.mk (ho); replace BK130 := Aside0.mk (blk_grown (g := gb130) (o := .cells #[.int .i64 a1_0, .int .i64 a1_1, .int .i64 a1_2, .int .i64 a1_3] 51 (0, 0)) (zq1 BK130) hg (Kd.R_away HO172.out (fun _ hk => hk))); replace HB := Aside0.mk (hb); clear HO172; clear ho hb hg hat))
             go_ret
             exact ⟨_, by first | rfl | (simp [errW_none, errW_some] <;> rfl) | (simp [*, errW_none, errW_some] <;> rfl), by (with_reducible repeat (first | apply Kd.R_alloc | apply Kd.R_drewN | apply Kd.R_drew)); exact Kd.R_mono HO175.out (fun _ hk => trivial), (zb1 HB)⟩
            ·
             rw [if_neg c61] at H
             exact absurd H (by simp)
           ·
            rw [if_neg c60] at H
            have c60b0 : (a1_0 == 0) = false := beq_eq_false_iff_ne.mpr c60
            have c60b1 : (a1_0 != 0) = true := bne_iff_ne.mpr c60
            by_cases c68 : y170.length < 4398046511104
            ·
             rw [if_pos c68] at H
             have LMc68 := Aside0.mk c68
             clear c68
             obtain ⟨y176, hy176⟩ : ∃ y_ : List (S51), y_ = (y170 ++ [(⟨a1_0, a1_1, a1_2, a1_3⟩ : S51)]) := ⟨_, rfl⟩
             replace H : (if y176.length + y133.length < 4398046511104 then (some (y176 ++ y133)) else (none)) = some r := by first | (rw [hy176]; with_reducible exact H) | (have H2_ := (Option.bind_some _ _).symm.trans H; rw [hy176]; with_reducible exact H2_) | (have H2_ := (Option.bind_some _ _).symm.trans H; with_reducible exact H2_) | with_reducible exact H | (rw [hy176]; exact H) | exact H
             have Ny176 := Aside0.mk hy176
             clear hy176
             by_cases c69 : y176.length + y133.length < 4398046511104
             ·
              rw [if_pos c69] at H
              have LMc69 := Aside0.mk c69
              clear c69
              obtain ⟨y179, hy179⟩ : ∃ y_ : List (S51), y_ = (y176 ++ y133) := ⟨_, rfl⟩
              replace H : (some y179) = some r := by first | (rw [hy179]; with_reducible exact H) | (have H2_ := (Option.bind_some _ _).symm.trans H; rw [hy179]; with_reducible exact H2_) | (have H2_ := (Option.bind_some _ _).symm.trans H; with_reducible exact H2_) | with_reducible exact H | (rw [hy179]; exact H) | exact H
              have Ny179 := Aside0.mk hy179
              clear hy179
              obtain rfl := Option.some.inj H
              go_wp2_with (first | ((with_reducible refine gate_dst (N := 52) rfl ?_); refine Kd.R_lit k51 _ 51 ?hg (N := 52) ?hd (xs := ([] : List (S51))) (inner := []) (ok := fun _ => True) (okp := fun _ => True) ?hr ?hp (fun _ hk => hk) trivial (Below.refl _ _) (Nat.le_refl _) (by simp) ?_; (case hd => rfl); (case hg => rfl); (case hr => first | (go_simp; done) | (go_simp; rfl)); (case hp => exact (Reps.none _ _)); intro v164 w70 ho71 hb hg_ hnew_; clear hg_ hnew_; (first | rw [← Ny163.out] at ho71 | (simp only [Int.reduceToNat] at ho71; rw [← Ny163.out] at ho71)); have HO165 := Aside0.mk (Kd.R_lower (Kd.R_newB ho71 (g := gb130) (o := .cells #[.int .i64 a1_0, .int .i64 a1_1, .int .i64 a1_2, .int .i64 a1_3] 51 (0, 0)) (zq1 BK130)) (below_size (zb1 HB))); replace BK130 := Aside0.mk (zbb BK130 hb); replace HB := Aside0.mk (below_step (zb1 HB) hb); clear hb ho71; have q72 : (x5_2 : Int) ≤ ((l0.length : Int) : Int) := of_decide_eq_true (by first | (with_reducible assumption) | assumption); obtain ⟨i072, hi072, _, hsz72, _⟩ := info_parts info51; have hroom72 : l0.length ≤ c0 := HC0.out; have hC72 : Kd.C k51 _ A0 l0.length l0 := HR0.out; have hcut72 := cut_to (P := Try.prog) 25 51 .i64 Try.underlying25 hi072 A0 l0.length c0 x5_2 (of_decide_eq_true (by first | (with_reducible assumption) | assumption)) q72 hroom72; have hr72 := Kd.C_take (m := (x5_2 : Int).toNat) hC72 (by omega); have hy72 : y166.length = (x5_2 : Int).toNat := (by rw [Ny166.out, List.length_take]; omega); rw [← Ny166.out] at hr72; rw [← hy72] at hcut72; have HR169 := Aside0.mk hr72; have HC169 := Aside0.mk (show y166.length ≤ c0 from by omega); clear hr72 hC72 hroom72 hi072 hsz72; have KY72 := Aside0.mk hy72; clear hy72; replace q72 := eq_true q72) | ((with_reducible refine gate_builtin (b := .append) (xs := #[.tmp 52, .tmp 55]) rfl ?_); at_builtin; refine Kd.R_append_rows k51 (w0 := w) w.heap.size rfl (.tmp 52) (.tmp 55) 25 51 (.agg #[(.int .i64 0), (.int .i64 0), (.int .i64 0), (.int .i64 0)]) 32 rfl Try.underlying25 info51 rfl (by decide) (by omega) v164 y163 y166 _ _ _ (fun k_ => k_ ≠ gb130) (fun _ => False) rfl rfl ?aO ?aR (fun _ _ h => h) (fun _ h => h.elim) ?aF ?aB ?aS ?aL ?_; (case aR => repeat (first | exact (Kd.C_below HR169.out HB.out) | (with_reducible refine Kd.C_alloc ?_ _) | (with_reducible refine Kd.C_drewN ?_ _) | (with_reducible refine Kd.C_drew ?_))); (case aB => exact (zb1 HB)); (case aF => exact (fun k_ hk => Kd.freshB (g := gb130) (o := .cells #[.int .i64 a1_0, .int .i64 a1_1, .int .i64 a1_2, .int .i64 a1_3] 51 (0, 0)) (zq1 BK130) k_ hk)); (case aO => exact (by (with_reducible repeat (first | apply Kd.R_alloc | apply Kd.R_drewN | apply Kd.R_drew)); exact Kd.R_mono HO165.out (fun _ hk => hk.2))); (case aS => exact (below_size (zb1 HB))); (case aL => have := LMc59.out; omega); intro v171 w73 ho hb hg hat; rw [← Ny170.out] at ho; have HO172 := Aside0.mk (ho); replace BK130 := Aside0.mk (blk_grown (g := gb130) (o := .cells #[.int .i64 a1_0, .int .i64 a1_1, .int .i64 a1_2, .int .i64 a1_3] 51 (0, 0)) (zq1 BK130) hg (Kd.R_away HO165.out (fun _ hk => hk.2))); replace HB := Aside0.mk (hb); clear HO165; clear ho hb hg hat; have hcz74_0 : w73.cell? ⟨gb130, 0, none⟩ = some (.int .i64 a1_0) := zc BK130 0; have hcz74_1 : w73.cell? ⟨gb130, 1, none⟩ = some (.int .i64 a1_1) := zc BK130 1; have hcz74_2 : w73.cell? ⟨gb130, 2, none⟩ = some (.int .i64 a1_2) := zc BK130 2; have hcz74_3 : w73.cell? ⟨gb130, 3, none⟩ = some (.int .i64 a1_3) := zc BK130 3; have hfz74_0 := blk_frozen BK130.out 0; have hfz74_1 := blk_frozen BK130.out 1; have hfz74_2 := blk_frozen BK130.out 2; have hfz74_3 := blk_frozen BK130.out 3) | ((with_reducible refine gate_builtin (b := .append) (xs := #[.tmp 60, .tmp 62]) rfl ?_); at_builtin; refine Kd.R_append k51 (w0 := w) w.heap.size rfl (.tmp 60) (.tmp 62) 25 51 (.agg #[(.int .i64 0), (.int .i64 0), (.int .i64 0), (.int .i64 0)]) 32 rfl Try.underlying25 info51 rfl (by decide) (by omega) v171 y170 (⟨a1_0, a1_1, a1_2, a1_3⟩ : S51) [.int .i64 a1_0, .int .i64 a1_1, .int .i64 a1_2, .int .i64 a1_3] (fun k_ => k_ ≠ gb130) (fun _ => False) rfl rfl ?aP (fun _ hk => hk.elim) ?aF ?aO ?aB ?aS ?aL ?_; (case aP => exact k51_mkM _ _ _ (⟨a1_0, a1_1, a1_2, a1_3⟩ : S51)); (case aB => exact (zb1 HB)); (case aF => exact (fun k_ hk => Kd.freshB (g := gb130) (o := .cells #[.int .i64 a1_0, .int .i64 a1_1, .int .i64 a1_2, .int .i64 a1_3] 51 (0, 0)) (zq1 BK130) k_ hk)); (case aO => exact (zq3 HO172)); (case aS => exact (below_size (zb1 HB))); (case aL => have := LMc68.out; omega); intro v177 w75 ho hb hg hat; rw [← Ny176.out] at ho; have HO178 := Aside0.mk (ho); replace BK130 := Aside0.mk (blk_grown (g := gb130) (o := .cells #[.int .i64 a1_0, .int .i64 a1_1, .int .i64 a1_2, .int .i64 a1_3] 51 (0, 0)) (zq1 BK130) hg (Kd.R_away HO172.out (fun _ hk => hk))); replace HB := Aside0.mk (hb); clear HO172; clear ho hb hg hat) | ((with_reducible refine gate_builtin (b := .append) (xs := #[.tmp 64, .tmp 65]) rfl ?_); at_builtin; refine Kd.R_append_rows k51 (w0 := w) w.heap.size rfl (.tmp 64) (.tmp 65) 25 51 (.agg #[(.int .i64 0), (.int .i64 0), (.int .i64 0), (.int .i64 0)]) 32 rfl Try.underlying25 info51 rfl (by decide) (by omega) v177 y176 y133 _ _ _ (fun k_ => k_ ≠ gb130) (fun _ => False) rfl rfl ?aO ?aR (fun _ _ h => h) (fun _ h => h.elim) ?aF ?aB ?aS ?aL ?_; (case aR => repeat (first | exact (Kd.C_below HR136.out HB.out) | (with_reducible refine Kd.C_alloc ?_ _) | (with_reducible refine Kd.C_drewN ?_ _) | (with_reducible refine Kd.C_drew ?_))); (case aB => exact (zb1 HB)); (case aF => exact (fun k_ hk => Kd.freshB (g := gb130) (o := .cells #[.int .i64 a1_0, .int .i64 a1_1, .int .i64 a1_2, .int .i64 a1_3] 51 (0, 0)) (zq1 BK130) k_ hk)); (case aO => exact (zq3 HO178)); (case aS => exact (below_size (zb1 HB))); (case aL => have := LMc69.out; omega); intro v180 w76 ho hb hg hat; rw [← Ny179.out] at ho; have HO181 := Aside0.mk (ho); replace BK130 := Aside0.mk (blk_grown (g := gb130) (o := .cells #[.int .i64 a1_0, .int .i64 a1_1, .int .i64 a1_2, .int .i64 a1_3] 51 (0, 0)) (zq1 BK130) hg (Kd.R_away HO178.out (fun _ hk => hk))); replace HB := Aside0.mk (hb); clear HO178; clear ho hb hg hat))
              go_ret
              exact ⟨_, by first | rfl | (simp [errW_none, errW_some] <;> rfl) | (simp [*, errW_none, errW_some] <;> rfl), by (with_reducible repeat (first | apply Kd.R_alloc | apply Kd.R_drewN | apply Kd.R_drew)); exact Kd.R_mono HO181.out (fun _ hk => trivial), (zb1 HB)⟩
             ·
              rw [if_neg c69] at H
              exact absurd H (by simp)
            ·
             rw [if_neg c68] at H
             exact absurd H (by simp)
          ·
           rw [if_neg c59] at H
           exact absurd H (by simp)
         ·
          rw [if_neg c58] at H
          exact absurd H (by simp)
        ·
         rw [if_neg c57] at H
         exact absurd H (by simp)
    ·
     rw [if_neg c15] at H
     exact absurd H (by simp)
   ·
    rw [if_neg c14] at H
    exact absurd H (by simp)
/-! ### spec_poSum: function 59 -/
set_option maxHeartbeats 8000000 in
set_option maxRecDepth 100000 in
theorem spec_poSum.calls (k : Nat) (A0 : Option Addr) (c0 : Nat) (l0 : List (S51)) (r1 : List (S51)) (r2 : Bool) (w : World) (hr0 : Kd.C k51 w A0 l0.length l0) (hc0 : l0.length ≤ c0) (h : spec_poSum.f k l0 = some (r1, r2)) :
  Calls Try.prog 59 #[.slice A0 l0.length c0] w fun e w' => ∃ v0_ : Value, e = .returned (.tuple #[v0_, .bool r2]) ∧ Kd.R k51 51 w' w.heap.size (fun _ => True) v0_ r1 ∧ Below w.heap.size w w' := by
 have hu51 := Try.underlying51
 have HR0 := Aside0.mk hr0
 have HC0 := Aside0.mk hc0
 clear hr0 hc0
 have HB := Aside0.mk (Below.refl w.heap.size w)
 have H : (spec_poSum.l0 k ([] : List (S51)) l0 (l0.length : Int) 0) = some (r1, r2) := h
 clear h
 have H' := Aside0.mk H
 clear H
 go_enter Try.func59, Try.ntmps59
 go_wp2
 go_loopg [4, 9] k (fun kq v4 v9 w' => ∃ (x4_1 : List (S51)) (x9_1 : Int), v9 = .int .i64 x9_1 ∧ Aside0 (spec_poSum.l0 kq x4_1 l0 (l0.length : Int) x9_1 = some (r1, r2)) ∧ Aside0 (kq ≤ k) ∧ Aside0 (Kd.R k51 51 w' w.heap.size (fun _ => True) v4 x4_1) ∧ Aside0 (Below w.heap.size w w'))
 case atStart => exact ⟨(([] : List (S51))), (0), (by first | rfl | (simp; done) | (simp [*]; done)), H', ⟨Nat.le_refl _⟩, ⟨by first | exact Kd.R_nil _ _ _ _ _ | exact Kd.N_nil _ _ _ _ _ | exact Kd.V_nil _ _ _ _ _ | exact Kd.Q_nil _ _ _ _ _ | exact Kd.S_nil _ _ _ _ _⟩, ⟨(zb0 HB)⟩⟩
 case round =>
  clear H'
  obtain ⟨x4_1, x9_1, rfl, HA, HK1, HO_4, HB⟩ := hrel
  cases gk with
  | zero => exact absurd HA.out (by simp [spec_poSum.l0])
  | succ k1 =>
   have H := HA.out
   clear HA
   simp only [spec_poSum.l0] at H
   by_cases c2 : x9_1 < (l0.length : Int)
   ·
    rw [if_pos c2] at H
    have c2b0 : decide (x9_1 < (l0.length : Int)) = true := decide_eq_true c2
    clear c2
    by_cases c3 : 0 ≤ x9_1
    ·
     rw [if_pos c3] at H
     have c3b0 : decide (0 ≤ x9_1) = true := decide_eq_true c3
     clear c3
     by_cases c4 : x9_1 < (l0.length : Int)
     ·
      rw [if_pos c4] at H
      have c4b0 : decide (x9_1 < (l0.length : Int)) = true := decide_eq_true c4
      clear c4
      replace H := Option.bind_eq_some_iff.mp H
      obtain ⟨t184, A50, H⟩ := H
      replace H : (spec_poSum.l0 k1 t184 l0 (l0.length : Int) (wrap64 (x9_1 + 1))) = some (r1, r2) := H
      have A5 := Aside0.mk A50
      clear A50
      have H' := Aside0.mk H
      clear H
      have p182 : 0 ≤ (x9_1 : Int) := of_decide_eq_true (by first | (with_reducible assumption) | assumption)
      have q182 : x9_1 < (l0.length : Int) := of_decide_eq_true (by first | (with_reducible assumption) | assumption)
      obtain ⟨ad182, e182, hx182_0, hx182_1, hx182_2, hx182_3⟩ := at_T51 HR0.out x9_1 p182 q182
      cases e182
      replace hx182_0 := pw_cell_below HB.out hx182_0
      replace hx182_1 := pw_cell_below HB.out hx182_1
      replace hx182_2 := pw_cell_below HB.out hx182_2
      replace hx182_3 := pw_cell_below HB.out hx182_3
      replace p182 := eq_true p182
      replace q182 := eq_true q182
      go_wp2_with (first | ((with_reducible refine gate_dst (N := 6) rfl ?_); refine zbe (N := 6) (cs := #[.int .i64 0, .int .i64 0, .int .i64 0, .int .i64 0]) (t := 51) ?_; intro gb183 hg w6 hbox hb; have BK183 := Aside0.mk (hbox); have GW183 := Aside0.mk (zge (zb0 HB) hg); have GE183 := GW183; replace HO_4 := Aside0.mk (Kd.R_below (Kd.R_elderB (zq3 HO_4) gb183 (Nat.le_of_eq hg.symm)) hb); replace HB := Aside0.mk (below_step (zb0 HB) hb); clear hb hbox hg; have hcz7_0 : w6.cell? ⟨gb183, 0, none⟩ = some (.int .i64 0) := zc BK183 0; have hcz7_1 : w6.cell? ⟨gb183, 1, none⟩ = some (.int .i64 0) := zc BK183 1; have hcz7_2 : w6.cell? ⟨gb183, 2, none⟩ = some (.int .i64 0) := zc BK183 2; have hcz7_3 : w6.cell? ⟨gb183, 3, none⟩ = some (.int .i64 0) := zc BK183 3; have hfz7_0 := blk_frozen BK183.out 0; have hfz7_1 := blk_frozen BK183.out 1; have hfz7_2 := blk_frozen BK183.out 2; have hfz7_3 := blk_frozen BK183.out 3; obtain ⟨Ao8, co8, eo8⟩ := Kd.R_slice HO_4.out; subst eo8) | ((with_reducible refine gate_callee (f := 72) rfl ?_); refine goesL_ (some 15) rfl rfl Try.func72 (by kernel_rfl) rfl #[.slice Ao8 x4_1.length co8, .agg #[.int .i64 ((rd_T51 l0 x9_1).f0), .int .i64 ((rd_T51 l0 x9_1).f1), .int .i64 ((rd_T51 l0 x9_1).f2), .int .i64 ((rd_T51 l0 x9_1).f3)]] rfl zq6 ?_; (with_reducible refine (spec_poPut.calls k1 _ _ x4_1 ((rd_T51 l0 x9_1).f0) ((rd_T51 l0 x9_1).f1) ((rd_T51 l0 x9_1).f2) ((rd_T51 l0 x9_1).f3) t184 _ ?side1 ?side2 A5.out).mono ?_); (case side1 => refine (Kd.R_reads' (e := 51) (base := w.heap.size) (ok := fun k_ => (True ∧ k_ ≠ gb183)) (n := x4_1.length) (c := co8) ?_).2.2; exact (by (with_reducible repeat (first | apply Kd.R_alloc | apply Kd.R_drewN | apply Kd.R_drew)); exact (Kd.R_mono (Kd.R_far (p := ⟨gb183, 3, none⟩) (Kd.R_far (p := ⟨gb183, 2, none⟩) (Kd.R_far (p := ⟨gb183, 1, none⟩) (Kd.R_far (p := ⟨gb183, 0, none⟩) (Kd.R_mono HO_4.out (fun k_ hk => (⟨hk, hk.2⟩ : _ ∧ k_ ≠ gb183))) (fun _ hk => hk.2) (.int .i64 ((rd_T51 l0 x9_1).f0))) (fun _ hk => hk.2) (.int .i64 ((rd_T51 l0 x9_1).f1))) (fun _ hk => hk.2) (.int .i64 ((rd_T51 l0 x9_1).f2))) (fun _ hk => hk.2) (.int .i64 ((rd_T51 l0 x9_1).f3))) (fun _ h_ => h_.1)))); (case side2 => exact (Kd.R_reads' HO_4.out).2.1); rintro e w9 ⟨v185, rfl, ho0, hb⟩; refine ⟨_, rfl, ?_⟩; have HO186 := Aside0.mk (Kd.R_lower (Kd.R_newB (Kd.R_new' ho0 (Kd.R_lt (by (with_reducible repeat (first | apply Kd.R_alloc | apply Kd.R_drewN | apply Kd.R_drew)); exact (Kd.R_mono (Kd.R_far (p := ⟨gb183, 3, none⟩) (Kd.R_far (p := ⟨gb183, 2, none⟩) (Kd.R_far (p := ⟨gb183, 1, none⟩) (Kd.R_far (p := ⟨gb183, 0, none⟩) (Kd.R_mono HO_4.out (fun k_ hk => (⟨hk, hk.2⟩ : _ ∧ k_ ≠ gb183))) (fun _ hk => hk.2) (.int .i64 ((rd_T51 l0 x9_1).f0))) (fun _ hk => hk.2) (.int .i64 ((rd_T51 l0 x9_1).f1))) (fun _ hk => hk.2) (.int .i64 ((rd_T51 l0 x9_1).f2))) (fun _ hk => hk.2) (.int .i64 ((rd_T51 l0 x9_1).f3))) (fun _ h_ => h_.1))))) (g := gb183) (o := .cells #[.int .i64 ((rd_T51 l0 x9_1).f0), .int .i64 ((rd_T51 l0 x9_1).f1), .int .i64 ((rd_T51 l0 x9_1).f2), .int .i64 ((rd_T51 l0 x9_1).f3)] 51 (0, 0)) (by (with_reducible repeat (first | refine blk_drewN ?_ _ | refine blk_drew ?_ | refine blk_alloc ?_ _)); refine blk_put (cs := #[.int .i64 ((rd_T51 l0 x9_1).f0), .int .i64 ((rd_T51 l0 x9_1).f1), .int .i64 ((rd_T51 l0 x9_1).f2), .int .i64 0]) ?_ 3 _ rfl; (with_reducible repeat (first | refine blk_drewN ?_ _ | refine blk_drew ?_ | refine blk_alloc ?_ _)); refine blk_put (cs := #[.int .i64 ((rd_T51 l0 x9_1).f0), .int .i64 ((rd_T51 l0 x9_1).f1), .int .i64 0, .int .i64 0]) ?_ 2 _ rfl; (with_reducible repeat (first | refine blk_drewN ?_ _ | refine blk_drew ?_ | refine blk_alloc ?_ _)); refine blk_put (cs := #[.int .i64 ((rd_T51 l0 x9_1).f0), .int .i64 0, .int .i64 0, .int .i64 0]) ?_ 1 _ rfl; (with_reducible repeat (first | refine blk_drewN ?_ _ | refine blk_drew ?_ | refine blk_alloc ?_ _)); refine blk_put (cs := #[.int .i64 0, .int .i64 0, .int .i64 0, .int .i64 0]) ?_ 0 _ rfl; (with_reducible repeat (first | refine blk_drewN ?_ _ | refine blk_drew ?_ | refine blk_alloc ?_ _)); exact BK183.out)) (below_size (zb1 HB))); replace HO_4 := Aside0.mk (Kd.R_elder' (by (with_reducible repeat (first | apply Kd.R_alloc | apply Kd.R_drewN | apply Kd.R_drew)); exact (Kd.R_mono (Kd.R_far (p := ⟨gb183, 3, none⟩) (Kd.R_far (p := ⟨gb183, 2, none⟩) (Kd.R_far (p := ⟨gb183, 1, none⟩) (Kd.R_far (p := ⟨gb183, 0, none⟩) (Kd.R_mono HO_4.out (fun k_ hk => (⟨hk, hk.2⟩ : _ ∧ k_ ≠ gb183))) (fun _ hk => hk.2) (.int .i64 ((rd_T51 l0 x9_1).f0))) (fun _ hk => hk.2) (.int .i64 ((rd_T51 l0 x9_1).f1))) (fun _ hk => hk.2) (.int .i64 ((rd_T51 l0 x9_1).f2))) (fun _ hk => hk.2) (.int .i64 ((rd_T51 l0 x9_1).f3))) (fun _ h_ => h_.1))) (Kd.R_base ho0) hb); replace BK183 := Aside0.mk (blk_below (g := gb183) (o := .cells #[.int .i64 ((rd_T51 l0 x9_1).f0), .int .i64 ((rd_T51 l0 x9_1).f1), .int .i64 ((rd_T51 l0 x9_1).f2), .int .i64 ((rd_T51 l0 x9_1).f3)] 51 (0, 0)) (by (with_reducible repeat (first | refine blk_drewN ?_ _ | refine blk_drew ?_ | refine blk_alloc ?_ _)); refine blk_put (cs := #[.int .i64 ((rd_T51 l0 x9_1).f0), .int .i64 ((rd_T51 l0 x9_1).f1), .int .i64 ((rd_T51 l0 x9_1).f2), .int .i64 0]) ?_ 3 _ rfl; (with_reducible repeat (first | refine blk_drewN ?_ _ | refine blk_drew ?_ | refine blk_alloc ?_ _)); refine blk_put (cs := #[.int .i64 ((rd_T51 l0 x9_1).f0), .int .i64 ((rd_T51 l0 x9_1).f1), .int .i64 0, .int .i64 0]) ?_ 2 _ rfl; (with_reducible repeat (first | refine blk_drewN ?_ _ | refine blk_drew ?_ | refine blk_alloc ?_ _)); refine blk_put (cs := #[.int .i64 ((rd_T51 l0 x9_1).f0), .int .i64 0, .int .i64 0, .int .i64 0]) ?_ 1 _ rfl; (with_reducible repeat (first | refine blk_drewN ?_ _ | refine blk_drew ?_ | refine blk_alloc ?_ _)); refine blk_put (cs := #[.int .i64 0, .int .i64 0, .int .i64 0, .int .i64 0]) ?_ 0 _ rfl; (with_reducible repeat (first | refine blk_drewN ?_ _ | refine blk_drew ?_ | refine blk_alloc ?_ _)); exact BK183.out) hb); replace HB := Aside0.mk (below_step (zb1 HB) hb); (try clear hb); (try clear hb2); (try clear hk); (try clear hi); (try clear ho0)))
      go_roundg k1
      case measure => have := HK1.out; omega
      case rel => exact ⟨(t184), (wrap64 (x9_1 + 1)), (by first | rfl | (simp; done) | (simp [*]; done)), H', ⟨by have := HK1.out; omega⟩, ⟨by (with_reducible repeat (first | apply Kd.R_alloc | apply Kd.R_drewN | apply Kd.R_drew)); exact Kd.R_mono HO186.out (fun _ hk => trivial)⟩, ⟨(zb1 HB)⟩⟩
     ·
      rw [if_neg c4] at H
      exact absurd H (by simp)
    ·
     rw [if_neg c3] at H
     exact absurd H (by simp)
   ·
    rw [if_neg c2] at H
    have c2b0 : decide (x9_1 < (l0.length : Int)) = false := decide_eq_false c2
    clear c2
    replace H := Option.bind_eq_some_iff.mp H
    obtain ⟨t187, A100, H⟩ := H
    replace H : (if t187 = true then (some (x4_1, true)) else (some (([] : List (S51)), false))) = some (r1, r2) := H
    have A10 := Aside0.mk A100
    clear A100
    by_cases c11 : t187 = true
    ·
     subst c11
     have H1 : (some (x4_1, true)) = some (r1, r2) := by rw [if_pos rfl] at H; exact H
     clear H
     have H := H1
     clear H1
     simp only [Option.some.injEq, Prod.mk.injEq] at H
     obtain ⟨rfl, rfl⟩ := H
     obtain ⟨Ao12, co12, eo12⟩ := Kd.R_slice HO_4.out
     subst eo12
     go_wp2_with (first | ((with_reducible refine gate_callee (f := 33) rfl ?_); refine goesL_ (some 18) rfl rfl Try.func33 (by kernel_rfl) rfl #[.slice Ao12 x4_1.length co12] rfl zq6 ?_; (with_reducible refine (spec_poGood.calls k1 _ _ x4_1 true _ ?side1 ?side2 A10.out).mono ?_); (case side1 => repeat (first | exact (Kd.R_reads' HO_4.out).2.2 | (with_reducible refine Kd.C_alloc ?_ _) | (with_reducible refine Kd.C_drewN ?_ _) | (with_reducible refine Kd.C_drew ?_))); (case side2 => exact (Kd.R_reads' HO_4.out).2.1); rintro e w13 ⟨rfl, hb⟩; refine ⟨_, rfl, ?_⟩; replace HO_4 := Aside0.mk (Kd.R_below (zq3 HO_4) hb); replace HB := Aside0.mk (below_step (zb0 HB) hb); (try clear hb); (try clear hb2); (try clear hk); (try clear hi)))
     go_ret2
     exact ⟨_, by first | rfl | (simp [errW_none, errW_some] <;> rfl) | (simp [*, errW_none, errW_some] <;> rfl), by (with_reducible repeat (first | apply Kd.R_alloc | apply Kd.R_drewN | apply Kd.R_drew)); exact HO_4.out, (zb0 HB)⟩
    ·
     replace c11 := Bool.eq_false_iff.mpr c11
     subst c11
     have H1 : (some (([] : List (S51)), false)) = some (r1, r2) := by rw [if_neg (show ¬ (false = true) by decide)] at H; exact H
     clear H
     have H := H1
     clear H1
     simp only [Option.some.injEq, Prod.mk.injEq] at H
     obtain ⟨rfl, rfl⟩ := H
     obtain ⟨Ao14, co14, eo14⟩ := Kd.R_slice HO_4.out
     subst eo14
     go_wp2_with (first | ((with_reducible refine gate_callee (f := 33) rfl ?_); refine goesL_ (some 18) rfl rfl Try.func33 (by kernel_rfl) rfl #[.slice Ao14 x4_1.length co14] rfl zq6 ?_; (with_reducible refine (spec_poGood.calls k1 _ _ x4_1 false _ ?side1 ?side2 A10.out).mono ?_); (case side1 => repeat (first | exact (Kd.R_reads' HO_4.out).2.2 | (with_reducible refine Kd.C_alloc ?_ _) | (with_reducible refine Kd.C_drewN ?_ _) | (with_reducible refine Kd.C_drew ?_))); (case side2 => exact (Kd.R_reads' HO_4.out).2.1); rintro e w15 ⟨rfl, hb⟩; refine ⟨_, rfl, ?_⟩; replace HO_4 := Aside0.mk (Kd.R_below (zq3 HO_4) hb); replace HB := Aside0.mk (below_step (zb0 HB) hb); (try clear hb); (try clear hb2); (try clear hk); (try clear hi)))
     go_ret2
     exact ⟨_, by first | rfl | (simp [errW_none, errW_some] <;> rfl) | (simp [*, errW_none, errW_some] <;> rfl), by first | exact Kd.R_nil _ _ _ _ _ | exact Kd.N_nil _ _ _ _ _ | exact Kd.V_nil _ _ _ _ _ | exact Kd.Q_nil _ _ _ _ _ | exact Kd.S_nil _ _ _ _ _, (zb0 HB)⟩
/-! ### spec_poAdd: function 55 -/
set_option maxHeartbeats 8000000 in
set_option maxRecDepth 100000 in
theorem spec_poAdd.calls (k : Nat) (A0 : Option Addr) (c0 : Nat) (l0 : List (S51)) (A1 : Option Addr) (c1 : Nat) (l1 : List (S51)) (r1 : List (S51)) (r2 : Bool) (w : World) (hr0 : Kd.C k51 w A0 l0.length l0) (hc0 : l0.length ≤ c0) (hr1 : Kd.C k51 w A1 l1.length l1) (hc1 : l1.length ≤ c1) (h : spec_poAdd.f k l0 l1 = some (r1, r2)) :
  Calls Try.prog 55 #[.slice A0 l0.length c0, .slice A1 l1.length c1] w fun e w' => ∃ v0_ : Value, e = .returned (.tuple #[v0_, .bool r2]) ∧ Kd.R k51 51 w' w.heap.size (fun _ => True) v0_ r1 ∧ Below w.heap.size w w' := by
 have HR0 := Aside0.mk hr0
 have HC0 := Aside0.mk hc0
 clear hr0 hc0
 have HR1 := Aside0.mk hr1
 have HC1 := Aside0.mk hc1
 clear hr1 hc1
 have HB := Aside0.mk (Below.refl w.heap.size w)
 have H : ((some (([] : List (S51)) : List (S51))).bind fun y188 => (if y188.length + l0.length < 4398046511104 then ((some (y188 ++ l0 : List (S51))).bind fun y191 => (if y191.length + l1.length < 4398046511104 then ((spec_poSum.f k (y191 ++ l1)).bind fun bt197 => (some (bt197.1, bt197.2))) else (none))) else (none))) = some (r1, r2) := h
 clear h
 obtain ⟨y188, hy188⟩ : ∃ y_ : List (S51), y_ = (([] : List (S51))) := ⟨_, rfl⟩
 replace H : (if y188.length + l0.length < 4398046511104 then ((some (y188 ++ l0 : List (S51))).bind fun y191 => (if y191.length + l1.length < 4398046511104 then ((spec_poSum.f k (y191 ++ l1)).bind fun bt197 => (some (bt197.1, bt197.2))) else (none))) else (none)) = some (r1, r2) := by first | (rw [hy188]; with_reducible exact H) | (have H2_ := (Option.bind_some _ _).symm.trans H; rw [hy188]; with_reducible exact H2_) | (have H2_ := (Option.bind_some _ _).symm.trans H; with_reducible exact H2_) | with_reducible exact H | (rw [hy188]; exact H) | exact H
 have Ny188 := Aside0.mk hy188
 clear hy188
 by_cases c3 : y188.length + l0.length < 4398046511104
 ·
  rw [if_pos c3] at H
  have LMc3 := Aside0.mk c3
  clear c3
  obtain ⟨y191, hy191⟩ : ∃ y_ : List (S51), y_ = (y188 ++ l0) := ⟨_, rfl⟩
  replace H : (if y191.length + l1.length < 4398046511104 then ((spec_poSum.f k (y191 ++ l1)).bind fun bt197 => (some (bt197.1, bt197.2))) else (none)) = some (r1, r2) := by first | (rw [hy191]; with_reducible exact H) | (have H2_ := (Option.bind_some _ _).symm.trans H; rw [hy191]; with_reducible exact H2_) | (have H2_ := (Option.bind_some _ _).symm.trans H; with_reducible exact H2_) | with_reducible exact H | (rw [hy191]; exact H) | exact H
  have Ny191 := Aside0.mk hy191
  clear hy191
  by_cases c4 : y191.length + l1.length < 4398046511104
  ·
   rw [if_pos c4] at H
   have LMc4 := Aside0.mk c4
   clear c4
   obtain ⟨y194, hy194⟩ : ∃ y_ : List (S51), y_ = (y191 ++ l1) := ⟨_, rfl⟩
   replace H : ((spec_poSum.f k y194).bind fun bt197 => (some (bt197.1, bt197.2))) = some (r1, r2) := by first | (rw [hy194]; with_reducible exact H) | (have H2_ := (Option.bind_some _ _).symm.trans H; rw [hy194]; with_reducible exact H2_) | (have H2_ := (Option.bind_some _ _).symm.trans H; with_reducible exact H2_) | with_reducible exact H | (rw [hy194]; exact H) | exact H
   have Ny194 := Aside0.mk hy194
   clear hy194
   replace H := Option.bind_eq_some_iff.mp H
   obtain ⟨⟨t197, t198⟩, A50, H⟩ := H
   replace H : (some (t197, t198)) = some (r1, r2) := H
   have A5 := Aside0.mk A50
   clear A50
   simp only [Option.some.injEq, Prod.mk.injEq] at H
   obtain ⟨rfl, rfl⟩ := H
   go_enter Try.func55, Try.ntmps55
   go_wp2_with (first | ((with_reducible refine gate_dst (N := 6) rfl ?_); refine Kd.R_lit k51 _ 51 ?hg (N := 6) ?hd (xs := ([] : List (S51))) (inner := []) (ok := fun _ => True) (okp := fun _ => True) ?hr ?hp (fun _ hk => hk) trivial (Below.refl _ _) (Nat.le_refl _) (by simp) ?_; (case hd => rfl); (case hg => rfl); (case hr => first | (go_simp; done) | (go_simp; rfl)); (case hp => exact (Reps.none _ _)); intro v189 w6 ho7 hb hg_ hnew_; clear hg_ hnew_; (first | rw [← Ny188.out] at ho7 | (simp only [Int.reduceToNat] at ho7; rw [← Ny188.out] at ho7)); have HO190 := Aside0.mk (Kd.R_lower ho7 (below_size (zb0 HB))); replace HB := Aside0.mk (below_step (zb0 HB) hb); clear hb ho7) | ((with_reducible refine gate_builtin (b := .append) (xs := #[.tmp 6, .tmp 7]) rfl ?_); at_builtin; refine Kd.R_append_rows k51 (w0 := w) w.heap.size rfl (.tmp 6) (.tmp 7) 25 51 (.agg #[(.int .i64 0), (.int .i64 0), (.int .i64 0), (.int .i64 0)]) 32 rfl Try.underlying25 info51 rfl (by decide) (by omega) v189 y188 l0 _ _ _ (fun _ => True) (fun _ => False) rfl rfl ?aO ?aR (fun _ _ h => h) (fun _ h => h.elim) ?aF ?aB ?aS ?aL ?_; (case aR => repeat (first | exact (Kd.C_below HR0.out HB.out) | (with_reducible refine Kd.C_alloc ?_ _) | (with_reducible refine Kd.C_drewN ?_ _) | (with_reducible refine Kd.C_drew ?_))); (case aB => exact (zb0 HB)); (case aF => exact (fun _ _ => trivial)); (case aO => exact (zq3 HO190)); (case aS => exact (below_size (zb0 HB))); (case aL => have := LMc3.out; omega); intro v192 w8 ho hb hg hat; rw [← Ny191.out] at ho; have HO193 := Aside0.mk (ho); replace HB := Aside0.mk (hb); clear HO190; clear ho hb hg hat) | ((with_reducible refine gate_builtin (b := .append) (xs := #[.tmp 8, .tmp 9]) rfl ?_); at_builtin; refine Kd.R_append_rows k51 (w0 := w) w.heap.size rfl (.tmp 8) (.tmp 9) 25 51 (.agg #[(.int .i64 0), (.int .i64 0), (.int .i64 0), (.int .i64 0)]) 32 rfl Try.underlying25 info51 rfl (by decide) (by omega) v192 y191 l1 _ _ _ (fun _ => True) (fun _ => False) rfl rfl ?aO ?aR (fun _ _ h => h) (fun _ h => h.elim) ?aF ?aB ?aS ?aL ?_; (case aR => repeat (first | exact (Kd.C_below HR1.out HB.out) | (with_reducible refine Kd.C_alloc ?_ _) | (with_reducible refine Kd.C_drewN ?_ _) | (with_reducible refine Kd.C_drew ?_))); (case aB => exact (zb0 HB)); (case aF => exact (fun _ _ => trivial)); (case aO => exact (zq3 HO193)); (case aS => exact (below_size (zb0 HB))); (case aL => have := LMc4.out; omega); intro v195 w9 ho hb hg hat; rw [← Ny194.out] at ho; have HO196 := Aside0.mk (ho); replace HB := Aside0.mk (hb); clear HO193; clear ho hb hg hat; obtain ⟨Ao10, co10, eo10⟩ := Kd.R_slice HO196.out; subst eo10) | ((with_reducible refine gate_callee (f := 59) rfl ?_); refine goesL_ (some 11) rfl rfl Try.func59 (by kernel_rfl) rfl #[.slice Ao10 y194.length co10] rfl zq6 ?_; (with_reducible refine (spec_poSum.calls k _ _ y194 t197 t198 _ ?side1 ?side2 A5.out).mono ?_); (case side1 => repeat (first | exact (Kd.R_reads' HO196.out).2.2 | (with_reducible refine Kd.C_alloc ?_ _) | (with_reducible refine Kd.C_drewN ?_ _) | (with_reducible refine Kd.C_drew ?_))); (case side2 => exact (Kd.R_reads' HO196.out).2.1); rintro e w11 ⟨v199, rfl, ho0, hb⟩; refine ⟨_, rfl, ?_⟩; have HO200 := Aside0.mk (Kd.R_lower (Kd.R_new' ho0 (Kd.R_lt (zq3 HO196))) (below_size (zb0 HB))); replace HO196 := Aside0.mk (Kd.R_elder' (zq3 HO196) (Kd.R_base ho0) hb); replace HB := Aside0.mk (below_step (zb0 HB) hb); (try clear hb); (try clear hb2); (try clear hk); (try clear hi); (try clear ho0)))
   go_ret2
   exact ⟨_, by first | rfl | (simp [errW_none, errW_some] <;> rfl) | (simp [*, errW_none, errW_some] <;> rfl), by (with_reducible repeat (first | apply Kd.R_alloc | apply Kd.R_drewN | apply Kd.R_drew)); exact Kd.R_mono HO200.out (fun _ hk => trivial), (zb0 HB)⟩
  ·
   rw [if_neg c4] at H
   exact absurd H (by simp)
 ·
  rw [if_neg c3] at H
  exact absurd H (by simp)
/-! ### spec_l1Cur_term: function 63 -/
theorem z63_0 {P Q : Prop} (h : Aside0 (Q)) (f : Q → P := by intro h_; repeat (first | (with_reducible first | exact h_ | apply IsS67.alloc | apply IsS67.drewN | apply IsS67.drew | apply IsS67.set_1 | apply IsS67.set_2) | exact h_)) : P := f h.out
theorem z63_1 {w W0 W1 : World} {g : Nat} {row : Option Nat} (h : Aside0 (KeepBut w W0 g row)) (f : KeepBut w W0 g row → KeepBut w W1 g row := by intro h_; repeat (first | (with_reducible first | exact h_ | apply KeepBut.set_ | apply keep_drewN | apply keep_drew | apply keep_alloc) | exact h_)) : KeepBut w W1 g row := f h.out
theorem z63_2 {w W0 W1 : World} {B : Nat} (h : Aside0 (Below B w W0)) (f : Below B w W0 → Below B w W1 := by intro h_; repeat (first | (with_reducible first | exact h_ | apply below_alloc | apply pw_below_drewN | apply below_drew1 | refine below_set ?_ (IsS67.ge (Aside0.out (by assumption)))) | exact h_)) : Below B w W1 := f h.out
theorem z63_3 {P Q : Prop} (h : Aside0 (Q)) (f : Q → P := by intro h_; repeat (first | (with_reducible first | exact h_ | apply IsS67.alloc | apply IsS67.drewN | apply IsS67.drew | apply IsS67.set_1 | apply IsS67.set_2 | refine IsS67.far ?_ (Aside0.out (by assumption)) _) | exact h_)) : P := f h.out
theorem z63_4 {w W0 W1 : World} {B : Nat} (h : Aside0 (Below B w W0)) (f : Below B w W0 → Below B w W1 := by intro h_; repeat (first | (with_reducible first | exact h_ | apply below_alloc | apply pw_below_drewN | apply below_drew1 | refine below_set ?_ (IsS67.ge (Aside0.out (by assumption))) | refine below_set ?_ (Aside0.out (by assumption))) | exact h_)) : Below B w W1 := f h.out
theorem z63_5 {w W0 W1 : World} {g : Nat} {row : Option Nat} (h : Aside0 (KeepBut w W0 g row)) (f : KeepBut w W0 g row → KeepBut w W1 g row := by intro h_; repeat (first | (with_reducible first | exact h_ | apply KeepBut.set_ | apply keep_drewN | apply keep_drew | apply keep_alloc | refine keep_far ?_ (Aside0.out (by assumption)) _) | exact h_)) : KeepBut w W1 g row := f h.out
set_option maxHeartbeats 8000000 in
set_option maxRecDepth 100000 in
theorem spec_l1Cur_term.calls (k : Nat) (g : Nat) (s0_0 : List Int) (s0_1 : Int) (s0_2 : Int) (a1 : Int) (r1 : Int) (r2 : Int) (r3 : Int) (r4 : Int) (r5 : Int) (r6 : Int) (w0 w : World) (hI : IsS67 w0 w g s0_0 s0_1 s0_2) (hB : Below w0.heap.size w0 w) (h : spec_l1Cur_term.f k s0_0 s0_1 s0_2 a1 = some (r1, r2, r3, r4, r5, r6)) :
  Calls Try.prog 63 #[.pointer (some ⟨g, 0, none⟩), .int .i64 a1] w fun e w' => e = .returned (.agg #[.int .i64 r1, .int .i64 r2, .int .i64 r3, .int .i64 r4]) ∧ IsS67 w0 w' g s0_0 r5 r6 ∧ Below w0.heap.size w0 w' ∧ KeepBut w w' g none := by
 have hu51 := Try.underlying51
 have HI0 := Aside0.mk hI
 have HK := Aside0.mk (KeepBut.refl w g none)
 have HL := Aside0.mk hB.size
 clear hI
 have HW0 := Aside0.mk hB.size
 have HB := Aside0.mk hB
 clear hB
 have H : ((spec_l1Cur_pick.f s0_0 s0_1 s0_2 41).bind fun bt204 => ((spec_l1Cur_among.f s0_0 bt204.2.1 bt204.2.2 (([1, (-1), 2, (-3), 4, wrap64 (bt204.1 - 20)] : List Int))).bind fun bt210 => (spec_l1Cur_term.l0 k a1 4 0 s0_0 bt210.2.1 bt210.2.2 bt210.1 0 0 0))) = some (r1, r2, r3, r4, r5, r6) := h
 clear h
 replace H := Option.bind_eq_some_iff.mp H
 obtain ⟨⟨t204, t205, t206⟩, A30, H⟩ := H
 replace H : ((spec_l1Cur_among.f s0_0 t205 t206 (([1, (-1), 2, (-3), 4, wrap64 (t204 - 20)] : List Int))).bind fun bt210 => (spec_l1Cur_term.l0 k a1 4 0 s0_0 bt210.2.1 bt210.2.2 bt210.1 0 0 0)) = some (r1, r2, r3, r4, r5, r6) := H
 have A3 := Aside0.mk A30
 clear A30
 obtain ⟨y207, hy207⟩ : ∃ y_ : List Int, y_ = (([1, (-1), 2, (-3), 4, wrap64 (t204 - 20)] : List Int)) := ⟨_, rfl⟩
 replace H : ((spec_l1Cur_among.f s0_0 t205 t206 y207).bind fun bt210 => (spec_l1Cur_term.l0 k a1 4 0 s0_0 bt210.2.1 bt210.2.2 bt210.1 0 0 0)) = some (r1, r2, r3, r4, r5, r6) := by first | (rw [hy207]; with_reducible exact H) | (have H2_ := (Option.bind_some _ _).symm.trans H; rw [hy207]; with_reducible exact H2_) | (have H2_ := (Option.bind_some _ _).symm.trans H; with_reducible exact H2_) | with_reducible exact H | (rw [hy207]; exact H) | exact H
 have Ny207 := Aside0.mk hy207
 clear hy207
 replace H := Option.bind_eq_some_iff.mp H
 obtain ⟨⟨t210, t211, t212⟩, A40, H⟩ := H
 replace H : (spec_l1Cur_term.l0 k a1 4 0 s0_0 t211 t212 t210 0 0 0) = some (r1, r2, r3, r4, r5, r6) := H
 have A4 := Aside0.mk A40
 clear A40
 have H' := Aside0.mk H
 clear H
 go_enter Try.func63, Try.ntmps63
 go_wp2_with (first | ((with_reducible refine gate_dst (N := 4) rfl ?_); refine zbe (N := 4) (cs := #[.int .i64 0, .int .i64 0, .int .i64 0, .int .i64 0]) (t := 51) ?_; intro gb203 hg w5 hbox hb; have BK203 := Aside0.mk (hbox); have GW203 := Aside0.mk ((by rw [hg]; exact (keep_size (w := w) (g := g) (row := none) (z63_1 HK)) : w.heap.size ≤ gb203)); have GE203 := Aside0.mk ((Nat.le_trans HW0.out (by rw [hg]; exact (keep_size (w := w) (g := g) (row := none) (z63_1 HK)) : w.heap.size ≤ gb203) : w0.heap.size ≤ gb203)); have NB0_203 := Aside0.mk ((by rw [hg]; exact Nat.ne_of_lt (IsS67.lt (show IsS67 w0 _ g s0_0 s0_1 s0_2 from (z63_0 HI0))) : g ≠ gb203)); have NB203_0 := Aside0.mk ((by rw [hg]; exact Nat.ne_of_gt (IsS67.lt (show IsS67 w0 _ g s0_0 s0_1 s0_2 from (z63_0 HI0))) : gb203 ≠ g)); replace HI0 := Aside0.mk (IsS67.below (z63_0 HI0) hb); replace HK := Aside0.mk (KeepBut.trans (z63_1 HK) (KeepBut.of_below hb g none) (.inl rfl)); replace HB := Aside0.mk (below_step (z63_2 HB) hb); clear hb hbox hg) | ((with_reducible refine gate_callee (f := 50) rfl ?_); refine goesL_ (some 11) rfl rfl Try.func50 (by kernel_rfl) rfl #[.pointer (some ⟨g, 0, none⟩), .int .i64 41] rfl zq6 ?_; (with_reducible refine (spec_l1Cur_pick.calls g s0_0 s0_1 s0_2 41 t204 t205 t206 w0 _ ?side1 ?side2 A3.out).mono ?_); (case side1 => exact z63_3 HI0); (case side2 => exact z63_4 HB); rintro e w6 ⟨rfl, hi, hb, hk⟩; refine ⟨_, rfl, ?_⟩; replace BK203 := Aside0.mk (KeepBut.blk hk (zq1 BK203) NB203_0.out (by simp)); replace HK := Aside0.mk (KeepBut.trans (z63_5 HK) hk (.inl rfl)); replace HB := Aside0.mk (hb); replace HI0 := Aside0.mk (hi); (try clear hb); (try clear hb2); (try clear hk); (try clear hi)) | ((with_reducible refine gate_dst (N := 13) rfl ?_); refine Kd.R_lit (Kd.int .i64) _ 3 ?hg (N := 13) ?hd (xs := ([1, (-1), 2, (-3), 4, wrap64 (t204 - 20)] : List Int)) (inner := [.int .i64 1, .int .i64 (-1), .int .i64 2, .int .i64 (-3), .int .i64 4, .int .i64 (wrap64 (t204 - 20))]) (ok := fun _ => True) (okp := fun _ => True) ?hr ?hp (fun _ hk => hk) trivial (Below.refl _ _) (Nat.le_refl _) (by simp) ?_; (case hd => rfl); (case hg => rfl); (case hr => first | (go_simp; done) | (go_simp; rfl)); (case hp => exact (Reps.one (show Kd.M (Kd.int .i64) _ _ _ 1 [.int .i64 1] from rfl) (Reps.one (show Kd.M (Kd.int .i64) _ _ _ (-1) [.int .i64 (-1)] from rfl) (Reps.one (show Kd.M (Kd.int .i64) _ _ _ 2 [.int .i64 2] from rfl) (Reps.one (show Kd.M (Kd.int .i64) _ _ _ (-3) [.int .i64 (-3)] from rfl) (Reps.one (show Kd.M (Kd.int .i64) _ _ _ 4 [.int .i64 4] from rfl) (Reps.one (show Kd.M (Kd.int .i64) _ _ _ (wrap64 (t204 - 20)) [.int .i64 (wrap64 (t204 - 20))] from rfl) (Reps.none _ _)))))))); intro v208 w7 ho8 hb hg_ hnew_; clear hg_ hnew_; (first | rw [← Ny207.out] at ho8 | (simp only [Int.reduceToNat] at ho8; rw [← Ny207.out] at ho8)); have HO209 := Aside0.mk (Kd.R_lower ho8 (keep_size (w := w) (g := g) (row := none) (z63_5 HK))); replace HI0 := Aside0.mk (IsS67.below (z63_3 HI0) hb); replace BK203 := Aside0.mk (zbb BK203 hb); replace HK := Aside0.mk (KeepBut.trans (z63_5 HK) (KeepBut.of_below hb g none) (.inl rfl)); replace HB := Aside0.mk (below_step (z63_4 HB) hb); clear hb ho8; obtain ⟨Ao9, co9, eo9⟩ := Kd.R_slice HO209.out; subst eo9) | ((with_reducible refine gate_callee (f := 64) rfl ?_); refine goesL_ (some 14) rfl rfl Try.func64 (by kernel_rfl) rfl #[.pointer (some ⟨g, 0, none⟩), .slice Ao9 y207.length co9] rfl zq6 ?_; (with_reducible refine (spec_l1Cur_among.calls g s0_0 t205 t206 _ _ y207 t210 t211 t212 w0 _ ?side1 ?side2 ?side3 ?side4 ?side5 A4.out).mono ?_); (case side1 => exact z63_3 HI0); (case side2 => exact z63_4 HB); (case side3 => repeat (first | exact (Kd.R_reads' HO209.out).2.2 | (with_reducible refine Kd.C_alloc ?_ _) | (with_reducible refine Kd.C_drewN ?_ _) | (with_reducible refine Kd.C_drew ?_))); (case side4 => exact (Kd.R_reads' HO209.out).2.1); (case side5 => exact far_slice (IsS67.own_ne HI0.out HO209.out (by decide))); rintro e w10 ⟨rfl, hi, hb, hk⟩; refine ⟨_, rfl, ?_⟩; replace BK203 := Aside0.mk (KeepBut.blk hk (zq1 BK203) NB203_0.out (by simp)); replace HO209 := Aside0.mk (Kd.R_mono (Kd.R_keep (IsS67.apart (show IsS67 w0 _ g s0_0 t205 t206 from (z63_3 HI0)) (zq3 HO209) (by decide)) hk (fun _ h => h.2)) (fun _ h => h.1)); replace HK := Aside0.mk (KeepBut.trans (z63_5 HK) hk (.inl rfl)); replace HB := Aside0.mk (hb); replace HI0 := Aside0.mk (hi); (try clear hb); (try clear hb2); (try clear hk); (try clear hi)) | ((with_reducible refine gate_dst (N := 5) rfl ?_); refine zbe (N := 5) (cs := #[.int .i64 0, .int .i64 0, .int .i64 0, .int .i64 0]) (t := 51) ?_; intro gb213 hg w11 hbox hb; have BK213 := Aside0.mk (hbox); have GW213 := Aside0.mk ((by rw [hg]; exact (keep_size (w := w) (g := g) (row := none) (z63_5 HK)) : w.heap.size ≤ gb213)); have GE213 := Aside0.mk ((Nat.le_trans HW0.out (by rw [hg]; exact (keep_size (w := w) (g := g) (row := none) (z63_5 HK)) : w.heap.size ≤ gb213) : w0.heap.size ≤ gb213)); have NB203_213 := Aside0.mk (zlt BK203 hg); have NB213_203 := Aside0.mk (zgt BK203 hg); have NB0_213 := Aside0.mk ((by rw [hg]; exact Nat.ne_of_lt (IsS67.lt (show IsS67 w0 _ g s0_0 t211 t212 from (z63_3 HI0))) : g ≠ gb213)); have NB213_0 := Aside0.mk ((by rw [hg]; exact Nat.ne_of_gt (IsS67.lt (show IsS67 w0 _ g s0_0 t211 t212 from (z63_3 HI0))) : gb213 ≠ g)); replace HO209 := Aside0.mk (Kd.R_below (zq3 HO209) hb); replace HI0 := Aside0.mk (IsS67.below (z63_3 HI0) hb); replace BK203 := Aside0.mk (zbb BK203 hb); replace HK := Aside0.mk (KeepBut.trans (z63_5 HK) (KeepBut.of_below hb g none) (.inl rfl)); replace HB := Aside0.mk (below_step (z63_4 HB) hb); clear hb hbox hg; have hnb12 := NB213_203.out; have hnc12 := NB203_213.out; have hnb13 := NB213_0.out; have hnc13 := NB0_213.out; have hcz14_0 : w11.cell? ⟨gb213, 0, none⟩ = some (.int .i64 0) := zc BK213 0; have hcz14_1 : w11.cell? ⟨gb213, 1, none⟩ = some (.int .i64 0) := zc BK213 1; have hcz14_2 : w11.cell? ⟨gb213, 2, none⟩ = some (.int .i64 0) := zc BK213 2; have hcz14_3 : w11.cell? ⟨gb213, 3, none⟩ = some (.int .i64 0) := zc BK213 3; have hfz14_0 := blk_frozen BK213.out 0; have hfz14_1 := blk_frozen BK213.out 1; have hfz14_2 := blk_frozen BK213.out 2; have hfz14_3 := blk_frozen BK213.out 3))
 go_loopg [6, 7] k (fun kq v6 v7 w' => ∃ (x6_1 : Int) (x7_1 : Int) (x1001_1 : Int) (x1002_1 : Int) (x214000_1 : Int) (x214001_1 : Int) (x214002_1 : Int) (x214003_1 : Int), v6 = .int .i64 x6_1 ∧ v7 = .int .i64 x7_1 ∧ Aside0 (spec_l1Cur_term.l0 kq a1 x6_1 x7_1 s0_0 x1001_1 x1002_1 x214000_1 x214001_1 x214002_1 x214003_1 = some (r1, r2, r3, r4, r5, r6)) ∧ Aside0 (kq ≤ k) ∧ Aside0 (w'.heap[gb203]? = some (.cells #[.int .i64 0, .int .i64 0, .int .i64 0, .int .i64 0] 51 (0, 0))) ∧ Aside0 (w'.heap[gb213]? = some (.cells #[.int .i64 x214000_1, .int .i64 x214001_1, .int .i64 x214002_1, .int .i64 x214003_1] 51 (0, 0))) ∧ Aside0 (IsS67 w0 w' g s0_0 x1001_1 x1002_1) ∧ Aside0 (KeepBut w w' g none) ∧ Aside0 (Below w0.heap.size w0 w'))
 case atStart => exact ⟨(4), (0), (t211), (t212), (t210), (0), (0), (0), (by first | rfl | (simp; done) | (simp [*]; done) | (simp [wrap64]; done)), (by first | rfl | (simp; done) | (simp [*]; done) | (simp [wrap64]; done)), H', ⟨Nat.le_refl _⟩, ⟨zq5 BK203⟩, ⟨by (with_reducible repeat (first | refine blk_drewN ?_ _ | refine blk_drew ?_ | refine blk_alloc ?_ _)); refine blk_put (cs := #[.int .i64 t210, .int .i64 0, .int .i64 0, .int .i64 0]) ?_ 3 _ rfl; (with_reducible repeat (first | refine blk_drewN ?_ _ | refine blk_drew ?_ | refine blk_alloc ?_ _)); refine blk_put (cs := #[.int .i64 t210, .int .i64 0, .int .i64 0, .int .i64 0]) ?_ 2 _ rfl; (with_reducible repeat (first | refine blk_drewN ?_ _ | refine blk_drew ?_ | refine blk_alloc ?_ _)); refine blk_put (cs := #[.int .i64 t210, .int .i64 0, .int .i64 0, .int .i64 0]) ?_ 1 _ rfl; (with_reducible repeat (first | refine blk_drewN ?_ _ | refine blk_drew ?_ | refine blk_alloc ?_ _)); refine blk_put (cs := #[.int .i64 0, .int .i64 0, .int .i64 0, .int .i64 0]) ?_ 0 _ rfl; (with_reducible repeat (first | refine blk_drewN ?_ _ | refine blk_drew ?_ | refine blk_alloc ?_ _)); exact BK213.out⟩, ⟨(z63_3 HI0)⟩, ⟨(z63_5 HK)⟩, ⟨(z63_4 HB)⟩⟩
 case round =>
  clear H'
  try clear c1
  try clear p2
  try clear c5
  try clear c6
  try clear p6
  try clear c12
  try clear c13
  try clear hcz14_0
  try clear hcz14_1
  try clear hcz14_2
  try clear hcz14_3
  try clear hfz14_0
  try clear hfz14_1
  try clear hfz14_2
  try clear hfz14_3
  obtain ⟨x6_1, x7_1, x1001_1, x1002_1, x214000_1, x214001_1, x214002_1, x214003_1, rfl, rfl, HA, HK1, BK203, BK213, HI0, HK, HB⟩ := hrel
  cases gk with
  | zero => exact absurd HA.out (by simp [spec_l1Cur_term.l0])
  | succ k1 =>
   have H := HA.out
   clear HA
   simp only [spec_l1Cur_term.l0] at H
   by_cases c15 : x7_1 < a1
   ·
    rw [if_pos c15] at H
    have c15b0 : decide (x7_1 < a1) = true := decide_eq_true c15
    clear c15
    replace H := Option.bind_eq_some_iff.mp H
    obtain ⟨⟨t214, t215, t216⟩, A160, H⟩ := H
    replace H : ((spec_l1Cur_among.f s0_0 t215 t216 (([0, 0, 1, 1, 2, t214] : List Int))).bind fun bt220 => (if bt220.1 > x6_1 then ((spec_poWith.f x214000_1 x214001_1 x214002_1 x214003_1 x7_1 x6_1).bind fun bt223 => (spec_l1Cur_term.l0 k1 a1 0 (wrap64 (x7_1 + 1)) s0_0 bt220.2.1 bt220.2.2 bt223.1 bt223.2.1 bt223.2.2.1 bt223.2.2.2)) else ((spec_poWith.f x214000_1 x214001_1 x214002_1 x214003_1 x7_1 bt220.1).bind fun bt227 => (spec_l1Cur_term.l0 k1 a1 (wrap64 (x6_1 - bt220.1)) (wrap64 (x7_1 + 1)) s0_0 bt220.2.1 bt220.2.2 bt227.1 bt227.2.1 bt227.2.2.1 bt227.2.2.2)))) = some (r1, r2, r3, r4, r5, r6) := H
    have A16 := Aside0.mk A160
    clear A160
    obtain ⟨y217, hy217⟩ : ∃ y_ : List Int, y_ = (([0, 0, 1, 1, 2, t214] : List Int)) := ⟨_, rfl⟩
    replace H : ((spec_l1Cur_among.f s0_0 t215 t216 y217).bind fun bt220 => (if bt220.1 > x6_1 then ((spec_poWith.f x214000_1 x214001_1 x214002_1 x214003_1 x7_1 x6_1).bind fun bt223 => (spec_l1Cur_term.l0 k1 a1 0 (wrap64 (x7_1 + 1)) s0_0 bt220.2.1 bt220.2.2 bt223.1 bt223.2.1 bt223.2.2.1 bt223.2.2.2)) else ((spec_poWith.f x214000_1 x214001_1 x214002_1 x214003_1 x7_1 bt220.1).bind fun bt227 => (spec_l1Cur_term.l0 k1 a1 (wrap64 (x6_1 - bt220.1)) (wrap64 (x7_1 + 1)) s0_0 bt220.2.1 bt220.2.2 bt227.1 bt227.2.1 bt227.2.2.1 bt227.2.2.2)))) = some (r1, r2, r3, r4, r5, r6) := by first | (rw [hy217]; with_reducible exact H) | (have H2_ := (Option.bind_some _ _).symm.trans H; rw [hy217]; with_reducible exact H2_) | (have H2_ := (Option.bind_some _ _).symm.trans H; with_reducible exact H2_) | with_reducible exact H | (rw [hy217]; exact H) | exact H
    have Ny217 := Aside0.mk hy217
    clear hy217
    replace H := Option.bind_eq_some_iff.mp H
    obtain ⟨⟨t220, t221, t222⟩, A170, H⟩ := H
    replace H : (if t220 > x6_1 then ((spec_poWith.f x214000_1 x214001_1 x214002_1 x214003_1 x7_1 x6_1).bind fun bt223 => (spec_l1Cur_term.l0 k1 a1 0 (wrap64 (x7_1 + 1)) s0_0 t221 t222 bt223.1 bt223.2.1 bt223.2.2.1 bt223.2.2.2)) else ((spec_poWith.f x214000_1 x214001_1 x214002_1 x214003_1 x7_1 t220).bind fun bt227 => (spec_l1Cur_term.l0 k1 a1 (wrap64 (x6_1 - t220)) (wrap64 (x7_1 + 1)) s0_0 t221 t222 bt227.1 bt227.2.1 bt227.2.2.1 bt227.2.2.2))) = some (r1, r2, r3, r4, r5, r6) := H
    have A17 := Aside0.mk A170
    clear A170
    by_cases c18 : t220 > x6_1
    ·
     rw [if_pos c18] at H
     have c18b0 : decide (x6_1 < t220) = true := decide_eq_true c18
     clear c18
     replace H := Option.bind_eq_some_iff.mp H
     obtain ⟨⟨t223, t224, t225, t226⟩, A190, H⟩ := H
     replace H : (spec_l1Cur_term.l0 k1 a1 0 (wrap64 (x7_1 + 1)) s0_0 t221 t222 t223 t224 t225 t226) = some (r1, r2, r3, r4, r5, r6) := H
     have A19 := Aside0.mk A190
     clear A190
     have H' := Aside0.mk H
     clear H
     go_wp2_with (first | ((with_reducible refine gate_callee (f := 50) rfl ?_); refine goesL_ (some 25) rfl rfl Try.func50 (by kernel_rfl) rfl #[.pointer (some ⟨g, 0, none⟩), .int .i64 (wrap64 (x6_1 + 1))] rfl zq6 ?_; (with_reducible refine (spec_l1Cur_pick.calls g s0_0 x1001_1 x1002_1 (wrap64 (x6_1 + 1)) t214 t215 t216 w0 _ ?side1 ?side2 A16.out).mono ?_); (case side1 => exact z63_3 HI0); (case side2 => exact z63_4 HB); rintro e w20 ⟨rfl, hi, hb, hk⟩; refine ⟨_, rfl, ?_⟩; replace BK203 := Aside0.mk (KeepBut.blk hk (zq1 BK203) NB203_0.out (by simp)); replace BK213 := Aside0.mk (KeepBut.blk hk (zq1 BK213) NB213_0.out (by simp)); replace HK := Aside0.mk (KeepBut.trans (z63_5 HK) hk (.inl rfl)); replace HB := Aside0.mk (hb); replace HI0 := Aside0.mk (hi); (try clear hb); (try clear hb2); (try clear hk); (try clear hi)) | ((with_reducible refine gate_dst (N := 26) rfl ?_); refine Kd.R_lit (Kd.int .i64) _ 3 ?hg (N := 26) ?hd (xs := ([0, 0, 1, 1, 2, t214] : List Int)) (inner := [.int .i64 0, .int .i64 0, .int .i64 1, .int .i64 1, .int .i64 2, .int .i64 t214]) (ok := fun _ => True) (okp := fun _ => True) ?hr ?hp (fun _ hk => hk) trivial (Below.refl _ _) (Nat.le_refl _) (by simp) ?_; (case hd => rfl); (case hg => rfl); (case hr => first | (go_simp; done) | (go_simp; rfl)); (case hp => exact (Reps.one (show Kd.M (Kd.int .i64) _ _ _ 0 [.int .i64 0] from rfl) (Reps.one (show Kd.M (Kd.int .i64) _ _ _ 0 [.int .i64 0] from rfl) (Reps.one (show Kd.M (Kd.int .i64) _ _ _ 1 [.int .i64 1] from rfl) (Reps.one (show Kd.M (Kd.int .i64) _ _ _ 1 [.int .i64 1] from rfl) (Reps.one (show Kd.M (Kd.int .i64) _ _ _ 2 [.int .i64 2] from rfl) (Reps.one (show Kd.M (Kd.int .i64) _ _ _ t214 [.int .i64 t214] from rfl) (Reps.none _ _)))))))); intro v218 w21 ho22 hb hg_ hnew_; clear hg_ hnew_; (first | rw [← Ny217.out] at ho22 | (simp only [Int.reduceToNat] at ho22; rw [← Ny217.out] at ho22)); have HO219 := Aside0.mk (Kd.R_lower ho22 (keep_size (w := w) (g := g) (row := none) (z63_5 HK))); replace BK203 := Aside0.mk (zbb BK203 hb); replace BK213 := Aside0.mk (zbb BK213 hb); replace HI0 := Aside0.mk (IsS67.below (z63_3 HI0) hb); replace HK := Aside0.mk (KeepBut.trans (z63_5 HK) (KeepBut.of_below hb g none) (.inl rfl)); replace HB := Aside0.mk (below_step (z63_4 HB) hb); clear hb ho22; obtain ⟨Ao23, co23, eo23⟩ := Kd.R_slice HO219.out; subst eo23) | ((with_reducible refine gate_callee (f := 64) rfl ?_); refine goesL_ (some 27) rfl rfl Try.func64 (by kernel_rfl) rfl #[.pointer (some ⟨g, 0, none⟩), .slice Ao23 y217.length co23] rfl zq6 ?_; (with_reducible refine (spec_l1Cur_among.calls g s0_0 t215 t216 _ _ y217 t220 t221 t222 w0 _ ?side1 ?side2 ?side3 ?side4 ?side5 A17.out).mono ?_); (case side1 => exact z63_3 HI0); (case side2 => exact z63_4 HB); (case side3 => repeat (first | exact (Kd.R_reads' HO219.out).2.2 | (with_reducible refine Kd.C_alloc ?_ _) | (with_reducible refine Kd.C_drewN ?_ _) | (with_reducible refine Kd.C_drew ?_))); (case side4 => exact (Kd.R_reads' HO219.out).2.1); (case side5 => exact far_slice (IsS67.own_ne HI0.out HO219.out (by decide))); rintro e w24 ⟨rfl, hi, hb, hk⟩; refine ⟨_, rfl, ?_⟩; replace BK203 := Aside0.mk (KeepBut.blk hk (zq1 BK203) NB203_0.out (by simp)); replace BK213 := Aside0.mk (KeepBut.blk hk (zq1 BK213) NB213_0.out (by simp)); replace HO219 := Aside0.mk (Kd.R_mono (Kd.R_keep (IsS67.apart (show IsS67 w0 _ g s0_0 t215 t216 from (z63_3 HI0)) (zq3 HO219) (by decide)) hk (fun _ h => h.2)) (fun _ h => h.1)); replace HK := Aside0.mk (KeepBut.trans (z63_5 HK) hk (.inl rfl)); replace HB := Aside0.mk (hb); replace HI0 := Aside0.mk (hi); (try clear hb); (try clear hb2); (try clear hk); (try clear hi); have hnb25 := NB213_203.out; have hnc25 := NB203_213.out; have hnb26 := NB213_0.out; have hnc26 := NB0_213.out; have hcz27_0 : w24.cell? ⟨gb213, 0, none⟩ = some (.int .i64 x214000_1) := zc BK213 0; have hcz27_1 : w24.cell? ⟨gb213, 1, none⟩ = some (.int .i64 x214001_1) := zc BK213 1; have hcz27_2 : w24.cell? ⟨gb213, 2, none⟩ = some (.int .i64 x214002_1) := zc BK213 2; have hcz27_3 : w24.cell? ⟨gb213, 3, none⟩ = some (.int .i64 x214003_1) := zc BK213 3; have hfz27_0 := blk_frozen BK213.out 0; have hfz27_1 := blk_frozen BK213.out 1; have hfz27_2 := blk_frozen BK213.out 2; have hfz27_3 := blk_frozen BK213.out 3) | ((with_reducible refine gate_callee (f := 70) rfl ?_); refine goesL_ (some 35) rfl rfl Try.func70 (by kernel_rfl) rfl #[.agg #[.int .i64 x214000_1, .int .i64 x214001_1, .int .i64 x214002_1, .int .i64 x214003_1], .int .i64 x7_1, .int .i64 x6_1] rfl zq6 ?_; (with_reducible refine (spec_poWith.calls x214000_1 x214001_1 x214002_1 x214003_1 x7_1 x6_1 t223 t224 t225 t226 _ A19.out).mono ?_); rintro e w28 ⟨rfl, hb⟩; refine ⟨_, rfl, ?_⟩; replace HO219 := Aside0.mk (Kd.R_below (zq3 HO219) hb); replace BK203 := Aside0.mk (zbb BK203 hb); replace BK213 := Aside0.mk (zbb BK213 hb); replace HI0 := Aside0.mk (IsS67.below (z63_3 HI0) hb); replace HK := Aside0.mk (KeepBut.trans (z63_5 HK) (KeepBut.of_below hb g none) (.inl rfl)); replace HB := Aside0.mk (below_step (z63_4 HB) hb); (try clear hb); (try clear hb2); (try clear hk); (try clear hi); have hcz29_0 : w28.cell? ⟨gb213, 0, none⟩ = some (.int .i64 x214000_1) := zc BK213 0; have hcz29_1 : w28.cell? ⟨gb213, 1, none⟩ = some (.int .i64 x214001_1) := zc BK213 1; have hcz29_2 : w28.cell? ⟨gb213, 2, none⟩ = some (.int .i64 x214002_1) := zc BK213 2; have hcz29_3 : w28.cell? ⟨gb213, 3, none⟩ = some (.int .i64 x214003_1) := zc BK213 3; have hfz29_0 := blk_frozen BK213.out 0; have hfz29_1 := blk_frozen BK213.out 1; have hfz29_2 := blk_frozen BK213.out 2; have hfz29_3 := blk_frozen BK213.out 3))
     go_roundg k1
     case measure => have := HK1.out; omega
     case rel => exact ⟨0, (wrap64 (x7_1 + 1)), (t221), (t222), (t223), (t224), (t225), (t226), (by first | rfl | (simp; done) | (simp [*]; done) | (simp [wrap64]; done)), (by first | rfl | (simp; done) | (simp [*]; done) | (simp [wrap64]; done)), H', ⟨by have := HK1.out; omega⟩, ⟨zq5 BK203⟩, ⟨by (with_reducible repeat (first | refine blk_drewN ?_ _ | refine blk_drew ?_ | refine blk_alloc ?_ _)); refine blk_put (cs := #[.int .i64 t223, .int .i64 t224, .int .i64 t225, .int .i64 x214003_1]) ?_ 3 _ rfl; (with_reducible repeat (first | refine blk_drewN ?_ _ | refine blk_drew ?_ | refine blk_alloc ?_ _)); refine blk_put (cs := #[.int .i64 t223, .int .i64 t224, .int .i64 x214002_1, .int .i64 x214003_1]) ?_ 2 _ rfl; (with_reducible repeat (first | refine blk_drewN ?_ _ | refine blk_drew ?_ | refine blk_alloc ?_ _)); refine blk_put (cs := #[.int .i64 t223, .int .i64 x214001_1, .int .i64 x214002_1, .int .i64 x214003_1]) ?_ 1 _ rfl; (with_reducible repeat (first | refine blk_drewN ?_ _ | refine blk_drew ?_ | refine blk_alloc ?_ _)); refine blk_put (cs := #[.int .i64 x214000_1, .int .i64 x214001_1, .int .i64 x214002_1, .int .i64 x214003_1]) ?_ 0 _ rfl; (with_reducible repeat (first | refine blk_drewN ?_ _ | refine blk_drew ?_ | refine blk_alloc ?_ _)); exact BK213.out⟩, ⟨(z63_3 HI0)⟩, ⟨(z63_5 HK)⟩, ⟨(z63_4 HB)⟩⟩
    ·
     rw [if_neg c18] at H
     have c18b0 : decide (x6_1 < t220) = false := decide_eq_false c18
     clear c18
     replace H := Option.bind_eq_some_iff.mp H
     obtain ⟨⟨t227, t228, t229, t230⟩, A300, H⟩ := H
     replace H : (spec_l1Cur_term.l0 k1 a1 (wrap64 (x6_1 - t220)) (wrap64 (x7_1 + 1)) s0_0 t221 t222 t227 t228 t229 t230) = some (r1, r2, r3, r4, r5, r6) := H
     have A30 := Aside0.mk A300
     clear A300
     have H' := Aside0.mk H
     clear H
     go_wp2_with (first | ((with_reducible refine gate_callee (f := 50) rfl ?_); refine goesL_ (some 25) rfl rfl Try.func50 (by kernel_rfl) rfl #[.pointer (some ⟨g, 0, none⟩), .int .i64 (wrap64 (x6_1 + 1))] rfl zq6 ?_; (with_reducible refine (spec_l1Cur_pick.calls g s0_0 x1001_1 x1002_1 (wrap64 (x6_1 + 1)) t214 t215 t216 w0 _ ?side1 ?side2 A16.out).mono ?_); (case side1 => exact z63_3 HI0); (case side2 => exact z63_4 HB); rintro e w31 ⟨rfl, hi, hb, hk⟩; refine ⟨_, rfl, ?_⟩; replace BK203 := Aside0.mk (KeepBut.blk hk (zq1 BK203) NB203_0.out (by simp)); replace BK213 := Aside0.mk (KeepBut.blk hk (zq1 BK213) NB213_0.out (by simp)); replace HK := Aside0.mk (KeepBut.trans (z63_5 HK) hk (.inl rfl)); replace HB := Aside0.mk (hb); replace HI0 := Aside0.mk (hi); (try clear hb); (try clear hb2); (try clear hk); (try clear hi)) | ((with_reducible refine gate_dst (N := 26) rfl ?_); refine Kd.R_lit (Kd.int .i64) _ 3 ?hg (N := 26) ?hd (xs := ([0, 0, 1, 1, 2, t214] : List Int)) (inner := [.int .i64 0, .int .i64 0, .int .i64 1, .int .i64 1, .int .i64 2, .int .i64 t214]) (ok := fun _ => True) (okp := fun _ => True) ?hr ?hp (fun _ hk => hk) trivial (Below.refl _ _) (Nat.le_refl _) (by simp) ?_; (case hd => rfl); (case hg => rfl); (case hr => first | (go_simp; done) | (go_simp; rfl)); (case hp => exact (Reps.one (show Kd.M (Kd.int .i64) _ _ _ 0 [.int .i64 0] from rfl) (Reps.one (show Kd.M (Kd.int .i64) _ _ _ 0 [.int .i64 0] from rfl) (Reps.one (show Kd.M (Kd.int .i64) _ _ _ 1 [.int .i64 1] from rfl) (Reps.one (show Kd.M (Kd.int .i64) _ _ _ 1 [.int .i64 1] from rfl) (Reps.one (show Kd.M (Kd.int .i64) _ _ _ 2 [.int .i64 2] from rfl) (Reps.one (show Kd.M (Kd.int .i64) _ _ _ t214 [.int .i64 t214] from rfl) (Reps.none _ _)))))))); intro v218 w32 ho33 hb hg_ hnew_; clear hg_ hnew_; (first | rw [← Ny217.out] at ho33 | (simp only [Int.reduceToNat] at ho33; rw [← Ny217.out] at ho33)); have HO219 := Aside0.mk (Kd.R_lower ho33 (keep_size (w := w) (g := g) (row := none) (z63_5 HK))); replace BK203 := Aside0.mk (zbb BK203 hb); replace BK213 := Aside0.mk (zbb BK213 hb); replace HI0 := Aside0.mk (IsS67.below (z63_3 HI0) hb); replace HK := Aside0.mk (KeepBut.trans (z63_5 HK) (KeepBut.of_below hb g none) (.inl rfl)); replace HB := Aside0.mk (below_step (z63_4 HB) hb); clear hb ho33; obtain ⟨Ao34, co34, eo34⟩ := Kd.R_slice HO219.out; subst eo34) | ((with_reducible refine gate_callee (f := 64) rfl ?_); refine goesL_ (some 27) rfl rfl Try.func64 (by kernel_rfl) rfl #[.pointer (some ⟨g, 0, none⟩), .slice Ao34 y217.length co34] rfl zq6 ?_; (with_reducible refine (spec_l1Cur_among.calls g s0_0 t215 t216 _ _ y217 t220 t221 t222 w0 _ ?side1 ?side2 ?side3 ?side4 ?side5 A17.out).mono ?_); (case side1 => exact z63_3 HI0); (case side2 => exact z63_4 HB); (case side3 => repeat (first | exact (Kd.R_reads' HO219.out).2.2 | (with_reducible refine Kd.C_alloc ?_ _) | (with_reducible refine Kd.C_drewN ?_ _) | (with_reducible refine Kd.C_drew ?_))); (case side4 => exact (Kd.R_reads' HO219.out).2.1); (case side5 => exact far_slice (IsS67.own_ne HI0.out HO219.out (by decide))); rintro e w35 ⟨rfl, hi, hb, hk⟩; refine ⟨_, rfl, ?_⟩; replace BK203 := Aside0.mk (KeepBut.blk hk (zq1 BK203) NB203_0.out (by simp)); replace BK213 := Aside0.mk (KeepBut.blk hk (zq1 BK213) NB213_0.out (by simp)); replace HO219 := Aside0.mk (Kd.R_mono (Kd.R_keep (IsS67.apart (show IsS67 w0 _ g s0_0 t215 t216 from (z63_3 HI0)) (zq3 HO219) (by decide)) hk (fun _ h => h.2)) (fun _ h => h.1)); replace HK := Aside0.mk (KeepBut.trans (z63_5 HK) hk (.inl rfl)); replace HB := Aside0.mk (hb); replace HI0 := Aside0.mk (hi); (try clear hb); (try clear hb2); (try clear hk); (try clear hi); have hnb36 := NB213_203.out; have hnc36 := NB203_213.out; have hnb37 := NB213_0.out; have hnc37 := NB0_213.out; have hcz38_0 : w35.cell? ⟨gb213, 0, none⟩ = some (.int .i64 x214000_1) := zc BK213 0; have hcz38_1 : w35.cell? ⟨gb213, 1, none⟩ = some (.int .i64 x214001_1) := zc BK213 1; have hcz38_2 : w35.cell? ⟨gb213, 2, none⟩ = some (.int .i64 x214002_1) := zc BK213 2; have hcz38_3 : w35.cell? ⟨gb213, 3, none⟩ = some (.int .i64 x214003_1) := zc BK213 3; have hfz38_0 := blk_frozen BK213.out 0; have hfz38_1 := blk_frozen BK213.out 1; have hfz38_2 := blk_frozen BK213.out 2; have hfz38_3 := blk_frozen BK213.out 3) | ((with_reducible refine gate_callee (f := 70) rfl ?_); refine goesL_ (some 35) rfl rfl Try.func70 (by kernel_rfl) rfl #[.agg #[.int .i64 x214000_1, .int .i64 x214001_1, .int .i64 x214002_1, .int .i64 x214003_1], .int .i64 x7_1, .int .i64 t220] rfl zq6 ?_; (with_reducible refine (spec_poWith.calls x214000_1 x214001_1 x214002_1 x214003_1 x7_1 t220 t227 t228 t229 t230 _ A30.out).mono ?_); rintro e w39 ⟨rfl, hb⟩; refine ⟨_, rfl, ?_⟩; replace HO219 := Aside0.mk (Kd.R_below (zq3 HO219) hb); replace BK203 := Aside0.mk (zbb BK203 hb); replace BK213 := Aside0.mk (zbb BK213 hb); replace HI0 := Aside0.mk (IsS67.below (z63_3 HI0) hb); replace HK := Aside0.mk (KeepBut.trans (z63_5 HK) (KeepBut.of_below hb g none) (.inl rfl)); replace HB := Aside0.mk (below_step (z63_4 HB) hb); (try clear hb); (try clear hb2); (try clear hk); (try clear hi); have hcz40_0 : w39.cell? ⟨gb213, 0, none⟩ = some (.int .i64 x214000_1) := zc BK213 0; have hcz40_1 : w39.cell? ⟨gb213, 1, none⟩ = some (.int .i64 x214001_1) := zc BK213 1; have hcz40_2 : w39.cell? ⟨gb213, 2, none⟩ = some (.int .i64 x214002_1) := zc BK213 2; have hcz40_3 : w39.cell? ⟨gb213, 3, none⟩ = some (.int .i64 x214003_1) := zc BK213 3; have hfz40_0 := blk_frozen BK213.out 0; have hfz40_1 := blk_frozen BK213.out 1; have hfz40_2 := blk_frozen BK213.out 2; have hfz40_3 := blk_frozen BK213.out 3))
     go_roundg k1
     case measure => have := HK1.out; omega
     case rel => exact ⟨(wrap64 (x6_1 - t220)), (wrap64 (x7_1 + 1)), (t221), (t222), (t227), (t228), (t229), (t230), (by first | rfl | (simp; done) | (simp [*]; done) | (simp [wrap64]; done)), (by first | rfl | (simp; done) | (simp [*]; done) | (simp [wrap64]; done)), H', ⟨by have := HK1.out; omega⟩, ⟨zq5 BK203⟩, ⟨by (with_reducible repeat (first | refine blk_drewN ?_ _ | refine blk_drew ?_ | refine blk_alloc ?_ _)); refine blk_put (cs := #[.int .i64 t227, .int .i64 t228, .int .i64 t229, .int .i64 x214003_1]) ?_ 3 _ rfl; (with_reducible repeat (first | refine blk_drewN ?_ _ | refine blk_drew ?_ | refine blk_alloc ?_ _)); refine blk_put (cs := #[.int .i64 t227, .int .i64 t228, .int .i64 x214002_1, .int .i64 x214003_1]) ?_ 2 _ rfl; (with_reducible repeat (first | refine blk_drewN ?_ _ | refine blk_drew ?_ | refine blk_alloc ?_ _)); refine blk_put (cs := #[.int .i64 t227, .int .i64 x214001_1, .int .i64 x214002_1, .int .i64 x214003_1]) ?_ 1 _ rfl; (with_reducible repeat (first | refine blk_drewN ?_ _ | refine blk_drew ?_ | refine blk_alloc ?_ _)); refine blk_put (cs := #[.int .i64 x214000_1, .int .i64 x214001_1, .int .i64 x214002_1, .int .i64 x214003_1]) ?_ 0 _ rfl; (with_reducible repeat (first | refine blk_drewN ?_ _ | refine blk_drew ?_ | refine blk_alloc ?_ _)); exact BK213.out⟩, ⟨(z63_3 HI0)⟩, ⟨(z63_5 HK)⟩, ⟨(z63_4 HB)⟩⟩
   ·
    rw [if_neg c15] at H
    have c15b0 : decide (x7_1 < a1) = false := decide_eq_false c15
    clear c15
    replace H := Option.bind_eq_some_iff.mp H
    obtain ⟨⟨t231, t232, t233⟩, A410, H⟩ := H
    replace H : (if t231 = true then ((spec_l1Cur_among.f s0_0 t232 t233 (([1000, (-1000)] : List Int))).bind fun bt237 => (some (bt237.1, x214001_1, x214002_1, x214003_1, bt237.2.1, bt237.2.2))) else (some (x214000_1, x214001_1, x214002_1, x214003_1, t232, t233))) = some (r1, r2, r3, r4, r5, r6) := H
    have A41 := Aside0.mk A410
    clear A410
    by_cases c42 : t231 = true
    ·
     subst c42
     have H1 : ((spec_l1Cur_among.f s0_0 t232 t233 (([1000, (-1000)] : List Int))).bind fun bt237 => (some (bt237.1, x214001_1, x214002_1, x214003_1, bt237.2.1, bt237.2.2))) = some (r1, r2, r3, r4, r5, r6) := by rw [if_pos rfl] at H; exact H
     clear H
     have H := H1
     clear H1
     obtain ⟨y234, hy234⟩ : ∃ y_ : List Int, y_ = (([1000, (-1000)] : List Int)) := ⟨_, rfl⟩
     replace H : ((spec_l1Cur_among.f s0_0 t232 t233 y234).bind fun bt237 => (some (bt237.1, x214001_1, x214002_1, x214003_1, bt237.2.1, bt237.2.2))) = some (r1, r2, r3, r4, r5, r6) := by first | (rw [hy234]; with_reducible exact H) | (have H2_ := (Option.bind_some _ _).symm.trans H; rw [hy234]; with_reducible exact H2_) | (have H2_ := (Option.bind_some _ _).symm.trans H; with_reducible exact H2_) | with_reducible exact H | (rw [hy234]; exact H) | exact H
     have Ny234 := Aside0.mk hy234
     clear hy234
     replace H := Option.bind_eq_some_iff.mp H
     obtain ⟨⟨t237, t238, t239⟩, A430, H⟩ := H
     replace H : (some (t237, x214001_1, x214002_1, x214003_1, t238, t239)) = some (r1, r2, r3, r4, r5, r6) := H
     have A43 := Aside0.mk A430
     clear A430
     simp only [Option.some.injEq, Prod.mk.injEq] at H
     obtain ⟨rfl, rfl, rfl, rfl, rfl, rfl⟩ := H
     go_wp2_with (first | ((with_reducible refine gate_callee (f := 52) rfl ?_); refine goesL_ (some 40) rfl rfl Try.func52 (by kernel_rfl) rfl #[.pointer (some ⟨g, 0, none⟩), .int .i64 24] rfl zq6 ?_; (with_reducible refine (spec_l1Cur_one.calls g s0_0 x1001_1 x1002_1 24 true t232 t233 w0 _ ?side1 ?side2 A41.out).mono ?_); (case side1 => exact z63_3 HI0); (case side2 => exact z63_4 HB); rintro e w44 ⟨rfl, hi, hb, hk⟩; refine ⟨_, rfl, ?_⟩; replace BK203 := Aside0.mk (KeepBut.blk hk (zq1 BK203) NB203_0.out (by simp)); replace BK213 := Aside0.mk (KeepBut.blk hk (zq1 BK213) NB213_0.out (by simp)); replace HK := Aside0.mk (KeepBut.trans (z63_5 HK) hk (.inl rfl)); replace HB := Aside0.mk (hb); replace HI0 := Aside0.mk (hi); (try clear hb); (try clear hb2); (try clear hk); (try clear hi)) | ((with_reducible refine gate_dst (N := 42) rfl ?_); refine Kd.R_lit (Kd.int .i64) _ 3 ?hg (N := 42) ?hd (xs := ([1000, (-1000)] : List Int)) (inner := [.int .i64 1000, .int .i64 (-1000)]) (ok := fun _ => True) (okp := fun _ => True) ?hr ?hp (fun _ hk => hk) trivial (Below.refl _ _) (Nat.le_refl _) (by simp) ?_; (case hd => rfl); (case hg => rfl); (case hr => first | (go_simp; done) | (go_simp; rfl)); (case hp => exact (Reps.one (show Kd.M (Kd.int .i64) _ _ _ 1000 [.int .i64 1000] from rfl) (Reps.one (show Kd.M (Kd.int .i64) _ _ _ (-1000) [.int .i64 (-1000)] from rfl) (Reps.none _ _)))); intro v235 w45 ho46 hb hg_ hnew_; clear hg_ hnew_; (first | rw [← Ny234.out] at ho46 | (simp only [Int.reduceToNat] at ho46; rw [← Ny234.out] at ho46)); have HO236 := Aside0.mk (Kd.R_lower ho46 (keep_size (w := w) (g := g) (row := none) (z63_5 HK))); replace BK203 := Aside0.mk (zbb BK203 hb); replace BK213 := Aside0.mk (zbb BK213 hb); replace HI0 := Aside0.mk (IsS67.below (z63_3 HI0) hb); replace HK := Aside0.mk (KeepBut.trans (z63_5 HK) (KeepBut.of_below hb g none) (.inl rfl)); replace HB := Aside0.mk (below_step (z63_4 HB) hb); clear hb ho46; obtain ⟨Ao47, co47, eo47⟩ := Kd.R_slice HO236.out; subst eo47) | ((with_reducible refine gate_callee (f := 64) rfl ?_); refine goesL_ (some 43) rfl rfl Try.func64 (by kernel_rfl) rfl #[.pointer (some ⟨g, 0, none⟩), .slice Ao47 y234.length co47] rfl zq6 ?_; (with_reducible refine (spec_l1Cur_among.calls g s0_0 t232 t233 _ _ y234 t237 t238 t239 w0 _ ?side1 ?side2 ?side3 ?side4 ?side5 A43.out).mono ?_); (case side1 => exact z63_3 HI0); (case side2 => exact z63_4 HB); (case side3 => repeat (first | exact (Kd.R_reads' HO236.out).2.2 | (with_reducible refine Kd.C_alloc ?_ _) | (with_reducible refine Kd.C_drewN ?_ _) | (with_reducible refine Kd.C_drew ?_))); (case side4 => exact (Kd.R_reads' HO236.out).2.1); (case side5 => exact far_slice (IsS67.own_ne HI0.out HO236.out (by decide))); rintro e w48 ⟨rfl, hi, hb, hk⟩; refine ⟨_, rfl, ?_⟩; replace BK203 := Aside0.mk (KeepBut.blk hk (zq1 BK203) NB203_0.out (by simp)); replace BK213 := Aside0.mk (KeepBut.blk hk (zq1 BK213) NB213_0.out (by simp)); replace HO236 := Aside0.mk (Kd.R_mono (Kd.R_keep (IsS67.apart (show IsS67 w0 _ g s0_0 t232 t233 from (z63_3 HI0)) (zq3 HO236) (by decide)) hk (fun _ h => h.2)) (fun _ h => h.1)); replace HK := Aside0.mk (KeepBut.trans (z63_5 HK) hk (.inl rfl)); replace HB := Aside0.mk (hb); replace HI0 := Aside0.mk (hi); (try clear hb); (try clear hb2); (try clear hk); (try clear hi); have hnb49 := NB213_203.out; have hnc49 := NB203_213.out; have hnb50 := NB213_0.out; have hnc50 := NB0_213.out; have hcz51_0 : w48.cell? ⟨gb213, 0, none⟩ = some (.int .i64 x214000_1) := zc BK213 0; have hcz51_1 : w48.cell? ⟨gb213, 1, none⟩ = some (.int .i64 x214001_1) := zc BK213 1; have hcz51_2 : w48.cell? ⟨gb213, 2, none⟩ = some (.int .i64 x214002_1) := zc BK213 2; have hcz51_3 : w48.cell? ⟨gb213, 3, none⟩ = some (.int .i64 x214003_1) := zc BK213 3; have hfz51_0 := blk_frozen BK213.out 0; have hfz51_1 := blk_frozen BK213.out 1; have hfz51_2 := blk_frozen BK213.out 2; have hfz51_3 := blk_frozen BK213.out 3; have hnb52 := NB203_0.out; have hnc52 := NB0_203.out; have hcz53_0 : w48.cell? ⟨gb203, 0, none⟩ = some (.int .i64 0) := zc BK203 0; have hcz53_1 : w48.cell? ⟨gb203, 1, none⟩ = some (.int .i64 0) := zc BK203 1; have hcz53_2 : w48.cell? ⟨gb203, 2, none⟩ = some (.int .i64 0) := zc BK203 2; have hcz53_3 : w48.cell? ⟨gb203, 3, none⟩ = some (.int .i64 0) := zc BK203 3; have hfz53_0 := blk_frozen BK203.out 0; have hfz53_1 := blk_frozen BK203.out 1; have hfz53_2 := blk_frozen BK203.out 2; have hfz53_3 := blk_frozen BK203.out 3))
     refine bodyPost_ret (results_cell_row rfl _ _ gb203 51 #[.int .i64 t237, .int .i64 x214001_1, .int .i64 x214002_1, .int .i64 x214003_1] (0, 0) _ rfl (by (with_reducible repeat (first | refine blk_drewN ?_ _ | refine blk_drew ?_ | refine blk_alloc ?_ _)); refine blk_put (cs := #[.int .i64 t237, .int .i64 x214001_1, .int .i64 x214002_1, .int .i64 0]) ?_ 3 _ rfl; (with_reducible repeat (first | refine blk_drewN ?_ _ | refine blk_drew ?_ | refine blk_alloc ?_ _)); refine blk_put (cs := #[.int .i64 t237, .int .i64 x214001_1, .int .i64 0, .int .i64 0]) ?_ 2 _ rfl; (with_reducible repeat (first | refine blk_drewN ?_ _ | refine blk_drew ?_ | refine blk_alloc ?_ _)); refine blk_put (cs := #[.int .i64 t237, .int .i64 0, .int .i64 0, .int .i64 0]) ?_ 1 _ rfl; (with_reducible repeat (first | refine blk_drewN ?_ _ | refine blk_drew ?_ | refine blk_alloc ?_ _)); refine blk_put (cs := #[.int .i64 0, .int .i64 0, .int .i64 0, .int .i64 0]) ?_ 0 _ rfl; (with_reducible repeat (first | refine blk_drewN ?_ _ | refine blk_drew ?_ | refine blk_alloc ?_ _)); refine blk_far ?_ NB203_213.out _; (with_reducible repeat (first | refine blk_drewN ?_ _ | refine blk_drew ?_ | refine blk_alloc ?_ _)); exact BK203.out) Try.underlying51 rfl (by kernel_rfl)) rfl ?_
     exact ⟨by first | rfl | (simp [errW_none, errW_some] <;> rfl) | (simp [*, errW_none, errW_some] <;> rfl), (z63_3 HI0), (z63_4 HB), (z63_5 HK)⟩
    ·
     replace c42 := Bool.eq_false_iff.mpr c42
     subst c42
     have H1 : (some (x214000_1, x214001_1, x214002_1, x214003_1, t232, t233)) = some (r1, r2, r3, r4, r5, r6) := by rw [if_neg (show ¬ (false = true) by decide)] at H; exact H
     clear H
     have H := H1
     clear H1
     simp only [Option.some.injEq, Prod.mk.injEq] at H
     obtain ⟨rfl, rfl, rfl, rfl, rfl, rfl⟩ := H
     go_wp2_with (first | ((with_reducible refine gate_callee (f := 52) rfl ?_); refine goesL_ (some 40) rfl rfl Try.func52 (by kernel_rfl) rfl #[.pointer (some ⟨g, 0, none⟩), .int .i64 24] rfl zq6 ?_; (with_reducible refine (spec_l1Cur_one.calls g s0_0 x1001_1 x1002_1 24 false t232 t233 w0 _ ?side1 ?side2 A41.out).mono ?_); (case side1 => exact z63_3 HI0); (case side2 => exact z63_4 HB); rintro e w54 ⟨rfl, hi, hb, hk⟩; refine ⟨_, rfl, ?_⟩; replace BK203 := Aside0.mk (KeepBut.blk hk (zq1 BK203) NB203_0.out (by simp)); replace BK213 := Aside0.mk (KeepBut.blk hk (zq1 BK213) NB213_0.out (by simp)); replace HK := Aside0.mk (KeepBut.trans (z63_5 HK) hk (.inl rfl)); replace HB := Aside0.mk (hb); replace HI0 := Aside0.mk (hi); (try clear hb); (try clear hb2); (try clear hk); (try clear hi); have hnb55 := NB213_203.out; have hnc55 := NB203_213.out; have hnb56 := NB213_0.out; have hnc56 := NB0_213.out; have hcz57_0 : w54.cell? ⟨gb213, 0, none⟩ = some (.int .i64 x214000_1) := zc BK213 0; have hcz57_1 : w54.cell? ⟨gb213, 1, none⟩ = some (.int .i64 x214001_1) := zc BK213 1; have hcz57_2 : w54.cell? ⟨gb213, 2, none⟩ = some (.int .i64 x214002_1) := zc BK213 2; have hcz57_3 : w54.cell? ⟨gb213, 3, none⟩ = some (.int .i64 x214003_1) := zc BK213 3; have hfz57_0 := blk_frozen BK213.out 0; have hfz57_1 := blk_frozen BK213.out 1; have hfz57_2 := blk_frozen BK213.out 2; have hfz57_3 := blk_frozen BK213.out 3; have hnb58 := NB203_0.out; have hnc58 := NB0_203.out; have hcz59_0 : w54.cell? ⟨gb203, 0, none⟩ = some (.int .i64 0) := zc BK203 0; have hcz59_1 : w54.cell? ⟨gb203, 1, none⟩ = some (.int .i64 0) := zc BK203 1; have hcz59_2 : w54.cell? ⟨gb203, 2, none⟩ = some (.int .i64 0) := zc BK203 2; have hcz59_3 : w54.cell? ⟨gb203, 3, none⟩ = some (.int .i64 0) := zc BK203 3; have hfz59_0 := blk_frozen BK203.out 0; have hfz59_1 := blk_frozen BK203.out 1; have hfz59_2 := blk_frozen BK203.out 2; have hfz59_3 := blk_frozen BK203.out 3))
     refine bodyPost_ret (results_cell_row rfl _ _ gb203 51 #[.int .i64 x214000_1, .int .i64 x214001_1, .int .i64 x214002_1, .int .i64 x214003_1] (0, 0) _ rfl (by (with_reducible repeat (first | refine blk_drewN ?_ _ | refine blk_drew ?_ | refine blk_alloc ?_ _)); refine blk_put (cs := #[.int .i64 x214000_1, .int .i64 x214001_1, .int .i64 x214002_1, .int .i64 0]) ?_ 3 _ rfl; (with_reducible repeat (first | refine blk_drewN ?_ _ | refine blk_drew ?_ | refine blk_alloc ?_ _)); refine blk_put (cs := #[.int .i64 x214000_1, .int .i64 x214001_1, .int .i64 0, .int .i64 0]) ?_ 2 _ rfl; (with_reducible repeat (first | refine blk_drewN ?_ _ | refine blk_drew ?_ | refine blk_alloc ?_ _)); refine blk_put (cs := #[.int .i64 x214000_1, .int .i64 0, .int .i64 0, .int .i64 0]) ?_ 1 _ rfl; (with_reducible repeat (first | refine blk_drewN ?_ _ | refine blk_drew ?_ | refine blk_alloc ?_ _)); refine blk_put (cs := #[.int .i64 0, .int .i64 0, .int .i64 0, .int .i64 0]) ?_ 0 _ rfl; (with_reducible repeat (first | refine blk_drewN ?_ _ | refine blk_drew ?_ | refine blk_alloc ?_ _)); exact BK203.out) Try.underlying51 rfl (by kernel_rfl)) rfl ?_
     exact ⟨by first | rfl | (simp [errW_none, errW_some] <;> rfl) | (simp [*, errW_none, errW_some] <;> rfl), (z63_3 HI0), (z63_4 HB), (z63_5 HK)⟩
/-! ### spec_l1Cur_poly: function 82 -/
theorem z82_0 {P Q : Prop} (h : Aside0 (Q)) (f : Q → P := by intro h_; repeat (first | (with_reducible first | exact h_ | apply IsS67.alloc | apply IsS67.drewN | apply IsS67.drew | apply IsS67.set_1 | apply IsS67.set_2) | exact h_)) : P := f h.out
theorem z82_1 {w W0 W1 : World} {B : Nat} (h : Aside0 (Below B w W0)) (f : Below B w W0 → Below B w W1 := by intro h_; repeat (first | (with_reducible first | exact h_ | apply below_alloc | apply pw_below_drewN | apply below_drew1 | refine below_set ?_ (IsS67.ge (Aside0.out (by assumption)))) | exact h_)) : Below B w W1 := f h.out
theorem z82_2 {w W0 W1 : World} {g : Nat} {row : Option Nat} (h : Aside0 (KeepBut w W0 g row)) (f : KeepBut w W0 g row → KeepBut w W1 g row := by intro h_; repeat (first | (with_reducible first | exact h_ | apply KeepBut.set_ | apply keep_drewN | apply keep_drew | apply keep_alloc) | exact h_)) : KeepBut w W1 g row := f h.out
set_option maxHeartbeats 8000000 in
set_option maxRecDepth 100000 in
theorem spec_l1Cur_poly.calls (k : Nat) (g : Nat) (s0_0 : List Int) (s0_1 : Int) (s0_2 : Int) (a1 : Int) (r1 : List (S51)) (r2 : Int) (r3 : Int) (w0 w : World) (hI : IsS67 w0 w g s0_0 s0_1 s0_2) (hB : Below w0.heap.size w0 w) (h : spec_l1Cur_poly.f k s0_0 s0_1 s0_2 a1 = some (r1, r2, r3)) :
  Calls Try.prog 82 #[.pointer (some ⟨g, 0, none⟩), .int .i64 a1] w fun e w' => ∃ v0_ : Value, e = .returned (v0_) ∧ Kd.R k51 51 w' w.heap.size (fun _ => True) v0_ r1 ∧ IsS67 w0 w' g s0_0 r2 r3 ∧ Below w0.heap.size w0 w' ∧ KeepBut w w' g none := by
 have HI0 := Aside0.mk hI
 have HK := Aside0.mk (KeepBut.refl w g none)
 have HL := Aside0.mk hB.size
 clear hI
 have HW0 := Aside0.mk hB.size
 have HB := Aside0.mk hB
 clear hB
 have H : ((spec_l1Cur_pick.f s0_0 s0_1 s0_2 4).bind fun bt240 => ((spec_l1Cur_one.f s0_0 bt240.2.1 bt240.2.2 20).bind fun bt243 => (if bt243.1 = true then (spec_l1Cur_poly.j0 k a1 ([] : List (S51)) 24 s0_0 bt243.2.1 bt243.2.2) else (spec_l1Cur_poly.j0 k a1 ([] : List (S51)) (wrap64 (1 + bt240.1)) s0_0 bt243.2.1 bt243.2.2)))) = some (r1, r2, r3) := h
 clear h
 replace H := Option.bind_eq_some_iff.mp H
 obtain ⟨⟨t240, t241, t242⟩, A30, H⟩ := H
 replace H : ((spec_l1Cur_one.f s0_0 t241 t242 20).bind fun bt243 => (if bt243.1 = true then (spec_l1Cur_poly.j0 k a1 ([] : List (S51)) 24 s0_0 bt243.2.1 bt243.2.2) else (spec_l1Cur_poly.j0 k a1 ([] : List (S51)) (wrap64 (1 + t240)) s0_0 bt243.2.1 bt243.2.2))) = some (r1, r2, r3) := H
 have A3 := Aside0.mk A30
 clear A30
 replace H := Option.bind_eq_some_iff.mp H
 obtain ⟨⟨t243, t244, t245⟩, A40, H⟩ := H
 replace H : (if t243 = true then (spec_l1Cur_poly.j0 k a1 ([] : List (S51)) 24 s0_0 t244 t245) else (spec_l1Cur_poly.j0 k a1 ([] : List (S51)) (wrap64 (1 + t240)) s0_0 t244 t245)) = some (r1, r2, r3) := H
 have A4 := Aside0.mk A40
 clear A40
 have HC5 := Aside0.mk H
 clear H
 go_enter Try.func82, Try.ntmps82
 go_upto_if 14 with (first | ((with_reducible refine gate_callee (f := 50) rfl ?_); refine goesL_ (some 11) rfl rfl Try.func50 (by kernel_rfl) rfl #[.pointer (some ⟨g, 0, none⟩), .int .i64 4] rfl zq6 ?_; (with_reducible refine (spec_l1Cur_pick.calls g s0_0 s0_1 s0_2 4 t240 t241 t242 w0 _ ?side1 ?side2 A3.out).mono ?_); (case side1 => exact z82_0 HI0); (case side2 => exact z82_1 HB); rintro e w6 ⟨rfl, hi, hb, hk⟩; refine ⟨_, rfl, ?_⟩; replace HK := Aside0.mk (KeepBut.trans (z82_2 HK) hk (.inl rfl)); replace HB := Aside0.mk (hb); replace HI0 := Aside0.mk (hi); (try clear hb); (try clear hb2); (try clear hk); (try clear hi)) | ((with_reducible refine gate_callee (f := 52) rfl ?_); refine goesL_ (some 14) rfl rfl Try.func52 (by kernel_rfl) rfl #[.pointer (some ⟨g, 0, none⟩), .int .i64 20] rfl zq6 ?_; (with_reducible refine (spec_l1Cur_one.calls g s0_0 t241 t242 20 t243 t244 t245 w0 _ ?side1 ?side2 A4.out).mono ?_); (case side1 => exact z82_0 HI0); (case side2 => exact z82_1 HB); rintro e w7 ⟨rfl, hi, hb, hk⟩; refine ⟨_, rfl, ?_⟩; replace HK := Aside0.mk (KeepBut.trans (z82_2 HK) hk (.inl rfl)); replace HB := Aside0.mk (hb); replace HI0 := Aside0.mk (hi); (try clear hb); (try clear hb2); (try clear hk); (try clear hi)))
 (try simp only [Act.put, List.setIfInBounds_toArray, List.set_cons_zero, List.set_cons_succ])
 go_cut [6] (fun v6 wc => ∃ (kq : Nat) (x6_4 : Int), v6 = .int .i64 x6_4 ∧ Aside0 (spec_l1Cur_poly.j0 kq a1 ([] : List (S51)) x6_4 s0_0 t244 t245 = some (r1, r2, r3)) ∧ Aside0 (kq ≤ k) ∧ Aside0 (Kd.R k51 51 wc w.heap.size (fun _ => True) (.slice none 0 0) ([] : List (S51))) ∧ Aside0 (IsS67 w0 wc g s0_0 t244 t245) ∧ Aside0 (KeepBut w wc g none) ∧ Aside0 (Below w0.heap.size w0 wc))
 case first =>
  have H := HC5.out
  clear HC5
  by_cases c8 : t243 = true
  ·
   subst c8
   have H1 : (spec_l1Cur_poly.j0 k a1 ([] : List (S51)) 24 s0_0 t244 t245) = some (r1, r2, r3) := by rw [if_pos rfl] at H; exact H
   clear H
   have H := H1
   clear H1
   have H' := Aside0.mk H
   clear H
   go_wp2
   go_meet
   case rel => exact ⟨_, (24), (by first | rfl | (simp; done) | (simp [*]; done)), H', ⟨by first | omega | exact Nat.le_refl _⟩, ⟨by first | exact Kd.R_nil _ _ _ _ _ | exact Kd.N_nil _ _ _ _ _ | exact Kd.V_nil _ _ _ _ _ | exact Kd.Q_nil _ _ _ _ _ | exact Kd.S_nil _ _ _ _ _⟩, ⟨(z82_0 HI0)⟩, ⟨(z82_2 HK)⟩, ⟨(z82_1 HB)⟩⟩
  ·
   replace c8 := Bool.eq_false_iff.mpr c8
   subst c8
   have H1 : (spec_l1Cur_poly.j0 k a1 ([] : List (S51)) (wrap64 (1 + t240)) s0_0 t244 t245) = some (r1, r2, r3) := by rw [if_neg (show ¬ (false = true) by decide)] at H; exact H
   clear H
   have H := H1
   clear H1
   have H' := Aside0.mk H
   clear H
   go_wp2
   go_meet
   case rel => exact ⟨_, (wrap64 (1 + t240)), (by first | rfl | (simp; done) | (simp [*]; done)), H', ⟨by first | omega | exact Nat.le_refl _⟩, ⟨by first | exact Kd.R_nil _ _ _ _ _ | exact Kd.N_nil _ _ _ _ _ | exact Kd.V_nil _ _ _ _ _ | exact Kd.Q_nil _ _ _ _ _ | exact Kd.S_nil _ _ _ _ _⟩, ⟨(z82_0 HI0)⟩, ⟨(z82_2 HK)⟩, ⟨(z82_1 HB)⟩⟩
 case rest =>
  clear HC5
  try clear p2
  try clear c5
  try clear p6
  try clear c8
  obtain ⟨kq, x6_4, rfl, HA, HJ4, HO_5, HI0, HK, HB⟩ := hcut
  cases kq with
  | zero => exact absurd HA.out (by simp [spec_l1Cur_poly.j0])
  | succ kj4 =>
   have H := HA.out
   clear HA
   simp only [spec_l1Cur_poly.j0] at H
   have H' := Aside0.mk H
   clear H
   go_wp2
   go_loopg [5, 7] kj4 (fun kq v5 v7 w' => ∃ (x5_2 : List (S51)) (x7_2 : Int) (x1001_2 : Int) (x1002_2 : Int), v7 = .int .i64 x7_2 ∧ Aside0 (spec_l1Cur_poly.l0 kq a1 x5_2 x6_4 x7_2 s0_0 x1001_2 x1002_2 = some (r1, r2, r3)) ∧ Aside0 (kq ≤ kj4) ∧ Aside0 (Kd.R k51 51 w' w.heap.size (fun _ => True) v5 x5_2) ∧ Aside0 (IsS67 w0 w' g s0_0 x1001_2 x1002_2) ∧ Aside0 (KeepBut w w' g none) ∧ Aside0 (Below w0.heap.size w0 w'))
   case atStart => exact ⟨(([] : List (S51))), (0), (t244), (t245), (by first | rfl | (simp; done) | (simp [*]; done)), H', ⟨Nat.le_refl _⟩, ⟨by (with_reducible repeat (first | apply Kd.R_alloc | apply Kd.R_drewN | apply Kd.R_drew)); exact HO_5.out⟩, ⟨(z82_0 HI0)⟩, ⟨(z82_2 HK)⟩, ⟨(z82_1 HB)⟩⟩
   case round =>
    clear H'
    try clear p2
    try clear c5
    try clear p6
    try clear c8
    try clear p2
    try clear p6
    obtain ⟨x5_2, x7_2, x1001_2, x1002_2, rfl, HA, HK2, HO_5, HI0, HK, HB⟩ := hrel
    cases gk with
    | zero => exact absurd HA.out (by simp [spec_l1Cur_poly.l0])
    | succ k2 =>
     have H := HA.out
     clear HA
     simp only [spec_l1Cur_poly.l0] at H
     by_cases c9 : x7_2 < x6_4
     ·
      rw [if_pos c9] at H
      have c9b0 : decide (x7_2 < x6_4) = true := decide_eq_true c9
      clear c9
      replace H := Option.bind_eq_some_iff.mp H
      obtain ⟨⟨t249, t250, t251, t252, t253, t254⟩, A100, H⟩ := H
      replace H : ((spec_poAdd.f k2 x5_2 (([(⟨t249, t250, t251, t252⟩ : S51)] : List (S51)))).bind fun bt258 => (if bt258.2 = true then (spec_l1Cur_poly.l0 k2 a1 bt258.1 x6_4 (wrap64 (x7_2 + 1)) s0_0 t253 t254) else (spec_l1Cur_poly.l0 k2 a1 x5_2 x6_4 (wrap64 (x7_2 + 1)) s0_0 t253 t254))) = some (r1, r2, r3) := H
      have A10 := Aside0.mk A100
      clear A100
      obtain ⟨y255, hy255⟩ : ∃ y_ : List (S51), y_ = (([(⟨t249, t250, t251, t252⟩ : S51)] : List (S51))) := ⟨_, rfl⟩
      replace H : ((spec_poAdd.f k2 x5_2 y255).bind fun bt258 => (if bt258.2 = true then (spec_l1Cur_poly.l0 k2 a1 bt258.1 x6_4 (wrap64 (x7_2 + 1)) s0_0 t253 t254) else (spec_l1Cur_poly.l0 k2 a1 x5_2 x6_4 (wrap64 (x7_2 + 1)) s0_0 t253 t254))) = some (r1, r2, r3) := by first | (rw [hy255]; with_reducible exact H) | (have H2_ := (Option.bind_some _ _).symm.trans H; rw [hy255]; with_reducible exact H2_) | (have H2_ := (Option.bind_some _ _).symm.trans H; with_reducible exact H2_) | with_reducible exact H | (rw [hy255]; exact H) | exact H
      have Ny255 := Aside0.mk hy255
      clear hy255
      replace H := Option.bind_eq_some_iff.mp H
      obtain ⟨⟨t258, t259⟩, A110, H⟩ := H
      replace H : (if t259 = true then (spec_l1Cur_poly.l0 k2 a1 t258 x6_4 (wrap64 (x7_2 + 1)) s0_0 t253 t254) else (spec_l1Cur_poly.l0 k2 a1 x5_2 x6_4 (wrap64 (x7_2 + 1)) s0_0 t253 t254)) = some (r1, r2, r3) := H
      have A11 := Aside0.mk A110
      clear A110
      by_cases c12 : t259 = true
      ·
       subst c12
       have H1 : (spec_l1Cur_poly.l0 k2 a1 t258 x6_4 (wrap64 (x7_2 + 1)) s0_0 t253 t254) = some (r1, r2, r3) := by rw [if_pos rfl] at H; exact H
       clear H
       have H := H1
       clear H1
       have H' := Aside0.mk H
       clear H
       go_wp2_with (first | ((with_reducible refine gate_callee (f := 63) rfl ?_); refine goesL_ (some 24) rfl rfl Try.func63 (by kernel_rfl) rfl #[.pointer (some ⟨g, 0, none⟩), .int .i64 a1] rfl zq6 ?_; (with_reducible refine (spec_l1Cur_term.calls k2 g s0_0 x1001_2 x1002_2 a1 t249 t250 t251 t252 t253 t254 w0 _ ?side1 ?side2 A10.out).mono ?_); (case side1 => exact z82_0 HI0); (case side2 => exact z82_1 HB); rintro e w13 ⟨rfl, hi, hb, hk⟩; refine ⟨_, rfl, ?_⟩; replace HO_5 := Aside0.mk (Kd.R_mono (Kd.R_keep (IsS67.apart (show IsS67 w0 _ g s0_0 x1001_2 x1002_2 from (z82_0 HI0)) (zq3 HO_5) (by decide)) hk (fun _ h => h.2)) (fun _ h => h.1)); replace HK := Aside0.mk (KeepBut.trans (z82_2 HK) hk (.inl rfl)); replace HB := Aside0.mk (hb); replace HI0 := Aside0.mk (hi); (try clear hb); (try clear hb2); (try clear hk); (try clear hi)) | ((with_reducible refine gate_dst (N := 25) rfl ?_); refine Kd.R_lit k51 _ 51 ?hg (N := 25) ?hd (xs := ([(⟨t249, t250, t251, t252⟩ : S51)] : List (S51))) (inner := [.int .i64 t249, .int .i64 t250, .int .i64 t251, .int .i64 t252]) (ok := fun _ => True) (okp := fun _ => True) ?hr ?hp (fun _ hk => hk) trivial (Below.refl _ _) (Nat.le_refl _) (by simp) ?_; (case hd => rfl); (case hg => rfl); (case hr => first | (go_simp; done) | (go_simp; rfl)); (case hp => exact (Reps.c4 (show Kd.M k51 _ _ _ (⟨t249, t250, t251, t252⟩ : S51) [.int .i64 t249, .int .i64 t250, .int .i64 t251, .int .i64 t252] from (k51_mkM _ _ _ (⟨t249, t250, t251, t252⟩ : S51) )) (Reps.none _ _))); intro v256 w14 ho15 hb hg_ hnew_; clear hg_ hnew_; (first | rw [← Ny255.out] at ho15 | (simp only [Int.reduceToNat] at ho15; rw [← Ny255.out] at ho15)); have HO257 := Aside0.mk (Kd.R_lower (Kd.R_new' ho15 (Kd.R_lt (zq3 HO_5))) (keep_size (w := w) (g := g) (row := none) (z82_2 HK))); replace HO_5 := Aside0.mk (Kd.R_elder' (zq3 HO_5) (Kd.R_base ho15) hb); replace HI0 := Aside0.mk (IsS67.below (z82_0 HI0) hb); replace HK := Aside0.mk (KeepBut.trans (z82_2 HK) (KeepBut.of_below hb g none) (.inl rfl)); replace HB := Aside0.mk (below_step (z82_1 HB) hb); clear hb ho15; obtain ⟨Ao16, co16, eo16⟩ := Kd.R_slice HO_5.out; subst eo16; obtain ⟨Ao17, co17, eo17⟩ := Kd.R_slice HO257.out; subst eo17) | ((with_reducible refine gate_callee (f := 55) rfl ?_); refine goesL_ (some 26) rfl rfl Try.func55 (by kernel_rfl) rfl #[.slice Ao16 x5_2.length co16, .slice Ao17 y255.length co17] rfl zq6 ?_; (with_reducible refine (spec_poAdd.calls k2 _ _ x5_2 _ _ y255 t258 true _ ?side1 ?side2 ?side3 ?side4 A11.out).mono ?_); (case side1 => repeat (first | exact (Kd.R_reads' HO_5.out).2.2 | (with_reducible refine Kd.C_alloc ?_ _) | (with_reducible refine Kd.C_drewN ?_ _) | (with_reducible refine Kd.C_drew ?_))); (case side2 => exact (Kd.R_reads' HO_5.out).2.1); (case side3 => repeat (first | exact (Kd.R_reads' HO257.out).2.2 | (with_reducible refine Kd.C_alloc ?_ _) | (with_reducible refine Kd.C_drewN ?_ _) | (with_reducible refine Kd.C_drew ?_))); (case side4 => exact (Kd.R_reads' HO257.out).2.1); rintro e w18 ⟨v260, rfl, ho0, hb⟩; refine ⟨_, rfl, ?_⟩; have HO261 := Aside0.mk (Kd.R_lower (Kd.R_new' (Kd.R_new' ho0 (Kd.R_lt (zq3 HO_5))) (Kd.R_lt (zq3 HO257))) (keep_size (w := w) (g := g) (row := none) (z82_2 HK))); replace HO_5 := Aside0.mk (Kd.R_elder' (zq3 HO_5) (Kd.R_base ho0) hb); replace HO257 := Aside0.mk (Kd.R_elder' (zq3 HO257) (Kd.R_base ho0) hb); replace HI0 := Aside0.mk (IsS67.below (z82_0 HI0) hb); replace HK := Aside0.mk (KeepBut.trans (z82_2 HK) (KeepBut.of_below hb g none) (.inl rfl)); replace HB := Aside0.mk (below_step (z82_1 HB) hb); (try clear hb); (try clear hb2); (try clear hk); (try clear hi); (try clear ho0)))
       go_roundg k2
       case measure => have := HJ4.out; have := HK2.out; omega
       case rel => exact ⟨(t258), (wrap64 (x7_2 + 1)), (t253), (t254), (by first | rfl | (simp; done) | (simp [*]; done)), H', ⟨by have := HJ4.out; have := HK2.out; omega⟩, ⟨by (with_reducible repeat (first | apply Kd.R_alloc | apply Kd.R_drewN | apply Kd.R_drew)); exact Kd.R_mono HO261.out (fun _ hk => trivial)⟩, ⟨(z82_0 HI0)⟩, ⟨(z82_2 HK)⟩, ⟨(z82_1 HB)⟩⟩
      ·
       replace c12 := Bool.eq_false_iff.mpr c12
       subst c12
       have H1 : (spec_l1Cur_poly.l0 k2 a1 x5_2 x6_4 (wrap64 (x7_2 + 1)) s0_0 t253 t254) = some (r1, r2, r3) := by rw [if_neg (show ¬ (false = true) by decide)] at H; exact H
       clear H
       have H := H1
       clear H1
       have H' := Aside0.mk H
       clear H
       go_wp2_with (first | ((with_reducible refine gate_callee (f := 63) rfl ?_); refine goesL_ (some 24) rfl rfl Try.func63 (by kernel_rfl) rfl #[.pointer (some ⟨g, 0, none⟩), .int .i64 a1] rfl zq6 ?_; (with_reducible refine (spec_l1Cur_term.calls k2 g s0_0 x1001_2 x1002_2 a1 t249 t250 t251 t252 t253 t254 w0 _ ?side1 ?side2 A10.out).mono ?_); (case side1 => exact z82_0 HI0); (case side2 => exact z82_1 HB); rintro e w19 ⟨rfl, hi, hb, hk⟩; refine ⟨_, rfl, ?_⟩; replace HO_5 := Aside0.mk (Kd.R_mono (Kd.R_keep (IsS67.apart (show IsS67 w0 _ g s0_0 x1001_2 x1002_2 from (z82_0 HI0)) (zq3 HO_5) (by decide)) hk (fun _ h => h.2)) (fun _ h => h.1)); replace HK := Aside0.mk (KeepBut.trans (z82_2 HK) hk (.inl rfl)); replace HB := Aside0.mk (hb); replace HI0 := Aside0.mk (hi); (try clear hb); (try clear hb2); (try clear hk); (try clear hi)) | ((with_reducible refine gate_dst (N := 25) rfl ?_); refine Kd.R_lit k51 _ 51 ?hg (N := 25) ?hd (xs := ([(⟨t249, t250, t251, t252⟩ : S51)] : List (S51))) (inner := [.int .i64 t249, .int .i64 t250, .int .i64 t251, .int .i64 t252]) (ok := fun _ => True) (okp := fun _ => True) ?hr ?hp (fun _ hk => hk) trivial (Below.refl _ _) (Nat.le_refl _) (by simp) ?_; (case hd => rfl); (case hg => rfl); (case hr => first | (go_simp; done) | (go_simp; rfl)); (case hp => exact (Reps.c4 (show Kd.M k51 _ _ _ (⟨t249, t250, t251, t252⟩ : S51) [.int .i64 t249, .int .i64 t250, .int .i64 t251, .int .i64 t252] from (k51_mkM _ _ _ (⟨t249, t250, t251, t252⟩ : S51) )) (Reps.none _ _))); intro v256 w20 ho21 hb hg_ hnew_; clear hg_ hnew_; (first | rw [← Ny255.out] at ho21 | (simp only [Int.reduceToNat] at ho21; rw [← Ny255.out] at ho21)); have HO257 := Aside0.mk (Kd.R_lower (Kd.R_new' ho21 (Kd.R_lt (zq3 HO_5))) (keep_size (w := w) (g := g) (row := none) (z82_2 HK))); replace HO_5 := Aside0.mk (Kd.R_elder' (zq3 HO_5) (Kd.R_base ho21) hb); replace HI0 := Aside0.mk (IsS67.below (z82_0 HI0) hb); replace HK := Aside0.mk (KeepBut.trans (z82_2 HK) (KeepBut.of_below hb g none) (.inl rfl)); replace HB := Aside0.mk (below_step (z82_1 HB) hb); clear hb ho21; obtain ⟨Ao22, co22, eo22⟩ := Kd.R_slice HO_5.out; subst eo22; obtain ⟨Ao23, co23, eo23⟩ := Kd.R_slice HO257.out; subst eo23) | ((with_reducible refine gate_callee (f := 55) rfl ?_); refine goesL_ (some 26) rfl rfl Try.func55 (by kernel_rfl) rfl #[.slice Ao22 x5_2.length co22, .slice Ao23 y255.length co23] rfl zq6 ?_; (with_reducible refine (spec_poAdd.calls k2 _ _ x5_2 _ _ y255 t258 false _ ?side1 ?side2 ?side3 ?side4 A11.out).mono ?_); (case side1 => repeat (first | exact (Kd.R_reads' HO_5.out).2.2 | (with_reducible refine Kd.C_alloc ?_ _) | (with_reducible refine Kd.C_drewN ?_ _) | (with_reducible refine Kd.C_drew ?_))); (case side2 => exact (Kd.R_reads' HO_5.out).2.1); (case side3 => repeat (first | exact (Kd.R_reads' HO257.out).2.2 | (with_reducible refine Kd.C_alloc ?_ _) | (with_reducible refine Kd.C_drewN ?_ _) | (with_reducible refine Kd.C_drew ?_))); (case side4 => exact (Kd.R_reads' HO257.out).2.1); rintro e w24 ⟨v260, rfl, ho0, hb⟩; refine ⟨_, rfl, ?_⟩; have HO261 := Aside0.mk (Kd.R_lower (Kd.R_new' (Kd.R_new' ho0 (Kd.R_lt (zq3 HO_5))) (Kd.R_lt (zq3 HO257))) (keep_size (w := w) (g := g) (row := none) (z82_2 HK))); replace HO_5 := Aside0.mk (Kd.R_elder' (zq3 HO_5) (Kd.R_base ho0) hb); replace HO257 := Aside0.mk (Kd.R_elder' (zq3 HO257) (Kd.R_base ho0) hb); replace HI0 := Aside0.mk (IsS67.below (z82_0 HI0) hb); replace HK := Aside0.mk (KeepBut.trans (z82_2 HK) (KeepBut.of_below hb g none) (.inl rfl)); replace HB := Aside0.mk (below_step (z82_1 HB) hb); (try clear hb); (try clear hb2); (try clear hk); (try clear hi); (try clear ho0)))
       go_roundg k2
       case measure => have := HJ4.out; have := HK2.out; omega
       case rel => exact ⟨(x5_2), (wrap64 (x7_2 + 1)), (t253), (t254), (by first | rfl | (simp; done) | (simp [*]; done)), H', ⟨by have := HJ4.out; have := HK2.out; omega⟩, ⟨by (with_reducible repeat (first | apply Kd.R_alloc | apply Kd.R_drewN | apply Kd.R_drew)); exact Kd.R_mono HO_5.out (fun _ hk => trivial)⟩, ⟨(z82_0 HI0)⟩, ⟨(z82_2 HK)⟩, ⟨(z82_1 HB)⟩⟩
     ·
      rw [if_neg c9] at H
      have c9b0 : decide (x7_2 < x6_4) = false := decide_eq_false c9
      clear c9
      replace H := Option.bind_eq_some_iff.mp H
      obtain ⟨⟨t246, t247, t248⟩, A250, H⟩ := H
      replace H : (if t246 = true then (some (([] : List (S51)), t247, t248)) else (some (x5_2, t247, t248))) = some (r1, r2, r3) := H
      have A25 := Aside0.mk A250
      clear A250
      by_cases c26 : t246 = true
      ·
       subst c26
       have H1 : (some (([] : List (S51)), t247, t248)) = some (r1, r2, r3) := by rw [if_pos rfl] at H; exact H
       clear H
       have H := H1
       clear H1
       simp only [Option.some.injEq, Prod.mk.injEq] at H
       obtain ⟨rfl, rfl, rfl⟩ := H
       go_wp2_with (first | ((with_reducible refine gate_callee (f := 52) rfl ?_); refine goesL_ (some 32) rfl rfl Try.func52 (by kernel_rfl) rfl #[.pointer (some ⟨g, 0, none⟩), .int .i64 24] rfl zq6 ?_; (with_reducible refine (spec_l1Cur_one.calls g s0_0 x1001_2 x1002_2 24 true t247 t248 w0 _ ?side1 ?side2 A25.out).mono ?_); (case side1 => exact z82_0 HI0); (case side2 => exact z82_1 HB); rintro e w27 ⟨rfl, hi, hb, hk⟩; refine ⟨_, rfl, ?_⟩; replace HO_5 := Aside0.mk (Kd.R_mono (Kd.R_keep (IsS67.apart (show IsS67 w0 _ g s0_0 x1001_2 x1002_2 from (z82_0 HI0)) (zq3 HO_5) (by decide)) hk (fun _ h => h.2)) (fun _ h => h.1)); replace HK := Aside0.mk (KeepBut.trans (z82_2 HK) hk (.inl rfl)); replace HB := Aside0.mk (hb); replace HI0 := Aside0.mk (hi); (try clear hb); (try clear hb2); (try clear hk); (try clear hi)))
       go_ret
       exact ⟨_, by first | rfl | (simp [errW_none, errW_some] <;> rfl) | (simp [*, errW_none, errW_some] <;> rfl), by first | exact Kd.R_nil _ _ _ _ _ | exact Kd.N_nil _ _ _ _ _ | exact Kd.V_nil _ _ _ _ _ | exact Kd.Q_nil _ _ _ _ _ | exact Kd.S_nil _ _ _ _ _, (z82_0 HI0), (z82_1 HB), (z82_2 HK)⟩
      ·
       replace c26 := Bool.eq_false_iff.mpr c26
       subst c26
       have H1 : (some (x5_2, t247, t248)) = some (r1, r2, r3) := by rw [if_neg (show ¬ (false = true) by decide)] at H; exact H
       clear H
       have H := H1
       clear H1
       simp only [Option.some.injEq, Prod.mk.injEq] at H
       obtain ⟨rfl, rfl, rfl⟩ := H
       go_wp2_with (first | ((with_reducible refine gate_callee (f := 52) rfl ?_); refine goesL_ (some 32) rfl rfl Try.func52 (by kernel_rfl) rfl #[.pointer (some ⟨g, 0, none⟩), .int .i64 24] rfl zq6 ?_; (with_reducible refine (spec_l1Cur_one.calls g s0_0 x1001_2 x1002_2 24 false t247 t248 w0 _ ?side1 ?side2 A25.out).mono ?_); (case side1 => exact z82_0 HI0); (case side2 => exact z82_1 HB); rintro e w28 ⟨rfl, hi, hb, hk⟩; refine ⟨_, rfl, ?_⟩; replace HO_5 := Aside0.mk (Kd.R_mono (Kd.R_keep (IsS67.apart (show IsS67 w0 _ g s0_0 x1001_2 x1002_2 from (z82_0 HI0)) (zq3 HO_5) (by decide)) hk (fun _ h => h.2)) (fun _ h => h.1)); replace HK := Aside0.mk (KeepBut.trans (z82_2 HK) hk (.inl rfl)); replace HB := Aside0.mk (hb); replace HI0 := Aside0.mk (hi); (try clear hb); (try clear hb2); (try clear hk); (try clear hi)))
       go_ret
       exact ⟨_, by first | rfl | (simp [errW_none, errW_some] <;> rfl) | (simp [*, errW_none, errW_some] <;> rfl), by (with_reducible repeat (first | apply Kd.R_alloc | apply Kd.R_drewN | apply Kd.R_drew)); exact HO_5.out, (z82_0 HI0), (z82_1 HB), (z82_2 HK)⟩
end Go.Proofs.Ythanmlojikidbaa.PD
