-- By wip/mk/drv.py
import Derived.Test.YthanmlojikidbaaGreatQUnknnsPDx0
import Derived.Test.YthanmlojikidbaaGreatQUnknnsPDx5
namespace Go.Proofs.YthanmlojikidbaaGreat.PD
open Go.RowKit Go.Proofs.YthanmlojikidbaaGreatW.PrintWords Go.Proofs.YthanmlojikidbaaGreatW.PrintLast Go.Proofs.YthanmlojikidbaaGreatW.PrintMore
attribute [local go_sem] max2_int min2_int max_two min_two max_three min_three max_four min_four
set_option linter.unusedVariables false
set_option linter.unusedSimpArgs false
/-! ### spec_poDegreeIn: function 55 -/
set_option maxHeartbeats 8000000 in
set_option maxRecDepth 100000 in
theorem spec_poDegreeIn.calls (k : Nat) (A0 : Option Addr) (c0 : Nat) (l0 : List (S62)) (a1 : Int) (r : Int) (w : World) (hr0 : Kd.C k62 w A0 l0.length l0) (hc0 : l0.length ≤ c0) (h : spec_poDegreeIn.f k l0 a1 = some r) :
  Calls Tryz.prog 55 #[.slice A0 l0.length c0, .int .i64 a1] w fun e w' => e = .returned (.int .i64 r) ∧ Below w.heap.size w w' := by
 have hu62 := Tryz.underlying62
 have HR0 := qa hr0
 have HC0 := qa hc0
 clear hr0 hc0
 have HB := qa (Below.refl w.heap.size w)
 have H : (spec_poDegreeIn.l0 k a1 (-1) l0 (l0.length : Int) 0) = some r := h
 clear h
 have H' := qa H
 clear H
 go_enter Tryz.func55, Tryz.ntmps55
 go_wp2
 go_loopg [5, 10] k (fun kq v5 v10 w' => ∃ (x5_1 : Int) (x10_1 : Int), v5 = .int .i64 x5_1 ∧ v10 = .int .i64 x10_1 ∧ Aside0 (spec_poDegreeIn.l0 kq a1 x5_1 l0 (l0.length : Int) x10_1 = some r) ∧ Aside0 (kq ≤ k) ∧ Aside0 (Below w.heap.size w w'))
 case atStart => exact ⟨((-1)), (0), qf, qf, H', ⟨Nat.le_refl _⟩, ⟨(zb0 HB)⟩⟩
 case round =>
  clear H'
  try clear p2
  obtain ⟨x5_1, x10_1, rfl, rfl, HA, HK1, HB⟩ := hrel
  cases gk with
  | zero => exact absurd HA.out (by simp [spec_poDegreeIn.l0])
  | succ k1 =>
   have H := HA.out
   clear HA
   simp only [spec_poDegreeIn.l0] at H
   by_cases c3 : x10_1 < (l0.length : Int)
   ·
    rw [if_pos c3] at H
    have c3b0 := decide_eq_true c3
    clear c3
    by_cases c4 : 0 ≤ x10_1
    ·
     rw [if_pos c4] at H
     have c4b0 := decide_eq_true c4
     clear c4
     by_cases c5 : x10_1 < (l0.length : Int)
     ·
      rw [if_pos c5] at H
      have c5b0 := decide_eq_true c5
      clear c5
      replace H := qo H
      obtain ⟨t549, A6, H⟩ := H
      replace H : ((spec_l1Most.f x5_1 t549).bind fun t550 => (spec_poDegreeIn.l0 k1 a1 t550 l0 (l0.length : Int) (wrap64 (x10_1 + 1)))) = some r := H
      replace H := qo H
      obtain ⟨t550, A7, H⟩ := H
      replace H : (spec_poDegreeIn.l0 k1 a1 t550 l0 (l0.length : Int) (wrap64 (x10_1 + 1))) = some r := H
      have H' := qa H
      clear H
      have p547 : 0 ≤ (x10_1 : Int) := qd
      have q547 : x10_1 < (l0.length : Int) := qd
      obtain ⟨ad547, e547, hx547_0, hx547_1, hx547_2, hx547_3⟩ := at_T62 HR0.out x10_1 p547 q547
      cases e547
      replace hx547_0 := qb HB hx547_0
      replace hx547_1 := qb HB hx547_1
      replace hx547_2 := qb HB hx547_2
      replace hx547_3 := qb HB hx547_3
      replace p547 := eq_true p547
      replace q547 := eq_true q547
      go_wp2_with (first | ((with_reducible refine gate_dst (N := 7) rfl ?_); refine zbe (N := 7) (cs := #[.int .i64 0, .int .i64 0, .int .i64 0, .int .i64 0]) (t := 62) ?_; intro gb548 hg w8 hbox hb; have BK548 := qa (hbox); have GW548 := qa (zge (zb0 HB) hg); have GE548 := GW548; replace HB := qa (below_step (zb0 HB) hb); clear hb hbox hg; obtain ⟨hcz9_0, hcz9_1, hcz9_2, hcz9_3⟩ := qc4 BK548; obtain ⟨hfz9_0, hfz9_1, hfz9_2, hfz9_3⟩ := qz4 BK548) | ((with_reducible refine gate_callee (f := 50) rfl ?_); refine qg 17 Tryz.func50 #[.agg #[.int .i64 ((rd_T62 l0 x10_1).f0), .int .i64 ((rd_T62 l0 x10_1).f1), .int .i64 ((rd_T62 l0 x10_1).f2), .int .i64 ((rd_T62 l0 x10_1).f3)], .int .i64 a1] ?_; (with_reducible refine (spec_poPower.calls ((rd_T62 l0 x10_1).f0) ((rd_T62 l0 x10_1).f1) ((rd_T62 l0 x10_1).f2) ((rd_T62 l0 x10_1).f3) a1 t549 _ A6.out).mono ?_); rintro e w10 ⟨rfl, hb⟩; refine ⟨_, rfl, ?_⟩; replace BK548 := qa (blk_below (g := gb548) (o := .cells #[.int .i64 ((rd_T62 l0 x10_1).f0), .int .i64 ((rd_T62 l0 x10_1).f1), .int .i64 ((rd_T62 l0 x10_1).f2), .int .i64 ((rd_T62 l0 x10_1).f3)] 62 (0, 0)) (qs BK548) hb); replace HB := qa (below_step (zb1 HB) hb); (try clear hb); (try clear hb2); (try clear hk); (try clear hi)) | ((with_reducible refine gate_callee (f := 76) rfl ?_); refine qg 18 Tryz.func76 #[.int .i64 x5_1, .int .i64 t549] ?_; (with_reducible refine (spec_l1Most.calls x5_1 t549 t550 _ A7.out).mono ?_); rintro e w' ⟨rfl, ⟨nd, rfl⟩⟩; refine ⟨_, rfl, ?_⟩))
      go_roundg k1
      case measure => have := HK1.out; omega
      case rel => exact ⟨(t550), (wrap64 (x10_1 + 1)), qf, qf, H', ⟨by have := HK1.out; omega⟩, ⟨(zb1 HB)⟩⟩
     ·
      rw [if_neg c5] at H
      exact absurd H (by simp)
    ·
     rw [if_neg c4] at H
     exact absurd H (by simp)
   ·
    rw [if_neg c3] at H
    have c3b0 := decide_eq_false c3
    clear c3
    obtain rfl := Option.some.inj H
    go_wp2
    go_ret
    exact ⟨by first | rfl | (simp [errW_none, errW_some] <;> rfl) | (simp [*, errW_none, errW_some] <;> rfl), (zb0 HB)⟩
/-! ### laws_sameInts: function 17 -/
set_option maxHeartbeats 8000000 in
set_option maxRecDepth 100000 in
theorem laws_sameInts.calls (k : Nat) (A0 : Option Addr) (c0 : Nat) (l0 : List Int) (A1 : Option Addr) (c1 : Nat) (l1 : List Int) (r : Bool) (w : World) (hr0 : Kd.C (Kd.int .i64) w A0 l0.length l0) (hc0 : l0.length ≤ c0) (hr1 : Kd.C (Kd.int .i64) w A1 l1.length l1) (hc1 : l1.length ≤ c1) (h : laws_sameInts.f k l0 l1 = some r) :
  Calls Tryz.prog 17 #[.slice A0 l0.length c0, .slice A1 l1.length c1] w fun e w' => e = .returned (.bool r) ∧ Drawn0 w w' := by
 have HR0 := qa hr0
 have HC0 := qa hc0
 clear hr0 hc0
 have HR1 := qa hr1
 have HC1 := qa hc1
 clear hr1 hc1
 have H : (if (l0.length : Int) = (l1.length : Int) then (laws_sameInts.l0 k l0 l1 (l0.length : Int) 0) else (some false)) = some r := h
 clear h
 by_cases c3 : (l0.length : Int) = (l1.length : Int)
 ·
  rw [if_pos c3] at H
  have c3b0 : ((l0.length : Int) == (l1.length : Int)) = true := beq_iff_eq.mpr c3
  have c3b1 : ((l0.length : Int) != (l1.length : Int)) = false := bne_eq_false_iff_eq.mpr c3
  have c3b2 : (l0.length == l1.length) = true := by first | simpa using c3 | (simp at c3 ⊢; omega)
  clear c3
  have H' := qa H
  clear H
  go_enter Tryz.func17, Tryz.ntmps17
  go_wp2
  repeat (go_quiet (fail); try go_wp2)
  go_loopg [13] k (fun kq v13 w' => ∃ (x13_1 : Int), v13 = .int .i64 x13_1 ∧ Aside0 (laws_sameInts.l0 kq l0 l1 (l0.length : Int) x13_1 = some r) ∧ Aside0 (kq ≤ k) ∧ Drawn0 w w')
  case atStart => exact ⟨(0), qf, H', ⟨Nat.le_refl _⟩, by repeat (first | exact Drawn0.refl _ | apply Drawn0.step)⟩
  case round =>
   clear H'
   try clear c1
   try clear p2
   try clear c3
   try clear c3b0
   try clear c3b1
   try clear c3b2
   obtain ⟨x13_1, rfl, HA, HK1, ⟨m1, rfl⟩⟩ := hrel
   cases gk with
   | zero => exact absurd HA.out (by simp [laws_sameInts.l0])
   | succ k1 =>
    have H := HA.out
    clear HA
    simp only [laws_sameInts.l0] at H
    by_cases c4 : x13_1 < (l0.length : Int)
    ·
     rw [if_pos c4] at H
     have c4b0 := decide_eq_true c4
     clear c4
     by_cases c5 : 0 ≤ x13_1
     ·
      rw [if_pos c5] at H
      have c5b0 := decide_eq_true c5
      clear c5
      by_cases c6 : x13_1 < (l0.length : Int)
      ·
       rw [if_pos c6] at H
       have c6b0 := decide_eq_true c6
       clear c6
       by_cases c7 : x13_1 < (l1.length : Int)
       ·
        rw [if_pos c7] at H
        have c7b0 := decide_eq_true c7
        clear c7
        by_cases c8 : (rd l0 x13_1) = (rd l1 x13_1)
        ·
         rw [if_pos c8] at H
         have c8b0 : ((rd l0 x13_1) == (rd l1 x13_1)) = true := beq_iff_eq.mpr c8
         have c8b1 : ((rd l0 x13_1) != (rd l1 x13_1)) = false := bne_eq_false_iff_eq.mpr c8
         clear c8
         have H' := qa H
         clear H
         have p556 : 0 ≤ (x13_1 : Int) := qd
         have q556 : x13_1 < (l0.length : Int) := qd
         obtain ⟨ad556, e556, hx556_0⟩ := Kd.at_int HR0.out x13_1 p556 q556
         cases e556
         replace p556 := eq_true p556
         replace q556 := eq_true q556
         have p557 : 0 ≤ (x13_1 : Int) := qd
         have q557 : x13_1 < (l1.length : Int) := qd
         obtain ⟨ad557, e557, hx557_0⟩ := Kd.at_int HR1.out x13_1 p557 q557
         cases e557
         replace p557 := eq_true p557
         replace q557 := eq_true q557
         go_wp2
         repeat (go_quiet (fail); try go_wp2)
         go_roundg k1
         case measure => have := HK1.out; omega
         case rel => exact ⟨(wrap64 (x13_1 + 1)), qf, H', ⟨by have := HK1.out; omega⟩, by repeat (first | exact Drawn0.refl _ | apply Drawn0.step)⟩
        ·
         rw [if_neg c8] at H
         have c8b0 : ((rd l0 x13_1) == (rd l1 x13_1)) = false := beq_eq_false_iff_ne.mpr c8
         have c8b1 : ((rd l0 x13_1) != (rd l1 x13_1)) = true := bne_iff_ne.mpr c8
         obtain rfl := Option.some.inj H
         have p556 : 0 ≤ (x13_1 : Int) := qd
         have q556 : x13_1 < (l0.length : Int) := qd
         obtain ⟨ad556, e556, hx556_0⟩ := Kd.at_int HR0.out x13_1 p556 q556
         cases e556
         replace p556 := eq_true p556
         replace q556 := eq_true q556
         have p557 : 0 ≤ (x13_1 : Int) := qd
         have q557 : x13_1 < (l1.length : Int) := qd
         obtain ⟨ad557, e557, hx557_0⟩ := Kd.at_int HR1.out x13_1 p557 q557
         cases e557
         replace p557 := eq_true p557
         replace q557 := eq_true q557
         go_wp2
         repeat (go_quiet (fail); try go_wp2)
         go_ret
         exact ⟨qf, by repeat (first | exact Drawn0.refl _ | apply Drawn0.step)⟩
       ·
        rw [if_neg c7] at H
        exact absurd H (by simp)
      ·
       rw [if_neg c6] at H
       exact absurd H (by simp)
     ·
      rw [if_neg c5] at H
      exact absurd H (by simp)
    ·
     rw [if_neg c4] at H
     have c4b0 := decide_eq_false c4
     clear c4
     obtain rfl := Option.some.inj H
     go_wp2
     repeat (go_quiet (fail); try go_wp2)
     go_ret
     exact ⟨qf, by repeat (first | exact Drawn0.refl _ | apply Drawn0.step)⟩
 ·
  rw [if_neg c3] at H
  have c3b0 : ((l0.length : Int) == (l1.length : Int)) = false := beq_eq_false_iff_ne.mpr c3
  have c3b1 : ((l0.length : Int) != (l1.length : Int)) = true := bne_iff_ne.mpr c3
  have c3b2 : (l0.length == l1.length) = false := by first | simpa using c3 | (simp at c3 ⊢; omega)
  obtain rfl := Option.some.inj H
  go_enter Tryz.func17, Tryz.ntmps17
  go_wp2
  repeat (go_quiet (fail); try go_wp2)
  go_ret
  exact ⟨qf, by repeat (first | exact Drawn0.refl _ | apply Drawn0.step)⟩
/-! ### laws_pIn: function 18 -/
set_option maxHeartbeats 8000000 in
set_option maxRecDepth 100000 in
theorem laws_pIn.calls (k : Nat) (A0 : Option Addr) (c0 : Nat) (l0 : List Int) (a1 : Int) (r : Bool) (w : World) (hr0 : Kd.C (Kd.int .i64) w A0 l0.length l0) (hc0 : l0.length ≤ c0) (h : laws_pIn.f k l0 a1 = some r) :
  Calls Tryz.prog 18 #[.slice A0 l0.length c0, .int .i64 a1] w fun e w' => e = .returned (.bool r) ∧ Drawn0 w w' := by
 have HR0 := qa hr0
 have HC0 := qa hc0
 clear hr0 hc0
 have H : (laws_pIn.l0 k a1 l0 (l0.length : Int) 0) = some r := h
 clear h
 have H' := qa H
 clear H
 go_enter Tryz.func18, Tryz.ntmps18
 go_wp2
 go_loopg [9] k (fun kq v9 w' => ∃ (x9_1 : Int), v9 = .int .i64 x9_1 ∧ Aside0 (laws_pIn.l0 kq a1 l0 (l0.length : Int) x9_1 = some r) ∧ Aside0 (kq ≤ k) ∧ Drawn0 w w')
 case atStart => exact ⟨(0), qf, H', ⟨Nat.le_refl _⟩, by repeat (first | exact Drawn0.refl _ | apply Drawn0.step)⟩
 case round =>
  clear H'
  try clear c1
  try clear p2
  obtain ⟨x9_1, rfl, HA, HK1, ⟨m1, rfl⟩⟩ := hrel
  cases gk with
  | zero => exact absurd HA.out (by simp [laws_pIn.l0])
  | succ k1 =>
   have H := HA.out
   clear HA
   simp only [laws_pIn.l0] at H
   by_cases c3 : x9_1 < (l0.length : Int)
   ·
    rw [if_pos c3] at H
    have c3b0 := decide_eq_true c3
    clear c3
    by_cases c4 : 0 ≤ x9_1
    ·
     rw [if_pos c4] at H
     have c4b0 := decide_eq_true c4
     clear c4
     by_cases c5 : x9_1 < (l0.length : Int)
     ·
      rw [if_pos c5] at H
      have c5b0 := decide_eq_true c5
      clear c5
      by_cases c6 : (rd l0 x9_1) = a1
      ·
       rw [if_pos c6] at H
       have c6b0 : ((rd l0 x9_1) == a1) = true := beq_iff_eq.mpr c6
       have c6b1 : ((rd l0 x9_1) != a1) = false := bne_eq_false_iff_eq.mpr c6
       clear c6
       obtain rfl := Option.some.inj H
       have p558 : 0 ≤ (x9_1 : Int) := qd
       have q558 : x9_1 < (l0.length : Int) := qd
       obtain ⟨ad558, e558, hx558_0⟩ := Kd.at_int HR0.out x9_1 p558 q558
       cases e558
       replace p558 := eq_true p558
       replace q558 := eq_true q558
       go_wp2
       go_ret
       exact ⟨qf, by repeat (first | exact Drawn0.refl _ | apply Drawn0.step)⟩
      ·
       rw [if_neg c6] at H
       have c6b0 : ((rd l0 x9_1) == a1) = false := beq_eq_false_iff_ne.mpr c6
       have c6b1 : ((rd l0 x9_1) != a1) = true := bne_iff_ne.mpr c6
       have H' := qa H
       clear H
       have p558 : 0 ≤ (x9_1 : Int) := qd
       have q558 : x9_1 < (l0.length : Int) := qd
       obtain ⟨ad558, e558, hx558_0⟩ := Kd.at_int HR0.out x9_1 p558 q558
       cases e558
       replace p558 := eq_true p558
       replace q558 := eq_true q558
       go_wp2
       go_roundg k1
       case measure => have := HK1.out; omega
       case rel => exact ⟨(wrap64 (x9_1 + 1)), qf, H', ⟨by have := HK1.out; omega⟩, by repeat (first | exact Drawn0.refl _ | apply Drawn0.step)⟩
     ·
      rw [if_neg c5] at H
      exact absurd H (by simp)
    ·
     rw [if_neg c4] at H
     exact absurd H (by simp)
   ·
    rw [if_neg c3] at H
    have c3b0 := decide_eq_false c3
    clear c3
    obtain rfl := Option.some.inj H
    go_wp2
    go_ret
    exact ⟨qf, by repeat (first | exact Drawn0.refl _ | apply Drawn0.step)⟩
/-! ### impl_needsAtMost: function 79 -/
-- PROOF
set_option maxHeartbeats 8000000 in
set_option maxRecDepth 100000 in
theorem impl_needsAtMost.exps (c x y z : Int) (w : World) : Calls Tryz.prog 34 #[.agg #[.int .i64 c, .int .i64 x, .int .i64 y, .int .i64 z]] w fun e w' => e = .returned (.agg #[.int .i64 x, .int .i64 y, .int .i64 z]) ∧ Below w.heap.size w w' := by
 have hu55 := Tryz.underlying62
 have HB := qa (Below.refl w.heap.size w)
 go_enter Tryz.func34, Tryz.ntmps34
 go_wp2_with (first | ((with_reducible refine gate_dst (N := 1) rfl ?_); refine zbe (N := 1) (cs := #[.int .i64 c, .int .i64 x, .int .i64 y, .int .i64 z]) (t := 62) ?_; intro gb1 hg w1 hbox hb; have BK1 := qa hbox; have GW1 := qa (zge (zb0 HB) hg); replace HB := qa (below_step (zb0 HB) hb); clear hb hbox hg) | ((with_reducible refine gate_dst (N := 2) rfl ?_); refine zbe (N := 2) (cs := #[.int .i64 0, .int .i64 0, .int .i64 0]) (t := 63) ?_; intro gb2 hg w2 hbox hb; have BK2 := qa hbox; have GW2 := qa (zge (zb0 HB) hg); replace BK1 := qa (zbb BK1 hb); replace HB := qa (below_step (zb0 HB) hb); clear hb hbox hg; have hc1 : w2.cell? ⟨gb1, 1, none⟩ = some (.int .i64 x) := zc BK1 1; have hc2 : w2.cell? ⟨gb1, 2, none⟩ = some (.int .i64 y) := zc BK1 2; have hc3 : w2.cell? ⟨gb1, 3, none⟩ = some (.int .i64 z) := zc BK1 3; have hd0 : w2.cell? ⟨gb2, 0, none⟩ = some (.int .i64 0) := zc BK2 0; have hd1 : w2.cell? ⟨gb2, 1, none⟩ = some (.int .i64 0) := zc BK2 1; have hd2 : w2.cell? ⟨gb2, 2, none⟩ = some (.int .i64 0) := zc BK2 2; have hf0 := blk_frozen BK2.out 0; have hf1 := blk_frozen BK2.out 1; have hf2 := blk_frozen BK2.out 2))
 refine bodyPost_ret (results_cell_row rfl _ _ gb2 63 #[.int .i64 x, .int .i64 y, .int .i64 z] (0, 0) _ rfl (qs BK2) Tryz.underlying63 rfl (by kernel_rfl)) rfl ?_
 exact ⟨qf, (zb1 HB)⟩
theorem impl_needsAtMost.ix0 (x y z : Int) (w : World) : (Instr.index 63 (.agg #[.int .i64 x, .int .i64 y, .int .i64 z]) (.int .i64 0)).run Tryz.prog w = .ok (.int .i64 x) w := by
 have hA := Tryz.underlying63
 simp only [Instr.index]
 go_simp
theorem impl_needsAtMost.ix1 (x y z : Int) (w : World) : (Instr.index 63 (.agg #[.int .i64 x, .int .i64 y, .int .i64 z]) (.int .i64 1)).run Tryz.prog w = .ok (.int .i64 y) w := by
 have hA := Tryz.underlying63
 simp only [Instr.index]
 go_simp
theorem impl_needsAtMost.ix2 (x y z : Int) (w : World) : (Instr.index 63 (.agg #[.int .i64 x, .int .i64 y, .int .i64 z]) (.int .i64 2)).run Tryz.prog w = .ok (.int .i64 z) w := by
 have hA := Tryz.underlying63
 simp only [Instr.index]
 go_simp
set_option maxHeartbeats 8000000 in
set_option maxRecDepth 100000 in
theorem impl_needsAtMost.calls (k : Nat) (A0 : Option Addr) (c0 : Nat) (l0 : List (S62)) (a1 : Int) (r : Bool) (w : World) (hr0 : Kd.C k62 w A0 l0.length l0) (hc0 : l0.length ≤ c0) (h : impl_needsAtMost.f k l0 a1 = some r) :
  Calls Tryz.prog 79 #[.slice A0 l0.length c0, .int .i64 a1] w fun e w' => e = .returned (.bool r) ∧ Below w.heap.size w w' := by
 have hu55 := Tryz.underlying62
 have HR0 := qa hr0
 have HC0 := qa hc0
 have HB := qa (Below.refl w.heap.size w)
 have H' := qa h
 clear hr0 hc0 h
 unfold impl_needsAtMost.f at H'
 go_enter Tryz.func79, Tryz.ntmps79
 go_wp2
 go_loopg [11] k (fun kq v11 w' => ∃ (i : Int), v11 = .int .i64 i ∧ Aside0 (impl_needsAtMost.l0 kq l0 a1 i = some r) ∧ Aside0 (kq ≤ k) ∧ Aside0 (Below w.heap.size w w'))
 case atStart => exact ⟨0, qf, H', ⟨Nat.le_refl _⟩, ⟨(zb0 HB)⟩⟩
 case round =>
  clear H' HB
  obtain ⟨i, rfl, HA, HK1, HB⟩ := hrel
  cases gk with
  | zero => exact absurd HA.out (by simp [impl_needsAtMost.l0])
  | succ k1 =>
   have H := HA.out
   clear HA
   simp only [impl_needsAtMost.l0] at H
   by_cases c : i < (l0.length : Int)
   ·
    rw [if_pos c] at H
    by_cases c' : 0 ≤ i
    ·
     rw [if_pos c'] at H
     have H' := qa H
     clear H
     have cb := decide_eq_true c
     have cb' := decide_eq_true c'
     obtain ⟨ad, ead, hx0, hx1, hx2, hx3⟩ := at_T62 HR0.out i c' c
     subst ead
     replace hx0 := qb HB hx0
     replace hx1 := qb HB hx1
     replace hx2 := qb HB hx2
     replace hx3 := qb HB hx3
     have hi0 := impl_needsAtMost.ix0
     have hi1 := impl_needsAtMost.ix1
     have hi2 := impl_needsAtMost.ix2
     have p1 := eq_true c
     have p2 := eq_true c'
     clear c c'
     go_wp2_with (first | ((with_reducible refine gate_dst (N := 6) rfl ?_); refine zbe (N := 6) (cs := #[.int .i64 0, .int .i64 0, .int .i64 0, .int .i64 0]) (t := 62) ?_; intro gb6 hg w8 hbox hb; have BK6 := qa hbox; have GW6 := qa (zge (zb0 HB) hg); replace HB := qa (below_step (zb0 HB) hb); clear hb hbox hg; have hcz0 : w8.cell? ⟨gb6, 0, none⟩ = some (.int .i64 0) := zc BK6 0; have hfz0 := blk_frozen BK6.out 0; have hcz1 : w8.cell? ⟨gb6, 1, none⟩ = some (.int .i64 0) := zc BK6 1; have hfz1 := blk_frozen BK6.out 1; have hcz2 : w8.cell? ⟨gb6, 2, none⟩ = some (.int .i64 0) := zc BK6 2; have hfz2 := blk_frozen BK6.out 2; have hcz3 : w8.cell? ⟨gb6, 3, none⟩ = some (.int .i64 0) := zc BK6 3; have hfz3 := blk_frozen BK6.out 3) | ((with_reducible refine gate_callee (f := 34) rfl ?_); refine qg 16 Tryz.func34 #[.agg #[.int .i64 (rd_T62 l0 i).f0, .int .i64 (rd_T62 l0 i).f1, .int .i64 (rd_T62 l0 i).f2, .int .i64 (rd_T62 l0 i).f3]] ?_; refine (impl_needsAtMost.exps (rd_T62 l0 i).f0 (rd_T62 l0 i).f1 (rd_T62 l0 i).f2 (rd_T62 l0 i).f3 _).mono ?_; rintro e w9 ⟨rfl, hb⟩; refine ⟨_, rfl, ?_⟩; replace HB := qa (below_step (zb1 HB) hb); clear hb))
     clear hx0 hx1 hx2 hx3
     go_loopg [17] k1 (fun kq v17 w' => ∃ (j : Int), v17 = .int .i64 j ∧ Aside0 (impl_needsAtMost.l1 kq l0 a1 i j = some r) ∧ Aside0 (kq ≤ k1) ∧ Aside0 (Below w.heap.size w w'))
     case atStart => exact ⟨0, qf, H', ⟨Nat.le_refl _⟩, ⟨(zb1 HB)⟩⟩
     case round =>
      clear H' HB
      obtain ⟨j, rfl, HA, HK2, HB⟩ := hrel
      cases gk with
      | zero => exact absurd HA.out (by simp [impl_needsAtMost.l1])
      | succ k2 =>
       have H := HA.out
       clear HA
       simp only [impl_needsAtMost.l1] at H
       by_cases c : j < 3
       ·
        rw [if_pos c] at H
        by_cases c' : 0 ≤ j
        ·
         rw [if_pos c'] at H
         have hcase : j = 0 ∨ j = 1 ∨ j = 2 := by omega
         clear c c'
         rcases hcase with rfl | rfl | rfl
         ·
          simp only [impl_needsAtMost.pw, if_true, if_false, Int.reduceEq, ↓reduceIte] at H
          split at H
          ·
           next c5 =>
           have c5b := decide_eq_true c5
           clear c5
           split at H
           ·
            next c6 =>
            have c6b := decide_eq_true c6
            clear c6
            obtain rfl := Option.some.inj H
            go_wp2
            go_ret
            exact ⟨qf, (zb1 HB)⟩
           ·
            next c6 =>
            have c6b := decide_eq_false c6
            have H' := qa H
            clear c6 H
            go_wp2
            go_roundg k2
            case measure => have := HK1.out; have := HK2.out; omega
            case rel => exact ⟨(wrap64 (0 + 1)), (by first | rfl | (simp; done) | (simp [*]; done) | (congr 1; unfold wrap64; omega)), H', ⟨by have := HK1.out; have := HK2.out; omega⟩, ⟨(zb1 HB)⟩⟩
          ·
           next c5 =>
           have c5b := decide_eq_false c5
           have H' := qa H
           clear c5 H
           go_wp2
           go_roundg k2
           case measure => have := HK1.out; have := HK2.out; omega
           case rel => exact ⟨(wrap64 (0 + 1)), (by first | rfl | (simp; done) | (simp [*]; done) | (congr 1; unfold wrap64; omega)), H', ⟨by have := HK1.out; have := HK2.out; omega⟩, ⟨(zb1 HB)⟩⟩
         ·
          simp only [impl_needsAtMost.pw, if_true, if_false, Int.reduceEq, ↓reduceIte] at H
          split at H
          ·
           next c5 =>
           have c5b := decide_eq_true c5
           clear c5
           split at H
           ·
            next c6 =>
            have c6b := decide_eq_true c6
            clear c6
            obtain rfl := Option.some.inj H
            go_wp2
            go_ret
            exact ⟨qf, (zb1 HB)⟩
           ·
            next c6 =>
            have c6b := decide_eq_false c6
            have H' := qa H
            clear c6 H
            go_wp2
            go_roundg k2
            case measure => have := HK1.out; have := HK2.out; omega
            case rel => exact ⟨(wrap64 (1 + 1)), (by first | rfl | (simp; done) | (simp [*]; done) | (congr 1; unfold wrap64; omega)), H', ⟨by have := HK1.out; have := HK2.out; omega⟩, ⟨(zb1 HB)⟩⟩
          ·
           next c5 =>
           have c5b := decide_eq_false c5
           have H' := qa H
           clear c5 H
           go_wp2
           go_roundg k2
           case measure => have := HK1.out; have := HK2.out; omega
           case rel => exact ⟨(wrap64 (1 + 1)), (by first | rfl | (simp; done) | (simp [*]; done) | (congr 1; unfold wrap64; omega)), H', ⟨by have := HK1.out; have := HK2.out; omega⟩, ⟨(zb1 HB)⟩⟩
         ·
          simp only [impl_needsAtMost.pw, if_true, if_false, Int.reduceEq, ↓reduceIte] at H
          split at H
          ·
           next c5 =>
           have c5b := decide_eq_true c5
           clear c5
           split at H
           ·
            next c6 =>
            have c6b := decide_eq_true c6
            clear c6
            obtain rfl := Option.some.inj H
            go_wp2
            go_ret
            exact ⟨qf, (zb1 HB)⟩
           ·
            next c6 =>
            have c6b := decide_eq_false c6
            have H' := qa H
            clear c6 H
            go_wp2
            go_roundg k2
            case measure => have := HK1.out; have := HK2.out; omega
            case rel => exact ⟨(wrap64 (2 + 1)), (by first | rfl | (simp; done) | (simp [*]; done) | (congr 1; unfold wrap64; omega)), H', ⟨by have := HK1.out; have := HK2.out; omega⟩, ⟨(zb1 HB)⟩⟩
          ·
           next c5 =>
           have c5b := decide_eq_false c5
           have H' := qa H
           clear c5 H
           go_wp2
           go_roundg k2
           case measure => have := HK1.out; have := HK2.out; omega
           case rel => exact ⟨(wrap64 (2 + 1)), (by first | rfl | (simp; done) | (simp [*]; done) | (congr 1; unfold wrap64; omega)), H', ⟨by have := HK1.out; have := HK2.out; omega⟩, ⟨(zb1 HB)⟩⟩
        ·
         rw [if_neg c'] at H; cases H
       ·
        rw [if_neg c] at H
        have cb := decide_eq_false c
        have H' := qa H
        clear c H
        go_wp2
        go_roundg k2
        case measure => have := HK1.out; have := HK2.out; omega
        case rel => exact ⟨(wrap64 (i + 1)), qf, H', ⟨by have := HK1.out; have := HK2.out; omega⟩, ⟨(zb1 HB)⟩⟩
    ·
     rw [if_neg c'] at H; cases H
   ·
    rw [if_neg c] at H
    obtain rfl := Option.some.inj H
    have cb := decide_eq_false c
    clear c
    go_wp2
    go_ret
    exact ⟨qf, (zb1 HB)⟩
/-! ### spec_poGood: function 38 -/
def spec_poGood.T4 : Bool × List (List Nat × List Nat) := (true, [([], []), ([0], [0]), ([1], [1]), ([2, 1], [2]), ([3], [3]), ([4, 3], [3, 4]), ([5, 3], [3, 5]), ([3, 6], [3, 6]), ([7, 3], [7]), ([8], [8]), ([9, 8], [8, 9]), ([10, 8, 8], [8, 10]), ([11], [11]), ([11], [11]), ([13, 11], [11, 13]), ([12, 14, 11], [11, 12, 14]), ([15, 11], [11, 15]), ([11], [11]), ([16, 17, 11, 11], [11, 16, 17]), ([18, 11], [11, 18]), ([11, 19, 8], [8, 11, 19]), ([8, 20], [8, 20])])
def spec_poGood.B4 : List Nat := [0, 1, 3, 7, 15, 31, 63, 127, 255, 511, 1023, 2047, 4095, 4095, 12287, 32767, 65535, 4095, 262143, 524287, 1048575, 2097151]
theorem spec_poGood.tab4 : rtab .any (opsOf Tryz.f38 4) = spec_poGood.T4 := by kernel_rfl
theorem spec_poGood.bits4 : waitsOk spec_poGood.T4.2 spec_poGood.B4 = true := by kernel_rfl
set_option maxHeartbeats 8000000 in
set_option maxRecDepth 100000 in
theorem spec_poGood.calls (k : Nat) (A0 : Option Addr) (c0 : Nat) (l0 : List (S62)) (r : Bool) (w : World) (hr0 : Kd.C k62 w A0 l0.length l0) (hc0 : l0.length ≤ c0) (h : spec_poGood.f k l0 = some r) :
  Calls Tryz.prog 38 #[.slice A0 l0.length c0] w fun e w' => e = .returned (.bool r) ∧ Below w.heap.size w w' := by
 have hu62 := Tryz.underlying62
 have HR0 := qa hr0
 have HC0 := qa hc0
 clear hr0 hc0
 have HB := qa (Below.refl w.heap.size w)
 have H : (spec_poGood.l0 k l0 l0 (l0.length : Int) 0) = some r := h
 clear h
 have H' := qa H
 clear H
 go_enter Tryz.func38, Tryz.ntmps38
 go_wp2
 go_loopg [7] k (fun kq v7 w' => ∃ (x7_1 : Int), v7 = .int .i64 x7_1 ∧ Aside0 (spec_poGood.l0 kq l0 l0 (l0.length : Int) x7_1 = some r) ∧ Aside0 (kq ≤ k) ∧ Aside0 (Below w.heap.size w w'))
 case atStart => exact ⟨(0), qf, H', ⟨Nat.le_refl _⟩, ⟨(zb0 HB)⟩⟩
 case round =>
  clear H'
  obtain ⟨x7_1, rfl, HA, HK1, HB⟩ := hrel
  cases gk with
  | zero => exact absurd HA.out (by simp [spec_poGood.l0])
  | succ k1 =>
   have H := HA.out
   clear HA
   simp only [spec_poGood.l0] at H
   by_cases c2 : x7_1 < (l0.length : Int)
   ·
    rw [if_pos c2] at H
    have c2b0 := decide_eq_true c2
    clear c2
    by_cases c3 : 0 ≤ x7_1
    ·
     rw [if_pos c3] at H
     have c3b0 := decide_eq_true c3
     clear c3
     by_cases c4 : x7_1 < (l0.length : Int)
     ·
      rw [if_pos c4] at H
      have c4b0 := decide_eq_true c4
      clear c4
      replace H := qo H
      obtain ⟨t127, A5, H⟩ := H
      replace H : (if t127 = true then (if ((rd_T62 l0 x7_1).f0) = 0 then (some false) else (if x7_1 > 0 then (if 0 ≤ (wrap64 (x7_1 - 1)) then (if (wrap64 (x7_1 - 1)) < (l0.length : Int) then ((spec_poOrder.f ((rd_T62 l0 (wrap64 (x7_1 - 1))).f0) ((rd_T62 l0 (wrap64 (x7_1 - 1))).f1) ((rd_T62 l0 (wrap64 (x7_1 - 1))).f2) ((rd_T62 l0 (wrap64 (x7_1 - 1))).f3) ((rd_T62 l0 x7_1).f0) ((rd_T62 l0 x7_1).f1) ((rd_T62 l0 x7_1).f2) ((rd_T62 l0 x7_1).f3)).bind fun t129 => (if t129 ≥ 0 then (some false) else (spec_poGood.l0 k1 l0 l0 (l0.length : Int) (wrap64 (x7_1 + 1))))) else (none)) else (none)) else (spec_poGood.l0 k1 l0 l0 (l0.length : Int) (wrap64 (x7_1 + 1))))) else (some false)) = some r := H
      by_cases c6 : t127 = true
      ·
       subst c6
       have H1 : (if ((rd_T62 l0 x7_1).f0) = 0 then (some false) else (if x7_1 > 0 then (if 0 ≤ (wrap64 (x7_1 - 1)) then (if (wrap64 (x7_1 - 1)) < (l0.length : Int) then ((spec_poOrder.f ((rd_T62 l0 (wrap64 (x7_1 - 1))).f0) ((rd_T62 l0 (wrap64 (x7_1 - 1))).f1) ((rd_T62 l0 (wrap64 (x7_1 - 1))).f2) ((rd_T62 l0 (wrap64 (x7_1 - 1))).f3) ((rd_T62 l0 x7_1).f0) ((rd_T62 l0 x7_1).f1) ((rd_T62 l0 x7_1).f2) ((rd_T62 l0 x7_1).f3)).bind fun t129 => (if t129 ≥ 0 then (some false) else (spec_poGood.l0 k1 l0 l0 (l0.length : Int) (wrap64 (x7_1 + 1))))) else (none)) else (none)) else (spec_poGood.l0 k1 l0 l0 (l0.length : Int) (wrap64 (x7_1 + 1))))) = some r := by rw [if_pos rfl] at H; exact H
       clear H
       have H := H1
       clear H1
       by_cases c7 : ((rd_T62 l0 x7_1).f0) = 0
       ·
        rw [if_pos c7] at H
        have c7b0 : (((rd_T62 l0 x7_1).f0) == 0) = true := beq_iff_eq.mpr c7
        have c7b1 : (((rd_T62 l0 x7_1).f0) != 0) = false := bne_eq_false_iff_eq.mpr c7
        clear c7
        obtain rfl := Option.some.inj H
        have p125 : 0 ≤ (x7_1 : Int) := qd
        have q125 : x7_1 < (l0.length : Int) := qd
        obtain ⟨ad125, e125, hx125_0, hx125_1, hx125_2, hx125_3⟩ := at_T62 HR0.out x7_1 p125 q125
        cases e125
        replace hx125_0 := qb HB hx125_0
        replace hx125_1 := qb HB hx125_1
        replace hx125_2 := qb HB hx125_2
        replace hx125_3 := qb HB hx125_3
        replace p125 := eq_true p125
        replace q125 := eq_true q125
        try go_wp2_with (first | ((with_reducible refine gate_dst (N := 4) rfl ?_); refine zbe (N := 4) (cs := #[.int .i64 0, .int .i64 0, .int .i64 0, .int .i64 0]) (t := 62) ?_; intro gb126 hg w8 hbox hb; have BK126 := qa (hbox); have GW126 := qa (zge (zb0 HB) hg); have GE126 := GW126; replace HB := qa (below_step (zb0 HB) hb); clear hb hbox hg; obtain ⟨hcz9_0, hcz9_1, hcz9_2, hcz9_3⟩ := qc4 BK126; obtain ⟨hfz9_0, hfz9_1, hfz9_2, hfz9_3⟩ := qz4 BK126))
        have n0_ : Aside0 (((((w8.setCell ⟨gb126, 0, none⟩ (.int .i64 ((rd_T62 l0 x7_1).f0))).setCell ⟨gb126, 1, none⟩ (.int .i64 ((rd_T62 l0 x7_1).f1))).setCell ⟨gb126, 2, none⟩ (.int .i64 ((rd_T62 l0 x7_1).f2))).setCell ⟨gb126, 3, none⟩ (.int .i64 ((rd_T62 l0 x7_1).f3))).heap[gb126]? = some (.cells #[.int .i64 ((rd_T62 l0 x7_1).f0), .int .i64 ((rd_T62 l0 x7_1).f1), .int .i64 ((rd_T62 l0 x7_1).f2), .int .i64 ((rd_T62 l0 x7_1).f3)] 62 (0, 0))) := ⟨qs BK126⟩
        have n1_ : Aside0 (Below w.heap.size w ((((w8.setCell ⟨gb126, 0, none⟩ (.int .i64 ((rd_T62 l0 x7_1).f0))).setCell ⟨gb126, 1, none⟩ (.int .i64 ((rd_T62 l0 x7_1).f1))).setCell ⟨gb126, 2, none⟩ (.int .i64 ((rd_T62 l0 x7_1).f2))).setCell ⟨gb126, 3, none⟩ (.int .i64 ((rd_T62 l0 x7_1).f3)))) := ⟨(zb1 HB)⟩
        (try clear BK126)
        (try clear HB)
        generalize ((((w8.setCell ⟨gb126, 0, none⟩ (.int .i64 ((rd_T62 l0 x7_1).f0))).setCell ⟨gb126, 1, none⟩ (.int .i64 ((rd_T62 l0 x7_1).f1))).setCell ⟨gb126, 2, none⟩ (.int .i64 ((rd_T62 l0 x7_1).f2))).setCell ⟨gb126, 3, none⟩ (.int .i64 ((rd_T62 l0 x7_1).f3))) = w10 at n0_ n1_ ⊢
        have BK126 := n0_; have HB := n1_
        clear n0_ n1_
        replace BK126 := qa (blk_drew BK126.out); replace HB := qa (below_drew1 HB.out)
        refine start_ (n := 22) (S := fun w' => w'.cell? ⟨gb126, 0, none⟩ = some (.int .i64 ((rd_T62 l0 x7_1).f0)) ∧ w'.cell? ⟨gb126, 1, none⟩ = some (.int .i64 ((rd_T62 l0 x7_1).f1)) ∧ w'.cell? ⟨gb126, 2, none⟩ = some (.int .i64 ((rd_T62 l0 x7_1).f2)) ∧ w'.cell? ⟨gb126, 3, none⟩ = some (.int .i64 ((rd_T62 l0 x7_1).f3))) (ds := []) (bn 22 0) (by kernel_rfl) rfl rfl ⟨zc BK126 0, zc BK126 1, zc BK126 2, zc BK126 3⟩ (fun hHeld => ?_); refine with_tabW spec_poGood.tab4 spec_poGood.bits4 (fun HT_ HW_ => ?_)
        generalize w10.drew = w11 at BK126 HB hHeld ⊢
        refine qk 0 12 22 1 HT_ HW_ hHeld ?_
        refine one_ (i := 1) (N := some 13) (bn 22 3) rfl rfl (one_of HT_.out (by kernel_rfl)) (by decide) (fun K hK => ?_)
        refine goes_ Tryz.func72 (by kernel_rfl) rfl #[.agg #[.int .i64 ((rd_T62 l0 x7_1).f0), .int .i64 ((rd_T62 l0 x7_1).f1), .int .i64 ((rd_T62 l0 x7_1).f2), .int .i64 ((rd_T62 l0 x7_1).f3)]] (by rfl) rfl rfl zq6 ?_
        with_reducible refine (spec_poTerm.calls ((rd_T62 l0 x7_1).f0) ((rd_T62 l0 x7_1).f1) ((rd_T62 l0 x7_1).f2) ((rd_T62 l0 x7_1).f3) true _ A5.out).mono ?_
        rintro e w12 ⟨rfl, hb⟩
        refine ⟨_, rfl, ?_⟩
        replace BK126 := qa (zbb BK126 hb); replace HB := qa (below_step (zb1 HB) hb)
        (try clear hb)
        (try clear hb2)
        (try clear hk)
        (try clear hi)
        refine hK.out _ _ ⟨zc BK126 0, zc BK126 1, zc BK126 2, zc BK126 3⟩ (fun hHeld => ?_)
        clear hK K
        refine qt ?_
        refine qp 2 14 22 7 HT_ ?_
        refine qp 3 15 22 15 HT_ ?_
        refine qp 4 16 22 31 HT_ ?_
        refine qk 5 17 22 63 HT_ HW_ hHeld ?_
        refine qp 6 18 22 127 HT_ ?_
        refine qp 7 19 22 255 HT_ ?_
        refine qp 8 20 22 511 HT_ ?_
        refine qu 9 21 22 1023 HT_ ?_
        refine qu 10 22 22 2047 HT_ ?_
        refine qu 11 23 22 4095 HT_ ?_
        refine qu 12 24 22 8191 HT_ ?_
        refine qu 13 25 22 16383 HT_ ?_
        refine qu 14 26 22 32767 HT_ ?_
        refine qu 15 27 22 65535 HT_ ?_
        refine qu 16 28 22 131071 HT_ ?_
        refine qu 17 29 22 262143 HT_ ?_
        refine qu 18 30 22 524287 HT_ ?_
        refine qu 19 31 22 1048575 HT_ ?_
        refine qu 20 32 22 2097151 HT_ ?_
        refine qp 21 33 22 4194303 HT_ ?_
        refine done_ (done_of HT_.out (by kernel_rfl)) ?_
        try go_wp2
        go_ret
        exact ⟨by first | rfl | (simp [errW_none, errW_some] <;> rfl) | (simp [*, errW_none, errW_some] <;> rfl), (zb1 HB)⟩
       ·
        rw [if_neg c7] at H
        have c7b0 : (((rd_T62 l0 x7_1).f0) == 0) = false := beq_eq_false_iff_ne.mpr c7
        have c7b1 : (((rd_T62 l0 x7_1).f0) != 0) = true := bne_iff_ne.mpr c7
        by_cases c13 : x7_1 > 0
        ·
         rw [if_pos c13] at H
         have c13b0 := decide_eq_true c13
         clear c13
         obtain ⟨ji14, hji14⟩ : ∃ j_ : Int, (wrap64 (x7_1 - 1)) = j_ := ⟨_, rfl⟩
         replace H : (if 0 ≤ (ji14) then (if (ji14) < (l0.length : Int) then ((spec_poOrder.f ((rd_T62 l0 (ji14)).f0) ((rd_T62 l0 (ji14)).f1) ((rd_T62 l0 (ji14)).f2) ((rd_T62 l0 (ji14)).f3) ((rd_T62 l0 x7_1).f0) ((rd_T62 l0 x7_1).f1) ((rd_T62 l0 x7_1).f2) ((rd_T62 l0 x7_1).f3)).bind fun t129 => (if t129 ≥ 0 then (some false) else (spec_poGood.l0 k1 l0 l0 (l0.length : Int) (wrap64 (x7_1 + 1))))) else (none)) else (none)) = some r := by first | (rw [hji14] at H; exact H) | (simp only [hji14] at H ⊢; exact H)
         (try rw [hji14] at A5)
         have hji14w : (IntKind.i64.wrap (x7_1 - 1)) = ji14 := (i64_w _).trans hji14
         by_cases c15 : 0 ≤ (ji14)
         ·
          rw [if_pos c15] at H
          have c15b0 := decide_eq_true c15
          clear c15
          by_cases c16 : (ji14) < (l0.length : Int)
          ·
           rw [if_pos c16] at H
           have c16b0 := decide_eq_true c16
           clear c16
           replace H := qo H
           obtain ⟨t129, A17, H⟩ := H
           replace H : (if t129 ≥ 0 then (some false) else (spec_poGood.l0 k1 l0 l0 (l0.length : Int) (wrap64 (x7_1 + 1)))) = some r := H
           by_cases c18 : t129 ≥ 0
           ·
            rw [if_pos c18] at H
            have c18b0 := decide_eq_true c18
            clear c18
            obtain rfl := Option.some.inj H
            have p125 : 0 ≤ (x7_1 : Int) := qd
            have q125 : x7_1 < (l0.length : Int) := qd
            obtain ⟨ad125, e125, hx125_0, hx125_1, hx125_2, hx125_3⟩ := at_T62 HR0.out x7_1 p125 q125
            cases e125
            replace hx125_0 := qb HB hx125_0
            replace hx125_1 := qb HB hx125_1
            replace hx125_2 := qb HB hx125_2
            replace hx125_3 := qb HB hx125_3
            replace p125 := eq_true p125
            replace q125 := eq_true q125
            try go_wp2_with (first | ((with_reducible refine gate_dst (N := 4) rfl ?_); refine zbe (N := 4) (cs := #[.int .i64 0, .int .i64 0, .int .i64 0, .int .i64 0]) (t := 62) ?_; intro gb126 hg w19 hbox hb; have BK126 := qa (hbox); have GW126 := qa (zge (zb0 HB) hg); have GE126 := GW126; replace HB := qa (below_step (zb0 HB) hb); clear hb hbox hg; obtain ⟨hcz20_0, hcz20_1, hcz20_2, hcz20_3⟩ := qc4 BK126; obtain ⟨hfz20_0, hfz20_1, hfz20_2, hfz20_3⟩ := qz4 BK126))
            have n0_ : Aside0 (((((w19.setCell ⟨gb126, 0, none⟩ (.int .i64 ((rd_T62 l0 x7_1).f0))).setCell ⟨gb126, 1, none⟩ (.int .i64 ((rd_T62 l0 x7_1).f1))).setCell ⟨gb126, 2, none⟩ (.int .i64 ((rd_T62 l0 x7_1).f2))).setCell ⟨gb126, 3, none⟩ (.int .i64 ((rd_T62 l0 x7_1).f3))).heap[gb126]? = some (.cells #[.int .i64 ((rd_T62 l0 x7_1).f0), .int .i64 ((rd_T62 l0 x7_1).f1), .int .i64 ((rd_T62 l0 x7_1).f2), .int .i64 ((rd_T62 l0 x7_1).f3)] 62 (0, 0))) := ⟨qs BK126⟩
            have n1_ : Aside0 (Below w.heap.size w ((((w19.setCell ⟨gb126, 0, none⟩ (.int .i64 ((rd_T62 l0 x7_1).f0))).setCell ⟨gb126, 1, none⟩ (.int .i64 ((rd_T62 l0 x7_1).f1))).setCell ⟨gb126, 2, none⟩ (.int .i64 ((rd_T62 l0 x7_1).f2))).setCell ⟨gb126, 3, none⟩ (.int .i64 ((rd_T62 l0 x7_1).f3)))) := ⟨(zb1 HB)⟩
            (try clear BK126)
            (try clear HB)
            generalize ((((w19.setCell ⟨gb126, 0, none⟩ (.int .i64 ((rd_T62 l0 x7_1).f0))).setCell ⟨gb126, 1, none⟩ (.int .i64 ((rd_T62 l0 x7_1).f1))).setCell ⟨gb126, 2, none⟩ (.int .i64 ((rd_T62 l0 x7_1).f2))).setCell ⟨gb126, 3, none⟩ (.int .i64 ((rd_T62 l0 x7_1).f3))) = w21 at n0_ n1_ ⊢
            have BK126 := n0_; have HB := n1_
            clear n0_ n1_
            replace BK126 := qa (blk_drew BK126.out); replace HB := qa (below_drew1 HB.out)
            have p128 : 0 ≤ ((ji14) : Int) := qd
            have q128 : (ji14) < (l0.length : Int) := qd
            obtain ⟨ad128, e128, hx128_0, hx128_1, hx128_2, hx128_3⟩ := at_T62 HR0.out (ji14) p128 q128
            have hw128_3 := hx128_3; have hw128_2 := hx128_2; have hw128_1 := hx128_1; have hw128_0 := hx128_0
            obtain rfl : ad125 = ad128 := (by injection e128)
            replace hx128_0 := qb HB hx128_0
            replace hx128_1 := qb HB hx128_1
            replace hx128_2 := qb HB hx128_2
            replace hx128_3 := qb HB hx128_3
            replace p128 := eq_true p128
            replace q128 := eq_true q128
            refine start_ (n := 22) (S := fun w' => w'.cell? ⟨gb126, 0, none⟩ = some (.int .i64 ((rd_T62 l0 x7_1).f0)) ∧ w'.cell? ⟨gb126, 1, none⟩ = some (.int .i64 ((rd_T62 l0 x7_1).f1)) ∧ w'.cell? ⟨gb126, 2, none⟩ = some (.int .i64 ((rd_T62 l0 x7_1).f2)) ∧ w'.cell? ⟨gb126, 3, none⟩ = some (.int .i64 ((rd_T62 l0 x7_1).f3)) ∧ w'.cell? (ad125.add (((ji14)).toNat * 4)) = some (.int .i64 ((rd_T62 l0 (ji14)).f0)) ∧ w'.cell? ⟨(ad125.add (((ji14)).toNat * 4)).block, (ad125.add (((ji14)).toNat * 4)).off + 1, none⟩ = some (.int .i64 ((rd_T62 l0 (ji14)).f1)) ∧ w'.cell? ⟨(ad125.add (((ji14)).toNat * 4)).block, (ad125.add (((ji14)).toNat * 4)).off + 2, none⟩ = some (.int .i64 ((rd_T62 l0 (ji14)).f2)) ∧ w'.cell? ⟨(ad125.add (((ji14)).toNat * 4)).block, (ad125.add (((ji14)).toNat * 4)).off + 3, none⟩ = some (.int .i64 ((rd_T62 l0 (ji14)).f3))) (ds := []) (bn 22 0) (by kernel_rfl) rfl rfl ⟨zc BK126 0, zc BK126 1, zc BK126 2, zc BK126 3, (qb HB hw128_0), (qb HB hw128_1), (qb HB hw128_2), (qb HB hw128_3)⟩ (fun hHeld => ?_); refine with_tabW spec_poGood.tab4 spec_poGood.bits4 (fun HT_ HW_ => ?_)
            generalize w21.drew = w22 at BK126 HB hx128_0 hx128_1 hx128_2 hx128_3 hHeld ⊢
            refine qk 0 12 22 1 HT_ HW_ hHeld ?_
            refine one_ (i := 1) (N := some 13) (bn 22 3) rfl rfl (one_of HT_.out (by kernel_rfl)) (by decide) (fun K hK => ?_)
            refine goes_ Tryz.func72 (by kernel_rfl) rfl #[.agg #[.int .i64 ((rd_T62 l0 x7_1).f0), .int .i64 ((rd_T62 l0 x7_1).f1), .int .i64 ((rd_T62 l0 x7_1).f2), .int .i64 ((rd_T62 l0 x7_1).f3)]] (by rfl) rfl rfl zq6 ?_
            with_reducible refine (spec_poTerm.calls ((rd_T62 l0 x7_1).f0) ((rd_T62 l0 x7_1).f1) ((rd_T62 l0 x7_1).f2) ((rd_T62 l0 x7_1).f3) true _ A5.out).mono ?_
            rintro e w23 ⟨rfl, hb⟩
            refine ⟨_, rfl, ?_⟩
            replace BK126 := qa (zbb BK126 hb); replace HB := qa (below_step (zb1 HB) hb)
            (try clear hb)
            (try clear hb2)
            (try clear hk)
            (try clear hi)
            refine hK.out _ _ ⟨zc BK126 0, zc BK126 1, zc BK126 2, zc BK126 3, (qb HB hw128_0), (qb HB hw128_1), (qb HB hw128_2), (qb HB hw128_3)⟩ (fun hHeld => ?_)
            clear hK K
            refine qt ?_
            refine qp 2 14 22 7 HT_ ?_
            refine qp 3 15 22 15 HT_ ?_
            refine qp 4 16 22 31 HT_ ?_
            refine qk 5 17 22 63 HT_ HW_ hHeld ?_
            refine qp 6 18 22 127 HT_ ?_
            refine qp 7 19 22 255 HT_ ?_
            refine qp 8 20 22 511 HT_ ?_
            refine qp 9 21 22 1023 HT_ ?_
            refine qp 10 22 22 2047 HT_ ?_
            refine qp 11 23 22 4095 HT_ ?_
            refine qp 12 24 22 8191 HT_ ?_
            refine qp 13 25 22 16383 HT_ ?_
            refine qp 14 26 22 32767 HT_ ?_
            refine qp 15 27 22 65535 HT_ ?_
            refine qk 16 28 22 131071 HT_ HW_ hHeld ?_
            refine qk 17 29 22 262143 HT_ HW_ hHeld ?_
            refine one_ (i := 18) (N := some 30) (bn 22 524287) rfl rfl (one_of HT_.out (by kernel_rfl)) (by decide) (fun K hK => ?_)
            refine goes_ Tryz.func73 (by kernel_rfl) rfl #[.agg #[.int .i64 ((rd_T62 l0 (ji14)).f0), .int .i64 ((rd_T62 l0 (ji14)).f1), .int .i64 ((rd_T62 l0 (ji14)).f2), .int .i64 ((rd_T62 l0 (ji14)).f3)], .agg #[.int .i64 ((rd_T62 l0 x7_1).f0), .int .i64 ((rd_T62 l0 x7_1).f1), .int .i64 ((rd_T62 l0 x7_1).f2), .int .i64 ((rd_T62 l0 x7_1).f3)]] (by rfl) rfl rfl (by (try simp only [List.map_toArray, List.map_cons, List.map_nil]); first | done | (simp only [hji14]; rfl) | rfl | (simp only [List.length_drop, List.length_take]; rfl)) ?_
            with_reducible refine (spec_poOrder.calls ((rd_T62 l0 (ji14)).f0) ((rd_T62 l0 (ji14)).f1) ((rd_T62 l0 (ji14)).f2) ((rd_T62 l0 (ji14)).f3) ((rd_T62 l0 x7_1).f0) ((rd_T62 l0 x7_1).f1) ((rd_T62 l0 x7_1).f2) ((rd_T62 l0 x7_1).f3) t129 _ A17.out).mono ?_
            rintro e w24 ⟨rfl, hb⟩
            refine ⟨_, rfl, ?_⟩
            replace BK126 := qa (zbb BK126 hb); replace HB := qa (below_step (zb1 HB) hb)
            (try clear hb)
            (try clear hb2)
            (try clear hk)
            (try clear hi)
            refine hK.out _ _ ⟨zc BK126 0, zc BK126 1, zc BK126 2, zc BK126 3, (qb HB hw128_0), (qb HB hw128_1), (qb HB hw128_2), (qb HB hw128_3)⟩ (fun hHeld => ?_)
            clear hK K
            refine qt ?_
            refine qp 19 31 22 1048575 HT_ ?_
            refine qp 20 32 22 2097151 HT_ ?_
            refine qp 21 33 22 4194303 HT_ ?_
            refine done_ (done_of HT_.out (by kernel_rfl)) ?_
            try go_wp2
            go_ret
            exact ⟨by first | rfl | (simp [errW_none, errW_some] <;> rfl) | (simp only [← hji14]; first | rfl | (simp [errW_none, errW_some] <;> rfl)) | (simp [*, errW_none, errW_some] <;> rfl), (zb1 HB)⟩
           ·
            rw [if_neg c18] at H
            have c18b0 := decide_eq_false c18
            clear c18
            have H' := qa H
            clear H
            have p125 : 0 ≤ (x7_1 : Int) := qd
            have q125 : x7_1 < (l0.length : Int) := qd
            obtain ⟨ad125, e125, hx125_0, hx125_1, hx125_2, hx125_3⟩ := at_T62 HR0.out x7_1 p125 q125
            cases e125
            replace hx125_0 := qb HB hx125_0
            replace hx125_1 := qb HB hx125_1
            replace hx125_2 := qb HB hx125_2
            replace hx125_3 := qb HB hx125_3
            replace p125 := eq_true p125
            replace q125 := eq_true q125
            try go_wp2_with (first | ((with_reducible refine gate_dst (N := 4) rfl ?_); refine zbe (N := 4) (cs := #[.int .i64 0, .int .i64 0, .int .i64 0, .int .i64 0]) (t := 62) ?_; intro gb126 hg w25 hbox hb; have BK126 := qa (hbox); have GW126 := qa (zge (zb0 HB) hg); have GE126 := GW126; replace HB := qa (below_step (zb0 HB) hb); clear hb hbox hg; obtain ⟨hcz26_0, hcz26_1, hcz26_2, hcz26_3⟩ := qc4 BK126; obtain ⟨hfz26_0, hfz26_1, hfz26_2, hfz26_3⟩ := qz4 BK126))
            have n0_ : Aside0 (((((w25.setCell ⟨gb126, 0, none⟩ (.int .i64 ((rd_T62 l0 x7_1).f0))).setCell ⟨gb126, 1, none⟩ (.int .i64 ((rd_T62 l0 x7_1).f1))).setCell ⟨gb126, 2, none⟩ (.int .i64 ((rd_T62 l0 x7_1).f2))).setCell ⟨gb126, 3, none⟩ (.int .i64 ((rd_T62 l0 x7_1).f3))).heap[gb126]? = some (.cells #[.int .i64 ((rd_T62 l0 x7_1).f0), .int .i64 ((rd_T62 l0 x7_1).f1), .int .i64 ((rd_T62 l0 x7_1).f2), .int .i64 ((rd_T62 l0 x7_1).f3)] 62 (0, 0))) := ⟨qs BK126⟩
            have n1_ : Aside0 (Below w.heap.size w ((((w25.setCell ⟨gb126, 0, none⟩ (.int .i64 ((rd_T62 l0 x7_1).f0))).setCell ⟨gb126, 1, none⟩ (.int .i64 ((rd_T62 l0 x7_1).f1))).setCell ⟨gb126, 2, none⟩ (.int .i64 ((rd_T62 l0 x7_1).f2))).setCell ⟨gb126, 3, none⟩ (.int .i64 ((rd_T62 l0 x7_1).f3)))) := ⟨(zb1 HB)⟩
            (try clear BK126)
            (try clear HB)
            generalize ((((w25.setCell ⟨gb126, 0, none⟩ (.int .i64 ((rd_T62 l0 x7_1).f0))).setCell ⟨gb126, 1, none⟩ (.int .i64 ((rd_T62 l0 x7_1).f1))).setCell ⟨gb126, 2, none⟩ (.int .i64 ((rd_T62 l0 x7_1).f2))).setCell ⟨gb126, 3, none⟩ (.int .i64 ((rd_T62 l0 x7_1).f3))) = w27 at n0_ n1_ ⊢
            have BK126 := n0_; have HB := n1_
            clear n0_ n1_
            replace BK126 := qa (blk_drew BK126.out); replace HB := qa (below_drew1 HB.out)
            have p128 : 0 ≤ ((ji14) : Int) := qd
            have q128 : (ji14) < (l0.length : Int) := qd
            obtain ⟨ad128, e128, hx128_0, hx128_1, hx128_2, hx128_3⟩ := at_T62 HR0.out (ji14) p128 q128
            have hw128_3 := hx128_3; have hw128_2 := hx128_2; have hw128_1 := hx128_1; have hw128_0 := hx128_0
            obtain rfl : ad125 = ad128 := (by injection e128)
            replace hx128_0 := qb HB hx128_0
            replace hx128_1 := qb HB hx128_1
            replace hx128_2 := qb HB hx128_2
            replace hx128_3 := qb HB hx128_3
            replace p128 := eq_true p128
            replace q128 := eq_true q128
            refine start_ (n := 22) (S := fun w' => w'.cell? ⟨gb126, 0, none⟩ = some (.int .i64 ((rd_T62 l0 x7_1).f0)) ∧ w'.cell? ⟨gb126, 1, none⟩ = some (.int .i64 ((rd_T62 l0 x7_1).f1)) ∧ w'.cell? ⟨gb126, 2, none⟩ = some (.int .i64 ((rd_T62 l0 x7_1).f2)) ∧ w'.cell? ⟨gb126, 3, none⟩ = some (.int .i64 ((rd_T62 l0 x7_1).f3)) ∧ w'.cell? (ad125.add (((ji14)).toNat * 4)) = some (.int .i64 ((rd_T62 l0 (ji14)).f0)) ∧ w'.cell? ⟨(ad125.add (((ji14)).toNat * 4)).block, (ad125.add (((ji14)).toNat * 4)).off + 1, none⟩ = some (.int .i64 ((rd_T62 l0 (ji14)).f1)) ∧ w'.cell? ⟨(ad125.add (((ji14)).toNat * 4)).block, (ad125.add (((ji14)).toNat * 4)).off + 2, none⟩ = some (.int .i64 ((rd_T62 l0 (ji14)).f2)) ∧ w'.cell? ⟨(ad125.add (((ji14)).toNat * 4)).block, (ad125.add (((ji14)).toNat * 4)).off + 3, none⟩ = some (.int .i64 ((rd_T62 l0 (ji14)).f3))) (ds := []) (bn 22 0) (by kernel_rfl) rfl rfl ⟨zc BK126 0, zc BK126 1, zc BK126 2, zc BK126 3, (qb HB hw128_0), (qb HB hw128_1), (qb HB hw128_2), (qb HB hw128_3)⟩ (fun hHeld => ?_); refine with_tabW spec_poGood.tab4 spec_poGood.bits4 (fun HT_ HW_ => ?_)
            generalize w27.drew = w28 at BK126 HB hx128_0 hx128_1 hx128_2 hx128_3 hHeld ⊢
            refine qk 0 12 22 1 HT_ HW_ hHeld ?_
            refine one_ (i := 1) (N := some 13) (bn 22 3) rfl rfl (one_of HT_.out (by kernel_rfl)) (by decide) (fun K hK => ?_)
            refine goes_ Tryz.func72 (by kernel_rfl) rfl #[.agg #[.int .i64 ((rd_T62 l0 x7_1).f0), .int .i64 ((rd_T62 l0 x7_1).f1), .int .i64 ((rd_T62 l0 x7_1).f2), .int .i64 ((rd_T62 l0 x7_1).f3)]] (by rfl) rfl rfl zq6 ?_
            with_reducible refine (spec_poTerm.calls ((rd_T62 l0 x7_1).f0) ((rd_T62 l0 x7_1).f1) ((rd_T62 l0 x7_1).f2) ((rd_T62 l0 x7_1).f3) true _ A5.out).mono ?_
            rintro e w29 ⟨rfl, hb⟩
            refine ⟨_, rfl, ?_⟩
            replace BK126 := qa (zbb BK126 hb); replace HB := qa (below_step (zb1 HB) hb)
            (try clear hb)
            (try clear hb2)
            (try clear hk)
            (try clear hi)
            refine hK.out _ _ ⟨zc BK126 0, zc BK126 1, zc BK126 2, zc BK126 3, (qb HB hw128_0), (qb HB hw128_1), (qb HB hw128_2), (qb HB hw128_3)⟩ (fun hHeld => ?_)
            clear hK K
            refine qt ?_
            refine qp 2 14 22 7 HT_ ?_
            refine qp 3 15 22 15 HT_ ?_
            refine qp 4 16 22 31 HT_ ?_
            refine qk 5 17 22 63 HT_ HW_ hHeld ?_
            refine qp 6 18 22 127 HT_ ?_
            refine qp 7 19 22 255 HT_ ?_
            refine qp 8 20 22 511 HT_ ?_
            refine qp 9 21 22 1023 HT_ ?_
            refine qp 10 22 22 2047 HT_ ?_
            refine qp 11 23 22 4095 HT_ ?_
            refine qp 12 24 22 8191 HT_ ?_
            refine qp 13 25 22 16383 HT_ ?_
            refine qp 14 26 22 32767 HT_ ?_
            refine qp 15 27 22 65535 HT_ ?_
            refine qk 16 28 22 131071 HT_ HW_ hHeld ?_
            refine qk 17 29 22 262143 HT_ HW_ hHeld ?_
            refine one_ (i := 18) (N := some 30) (bn 22 524287) rfl rfl (one_of HT_.out (by kernel_rfl)) (by decide) (fun K hK => ?_)
            refine goes_ Tryz.func73 (by kernel_rfl) rfl #[.agg #[.int .i64 ((rd_T62 l0 (ji14)).f0), .int .i64 ((rd_T62 l0 (ji14)).f1), .int .i64 ((rd_T62 l0 (ji14)).f2), .int .i64 ((rd_T62 l0 (ji14)).f3)], .agg #[.int .i64 ((rd_T62 l0 x7_1).f0), .int .i64 ((rd_T62 l0 x7_1).f1), .int .i64 ((rd_T62 l0 x7_1).f2), .int .i64 ((rd_T62 l0 x7_1).f3)]] (by rfl) rfl rfl (by (try simp only [List.map_toArray, List.map_cons, List.map_nil]); first | done | (simp only [hji14]; rfl) | rfl | (simp only [List.length_drop, List.length_take]; rfl)) ?_
            with_reducible refine (spec_poOrder.calls ((rd_T62 l0 (ji14)).f0) ((rd_T62 l0 (ji14)).f1) ((rd_T62 l0 (ji14)).f2) ((rd_T62 l0 (ji14)).f3) ((rd_T62 l0 x7_1).f0) ((rd_T62 l0 x7_1).f1) ((rd_T62 l0 x7_1).f2) ((rd_T62 l0 x7_1).f3) t129 _ A17.out).mono ?_
            rintro e w30 ⟨rfl, hb⟩
            refine ⟨_, rfl, ?_⟩
            replace BK126 := qa (zbb BK126 hb); replace HB := qa (below_step (zb1 HB) hb)
            (try clear hb)
            (try clear hb2)
            (try clear hk)
            (try clear hi)
            refine hK.out _ _ ⟨zc BK126 0, zc BK126 1, zc BK126 2, zc BK126 3, (qb HB hw128_0), (qb HB hw128_1), (qb HB hw128_2), (qb HB hw128_3)⟩ (fun hHeld => ?_)
            clear hK K
            refine qt ?_
            refine qp 19 31 22 1048575 HT_ ?_
            refine qp 20 32 22 2097151 HT_ ?_
            refine qp 21 33 22 4194303 HT_ ?_
            refine done_ (done_of HT_.out (by kernel_rfl)) ?_
            try go_wp2
            go_roundg k1
            case measure => have := HK1.out; omega
            case rel => exact ⟨(wrap64 (x7_1 + 1)), qf, H', ⟨by have := HK1.out; omega⟩, ⟨(zb1 HB)⟩⟩
          ·
           rw [if_neg c16] at H
           exact absurd H (by simp)
         ·
          rw [if_neg c15] at H
          exact absurd H (by simp)
        ·
         rw [if_neg c13] at H
         have c13b0 := decide_eq_false c13
         clear c13
         have H' := qa H
         clear H
         have p125 : 0 ≤ (x7_1 : Int) := qd
         have q125 : x7_1 < (l0.length : Int) := qd
         obtain ⟨ad125, e125, hx125_0, hx125_1, hx125_2, hx125_3⟩ := at_T62 HR0.out x7_1 p125 q125
         cases e125
         replace hx125_0 := qb HB hx125_0
         replace hx125_1 := qb HB hx125_1
         replace hx125_2 := qb HB hx125_2
         replace hx125_3 := qb HB hx125_3
         replace p125 := eq_true p125
         replace q125 := eq_true q125
         try go_wp2_with (first | ((with_reducible refine gate_dst (N := 4) rfl ?_); refine zbe (N := 4) (cs := #[.int .i64 0, .int .i64 0, .int .i64 0, .int .i64 0]) (t := 62) ?_; intro gb126 hg w31 hbox hb; have BK126 := qa (hbox); have GW126 := qa (zge (zb0 HB) hg); have GE126 := GW126; replace HB := qa (below_step (zb0 HB) hb); clear hb hbox hg; obtain ⟨hcz32_0, hcz32_1, hcz32_2, hcz32_3⟩ := qc4 BK126; obtain ⟨hfz32_0, hfz32_1, hfz32_2, hfz32_3⟩ := qz4 BK126))
         have n0_ : Aside0 (((((w31.setCell ⟨gb126, 0, none⟩ (.int .i64 ((rd_T62 l0 x7_1).f0))).setCell ⟨gb126, 1, none⟩ (.int .i64 ((rd_T62 l0 x7_1).f1))).setCell ⟨gb126, 2, none⟩ (.int .i64 ((rd_T62 l0 x7_1).f2))).setCell ⟨gb126, 3, none⟩ (.int .i64 ((rd_T62 l0 x7_1).f3))).heap[gb126]? = some (.cells #[.int .i64 ((rd_T62 l0 x7_1).f0), .int .i64 ((rd_T62 l0 x7_1).f1), .int .i64 ((rd_T62 l0 x7_1).f2), .int .i64 ((rd_T62 l0 x7_1).f3)] 62 (0, 0))) := ⟨qs BK126⟩
         have n1_ : Aside0 (Below w.heap.size w ((((w31.setCell ⟨gb126, 0, none⟩ (.int .i64 ((rd_T62 l0 x7_1).f0))).setCell ⟨gb126, 1, none⟩ (.int .i64 ((rd_T62 l0 x7_1).f1))).setCell ⟨gb126, 2, none⟩ (.int .i64 ((rd_T62 l0 x7_1).f2))).setCell ⟨gb126, 3, none⟩ (.int .i64 ((rd_T62 l0 x7_1).f3)))) := ⟨(zb1 HB)⟩
         (try clear BK126)
         (try clear HB)
         generalize ((((w31.setCell ⟨gb126, 0, none⟩ (.int .i64 ((rd_T62 l0 x7_1).f0))).setCell ⟨gb126, 1, none⟩ (.int .i64 ((rd_T62 l0 x7_1).f1))).setCell ⟨gb126, 2, none⟩ (.int .i64 ((rd_T62 l0 x7_1).f2))).setCell ⟨gb126, 3, none⟩ (.int .i64 ((rd_T62 l0 x7_1).f3))) = w33 at n0_ n1_ ⊢
         have BK126 := n0_; have HB := n1_
         clear n0_ n1_
         replace BK126 := qa (blk_drew BK126.out); replace HB := qa (below_drew1 HB.out)
         refine start_ (n := 22) (S := fun w' => w'.cell? ⟨gb126, 0, none⟩ = some (.int .i64 ((rd_T62 l0 x7_1).f0)) ∧ w'.cell? ⟨gb126, 1, none⟩ = some (.int .i64 ((rd_T62 l0 x7_1).f1)) ∧ w'.cell? ⟨gb126, 2, none⟩ = some (.int .i64 ((rd_T62 l0 x7_1).f2)) ∧ w'.cell? ⟨gb126, 3, none⟩ = some (.int .i64 ((rd_T62 l0 x7_1).f3))) (ds := []) (bn 22 0) (by kernel_rfl) rfl rfl ⟨zc BK126 0, zc BK126 1, zc BK126 2, zc BK126 3⟩ (fun hHeld => ?_); refine with_tabW spec_poGood.tab4 spec_poGood.bits4 (fun HT_ HW_ => ?_)
         generalize w33.drew = w34 at BK126 HB hHeld ⊢
         refine qk 0 12 22 1 HT_ HW_ hHeld ?_
         refine one_ (i := 1) (N := some 13) (bn 22 3) rfl rfl (one_of HT_.out (by kernel_rfl)) (by decide) (fun K hK => ?_)
         refine goes_ Tryz.func72 (by kernel_rfl) rfl #[.agg #[.int .i64 ((rd_T62 l0 x7_1).f0), .int .i64 ((rd_T62 l0 x7_1).f1), .int .i64 ((rd_T62 l0 x7_1).f2), .int .i64 ((rd_T62 l0 x7_1).f3)]] (by rfl) rfl rfl zq6 ?_
         with_reducible refine (spec_poTerm.calls ((rd_T62 l0 x7_1).f0) ((rd_T62 l0 x7_1).f1) ((rd_T62 l0 x7_1).f2) ((rd_T62 l0 x7_1).f3) true _ A5.out).mono ?_
         rintro e w35 ⟨rfl, hb⟩
         refine ⟨_, rfl, ?_⟩
         replace BK126 := qa (zbb BK126 hb); replace HB := qa (below_step (zb1 HB) hb)
         (try clear hb)
         (try clear hb2)
         (try clear hk)
         (try clear hi)
         refine hK.out _ _ ⟨zc BK126 0, zc BK126 1, zc BK126 2, zc BK126 3⟩ (fun hHeld => ?_)
         clear hK K
         refine qt ?_
         refine qp 2 14 22 7 HT_ ?_
         refine qp 3 15 22 15 HT_ ?_
         refine qp 4 16 22 31 HT_ ?_
         refine qk 5 17 22 63 HT_ HW_ hHeld ?_
         refine qp 6 18 22 127 HT_ ?_
         refine qp 7 19 22 255 HT_ ?_
         refine qp 8 20 22 511 HT_ ?_
         refine qp 9 21 22 1023 HT_ ?_
         refine qp 10 22 22 2047 HT_ ?_
         refine qp 11 23 22 4095 HT_ ?_
         refine qu 12 24 22 8191 HT_ ?_
         refine qu 13 25 22 16383 HT_ ?_
         refine qu 14 26 22 32767 HT_ ?_
         refine qu 15 27 22 65535 HT_ ?_
         refine qu 16 28 22 131071 HT_ ?_
         refine qu 17 29 22 262143 HT_ ?_
         refine qu 18 30 22 524287 HT_ ?_
         refine qu 19 31 22 1048575 HT_ ?_
         refine qp 20 32 22 2097151 HT_ ?_
         refine qp 21 33 22 4194303 HT_ ?_
         refine done_ (done_of HT_.out (by kernel_rfl)) ?_
         try go_wp2
         go_roundg k1
         case measure => have := HK1.out; omega
         case rel => exact ⟨(wrap64 (x7_1 + 1)), qf, H', ⟨by have := HK1.out; omega⟩, ⟨(zb1 HB)⟩⟩
      ·
       replace c6 := Bool.eq_false_iff.mpr c6
       subst c6
       have H1 : (some false) = some r := by rw [if_neg (show ¬ (false = true) by decide)] at H; exact H
       clear H
       have H := H1
       clear H1
       obtain rfl := Option.some.inj H
       have p125 : 0 ≤ (x7_1 : Int) := qd
       have q125 : x7_1 < (l0.length : Int) := qd
       obtain ⟨ad125, e125, hx125_0, hx125_1, hx125_2, hx125_3⟩ := at_T62 HR0.out x7_1 p125 q125
       cases e125
       replace hx125_0 := qb HB hx125_0
       replace hx125_1 := qb HB hx125_1
       replace hx125_2 := qb HB hx125_2
       replace hx125_3 := qb HB hx125_3
       replace p125 := eq_true p125
       replace q125 := eq_true q125
       try go_wp2_with (first | ((with_reducible refine gate_dst (N := 4) rfl ?_); refine zbe (N := 4) (cs := #[.int .i64 0, .int .i64 0, .int .i64 0, .int .i64 0]) (t := 62) ?_; intro gb126 hg w36 hbox hb; have BK126 := qa (hbox); have GW126 := qa (zge (zb0 HB) hg); have GE126 := GW126; replace HB := qa (below_step (zb0 HB) hb); clear hb hbox hg; obtain ⟨hcz37_0, hcz37_1, hcz37_2, hcz37_3⟩ := qc4 BK126; obtain ⟨hfz37_0, hfz37_1, hfz37_2, hfz37_3⟩ := qz4 BK126))
       have n0_ : Aside0 (((((w36.setCell ⟨gb126, 0, none⟩ (.int .i64 ((rd_T62 l0 x7_1).f0))).setCell ⟨gb126, 1, none⟩ (.int .i64 ((rd_T62 l0 x7_1).f1))).setCell ⟨gb126, 2, none⟩ (.int .i64 ((rd_T62 l0 x7_1).f2))).setCell ⟨gb126, 3, none⟩ (.int .i64 ((rd_T62 l0 x7_1).f3))).heap[gb126]? = some (.cells #[.int .i64 ((rd_T62 l0 x7_1).f0), .int .i64 ((rd_T62 l0 x7_1).f1), .int .i64 ((rd_T62 l0 x7_1).f2), .int .i64 ((rd_T62 l0 x7_1).f3)] 62 (0, 0))) := ⟨qs BK126⟩
       have n1_ : Aside0 (Below w.heap.size w ((((w36.setCell ⟨gb126, 0, none⟩ (.int .i64 ((rd_T62 l0 x7_1).f0))).setCell ⟨gb126, 1, none⟩ (.int .i64 ((rd_T62 l0 x7_1).f1))).setCell ⟨gb126, 2, none⟩ (.int .i64 ((rd_T62 l0 x7_1).f2))).setCell ⟨gb126, 3, none⟩ (.int .i64 ((rd_T62 l0 x7_1).f3)))) := ⟨(zb1 HB)⟩
       (try clear BK126)
       (try clear HB)
       generalize ((((w36.setCell ⟨gb126, 0, none⟩ (.int .i64 ((rd_T62 l0 x7_1).f0))).setCell ⟨gb126, 1, none⟩ (.int .i64 ((rd_T62 l0 x7_1).f1))).setCell ⟨gb126, 2, none⟩ (.int .i64 ((rd_T62 l0 x7_1).f2))).setCell ⟨gb126, 3, none⟩ (.int .i64 ((rd_T62 l0 x7_1).f3))) = w38 at n0_ n1_ ⊢
       have BK126 := n0_; have HB := n1_
       clear n0_ n1_
       replace BK126 := qa (blk_drew BK126.out); replace HB := qa (below_drew1 HB.out)
       refine start_ (n := 22) (S := fun w' => w'.cell? ⟨gb126, 0, none⟩ = some (.int .i64 ((rd_T62 l0 x7_1).f0)) ∧ w'.cell? ⟨gb126, 1, none⟩ = some (.int .i64 ((rd_T62 l0 x7_1).f1)) ∧ w'.cell? ⟨gb126, 2, none⟩ = some (.int .i64 ((rd_T62 l0 x7_1).f2)) ∧ w'.cell? ⟨gb126, 3, none⟩ = some (.int .i64 ((rd_T62 l0 x7_1).f3))) (ds := []) (bn 22 0) (by kernel_rfl) rfl rfl ⟨zc BK126 0, zc BK126 1, zc BK126 2, zc BK126 3⟩ (fun hHeld => ?_); refine with_tabW spec_poGood.tab4 spec_poGood.bits4 (fun HT_ HW_ => ?_)
       generalize w38.drew = w39 at BK126 HB hHeld ⊢
       refine qk 0 12 22 1 HT_ HW_ hHeld ?_
       refine one_ (i := 1) (N := some 13) (bn 22 3) rfl rfl (one_of HT_.out (by kernel_rfl)) (by decide) (fun K hK => ?_)
       refine goes_ Tryz.func72 (by kernel_rfl) rfl #[.agg #[.int .i64 ((rd_T62 l0 x7_1).f0), .int .i64 ((rd_T62 l0 x7_1).f1), .int .i64 ((rd_T62 l0 x7_1).f2), .int .i64 ((rd_T62 l0 x7_1).f3)]] (by rfl) rfl rfl zq6 ?_
       with_reducible refine (spec_poTerm.calls ((rd_T62 l0 x7_1).f0) ((rd_T62 l0 x7_1).f1) ((rd_T62 l0 x7_1).f2) ((rd_T62 l0 x7_1).f3) false _ A5.out).mono ?_
       rintro e w40 ⟨rfl, hb⟩
       refine ⟨_, rfl, ?_⟩
       replace BK126 := qa (zbb BK126 hb); replace HB := qa (below_step (zb1 HB) hb)
       (try clear hb)
       (try clear hb2)
       (try clear hk)
       (try clear hi)
       refine hK.out _ _ ⟨zc BK126 0, zc BK126 1, zc BK126 2, zc BK126 3⟩ (fun hHeld => ?_)
       clear hK K
       refine qt ?_
       refine qp 2 14 22 7 HT_ ?_
       refine qp 3 15 22 15 HT_ ?_
       refine qu 4 16 22 31 HT_ ?_
       refine qu 5 17 22 63 HT_ ?_
       refine qu 6 18 22 127 HT_ ?_
       refine qp 7 19 22 255 HT_ ?_
       refine qp 8 20 22 511 HT_ ?_
       refine qu 9 21 22 1023 HT_ ?_
       refine qu 10 22 22 2047 HT_ ?_
       refine qu 11 23 22 4095 HT_ ?_
       refine qu 12 24 22 8191 HT_ ?_
       refine qu 13 25 22 16383 HT_ ?_
       refine qu 14 26 22 32767 HT_ ?_
       refine qu 15 27 22 65535 HT_ ?_
       refine qu 16 28 22 131071 HT_ ?_
       refine qu 17 29 22 262143 HT_ ?_
       refine qu 18 30 22 524287 HT_ ?_
       refine qu 19 31 22 1048575 HT_ ?_
       refine qu 20 32 22 2097151 HT_ ?_
       refine qp 21 33 22 4194303 HT_ ?_
       refine done_ (done_of HT_.out (by kernel_rfl)) ?_
       try go_wp2
       go_ret
       exact ⟨by first | rfl | (simp [errW_none, errW_some] <;> rfl) | (simp [*, errW_none, errW_some] <;> rfl), (zb1 HB)⟩
     ·
      rw [if_neg c4] at H
      exact absurd H (by simp)
    ·
     rw [if_neg c3] at H
     exact absurd H (by simp)
   ·
    rw [if_neg c2] at H
    have c2b0 := decide_eq_false c2
    clear c2
    obtain rfl := Option.some.inj H
    go_wp2
    go_ret
    exact ⟨by first | rfl | (simp [errW_none, errW_some] <;> rfl) | (simp [*, errW_none, errW_some] <;> rfl), (zb0 HB)⟩
/-! ### spec_poPut: function 74 -/
def spec_poPut.T2 : Bool × List (List Nat × List Nat) := (true, [([], []), ([], []), ([1], [1]), ([0, 2], [0, 2]), ([3], [3]), ([4], [4]), ([4], [4]), ([5, 6, 4], [4, 5, 6]), ([7, 4], [4, 7]), ([4], [4]), ([8, 9, 4, 4], [4, 8, 9]), ([10, 4], [4, 10]), ([4, 11], [4, 11])])
def spec_poPut.B2 : List Nat := [0, 0, 2, 7, 15, 31, 31, 127, 255, 31, 1023, 2047, 4095]
theorem spec_poPut.tab2 : rtab .any (opsOf Tryz.f74 2) = spec_poPut.T2 := by kernel_rfl
theorem spec_poPut.bits2 : waitsOk spec_poPut.T2.2 spec_poPut.B2 = true := by kernel_rfl
def spec_poPut.T5 : Bool × List (List Nat × List Nat) := (true, [([], []), ([], []), ([1], [1]), ([0, 2], [0, 2]), ([3], [3]), ([4], [4]), ([4], [4]), ([5, 6, 4], [4, 5, 6]), ([7, 4], [4, 7]), ([4], [4]), ([8, 9, 4, 4], [4, 8, 9]), ([10, 4], [4, 10]), ([4, 11], [4, 11])])
def spec_poPut.B5 : List Nat := [0, 0, 2, 7, 15, 31, 31, 127, 255, 31, 1023, 2047, 4095]
theorem spec_poPut.tab5 : rtab .any (opsOf Tryz.f74 5) = spec_poPut.T5 := by kernel_rfl
theorem spec_poPut.bits5 : waitsOk spec_poPut.T5.2 spec_poPut.B5 = true := by kernel_rfl
def spec_poPut.T6 : Bool × List (List Nat × List Nat) := (true, [([], []), ([0], [0]), ([], []), ([], []), ([2, 3], [2, 3]), ([4], [4]), ([5], [5]), ([1, 6], [1, 6]), ([0, 1, 2, 3, 4, 5, 6, 7], []), ([8, 7, 0, 1, 2, 3, 4, 5, 6, 7], [7, 8])])
def spec_poPut.B6 : List Nat := [0, 1, 0, 0, 12, 28, 60, 127, 255, 511]
theorem spec_poPut.tab6 : rtab .any (opsOf Tryz.f74 6) = spec_poPut.T6 := by kernel_rfl
theorem spec_poPut.bits6 : waitsOk spec_poPut.T6.2 spec_poPut.B6 = true := by kernel_rfl
set_option maxHeartbeats 8000000 in
set_option maxRecDepth 100000 in
theorem spec_poPut.calls (k : Nat) (A0 : Option Addr) (c0 : Nat) (l0 : List (S62)) (a1_0 : Int) (a1_1 : Int) (a1_2 : Int) (a1_3 : Int) (r : List (S62)) (w : World) (hr0 : Kd.C k62 w A0 l0.length l0) (hc0 : l0.length ≤ c0) (h : spec_poPut.f k l0 a1_0 a1_1 a1_2 a1_3 = some r) :
  Calls Tryz.prog 74 #[.slice A0 l0.length c0, .agg #[.int .i64 a1_0, .int .i64 a1_1, .int .i64 a1_2, .int .i64 a1_3]] w fun e w' => ∃ v0_ : Value, e = .returned (v0_) ∧ Kd.R k62 62 w' w.heap.size (fun _ => True) v0_ r ∧ Below w.heap.size w w' := by
 have hu62 := Tryz.underlying62
 have HR0 := qa hr0
 have HC0 := qa hc0
 clear hr0 hc0
 have HB := qa (Below.refl w.heap.size w)
 have H : (spec_poPut.l0 k l0 0 a1_0 a1_1 a1_2 a1_3) = some r := h
 clear h
 have HC3 := qa H
 clear H
 go_enter Tryz.func74, Tryz.ntmps74
 go_upto_block 0 with (first | ((with_reducible refine gate_dst (N := 3) rfl ?_); refine zbe (N := 3) (cs := #[.int .i64 a1_0, .int .i64 a1_1, .int .i64 a1_2, .int .i64 a1_3]) (t := 62) ?_; intro gb130 hg w4 hbox hb; have BK130 := qa (hbox); have GW130 := qa (zge (zb0 HB) hg); have GE130 := GW130; replace HB := qa (below_step (zb0 HB) hb); clear hb hbox hg))
 (try simp only [Act.put, List.setIfInBounds_toArray, List.set_cons_zero, List.set_cons_succ])
 go_cut [5] (fun v5 wc => ∃ (kq : Nat) (x5_2 : Int), v5 = .int .i64 x5_2 ∧ Aside0 (spec_poPut.j1 kq l0 x5_2 a1_0 a1_1 a1_2 a1_3 = some r) ∧ Aside0 (kq ≤ k) ∧ Aside0 (wc.heap[gb130]? = some (.cells #[.int .i64 a1_0, .int .i64 a1_1, .int .i64 a1_2, .int .i64 a1_3] 62 (0, 0))) ∧ Aside0 (Below w.heap.size w wc))
 case first =>
  have H := HC3.out
  clear HC3
  have H' := qa H
  clear H
  go_wp2
  go_loopg [5] k (fun kq v5 w' => ∃ (x5_1 : Int), v5 = .int .i64 x5_1 ∧ Aside0 (spec_poPut.l0 kq l0 x5_1 a1_0 a1_1 a1_2 a1_3 = some r) ∧ Aside0 (kq ≤ k) ∧ Aside0 (w'.heap[gb130]? = some (.cells #[.int .i64 a1_0, .int .i64 a1_1, .int .i64 a1_2, .int .i64 a1_3] 62 (0, 0))) ∧ Aside0 (Below w.heap.size w w'))
  case atStart => exact ⟨(0), qf, H', ⟨Nat.le_refl _⟩, ⟨zq1 BK130⟩, ⟨(zb1 HB)⟩⟩
  case round =>
   clear H'
   try clear p2
   obtain ⟨x5_1, rfl, HA, HK1, BK130, HB⟩ := hrel
   cases gk with
   | zero => exact absurd HA.out (by simp [spec_poPut.l0])
   | succ k1 =>
    have H := HA.out
    clear HA
    simp only [spec_poPut.l0] at H
    by_cases c5 : x5_1 < (l0.length : Int)
    ·
     rw [if_pos c5] at H
     have c5b0 := decide_eq_true c5
     clear c5
     (first | rw [c5b0] | (simp only [i64_w, i32_w]; rw [c5b0]) | skip)
     by_cases c6 : 0 ≤ x5_1
     ·
      rw [if_pos c6] at H
      have c6b0 := decide_eq_true c6
      clear c6
      replace H := qo H
      obtain ⟨t132, A7, H⟩ := H
      replace H : (if t132 < 0 then (spec_poPut.l0 k1 l0 (wrap64 (x5_1 + 1)) a1_0 a1_1 a1_2 a1_3) else (spec_poPut.j1 k1 l0 x5_1 a1_0 a1_1 a1_2 a1_3)) = some r := H
      by_cases c8 : t132 < 0
      ·
       rw [if_pos c8] at H
       have c8b0 := decide_eq_true c8
       clear c8
       have H' := qa H
       clear H
       try go_wp2
       replace BK130 := qa (blk_drew BK130.out); replace HB := qa (below_drew1 HB.out)
       have p131 : 0 ≤ (x5_1 : Int) := qd
       have q131 : x5_1 < (l0.length : Int) := qd
       obtain ⟨ad131, e131, hx131_0, hx131_1, hx131_2, hx131_3⟩ := at_T62 HR0.out x5_1 p131 q131
       have hw131_3 := hx131_3; have hw131_2 := hx131_2; have hw131_1 := hx131_1; have hw131_0 := hx131_0
       cases e131
       replace hx131_0 := qb HB hx131_0
       replace hx131_1 := qb HB hx131_1
       replace hx131_2 := qb HB hx131_2
       replace hx131_3 := qb HB hx131_3
       replace p131 := eq_true p131
       replace q131 := eq_true q131
       refine start_ (n := 13) (S := fun w' => w'.cell? ⟨gb130, 0, none⟩ = some (.int .i64 a1_0) ∧ w'.cell? ⟨gb130, 1, none⟩ = some (.int .i64 a1_1) ∧ w'.cell? ⟨gb130, 2, none⟩ = some (.int .i64 a1_2) ∧ w'.cell? ⟨gb130, 3, none⟩ = some (.int .i64 a1_3) ∧ w'.cell? (ad131.add ((x5_1).toNat * 4)) = some (.int .i64 ((rd_T62 l0 x5_1).f0)) ∧ w'.cell? ⟨(ad131.add ((x5_1).toNat * 4)).block, (ad131.add ((x5_1).toNat * 4)).off + 1, none⟩ = some (.int .i64 ((rd_T62 l0 x5_1).f1)) ∧ w'.cell? ⟨(ad131.add ((x5_1).toNat * 4)).block, (ad131.add ((x5_1).toNat * 4)).off + 2, none⟩ = some (.int .i64 ((rd_T62 l0 x5_1).f2)) ∧ w'.cell? ⟨(ad131.add ((x5_1).toNat * 4)).block, (ad131.add ((x5_1).toNat * 4)).off + 3, none⟩ = some (.int .i64 ((rd_T62 l0 x5_1).f3))) (ds := []) (bn 13 0) (by kernel_rfl) rfl rfl ⟨zc BK130 0, zc BK130 1, zc BK130 2, zc BK130 3, (qb HB hw131_0), (qb HB hw131_1), (qb HB hw131_2), (qb HB hw131_3)⟩ (fun hHeld => ?_); refine with_tabW spec_poPut.tab2 spec_poPut.bits2 (fun HT_ HW_ => ?_)
       generalize wr.drew = w9 at BK130 HB hx131_0 hx131_1 hx131_2 hx131_3 hHeld ⊢
       refine qp 0 8 13 1 HT_ ?_
       refine qp 1 9 13 3 HT_ ?_
       refine qp 2 10 13 7 HT_ ?_
       refine qp 3 11 13 15 HT_ ?_
       refine qp 4 12 13 31 HT_ ?_
       refine qp 5 13 13 63 HT_ ?_
       refine qp 6 14 13 127 HT_ ?_
       refine qp 7 15 13 255 HT_ ?_
       refine qk 8 16 13 511 HT_ HW_ hHeld ?_
       refine qk 9 17 13 1023 HT_ HW_ hHeld ?_
       refine one_ (i := 10) (N := some 18) (bn 13 2047) rfl rfl (one_of HT_.out (by kernel_rfl)) (by decide) (fun K hK => ?_)
       refine goes_ Tryz.func73 (by kernel_rfl) rfl #[.agg #[.int .i64 ((rd_T62 l0 x5_1).f0), .int .i64 ((rd_T62 l0 x5_1).f1), .int .i64 ((rd_T62 l0 x5_1).f2), .int .i64 ((rd_T62 l0 x5_1).f3)], .agg #[.int .i64 a1_0, .int .i64 a1_1, .int .i64 a1_2, .int .i64 a1_3]] (by rfl) rfl rfl zq6 ?_
       with_reducible refine (spec_poOrder.calls ((rd_T62 l0 x5_1).f0) ((rd_T62 l0 x5_1).f1) ((rd_T62 l0 x5_1).f2) ((rd_T62 l0 x5_1).f3) a1_0 a1_1 a1_2 a1_3 t132 _ A7.out).mono ?_
       rintro e w10 ⟨rfl, hb⟩
       refine ⟨_, rfl, ?_⟩
       replace BK130 := qa (zbb BK130 hb); replace HB := qa (below_step (zb1 HB) hb)
       (try clear hb)
       (try clear hb2)
       (try clear hk)
       (try clear hi)
       refine hK.out _ _ ⟨zc BK130 0, zc BK130 1, zc BK130 2, zc BK130 3, (qb HB hw131_0), (qb HB hw131_1), (qb HB hw131_2), (qb HB hw131_3)⟩ (fun hHeld => ?_)
       clear hK K
       refine qt ?_
       refine qp 11 19 13 4095 HT_ ?_
       refine qp 12 20 13 8191 HT_ ?_
       refine done_ (done_of HT_.out (by kernel_rfl)) ?_
       try go_wp2
       go_roundg k1
       case measure => have := HK1.out; omega
       case rel => exact ⟨(wrap64 (x5_1 + 1)), qf, H', ⟨by have := HK1.out; omega⟩, ⟨zq1 BK130⟩, ⟨(zb1 HB)⟩⟩
      ·
       rw [if_neg c8] at H
       have c8b0 := decide_eq_false c8
       clear c8
       have H' := qa H
       clear H
       try go_wp2
       replace BK130 := qa (blk_drew BK130.out); replace HB := qa (below_drew1 HB.out)
       have p131 : 0 ≤ (x5_1 : Int) := qd
       have q131 : x5_1 < (l0.length : Int) := qd
       obtain ⟨ad131, e131, hx131_0, hx131_1, hx131_2, hx131_3⟩ := at_T62 HR0.out x5_1 p131 q131
       have hw131_3 := hx131_3; have hw131_2 := hx131_2; have hw131_1 := hx131_1; have hw131_0 := hx131_0
       cases e131
       replace hx131_0 := qb HB hx131_0
       replace hx131_1 := qb HB hx131_1
       replace hx131_2 := qb HB hx131_2
       replace hx131_3 := qb HB hx131_3
       replace p131 := eq_true p131
       replace q131 := eq_true q131
       refine start_ (n := 13) (S := fun w' => w'.cell? ⟨gb130, 0, none⟩ = some (.int .i64 a1_0) ∧ w'.cell? ⟨gb130, 1, none⟩ = some (.int .i64 a1_1) ∧ w'.cell? ⟨gb130, 2, none⟩ = some (.int .i64 a1_2) ∧ w'.cell? ⟨gb130, 3, none⟩ = some (.int .i64 a1_3) ∧ w'.cell? (ad131.add ((x5_1).toNat * 4)) = some (.int .i64 ((rd_T62 l0 x5_1).f0)) ∧ w'.cell? ⟨(ad131.add ((x5_1).toNat * 4)).block, (ad131.add ((x5_1).toNat * 4)).off + 1, none⟩ = some (.int .i64 ((rd_T62 l0 x5_1).f1)) ∧ w'.cell? ⟨(ad131.add ((x5_1).toNat * 4)).block, (ad131.add ((x5_1).toNat * 4)).off + 2, none⟩ = some (.int .i64 ((rd_T62 l0 x5_1).f2)) ∧ w'.cell? ⟨(ad131.add ((x5_1).toNat * 4)).block, (ad131.add ((x5_1).toNat * 4)).off + 3, none⟩ = some (.int .i64 ((rd_T62 l0 x5_1).f3))) (ds := []) (bn 13 0) (by kernel_rfl) rfl rfl ⟨zc BK130 0, zc BK130 1, zc BK130 2, zc BK130 3, (qb HB hw131_0), (qb HB hw131_1), (qb HB hw131_2), (qb HB hw131_3)⟩ (fun hHeld => ?_); refine with_tabW spec_poPut.tab2 spec_poPut.bits2 (fun HT_ HW_ => ?_)
       generalize wr.drew = w11 at BK130 HB hx131_0 hx131_1 hx131_2 hx131_3 hHeld ⊢
       refine qp 0 8 13 1 HT_ ?_
       refine qp 1 9 13 3 HT_ ?_
       refine qp 2 10 13 7 HT_ ?_
       refine qp 3 11 13 15 HT_ ?_
       refine qp 4 12 13 31 HT_ ?_
       refine qp 5 13 13 63 HT_ ?_
       refine qp 6 14 13 127 HT_ ?_
       refine qp 7 15 13 255 HT_ ?_
       refine qk 8 16 13 511 HT_ HW_ hHeld ?_
       refine qk 9 17 13 1023 HT_ HW_ hHeld ?_
       refine one_ (i := 10) (N := some 18) (bn 13 2047) rfl rfl (one_of HT_.out (by kernel_rfl)) (by decide) (fun K hK => ?_)
       refine goes_ Tryz.func73 (by kernel_rfl) rfl #[.agg #[.int .i64 ((rd_T62 l0 x5_1).f0), .int .i64 ((rd_T62 l0 x5_1).f1), .int .i64 ((rd_T62 l0 x5_1).f2), .int .i64 ((rd_T62 l0 x5_1).f3)], .agg #[.int .i64 a1_0, .int .i64 a1_1, .int .i64 a1_2, .int .i64 a1_3]] (by rfl) rfl rfl zq6 ?_
       with_reducible refine (spec_poOrder.calls ((rd_T62 l0 x5_1).f0) ((rd_T62 l0 x5_1).f1) ((rd_T62 l0 x5_1).f2) ((rd_T62 l0 x5_1).f3) a1_0 a1_1 a1_2 a1_3 t132 _ A7.out).mono ?_
       rintro e w12 ⟨rfl, hb⟩
       refine ⟨_, rfl, ?_⟩
       replace BK130 := qa (zbb BK130 hb); replace HB := qa (below_step (zb1 HB) hb)
       (try clear hb)
       (try clear hb2)
       (try clear hk)
       (try clear hi)
       refine hK.out _ _ ⟨zc BK130 0, zc BK130 1, zc BK130 2, zc BK130 3, (qb HB hw131_0), (qb HB hw131_1), (qb HB hw131_2), (qb HB hw131_3)⟩ (fun hHeld => ?_)
       clear hK K
       refine qt ?_
       refine qp 11 19 13 4095 HT_ ?_
       refine qp 12 20 13 8191 HT_ ?_
       refine done_ (done_of HT_.out (by kernel_rfl)) ?_
       try go_wp2
       go_meet
       case rel => exact ⟨_, (x5_1), qf, H', ⟨by have := HK1.out; first | omega | exact Nat.le_refl _⟩, ⟨zq1 BK130⟩, ⟨(zb1 HB)⟩⟩
     ·
      rw [if_neg c6] at H
      exact absurd H (by simp)
    ·
     rw [if_neg c5] at H
     have c5b0 := decide_eq_false c5
     clear c5
     (first | rw [c5b0] | (simp only [i64_w, i32_w]; rw [c5b0]) | skip)
     have H' := qa H
     clear H
     try go_wp2
     replace BK130 := qa (blk_drew BK130.out); replace HB := qa (below_drew1 HB.out)
     refine start_ (n := 13) (S := fun w' => True) (ds := []) (bn 13 0) (by kernel_rfl) rfl rfl trivial (fun hHeld => ?_); refine with_tabW spec_poPut.tab2 spec_poPut.bits2 (fun HT_ HW_ => ?_)
     generalize wr.drew = w13 at BK130 HB hHeld ⊢
     refine qp 0 8 13 1 HT_ ?_
     refine qp 1 9 13 3 HT_ ?_
     refine qp 2 10 13 7 HT_ ?_
     refine qp 3 11 13 15 HT_ ?_
     refine qp 4 12 13 31 HT_ ?_
     refine qu 5 13 13 63 HT_ ?_
     refine qu 6 14 13 127 HT_ ?_
     refine qu 7 15 13 255 HT_ ?_
     refine qu 8 16 13 511 HT_ ?_
     refine qu 9 17 13 1023 HT_ ?_
     refine qu 10 18 13 2047 HT_ ?_
     refine qu 11 19 13 4095 HT_ ?_
     refine qp 12 20 13 8191 HT_ ?_
     refine done_ (done_of HT_.out (by kernel_rfl)) ?_
     try go_wp2
     go_meet
     case rel => exact ⟨_, (x5_1), qf, H', ⟨by have := HK1.out; first | omega | exact Nat.le_refl _⟩, ⟨zq1 BK130⟩, ⟨(zb1 HB)⟩⟩
 case rest =>
  clear HC3
  try clear p1
  try clear q1
  try clear hx1
  try clear p2
  try clear c5
  try clear c5b0
  try clear c6
  try clear c6b0
  try clear p6
  try clear c7
  try clear c8
  try clear c8b0
  try clear p13
  try clear q13
  try clear hx13
  try clear hx131_0
  try clear hx131_1
  try clear hx131_2
  try clear hx131_3
  try clear p131
  try clear p2
  try clear q131
  obtain ⟨kq, x5_2, rfl, HA, HJ2, BK130, HB⟩ := hcut
  cases kq with
  | zero => exact absurd HA.out (by simp [spec_poPut.j1])
  | succ kj2 =>
   have H := HA.out
   clear HA
   simp only [spec_poPut.j1] at H
   by_cases c14 : 0 ≤ x5_2
   ·
    rw [if_pos c14] at H
    have c14b0 := eq_true c14
    have c14b1 := decide_eq_true c14
    clear c14
    by_cases c15 : x5_2 ≤ (l0.length : Int)
    ·
     rw [if_pos c15] at H
     have c15b0 := eq_true c15
     have c15b1 := decide_eq_true c15
     clear c15
     obtain ⟨y133, hy133⟩ : ∃ y_ : List (S62), y_ = (l0.drop (x5_2 : Int).toNat) := ⟨_, rfl⟩
     replace H : (if x5_2 < (l0.length : Int) then ((spec_poOrder.f ((rd_T62 l0 x5_2).f0) ((rd_T62 l0 x5_2).f1) ((rd_T62 l0 x5_2).f2) ((rd_T62 l0 x5_2).f3) a1_0 a1_1 a1_2 a1_3).bind fun t138 => (spec_poPut.j2 kj2 l0 x5_2 y133 (t138 == 0) a1_0 a1_1 a1_2 a1_3)) else (spec_poPut.j2 kj2 l0 x5_2 y133 false a1_0 a1_1 a1_2 a1_3)) = some r := by first | (rw [hy133]; with_reducible exact H) | (have H2_ := (Option.bind_some _ _).symm.trans H; rw [hy133]; with_reducible exact H2_) | (have H2_ := (Option.bind_some _ _).symm.trans H; with_reducible exact H2_) | with_reducible exact H | (rw [hy133]; exact H) | exact H
     have Ny133 := qa hy133
     clear hy133
     have HC16 := qa H
     clear H
     have q17 : (x5_2 : Int) ≤ ((l0.length : Int) : Int) := qd
     obtain ⟨i017, hi017, _, hsz17, _⟩ := info_parts info62
     have hroom17 : l0.length ≤ c0 := HC0.out
     have hC17 : Kd.C k62 _ A0 l0.length l0 := HR0.out
     have q017 : (0 : Int) ≤ (x5_2 : Int) := qd
     have hcut17 := cut_from (P := Tryz.prog) 24 62 .i64 Tryz.underlying24 hi017 4 hsz17 A0 l0.length c0 x5_2 q017 q17
     have hr17 := Kd.C_drop (m := (x5_2 : Int).toNat) (c := c0) hC17 (by omega) hroom17
     obtain ⟨A17, hA17⟩ : ∃ A1, A1 = (if c0 = (x5_2 : Int).toNat then A0 else (A0 : Option Addr).map (·.add ((x5_2 : Int).toNat * 4))) := ⟨_, rfl⟩
     obtain ⟨c17, hc17⟩ : ∃ c1, c1 = c0 - (x5_2 : Int).toNat := ⟨_, rfl⟩
     have hy17 : y133.length = l0.length - (x5_2 : Int).toNat := (by rw [Ny133.out, List.length_drop] <;> omega)
     rw [show (l0).drop (x5_2 : Int).toNat = y133 from Ny133.out.symm] at hr17
     replace hr17 : Kd.C k62 _ A17 y133.length y133 := (by rw [hA17]; exact hr17)
     rw [← hy17, ← hA17, ← hc17] at hcut17
     have HR136 := qa hr17
     have HC136 := qa (show y133.length ≤ c17 from by rw [hy17, hc17]; exact Nat.sub_le_sub_right hroom17 _)
     clear hr17 hC17 hroom17 hi017 hsz17 hc17
     have KY17 := qa hy17
     have KA17 := qa hA17
     clear hy17 hA17
     replace q17 := eq_true q17
     go_upto_region 5 with (fail)
     go_cut [38] (fun v38 wc => ∃ (kq : Nat) (x38_15 : Bool), v38 = .bool x38_15 ∧ Aside0 (spec_poPut.j2 kq l0 x5_2 y133 x38_15 a1_0 a1_1 a1_2 a1_3 = some r) ∧ Aside0 (kq ≤ kj2) ∧ Aside0 (wc.heap[gb130]? = some (.cells #[.int .i64 a1_0, .int .i64 a1_1, .int .i64 a1_2, .int .i64 a1_3] 62 (0, 0))) ∧ Aside0 (Below w.heap.size w wc))
     case first =>
      have H := HC16.out
      clear HC16
      by_cases c18 : x5_2 < (l0.length : Int)
      ·
       rw [if_pos c18] at H
       have c18b0 := decide_eq_true c18
       clear c18
       (first | rw [c18b0] | (simp only [i64_w, i32_w]; rw [c18b0]) | skip)
       replace H := qo H
       obtain ⟨t138, A19, H⟩ := H
       replace H : (spec_poPut.j2 kj2 l0 x5_2 y133 (t138 == 0) a1_0 a1_1 a1_2 a1_3) = some r := H
       have H' := qa H
       clear H
       try go_wp2
       replace BK130 := qa (blk_drew BK130.out); replace HB := qa (below_drew1 HB.out)
       have p137 : 0 ≤ (x5_2 : Int) := qd
       have q137 : x5_2 < (l0.length : Int) := qd
       obtain ⟨ad137, e137, hx137_0, hx137_1, hx137_2, hx137_3⟩ := at_T62 HR0.out x5_2 p137 q137
       have hw137_3 := hx137_3; have hw137_2 := hx137_2; have hw137_1 := hx137_1; have hw137_0 := hx137_0
       cases e137
       replace hx137_0 := qb HB hx137_0
       replace hx137_1 := qb HB hx137_1
       replace hx137_2 := qb HB hx137_2
       replace hx137_3 := qb HB hx137_3
       replace p137 := eq_true p137
       replace q137 := eq_true q137
       refine start_ (n := 13) (S := fun w' => w'.cell? ⟨gb130, 0, none⟩ = some (.int .i64 a1_0) ∧ w'.cell? ⟨gb130, 1, none⟩ = some (.int .i64 a1_1) ∧ w'.cell? ⟨gb130, 2, none⟩ = some (.int .i64 a1_2) ∧ w'.cell? ⟨gb130, 3, none⟩ = some (.int .i64 a1_3) ∧ w'.cell? (ad137.add ((x5_2).toNat * 4)) = some (.int .i64 ((rd_T62 l0 x5_2).f0)) ∧ w'.cell? ⟨(ad137.add ((x5_2).toNat * 4)).block, (ad137.add ((x5_2).toNat * 4)).off + 1, none⟩ = some (.int .i64 ((rd_T62 l0 x5_2).f1)) ∧ w'.cell? ⟨(ad137.add ((x5_2).toNat * 4)).block, (ad137.add ((x5_2).toNat * 4)).off + 2, none⟩ = some (.int .i64 ((rd_T62 l0 x5_2).f2)) ∧ w'.cell? ⟨(ad137.add ((x5_2).toNat * 4)).block, (ad137.add ((x5_2).toNat * 4)).off + 3, none⟩ = some (.int .i64 ((rd_T62 l0 x5_2).f3))) (ds := []) (bn 13 0) (by kernel_rfl) rfl rfl ⟨zc BK130 0, zc BK130 1, zc BK130 2, zc BK130 3, (qb HB hw137_0), (qb HB hw137_1), (qb HB hw137_2), (qb HB hw137_3)⟩ (fun hHeld => ?_); refine with_tabW spec_poPut.tab5 spec_poPut.bits5 (fun HT_ HW_ => ?_)
       generalize wc.drew = w20 at BK130 HB hx137_0 hx137_1 hx137_2 hx137_3 hHeld ⊢
       refine qp 0 26 13 1 HT_ ?_
       refine qp 1 27 13 3 HT_ ?_
       refine qp 2 28 13 7 HT_ ?_
       refine qp 3 29 13 15 HT_ ?_
       refine qp 4 30 13 31 HT_ ?_
       refine qp 5 31 13 63 HT_ ?_
       refine qp 6 32 13 127 HT_ ?_
       refine qp 7 33 13 255 HT_ ?_
       refine qk 8 34 13 511 HT_ HW_ hHeld ?_
       refine qk 9 35 13 1023 HT_ HW_ hHeld ?_
       refine one_ (i := 10) (N := some 36) (bn 13 2047) rfl rfl (one_of HT_.out (by kernel_rfl)) (by decide) (fun K hK => ?_)
       refine goes_ Tryz.func73 (by kernel_rfl) rfl #[.agg #[.int .i64 ((rd_T62 l0 x5_2).f0), .int .i64 ((rd_T62 l0 x5_2).f1), .int .i64 ((rd_T62 l0 x5_2).f2), .int .i64 ((rd_T62 l0 x5_2).f3)], .agg #[.int .i64 a1_0, .int .i64 a1_1, .int .i64 a1_2, .int .i64 a1_3]] (by rfl) rfl rfl zq6 ?_
       with_reducible refine (spec_poOrder.calls ((rd_T62 l0 x5_2).f0) ((rd_T62 l0 x5_2).f1) ((rd_T62 l0 x5_2).f2) ((rd_T62 l0 x5_2).f3) a1_0 a1_1 a1_2 a1_3 t138 _ A19.out).mono ?_
       rintro e w21 ⟨rfl, hb⟩
       refine ⟨_, rfl, ?_⟩
       replace BK130 := qa (zbb BK130 hb); replace HB := qa (below_step (zb1 HB) hb)
       (try clear hb)
       (try clear hb2)
       (try clear hk)
       (try clear hi)
       refine hK.out _ _ ⟨zc BK130 0, zc BK130 1, zc BK130 2, zc BK130 3, (qb HB hw137_0), (qb HB hw137_1), (qb HB hw137_2), (qb HB hw137_3)⟩ (fun hHeld => ?_)
       clear hK K
       refine qt ?_
       refine qp 11 37 13 4095 HT_ ?_
       refine qp 12 38 13 8191 HT_ ?_
       refine done_ (done_of HT_.out (by kernel_rfl)) ?_
       try go_wp2
       go_meet
       case rel => exact ⟨_, ((t138 == 0)), qf, H', ⟨by have := HJ2.out; first | omega | exact Nat.le_refl _⟩, ⟨zq1 BK130⟩, ⟨(zb1 HB)⟩⟩
      ·
       rw [if_neg c18] at H
       have c18b0 := decide_eq_false c18
       clear c18
       (first | rw [c18b0] | (simp only [i64_w, i32_w]; rw [c18b0]) | skip)
       have H' := qa H
       clear H
       try go_wp2
       replace BK130 := qa (blk_drew BK130.out); replace HB := qa (below_drew1 HB.out)
       refine start_ (n := 13) (S := fun w' => True) (ds := []) (bn 13 0) (by kernel_rfl) rfl rfl trivial (fun hHeld => ?_); refine with_tabW spec_poPut.tab5 spec_poPut.bits5 (fun HT_ HW_ => ?_)
       generalize wc.drew = w22 at BK130 HB hHeld ⊢
       refine qp 0 26 13 1 HT_ ?_
       refine qp 1 27 13 3 HT_ ?_
       refine qp 2 28 13 7 HT_ ?_
       refine qp 3 29 13 15 HT_ ?_
       refine qp 4 30 13 31 HT_ ?_
       refine qu 5 31 13 63 HT_ ?_
       refine qu 6 32 13 127 HT_ ?_
       refine qu 7 33 13 255 HT_ ?_
       refine qu 8 34 13 511 HT_ ?_
       refine qu 9 35 13 1023 HT_ ?_
       refine qu 10 36 13 2047 HT_ ?_
       refine qu 11 37 13 4095 HT_ ?_
       refine qp 12 38 13 8191 HT_ ?_
       refine done_ (done_of HT_.out (by kernel_rfl)) ?_
       try go_wp2
       go_meet
       case rel => exact ⟨_, (false), qf, H', ⟨by have := HJ2.out; first | omega | exact Nat.le_refl _⟩, ⟨zq1 BK130⟩, ⟨(zb1 HB)⟩⟩
     case rest =>
      clear HC16
      try clear c1
      try clear p1
      try clear q1
      try clear hx1
      try clear p2
      try clear c5
      try clear c5b0
      try clear c6
      try clear c6b0
      try clear p6
      try clear c7
      try clear c8
      try clear c8b0
      try clear p13
      try clear q13
      try clear hx13
      try clear c14
      try clear c14b0
      try clear c14b1
      try clear c15
      try clear c15b0
      try clear c15b1
      try clear c17
      try clear q17
      try clear c18
      try clear c18b0
      try clear hx131_0
      try clear hx131_1
      try clear hx131_2
      try clear hx131_3
      try clear hx137_0
      try clear hx137_1
      try clear hx137_2
      try clear hx137_3
      try clear p1
      try clear p13
      try clear p131
      try clear p137
      try clear p2
      try clear p6
      try clear q017
      try clear q1
      try clear q13
      try clear q131
      try clear q137
      try clear q17
      obtain ⟨kq, x38_15, rfl, HA, HJ15, BK130, HB⟩ := hcut
      cases kq with
      | zero => exact absurd HA.out (by simp [spec_poPut.j2])
      | succ kj15 =>
       have H := HA.out
       clear HA
       simp only [spec_poPut.j2] at H
       by_cases c23 : x38_15 = true
       ·
        subst c23
        have H1 : (if 0 ≤ x5_2 then (if x5_2 < (l0.length : Int) then (if 0 ≤ (wrap64 (x5_2 + 1)) then (if (wrap64 (x5_2 + 1)) ≤ (l0.length : Int) then ((some (l0.drop ((wrap64 (x5_2 + 1)) : Int).toNat : List (S62))).bind fun y140 => ((some (([] : List (S62)) : List (S62))).bind fun y144 => (if x5_2 ≤ (l0.length : Int) then ((some (l0.take (x5_2 : Int).toNat : List (S62))).bind fun y147 => (if y144.length + y147.length < 4398046511104 then ((some (y144 ++ y147 : List (S62))).bind fun y151 => (if (wrap64 (a1_0 + ((rd_T62 l0 x5_2).f0))) = 0 then (if y151.length + y140.length < 4398046511104 then (some (y151 ++ y140)) else (none)) else (if y151.length < 4398046511104 then ((some (y151 ++ [(⟨wrap64 (a1_0 + ((rd_T62 l0 x5_2).f0)), a1_1, a1_2, a1_3⟩ : S62)] : List (S62))).bind fun y157 => (if y157.length + y140.length < 4398046511104 then (some (y157 ++ y140)) else (none))) else (none)))) else (none))) else (none)))) else (none)) else (none)) else (none)) else (none)) = some r := by rw [if_pos rfl] at H; exact H
        clear H
        have H := H1
        clear H1
        by_cases c24 : 0 ≤ x5_2
        ·
         rw [if_pos c24] at H
         have c24b0 := decide_eq_true c24
         clear c24
         by_cases c25 : x5_2 < (l0.length : Int)
         ·
          rw [if_pos c25] at H
          have c25b0 := decide_eq_true c25
          clear c25
          obtain ⟨ji26, hji26⟩ : ∃ j_ : Int, (wrap64 (x5_2 + 1)) = j_ := ⟨_, rfl⟩
          replace H : (if 0 ≤ (ji26) then (if (ji26) ≤ (l0.length : Int) then ((some (l0.drop ((ji26) : Int).toNat : List (S62))).bind fun y140 => ((some (([] : List (S62)) : List (S62))).bind fun y144 => (if x5_2 ≤ (l0.length : Int) then ((some (l0.take (x5_2 : Int).toNat : List (S62))).bind fun y147 => (if y144.length + y147.length < 4398046511104 then ((some (y144 ++ y147 : List (S62))).bind fun y151 => (if (wrap64 (a1_0 + ((rd_T62 l0 x5_2).f0))) = 0 then (if y151.length + y140.length < 4398046511104 then (some (y151 ++ y140)) else (none)) else (if y151.length < 4398046511104 then ((some (y151 ++ [(⟨wrap64 (a1_0 + ((rd_T62 l0 x5_2).f0)), a1_1, a1_2, a1_3⟩ : S62)] : List (S62))).bind fun y157 => (if y157.length + y140.length < 4398046511104 then (some (y157 ++ y140)) else (none))) else (none)))) else (none))) else (none)))) else (none)) else (none)) = some r := by first | (rw [hji26] at H; exact H) | (simp only [hji26] at H ⊢; exact H)
          have hji26w : (IntKind.i64.wrap (x5_2 + 1)) = ji26 := (i64_w _).trans hji26
          by_cases c27 : 0 ≤ (ji26)
          ·
           rw [if_pos c27] at H
           have c27b0 := eq_true c27
           have c27b1 := decide_eq_true c27
           clear c27
           by_cases c28 : (ji26) ≤ (l0.length : Int)
           ·
            rw [if_pos c28] at H
            have c28b0 := eq_true c28
            have c28b1 := decide_eq_true c28
            clear c28
            obtain ⟨y140, hy140⟩ : ∃ y_ : List (S62), y_ = (l0.drop ((ji26) : Int).toNat) := ⟨_, rfl⟩
            replace H : ((some (([] : List (S62)) : List (S62))).bind fun y144 => (if x5_2 ≤ (l0.length : Int) then ((some (l0.take (x5_2 : Int).toNat : List (S62))).bind fun y147 => (if y144.length + y147.length < 4398046511104 then ((some (y144 ++ y147 : List (S62))).bind fun y151 => (if (wrap64 (a1_0 + ((rd_T62 l0 x5_2).f0))) = 0 then (if y151.length + y140.length < 4398046511104 then (some (y151 ++ y140)) else (none)) else (if y151.length < 4398046511104 then ((some (y151 ++ [(⟨wrap64 (a1_0 + ((rd_T62 l0 x5_2).f0)), a1_1, a1_2, a1_3⟩ : S62)] : List (S62))).bind fun y157 => (if y157.length + y140.length < 4398046511104 then (some (y157 ++ y140)) else (none))) else (none)))) else (none))) else (none))) = some r := by first | (rw [hy140]; with_reducible exact H) | (have H2_ := (Option.bind_some _ _).symm.trans H; rw [hy140]; with_reducible exact H2_) | (have H2_ := (Option.bind_some _ _).symm.trans H; with_reducible exact H2_) | with_reducible exact H | (rw [hy140]; exact H) | exact H
            have Ny140 := qa hy140
            clear hy140
            obtain ⟨y144, hy144⟩ : ∃ y_ : List (S62), y_ = (([] : List (S62))) := ⟨_, rfl⟩
            replace H : (if x5_2 ≤ (l0.length : Int) then ((some (l0.take (x5_2 : Int).toNat : List (S62))).bind fun y147 => (if y144.length + y147.length < 4398046511104 then ((some (y144 ++ y147 : List (S62))).bind fun y151 => (if (wrap64 (a1_0 + ((rd_T62 l0 x5_2).f0))) = 0 then (if y151.length + y140.length < 4398046511104 then (some (y151 ++ y140)) else (none)) else (if y151.length < 4398046511104 then ((some (y151 ++ [(⟨wrap64 (a1_0 + ((rd_T62 l0 x5_2).f0)), a1_1, a1_2, a1_3⟩ : S62)] : List (S62))).bind fun y157 => (if y157.length + y140.length < 4398046511104 then (some (y157 ++ y140)) else (none))) else (none)))) else (none))) else (none)) = some r := by first | (rw [hy144]; with_reducible exact H) | (have H2_ := (Option.bind_some _ _).symm.trans H; rw [hy144]; with_reducible exact H2_) | (have H2_ := (Option.bind_some _ _).symm.trans H; with_reducible exact H2_) | with_reducible exact H | (rw [hy144]; exact H) | exact H
            have Ny144 := qa hy144
            clear hy144
            have c29b0 := eq_true (qd : 0 ≤ x5_2)
            by_cases c30 : x5_2 ≤ (l0.length : Int)
            ·
             rw [if_pos c30] at H
             have c30b0 := eq_true c30
             have c30b1 := decide_eq_true c30
             clear c30
             obtain ⟨y147, hy147⟩ : ∃ y_ : List (S62), y_ = (l0.take (x5_2 : Int).toNat) := ⟨_, rfl⟩
             replace H : (if y144.length + y147.length < 4398046511104 then ((some (y144 ++ y147 : List (S62))).bind fun y151 => (if (wrap64 (a1_0 + ((rd_T62 l0 x5_2).f0))) = 0 then (if y151.length + y140.length < 4398046511104 then (some (y151 ++ y140)) else (none)) else (if y151.length < 4398046511104 then ((some (y151 ++ [(⟨wrap64 (a1_0 + ((rd_T62 l0 x5_2).f0)), a1_1, a1_2, a1_3⟩ : S62)] : List (S62))).bind fun y157 => (if y157.length + y140.length < 4398046511104 then (some (y157 ++ y140)) else (none))) else (none)))) else (none)) = some r := by first | (rw [hy147]; with_reducible exact H) | (have H2_ := (Option.bind_some _ _).symm.trans H; rw [hy147]; with_reducible exact H2_) | (have H2_ := (Option.bind_some _ _).symm.trans H; with_reducible exact H2_) | with_reducible exact H | (rw [hy147]; exact H) | exact H
             have Ny147 := qa hy147
             clear hy147
             by_cases c31 : y144.length + y147.length < 4398046511104
             ·
              rw [if_pos c31] at H
              have LMc31 := qa c31
              clear c31
              obtain ⟨y151, hy151⟩ : ∃ y_ : List (S62), y_ = (y144 ++ y147) := ⟨_, rfl⟩
              replace H : (if (wrap64 (a1_0 + ((rd_T62 l0 x5_2).f0))) = 0 then (if y151.length + y140.length < 4398046511104 then (some (y151 ++ y140)) else (none)) else (if y151.length < 4398046511104 then ((some (y151 ++ [(⟨wrap64 (a1_0 + ((rd_T62 l0 x5_2).f0)), a1_1, a1_2, a1_3⟩ : S62)] : List (S62))).bind fun y157 => (if y157.length + y140.length < 4398046511104 then (some (y157 ++ y140)) else (none))) else (none))) = some r := by first | (rw [hy151]; with_reducible exact H) | (have H2_ := (Option.bind_some _ _).symm.trans H; rw [hy151]; with_reducible exact H2_) | (have H2_ := (Option.bind_some _ _).symm.trans H; with_reducible exact H2_) | with_reducible exact H | (rw [hy151]; exact H) | exact H
              have Ny151 := qa hy151
              clear hy151
              by_cases c32 : (wrap64 (a1_0 + ((rd_T62 l0 x5_2).f0))) = 0
              ·
               rw [if_pos c32] at H
               have c32b0 : ((wrap64 (a1_0 + ((rd_T62 l0 x5_2).f0))) == 0) = true := beq_iff_eq.mpr c32
               have c32b1 : ((wrap64 (a1_0 + ((rd_T62 l0 x5_2).f0))) != 0) = false := bne_eq_false_iff_eq.mpr c32
               clear c32
               by_cases c33 : y151.length + y140.length < 4398046511104
               ·
                rw [if_pos c33] at H
                have LMc33 := qa c33
                clear c33
                obtain ⟨y154, hy154⟩ : ∃ y_ : List (S62), y_ = (y151 ++ y140) := ⟨_, rfl⟩
                replace H : (some y154) = some r := by first | (rw [hy154]; with_reducible exact H) | (have H2_ := (Option.bind_some _ _).symm.trans H; rw [hy154]; with_reducible exact H2_) | (have H2_ := (Option.bind_some _ _).symm.trans H; with_reducible exact H2_) | with_reducible exact H | (rw [hy154]; exact H) | exact H
                have Ny154 := qa hy154
                clear hy154
                obtain rfl := Option.some.inj H
                try go_wp2
                replace BK130 := qa (blk_drew BK130.out); replace HB := qa (below_drew1 HB.out)
                have p139 : 0 ≤ (x5_2 : Int) := qd
                have q139 : x5_2 < (l0.length : Int) := qd
                obtain ⟨ad139, e139, hx139_0, hx139_1, hx139_2, hx139_3⟩ := at_T62 HR0.out x5_2 p139 q139
                have hw139_3 := hx139_3; have hw139_2 := hx139_2; have hw139_1 := hx139_1; have hw139_0 := hx139_0
                cases e139
                replace hx139_0 := qb HB hx139_0
                replace hx139_1 := qb HB hx139_1
                replace hx139_2 := qb HB hx139_2
                replace hx139_3 := qb HB hx139_3
                replace p139 := eq_true p139
                replace q139 := eq_true q139
                refine start_ (n := 10) (S := fun w' => w'.cell? ⟨gb130, 0, none⟩ = some (.int .i64 a1_0) ∧ w'.cell? ⟨gb130, 1, none⟩ = some (.int .i64 a1_1) ∧ w'.cell? ⟨gb130, 2, none⟩ = some (.int .i64 a1_2) ∧ w'.cell? ⟨gb130, 3, none⟩ = some (.int .i64 a1_3) ∧ w'.cell? (ad139.add ((x5_2).toNat * 4)) = some (.int .i64 ((rd_T62 l0 x5_2).f0)) ∧ w'.cell? ⟨(ad139.add ((x5_2).toNat * 4)).block, (ad139.add ((x5_2).toNat * 4)).off + 1, none⟩ = some (.int .i64 ((rd_T62 l0 x5_2).f1)) ∧ w'.cell? ⟨(ad139.add ((x5_2).toNat * 4)).block, (ad139.add ((x5_2).toNat * 4)).off + 2, none⟩ = some (.int .i64 ((rd_T62 l0 x5_2).f2)) ∧ w'.cell? ⟨(ad139.add ((x5_2).toNat * 4)).block, (ad139.add ((x5_2).toNat * 4)).off + 3, none⟩ = some (.int .i64 ((rd_T62 l0 x5_2).f3))) (ds := [9]) (bn 10 0) (by kernel_rfl) rfl rfl ⟨zc BK130 0, zc BK130 1, zc BK130 2, zc BK130 3, (qb HB hw139_0), (qb HB hw139_1), (qb HB hw139_2), (qb HB hw139_3)⟩ (fun hHeld => ?_); refine with_tabW spec_poPut.tab6 spec_poPut.bits6 (fun HT_ HW_ => ?_)
                generalize wc.drew = w34 at BK130 HB hx139_0 hx139_1 hx139_2 hx139_3 hHeld ⊢
                refine qp 0 39 10 1 HT_ ?_
                refine qp 2 41 10 5 HT_ ?_
                refine qp 3 42 10 13 HT_ ?_
                refine qp 4 43 10 29 HT_ ?_
                refine qp 5 44 10 61 HT_ ?_
                refine qk 1 40 10 63 HT_ HW_ hHeld ?_
                refine qk 6 45 10 127 HT_ HW_ hHeld ?_
                refine qp 7 46 10 255 HT_ ?_
                refine qp 8 47 10 511 HT_ ?_
                refine last_ (i := 9) (N := none) #[true, true, true, true, true, true, true, true, true, true] rfl rfl (one_of HT_.out (by kernel_rfl)) (by decide) (fun K hK => ?_)
                have hs35 : w34.cell? ⟨gb130, 0, none⟩ = some (.int .i64 a1_0) := zc BK130 0
                have hfs35 := blk_frozen BK130.out 0
                refine skip_ (w1 := ?_) (by rfl) rfl ?_ ?_
                rotate_left
                ·
                 go_simp
                 rfl
                refine hK.out _ _ ?_
                clear hK K
                refine done_ (done_of HT_.out (by kernel_rfl)) ?_
                have n0_ : Aside0 ((w34.setCell ⟨gb130, 0, none⟩ (.int .i64 (wrap64 (a1_0 + ((rd_T62 l0 x5_2).f0))))).heap[gb130]? = some (.cells #[.int .i64 (wrap64 (a1_0 + ((rd_T62 l0 x5_2).f0))), .int .i64 a1_1, .int .i64 a1_2, .int .i64 a1_3] 62 (0, 0))) := ⟨qs BK130⟩
                have n1_ : Aside0 (Below w.heap.size w (w34.setCell ⟨gb130, 0, none⟩ (.int .i64 (wrap64 (a1_0 + ((rd_T62 l0 x5_2).f0)))))) := ⟨(zb1 HB)⟩
                (try clear BK130)
                (try clear HB)
                generalize (w34.setCell ⟨gb130, 0, none⟩ (.int .i64 (wrap64 (a1_0 + ((rd_T62 l0 x5_2).f0))))) = w36 at n0_ n1_ ⊢
                have BK130 := n0_; have HB := n1_
                clear n0_ n1_
                have q37 : ((ji26) : Int) ≤ ((l0.length : Int) : Int) := qd
                obtain ⟨i037, hi037, _, hsz37, _⟩ := info_parts info62
                have hroom37 : l0.length ≤ c0 := HC0.out
                have hC37 : Kd.C k62 _ (some ad139) l0.length l0 := HR0.out
                have q037 : (0 : Int) ≤ ((ji26) : Int) := qd
                have hcut37 := cut_from (P := Tryz.prog) 24 62 .i64 Tryz.underlying24 hi037 4 hsz37 (some ad139) l0.length c0 (ji26) q037 q37
                have hr37 := Kd.C_drop (m := ((ji26) : Int).toNat) (c := c0) hC37 (by omega) hroom37
                obtain ⟨A37, hA37⟩ : ∃ A1, A1 = (if c0 = ((ji26) : Int).toNat then (some ad139) else ((some ad139) : Option Addr).map (·.add (((ji26) : Int).toNat * 4))) := ⟨_, rfl⟩
                obtain ⟨c37, hc37⟩ : ∃ c1, c1 = c0 - ((ji26) : Int).toNat := ⟨_, rfl⟩
                have hy37 : y140.length = l0.length - ((ji26) : Int).toNat := (by rw [Ny140.out, List.length_drop] <;> omega)
                rw [show (l0).drop ((ji26) : Int).toNat = y140 from Ny140.out.symm] at hr37
                replace hr37 : Kd.C k62 _ A37 y140.length y140 := (by rw [hA37]; exact hr37)
                rw [← hy37, ← hA37, ← hc37] at hcut37
                have HR143 := qa hr37
                have HC143 := qa (show y140.length ≤ c37 from by rw [hy37, hc37]; exact Nat.sub_le_sub_right hroom37 _)
                clear hr37 hC37 hroom37 hi037 hsz37 hc37
                have KY37 := qa hy37
                have KA37 := qa hA37
                clear hy37 hA37
                replace q37 := eq_true q37
                try go_wp2_with (first | ((with_reducible refine gate_dst (N := 52) rfl ?_); refine Kd.R_lit k62 _ 62 ?hg (N := 52) ?hd (xs := ([] : List (S62))) (inner := []) (ok := fun _ => True) (okp := fun _ => True) ?hr ?hp (fun _ hk => hk) trivial (Below.refl _ _) (Nat.le_refl _) (by simp) ?_; (case hd => rfl); (case hg => rfl); (case hr => first | (go_simp; done) | (go_simp; rfl)); (case hp => exact (Reps.none _ _)); intro v145 w38 ho39 hb hg_ hnew_; clear hg_ hnew_; (first | rw [← Ny144.out] at ho39 | (simp only [Int.reduceToNat] at ho39; rw [← Ny144.out] at ho39)); have HO146 := qa (Kd.R_lower (Kd.R_newB ho39 (g := gb130) (o := .cells #[.int .i64 (wrap64 (a1_0 + ((rd_T62 l0 x5_2).f0))), .int .i64 a1_1, .int .i64 a1_2, .int .i64 a1_3] 62 (0, 0)) (zq1 BK130)) (below_size (zb1 HB))); replace BK130 := qa (zbb BK130 hb); replace HB := qa (below_step (zb1 HB) hb); clear hb ho39; have q40 : (x5_2 : Int) ≤ ((l0.length : Int) : Int) := qd; obtain ⟨i040, hi040, _, hsz40, _⟩ := info_parts info62; have hroom40 : l0.length ≤ c0 := HC0.out; have hC40 : Kd.C k62 _ (some ad139) l0.length l0 := HR0.out; have hcut40 := cut_to (P := Tryz.prog) 24 62 .i64 Tryz.underlying24 hi040 (some ad139) l0.length c0 x5_2 (qd) q40 hroom40; have hr40 := Kd.C_take (m := (x5_2 : Int).toNat) hC40 (by omega); have hy40 : y147.length = (x5_2 : Int).toNat := (by rw [Ny147.out, List.length_take]; omega); rw [← Ny147.out] at hr40; rw [← hy40] at hcut40; have HR150 := qa hr40; have HC150 := qa (show y147.length ≤ c0 from by omega); clear hr40 hC40 hroom40 hi040 hsz40; have KY40 := qa hy40; clear hy40; replace q40 := eq_true q40) | ((with_reducible refine gate_builtin (b := .append) (xs := #[.tmp 52, .tmp 55]) rfl ?_); at_builtin; refine Kd.R_append_rows k62 (w0 := w) w.heap.size rfl (.tmp 52) (.tmp 55) 24 62 (.agg #[(.int .i64 0), (.int .i64 0), (.int .i64 0), (.int .i64 0)]) 32 rfl Tryz.underlying24 info62 rfl (by decide) (by omega) v145 y144 y147 _ _ _ (fun k_ => k_ ≠ gb130) (fun _ => False) rfl rfl ?aO ?aR (fun _ _ h => h) (fun _ h => h.elim) ?aF ?aB ?aS ?aL ?_; (case aR => repeat (first | exact (Kd.C_below HR150.out HB.out) | (with_reducible refine Kd.C_alloc ?_ _) | (with_reducible refine Kd.C_drewN ?_ _) | (with_reducible refine Kd.C_drew ?_))); (case aB => exact (zb1 HB)); (case aF => exact (fun k_ hk => Kd.freshB (g := gb130) (o := .cells #[.int .i64 (wrap64 (a1_0 + ((rd_T62 l0 x5_2).f0))), .int .i64 a1_1, .int .i64 a1_2, .int .i64 a1_3] 62 (0, 0)) (zq1 BK130) k_ hk)); (case aO => exact (by (with_reducible repeat (first | apply Kd.R_alloc | apply Kd.R_drewN | apply Kd.R_drew)); exact Kd.R_mono HO146.out (fun _ hk => hk.2))); (case aS => exact (below_size (zb1 HB))); (case aL => have := LMc31.out; omega); intro v152 w41 ho hb hg hat; rw [← Ny151.out] at ho; have HO153 := qa (ho); replace BK130 := qa (blk_grown (g := gb130) (o := .cells #[.int .i64 (wrap64 (a1_0 + ((rd_T62 l0 x5_2).f0))), .int .i64 a1_1, .int .i64 a1_2, .int .i64 a1_3] 62 (0, 0)) (zq1 BK130) hg (Kd.R_away HO146.out (fun _ hk => hk.2))); replace HB := qa (hb); clear HO146; clear ho hb hg hat; obtain ⟨hcz42_0, hcz42_1, hcz42_2, hcz42_3⟩ := qc4 BK130; obtain ⟨hfz42_0, hfz42_1, hfz42_2, hfz42_3⟩ := qz4 BK130) | ((with_reducible refine gate_builtin (b := .append) (xs := #[.tmp 64, .tmp 65]) rfl ?_); at_builtin; refine Kd.R_append_rows k62 (w0 := w) w.heap.size rfl (.tmp 64) (.tmp 65) 24 62 (.agg #[(.int .i64 0), (.int .i64 0), (.int .i64 0), (.int .i64 0)]) 32 rfl Tryz.underlying24 info62 rfl (by decide) (by omega) v152 y151 y140 _ _ _ (fun k_ => k_ ≠ gb130) (fun _ => False) rfl rfl ?aO ?aR (fun _ _ h => h) (fun _ h => h.elim) ?aF ?aB ?aS ?aL ?_; (case aR => repeat (first | exact (Kd.C_below HR143.out HB.out) | (with_reducible refine Kd.C_alloc ?_ _) | (with_reducible refine Kd.C_drewN ?_ _) | (with_reducible refine Kd.C_drew ?_))); (case aB => exact (zb1 HB)); (case aF => exact (fun k_ hk => Kd.freshB (g := gb130) (o := .cells #[.int .i64 (wrap64 (a1_0 + ((rd_T62 l0 x5_2).f0))), .int .i64 a1_1, .int .i64 a1_2, .int .i64 a1_3] 62 (0, 0)) (zq1 BK130) k_ hk)); (case aO => exact (zq3 HO153)); (case aS => exact (below_size (zb1 HB))); (case aL => have := LMc33.out; omega); intro v155 w43 ho hb hg hat; rw [← Ny154.out] at ho; have HO156 := qa (ho); replace BK130 := qa (blk_grown (g := gb130) (o := .cells #[.int .i64 (wrap64 (a1_0 + ((rd_T62 l0 x5_2).f0))), .int .i64 a1_1, .int .i64 a1_2, .int .i64 a1_3] 62 (0, 0)) (zq1 BK130) hg (Kd.R_away HO153.out (fun _ hk => hk))); replace HB := qa (hb); clear HO153; clear ho hb hg hat))
                go_ret
                exact ⟨_, by first | rfl | (simp [errW_none, errW_some] <;> rfl) | (simp only [← hji26]; first | rfl | (simp [errW_none, errW_some] <;> rfl)) | (simp [*, errW_none, errW_some] <;> rfl), by (with_reducible repeat (first | apply Kd.R_alloc | apply Kd.R_drewN | apply Kd.R_drew)); exact Kd.R_mono HO156.out (fun _ hk => trivial), (zb1 HB)⟩
               ·
                rw [if_neg c33] at H
                exact absurd H (by simp)
              ·
               rw [if_neg c32] at H
               have c32b0 : ((wrap64 (a1_0 + ((rd_T62 l0 x5_2).f0))) == 0) = false := beq_eq_false_iff_ne.mpr c32
               have c32b1 : ((wrap64 (a1_0 + ((rd_T62 l0 x5_2).f0))) != 0) = true := bne_iff_ne.mpr c32
               by_cases c44 : y151.length < 4398046511104
               ·
                rw [if_pos c44] at H
                have LMc44 := qa c44
                clear c44
                obtain ⟨y157, hy157⟩ : ∃ y_ : List (S62), y_ = (y151 ++ [(⟨wrap64 (a1_0 + ((rd_T62 l0 x5_2).f0)), a1_1, a1_2, a1_3⟩ : S62)]) := ⟨_, rfl⟩
                replace H : (if y157.length + y140.length < 4398046511104 then (some (y157 ++ y140)) else (none)) = some r := by first | (rw [hy157]; with_reducible exact H) | (have H2_ := (Option.bind_some _ _).symm.trans H; rw [hy157]; with_reducible exact H2_) | (have H2_ := (Option.bind_some _ _).symm.trans H; with_reducible exact H2_) | with_reducible exact H | (rw [hy157]; exact H) | exact H
                have Ny157 := qa hy157
                clear hy157
                by_cases c45 : y157.length + y140.length < 4398046511104
                ·
                 rw [if_pos c45] at H
                 have LMc45 := qa c45
                 clear c45
                 obtain ⟨y160, hy160⟩ : ∃ y_ : List (S62), y_ = (y157 ++ y140) := ⟨_, rfl⟩
                 replace H : (some y160) = some r := by first | (rw [hy160]; with_reducible exact H) | (have H2_ := (Option.bind_some _ _).symm.trans H; rw [hy160]; with_reducible exact H2_) | (have H2_ := (Option.bind_some _ _).symm.trans H; with_reducible exact H2_) | with_reducible exact H | (rw [hy160]; exact H) | exact H
                 have Ny160 := qa hy160
                 clear hy160
                 obtain rfl := Option.some.inj H
                 try go_wp2
                 replace BK130 := qa (blk_drew BK130.out); replace HB := qa (below_drew1 HB.out)
                 have p139 : 0 ≤ (x5_2 : Int) := qd
                 have q139 : x5_2 < (l0.length : Int) := qd
                 obtain ⟨ad139, e139, hx139_0, hx139_1, hx139_2, hx139_3⟩ := at_T62 HR0.out x5_2 p139 q139
                 have hw139_3 := hx139_3; have hw139_2 := hx139_2; have hw139_1 := hx139_1; have hw139_0 := hx139_0
                 cases e139
                 replace hx139_0 := qb HB hx139_0
                 replace hx139_1 := qb HB hx139_1
                 replace hx139_2 := qb HB hx139_2
                 replace hx139_3 := qb HB hx139_3
                 replace p139 := eq_true p139
                 replace q139 := eq_true q139
                 refine start_ (n := 10) (S := fun w' => w'.cell? ⟨gb130, 0, none⟩ = some (.int .i64 a1_0) ∧ w'.cell? ⟨gb130, 1, none⟩ = some (.int .i64 a1_1) ∧ w'.cell? ⟨gb130, 2, none⟩ = some (.int .i64 a1_2) ∧ w'.cell? ⟨gb130, 3, none⟩ = some (.int .i64 a1_3) ∧ w'.cell? (ad139.add ((x5_2).toNat * 4)) = some (.int .i64 ((rd_T62 l0 x5_2).f0)) ∧ w'.cell? ⟨(ad139.add ((x5_2).toNat * 4)).block, (ad139.add ((x5_2).toNat * 4)).off + 1, none⟩ = some (.int .i64 ((rd_T62 l0 x5_2).f1)) ∧ w'.cell? ⟨(ad139.add ((x5_2).toNat * 4)).block, (ad139.add ((x5_2).toNat * 4)).off + 2, none⟩ = some (.int .i64 ((rd_T62 l0 x5_2).f2)) ∧ w'.cell? ⟨(ad139.add ((x5_2).toNat * 4)).block, (ad139.add ((x5_2).toNat * 4)).off + 3, none⟩ = some (.int .i64 ((rd_T62 l0 x5_2).f3))) (ds := [9]) (bn 10 0) (by kernel_rfl) rfl rfl ⟨zc BK130 0, zc BK130 1, zc BK130 2, zc BK130 3, (qb HB hw139_0), (qb HB hw139_1), (qb HB hw139_2), (qb HB hw139_3)⟩ (fun hHeld => ?_); refine with_tabW spec_poPut.tab6 spec_poPut.bits6 (fun HT_ HW_ => ?_)
                 generalize wc.drew = w46 at BK130 HB hx139_0 hx139_1 hx139_2 hx139_3 hHeld ⊢
                 refine qp 0 39 10 1 HT_ ?_
                 refine qp 2 41 10 5 HT_ ?_
                 refine qp 3 42 10 13 HT_ ?_
                 refine qp 4 43 10 29 HT_ ?_
                 refine qp 5 44 10 61 HT_ ?_
                 refine qk 1 40 10 63 HT_ HW_ hHeld ?_
                 refine qk 6 45 10 127 HT_ HW_ hHeld ?_
                 refine qp 7 46 10 255 HT_ ?_
                 refine qp 8 47 10 511 HT_ ?_
                 refine last_ (i := 9) (N := none) #[true, true, true, true, true, true, true, true, true, true] rfl rfl (one_of HT_.out (by kernel_rfl)) (by decide) (fun K hK => ?_)
                 have hs47 : w46.cell? ⟨gb130, 0, none⟩ = some (.int .i64 a1_0) := zc BK130 0
                 have hfs47 := blk_frozen BK130.out 0
                 refine skip_ (w1 := ?_) (by rfl) rfl ?_ ?_
                 rotate_left
                 ·
                  go_simp
                  rfl
                 refine hK.out _ _ ?_
                 clear hK K
                 refine done_ (done_of HT_.out (by kernel_rfl)) ?_
                 have n0_ : Aside0 ((w46.setCell ⟨gb130, 0, none⟩ (.int .i64 (wrap64 (a1_0 + ((rd_T62 l0 x5_2).f0))))).heap[gb130]? = some (.cells #[.int .i64 (wrap64 (a1_0 + ((rd_T62 l0 x5_2).f0))), .int .i64 a1_1, .int .i64 a1_2, .int .i64 a1_3] 62 (0, 0))) := ⟨qs BK130⟩
                 have n1_ : Aside0 (Below w.heap.size w (w46.setCell ⟨gb130, 0, none⟩ (.int .i64 (wrap64 (a1_0 + ((rd_T62 l0 x5_2).f0)))))) := ⟨(zb1 HB)⟩
                 (try clear BK130)
                 (try clear HB)
                 generalize (w46.setCell ⟨gb130, 0, none⟩ (.int .i64 (wrap64 (a1_0 + ((rd_T62 l0 x5_2).f0))))) = w48 at n0_ n1_ ⊢
                 have BK130 := n0_; have HB := n1_
                 clear n0_ n1_
                 have q49 : ((ji26) : Int) ≤ ((l0.length : Int) : Int) := qd
                 obtain ⟨i049, hi049, _, hsz49, _⟩ := info_parts info62
                 have hroom49 : l0.length ≤ c0 := HC0.out
                 have hC49 : Kd.C k62 _ (some ad139) l0.length l0 := HR0.out
                 have q049 : (0 : Int) ≤ ((ji26) : Int) := qd
                 have hcut49 := cut_from (P := Tryz.prog) 24 62 .i64 Tryz.underlying24 hi049 4 hsz49 (some ad139) l0.length c0 (ji26) q049 q49
                 have hr49 := Kd.C_drop (m := ((ji26) : Int).toNat) (c := c0) hC49 (by omega) hroom49
                 obtain ⟨A49, hA49⟩ : ∃ A1, A1 = (if c0 = ((ji26) : Int).toNat then (some ad139) else ((some ad139) : Option Addr).map (·.add (((ji26) : Int).toNat * 4))) := ⟨_, rfl⟩
                 obtain ⟨c49, hc49⟩ : ∃ c1, c1 = c0 - ((ji26) : Int).toNat := ⟨_, rfl⟩
                 have hy49 : y140.length = l0.length - ((ji26) : Int).toNat := (by rw [Ny140.out, List.length_drop] <;> omega)
                 rw [show (l0).drop ((ji26) : Int).toNat = y140 from Ny140.out.symm] at hr49
                 replace hr49 : Kd.C k62 _ A49 y140.length y140 := (by rw [hA49]; exact hr49)
                 rw [← hy49, ← hA49, ← hc49] at hcut49
                 have HR143 := qa hr49
                 have HC143 := qa (show y140.length ≤ c49 from by rw [hy49, hc49]; exact Nat.sub_le_sub_right hroom49 _)
                 clear hr49 hC49 hroom49 hi049 hsz49 hc49
                 have KY49 := qa hy49
                 have KA49 := qa hA49
                 clear hy49 hA49
                 replace q49 := eq_true q49
                 try go_wp2_with (first | ((with_reducible refine gate_dst (N := 52) rfl ?_); refine Kd.R_lit k62 _ 62 ?hg (N := 52) ?hd (xs := ([] : List (S62))) (inner := []) (ok := fun _ => True) (okp := fun _ => True) ?hr ?hp (fun _ hk => hk) trivial (Below.refl _ _) (Nat.le_refl _) (by simp) ?_; (case hd => rfl); (case hg => rfl); (case hr => first | (go_simp; done) | (go_simp; rfl)); (case hp => exact (Reps.none _ _)); intro v145 w50 ho51 hb hg_ hnew_; clear hg_ hnew_; (first | rw [← Ny144.out] at ho51 | (simp only [Int.reduceToNat] at ho51; rw [← Ny144.out] at ho51)); have HO146 := qa (Kd.R_lower (Kd.R_newB ho51 (g := gb130) (o := .cells #[.int .i64 (wrap64 (a1_0 + ((rd_T62 l0 x5_2).f0))), .int .i64 a1_1, .int .i64 a1_2, .int .i64 a1_3] 62 (0, 0)) (zq1 BK130)) (below_size (zb1 HB))); replace BK130 := qa (zbb BK130 hb); replace HB := qa (below_step (zb1 HB) hb); clear hb ho51; have q52 : (x5_2 : Int) ≤ ((l0.length : Int) : Int) := qd; obtain ⟨i052, hi052, _, hsz52, _⟩ := info_parts info62; have hroom52 : l0.length ≤ c0 := HC0.out; have hC52 : Kd.C k62 _ (some ad139) l0.length l0 := HR0.out; have hcut52 := cut_to (P := Tryz.prog) 24 62 .i64 Tryz.underlying24 hi052 (some ad139) l0.length c0 x5_2 (qd) q52 hroom52; have hr52 := Kd.C_take (m := (x5_2 : Int).toNat) hC52 (by omega); have hy52 : y147.length = (x5_2 : Int).toNat := (by rw [Ny147.out, List.length_take]; omega); rw [← Ny147.out] at hr52; rw [← hy52] at hcut52; have HR150 := qa hr52; have HC150 := qa (show y147.length ≤ c0 from by omega); clear hr52 hC52 hroom52 hi052 hsz52; have KY52 := qa hy52; clear hy52; replace q52 := eq_true q52) | ((with_reducible refine gate_builtin (b := .append) (xs := #[.tmp 52, .tmp 55]) rfl ?_); at_builtin; refine Kd.R_append_rows k62 (w0 := w) w.heap.size rfl (.tmp 52) (.tmp 55) 24 62 (.agg #[(.int .i64 0), (.int .i64 0), (.int .i64 0), (.int .i64 0)]) 32 rfl Tryz.underlying24 info62 rfl (by decide) (by omega) v145 y144 y147 _ _ _ (fun k_ => k_ ≠ gb130) (fun _ => False) rfl rfl ?aO ?aR (fun _ _ h => h) (fun _ h => h.elim) ?aF ?aB ?aS ?aL ?_; (case aR => repeat (first | exact (Kd.C_below HR150.out HB.out) | (with_reducible refine Kd.C_alloc ?_ _) | (with_reducible refine Kd.C_drewN ?_ _) | (with_reducible refine Kd.C_drew ?_))); (case aB => exact (zb1 HB)); (case aF => exact (fun k_ hk => Kd.freshB (g := gb130) (o := .cells #[.int .i64 (wrap64 (a1_0 + ((rd_T62 l0 x5_2).f0))), .int .i64 a1_1, .int .i64 a1_2, .int .i64 a1_3] 62 (0, 0)) (zq1 BK130) k_ hk)); (case aO => exact (by (with_reducible repeat (first | apply Kd.R_alloc | apply Kd.R_drewN | apply Kd.R_drew)); exact Kd.R_mono HO146.out (fun _ hk => hk.2))); (case aS => exact (below_size (zb1 HB))); (case aL => have := LMc31.out; omega); intro v152 w53 ho hb hg hat; rw [← Ny151.out] at ho; have HO153 := qa (ho); replace BK130 := qa (blk_grown (g := gb130) (o := .cells #[.int .i64 (wrap64 (a1_0 + ((rd_T62 l0 x5_2).f0))), .int .i64 a1_1, .int .i64 a1_2, .int .i64 a1_3] 62 (0, 0)) (zq1 BK130) hg (Kd.R_away HO146.out (fun _ hk => hk.2))); replace HB := qa (hb); clear HO146; clear ho hb hg hat; obtain ⟨hcz54_0, hcz54_1, hcz54_2, hcz54_3⟩ := qc4 BK130; obtain ⟨hfz54_0, hfz54_1, hfz54_2, hfz54_3⟩ := qz4 BK130) | ((with_reducible refine gate_builtin (b := .append) (xs := #[.tmp 60, .tmp 62]) rfl ?_); at_builtin; refine Kd.R_append k62 (w0 := w) w.heap.size rfl (.tmp 60) (.tmp 62) 24 62 (.agg #[(.int .i64 0), (.int .i64 0), (.int .i64 0), (.int .i64 0)]) 32 rfl Tryz.underlying24 info62 rfl (by decide) (by omega) v152 y151 (⟨wrap64 (a1_0 + ((rd_T62 l0 x5_2).f0)), a1_1, a1_2, a1_3⟩ : S62) [.int .i64 (wrap64 (a1_0 + ((rd_T62 l0 x5_2).f0))), .int .i64 a1_1, .int .i64 a1_2, .int .i64 a1_3] (fun k_ => k_ ≠ gb130) (fun _ => False) rfl rfl ?aP (fun _ hk => hk.elim) ?aF ?aO ?aB ?aS ?aL ?_; (case aP => exact k62_mkM _ _ _ (⟨wrap64 (a1_0 + ((rd_T62 l0 x5_2).f0)), a1_1, a1_2, a1_3⟩ : S62)); (case aB => exact (zb1 HB)); (case aF => exact (fun k_ hk => Kd.freshB (g := gb130) (o := .cells #[.int .i64 (wrap64 (a1_0 + ((rd_T62 l0 x5_2).f0))), .int .i64 a1_1, .int .i64 a1_2, .int .i64 a1_3] 62 (0, 0)) (zq1 BK130) k_ hk)); (case aO => exact (zq3 HO153)); (case aS => exact (below_size (zb1 HB))); (case aL => have := LMc44.out; omega); intro v158 w55 ho hb hg hat; rw [← Ny157.out] at ho; have HO159 := qa (ho); replace BK130 := qa (blk_grown (g := gb130) (o := .cells #[.int .i64 (wrap64 (a1_0 + ((rd_T62 l0 x5_2).f0))), .int .i64 a1_1, .int .i64 a1_2, .int .i64 a1_3] 62 (0, 0)) (zq1 BK130) hg (Kd.R_away HO153.out (fun _ hk => hk))); replace HB := qa (hb); clear HO153; clear ho hb hg hat) | ((with_reducible refine gate_builtin (b := .append) (xs := #[.tmp 64, .tmp 65]) rfl ?_); at_builtin; refine Kd.R_append_rows k62 (w0 := w) w.heap.size rfl (.tmp 64) (.tmp 65) 24 62 (.agg #[(.int .i64 0), (.int .i64 0), (.int .i64 0), (.int .i64 0)]) 32 rfl Tryz.underlying24 info62 rfl (by decide) (by omega) v158 y157 y140 _ _ _ (fun k_ => k_ ≠ gb130) (fun _ => False) rfl rfl ?aO ?aR (fun _ _ h => h) (fun _ h => h.elim) ?aF ?aB ?aS ?aL ?_; (case aR => repeat (first | exact (Kd.C_below HR143.out HB.out) | (with_reducible refine Kd.C_alloc ?_ _) | (with_reducible refine Kd.C_drewN ?_ _) | (with_reducible refine Kd.C_drew ?_))); (case aB => exact (zb1 HB)); (case aF => exact (fun k_ hk => Kd.freshB (g := gb130) (o := .cells #[.int .i64 (wrap64 (a1_0 + ((rd_T62 l0 x5_2).f0))), .int .i64 a1_1, .int .i64 a1_2, .int .i64 a1_3] 62 (0, 0)) (zq1 BK130) k_ hk)); (case aO => exact (zq3 HO159)); (case aS => exact (below_size (zb1 HB))); (case aL => have := LMc45.out; omega); intro v161 w56 ho hb hg hat; rw [← Ny160.out] at ho; have HO162 := qa (ho); replace BK130 := qa (blk_grown (g := gb130) (o := .cells #[.int .i64 (wrap64 (a1_0 + ((rd_T62 l0 x5_2).f0))), .int .i64 a1_1, .int .i64 a1_2, .int .i64 a1_3] 62 (0, 0)) (zq1 BK130) hg (Kd.R_away HO159.out (fun _ hk => hk))); replace HB := qa (hb); clear HO159; clear ho hb hg hat))
                 go_ret
                 exact ⟨_, by first | rfl | (simp [errW_none, errW_some] <;> rfl) | (simp only [← hji26]; first | rfl | (simp [errW_none, errW_some] <;> rfl)) | (simp [*, errW_none, errW_some] <;> rfl), by (with_reducible repeat (first | apply Kd.R_alloc | apply Kd.R_drewN | apply Kd.R_drew)); exact Kd.R_mono HO162.out (fun _ hk => trivial), (zb1 HB)⟩
                ·
                 rw [if_neg c45] at H
                 exact absurd H (by simp)
               ·
                rw [if_neg c44] at H
                exact absurd H (by simp)
             ·
              rw [if_neg c31] at H
              exact absurd H (by simp)
            ·
             rw [if_neg c30] at H
             exact absurd H (by simp)
           ·
            rw [if_neg c28] at H
            exact absurd H (by simp)
          ·
           rw [if_neg c27] at H
           exact absurd H (by simp)
         ·
          rw [if_neg c25] at H
          exact absurd H (by simp)
        ·
         rw [if_neg c24] at H
         exact absurd H (by simp)
       ·
        replace c23 := Bool.eq_false_iff.mpr c23
        subst c23
        have H1 : ((some (([] : List (S62)) : List (S62))).bind fun y163 => (if 0 ≤ x5_2 then (if x5_2 ≤ (l0.length : Int) then ((some (l0.take (x5_2 : Int).toNat : List (S62))).bind fun y166 => (if y163.length + y166.length < 4398046511104 then ((some (y163 ++ y166 : List (S62))).bind fun y170 => (if a1_0 = 0 then (if y170.length + y133.length < 4398046511104 then (some (y170 ++ y133)) else (none)) else (if y170.length < 4398046511104 then ((some (y170 ++ [(⟨a1_0, a1_1, a1_2, a1_3⟩ : S62)] : List (S62))).bind fun y176 => (if y176.length + y133.length < 4398046511104 then (some (y176 ++ y133)) else (none))) else (none)))) else (none))) else (none)) else (none))) = some r := by rw [if_neg (show ¬ (false = true) by decide)] at H; exact H
        clear H
        have H := H1
        clear H1
        obtain ⟨y163, hy163⟩ : ∃ y_ : List (S62), y_ = (([] : List (S62))) := ⟨_, rfl⟩
        replace H : (if 0 ≤ x5_2 then (if x5_2 ≤ (l0.length : Int) then ((some (l0.take (x5_2 : Int).toNat : List (S62))).bind fun y166 => (if y163.length + y166.length < 4398046511104 then ((some (y163 ++ y166 : List (S62))).bind fun y170 => (if a1_0 = 0 then (if y170.length + y133.length < 4398046511104 then (some (y170 ++ y133)) else (none)) else (if y170.length < 4398046511104 then ((some (y170 ++ [(⟨a1_0, a1_1, a1_2, a1_3⟩ : S62)] : List (S62))).bind fun y176 => (if y176.length + y133.length < 4398046511104 then (some (y176 ++ y133)) else (none))) else (none)))) else (none))) else (none)) else (none)) = some r := by first | (rw [hy163]; with_reducible exact H) | (have H2_ := (Option.bind_some _ _).symm.trans H; rw [hy163]; with_reducible exact H2_) | (have H2_ := (Option.bind_some _ _).symm.trans H; with_reducible exact H2_) | with_reducible exact H | (rw [hy163]; exact H) | exact H
        have Ny163 := qa hy163
        clear hy163
        by_cases c57 : 0 ≤ x5_2
        ·
         rw [if_pos c57] at H
         have c57b0 := eq_true c57
         have c57b1 := decide_eq_true c57
         clear c57
         by_cases c58 : x5_2 ≤ (l0.length : Int)
         ·
          rw [if_pos c58] at H
          have c58b0 := eq_true c58
          have c58b1 := decide_eq_true c58
          clear c58
          obtain ⟨y166, hy166⟩ : ∃ y_ : List (S62), y_ = (l0.take (x5_2 : Int).toNat) := ⟨_, rfl⟩
          replace H : (if y163.length + y166.length < 4398046511104 then ((some (y163 ++ y166 : List (S62))).bind fun y170 => (if a1_0 = 0 then (if y170.length + y133.length < 4398046511104 then (some (y170 ++ y133)) else (none)) else (if y170.length < 4398046511104 then ((some (y170 ++ [(⟨a1_0, a1_1, a1_2, a1_3⟩ : S62)] : List (S62))).bind fun y176 => (if y176.length + y133.length < 4398046511104 then (some (y176 ++ y133)) else (none))) else (none)))) else (none)) = some r := by first | (rw [hy166]; with_reducible exact H) | (have H2_ := (Option.bind_some _ _).symm.trans H; rw [hy166]; with_reducible exact H2_) | (have H2_ := (Option.bind_some _ _).symm.trans H; with_reducible exact H2_) | with_reducible exact H | (rw [hy166]; exact H) | exact H
          have Ny166 := qa hy166
          clear hy166
          by_cases c59 : y163.length + y166.length < 4398046511104
          ·
           rw [if_pos c59] at H
           have LMc59 := qa c59
           clear c59
           obtain ⟨y170, hy170⟩ : ∃ y_ : List (S62), y_ = (y163 ++ y166) := ⟨_, rfl⟩
           replace H : (if a1_0 = 0 then (if y170.length + y133.length < 4398046511104 then (some (y170 ++ y133)) else (none)) else (if y170.length < 4398046511104 then ((some (y170 ++ [(⟨a1_0, a1_1, a1_2, a1_3⟩ : S62)] : List (S62))).bind fun y176 => (if y176.length + y133.length < 4398046511104 then (some (y176 ++ y133)) else (none))) else (none))) = some r := by first | (rw [hy170]; with_reducible exact H) | (have H2_ := (Option.bind_some _ _).symm.trans H; rw [hy170]; with_reducible exact H2_) | (have H2_ := (Option.bind_some _ _).symm.trans H; with_reducible exact H2_) | with_reducible exact H | (rw [hy170]; exact H) | exact H
           have Ny170 := qa hy170
           clear hy170
           by_cases c60 : a1_0 = 0
           ·
            rw [if_pos c60] at H
            have c60b0 : (a1_0 == 0) = true := beq_iff_eq.mpr c60
            have c60b1 : (a1_0 != 0) = false := bne_eq_false_iff_eq.mpr c60
            clear c60
            by_cases c61 : y170.length + y133.length < 4398046511104
            ·
             rw [if_pos c61] at H
             have LMc61 := qa c61
             clear c61
             obtain ⟨y173, hy173⟩ : ∃ y_ : List (S62), y_ = (y170 ++ y133) := ⟨_, rfl⟩
             replace H : (some y173) = some r := by first | (rw [hy173]; with_reducible exact H) | (have H2_ := (Option.bind_some _ _).symm.trans H; rw [hy173]; with_reducible exact H2_) | (have H2_ := (Option.bind_some _ _).symm.trans H; with_reducible exact H2_) | with_reducible exact H | (rw [hy173]; exact H) | exact H
             have Ny173 := qa hy173
             clear hy173
             obtain rfl := Option.some.inj H
             go_wp2_with (first | ((with_reducible refine gate_dst (N := 52) rfl ?_); refine Kd.R_lit k62 _ 62 ?hg (N := 52) ?hd (xs := ([] : List (S62))) (inner := []) (ok := fun _ => True) (okp := fun _ => True) ?hr ?hp (fun _ hk => hk) trivial (Below.refl _ _) (Nat.le_refl _) (by simp) ?_; (case hd => rfl); (case hg => rfl); (case hr => first | (go_simp; done) | (go_simp; rfl)); (case hp => exact (Reps.none _ _)); intro v164 w62 ho63 hb hg_ hnew_; clear hg_ hnew_; (first | rw [← Ny163.out] at ho63 | (simp only [Int.reduceToNat] at ho63; rw [← Ny163.out] at ho63)); have HO165 := qa (Kd.R_lower (Kd.R_newB ho63 (g := gb130) (o := .cells #[.int .i64 a1_0, .int .i64 a1_1, .int .i64 a1_2, .int .i64 a1_3] 62 (0, 0)) (zq1 BK130)) (below_size (zb1 HB))); replace BK130 := qa (zbb BK130 hb); replace HB := qa (below_step (zb1 HB) hb); clear hb ho63; have q64 : (x5_2 : Int) ≤ ((l0.length : Int) : Int) := qd; obtain ⟨i064, hi064, _, hsz64, _⟩ := info_parts info62; have hroom64 : l0.length ≤ c0 := HC0.out; have hC64 : Kd.C k62 _ A0 l0.length l0 := HR0.out; have hcut64 := cut_to (P := Tryz.prog) 24 62 .i64 Tryz.underlying24 hi064 A0 l0.length c0 x5_2 (qd) q64 hroom64; have hr64 := Kd.C_take (m := (x5_2 : Int).toNat) hC64 (by omega); have hy64 : y166.length = (x5_2 : Int).toNat := (by rw [Ny166.out, List.length_take]; omega); rw [← Ny166.out] at hr64; rw [← hy64] at hcut64; have HR169 := qa hr64; have HC169 := qa (show y166.length ≤ c0 from by omega); clear hr64 hC64 hroom64 hi064 hsz64; have KY64 := qa hy64; clear hy64; replace q64 := eq_true q64) | ((with_reducible refine gate_builtin (b := .append) (xs := #[.tmp 52, .tmp 55]) rfl ?_); at_builtin; refine Kd.R_append_rows k62 (w0 := w) w.heap.size rfl (.tmp 52) (.tmp 55) 24 62 (.agg #[(.int .i64 0), (.int .i64 0), (.int .i64 0), (.int .i64 0)]) 32 rfl Tryz.underlying24 info62 rfl (by decide) (by omega) v164 y163 y166 _ _ _ (fun k_ => k_ ≠ gb130) (fun _ => False) rfl rfl ?aO ?aR (fun _ _ h => h) (fun _ h => h.elim) ?aF ?aB ?aS ?aL ?_; (case aR => repeat (first | exact (Kd.C_below HR169.out HB.out) | (with_reducible refine Kd.C_alloc ?_ _) | (with_reducible refine Kd.C_drewN ?_ _) | (with_reducible refine Kd.C_drew ?_))); (case aB => exact (zb1 HB)); (case aF => exact (fun k_ hk => Kd.freshB (g := gb130) (o := .cells #[.int .i64 a1_0, .int .i64 a1_1, .int .i64 a1_2, .int .i64 a1_3] 62 (0, 0)) (zq1 BK130) k_ hk)); (case aO => exact (by (with_reducible repeat (first | apply Kd.R_alloc | apply Kd.R_drewN | apply Kd.R_drew)); exact Kd.R_mono HO165.out (fun _ hk => hk.2))); (case aS => exact (below_size (zb1 HB))); (case aL => have := LMc59.out; omega); intro v171 w65 ho hb hg hat; rw [← Ny170.out] at ho; have HO172 := qa (ho); replace BK130 := qa (blk_grown (g := gb130) (o := .cells #[.int .i64 a1_0, .int .i64 a1_1, .int .i64 a1_2, .int .i64 a1_3] 62 (0, 0)) (zq1 BK130) hg (Kd.R_away HO165.out (fun _ hk => hk.2))); replace HB := qa (hb); clear HO165; clear ho hb hg hat; obtain ⟨hcz66_0, hcz66_1, hcz66_2, hcz66_3⟩ := qc4 BK130; obtain ⟨hfz66_0, hfz66_1, hfz66_2, hfz66_3⟩ := qz4 BK130) | ((with_reducible refine gate_builtin (b := .append) (xs := #[.tmp 64, .tmp 65]) rfl ?_); at_builtin; refine Kd.R_append_rows k62 (w0 := w) w.heap.size rfl (.tmp 64) (.tmp 65) 24 62 (.agg #[(.int .i64 0), (.int .i64 0), (.int .i64 0), (.int .i64 0)]) 32 rfl Tryz.underlying24 info62 rfl (by decide) (by omega) v171 y170 y133 _ _ _ (fun k_ => k_ ≠ gb130) (fun _ => False) rfl rfl ?aO ?aR (fun _ _ h => h) (fun _ h => h.elim) ?aF ?aB ?aS ?aL ?_; (case aR => repeat (first | exact (Kd.C_below HR136.out HB.out) | (with_reducible refine Kd.C_alloc ?_ _) | (with_reducible refine Kd.C_drewN ?_ _) | (with_reducible refine Kd.C_drew ?_))); (case aB => exact (zb1 HB)); (case aF => exact (fun k_ hk => Kd.freshB (g := gb130) (o := .cells #[.int .i64 a1_0, .int .i64 a1_1, .int .i64 a1_2, .int .i64 a1_3] 62 (0, 0)) (zq1 BK130) k_ hk)); (case aO => exact (zq3 HO172)); (case aS => exact (below_size (zb1 HB))); (case aL => have := LMc61.out; omega); intro v174 w67 ho hb hg hat; rw [← Ny173.out] at ho; have HO175 := qa (ho); replace BK130 := qa (blk_grown (g := gb130) (o := .cells #[.int .i64 a1_0, .int .i64 a1_1, .int .i64 a1_2, .int .i64 a1_3] 62 (0, 0)) (zq1 BK130) hg (Kd.R_away HO172.out (fun _ hk => hk))); replace HB := qa (hb); clear HO172; clear ho hb hg hat))
             go_ret
             exact ⟨_, by first | rfl | (simp [errW_none, errW_some] <;> rfl) | (simp [*, errW_none, errW_some] <;> rfl), by (with_reducible repeat (first | apply Kd.R_alloc | apply Kd.R_drewN | apply Kd.R_drew)); exact Kd.R_mono HO175.out (fun _ hk => trivial), (zb1 HB)⟩
            ·
             rw [if_neg c61] at H
             exact absurd H (by simp)
           ·
            rw [if_neg c60] at H
            have c60b0 : (a1_0 == 0) = false := beq_eq_false_iff_ne.mpr c60
            have c60b1 : (a1_0 != 0) = true := bne_iff_ne.mpr c60
            by_cases c68 : y170.length < 4398046511104
            ·
             rw [if_pos c68] at H
             have LMc68 := qa c68
             clear c68
             obtain ⟨y176, hy176⟩ : ∃ y_ : List (S62), y_ = (y170 ++ [(⟨a1_0, a1_1, a1_2, a1_3⟩ : S62)]) := ⟨_, rfl⟩
             replace H : (if y176.length + y133.length < 4398046511104 then (some (y176 ++ y133)) else (none)) = some r := by first | (rw [hy176]; with_reducible exact H) | (have H2_ := (Option.bind_some _ _).symm.trans H; rw [hy176]; with_reducible exact H2_) | (have H2_ := (Option.bind_some _ _).symm.trans H; with_reducible exact H2_) | with_reducible exact H | (rw [hy176]; exact H) | exact H
             have Ny176 := qa hy176
             clear hy176
             by_cases c69 : y176.length + y133.length < 4398046511104
             ·
              rw [if_pos c69] at H
              have LMc69 := qa c69
              clear c69
              obtain ⟨y179, hy179⟩ : ∃ y_ : List (S62), y_ = (y176 ++ y133) := ⟨_, rfl⟩
              replace H : (some y179) = some r := by first | (rw [hy179]; with_reducible exact H) | (have H2_ := (Option.bind_some _ _).symm.trans H; rw [hy179]; with_reducible exact H2_) | (have H2_ := (Option.bind_some _ _).symm.trans H; with_reducible exact H2_) | with_reducible exact H | (rw [hy179]; exact H) | exact H
              have Ny179 := qa hy179
              clear hy179
              obtain rfl := Option.some.inj H
              go_wp2_with (first | ((with_reducible refine gate_dst (N := 52) rfl ?_); refine Kd.R_lit k62 _ 62 ?hg (N := 52) ?hd (xs := ([] : List (S62))) (inner := []) (ok := fun _ => True) (okp := fun _ => True) ?hr ?hp (fun _ hk => hk) trivial (Below.refl _ _) (Nat.le_refl _) (by simp) ?_; (case hd => rfl); (case hg => rfl); (case hr => first | (go_simp; done) | (go_simp; rfl)); (case hp => exact (Reps.none _ _)); intro v164 w70 ho71 hb hg_ hnew_; clear hg_ hnew_; (first | rw [← Ny163.out] at ho71 | (simp only [Int.reduceToNat] at ho71; rw [← Ny163.out] at ho71)); have HO165 := qa (Kd.R_lower (Kd.R_newB ho71 (g := gb130) (o := .cells #[.int .i64 a1_0, .int .i64 a1_1, .int .i64 a1_2, .int .i64 a1_3] 62 (0, 0)) (zq1 BK130)) (below_size (zb1 HB))); replace BK130 := qa (zbb BK130 hb); replace HB := qa (below_step (zb1 HB) hb); clear hb ho71; have q72 : (x5_2 : Int) ≤ ((l0.length : Int) : Int) := qd; obtain ⟨i072, hi072, _, hsz72, _⟩ := info_parts info62; have hroom72 : l0.length ≤ c0 := HC0.out; have hC72 : Kd.C k62 _ A0 l0.length l0 := HR0.out; have hcut72 := cut_to (P := Tryz.prog) 24 62 .i64 Tryz.underlying24 hi072 A0 l0.length c0 x5_2 (qd) q72 hroom72; have hr72 := Kd.C_take (m := (x5_2 : Int).toNat) hC72 (by omega); have hy72 : y166.length = (x5_2 : Int).toNat := (by rw [Ny166.out, List.length_take]; omega); rw [← Ny166.out] at hr72; rw [← hy72] at hcut72; have HR169 := qa hr72; have HC169 := qa (show y166.length ≤ c0 from by omega); clear hr72 hC72 hroom72 hi072 hsz72; have KY72 := qa hy72; clear hy72; replace q72 := eq_true q72) | ((with_reducible refine gate_builtin (b := .append) (xs := #[.tmp 52, .tmp 55]) rfl ?_); at_builtin; refine Kd.R_append_rows k62 (w0 := w) w.heap.size rfl (.tmp 52) (.tmp 55) 24 62 (.agg #[(.int .i64 0), (.int .i64 0), (.int .i64 0), (.int .i64 0)]) 32 rfl Tryz.underlying24 info62 rfl (by decide) (by omega) v164 y163 y166 _ _ _ (fun k_ => k_ ≠ gb130) (fun _ => False) rfl rfl ?aO ?aR (fun _ _ h => h) (fun _ h => h.elim) ?aF ?aB ?aS ?aL ?_; (case aR => repeat (first | exact (Kd.C_below HR169.out HB.out) | (with_reducible refine Kd.C_alloc ?_ _) | (with_reducible refine Kd.C_drewN ?_ _) | (with_reducible refine Kd.C_drew ?_))); (case aB => exact (zb1 HB)); (case aF => exact (fun k_ hk => Kd.freshB (g := gb130) (o := .cells #[.int .i64 a1_0, .int .i64 a1_1, .int .i64 a1_2, .int .i64 a1_3] 62 (0, 0)) (zq1 BK130) k_ hk)); (case aO => exact (by (with_reducible repeat (first | apply Kd.R_alloc | apply Kd.R_drewN | apply Kd.R_drew)); exact Kd.R_mono HO165.out (fun _ hk => hk.2))); (case aS => exact (below_size (zb1 HB))); (case aL => have := LMc59.out; omega); intro v171 w73 ho hb hg hat; rw [← Ny170.out] at ho; have HO172 := qa (ho); replace BK130 := qa (blk_grown (g := gb130) (o := .cells #[.int .i64 a1_0, .int .i64 a1_1, .int .i64 a1_2, .int .i64 a1_3] 62 (0, 0)) (zq1 BK130) hg (Kd.R_away HO165.out (fun _ hk => hk.2))); replace HB := qa (hb); clear HO165; clear ho hb hg hat; obtain ⟨hcz74_0, hcz74_1, hcz74_2, hcz74_3⟩ := qc4 BK130; obtain ⟨hfz74_0, hfz74_1, hfz74_2, hfz74_3⟩ := qz4 BK130) | ((with_reducible refine gate_builtin (b := .append) (xs := #[.tmp 60, .tmp 62]) rfl ?_); at_builtin; refine Kd.R_append k62 (w0 := w) w.heap.size rfl (.tmp 60) (.tmp 62) 24 62 (.agg #[(.int .i64 0), (.int .i64 0), (.int .i64 0), (.int .i64 0)]) 32 rfl Tryz.underlying24 info62 rfl (by decide) (by omega) v171 y170 (⟨a1_0, a1_1, a1_2, a1_3⟩ : S62) [.int .i64 a1_0, .int .i64 a1_1, .int .i64 a1_2, .int .i64 a1_3] (fun k_ => k_ ≠ gb130) (fun _ => False) rfl rfl ?aP (fun _ hk => hk.elim) ?aF ?aO ?aB ?aS ?aL ?_; (case aP => exact k62_mkM _ _ _ (⟨a1_0, a1_1, a1_2, a1_3⟩ : S62)); (case aB => exact (zb1 HB)); (case aF => exact (fun k_ hk => Kd.freshB (g := gb130) (o := .cells #[.int .i64 a1_0, .int .i64 a1_1, .int .i64 a1_2, .int .i64 a1_3] 62 (0, 0)) (zq1 BK130) k_ hk)); (case aO => exact (zq3 HO172)); (case aS => exact (below_size (zb1 HB))); (case aL => have := LMc68.out; omega); intro v177 w75 ho hb hg hat; rw [← Ny176.out] at ho; have HO178 := qa (ho); replace BK130 := qa (blk_grown (g := gb130) (o := .cells #[.int .i64 a1_0, .int .i64 a1_1, .int .i64 a1_2, .int .i64 a1_3] 62 (0, 0)) (zq1 BK130) hg (Kd.R_away HO172.out (fun _ hk => hk))); replace HB := qa (hb); clear HO172; clear ho hb hg hat) | ((with_reducible refine gate_builtin (b := .append) (xs := #[.tmp 64, .tmp 65]) rfl ?_); at_builtin; refine Kd.R_append_rows k62 (w0 := w) w.heap.size rfl (.tmp 64) (.tmp 65) 24 62 (.agg #[(.int .i64 0), (.int .i64 0), (.int .i64 0), (.int .i64 0)]) 32 rfl Tryz.underlying24 info62 rfl (by decide) (by omega) v177 y176 y133 _ _ _ (fun k_ => k_ ≠ gb130) (fun _ => False) rfl rfl ?aO ?aR (fun _ _ h => h) (fun _ h => h.elim) ?aF ?aB ?aS ?aL ?_; (case aR => repeat (first | exact (Kd.C_below HR136.out HB.out) | (with_reducible refine Kd.C_alloc ?_ _) | (with_reducible refine Kd.C_drewN ?_ _) | (with_reducible refine Kd.C_drew ?_))); (case aB => exact (zb1 HB)); (case aF => exact (fun k_ hk => Kd.freshB (g := gb130) (o := .cells #[.int .i64 a1_0, .int .i64 a1_1, .int .i64 a1_2, .int .i64 a1_3] 62 (0, 0)) (zq1 BK130) k_ hk)); (case aO => exact (zq3 HO178)); (case aS => exact (below_size (zb1 HB))); (case aL => have := LMc69.out; omega); intro v180 w76 ho hb hg hat; rw [← Ny179.out] at ho; have HO181 := qa (ho); replace BK130 := qa (blk_grown (g := gb130) (o := .cells #[.int .i64 a1_0, .int .i64 a1_1, .int .i64 a1_2, .int .i64 a1_3] 62 (0, 0)) (zq1 BK130) hg (Kd.R_away HO178.out (fun _ hk => hk))); replace HB := qa (hb); clear HO178; clear ho hb hg hat))
              go_ret
              exact ⟨_, by first | rfl | (simp [errW_none, errW_some] <;> rfl) | (simp [*, errW_none, errW_some] <;> rfl), by (with_reducible repeat (first | apply Kd.R_alloc | apply Kd.R_drewN | apply Kd.R_drew)); exact Kd.R_mono HO181.out (fun _ hk => trivial), (zb1 HB)⟩
             ·
              rw [if_neg c69] at H
              exact absurd H (by simp)
            ·
             rw [if_neg c68] at H
             exact absurd H (by simp)
          ·
           rw [if_neg c59] at H
           exact absurd H (by simp)
         ·
          rw [if_neg c58] at H
          exact absurd H (by simp)
        ·
         rw [if_neg c57] at H
         exact absurd H (by simp)
    ·
     rw [if_neg c15] at H
     exact absurd H (by simp)
   ·
    rw [if_neg c14] at H
    exact absurd H (by simp)
/-! ### spec_poSum: function 52 -/
set_option maxHeartbeats 8000000 in
set_option maxRecDepth 100000 in
theorem spec_poSum.calls (k : Nat) (A0 : Option Addr) (c0 : Nat) (l0 : List (S62)) (r1 : List (S62)) (r2 : Bool) (w : World) (hr0 : Kd.C k62 w A0 l0.length l0) (hc0 : l0.length ≤ c0) (h : spec_poSum.f k l0 = some (r1, r2)) :
  Calls Tryz.prog 52 #[.slice A0 l0.length c0] w fun e w' => ∃ v0_ : Value, e = .returned (.tuple #[v0_, .bool r2]) ∧ Kd.R k62 62 w' w.heap.size (fun _ => True) v0_ r1 ∧ Below w.heap.size w w' := by
 have hu62 := Tryz.underlying62
 have HR0 := qa hr0
 have HC0 := qa hc0
 clear hr0 hc0
 have HB := qa (Below.refl w.heap.size w)
 have H : (spec_poSum.l0 k ([] : List (S62)) l0 (l0.length : Int) 0) = some (r1, r2) := h
 clear h
 have H' := qa H
 clear H
 go_enter Tryz.func52, Tryz.ntmps52
 go_wp2
 go_loopg [4, 9] k (fun kq v4 v9 w' => ∃ (x4_1 : List (S62)) (x9_1 : Int), v9 = .int .i64 x9_1 ∧ Aside0 (spec_poSum.l0 kq x4_1 l0 (l0.length : Int) x9_1 = some (r1, r2)) ∧ Aside0 (kq ≤ k) ∧ Aside0 (Kd.R k62 62 w' w.heap.size (fun _ => True) v4 x4_1) ∧ Aside0 (Below w.heap.size w w'))
 case atStart => exact ⟨(([] : List (S62))), (0), qf, H', ⟨Nat.le_refl _⟩, ⟨by first | exact Kd.R_nil _ _ _ _ _ | exact Kd.N_nil _ _ _ _ _ | exact Kd.V_nil _ _ _ _ _ | exact Kd.Q_nil _ _ _ _ _ | exact Kd.S_nil _ _ _ _ _⟩, ⟨(zb0 HB)⟩⟩
 case round =>
  clear H'
  obtain ⟨x4_1, x9_1, rfl, HA, HK1, HO_4, HB⟩ := hrel
  cases gk with
  | zero => exact absurd HA.out (by simp [spec_poSum.l0])
  | succ k1 =>
   have H := HA.out
   clear HA
   simp only [spec_poSum.l0] at H
   by_cases c2 : x9_1 < (l0.length : Int)
   ·
    rw [if_pos c2] at H
    have c2b0 := decide_eq_true c2
    clear c2
    by_cases c3 : 0 ≤ x9_1
    ·
     rw [if_pos c3] at H
     have c3b0 := decide_eq_true c3
     clear c3
     by_cases c4 : x9_1 < (l0.length : Int)
     ·
      rw [if_pos c4] at H
      have c4b0 := decide_eq_true c4
      clear c4
      replace H := qo H
      obtain ⟨t184, A5, H⟩ := H
      replace H : (spec_poSum.l0 k1 t184 l0 (l0.length : Int) (wrap64 (x9_1 + 1))) = some (r1, r2) := H
      have H' := qa H
      clear H
      have p182 : 0 ≤ (x9_1 : Int) := qd
      have q182 : x9_1 < (l0.length : Int) := qd
      obtain ⟨ad182, e182, hx182_0, hx182_1, hx182_2, hx182_3⟩ := at_T62 HR0.out x9_1 p182 q182
      cases e182
      replace hx182_0 := qb HB hx182_0
      replace hx182_1 := qb HB hx182_1
      replace hx182_2 := qb HB hx182_2
      replace hx182_3 := qb HB hx182_3
      replace p182 := eq_true p182
      replace q182 := eq_true q182
      go_wp2_with (first | ((with_reducible refine gate_dst (N := 6) rfl ?_); refine zbe (N := 6) (cs := #[.int .i64 0, .int .i64 0, .int .i64 0, .int .i64 0]) (t := 62) ?_; intro gb183 hg w6 hbox hb; have BK183 := qa (hbox); have GW183 := qa (zge (zb0 HB) hg); have GE183 := GW183; replace HO_4 := qa (Kd.R_below (Kd.R_elderB (zq3 HO_4) gb183 (Nat.le_of_eq hg.symm)) hb); replace HB := qa (below_step (zb0 HB) hb); clear hb hbox hg; obtain ⟨hcz7_0, hcz7_1, hcz7_2, hcz7_3⟩ := qc4 BK183; obtain ⟨hfz7_0, hfz7_1, hfz7_2, hfz7_3⟩ := qz4 BK183; obtain ⟨Ao8, co8, eo8⟩ := Kd.R_slice HO_4.out; subst eo8) | ((with_reducible refine gate_callee (f := 74) rfl ?_); refine qg 15 Tryz.func74 #[.slice Ao8 x4_1.length co8, .agg #[.int .i64 ((rd_T62 l0 x9_1).f0), .int .i64 ((rd_T62 l0 x9_1).f1), .int .i64 ((rd_T62 l0 x9_1).f2), .int .i64 ((rd_T62 l0 x9_1).f3)]] ?_; (with_reducible refine (spec_poPut.calls k1 _ _ x4_1 ((rd_T62 l0 x9_1).f0) ((rd_T62 l0 x9_1).f1) ((rd_T62 l0 x9_1).f2) ((rd_T62 l0 x9_1).f3) t184 _ ?side1 ?side2 A5.out).mono ?_); (case side1 => refine (Kd.R_reads' (e := 62) (base := w.heap.size) (ok := fun k_ => (True ∧ k_ ≠ gb183)) (n := x4_1.length) (c := co8) ?_).2.2; exact (by (with_reducible repeat (first | apply Kd.R_alloc | apply Kd.R_drewN | apply Kd.R_drew)); exact (Kd.R_mono (Kd.R_far (p := ⟨gb183, 3, none⟩) (Kd.R_far (p := ⟨gb183, 2, none⟩) (Kd.R_far (p := ⟨gb183, 1, none⟩) (Kd.R_far (p := ⟨gb183, 0, none⟩) (Kd.R_mono HO_4.out (fun k_ hk => (⟨hk, hk.2⟩ : _ ∧ k_ ≠ gb183))) (fun _ hk => hk.2) (.int .i64 ((rd_T62 l0 x9_1).f0))) (fun _ hk => hk.2) (.int .i64 ((rd_T62 l0 x9_1).f1))) (fun _ hk => hk.2) (.int .i64 ((rd_T62 l0 x9_1).f2))) (fun _ hk => hk.2) (.int .i64 ((rd_T62 l0 x9_1).f3))) (fun _ h_ => h_.1)))); (case side2 => exact (Kd.R_reads' HO_4.out).2.1); rintro e w9 ⟨v185, rfl, ho0, hb⟩; refine ⟨_, rfl, ?_⟩; have HO186 := qa (Kd.R_lower (Kd.R_newB (Kd.R_new' ho0 (Kd.R_lt (by (with_reducible repeat (first | apply Kd.R_alloc | apply Kd.R_drewN | apply Kd.R_drew)); exact (Kd.R_mono (Kd.R_far (p := ⟨gb183, 3, none⟩) (Kd.R_far (p := ⟨gb183, 2, none⟩) (Kd.R_far (p := ⟨gb183, 1, none⟩) (Kd.R_far (p := ⟨gb183, 0, none⟩) (Kd.R_mono HO_4.out (fun k_ hk => (⟨hk, hk.2⟩ : _ ∧ k_ ≠ gb183))) (fun _ hk => hk.2) (.int .i64 ((rd_T62 l0 x9_1).f0))) (fun _ hk => hk.2) (.int .i64 ((rd_T62 l0 x9_1).f1))) (fun _ hk => hk.2) (.int .i64 ((rd_T62 l0 x9_1).f2))) (fun _ hk => hk.2) (.int .i64 ((rd_T62 l0 x9_1).f3))) (fun _ h_ => h_.1))))) (g := gb183) (o := .cells #[.int .i64 ((rd_T62 l0 x9_1).f0), .int .i64 ((rd_T62 l0 x9_1).f1), .int .i64 ((rd_T62 l0 x9_1).f2), .int .i64 ((rd_T62 l0 x9_1).f3)] 62 (0, 0)) (qs BK183)) (below_size (zb1 HB))); replace HO_4 := qa (Kd.R_elder' (by (with_reducible repeat (first | apply Kd.R_alloc | apply Kd.R_drewN | apply Kd.R_drew)); exact (Kd.R_mono (Kd.R_far (p := ⟨gb183, 3, none⟩) (Kd.R_far (p := ⟨gb183, 2, none⟩) (Kd.R_far (p := ⟨gb183, 1, none⟩) (Kd.R_far (p := ⟨gb183, 0, none⟩) (Kd.R_mono HO_4.out (fun k_ hk => (⟨hk, hk.2⟩ : _ ∧ k_ ≠ gb183))) (fun _ hk => hk.2) (.int .i64 ((rd_T62 l0 x9_1).f0))) (fun _ hk => hk.2) (.int .i64 ((rd_T62 l0 x9_1).f1))) (fun _ hk => hk.2) (.int .i64 ((rd_T62 l0 x9_1).f2))) (fun _ hk => hk.2) (.int .i64 ((rd_T62 l0 x9_1).f3))) (fun _ h_ => h_.1))) (Kd.R_base ho0) hb); replace BK183 := qa (blk_below (g := gb183) (o := .cells #[.int .i64 ((rd_T62 l0 x9_1).f0), .int .i64 ((rd_T62 l0 x9_1).f1), .int .i64 ((rd_T62 l0 x9_1).f2), .int .i64 ((rd_T62 l0 x9_1).f3)] 62 (0, 0)) (qs BK183) hb); replace HB := qa (below_step (zb1 HB) hb); (try clear hb); (try clear hb2); (try clear hk); (try clear hi); (try clear ho0)))
      go_roundg k1
      case measure => have := HK1.out; omega
      case rel => exact ⟨(t184), (wrap64 (x9_1 + 1)), qf, H', ⟨by have := HK1.out; omega⟩, ⟨by (with_reducible repeat (first | apply Kd.R_alloc | apply Kd.R_drewN | apply Kd.R_drew)); exact Kd.R_mono HO186.out (fun _ hk => trivial)⟩, ⟨(zb1 HB)⟩⟩
     ·
      rw [if_neg c4] at H
      exact absurd H (by simp)
    ·
     rw [if_neg c3] at H
     exact absurd H (by simp)
   ·
    rw [if_neg c2] at H
    have c2b0 := decide_eq_false c2
    clear c2
    replace H := qo H
    obtain ⟨t187, A10, H⟩ := H
    replace H : (if t187 = true then (some (x4_1, true)) else (some (([] : List (S62)), false))) = some (r1, r2) := H
    by_cases c11 : t187 = true
    ·
     subst c11
     have H1 : (some (x4_1, true)) = some (r1, r2) := by rw [if_pos rfl] at H; exact H
     clear H
     have H := H1
     clear H1
     simp only [Option.some.injEq, Prod.mk.injEq] at H
     obtain ⟨rfl, rfl⟩ := H
     obtain ⟨Ao12, co12, eo12⟩ := Kd.R_slice HO_4.out
     subst eo12
     go_wp2_with (first | ((with_reducible refine gate_callee (f := 38) rfl ?_); refine qg 18 Tryz.func38 #[.slice Ao12 x4_1.length co12] ?_; (with_reducible refine (spec_poGood.calls k1 _ _ x4_1 true _ ?side1 ?side2 A10.out).mono ?_); (case side1 => repeat (first | exact (Kd.R_reads' HO_4.out).2.2 | (with_reducible refine Kd.C_alloc ?_ _) | (with_reducible refine Kd.C_drewN ?_ _) | (with_reducible refine Kd.C_drew ?_))); (case side2 => exact (Kd.R_reads' HO_4.out).2.1); rintro e w13 ⟨rfl, hb⟩; refine ⟨_, rfl, ?_⟩; replace HO_4 := qa (Kd.R_below (zq3 HO_4) hb); replace HB := qa (below_step (zb0 HB) hb); (try clear hb); (try clear hb2); (try clear hk); (try clear hi)))
     go_ret2
     exact ⟨_, by first | rfl | (simp [errW_none, errW_some] <;> rfl) | (simp [*, errW_none, errW_some] <;> rfl), by (with_reducible repeat (first | apply Kd.R_alloc | apply Kd.R_drewN | apply Kd.R_drew)); exact HO_4.out, (zb0 HB)⟩
    ·
     replace c11 := Bool.eq_false_iff.mpr c11
     subst c11
     have H1 : (some (([] : List (S62)), false)) = some (r1, r2) := by rw [if_neg (show ¬ (false = true) by decide)] at H; exact H
     clear H
     have H := H1
     clear H1
     simp only [Option.some.injEq, Prod.mk.injEq] at H
     obtain ⟨rfl, rfl⟩ := H
     obtain ⟨Ao14, co14, eo14⟩ := Kd.R_slice HO_4.out
     subst eo14
     go_wp2_with (first | ((with_reducible refine gate_callee (f := 38) rfl ?_); refine qg 18 Tryz.func38 #[.slice Ao14 x4_1.length co14] ?_; (with_reducible refine (spec_poGood.calls k1 _ _ x4_1 false _ ?side1 ?side2 A10.out).mono ?_); (case side1 => repeat (first | exact (Kd.R_reads' HO_4.out).2.2 | (with_reducible refine Kd.C_alloc ?_ _) | (with_reducible refine Kd.C_drewN ?_ _) | (with_reducible refine Kd.C_drew ?_))); (case side2 => exact (Kd.R_reads' HO_4.out).2.1); rintro e w15 ⟨rfl, hb⟩; refine ⟨_, rfl, ?_⟩; replace HO_4 := qa (Kd.R_below (zq3 HO_4) hb); replace HB := qa (below_step (zb0 HB) hb); (try clear hb); (try clear hb2); (try clear hk); (try clear hi)))
     go_ret2
     exact ⟨_, by first | rfl | (simp [errW_none, errW_some] <;> rfl) | (simp [*, errW_none, errW_some] <;> rfl), by first | exact Kd.R_nil _ _ _ _ _ | exact Kd.N_nil _ _ _ _ _ | exact Kd.V_nil _ _ _ _ _ | exact Kd.Q_nil _ _ _ _ _ | exact Kd.S_nil _ _ _ _ _, (zb0 HB)⟩
/-! ### spec_poAdd: function 80 -/
set_option maxHeartbeats 8000000 in
set_option maxRecDepth 100000 in
theorem spec_poAdd.calls (k : Nat) (A0 : Option Addr) (c0 : Nat) (l0 : List (S62)) (A1 : Option Addr) (c1 : Nat) (l1 : List (S62)) (r1 : List (S62)) (r2 : Bool) (w : World) (hr0 : Kd.C k62 w A0 l0.length l0) (hc0 : l0.length ≤ c0) (hr1 : Kd.C k62 w A1 l1.length l1) (hc1 : l1.length ≤ c1) (h : spec_poAdd.f k l0 l1 = some (r1, r2)) :
  Calls Tryz.prog 80 #[.slice A0 l0.length c0, .slice A1 l1.length c1] w fun e w' => ∃ v0_ : Value, e = .returned (.tuple #[v0_, .bool r2]) ∧ Kd.R k62 62 w' w.heap.size (fun _ => True) v0_ r1 ∧ Below w.heap.size w w' := by
 have HR0 := qa hr0
 have HC0 := qa hc0
 clear hr0 hc0
 have HR1 := qa hr1
 have HC1 := qa hc1
 clear hr1 hc1
 have HB := qa (Below.refl w.heap.size w)
 have H : ((some (([] : List (S62)) : List (S62))).bind fun y188 => (if y188.length + l0.length < 4398046511104 then ((some (y188 ++ l0 : List (S62))).bind fun y191 => (if y191.length + l1.length < 4398046511104 then ((spec_poSum.f k (y191 ++ l1)).bind fun bt197 => (some (bt197.1, bt197.2))) else (none))) else (none))) = some (r1, r2) := h
 clear h
 obtain ⟨y188, hy188⟩ : ∃ y_ : List (S62), y_ = (([] : List (S62))) := ⟨_, rfl⟩
 replace H : (if y188.length + l0.length < 4398046511104 then ((some (y188 ++ l0 : List (S62))).bind fun y191 => (if y191.length + l1.length < 4398046511104 then ((spec_poSum.f k (y191 ++ l1)).bind fun bt197 => (some (bt197.1, bt197.2))) else (none))) else (none)) = some (r1, r2) := by first | (rw [hy188]; with_reducible exact H) | (have H2_ := (Option.bind_some _ _).symm.trans H; rw [hy188]; with_reducible exact H2_) | (have H2_ := (Option.bind_some _ _).symm.trans H; with_reducible exact H2_) | with_reducible exact H | (rw [hy188]; exact H) | exact H
 have Ny188 := qa hy188
 clear hy188
 by_cases c3 : y188.length + l0.length < 4398046511104
 ·
  rw [if_pos c3] at H
  have LMc3 := qa c3
  clear c3
  obtain ⟨y191, hy191⟩ : ∃ y_ : List (S62), y_ = (y188 ++ l0) := ⟨_, rfl⟩
  replace H : (if y191.length + l1.length < 4398046511104 then ((spec_poSum.f k (y191 ++ l1)).bind fun bt197 => (some (bt197.1, bt197.2))) else (none)) = some (r1, r2) := by first | (rw [hy191]; with_reducible exact H) | (have H2_ := (Option.bind_some _ _).symm.trans H; rw [hy191]; with_reducible exact H2_) | (have H2_ := (Option.bind_some _ _).symm.trans H; with_reducible exact H2_) | with_reducible exact H | (rw [hy191]; exact H) | exact H
  have Ny191 := qa hy191
  clear hy191
  by_cases c4 : y191.length + l1.length < 4398046511104
  ·
   rw [if_pos c4] at H
   have LMc4 := qa c4
   clear c4
   obtain ⟨y194, hy194⟩ : ∃ y_ : List (S62), y_ = (y191 ++ l1) := ⟨_, rfl⟩
   replace H : ((spec_poSum.f k y194).bind fun bt197 => (some (bt197.1, bt197.2))) = some (r1, r2) := by first | (rw [hy194]; with_reducible exact H) | (have H2_ := (Option.bind_some _ _).symm.trans H; rw [hy194]; with_reducible exact H2_) | (have H2_ := (Option.bind_some _ _).symm.trans H; with_reducible exact H2_) | with_reducible exact H | (rw [hy194]; exact H) | exact H
   have Ny194 := qa hy194
   clear hy194
   replace H := qo H
   obtain ⟨⟨t197, t198⟩, A5, H⟩ := H
   replace H : (some (t197, t198)) = some (r1, r2) := H
   simp only [Option.some.injEq, Prod.mk.injEq] at H
   obtain ⟨rfl, rfl⟩ := H
   go_enter Tryz.func80, Tryz.ntmps80
   go_wp2_with (first | ((with_reducible refine gate_dst (N := 6) rfl ?_); refine Kd.R_lit k62 _ 62 ?hg (N := 6) ?hd (xs := ([] : List (S62))) (inner := []) (ok := fun _ => True) (okp := fun _ => True) ?hr ?hp (fun _ hk => hk) trivial (Below.refl _ _) (Nat.le_refl _) (by simp) ?_; (case hd => rfl); (case hg => rfl); (case hr => first | (go_simp; done) | (go_simp; rfl)); (case hp => exact (Reps.none _ _)); intro v189 w6 ho7 hb hg_ hnew_; clear hg_ hnew_; (first | rw [← Ny188.out] at ho7 | (simp only [Int.reduceToNat] at ho7; rw [← Ny188.out] at ho7)); have HO190 := qa (Kd.R_lower ho7 (below_size (zb0 HB))); replace HB := qa (below_step (zb0 HB) hb); clear hb ho7) | ((with_reducible refine gate_builtin (b := .append) (xs := #[.tmp 6, .tmp 7]) rfl ?_); at_builtin; refine Kd.R_append_rows k62 (w0 := w) w.heap.size rfl (.tmp 6) (.tmp 7) 24 62 (.agg #[(.int .i64 0), (.int .i64 0), (.int .i64 0), (.int .i64 0)]) 32 rfl Tryz.underlying24 info62 rfl (by decide) (by omega) v189 y188 l0 _ _ _ (fun _ => True) (fun _ => False) rfl rfl ?aO ?aR (fun _ _ h => h) (fun _ h => h.elim) ?aF ?aB ?aS ?aL ?_; (case aR => repeat (first | exact (Kd.C_below HR0.out HB.out) | (with_reducible refine Kd.C_alloc ?_ _) | (with_reducible refine Kd.C_drewN ?_ _) | (with_reducible refine Kd.C_drew ?_))); (case aB => exact (zb0 HB)); (case aF => exact (fun _ _ => trivial)); (case aO => exact (zq3 HO190)); (case aS => exact (below_size (zb0 HB))); (case aL => have := LMc3.out; omega); intro v192 w8 ho hb hg hat; rw [← Ny191.out] at ho; have HO193 := qa (ho); replace HB := qa (hb); clear HO190; clear ho hb hg hat) | ((with_reducible refine gate_builtin (b := .append) (xs := #[.tmp 8, .tmp 9]) rfl ?_); at_builtin; refine Kd.R_append_rows k62 (w0 := w) w.heap.size rfl (.tmp 8) (.tmp 9) 24 62 (.agg #[(.int .i64 0), (.int .i64 0), (.int .i64 0), (.int .i64 0)]) 32 rfl Tryz.underlying24 info62 rfl (by decide) (by omega) v192 y191 l1 _ _ _ (fun _ => True) (fun _ => False) rfl rfl ?aO ?aR (fun _ _ h => h) (fun _ h => h.elim) ?aF ?aB ?aS ?aL ?_; (case aR => repeat (first | exact (Kd.C_below HR1.out HB.out) | (with_reducible refine Kd.C_alloc ?_ _) | (with_reducible refine Kd.C_drewN ?_ _) | (with_reducible refine Kd.C_drew ?_))); (case aB => exact (zb0 HB)); (case aF => exact (fun _ _ => trivial)); (case aO => exact (zq3 HO193)); (case aS => exact (below_size (zb0 HB))); (case aL => have := LMc4.out; omega); intro v195 w9 ho hb hg hat; rw [← Ny194.out] at ho; have HO196 := qa (ho); replace HB := qa (hb); clear HO193; clear ho hb hg hat; obtain ⟨Ao10, co10, eo10⟩ := Kd.R_slice HO196.out; subst eo10) | ((with_reducible refine gate_callee (f := 52) rfl ?_); refine qg 11 Tryz.func52 #[.slice Ao10 y194.length co10] ?_; (with_reducible refine (spec_poSum.calls k _ _ y194 t197 t198 _ ?side1 ?side2 A5.out).mono ?_); (case side1 => repeat (first | exact (Kd.R_reads' HO196.out).2.2 | (with_reducible refine Kd.C_alloc ?_ _) | (with_reducible refine Kd.C_drewN ?_ _) | (with_reducible refine Kd.C_drew ?_))); (case side2 => exact (Kd.R_reads' HO196.out).2.1); rintro e w11 ⟨v199, rfl, ho0, hb⟩; refine ⟨_, rfl, ?_⟩; have HO200 := qa (Kd.R_lower (Kd.R_new' ho0 (Kd.R_lt (zq3 HO196))) (below_size (zb0 HB))); replace HO196 := qa (Kd.R_elder' (zq3 HO196) (Kd.R_base ho0) hb); replace HB := qa (below_step (zb0 HB) hb); (try clear hb); (try clear hb2); (try clear hk); (try clear hi); (try clear ho0)))
   go_ret2
   exact ⟨_, by first | rfl | (simp [errW_none, errW_some] <;> rfl) | (simp [*, errW_none, errW_some] <;> rfl), by (with_reducible repeat (first | apply Kd.R_alloc | apply Kd.R_drewN | apply Kd.R_drew)); exact Kd.R_mono HO200.out (fun _ hk => trivial), (zb0 HB)⟩
  ·
   rw [if_neg c4] at H
   exact absurd H (by simp)
 ·
  rw [if_neg c3] at H
  exact absurd H (by simp)
end Go.Proofs.YthanmlojikidbaaGreat.PD
