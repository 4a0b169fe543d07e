-- By wip/mk/drv.py
import Derived.Test.YtemjjknnelngcaaDoorQSystxtPDx0
import Derived.Test.YtemjjknnelngcaaDoorQSystxtPDx1
import Derived.Test.YtemjjknnelngcaaDoorQSystxtPDx2
import Derived.Test.YtemjjknnelngcaaDoorQSystxtPDx6
import Derived.Test.YtemjjknnelngcaaDoorQSystxtPDx7
namespace Go.Proofs.YtemjjknnelngcaaDoor.PD
open Go.RowKit Go.Proofs.YtemjjknnelngcaaDoorW.PrintWords Go.Proofs.YtemjjknnelngcaaDoorW.PrintLast Go.Proofs.YtemjjknnelngcaaDoorW.PrintMore
attribute [local go_sem] max2_int min2_int max_two min_two max_three min_three max_four min_four
set_option linter.unusedVariables false
set_option linter.unusedSimpArgs false
/-! ### spec_txTerm: function 33 -/
set_option maxHeartbeats 8000000 in
set_option maxRecDepth 100000 in
theorem spec_txTerm.calls (k : Nat) (a0_0 : Int) (a0_1 : Int) (a0_2 : Int) (a0_3 : Int) (r : ByteArray) (w : World) (h : spec_txTerm.f k a0_0 a0_1 a0_2 a0_3 = some r) :
  Calls Tryd.prog 33 #[.agg #[.int .i64 a0_0, .int .i64 a0_1, .int .i64 a0_2, .int .i64 a0_3]] w fun e w' => e = .returned (.string r) ∧ Below w.heap.size w w' := by
 have hu38 := Tryd.underlying38
 have HB := Aside0.mk (Below.refl w.heap.size w)
 have H : (spec_txTerm.l0 k (⟨#[]⟩ : ByteArray) 0 a0_0 a0_1 a0_2 a0_3) = some r := h
 clear h
 have H' := Aside0.mk H
 clear H
 go_enter Tryd.func33, Tryd.ntmps33
 go_wp2_with (first | ((with_reducible refine gate_dst (N := 1) rfl ?_); refine zbe (N := 1) (cs := #[.int .i64 a0_0, .int .i64 a0_1, .int .i64 a0_2, .int .i64 a0_3]) (t := 38) ?_; intro gb136 hg w2 hbox hb; have BK136 := Aside0.mk (hbox); have GW136 := Aside0.mk (zge (zb0 HB) hg); have GE136 := GW136; replace HB := Aside0.mk (below_step (zb0 HB) hb); clear hb hbox hg))
 go_loopg [3, 4] k (fun kq v3 v4 w' => ∃ (x3_1 : ByteArray) (x4_1 : Int), v3 = .string x3_1 ∧ v4 = .int .i64 x4_1 ∧ Aside0 (spec_txTerm.l0 kq x3_1 x4_1 a0_0 a0_1 a0_2 a0_3 = some r) ∧ Aside0 (kq ≤ k) ∧ Aside0 (w'.heap[gb136]? = some (.cells #[.int .i64 a0_0, .int .i64 a0_1, .int .i64 a0_2, .int .i64 a0_3] 38 (0, 0))) ∧ Aside0 (Below w.heap.size w w'))
 case atStart => exact ⟨((⟨#[]⟩ : ByteArray)), (0), (by first | rfl | (simp; done) | (simp [*]; done)), (by first | rfl | (simp; done) | (simp [*]; done)), H', ⟨Nat.le_refl _⟩, ⟨by (with_reducible repeat (first | refine blk_drewN ?_ _ | refine blk_drew ?_ | refine blk_alloc ?_ _)); exact BK136.out⟩, ⟨(zb1 HB)⟩⟩
 case round =>
  clear H'
  try clear p2
  obtain ⟨x3_1, x4_1, rfl, rfl, HA, HK1, BK136, HB⟩ := hrel
  cases gk with
  | zero => exact absurd HA.out (by simp [spec_txTerm.l0])
  | succ k1 =>
   have H := HA.out
   clear HA
   simp only [spec_txTerm.l0] at H
   by_cases c3 : x4_1 < 3
   ·
    rw [if_pos c3] at H
    have c3b0 : decide (x4_1 < 3) = true := decide_eq_true c3
    clear c3
    replace H := Option.bind_eq_some_iff.mp H
    obtain ⟨t137, A40, H⟩ := H
    replace H : (if t137 = 0 then (spec_txTerm.l0 k1 x3_1 (wrap64 (x4_1 + 1)) a0_0 a0_1 a0_2 a0_3) else (if 0 ≤ x4_1 then (if x4_1 ≤ (wrap64 (x4_1 + 1)) then (if (wrap64 (x4_1 + 1)) ≤ 3 then (if 1 + ((⟨#[120, 121, 122]⟩ : ByteArray).extract (x4_1 : Int).toNat ((wrap64 (x4_1 + 1)) : Int).toNat).size ≤ 9223372036854775807 then (if x3_1.size + ((⟨#[42]⟩ : ByteArray) ++ ((⟨#[120, 121, 122]⟩ : ByteArray).extract (x4_1 : Int).toNat ((wrap64 (x4_1 + 1)) : Int).toNat)).size ≤ 9223372036854775807 then (if t137 > 1 then ((spec_l1Num.f k1 t137).bind fun t138 => (if 1 + t138.size ≤ 9223372036854775807 then (if (x3_1 ++ ((⟨#[42]⟩ : ByteArray) ++ ((⟨#[120, 121, 122]⟩ : ByteArray).extract (x4_1 : Int).toNat ((wrap64 (x4_1 + 1)) : Int).toNat))).size + ((⟨#[94]⟩ : ByteArray) ++ t138).size ≤ 9223372036854775807 then (spec_txTerm.l0 k1 ((x3_1 ++ ((⟨#[42]⟩ : ByteArray) ++ ((⟨#[120, 121, 122]⟩ : ByteArray).extract (x4_1 : Int).toNat ((wrap64 (x4_1 + 1)) : Int).toNat))) ++ ((⟨#[94]⟩ : ByteArray) ++ t138)) (wrap64 (x4_1 + 1)) a0_0 a0_1 a0_2 a0_3) else (none)) else (none))) else (spec_txTerm.l0 k1 (x3_1 ++ ((⟨#[42]⟩ : ByteArray) ++ ((⟨#[120, 121, 122]⟩ : ByteArray).extract (x4_1 : Int).toNat ((wrap64 (x4_1 + 1)) : Int).toNat))) (wrap64 (x4_1 + 1)) a0_0 a0_1 a0_2 a0_3)) else (none)) else (none)) else (none)) else (none)) else (none))) = some r := H
    have A4 := Aside0.mk A40
    clear A40
    by_cases c5 : t137 = 0
    ·
     rw [if_pos c5] at H
     have c5b0 : (t137 == 0) = true := beq_iff_eq.mpr c5
     have c5b1 : (t137 != 0) = false := bne_eq_false_iff_eq.mpr c5
     clear c5
     have H' := Aside0.mk H
     clear H
     have hcz6_0 : wr.cell? ⟨gb136, 0, none⟩ = some (.int .i64 a0_0) := zc BK136 0
     have hcz6_1 : wr.cell? ⟨gb136, 1, none⟩ = some (.int .i64 a0_1) := zc BK136 1
     have hcz6_2 : wr.cell? ⟨gb136, 2, none⟩ = some (.int .i64 a0_2) := zc BK136 2
     have hcz6_3 : wr.cell? ⟨gb136, 3, none⟩ = some (.int .i64 a0_3) := zc BK136 3
     have hfz6_0 := blk_frozen BK136.out 0
     have hfz6_1 := blk_frozen BK136.out 1
     have hfz6_2 := blk_frozen BK136.out 2
     have hfz6_3 := blk_frozen BK136.out 3
     go_wp2_with (first | ((with_reducible refine gate_callee (f := 32) rfl ?_); refine goesL_ (some 12) rfl rfl Tryd.func32 (by kernel_rfl) rfl #[.agg #[.int .i64 a0_0, .int .i64 a0_1, .int .i64 a0_2, .int .i64 a0_3], .int .i64 x4_1] rfl zq6 ?_; (with_reducible refine (spec_poPower.calls a0_0 a0_1 a0_2 a0_3 x4_1 t137 _ A4.out).mono ?_); rintro e w7 ⟨rfl, hb⟩; refine ⟨_, rfl, ?_⟩; replace BK136 := Aside0.mk (zbb BK136 hb); replace HB := Aside0.mk (below_step (zb1 HB) hb); (try clear hb); (try clear hb2); (try clear hk); (try clear hi)))
     go_roundg k1
     case measure => have := HK1.out; omega
     case rel => exact ⟨(x3_1), (wrap64 (x4_1 + 1)), (by first | rfl | (simp; done) | (simp [*]; done)), (by first | rfl | (simp; done) | (simp [*]; done)), H', ⟨by have := HK1.out; omega⟩, ⟨by (with_reducible repeat (first | refine blk_drewN ?_ _ | refine blk_drew ?_ | refine blk_alloc ?_ _)); exact BK136.out⟩, ⟨(zb1 HB)⟩⟩
    ·
     rw [if_neg c5] at H
     have c5b0 : (t137 == 0) = false := beq_eq_false_iff_ne.mpr c5
     have c5b1 : (t137 != 0) = true := bne_iff_ne.mpr c5
     by_cases c8 : 0 ≤ x4_1
     ·
      rw [if_pos c8] at H
      have c8b0 := eq_true c8
      have c8b1 : decide (0 ≤ x4_1) = true := decide_eq_true c8
      clear c8
      by_cases c9 : x4_1 ≤ (wrap64 (x4_1 + 1))
      ·
       rw [if_pos c9] at H
       have c9b0 := eq_true c9
       have c9b1 : decide (x4_1 ≤ (wrap64 (x4_1 + 1))) = true := decide_eq_true c9
       by_cases c10 : (wrap64 (x4_1 + 1)) ≤ 3
       ·
        rw [if_pos c10] at H
        have c10b0 := eq_true c10
        have c10b1 : decide ((wrap64 (x4_1 + 1)) ≤ 3) = true := decide_eq_true c10
        by_cases c11 : 1 + ((⟨#[120, 121, 122]⟩ : ByteArray).extract (x4_1 : Int).toNat ((wrap64 (x4_1 + 1)) : Int).toNat).size ≤ 9223372036854775807
        ·
         rw [if_pos c11] at H
         have c11b0 := eq_true c11
         have c11b1 : decide (1 + ((⟨#[120, 121, 122]⟩ : ByteArray).extract (x4_1 : Int).toNat ((wrap64 (x4_1 + 1)) : Int).toNat).size ≤ 9223372036854775807) = true := decide_eq_true c11
         try have c11b2 : (9223372036854775807 < 1 + ((⟨#[120, 121, 122]⟩ : ByteArray).extract (x4_1 : Int).toNat ((wrap64 (x4_1 + 1)) : Int).toNat).size) = False := eq_false (Nat.not_lt.2 c11)
         by_cases c12 : x3_1.size + ((⟨#[42]⟩ : ByteArray) ++ ((⟨#[120, 121, 122]⟩ : ByteArray).extract (x4_1 : Int).toNat ((wrap64 (x4_1 + 1)) : Int).toNat)).size ≤ 9223372036854775807
         ·
          rw [if_pos c12] at H
          have c12b0 := eq_true c12
          have c12b1 : decide (x3_1.size + ((⟨#[42]⟩ : ByteArray) ++ ((⟨#[120, 121, 122]⟩ : ByteArray).extract (x4_1 : Int).toNat ((wrap64 (x4_1 + 1)) : Int).toNat)).size ≤ 9223372036854775807) = true := decide_eq_true c12
          try have c12b2 : (9223372036854775807 < x3_1.size + ((⟨#[42]⟩ : ByteArray) ++ ((⟨#[120, 121, 122]⟩ : ByteArray).extract (x4_1 : Int).toNat ((wrap64 (x4_1 + 1)) : Int).toNat)).size) = False := eq_false (Nat.not_lt.2 c12)
          try have c12b9 : (9223372036854775807 < x3_1.size + 1 + (⟨#[120, 121, 122]⟩ : ByteArray).extract (x4_1 : Int).toNat ((wrap64 (x4_1 + 1)) : Int).toNat.size) = False := eq_false (Nat.not_lt.2 (by have h_ := c12; simp only [ByteArray.size_append] at h_; exact h_))
          by_cases c13 : t137 > 1
          ·
           rw [if_pos c13] at H
           have c13b0 : decide (1 < t137) = true := decide_eq_true c13
           clear c13
           replace H := Option.bind_eq_some_iff.mp H
           obtain ⟨t138, A140, H⟩ := H
           replace H : (if 1 + t138.size ≤ 9223372036854775807 then (if (x3_1 ++ ((⟨#[42]⟩ : ByteArray) ++ ((⟨#[120, 121, 122]⟩ : ByteArray).extract (x4_1 : Int).toNat ((wrap64 (x4_1 + 1)) : Int).toNat))).size + ((⟨#[94]⟩ : ByteArray) ++ t138).size ≤ 9223372036854775807 then (spec_txTerm.l0 k1 ((x3_1 ++ ((⟨#[42]⟩ : ByteArray) ++ ((⟨#[120, 121, 122]⟩ : ByteArray).extract (x4_1 : Int).toNat ((wrap64 (x4_1 + 1)) : Int).toNat))) ++ ((⟨#[94]⟩ : ByteArray) ++ t138)) (wrap64 (x4_1 + 1)) a0_0 a0_1 a0_2 a0_3) else (none)) else (none)) = some r := H
           have A14 := Aside0.mk A140
           clear A140
           by_cases c15 : 1 + t138.size ≤ 9223372036854775807
           ·
            rw [if_pos c15] at H
            have c15b0 := eq_true c15
            have c15b1 : decide (1 + t138.size ≤ 9223372036854775807) = true := decide_eq_true c15
            try have c15b2 : (9223372036854775807 < 1 + t138.size) = False := eq_false (Nat.not_lt.2 c15)
            by_cases c16 : (x3_1 ++ ((⟨#[42]⟩ : ByteArray) ++ ((⟨#[120, 121, 122]⟩ : ByteArray).extract (x4_1 : Int).toNat ((wrap64 (x4_1 + 1)) : Int).toNat))).size + ((⟨#[94]⟩ : ByteArray) ++ t138).size ≤ 9223372036854775807
            ·
             rw [if_pos c16] at H
             have c16b0 := eq_true c16
             have c16b1 : decide ((x3_1 ++ ((⟨#[42]⟩ : ByteArray) ++ ((⟨#[120, 121, 122]⟩ : ByteArray).extract (x4_1 : Int).toNat ((wrap64 (x4_1 + 1)) : Int).toNat))).size + ((⟨#[94]⟩ : ByteArray) ++ t138).size ≤ 9223372036854775807) = true := decide_eq_true c16
             try have c16b2 : (9223372036854775807 < (x3_1 ++ ((⟨#[42]⟩ : ByteArray) ++ ((⟨#[120, 121, 122]⟩ : ByteArray).extract (x4_1 : Int).toNat ((wrap64 (x4_1 + 1)) : Int).toNat))).size + ((⟨#[94]⟩ : ByteArray) ++ t138).size) = False := eq_false (Nat.not_lt.2 c16)
             try have c16b9 : (9223372036854775807 < x3_1.size + 1 + (⟨#[120, 121, 122]⟩ : ByteArray).extract (x4_1 : Int).toNat ((wrap64 (x4_1 + 1)) : Int).toNat.size + 1 + t138.size) = False := eq_false (Nat.not_lt.2 (by have h_ := c16; simp only [ByteArray.size_append] at h_; exact h_))
             have H' := Aside0.mk H
             clear H
             have hcz17_0 : wr.cell? ⟨gb136, 0, none⟩ = some (.int .i64 a0_0) := zc BK136 0
             have hcz17_1 : wr.cell? ⟨gb136, 1, none⟩ = some (.int .i64 a0_1) := zc BK136 1
             have hcz17_2 : wr.cell? ⟨gb136, 2, none⟩ = some (.int .i64 a0_2) := zc BK136 2
             have hcz17_3 : wr.cell? ⟨gb136, 3, none⟩ = some (.int .i64 a0_3) := zc BK136 3
             have hfz17_0 := blk_frozen BK136.out 0
             have hfz17_1 := blk_frozen BK136.out 1
             have hfz17_2 := blk_frozen BK136.out 2
             have hfz17_3 := blk_frozen BK136.out 3
             go_wp2_with (first | ((with_reducible refine gate_callee (f := 32) rfl ?_); refine goesL_ (some 12) rfl rfl Tryd.func32 (by kernel_rfl) rfl #[.agg #[.int .i64 a0_0, .int .i64 a0_1, .int .i64 a0_2, .int .i64 a0_3], .int .i64 x4_1] rfl zq6 ?_; (with_reducible refine (spec_poPower.calls a0_0 a0_1 a0_2 a0_3 x4_1 t137 _ A4.out).mono ?_); rintro e w18 ⟨rfl, hb⟩; refine ⟨_, rfl, ?_⟩; replace BK136 := Aside0.mk (zbb BK136 hb); replace HB := Aside0.mk (below_step (zb1 HB) hb); (try clear hb); (try clear hb2); (try clear hk); (try clear hi)) | ((with_reducible refine gate_callee (f := 41) rfl ?_); refine goesL_ (some 26) rfl rfl Tryd.func41 (by kernel_rfl) rfl #[.int .i64 t137] rfl zq6 ?_; (with_reducible refine (spec_l1Num.calls k1 t137 t138 _ A14.out).mono ?_); rintro e w19 ⟨rfl, hb⟩; refine ⟨_, rfl, ?_⟩; replace BK136 := Aside0.mk (zbb BK136 hb); replace HB := Aside0.mk (below_step (zb1 HB) hb); (try clear hb); (try clear hb2); (try clear hk); (try clear hi)))
             go_roundg k1
             case measure => have := HK1.out; omega
             case rel => exact ⟨((x3_1 ++ ((⟨#[42]⟩ : ByteArray) ++ ((⟨#[120, 121, 122]⟩ : ByteArray).extract (x4_1 : Int).toNat ((wrap64 (x4_1 + 1)) : Int).toNat))) ++ ((⟨#[94]⟩ : ByteArray) ++ t138)), (wrap64 (x4_1 + 1)), (by first | rfl | (simp; done) | (simp [*]; done)), (by first | rfl | (simp; done) | (simp [*]; done)), H', ⟨by have := HK1.out; omega⟩, ⟨by (with_reducible repeat (first | refine blk_drewN ?_ _ | refine blk_drew ?_ | refine blk_alloc ?_ _)); exact BK136.out⟩, ⟨(zb1 HB)⟩⟩
            ·
             rw [if_neg c16] at H
             exact absurd H (by simp)
           ·
            rw [if_neg c15] at H
            exact absurd H (by simp)
          ·
           rw [if_neg c13] at H
           have c13b0 : decide (1 < t137) = false := decide_eq_false c13
           clear c13
           have H' := Aside0.mk H
           clear H
           have hcz20_0 : wr.cell? ⟨gb136, 0, none⟩ = some (.int .i64 a0_0) := zc BK136 0
           have hcz20_1 : wr.cell? ⟨gb136, 1, none⟩ = some (.int .i64 a0_1) := zc BK136 1
           have hcz20_2 : wr.cell? ⟨gb136, 2, none⟩ = some (.int .i64 a0_2) := zc BK136 2
           have hcz20_3 : wr.cell? ⟨gb136, 3, none⟩ = some (.int .i64 a0_3) := zc BK136 3
           have hfz20_0 := blk_frozen BK136.out 0
           have hfz20_1 := blk_frozen BK136.out 1
           have hfz20_2 := blk_frozen BK136.out 2
           have hfz20_3 := blk_frozen BK136.out 3
           go_wp2_with (first | ((with_reducible refine gate_callee (f := 32) rfl ?_); refine goesL_ (some 12) rfl rfl Tryd.func32 (by kernel_rfl) rfl #[.agg #[.int .i64 a0_0, .int .i64 a0_1, .int .i64 a0_2, .int .i64 a0_3], .int .i64 x4_1] rfl zq6 ?_; (with_reducible refine (spec_poPower.calls a0_0 a0_1 a0_2 a0_3 x4_1 t137 _ A4.out).mono ?_); rintro e w21 ⟨rfl, hb⟩; refine ⟨_, rfl, ?_⟩; replace BK136 := Aside0.mk (zbb BK136 hb); replace HB := Aside0.mk (below_step (zb1 HB) hb); (try clear hb); (try clear hb2); (try clear hk); (try clear hi)))
           go_roundg k1
           case measure => have := HK1.out; omega
           case rel => exact ⟨(x3_1 ++ ((⟨#[42]⟩ : ByteArray) ++ ((⟨#[120, 121, 122]⟩ : ByteArray).extract (x4_1 : Int).toNat ((wrap64 (x4_1 + 1)) : Int).toNat))), (wrap64 (x4_1 + 1)), (by first | rfl | (simp; done) | (simp [*]; done)), (by first | rfl | (simp; done) | (simp [*]; done)), H', ⟨by have := HK1.out; omega⟩, ⟨by (with_reducible repeat (first | refine blk_drewN ?_ _ | refine blk_drew ?_ | refine blk_alloc ?_ _)); exact BK136.out⟩, ⟨(zb1 HB)⟩⟩
         ·
          rw [if_neg c12] at H
          exact absurd H (by simp)
        ·
         rw [if_neg c11] at H
         exact absurd H (by simp)
       ·
        rw [if_neg c10] at H
        exact absurd H (by simp)
      ·
       rw [if_neg c9] at H
       exact absurd H (by simp)
     ·
      rw [if_neg c8] at H
      exact absurd H (by simp)
   ·
    rw [if_neg c3] at H
    have c3b0 : decide (x4_1 < 3) = false := decide_eq_false c3
    clear c3
    have HC22 := Aside0.mk H
    clear H
    go_upto_region 10 with (fail)
    go_cut [29] (fun v29 wc => ∃ (kq : Nat) (x29_21 : Bool), v29 = .bool x29_21 ∧ Aside0 (spec_txTerm.j1 kq x3_1 x29_21 a0_0 a0_1 a0_2 a0_3 = some r) ∧ Aside0 (kq ≤ k1) ∧ Aside0 (wc.heap[gb136]? = some (.cells #[.int .i64 a0_0, .int .i64 a0_1, .int .i64 a0_2, .int .i64 a0_3] 38 (0, 0))) ∧ Aside0 (Below w.heap.size w wc))
    case first =>
     have H := HC22.out
     clear HC22
     by_cases c23 : x3_1.toList = ([] : List UInt8)
     ·
      rw [if_pos c23] at H
      have c23b0 : (x3_1.toList == ([] : List UInt8)) = true := beq_iff_eq.mpr c23
      have c23b1 : (x3_1.toList != ([] : List UInt8)) = false := bne_eq_false_iff_eq.mpr c23
      clear c23
      (first | rw [c23b0] | (simp only [i64_w, i32_w]; rw [c23b0]) | skip)
      have H' := Aside0.mk H
      clear H
      go_wp2
      go_meet
      case rel => exact ⟨_, (false), (by first | rfl | (simp; done) | (simp [*]; done)), H', ⟨by have := HK1.out; first | omega | exact Nat.le_refl _⟩, ⟨by (with_reducible repeat (first | refine blk_drewN ?_ _ | refine blk_drew ?_ | refine blk_alloc ?_ _)); exact BK136.out⟩, ⟨(zb1 HB)⟩⟩
     ·
      rw [if_neg c23] at H
      have c23b0 : (x3_1.toList == ([] : List UInt8)) = false := beq_eq_false_iff_ne.mpr c23
      have c23b1 : (x3_1.toList != ([] : List UInt8)) = true := bne_iff_ne.mpr c23
      (first | rw [c23b0] | (simp only [i64_w, i32_w]; rw [c23b0]) | skip)
      have H' := Aside0.mk H
      clear H
      have hcz24_0 : wr.cell? ⟨gb136, 0, none⟩ = some (.int .i64 a0_0) := zc BK136 0
      have hcz24_1 : wr.cell? ⟨gb136, 1, none⟩ = some (.int .i64 a0_1) := zc BK136 1
      have hcz24_2 : wr.cell? ⟨gb136, 2, none⟩ = some (.int .i64 a0_2) := zc BK136 2
      have hcz24_3 : wr.cell? ⟨gb136, 3, none⟩ = some (.int .i64 a0_3) := zc BK136 3
      have hfz24_0 := blk_frozen BK136.out 0
      have hfz24_1 := blk_frozen BK136.out 1
      have hfz24_2 := blk_frozen BK136.out 2
      have hfz24_3 := blk_frozen BK136.out 3
      go_wp2
      go_meet
      case rel => exact ⟨_, ((a0_0 == 1)), (by first | rfl | (simp; done) | (simp [*]; done)), H', ⟨by have := HK1.out; first | omega | exact Nat.le_refl _⟩, ⟨by (with_reducible repeat (first | refine blk_drewN ?_ _ | refine blk_drew ?_ | refine blk_alloc ?_ _)); exact BK136.out⟩, ⟨(zb1 HB)⟩⟩
    case rest =>
     clear HC22
     try clear c1
     try clear c2
     try clear p2
     try clear c3
     try clear c3b0
     try clear c4
     try clear c5
     try clear c5b0
     try clear c5b1
     try clear p6
     try clear c8
     try clear c8b0
     try clear c8b1
     try clear c9
     try clear c9b0
     try clear c9b1
     try clear c10
     try clear c10b0
     try clear c10b1
     try clear c11
     try clear c11b0
     try clear c11b1
     try clear c11b2
     try clear c12
     try clear c12b0
     try clear c12b1
     try clear c12b2
     try clear c13
     try clear c13b0
     try clear c15
     try clear c15b0
     try clear c15b1
     try clear c15b2
     try clear c16
     try clear c16b0
     try clear c16b1
     try clear c16b2
     try clear c23
     try clear c23b0
     try clear c23b1
     try clear hcz17_0
     try clear hcz17_1
     try clear hcz17_2
     try clear hcz17_3
     try clear hcz20_0
     try clear hcz20_1
     try clear hcz20_2
     try clear hcz20_3
     try clear hcz24_0
     try clear hcz24_1
     try clear hcz24_2
     try clear hcz24_3
     try clear hcz6_0
     try clear hcz6_1
     try clear hcz6_2
     try clear hcz6_3
     try clear hfz17_0
     try clear hfz17_1
     try clear hfz17_2
     try clear hfz17_3
     try clear hfz20_0
     try clear hfz20_1
     try clear hfz20_2
     try clear hfz20_3
     try clear hfz24_0
     try clear hfz24_1
     try clear hfz24_2
     try clear hfz24_3
     try clear hfz6_0
     try clear hfz6_1
     try clear hfz6_2
     try clear hfz6_3
     try clear p2
     obtain ⟨kq, x29_21, rfl, HA, HJ21, BK136, HB⟩ := hcut
     cases kq with
     | zero => exact absurd HA.out (by simp [spec_txTerm.j1])
     | succ kj21 =>
      have H := HA.out
      clear HA
      simp only [spec_txTerm.j1] at H
      by_cases c25 : x29_21 = true
      ·
       subst c25
       have H1 : (if 1 ≤ (x3_1.size : Int) then (some (x3_1.extract 1 x3_1.size)) else (none)) = some r := by rw [if_pos rfl] at H; exact H
       clear H
       have H := H1
       clear H1
       by_cases c26 : 1 ≤ (x3_1.size : Int)
       ·
        rw [if_pos c26] at H
        have c26b0 := eq_true c26
        have c26b1 : decide (1 ≤ (x3_1.size : Int)) = true := decide_eq_true c26
        clear c26
        obtain rfl := Option.some.inj H
        go_wp2
        go_ret
        exact ⟨by first | rfl | (simp [errW_none, errW_some] <;> rfl) | (simp [*, errW_none, errW_some] <;> rfl), (zb1 HB)⟩
       ·
        rw [if_neg c26] at H
        exact absurd H (by simp)
      ·
       replace c25 := Bool.eq_false_iff.mpr c25
       subst c25
       have H1 : (if x3_1.toList = ([] : List UInt8) then ((spec_l1Int.f kj21 a0_0).bind fun t139 => (if t139.size + x3_1.size ≤ 9223372036854775807 then (some (t139 ++ x3_1)) else (none))) else (if a0_0 = (-1) then (if 1 ≤ (x3_1.size : Int) then (if 1 + (x3_1.extract 1 x3_1.size).size ≤ 9223372036854775807 then (some ((⟨#[45]⟩ : ByteArray) ++ (x3_1.extract 1 x3_1.size))) else (none)) else (none)) else ((spec_l1Int.f kj21 a0_0).bind fun t140 => (if t140.size + x3_1.size ≤ 9223372036854775807 then (some (t140 ++ x3_1)) else (none))))) = some r := by rw [if_neg (show ¬ (false = true) by decide)] at H; exact H
       clear H
       have H := H1
       clear H1
       by_cases c27 : x3_1.toList = ([] : List UInt8)
       ·
        rw [if_pos c27] at H
        have c27b0 : (x3_1.toList == ([] : List UInt8)) = true := beq_iff_eq.mpr c27
        have c27b1 : (x3_1.toList != ([] : List UInt8)) = false := bne_eq_false_iff_eq.mpr c27
        clear c27
        replace H := Option.bind_eq_some_iff.mp H
        obtain ⟨t139, A280, H⟩ := H
        replace H : (if t139.size + x3_1.size ≤ 9223372036854775807 then (some (t139 ++ x3_1)) else (none)) = some r := H
        have A28 := Aside0.mk A280
        clear A280
        by_cases c29 : t139.size + x3_1.size ≤ 9223372036854775807
        ·
         rw [if_pos c29] at H
         have c29b0 := eq_true c29
         have c29b1 : decide (t139.size + x3_1.size ≤ 9223372036854775807) = true := decide_eq_true c29
         try have c29b2 : (9223372036854775807 < t139.size + x3_1.size) = False := eq_false (Nat.not_lt.2 c29)
         obtain rfl := Option.some.inj H
         have hcz30_0 : wc.cell? ⟨gb136, 0, none⟩ = some (.int .i64 a0_0) := zc BK136 0
         have hcz30_1 : wc.cell? ⟨gb136, 1, none⟩ = some (.int .i64 a0_1) := zc BK136 1
         have hcz30_2 : wc.cell? ⟨gb136, 2, none⟩ = some (.int .i64 a0_2) := zc BK136 2
         have hcz30_3 : wc.cell? ⟨gb136, 3, none⟩ = some (.int .i64 a0_3) := zc BK136 3
         have hfz30_0 := blk_frozen BK136.out 0
         have hfz30_1 := blk_frozen BK136.out 1
         have hfz30_2 := blk_frozen BK136.out 2
         have hfz30_3 := blk_frozen BK136.out 3
         go_wp2_with (first | ((with_reducible refine gate_callee (f := 42) rfl ?_); refine goesL_ (some 52) rfl rfl Tryd.func42 (by kernel_rfl) rfl #[.int .i64 a0_0] rfl zq6 ?_; (with_reducible refine (spec_l1Int.calls kj21 a0_0 t139 _ A28.out).mono ?_); rintro e w31 ⟨rfl, hb⟩; refine ⟨_, rfl, ?_⟩; replace BK136 := Aside0.mk (zbb BK136 hb); replace HB := Aside0.mk (below_step (zb1 HB) hb); (try clear hb); (try clear hb2); (try clear hk); (try clear hi)))
         go_ret
         exact ⟨by first | rfl | (simp [errW_none, errW_some] <;> rfl) | (simp [*, errW_none, errW_some] <;> rfl), (zb1 HB)⟩
        ·
         rw [if_neg c29] at H
         exact absurd H (by simp)
       ·
        rw [if_neg c27] at H
        have c27b0 : (x3_1.toList == ([] : List UInt8)) = false := beq_eq_false_iff_ne.mpr c27
        have c27b1 : (x3_1.toList != ([] : List UInt8)) = true := bne_iff_ne.mpr c27
        by_cases c32 : a0_0 = (-1)
        ·
         rw [if_pos c32] at H
         have c32b0 : (a0_0 == (-1)) = true := beq_iff_eq.mpr c32
         have c32b1 : (a0_0 != (-1)) = false := bne_eq_false_iff_eq.mpr c32
         clear c32
         by_cases c33 : 1 ≤ (x3_1.size : Int)
         ·
          rw [if_pos c33] at H
          have c33b0 := eq_true c33
          have c33b1 : decide (1 ≤ (x3_1.size : Int)) = true := decide_eq_true c33
          clear c33
          by_cases c34 : 1 + (x3_1.extract 1 x3_1.size).size ≤ 9223372036854775807
          ·
           rw [if_pos c34] at H
           have c34b0 := eq_true c34
           have c34b1 : decide (1 + (x3_1.extract 1 x3_1.size).size ≤ 9223372036854775807) = true := decide_eq_true c34
           try have c34b2 : (9223372036854775807 < 1 + (x3_1.extract 1 x3_1.size).size) = False := eq_false (Nat.not_lt.2 c34)
           try have c34b9 : (9223372036854775807 < 1 + (x3_1.size - 1)) = False := eq_false (Nat.not_lt.2 (by have h_ := c34; simp only [ByteArray.size_extract, Nat.min_self] at h_; exact h_))
           obtain rfl := Option.some.inj H
           have hcz35_0 : wc.cell? ⟨gb136, 0, none⟩ = some (.int .i64 a0_0) := zc BK136 0
           have hcz35_1 : wc.cell? ⟨gb136, 1, none⟩ = some (.int .i64 a0_1) := zc BK136 1
           have hcz35_2 : wc.cell? ⟨gb136, 2, none⟩ = some (.int .i64 a0_2) := zc BK136 2
           have hcz35_3 : wc.cell? ⟨gb136, 3, none⟩ = some (.int .i64 a0_3) := zc BK136 3
           have hfz35_0 := blk_frozen BK136.out 0
           have hfz35_1 := blk_frozen BK136.out 1
           have hfz35_2 := blk_frozen BK136.out 2
           have hfz35_3 := blk_frozen BK136.out 3
           go_wp2
           go_ret
           exact ⟨by first | rfl | (simp [errW_none, errW_some] <;> rfl) | (simp [*, errW_none, errW_some] <;> rfl), (zb1 HB)⟩
          ·
           rw [if_neg c34] at H
           exact absurd H (by simp)
         ·
          rw [if_neg c33] at H
          exact absurd H (by simp)
        ·
         rw [if_neg c32] at H
         have c32b0 : (a0_0 == (-1)) = false := beq_eq_false_iff_ne.mpr c32
         have c32b1 : (a0_0 != (-1)) = true := bne_iff_ne.mpr c32
         replace H := Option.bind_eq_some_iff.mp H
         obtain ⟨t140, A360, H⟩ := H
         replace H : (if t140.size + x3_1.size ≤ 9223372036854775807 then (some (t140 ++ x3_1)) else (none)) = some r := H
         have A36 := Aside0.mk A360
         clear A360
         by_cases c37 : t140.size + x3_1.size ≤ 9223372036854775807
         ·
          rw [if_pos c37] at H
          have c37b0 := eq_true c37
          have c37b1 : decide (t140.size + x3_1.size ≤ 9223372036854775807) = true := decide_eq_true c37
          try have c37b2 : (9223372036854775807 < t140.size + x3_1.size) = False := eq_false (Nat.not_lt.2 c37)
          obtain rfl := Option.some.inj H
          have hcz38_0 : wc.cell? ⟨gb136, 0, none⟩ = some (.int .i64 a0_0) := zc BK136 0
          have hcz38_1 : wc.cell? ⟨gb136, 1, none⟩ = some (.int .i64 a0_1) := zc BK136 1
          have hcz38_2 : wc.cell? ⟨gb136, 2, none⟩ = some (.int .i64 a0_2) := zc BK136 2
          have hcz38_3 : wc.cell? ⟨gb136, 3, none⟩ = some (.int .i64 a0_3) := zc BK136 3
          have hfz38_0 := blk_frozen BK136.out 0
          have hfz38_1 := blk_frozen BK136.out 1
          have hfz38_2 := blk_frozen BK136.out 2
          have hfz38_3 := blk_frozen BK136.out 3
          go_wp2_with (first | ((with_reducible refine gate_callee (f := 42) rfl ?_); refine goesL_ (some 52) rfl rfl Tryd.func42 (by kernel_rfl) rfl #[.int .i64 a0_0] rfl zq6 ?_; (with_reducible refine (spec_l1Int.calls kj21 a0_0 t140 _ A36.out).mono ?_); rintro e w39 ⟨rfl, hb⟩; refine ⟨_, rfl, ?_⟩; replace BK136 := Aside0.mk (zbb BK136 hb); replace HB := Aside0.mk (below_step (zb1 HB) hb); (try clear hb); (try clear hb2); (try clear hk); (try clear hi)))
          go_ret
          exact ⟨by first | rfl | (simp [errW_none, errW_some] <;> rfl) | (simp [*, errW_none, errW_some] <;> rfl), (zb1 HB)⟩
         ·
          rw [if_neg c37] at H
          exact absurd H (by simp)
end Go.Proofs.YtemjjknnelngcaaDoor.PD
