-- By wip/mk/drv.py
import Derived.Test.YtgaoniapddpaaaaQIsBodePDx0
import Derived.Test.YtgaoniapddpaaaaQIsBodePDx1
import Derived.Test.YtgaoniapddpaaaaQIsBodePDx9
import Derived.Test.YtgaoniapddpaaaaQIsBodePDx40
import Derived.Test.YtgaoniapddpaaaaQIsBodePDx43
namespace Go.Proofs.Ytgaoniapddpaaaa.PD
open Go.RowKit Go.Proofs.YtgaoniapddpaaaaW.PrintWords Go.Proofs.YtgaoniapddpaaaaW.PrintLast Go.Proofs.YtgaoniapddpaaaaW.PrintMore
attribute [local go_sem] max2_int min2_int max_two min_two max_three min_three max_four min_four
set_option linter.unusedVariables false
set_option linter.unusedSimpArgs false
/-! ### impl_IsBoxInside: function 22 -/
-- PROOF
set_option maxHeartbeats 8000000 in
set_option maxRecDepth 100000 in
theorem impl_IsBoxInside.calls (k : Nat) (a0_0 : Int) (A0_1 : Option Addr) (c0_1 : Nat) (l0_1 : List Int) (A0_2 : Option Addr) (c0_2 : Nat) (l0_2 : List Int) (a1_0 : Int) (A1_1 : Option Addr) (c1_1 : Nat) (l1_1 : List Int) (A1_2 : Option Addr) (c1_2 : Nat) (l1_2 : List Int) (r1 : Bool) (r2 : Bool) (w : World) (hr0_1 : Kd.C (Kd.int .i64) w A0_1 l0_1.length l0_1) (hc0_1 : l0_1.length ≤ c0_1) (hr0_2 : Kd.C (Kd.int .i64) w A0_2 l0_2.length l0_2) (hc0_2 : l0_2.length ≤ c0_2) (hr1_1 : Kd.C (Kd.int .i64) w A1_1 l1_1.length l1_1) (hc1_1 : l1_1.length ≤ c1_1) (hr1_2 : Kd.C (Kd.int .i64) w A1_2 l1_2.length l1_2) (hc1_2 : l1_2.length ≤ c1_2) (h : impl_IsBoxInside.f k a0_0 l0_1 l0_2 a1_0 l1_1 l1_2 = some (r1, r2)) :
  Calls Try.prog 22 #[.agg #[.int .i64 a0_0, .slice A0_1 l0_1.length c0_1, .slice A0_2 l0_2.length c0_2], .agg #[.int .i64 a1_0, .slice A1_1 l1_1.length c1_1, .slice A1_2 l1_2.length c1_2]] w fun e w' => e = .returned (.tuple #[.bool r1, .bool r2]) ∧ Below w.heap.size w w' := by
 have hu27 := Try.underlying27
 have HB := Aside0.mk (Below.refl w.heap.size w)
 have HR01 := Aside0.mk hr0_1
 have HR02 := Aside0.mk hr0_2
 have HR11 := Aside0.mk hr1_1
 have HR12 := Aside0.mk hr1_2
 clear hr0_1 hr0_2 hr1_1 hr1_2 hc0_1 hc0_2 hc1_1 hc1_2
 unfold impl_IsBoxInside.f at h
 obtain ⟨⟨b1, p2⟩, hA0, h⟩ := Option.bind_eq_some_iff.mp h
 have hA := Aside0.mk hA0
 clear hA0
 cases b1
 ·
  rw [if_neg Bool.false_ne_true] at h
  simp only [Option.some.injEq, Prod.mk.injEq] at h
  obtain ⟨rfl, rfl⟩ := h
  go_enter Try.func22, Try.ntmps22
  go_wp2_with (first | ((with_reducible refine gate_dst (N := 2) rfl ?_); refine zbe (N := 2) (cs := #[.int .i64 a0_0, .slice A0_1 l0_1.length c0_1, .slice A0_2 l0_2.length c0_2]) (t := 27) ?_; intro gb2 hg w2 hbox hb; have BK2 := Aside0.mk hbox; have GW2 := Aside0.mk (zge (zb0 HB) hg); replace HB := Aside0.mk (below_step (zb0 HB) hb); clear hb hbox hg) | ((with_reducible refine gate_dst (N := 3) rfl ?_); refine zbe (N := 3) (cs := #[.int .i64 a1_0, .slice A1_1 l1_1.length c1_1, .slice A1_2 l1_2.length c1_2]) (t := 27) ?_; intro gb3 hg w3 hbox hb; have BK3 := Aside0.mk hbox; have GW3 := Aside0.mk (zge (zb0 HB) hg); have NB23 := Aside0.mk (zlt BK2 hg); replace BK2 := Aside0.mk (zbb BK2 hb); replace HB := Aside0.mk (below_step (zb0 HB) hb); clear hb hbox hg; have HI2 : Aside0 (IsS27 w w3 gb2 a0_0 l0_1 l0_2) := ⟨⟨A0_1, c0_1, A0_2, c0_2, (zq1 BK2), GW2.out, HR01.out, HR02.out⟩⟩; clear BK2) | ((with_reducible refine gate_callee (f := 57) rfl ?_); refine goesL_ (some 10) rfl rfl Try.func57 (by kernel_rfl) rfl #[.pointer (some ⟨gb2, 0, none⟩)] rfl zq6 ?_; refine (impl_isBox.calls k gb2 a0_0 l0_1 l0_2 false p2 w _ HI2.out (zb0 HB) hA.out).mono ?_; rintro e w4 ⟨rfl, hi, hb, hk⟩; refine ⟨_, rfl, ?_⟩; replace BK3 := Aside0.mk (KeepBut.blk hk BK3.out NB23.out.symm (by simp)); replace HB := Aside0.mk hb; obtain ⟨P1, f1, P2, f2, hb2, hg2, hs1, hs2⟩ := hi; have BK2 := Aside0.mk hb2; have HS1 := Aside0.mk hs1; have HS2 := Aside0.mk hs2; clear hb hk hb2 hg2 hs1 hs2 HI2; have hc2_1 : w4.cell? ⟨gb2, 1, none⟩ = some (.slice P1 l0_1.length f1) := zc BK2 1; have HI3 : Aside0 (IsS27 w w4 gb3 a1_0 l1_1 l1_2) := ⟨⟨A1_1, c1_1, A1_2, c1_2, (zq1 BK3), GW3.out, HR11.out, HR12.out⟩⟩; clear BK3))
  go_ret2
  exact ⟨by first | rfl | (simp; done) | (simp [*]; done), (zb1 HB)⟩
 ·
  rw [if_pos rfl] at h
  obtain ⟨⟨b2, q2⟩, hB0, h⟩ := Option.bind_eq_some_iff.mp h
  have hB2 := Aside0.mk hB0
  clear hB0
  cases b2
  ·
   rw [if_neg Bool.false_ne_true] at h
   simp only [Option.some.injEq, Prod.mk.injEq] at h
   obtain ⟨rfl, rfl⟩ := h
   go_enter Try.func22, Try.ntmps22
   go_wp2_with (first | ((with_reducible refine gate_dst (N := 2) rfl ?_); refine zbe (N := 2) (cs := #[.int .i64 a0_0, .slice A0_1 l0_1.length c0_1, .slice A0_2 l0_2.length c0_2]) (t := 27) ?_; intro gb2 hg w2 hbox hb; have BK2 := Aside0.mk hbox; have GW2 := Aside0.mk (zge (zb0 HB) hg); replace HB := Aside0.mk (below_step (zb0 HB) hb); clear hb hbox hg) | ((with_reducible refine gate_dst (N := 3) rfl ?_); refine zbe (N := 3) (cs := #[.int .i64 a1_0, .slice A1_1 l1_1.length c1_1, .slice A1_2 l1_2.length c1_2]) (t := 27) ?_; intro gb3 hg w3 hbox hb; have BK3 := Aside0.mk hbox; have GW3 := Aside0.mk (zge (zb0 HB) hg); have NB23 := Aside0.mk (zlt BK2 hg); replace BK2 := Aside0.mk (zbb BK2 hb); replace HB := Aside0.mk (below_step (zb0 HB) hb); clear hb hbox hg; have HI2 : Aside0 (IsS27 w w3 gb2 a0_0 l0_1 l0_2) := ⟨⟨A0_1, c0_1, A0_2, c0_2, (zq1 BK2), GW2.out, HR01.out, HR02.out⟩⟩; clear BK2) | ((with_reducible refine gate_callee (f := 57) rfl ?_); refine goesL_ (some 10) rfl rfl Try.func57 (by kernel_rfl) rfl #[.pointer (some ⟨gb2, 0, none⟩)] rfl zq6 ?_; refine (impl_isBox.calls k gb2 a0_0 l0_1 l0_2 true p2 w _ HI2.out (zb0 HB) hA.out).mono ?_; rintro e w4 ⟨rfl, hi, hb, hk⟩; refine ⟨_, rfl, ?_⟩; replace BK3 := Aside0.mk (KeepBut.blk hk BK3.out NB23.out.symm (by simp)); replace HB := Aside0.mk hb; obtain ⟨P1, f1, P2, f2, hb2, hg2, hs1, hs2⟩ := hi; have BK2 := Aside0.mk hb2; have HS1 := Aside0.mk hs1; have HS2 := Aside0.mk hs2; clear hb hk hb2 hg2 hs1 hs2 HI2; have hc2_1 : w4.cell? ⟨gb2, 1, none⟩ = some (.slice P1 l0_1.length f1) := zc BK2 1; have HI3 : Aside0 (IsS27 w w4 gb3 a1_0 l1_1 l1_2) := ⟨⟨A1_1, c1_1, A1_2, c1_2, (zq1 BK3), GW3.out, HR11.out, HR12.out⟩⟩; clear BK3) | (go_at_call 57; refine (impl_isBox.calls k gb3 a1_0 l1_1 l1_2 false q2 w _ HI3.out (zb0 HB) hB2.out).mono ?_; rintro e w5 ⟨rfl, hi, hb, hk⟩; replace BK2 := Aside0.mk (KeepBut.blk hk BK2.out NB23.out (by simp)); replace HB := Aside0.mk hb; obtain ⟨Q1, g1, Q2, g2, hb3, hg3, ht1, ht2⟩ := hi; have BK3 := Aside0.mk hb3; have HT1 := Aside0.mk ht1; have HT2 := Aside0.mk ht2; clear hb hk hb3 hg3 ht1 ht2 HI3 hc2_1; have hc2_1 : w5.cell? ⟨gb2, 1, none⟩ = some (.slice P1 l0_1.length f1) := zc BK2 1; have hc3_1 : w5.cell? ⟨gb3, 1, none⟩ = some (.slice Q1 l1_1.length g1) := zc BK3 1))
   go_ret2
   exact ⟨by first | rfl | (simp; done) | (simp [*]; done), (zb1 HB)⟩
  ·
   rw [if_pos rfl] at h
   by_cases hl : l0_1.length = l1_1.length
   ·
    rw [if_pos hl] at h
    obtain ⟨⟨z1, z2, z3, z4⟩, hX, h⟩ := Option.bind_eq_some_iff.mp h
    have H' := Aside0.mk h
    unfold impl_align.f at hX
    obtain ⟨m, hm0⟩ : ∃ m, mx p2 q2 = m := ⟨_, rfl⟩
    rw [hm0] at hX
    obtain ⟨x1, hX1, hX⟩ := Option.bind_eq_some_iff.mp hX
    obtain ⟨x2, hX2, hX⟩ := Option.bind_eq_some_iff.mp hX
    obtain ⟨x3, hX3, hX⟩ := Option.bind_eq_some_iff.mp hX
    obtain ⟨x4, hX4, hX⟩ := Option.bind_eq_some_iff.mp hX
    simp only [Option.some.injEq, Prod.mk.injEq] at hX
    obtain ⟨rfl, rfl, rfl, rfl⟩ := hX
    have hm := Aside0.mk hm0
    have X1 := Aside0.mk hX1
    have X2 := Aside0.mk hX2
    have X3 := Aside0.mk hX3
    have X4 := Aside0.mk hX4
    clear h hm0 hX1 hX2 hX3 hX4
    have hl1 : (l0_1.length == l1_1.length) = true := by simp [hl]
    have hl2 : ((l0_1.length : Int) == (l1_1.length : Int)) = true := by simp [hl]
    have hl3 : ((l0_1.length : Int) != (l1_1.length : Int)) = false := by simp [hl]
    clear hl
    go_enter Try.func22, Try.ntmps22
    go_wp2_with (first | ((with_reducible refine gate_dst (N := 2) rfl ?_); refine zbe (N := 2) (cs := #[.int .i64 a0_0, .slice A0_1 l0_1.length c0_1, .slice A0_2 l0_2.length c0_2]) (t := 27) ?_; intro gb2 hg w2 hbox hb; have BK2 := Aside0.mk hbox; have GW2 := Aside0.mk (zge (zb0 HB) hg); replace HB := Aside0.mk (below_step (zb0 HB) hb); clear hb hbox hg) | ((with_reducible refine gate_dst (N := 3) rfl ?_); refine zbe (N := 3) (cs := #[.int .i64 a1_0, .slice A1_1 l1_1.length c1_1, .slice A1_2 l1_2.length c1_2]) (t := 27) ?_; intro gb3 hg w3 hbox hb; have BK3 := Aside0.mk hbox; have GW3 := Aside0.mk (zge (zb0 HB) hg); have NB23 := Aside0.mk (zlt BK2 hg); replace BK2 := Aside0.mk (zbb BK2 hb); replace HB := Aside0.mk (below_step (zb0 HB) hb); clear hb hbox hg; have HI2 : Aside0 (IsS27 w w3 gb2 a0_0 l0_1 l0_2) := ⟨⟨A0_1, c0_1, A0_2, c0_2, (zq1 BK2), GW2.out, HR01.out, HR02.out⟩⟩; clear BK2) | ((with_reducible refine gate_callee (f := 57) rfl ?_); refine goesL_ (some 10) rfl rfl Try.func57 (by kernel_rfl) rfl #[.pointer (some ⟨gb2, 0, none⟩)] rfl zq6 ?_; refine (impl_isBox.calls k gb2 a0_0 l0_1 l0_2 true p2 w _ HI2.out (zb0 HB) hA.out).mono ?_; rintro e w4 ⟨rfl, hi, hb, hk⟩; refine ⟨_, rfl, ?_⟩; replace BK3 := Aside0.mk (KeepBut.blk hk BK3.out NB23.out.symm (by simp)); replace HB := Aside0.mk hb; obtain ⟨P1, f1, P2, f2, hb2, hg2, hs1, hs2⟩ := hi; have BK2 := Aside0.mk hb2; have HS1 := Aside0.mk hs1; have HS2 := Aside0.mk hs2; clear hb hk hb2 hg2 hs1 hs2 HI2; have hc2_1 : w4.cell? ⟨gb2, 1, none⟩ = some (.slice P1 l0_1.length f1) := zc BK2 1; have HI3 : Aside0 (IsS27 w w4 gb3 a1_0 l1_1 l1_2) := ⟨⟨A1_1, c1_1, A1_2, c1_2, (zq1 BK3), GW3.out, HR11.out, HR12.out⟩⟩; clear BK3) | (go_at_call 57; refine (impl_isBox.calls k gb3 a1_0 l1_1 l1_2 true q2 w _ HI3.out (zb0 HB) hB2.out).mono ?_; rintro e w5 ⟨rfl, hi, hb, hk⟩; replace BK2 := Aside0.mk (KeepBut.blk hk BK2.out NB23.out (by simp)); replace HB := Aside0.mk hb; obtain ⟨Q1, g1, Q2, g2, hb3, hg3, ht1, ht2⟩ := hi; have BK3 := Aside0.mk hb3; have HT1 := Aside0.mk ht1; have HT2 := Aside0.mk ht2; clear hb hk hb3 hg3 ht1 ht2 HI3 hc2_1; have hc2_1 : w5.cell? ⟨gb2, 1, none⟩ = some (.slice P1 l0_1.length f1) := zc BK2 1; have hc3_1 : w5.cell? ⟨gb3, 1, none⟩ = some (.slice Q1 l1_1.length g1) := zc BK3 1) | ((with_reducible refine gate_callee (f := 62) rfl ?_); refine goesL_ (some 26) rfl rfl Try.func62 (by kernel_rfl) rfl #[.pointer (some ⟨gb2, 0, none⟩), .pointer (some ⟨gb3, 0, none⟩)] rfl zq6 ?_; refine (impl_align.reads k gb2 gb3 p2 P1 P2 f1 f2 l0_1 l0_2 q2 Q1 Q2 g1 g2 l1_1 l1_2 x1 x2 x3 x4 _ (zq1 BK2) (zq1 BK3) (Kd.C_below HS1.out (zb0 HB)) (Kd.C_below HS2.out (zb0 HB)) (Kd.C_below HT1.out (zb0 HB)) (Kd.C_below HT2.out (zb0 HB)) m hm.out X1.out X2.out X3.out X4.out).mono ?_; rintro e w6 ⟨v1, v2, v3, v4, rfl, ho1, ho2, ho3, ho4, hb⟩; obtain ⟨o1, e1, eo1⟩ := Kd.R_slice ho1; subst eo1; obtain ⟨o2, e2, eo2⟩ := Kd.R_slice ho2; subst eo2; obtain ⟨o3, e3, eo3⟩ := Kd.R_slice ho3; subst eo3; obtain ⟨o4, e4, eo4⟩ := Kd.R_slice ho4; subst eo4; refine ⟨_, rfl, ?_⟩; have HO1 := Aside0.mk (Kd.R_lower ho1 (below_size (zb0 HB))); have HO2 := Aside0.mk (Kd.R_lower ho2 (below_size (zb0 HB))); have HO3 := Aside0.mk (Kd.R_lower ho3 (below_size (zb0 HB))); have HO4 := Aside0.mk (Kd.R_lower ho4 (below_size (zb0 HB))); replace HB := Aside0.mk (below_step (zb0 HB) hb); clear hb ho1 ho2 ho3 ho4 hc2_1 hc3_1 BK2 BK3) | ((with_reducible refine gate_dst (N := 7) rfl ?_); refine zbe (N := 7) (cs := #[.int .i64 0, .slice none 0 0, .slice none 0 0]) (t := 27) ?_; intro gb7 hg w7 hbox hb; have BK7 := Aside0.mk hbox; have GW7 := Aside0.mk (zge (zb0 HB) hg); replace HO1 := Aside0.mk (Kd.R_below (zq3 HO1) hb); replace HO2 := Aside0.mk (Kd.R_below (zq3 HO2) hb); replace HO3 := Aside0.mk (Kd.R_below (zq3 HO3) hb); replace HO4 := Aside0.mk (Kd.R_below (zq3 HO4) hb); replace HB := Aside0.mk (below_step (zb0 HB) hb); clear hb hbox hg) | ((with_reducible refine gate_dst (N := 8) rfl ?_); refine zbe (N := 8) (cs := #[.int .i64 0, .slice none 0 0, .slice none 0 0]) (t := 27) ?_; intro gb8 hg w8 hbox hb; have BK8 := Aside0.mk hbox; have GW8 := Aside0.mk (zge (zb0 HB) hg); have NB78 := Aside0.mk (zlt BK7 hg); have NB87 := Aside0.mk (zgt BK7 hg); replace BK7 := Aside0.mk (zbb BK7 hb); replace HO1 := Aside0.mk (Kd.R_below (zq3 HO1) hb); replace HO2 := Aside0.mk (Kd.R_below (zq3 HO2) hb); replace HO3 := Aside0.mk (Kd.R_below (zq3 HO3) hb); replace HO4 := Aside0.mk (Kd.R_below (zq3 HO4) hb); replace HB := Aside0.mk (below_step (zb0 HB) hb); clear hb hbox hg; have hcz7_0 : w8.cell? ⟨gb7, 0, none⟩ = some (.int .i64 0) := zc BK7 0; have hfz7_0 := blk_frozen BK7.out 0; have hcz7_1 : w8.cell? ⟨gb7, 1, none⟩ = some (.slice none 0 0) := zc BK7 1; have hfz7_1 := blk_frozen BK7.out 1; have hcz7_2 : w8.cell? ⟨gb7, 2, none⟩ = some (.slice none 0 0) := zc BK7 2; have hfz7_2 := blk_frozen BK7.out 2; have hcz8_0 : w8.cell? ⟨gb8, 0, none⟩ = some (.int .i64 0) := zc BK8 0; have hfz8_0 := blk_frozen BK8.out 0; have hcz8_1 : w8.cell? ⟨gb8, 1, none⟩ = some (.slice none 0 0) := zc BK8 1; have hfz8_1 := blk_frozen BK8.out 1; have hcz8_2 : w8.cell? ⟨gb8, 2, none⟩ = some (.slice none 0 0) := zc BK8 2; have hfz8_2 := blk_frozen BK8.out 2; have hnb := NB78.out; have hnc := NB87.out))
    go_loopg [33] k (fun kq v33 w' => ∃ (i : Int), v33 = .int .i64 i ∧ Aside0 (impl_IsBoxInside.l0 kq x1 x2 x3 x4 i = some (r1, r2)) ∧ Aside0 (kq ≤ k) ∧ Aside0 (w'.heap[gb7]? = some (.cells #[.int .i64 m, (.slice o1 x1.length e1), (.slice o2 x2.length e2)] 27 (0, 0))) ∧ Aside0 (w'.heap[gb8]? = some (.cells #[.int .i64 m, (.slice o3 x3.length e3), (.slice o4 x4.length e4)] 27 (0, 0))) ∧ Aside0 (Kd.R (Kd.int .i64) 3 w' w.heap.size (fun _ => True) (.slice o1 x1.length e1) x1) ∧ Aside0 (Kd.R (Kd.int .i64) 3 w' w.heap.size (fun _ => True) (.slice o2 x2.length e2) x2) ∧ Aside0 (Kd.R (Kd.int .i64) 3 w' w.heap.size (fun _ => True) (.slice o3 x3.length e3) x3) ∧ Aside0 (Kd.R (Kd.int .i64) 3 w' w.heap.size (fun _ => True) (.slice o4 x4.length e4) x4) ∧ Aside0 (Below w.heap.size w w'))
    case atStart => exact ⟨0, (by first | rfl | (simp; done) | (simp [*]; done)), H', ⟨Nat.le_refl _⟩, ⟨(impl_align.far3 (g := gb8) (impl_align.put3 BK7.out (.int .i64 m) (.slice o1 x1.length e1) (.slice o2 x2.length e2)) NB78.out (.int .i64 m) (.slice o3 x3.length e3) (.slice o4 x4.length e4))⟩, ⟨(impl_align.put3 (impl_align.far3 (g := gb7) BK8.out NB87.out (.int .i64 m) (.slice o1 x1.length e1) (.slice o2 x2.length e2)) (.int .i64 m) (.slice o3 x3.length e3) (.slice o4 x4.length e4))⟩, ⟨(impl_align.rfar3 (impl_align.rfar3 HO1.out BK7.out (by decide) (.int .i64 m) (.slice o1 x1.length e1) (.slice o2 x2.length e2)) (impl_align.far3 (g := gb7) BK8.out NB87.out (.int .i64 m) (.slice o1 x1.length e1) (.slice o2 x2.length e2)) (by decide) (.int .i64 m) (.slice o3 x3.length e3) (.slice o4 x4.length e4))⟩, ⟨(impl_align.rfar3 (impl_align.rfar3 HO2.out BK7.out (by decide) (.int .i64 m) (.slice o1 x1.length e1) (.slice o2 x2.length e2)) (impl_align.far3 (g := gb7) BK8.out NB87.out (.int .i64 m) (.slice o1 x1.length e1) (.slice o2 x2.length e2)) (by decide) (.int .i64 m) (.slice o3 x3.length e3) (.slice o4 x4.length e4))⟩, ⟨(impl_align.rfar3 (impl_align.rfar3 HO3.out BK7.out (by decide) (.int .i64 m) (.slice o1 x1.length e1) (.slice o2 x2.length e2)) (impl_align.far3 (g := gb7) BK8.out NB87.out (.int .i64 m) (.slice o1 x1.length e1) (.slice o2 x2.length e2)) (by decide) (.int .i64 m) (.slice o3 x3.length e3) (.slice o4 x4.length e4))⟩, ⟨(impl_align.rfar3 (impl_align.rfar3 HO4.out BK7.out (by decide) (.int .i64 m) (.slice o1 x1.length e1) (.slice o2 x2.length e2)) (impl_align.far3 (g := gb7) BK8.out NB87.out (.int .i64 m) (.slice o1 x1.length e1) (.slice o2 x2.length e2)) (by decide) (.int .i64 m) (.slice o3 x3.length e3) (.slice o4 x4.length e4))⟩, ⟨(zb1 HB)⟩⟩
    case round =>
     clear H' BK7 BK8 HO1 HO2 HO3 HO4 HB hcz7_0 hcz7_1 hcz7_2 hcz8_0 hcz8_1 hcz8_2 hfz7_0 hfz7_1 hfz7_2 hfz8_0 hfz8_1 hfz8_2
     obtain ⟨i, rfl, HA, HK1, BK7, BK8, HO1, HO2, HO3, HO4, HB⟩ := hrel
     have hd1 : wr.cell? ⟨gb7, 1, none⟩ = some (.slice o1 x1.length e1) := zc BK7 1
     have hd2 : wr.cell? ⟨gb7, 2, none⟩ = some (.slice o2 x2.length e2) := zc BK7 2
     have hd3 : wr.cell? ⟨gb8, 1, none⟩ = some (.slice o3 x3.length e3) := zc BK8 1
     have hd4 : wr.cell? ⟨gb8, 2, none⟩ = some (.slice o4 x4.length e4) := zc BK8 2
     cases gk with
     | zero => exact absurd HA.out (by simp [impl_IsBoxInside.l0])
     | succ k1 =>
      have H := HA.out
      clear HA
      simp only [impl_IsBoxInside.l0] at H
      by_cases c1 : i < (x1.length : Int)
      ·
       rw [if_pos c1] at H
       by_cases c0 : 0 ≤ i
       ·
        rw [if_pos c0] at H
        by_cases c3 : i < (x3.length : Int)
        ·
         rw [if_pos c3] at H
         obtain ⟨ad1, ea1, hx1⟩ := Kd.at_int (Kd.R_reads' HO1.out).2.2 i c0 c1
         obtain ⟨ad3, ea3, hx3⟩ := Kd.at_int (Kd.R_reads' HO3.out).2.2 i c0 c3
         subst ea1 ea3
         have c1b := decide_eq_true c1
         have c0b := decide_eq_true c0
         have c3b := decide_eq_true c3
         have p1 := eq_true c1
         have p0 := eq_true c0
         have p3 := eq_true c3
         by_cases cl : rd x1 i < rd x3 i
         ·
          rw [if_pos cl] at H
          simp only [Option.some.injEq, Prod.mk.injEq] at H
          obtain ⟨rfl, rfl⟩ := H
          have clb := decide_eq_true cl
          clear cl c1 c0 c3
          go_wp2
          repeat (go_quiet (fail); try go_wp2)
          go_ret2
          exact ⟨by first | rfl | (simp; done) | (simp [*]; done), (zb1 HB)⟩
         ·
          rw [if_neg cl] at H
          by_cases c2 : i < (x2.length : Int)
          ·
           rw [if_pos c2] at H
           by_cases c4 : i < (x4.length : Int)
           ·
            rw [if_pos c4] at H
            obtain ⟨ad2, ea2, hx2⟩ := Kd.at_int (Kd.R_reads' HO2.out).2.2 i c0 c2
            obtain ⟨ad4, ea4, hx4⟩ := Kd.at_int (Kd.R_reads' HO4.out).2.2 i c0 c4
            subst ea2 ea4
            have c2b := decide_eq_true c2
            have c4b := decide_eq_true c4
            have p2' := eq_true c2
            have p4 := eq_true c4
            have clb := decide_eq_false cl
            by_cases cg : rd x2 i > rd x4 i
            ·
             rw [if_pos cg] at H
             simp only [Option.some.injEq, Prod.mk.injEq] at H
             obtain ⟨rfl, rfl⟩ := H
             have cgb := decide_eq_true cg
             have cgb' : decide (rd x4 i < rd x2 i) = true := cgb
             clear cl c1 c0 c3 c2 c4 cg
             go_wp2
             repeat (go_quiet (fail); try go_wp2)
             go_ret2
             exact ⟨by first | rfl | (simp; done) | (simp [*]; done), (zb1 HB)⟩
            ·
             rw [if_neg cg] at H
             have cgb := decide_eq_false cg
             have cgb' : decide (rd x4 i < rd x2 i) = false := cgb
             have H' := Aside0.mk H
             clear cl c1 c0 c3 c2 c4 cg H
             go_wp2
             repeat (go_quiet (fail); try go_wp2)
             go_roundg k1
             case measure => have := HK1.out; omega
             case rel => exact ⟨(wrap64 (i + 1)), (by first | rfl | (simp; done) | (simp [*]; done)), H', ⟨by have := HK1.out; omega⟩, ⟨zq1 BK7⟩, ⟨zq1 BK8⟩, ⟨zq3 HO1⟩, ⟨zq3 HO2⟩, ⟨zq3 HO3⟩, ⟨zq3 HO4⟩, ⟨(zb0 HB)⟩⟩
           ·
            rw [if_neg c4] at H; cases H
          ·
           rw [if_neg c2] at H; cases H
        ·
         rw [if_neg c3] at H; cases H
       ·
        rw [if_neg c0] at H; cases H
      ·
       rw [if_neg c1] at H
       simp only [Option.some.injEq, Prod.mk.injEq] at H
       obtain ⟨rfl, rfl⟩ := H
       have c1b := decide_eq_false c1
       clear c1
       go_wp2
       go_ret2
       exact ⟨by first | rfl | (simp; done) | (simp [*]; done), (zb1 HB)⟩
   ·
    rw [if_neg hl] at h
    simp only [Option.some.injEq, Prod.mk.injEq] at h
    obtain ⟨rfl, rfl⟩ := h
    have hl1 : (l0_1.length == l1_1.length) = false := by simp [hl]
    have hl2 : ((l0_1.length : Int) == (l1_1.length : Int)) = false := by simp; omega
    have hl3 : ((l0_1.length : Int) != (l1_1.length : Int)) = true := by simp; omega
    clear hl
    go_enter Try.func22, Try.ntmps22
    go_wp2_with (first | ((with_reducible refine gate_dst (N := 2) rfl ?_); refine zbe (N := 2) (cs := #[.int .i64 a0_0, .slice A0_1 l0_1.length c0_1, .slice A0_2 l0_2.length c0_2]) (t := 27) ?_; intro gb2 hg w2 hbox hb; have BK2 := Aside0.mk hbox; have GW2 := Aside0.mk (zge (zb0 HB) hg); replace HB := Aside0.mk (below_step (zb0 HB) hb); clear hb hbox hg) | ((with_reducible refine gate_dst (N := 3) rfl ?_); refine zbe (N := 3) (cs := #[.int .i64 a1_0, .slice A1_1 l1_1.length c1_1, .slice A1_2 l1_2.length c1_2]) (t := 27) ?_; intro gb3 hg w3 hbox hb; have BK3 := Aside0.mk hbox; have GW3 := Aside0.mk (zge (zb0 HB) hg); have NB23 := Aside0.mk (zlt BK2 hg); replace BK2 := Aside0.mk (zbb BK2 hb); replace HB := Aside0.mk (below_step (zb0 HB) hb); clear hb hbox hg; have HI2 : Aside0 (IsS27 w w3 gb2 a0_0 l0_1 l0_2) := ⟨⟨A0_1, c0_1, A0_2, c0_2, (zq1 BK2), GW2.out, HR01.out, HR02.out⟩⟩; clear BK2) | ((with_reducible refine gate_callee (f := 57) rfl ?_); refine goesL_ (some 10) rfl rfl Try.func57 (by kernel_rfl) rfl #[.pointer (some ⟨gb2, 0, none⟩)] rfl zq6 ?_; refine (impl_isBox.calls k gb2 a0_0 l0_1 l0_2 true p2 w _ HI2.out (zb0 HB) hA.out).mono ?_; rintro e w4 ⟨rfl, hi, hb, hk⟩; refine ⟨_, rfl, ?_⟩; replace BK3 := Aside0.mk (KeepBut.blk hk BK3.out NB23.out.symm (by simp)); replace HB := Aside0.mk hb; obtain ⟨P1, f1, P2, f2, hb2, hg2, hs1, hs2⟩ := hi; have BK2 := Aside0.mk hb2; have HS1 := Aside0.mk hs1; have HS2 := Aside0.mk hs2; clear hb hk hb2 hg2 hs1 hs2 HI2; have hc2_1 : w4.cell? ⟨gb2, 1, none⟩ = some (.slice P1 l0_1.length f1) := zc BK2 1; have HI3 : Aside0 (IsS27 w w4 gb3 a1_0 l1_1 l1_2) := ⟨⟨A1_1, c1_1, A1_2, c1_2, (zq1 BK3), GW3.out, HR11.out, HR12.out⟩⟩; clear BK3) | (go_at_call 57; refine (impl_isBox.calls k gb3 a1_0 l1_1 l1_2 true q2 w _ HI3.out (zb0 HB) hB2.out).mono ?_; rintro e w5 ⟨rfl, hi, hb, hk⟩; replace BK2 := Aside0.mk (KeepBut.blk hk BK2.out NB23.out (by simp)); replace HB := Aside0.mk hb; obtain ⟨Q1, g1, Q2, g2, hb3, hg3, ht1, ht2⟩ := hi; have BK3 := Aside0.mk hb3; have HT1 := Aside0.mk ht1; have HT2 := Aside0.mk ht2; clear hb hk hb3 hg3 ht1 ht2 HI3 hc2_1; have hc2_1 : w5.cell? ⟨gb2, 1, none⟩ = some (.slice P1 l0_1.length f1) := zc BK2 1; have hc3_1 : w5.cell? ⟨gb3, 1, none⟩ = some (.slice Q1 l1_1.length g1) := zc BK3 1))
    go_ret2
    exact ⟨by first | rfl | (simp; done) | (simp [*]; done), (zb1 HB)⟩
end Go.Proofs.Ytgaoniapddpaaaa.PD
