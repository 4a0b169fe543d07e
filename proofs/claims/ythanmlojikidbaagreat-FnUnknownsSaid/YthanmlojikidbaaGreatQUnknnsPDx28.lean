-- By wip/mk/drv.py
import Derived.Test.YthanmlojikidbaaGreatQUnknnsPDx0
import Derived.Test.YthanmlojikidbaaGreatQUnknnsPDx11
import Derived.Test.YthanmlojikidbaaGreatQUnknnsPDx27
import Derived.Test.YthanmlojikidbaaGreatQUnknnsSq
import Derived.Test.YthanmlojikidbaaGreatQUnknnsPDx5
import Derived.Test.YthanmlojikidbaaGreatQUnknnsPDx6
namespace Go.Proofs.YthanmlojikidbaaGreat.PD
open Go.RowKit Go.Proofs.YthanmlojikidbaaGreatW.PrintWords Go.Proofs.YthanmlojikidbaaGreatW.PrintLast Go.Proofs.YthanmlojikidbaaGreatW.PrintMore
attribute [local go_sem] max2_int min2_int max_two min_two max_three min_three max_four min_four
set_option linter.unusedVariables false
set_option linter.unusedSimpArgs false
/-! ### impl_ExchangeUnknowns: function 6 -/
-- PROOF
set_option maxHeartbeats 8000000 in
set_option maxRecDepth 100000 in
theorem impl_ExchangeUnknowns.exps (c x y z : Int) (w : World) : Calls Tryz.prog 34 #[.agg #[.int .i64 c, .int .i64 x, .int .i64 y, .int .i64 z]] w fun e w' => e = .returned (.agg #[.int .i64 x, .int .i64 y, .int .i64 z]) ∧ Below w.heap.size w w' := by
  have hu62 := Tryz.underlying62
  have HB := qa (Below.refl w.heap.size w)
  go_enter Tryz.func34, Tryz.ntmps34
  go_wp2_with (first | ((with_reducible refine gate_dst (N := 1) rfl ?_); refine zbe (N := 1) (cs := #[.int .i64 c, .int .i64 x, .int .i64 y, .int .i64 z]) (t := 62) ?_; intro gb1 hg w1 hbox hb; have BK1 := qa hbox; have GW1 := qa (zge (zb0 HB) hg); replace HB := qa (below_step (zb0 HB) hb); clear hb hbox hg) | ((with_reducible refine gate_dst (N := 2) rfl ?_); refine zbe (N := 2) (cs := #[.int .i64 0, .int .i64 0, .int .i64 0]) (t := 63) ?_; intro gb2 hg w2 hbox hb; have BK2 := qa hbox; have GW2 := qa (zge (zb0 HB) hg); replace BK1 := qa (zbb BK1 hb); replace HB := qa (below_step (zb0 HB) hb); clear hb hbox hg; have hc1 : w2.cell? ⟨gb1, 1, none⟩ = some (.int .i64 x) := zc BK1 1; have hc2 : w2.cell? ⟨gb1, 2, none⟩ = some (.int .i64 y) := zc BK1 2; have hc3 : w2.cell? ⟨gb1, 3, none⟩ = some (.int .i64 z) := zc BK1 3; have hd0 : w2.cell? ⟨gb2, 0, none⟩ = some (.int .i64 0) := zc BK2 0; have hd1 : w2.cell? ⟨gb2, 1, none⟩ = some (.int .i64 0) := zc BK2 1; have hd2 : w2.cell? ⟨gb2, 2, none⟩ = some (.int .i64 0) := zc BK2 2; have hf0 := blk_frozen BK2.out 0; have hf1 := blk_frozen BK2.out 1; have hf2 := blk_frozen BK2.out 2))
  refine bodyPost_ret (results_cell_row rfl _ _ gb2 63 #[.int .i64 x, .int .i64 y, .int .i64 z] (0, 0) _ rfl (qs BK2) Tryz.underlying63 rfl (by kernel_rfl)) rfl ?_
  exact ⟨qf, (zb1 HB)⟩
set_option maxHeartbeats 8000000 in
set_option maxRecDepth 100000 in
theorem impl_ExchangeUnknowns.termOf (c x y z : Int) (w : World) : Calls Tryz.prog 35 #[.int .i64 c, .agg #[.int .i64 x, .int .i64 y, .int .i64 z]] w fun e w' => e = .returned (.agg #[.int .i64 c, .int .i64 x, .int .i64 y, .int .i64 z]) ∧ Below w.heap.size w w' := by
  have hu62 := Tryz.underlying62
  have hu63 := Tryz.underlying63
  have HB := qa (Below.refl w.heap.size w)
  go_enter Tryz.func35, Tryz.ntmps35
  go_wp2_with (first | ((with_reducible refine gate_dst (N := 3) rfl ?_); refine zbe (N := 3) (cs := #[.int .i64 x, .int .i64 y, .int .i64 z]) (t := 63) ?_; intro gb3 hg w3 hbox hb; have BK3 := qa hbox; have GW3 := qa (zge (zb1 HB) hg); replace HB := qa (below_step (zb1 HB) hb); clear hb hbox hg; skip) | ((with_reducible refine gate_dst (N := 4) rfl ?_); refine zbe (N := 4) (cs := #[.int .i64 0, .int .i64 0, .int .i64 0, .int .i64 0]) (t := 62) ?_; intro gb4 hg w4 hbox hb; have BK4 := qa hbox; have GW4 := qa (zge (zb1 HB) hg); replace BK3 := qa (zbb BK3 hb); replace HB := qa (below_step (zb1 HB) hb); clear hb hbox hg; obtain ⟨hcza_0, hcza_1, hcza_2⟩ := qc3 BK3; obtain ⟨hfza_0, hfza_1, hfza_2⟩ := qz3 BK3; obtain ⟨hczb_0, hczb_1, hczb_2, hczb_3⟩ := qc4 BK4; obtain ⟨hfzb_0, hfzb_1, hfzb_2, hfzb_3⟩ := qz4 BK4))
  refine bodyPost_ret (results_cell_row rfl _ _ gb4 62 #[.int .i64 c, .int .i64 x, .int .i64 y, .int .i64 z] (0, 0) _ rfl (qs BK4) Tryz.underlying62 rfl (by kernel_rfl)) rfl ?_
  exact ⟨qf, (zb1 HB)⟩
theorem impl_ExchangeUnknowns.ints {w : World} {A : Option Addr} {c : Nat} {l : List Int} (h : Kd.C (Kd.int .i64) w A l.length l) : Go.Proofs.YthanmlojikidbaaGreatSq.Ints w.heap.size w (.slice A l.length c) l := by
  cases l with
  | nil => exact .inl ⟨A, c, rfl, rfl⟩
  | cons x xs =>
    obtain ⟨ad, e, hc⟩ := Kd.at_int h 0 (by omega) (by simp)
    subst e
    refine .inr ⟨ad, c, rfl, ?_, fun j hj => ?_⟩
    · have := World.block_lt_of_cell? w _ hc
      rwa [Go.Proofs.YthanmlojikidbaaGreatSq.add_block] at this
    · obtain ⟨ad', e', hc'⟩ := Kd.at_int h (j : Int) (by omega) (by omega)
      cases e'
      rw [show ((j : Int)).toNat = j by omega] at hc'
      rw [hc']
      simp [rd]
theorem impl_ExchangeUnknowns.values (A1 : Option Addr) (c1 : Nat) (l1 : List Int) (w : World) (hr1 : Kd.C (Kd.int .i64) w A1 l1.length l1) :
    Calls Tryz.prog 33 #[.slice A1 l1.length c1] w fun e w' => ∃ Bs : Nat, e = .returned (.func (.func 67) #[] #[.pointer (some ⟨Bs, 0, none⟩)]) ∧ Below w.heap.size w w' ∧ Bs < w'.heap.size ∧ w'.cell? ⟨Bs, 0, none⟩ = some (.slice A1 l1.length c1) ∧ Kd.C (Kd.int .i64) w' A1 l1.length l1 := by
  refine (Go.Proofs.YthanmlojikidbaaGreatSq.values A1 l1.length c1 w).mono ?_
  rintro e w' ⟨rfl, rfl⟩
  have hb : Below w.heap.size w (w.alloc (.cells #[.slice A1 l1.length c1] 25)) := (Below.refl _ w).alloc (Nat.le_refl _) _
  exact ⟨_, rfl, hb, by simp, (Boxed.new w 25 _).cell, Kd.C_below hr1 hb⟩
theorem impl_ExchangeUnknowns.sorted (Bs : Nat) (A1 : Option Addr) (c1 : Nat) (l1 : List Int) (w : World) (hBs : Bs < w.heap.size) (hc : w.cell? ⟨Bs, 0, none⟩ = some (.slice A1 l1.length c1)) (hr1 : Kd.C (Kd.int .i64) w A1 l1.length l1) (hl : l1.length < 4398046511104) :
    Calls Tryz.prog 32 #[.func (.func 67) #[] #[.pointer (some ⟨Bs, 0, none⟩)]] w fun e w' => ∃ v : Value, e = .returned v ∧ Kd.R (Kd.int .i64) 3 w' w.heap.size (fun _ => True) v (l1.mergeSort fun x y => decide (x ≤ y)) ∧ Below w.heap.size w w' := by
  refine (Go.Proofs.YthanmlojikidbaaGreatSq.sorted Bs w.heap.size (.slice A1 l1.length c1) l1 (by simp [maxLen]; omega) (by omega) w hBs (Nat.le_refl _) hc (impl_ExchangeUnknowns.ints hr1)).mono ?_
  rintro e w' ⟨v, rfl, ho, hb⟩
  exact ⟨v, rfl, Kd.R_of_own (by simpa [encs] using ho) (fun _ _ => trivial), hb⟩
theorem impl_ExchangeUnknowns.lit (w : World) : Kd.C (Kd.int .i64) (w.alloc (.cells #[.int .i64 0, .int .i64 1, .int .i64 2] 3)) (some ⟨w.heap.size, 0, none⟩) ([0, 1, 2] : List Int).length [0, 1, 2] := by
  have h := own_lit w w.heap.size 3 .i64 [0, 1, 2] (Nat.le_refl _) (by simp)
  exact (Kd.R_reads' (Kd.R_of_own (ok := fun _ => True) (by simpa [encs, nums] using h) (fun _ _ => trivial))).2.2
theorem impl_ExchangeUnknowns.eql (k : Nat) (As : Option Addr) (cs n : Nat) (sl : List Int) (q : Bool) (w : World) (hl : sl.length = n) (hr : Kd.C (Kd.int .i64) w As sl.length sl) (hc : sl.length ≤ cs) (h : slices_Equal_int_int.f k sl [0, 1, 2] = some q) :
    Calls Tryz.prog 31 #[.slice As n cs, .slice (some ⟨w.heap.size, 0, none⟩) 3 3] (w.alloc (.cells #[.int .i64 0, .int .i64 1, .int .i64 2] 3)) fun e w' => e = .returned (.bool q) ∧ Below w.heap.size w w' := by
  subst hl
  have hb : Below w.heap.size w (w.alloc (.cells #[.int .i64 0, .int .i64 1, .int .i64 2] 3)) := below_alloc (Below.refl _ _) _
  refine (slices_Equal_int_int.calls k As cs sl (some ⟨w.heap.size, 0, none⟩) 3 [0, 1, 2] q _ (Kd.C_below hr hb) hc (impl_ExchangeUnknowns.lit w) (by simp) h).mono ?_
  rintro e w' ⟨rfl, ⟨nd, rfl⟩⟩
  exact ⟨rfl, hb.trans ⟨rfl, rfl, rfl, Nat.le_refl _, fun _ _ => rfl⟩⟩
theorem impl_ExchangeUnknowns.ix (x y z j : Int) (h0 : 0 ≤ j) (h1 : j < 3) (w : World) : (Instr.index 63 (.agg #[.int .i64 x, .int .i64 y, .int .i64 z]) (.int .i64 j)).run Tryz.prog w = .ok (.int .i64 (if j = 0 then x else (if j = 1 then y else z))) w := by
  have hA := Tryz.underlying63
  have hj : j = 0 ∨ j = 1 ∨ j = 2 := by omega
  rcases hj with rfl | rfl | rfl
  all_goals
    simp only [Instr.index]
    go_simp
theorem impl_ExchangeUnknowns.arr (o : List Int) (x y z j u : Int) (ho : impl_ExchangeUnknowns.perm o) (hj : j = 0 ∨ j = 1 ∨ j = 2) (hu : rd o j = u) :
    (#[.int .i64 (impl_ExchangeUnknowns.pt o x y z j 0), .int .i64 (impl_ExchangeUnknowns.pt o x y z j 1), .int .i64 (impl_ExchangeUnknowns.pt o x y z j 2)] : Array Value).setIfInBounds u.toNat (.int .i64 (if j = 0 then x else (if j = 1 then y else z))) = #[.int .i64 (impl_ExchangeUnknowns.pt o x y z (j + 1) 0), .int .i64 (impl_ExchangeUnknowns.pt o x y z (j + 1) 1), .int .i64 (impl_ExchangeUnknowns.pt o x y z (j + 1) 2)] := by
  subst hu
  rcases hj with rfl | rfl | rfl <;> rcases ho with rfl | rfl | rfl | rfl | rfl | rfl <;> simp [impl_ExchangeUnknowns.pt, rd]
theorem impl_ExchangeUnknowns.three (o : List Int) (ho : impl_ExchangeUnknowns.perm o) (j : Int) (h0 : 0 ≤ j) (h1 : j < 3) : (o.length = 3) ∧ (rd o j = 0 ∨ rd o j = 1 ∨ rd o j = 2) := by
  have hj : j = 0 ∨ j = 1 ∨ j = 2 := by omega
  rcases hj with rfl | rfl | rfl <;> rcases ho with rfl | rfl | rfl | rfl | rfl | rfl <;> simp [rd]
set_option maxHeartbeats 8000000 in
set_option maxRecDepth 100000 in
theorem impl_ExchangeUnknowns.calls (k : Nat) (A0 : Option Addr) (c0 : Nat) (l0 : List (S62)) (A1 : Option Addr) (c1 : Nat) (l1 : List Int) (r1 : List (S62)) (r2 : Bool) (w : World) (hr0 : Kd.C k62 w A0 l0.length l0) (hc0 : l0.length ≤ c0) (hr1 : Kd.C (Kd.int .i64) w A1 l1.length l1) (hc1 : l1.length ≤ c1) (h : impl_ExchangeUnknowns.f k l0 l1 = some (r1, r2)) :
    Calls Tryz.prog 6 #[.slice A0 l0.length c0, .slice A1 l1.length c1] w fun e w' => ∃ v0_ : Value, e = .returned (.tuple #[v0_, .bool r2]) ∧ Kd.R k62 62 w' w.heap.size (fun _ => True) v0_ r1 ∧ Below w.heap.size w w' := by
  have hu62 := Tryz.underlying62
  have hu63 := Tryz.underlying63
  have HR0 := qa hr0
  have HC0 := qa hc0
  have HR1 := qa hr1
  have HC1 := qa hc1
  have HB := qa (Below.refl w.heap.size w)
  clear hr0 hc0 hr1 hc1
  unfold impl_ExchangeUnknowns.f at h
  obtain ⟨b1, hA0, h⟩ := Option.bind_eq_some_iff.mp h
  have hA := qa hA0
  clear hA0
  cases b1
  ·
    rw [if_neg Bool.false_ne_true] at h
    simp only [Option.some.injEq, Prod.mk.injEq] at h
    obtain ⟨rfl, rfl⟩ := h
    go_enter Tryz.func6, Tryz.ntmps6
    go_wp2_with (first | ((with_reducible refine gate_callee (f := 30) rfl ?_); refine qg 13 Tryz.func30 #[.slice A0 l0.length c0] ?_; (with_reducible refine (impl_isPoly.calls k _ _ l0 _ _ HR0.out HC0.out hA.out).mono ?_); rintro e w4 ⟨rfl, hb⟩; refine ⟨_, rfl, ?_⟩; replace HB := qa (below_step (zb0 HB) hb); clear hb) | (go_at_call 30; (with_reducible refine (impl_isPoly.calls k _ _ l0 _ _ HR0.out HC0.out hA.out).mono ?_); rintro e w4 ⟨rfl, hb⟩; replace HB := qa (below_step (zb0 HB) hb); clear hb))
    go_ret2
    exact ⟨_, by first | rfl | (simp; done) | (simp [*]; done), Kd.R_nil _ _ _ _ _, (zb0 HB)⟩
  · rw [if_pos rfl] at h
    by_cases cl : l1.length < 4398046511104
    · rw [if_pos cl] at h
      have HL := qa cl
      clear cl
      obtain ⟨b2, hE0, h⟩ := Option.bind_eq_some_iff.mp h
      have hE := qa hE0
      clear hE0
      cases b2
      ·
        rw [if_neg Bool.false_ne_true] at h
        simp only [Option.some.injEq, Prod.mk.injEq] at h
        obtain ⟨rfl, rfl⟩ := h
        go_enter Tryz.func6, Tryz.ntmps6
        go_wp2_with (first | ((with_reducible refine gate_callee (f := 30) rfl ?_); refine qg 13 Tryz.func30 #[.slice A0 l0.length c0] ?_; (with_reducible refine (impl_isPoly.calls k _ _ l0 _ _ HR0.out HC0.out hA.out).mono ?_); rintro e w4 ⟨rfl, hb⟩; refine ⟨_, rfl, ?_⟩; replace HB := qa (below_step (zb0 HB) hb); clear hb) | (go_at_call 30; (with_reducible refine (impl_isPoly.calls k _ _ l0 _ _ HR0.out HC0.out hA.out).mono ?_); rintro e w4 ⟨rfl, hb⟩; replace HB := qa (below_step (zb0 HB) hb); clear hb) | (go_at_call 33; (with_reducible refine (impl_ExchangeUnknowns.values _ _ l1 _ (Kd.C_below HR1.out HB.out)).mono ?_); rintro e w5 ⟨Bs, rfl, hb, hbs, hbc, hbr⟩; have HS := qa hbs; have HSC := qa hbc; have HSR := qa hbr; replace HB := qa (below_step (zb0 HB) hb); clear hb hbs hbc hbr) | (go_at_call 32; (with_reducible refine (impl_ExchangeUnknowns.sorted Bs _ c1 l1 _ HS.out HSC.out HSR.out HL.out).mono ?_); rintro e w6 ⟨v6, rfl, ho, hb⟩; have HOS := qa ho; replace HB := qa (below_step (zb0 HB) hb); clear ho hb; obtain ⟨As, cs, es⟩ := Kd.R_slice HOS.out; subst es) | (go_at_call 31; (with_reducible refine (impl_ExchangeUnknowns.eql k As cs l1.length (l1.mergeSort fun x y => decide (x ≤ y)) _ w6 (by simp) (Kd.R_reads' HOS.out).2.2 (Kd.R_reads' HOS.out).2.1 hE.out).mono ?_); rintro e w7 ⟨rfl, hb⟩; replace HB := qa (below_step (zb0 HB) hb); clear hb))
        go_ret2
        exact ⟨_, by first | rfl | (simp; done) | (simp [*]; done), Kd.R_nil _ _ _ _ _, (zb0 HB)⟩
      · rw [if_pos rfl] at h
        by_cases cp : impl_ExchangeUnknowns.perm l1
        · rw [if_pos cp] at h
          have HP := qa cp
          have H' := qa h
          clear h cp
          go_enter Tryz.func6, Tryz.ntmps6
          go_wp2_with (first | ((with_reducible refine gate_callee (f := 30) rfl ?_); refine qg 13 Tryz.func30 #[.slice A0 l0.length c0] ?_; (with_reducible refine (impl_isPoly.calls k _ _ l0 _ _ HR0.out HC0.out hA.out).mono ?_); rintro e w4 ⟨rfl, hb⟩; refine ⟨_, rfl, ?_⟩; replace HB := qa (below_step (zb0 HB) hb); clear hb) | (go_at_call 30; (with_reducible refine (impl_isPoly.calls k _ _ l0 _ _ HR0.out HC0.out hA.out).mono ?_); rintro e w4 ⟨rfl, hb⟩; replace HB := qa (below_step (zb0 HB) hb); clear hb) | (go_at_call 33; (with_reducible refine (impl_ExchangeUnknowns.values _ _ l1 _ (Kd.C_below HR1.out HB.out)).mono ?_); rintro e w5 ⟨Bs, rfl, hb, hbs, hbc, hbr⟩; have HS := qa hbs; have HSC := qa hbc; have HSR := qa hbr; replace HB := qa (below_step (zb0 HB) hb); clear hb hbs hbc hbr) | (go_at_call 32; (with_reducible refine (impl_ExchangeUnknowns.sorted Bs _ c1 l1 _ HS.out HSC.out HSR.out HL.out).mono ?_); rintro e w6 ⟨v6, rfl, ho, hb⟩; have HOS := qa ho; replace HB := qa (below_step (zb0 HB) hb); clear ho hb; obtain ⟨As, cs, es⟩ := Kd.R_slice HOS.out; subst es) | (go_at_call 31; (with_reducible refine (impl_ExchangeUnknowns.eql k As cs l1.length (l1.mergeSort fun x y => decide (x ≤ y)) _ w6 (by simp) (Kd.R_reads' HOS.out).2.2 (Kd.R_reads' HOS.out).2.1 hE.out).mono ?_); rintro e w7 ⟨rfl, hb⟩; replace HB := qa (below_step (zb0 HB) hb); clear hb))
          go_loopg [6, 25] k (fun kq v6 v25 w' => ∃ (x : List S62) (i : Int), v25 = .int .i64 i ∧ Aside0 (impl_ExchangeUnknowns.l0 kq l0 l1 x i = some (r1, r2)) ∧ Aside0 (kq ≤ k) ∧ Aside0 (Kd.R k62 62 w' w.heap.size (fun _ => True) v6 x) ∧ Aside0 (Below w.heap.size w w'))
          case atStart => exact ⟨[], 0, qf, H', ⟨Nat.le_refl _⟩, ⟨Kd.R_nil _ _ _ _ _⟩, ⟨(zb0 HB)⟩⟩
          case round =>
            clear H' HB HOS HS HSC HSR
            obtain ⟨x, i, rfl, HA, HK1, HO, HB⟩ := hrel
            cases gk with
            | zero => exact absurd HA.out (by simp [impl_ExchangeUnknowns.l0])
            | succ k1 =>
              have H := HA.out
              clear HA
              simp only [impl_ExchangeUnknowns.l0] at H
              by_cases c : i < (l0.length : Int)
              · rw [if_pos c] at H
                by_cases c' : 0 ≤ i
                · rw [if_pos c'] at H
                  by_cases c9 : x.length < 4398046511104
                  · rw [if_pos c9] at H
                    have LM := qa c9
                    clear c9
                    obtain ⟨y, hy⟩ : ∃ y_ : List S62, y_ = x ++ [(⟨(rd_T62 l0 i).f0, (impl_ExchangeUnknowns.pt l1 (rd_T62 l0 i).f1 (rd_T62 l0 i).f2 (rd_T62 l0 i).f3 3 0), (impl_ExchangeUnknowns.pt l1 (rd_T62 l0 i).f1 (rd_T62 l0 i).f2 (rd_T62 l0 i).f3 3 1), (impl_ExchangeUnknowns.pt l1 (rd_T62 l0 i).f1 (rd_T62 l0 i).f2 (rd_T62 l0 i).f3 3 2)⟩ : S62)] := ⟨_, rfl⟩
                    have hy2 : x ++ [impl_ExchangeUnknowns.tm (rd_T62 l0 i) l1] = y := hy.symm
                    rw [hy2] at H
                    clear hy2
                    have Ny := qa hy
                    clear hy
                    have H' := qa H
                    clear H
                    have cb := decide_eq_true c
                    have cb' := decide_eq_true c'
                    obtain ⟨ad, ead, hx0, hx1, hx2, hx3⟩ := at_T62 HR0.out i c' c
                    subst ead
                    replace hx0 := qb HB hx0
                    replace hx1 := qb HB hx1
                    replace hx2 := qb HB hx2
                    replace hx3 := qb HB hx3
                    have p1 := eq_true c
                    have p2 := eq_true c'
                    clear c c'
                    have HC := qa (Below.refl wr.heap.size wr)
                    go_wp2_with (first | ((with_reducible refine gate_dst (N := 8) rfl ?_); refine zbe (N := 8) (cs := #[.int .i64 0, .int .i64 0, .int .i64 0, .int .i64 0]) (t := 62) ?_; intro gb8 hg w8 hbox hb; have BK8 := qa hbox; have GW8 := qa (zge (zb1 HC) hg); replace HC := qa (below_step (zb1 HC) hb); clear hb hbox hg; obtain ⟨hcza_0, hcza_1, hcza_2, hcza_3⟩ := qc4 BK8; obtain ⟨hfza_0, hfza_1, hfza_2, hfza_3⟩ := qz4 BK8) | ((with_reducible refine gate_dst (N := 9) rfl ?_); refine zbe (N := 9) (cs := #[.int .i64 0, .int .i64 0, .int .i64 0]) (t := 63) ?_; intro gb9 hg w9 hbox hb; have BK9 := qa hbox; have GW9 := qa (zge (zb1 HC) hg); have NB98 := qa (by rw [hg]; exact Nat.ne_of_gt (Nat.lt_of_lt_of_le (blk_lt (zq1 BK8)) (by simp)) : gb9 ≠ gb8); have NB89 := qa (Ne.symm NB98.out); replace BK8 := qa (blk_below (g := gb8) (o := .cells #[.int .i64 ((rd_T62 l0 i).f0), .int .i64 ((rd_T62 l0 i).f1), .int .i64 ((rd_T62 l0 i).f2), .int .i64 ((rd_T62 l0 i).f3)] 62 (0, 0)) (qs BK8) hb); replace HC := qa (below_step (zb1 HC) hb); clear hb hbox hg; have hnb := NB98.out; have hnc := NB89.out; obtain ⟨hczc_0, hczc_1, hczc_2, hczc_3⟩ := qc4 BK8; obtain ⟨hfzc_0, hfzc_1, hfzc_2, hfzc_3⟩ := qz4 BK8; obtain ⟨hczd_0, hczd_1, hczd_2⟩ := qc3 BK9; obtain ⟨hfzd_0, hfzd_1, hfzd_2⟩ := qz3 BK9) | ((with_reducible refine gate_callee (f := 34) rfl ?_); refine qg 31 Tryz.func34 #[.agg #[.int .i64 ((rd_T62 l0 i).f0), .int .i64 ((rd_T62 l0 i).f1), .int .i64 ((rd_T62 l0 i).f2), .int .i64 ((rd_T62 l0 i).f3)]] ?_; refine (impl_ExchangeUnknowns.exps (rd_T62 l0 i).f0 (rd_T62 l0 i).f1 (rd_T62 l0 i).f2 (rd_T62 l0 i).f3 _).mono ?_; rintro e w10 ⟨rfl, hb⟩; refine ⟨_, rfl, ?_⟩; replace BK8 := qa (blk_below (g := gb8) (o := .cells #[.int .i64 ((rd_T62 l0 i).f0), .int .i64 ((rd_T62 l0 i).f1), .int .i64 ((rd_T62 l0 i).f2), .int .i64 ((rd_T62 l0 i).f3)] 62 (0, 0)) (by (with_reducible repeat (first | refine blk_drewN ?_ _ | refine blk_drew ?_ | refine blk_alloc ?_ _)); refine blk_far ?_ NB89.out _; (with_reducible repeat (first | refine blk_drewN ?_ _ | refine blk_drew ?_ | refine blk_alloc ?_ _)); refine blk_far ?_ NB89.out _; (with_reducible repeat (first | refine blk_drewN ?_ _ | refine blk_drew ?_ | refine blk_alloc ?_ _)); refine blk_far ?_ NB89.out _; (with_reducible repeat (first | refine blk_drewN ?_ _ | refine blk_drew ?_ | refine blk_alloc ?_ _)); exact BK8.out) hb); replace BK9 := qa (blk_below (g := gb9) (o := .cells #[.int .i64 0, .int .i64 0, .int .i64 0] 63 (0, 0)) (qs BK9) hb); replace HC := qa (below_step (zb1 HC) hb); clear hb) | (go_at_call 34; refine (impl_ExchangeUnknowns.exps (rd_T62 l0 i).f0 (rd_T62 l0 i).f1 (rd_T62 l0 i).f2 (rd_T62 l0 i).f3 _).mono ?_; rintro e w10 ⟨rfl, hb⟩; replace BK8 := qa (blk_below (g := gb8) (o := .cells #[.int .i64 ((rd_T62 l0 i).f0), .int .i64 ((rd_T62 l0 i).f1), .int .i64 ((rd_T62 l0 i).f2), .int .i64 ((rd_T62 l0 i).f3)] 62 (0, 0)) (by (with_reducible repeat (first | refine blk_drewN ?_ _ | refine blk_drew ?_ | refine blk_alloc ?_ _)); refine blk_far ?_ NB89.out _; (with_reducible repeat (first | refine blk_drewN ?_ _ | refine blk_drew ?_ | refine blk_alloc ?_ _)); refine blk_far ?_ NB89.out _; (with_reducible repeat (first | refine blk_drewN ?_ _ | refine blk_drew ?_ | refine blk_alloc ?_ _)); refine blk_far ?_ NB89.out _; (with_reducible repeat (first | refine blk_drewN ?_ _ | refine blk_drew ?_ | refine blk_alloc ?_ _)); exact BK8.out) hb); replace BK9 := qa (blk_below (g := gb9) (o := .cells #[.int .i64 0, .int .i64 0, .int .i64 0] 63 (0, 0)) (qs BK9) hb); replace HC := qa (below_step (zb1 HC) hb); clear hb))
                    go_loopg [32] 3 (fun kq v32 w' => ∃ (j : Int), v32 = .int .i64 j ∧ Aside0 ((kq : Int) = 3 - j ∧ 0 ≤ j ∧ j ≤ 3) ∧ Aside0 (w'.heap[gb8]? = some (.cells #[.int .i64 ((rd_T62 l0 i).f0), .int .i64 ((rd_T62 l0 i).f1), .int .i64 ((rd_T62 l0 i).f2), .int .i64 ((rd_T62 l0 i).f3)] 62 (0, 0))) ∧ Aside0 (w'.heap[gb9]? = some (.cells #[.int .i64 ((impl_ExchangeUnknowns.pt l1 (rd_T62 l0 i).f1 (rd_T62 l0 i).f2 (rd_T62 l0 i).f3 j 0)), .int .i64 ((impl_ExchangeUnknowns.pt l1 (rd_T62 l0 i).f1 (rd_T62 l0 i).f2 (rd_T62 l0 i).f3 j 1)), .int .i64 ((impl_ExchangeUnknowns.pt l1 (rd_T62 l0 i).f1 (rd_T62 l0 i).f2 (rd_T62 l0 i).f3 j 2))] 63 (0, 0))) ∧ Aside0 (Below wr.heap.size wr w'))
                    case atStart => exact ⟨0, qf, ⟨by omega⟩, ⟨(zq1 BK8)⟩, ⟨(by (with_reducible repeat (first | refine blk_drewN ?_ _ | refine blk_drew ?_ | refine blk_alloc ?_ _)); refine Eq.trans (b := some (.cells #[.int .i64 0, .int .i64 0, .int .i64 0] 63 (0, 0))) BK9.out (by simp [impl_ExchangeUnknowns.pt]))⟩, ⟨(zb1 HC)⟩⟩
                    case round =>
                      clear HC BK8 BK9 hx0 hx1 hx2 hx3 cb cb' p1 p2
                      (try clear hnb hnc)
                      obtain ⟨j, rfl, HJ, BK8, BK9, HC⟩ := hrel
                      by_cases c5 : j < 3
                      · have h0j : 0 ≤ j := HJ.out.2.1
                        have cb := decide_eq_true c5
                        obtain ⟨hl3, hu3⟩ := impl_ExchangeUnknowns.three l1 HP.out j h0j c5
                        obtain ⟨ad1, ead1, hq⟩ := Kd.at_int HR1.out j h0j (by omega)
                        subst ead1
                        replace hq := (below_step HB.out HC.out).cell (World.block_lt_of_cell? w _ hq) |>.trans hq
                        have hix := impl_ExchangeUnknowns.ix (rd_T62 l0 i).f1 (rd_T62 l0 i).f2 (rd_T62 l0 i).f3 j h0j c5
                        obtain ⟨xj, hxj⟩ : ∃ xj, (if j = 0 then (rd_T62 l0 i).f1 else (if j = 1 then (rd_T62 l0 i).f2 else (rd_T62 l0 i).f3)) = xj := ⟨_, rfl⟩
                        rw [hxj] at hix
                        have harr := impl_ExchangeUnknowns.arr l1 (rd_T62 l0 i).f1 (rd_T62 l0 i).f2 (rd_T62 l0 i).f3 j _ HP.out (by omega) rfl
                        rw [hxj] at harr
                        have HRJ := qa harr
                        clear harr hxj
                        obtain ⟨u, hu⟩ : ∃ u, rd l1 j = u := ⟨_, rfl⟩
                        rw [hu] at hq hu3 HRJ
                        clear hu
                        have p3 := eq_true c5
                        have p4 := eq_true h0j
                        have p5 : decide (j < ((l1.length : Nat) : Int)) = true := by rw [hl3]; exact decide_eq_true c5
                        have p6 : (j < ((l1.length : Nat) : Int)) = True := by rw [hl3]; exact eq_true c5
                        have cb4 := decide_eq_true h0j
                        have hz0 := zc BK9 0
                        have hz1 := zc BK9 1
                        have hz2 := zc BK9 2
                        have hf0 := blk_frozen BK9.out 0
                        have hf1 := blk_frozen BK9.out 1
                        have hf2 := blk_frozen BK9.out 2
                        clear c5 h0j hl3
                        rcases hu3 with rfl | rfl | rfl
                        all_goals
                          go_wp2
                          go_roundg (gk - 1)
                          case measure => have hj_ := HJ.out; have hc_ := of_decide_eq_true cb; omega
                          case rel => exact ⟨j + 1, (by first | rfl | (simp; done) | (have := HJ.out; have hc_ := of_decide_eq_true cb; rw [show wrap64 (j + 1) = j + 1 from by unfold wrap64; omega])), ⟨by have := HJ.out; have hc_ := of_decide_eq_true cb; omega⟩, ⟨(by (with_reducible repeat (first | refine blk_drewN ?_ _ | refine blk_drew ?_ | refine blk_alloc ?_ _)); refine blk_far ?_ NB89.out _; (with_reducible repeat (first | refine blk_drewN ?_ _ | refine blk_drew ?_ | refine blk_alloc ?_ _)); exact BK8.out)⟩, ⟨(by (with_reducible repeat (first | refine blk_drewN ?_ _ | refine blk_drew ?_ | refine blk_alloc ?_ _)); refine blk_put BK9.out _ _ HRJ.out)⟩, ⟨by first | exact (zb1 HC).setCell (p := ⟨gb9, _, none⟩) GW9.out _ | exact below_drew1 ((zb1 HC).setCell (p := ⟨gb9, _, none⟩) GW9.out _)⟩⟩
                      · have cb := decide_eq_false c5
                        have e3 : j = 3 := by have := HJ.out; omega
                        subst e3
                        clear c5
                        obtain ⟨hcze_0, hcze_1, hcze_2, hcze_3⟩ := qc4 BK8; obtain ⟨hfze_0, hfze_1, hfze_2, hfze_3⟩ := qz4 BK8; obtain ⟨hczf_0, hczf_1, hczf_2⟩ := qc3 BK9; obtain ⟨hfzf_0, hfzf_1, hfzf_2⟩ := qz3 BK9
                        go_wp2_with (first | ((with_reducible refine gate_callee (f := 35) rfl ?_); refine qg 47 Tryz.func35 #[.int .i64 (rd_T62 l0 i).f0, .agg #[.int .i64 ((impl_ExchangeUnknowns.pt l1 (rd_T62 l0 i).f1 (rd_T62 l0 i).f2 (rd_T62 l0 i).f3 3 0)), .int .i64 ((impl_ExchangeUnknowns.pt l1 (rd_T62 l0 i).f1 (rd_T62 l0 i).f2 (rd_T62 l0 i).f3 3 1)), .int .i64 ((impl_ExchangeUnknowns.pt l1 (rd_T62 l0 i).f1 (rd_T62 l0 i).f2 (rd_T62 l0 i).f3 3 2))]] ?_; refine (impl_ExchangeUnknowns.termOf (rd_T62 l0 i).f0 (impl_ExchangeUnknowns.pt l1 (rd_T62 l0 i).f1 (rd_T62 l0 i).f2 (rd_T62 l0 i).f3 3 0) (impl_ExchangeUnknowns.pt l1 (rd_T62 l0 i).f1 (rd_T62 l0 i).f2 (rd_T62 l0 i).f3 3 1) (impl_ExchangeUnknowns.pt l1 (rd_T62 l0 i).f1 (rd_T62 l0 i).f2 (rd_T62 l0 i).f3 3 2) _).mono ?_; rintro e w11 ⟨rfl, hb⟩; refine ⟨_, rfl, ?_⟩; replace HC := qa (below_step (zb1 HC) hb); clear hb) | (go_at_call 35; refine (impl_ExchangeUnknowns.termOf (rd_T62 l0 i).f0 (impl_ExchangeUnknowns.pt l1 (rd_T62 l0 i).f1 (rd_T62 l0 i).f2 (rd_T62 l0 i).f3 3 0) (impl_ExchangeUnknowns.pt l1 (rd_T62 l0 i).f1 (rd_T62 l0 i).f2 (rd_T62 l0 i).f3 3 1) (impl_ExchangeUnknowns.pt l1 (rd_T62 l0 i).f1 (rd_T62 l0 i).f2 (rd_T62 l0 i).f3 3 2) _).mono ?_; rintro e w11 ⟨rfl, hb⟩; replace HC := qa (below_step (zb1 HC) hb); clear hb) | ((with_reducible refine gate_builtin (b := .append) (xs := #[.tmp 43, .tmp 48]) rfl ?_); at_builtin; refine Kd.R_append k62 (w0 := w) w.heap.size rfl (.tmp 43) (.tmp 48) 24 62 (.agg #[(.int .i64 0), (.int .i64 0), (.int .i64 0), (.int .i64 0)]) 32 rfl Tryz.underlying24 info62 rfl (by decide) (by omega) _ x (⟨(rd_T62 l0 i).f0, (impl_ExchangeUnknowns.pt l1 (rd_T62 l0 i).f1 (rd_T62 l0 i).f2 (rd_T62 l0 i).f3 3 0), (impl_ExchangeUnknowns.pt l1 (rd_T62 l0 i).f1 (rd_T62 l0 i).f2 (rd_T62 l0 i).f3 3 1), (impl_ExchangeUnknowns.pt l1 (rd_T62 l0 i).f1 (rd_T62 l0 i).f2 (rd_T62 l0 i).f3 3 2)⟩ : S62) [.int .i64 ((rd_T62 l0 i).f0), .int .i64 ((impl_ExchangeUnknowns.pt l1 (rd_T62 l0 i).f1 (rd_T62 l0 i).f2 (rd_T62 l0 i).f3 3 0)), .int .i64 ((impl_ExchangeUnknowns.pt l1 (rd_T62 l0 i).f1 (rd_T62 l0 i).f2 (rd_T62 l0 i).f3 3 1)), .int .i64 ((impl_ExchangeUnknowns.pt l1 (rd_T62 l0 i).f1 (rd_T62 l0 i).f2 (rd_T62 l0 i).f3 3 2))] (fun _ => True) (fun _ => False) rfl (by first | (go_simp; done) | (go_simp; rfl)) ?aP (fun _ hk => hk.elim) ?aF ?aO ?aB ?aS ?aL ?_; (case aP => exact k62_mkM _ _ _ (⟨(rd_T62 l0 i).f0, (impl_ExchangeUnknowns.pt l1 (rd_T62 l0 i).f1 (rd_T62 l0 i).f2 (rd_T62 l0 i).f3 3 0), (impl_ExchangeUnknowns.pt l1 (rd_T62 l0 i).f1 (rd_T62 l0 i).f2 (rd_T62 l0 i).f3 3 1), (impl_ExchangeUnknowns.pt l1 (rd_T62 l0 i).f1 (rd_T62 l0 i).f2 (rd_T62 l0 i).f3 3 2)⟩ : S62)); (case aB => exact (below_step HB.out (zb1 HC))); (case aF => exact (fun _ _ => trivial)); (case aO => exact (Kd.R_below HO.out (zb1 HC))); (case aS => exact (below_size (below_step HB.out (zb1 HC)))); (case aL => have := LM.out; omega); intro v36 w12 ho hb hg hat; rw [← Ny.out] at ho; have HO2 := qa ho; have HB2 := qa hb; clear ho hb hg hat))
                        go_roundg k1
                        case measure => have := HK1.out; omega
                        case rel => exact ⟨y, (wrap64 (i + 1)), qf, H', ⟨by have := HK1.out; omega⟩, ⟨zq3 HO2⟩, ⟨(zb1 HB2)⟩⟩
                  · rw [if_neg c9] at H; cases H
                · rw [if_neg c'] at H; cases H
              · rw [if_neg c] at H
                have cb := decide_eq_false c
                clear c
                obtain ⟨t, hc0, hp0⟩ := Option.bind_eq_some_iff.mp H
                clear H
                have A6 := qa hc0
                have A7 := qa hp0
                clear hc0 hp0
                obtain ⟨Ao, co, eo⟩ := Kd.R_slice HO.out
                subst eo
                go_wp2_with (first | ((with_reducible refine gate_callee (f := 37) rfl ?_); refine qg 52 Tryz.func37 #[.slice Ao x.length co] ?_; (with_reducible refine (impl_collect.calls _ _ x t _ (Kd.R_reads' HO.out).2.2 (Kd.R_reads' HO.out).2.1 A6.out).mono ?_); rintro e w6 ⟨v6, rfl, ho, hb⟩; refine ⟨_, rfl, ?_⟩; have HO6 := qa (Kd.R_lower ho (below_size (zb0 HB))); replace HB := qa (below_step (zb0 HB) hb); clear ho hb; obtain ⟨Aq, cq, eq6⟩ := Kd.R_slice HO6.out; subst eq6) | (go_at_call 37; (with_reducible refine (impl_collect.calls _ _ x t _ (Kd.R_reads' HO.out).2.2 (Kd.R_reads' HO.out).2.1 A6.out).mono ?_); rintro e w6 ⟨v6, rfl, ho, hb⟩; have HO6 := qa (Kd.R_lower ho (below_size (zb0 HB))); replace HB := qa (below_step (zb0 HB) hb); clear ho hb; obtain ⟨Aq, cq, eq6⟩ := Kd.R_slice HO6.out; subst eq6) | ((with_reducible refine gate_callee (f := 36) rfl ?_); refine qg 53 Tryz.func36 #[.slice Aq t.length cq] ?_; (with_reducible refine (impl_polyResult.calls k1 (fun k_ => some k_ = (.slice Aq t.length cq : Value).ownBlock) (.slice Aq t.length cq) t r1 r2 w _ (zb0 HB) (Kd.R_tight rfl HO6.out) A7.out).mono ?_); rintro e w7 ⟨v7, rfl, ho, hb, hkp⟩; refine ⟨_, rfl, ?_⟩; have HO7 := qa (Kd.R_mono (ok' := fun k_ => True) ho (fun k_ hk_ => trivial)); clear HB; have HB := qa hb; clear ho hb hkp) | (go_at_call 36; (with_reducible refine (impl_polyResult.calls k1 (fun k_ => some k_ = (.slice Aq t.length cq : Value).ownBlock) (.slice Aq t.length cq) t r1 r2 w _ (zb0 HB) (Kd.R_tight rfl HO6.out) A7.out).mono ?_); rintro e w7 ⟨v7, rfl, ho, hb, hkp⟩; have HO7 := qa (Kd.R_mono (ok' := fun k_ => True) ho (fun k_ hk_ => trivial)); clear HB; have HB := qa hb; clear ho hb hkp))
                go_ret2
                exact ⟨_, by first | rfl | (simp; done) | (simp [*]; done), zq3 HO7, (zb0 HB)⟩
        · rw [if_neg cp] at h; cases h
    · rw [if_neg cl] at h; cases h
/-! ### spec_poExchange: function 41 -/
set_option maxHeartbeats 8000000 in
set_option maxRecDepth 100000 in
theorem spec_poExchange.calls (k : Nat) (A0 : Option Addr) (c0 : Nat) (l0 : List (S62)) (A1 : Option Addr) (c1 : Nat) (l1 : List Int) (r : List (S62)) (w : World) (hr0 : Kd.C k62 w A0 l0.length l0) (hc0 : l0.length ≤ c0) (hr1 : Kd.C (Kd.int .i64) w A1 l1.length l1) (hc1 : l1.length ≤ c1) (h : spec_poExchange.f k l0 l1 = some r) :
  Calls Tryz.prog 41 #[.slice A0 l0.length c0, .slice A1 l1.length c1] w fun e w' => ∃ v0_ : Value, e = .returned (v0_) ∧ Kd.R k62 62 w' w.heap.size (fun _ => True) v0_ r ∧ Below w.heap.size w w' := by
 have hu62 := Tryz.underlying62
 have HR0 := qa hr0
 have HC0 := qa hc0
 clear hr0 hc0
 have HR1 := qa hr1
 have HC1 := qa hc1
 clear hr1 hc1
 have HB := qa (Below.refl w.heap.size w)
 have H : (spec_poExchange.l0 k l1 ([] : List (S62)) l0 (l0.length : Int) 0) = some r := h
 clear h
 have H' := qa H
 clear H
 go_enter Tryz.func41, Tryz.ntmps41
 go_wp2
 go_loopg [5, 13] k (fun kq v5 v13 w' => ∃ (x5_1 : List (S62)) (x13_1 : Int), v13 = .int .i64 x13_1 ∧ Aside0 (spec_poExchange.l0 kq l1 x5_1 l0 (l0.length : Int) x13_1 = some r) ∧ Aside0 (kq ≤ k) ∧ Aside0 (Kd.R k62 62 w' w.heap.size (fun _ => True) v5 x5_1) ∧ Aside0 (Below w.heap.size w w'))
 case atStart => exact ⟨(([] : List (S62))), (0), qf, H', ⟨Nat.le_refl _⟩, ⟨by first | exact Kd.R_nil _ _ _ _ _ | exact Kd.N_nil _ _ _ _ _ | exact Kd.V_nil _ _ _ _ _ | exact Kd.Q_nil _ _ _ _ _ | exact Kd.S_nil _ _ _ _ _⟩, ⟨(zb0 HB)⟩⟩
 case round =>
  clear H'
  try clear c1
  try clear p2
  obtain ⟨x5_1, x13_1, rfl, HA, HK1, HO_5, HB⟩ := hrel
  cases gk with
  | zero => exact absurd HA.out (by simp [spec_poExchange.l0])
  | succ k1 =>
   have H := HA.out
   clear HA
   simp only [spec_poExchange.l0] at H
   by_cases c3 : x13_1 < (l0.length : Int)
   ·
    rw [if_pos c3] at H
    have c3b0 := decide_eq_true c3
    clear c3
    by_cases c4 : 0 ≤ x13_1
    ·
     rw [if_pos c4] at H
     have c4b0 := decide_eq_true c4
     clear c4
     by_cases c5 : x13_1 < (l0.length : Int)
     ·
      rw [if_pos c5] at H
      have c5b0 := decide_eq_true c5
      clear c5
      have H' := qa H
      clear H
      have p460 : 0 ≤ (x13_1 : Int) := qd
      have q460 : x13_1 < (l0.length : Int) := qd
      obtain ⟨ad460, e460, hx460_0, hx460_1, hx460_2, hx460_3⟩ := at_T62 HR0.out x13_1 p460 q460
      cases e460
      replace hx460_0 := qb HB hx460_0
      replace hx460_1 := qb HB hx460_1
      replace hx460_2 := qb HB hx460_2
      replace hx460_3 := qb HB hx460_3
      replace p460 := eq_true p460
      replace q460 := eq_true q460
      go_wp2_with (first | ((with_reducible refine gate_dst (N := 7) rfl ?_); refine zbe (N := 7) (cs := #[.int .i64 0, .int .i64 0, .int .i64 0, .int .i64 0]) (t := 62) ?_; intro gb461 hg w6 hbox hb; have BK461 := qa (hbox); have GW461 := qa (zge (zb0 HB) hg); have GE461 := GW461; replace HO_5 := qa (Kd.R_below (Kd.R_elderB (zq3 HO_5) gb461 (Nat.le_of_eq hg.symm)) hb); replace HB := qa (below_step (zb0 HB) hb); clear hb hbox hg; obtain ⟨hcz7_0, hcz7_1, hcz7_2, hcz7_3⟩ := qc4 BK461; obtain ⟨hfz7_0, hfz7_1, hfz7_2, hfz7_3⟩ := qz4 BK461) | ((with_reducible refine gate_dst (N := 8) rfl ?_); refine zbe (N := 8) (cs := #[.int .i64 0, .int .i64 0, .int .i64 0, .int .i64 0]) (t := 62) ?_; intro gb462 hg w8 hbox hb; have BK462 := qa (hbox); have GW462 := qa (zge (zb1 HB) hg); have GE462 := GW462; have NB461_462 := qa ((by rw [hg]; exact Nat.ne_of_lt (blk_lt (g := gb461) (o := .cells #[.int .i64 ((rd_T62 l0 x13_1).f0), .int .i64 ((rd_T62 l0 x13_1).f1), .int .i64 ((rd_T62 l0 x13_1).f2), .int .i64 ((rd_T62 l0 x13_1).f3)] 62 (0, 0)) (qs BK461)) : gb461 ≠ gb462)); have NB462_461 := qa ((by rw [hg]; exact Nat.ne_of_gt (blk_lt (g := gb461) (o := .cells #[.int .i64 ((rd_T62 l0 x13_1).f0), .int .i64 ((rd_T62 l0 x13_1).f1), .int .i64 ((rd_T62 l0 x13_1).f2), .int .i64 ((rd_T62 l0 x13_1).f3)] 62 (0, 0)) (qs BK461)) : gb462 ≠ gb461)); replace HO_5 := qa (Kd.R_below (Kd.R_elderB (by (with_reducible repeat (first | apply Kd.R_alloc | apply Kd.R_drewN | apply Kd.R_drew)); exact (Kd.R_mono (Kd.R_far (p := ⟨gb461, 3, none⟩) (Kd.R_far (p := ⟨gb461, 2, none⟩) (Kd.R_far (p := ⟨gb461, 1, none⟩) (Kd.R_far (p := ⟨gb461, 0, none⟩) (Kd.R_mono HO_5.out (fun k_ hk => (⟨hk, hk.2⟩ : _ ∧ k_ ≠ gb461))) (fun _ hk => hk.2) (.int .i64 ((rd_T62 l0 x13_1).f0))) (fun _ hk => hk.2) (.int .i64 ((rd_T62 l0 x13_1).f1))) (fun _ hk => hk.2) (.int .i64 ((rd_T62 l0 x13_1).f2))) (fun _ hk => hk.2) (.int .i64 ((rd_T62 l0 x13_1).f3))) (fun _ h_ => h_.1))) gb462 (Nat.le_of_eq hg.symm)) hb); replace BK461 := qa (blk_below (g := gb461) (o := .cells #[.int .i64 ((rd_T62 l0 x13_1).f0), .int .i64 ((rd_T62 l0 x13_1).f1), .int .i64 ((rd_T62 l0 x13_1).f2), .int .i64 ((rd_T62 l0 x13_1).f3)] 62 (0, 0)) (qs BK461) hb); replace HB := qa (below_step (zb1 HB) hb); clear hb hbox hg; have hnb9 := NB462_461.out; have hnc9 := NB461_462.out; obtain ⟨hcz10_0, hcz10_1, hcz10_2, hcz10_3⟩ := qc4 BK462; obtain ⟨hfz10_0, hfz10_1, hfz10_2, hfz10_3⟩ := qz4 BK462))
      go_loopg [22] k1 (fun kq v22 w' => ∃ (x22_2 : Int) (x463000_2 : Int) (x463001_2 : Int) (x463002_2 : Int) (x463003_2 : Int), v22 = .int .i64 x22_2 ∧ Aside0 (spec_poExchange.l1 kq l1 x5_1 l0 (l0.length : Int) x13_1 l1 (l1.length : Int) x22_2 ((rd_T62 l0 x13_1).f0) ((rd_T62 l0 x13_1).f1) ((rd_T62 l0 x13_1).f2) ((rd_T62 l0 x13_1).f3) x463000_2 x463001_2 x463002_2 x463003_2 = some r) ∧ Aside0 (kq ≤ k1) ∧ Aside0 (Kd.R k62 62 w' w.heap.size (fun k_ => k_ ≠ gb461 ∧ k_ ≠ gb462) u5 x5_1) ∧ Aside0 (w'.heap[gb461]? = some (.cells #[.int .i64 ((rd_T62 l0 x13_1).f0), .int .i64 ((rd_T62 l0 x13_1).f1), .int .i64 ((rd_T62 l0 x13_1).f2), .int .i64 ((rd_T62 l0 x13_1).f3)] 62 (0, 0))) ∧ Aside0 (w'.heap[gb462]? = some (.cells #[.int .i64 x463000_2, .int .i64 x463001_2, .int .i64 x463002_2, .int .i64 x463003_2] 62 (0, 0))) ∧ Aside0 (Below w.heap.size w w'))
      case atStart => exact ⟨(0), ((rd_T62 l0 x13_1).f0), (0), (0), (0), qf, H', ⟨Nat.le_refl _⟩, ⟨by (with_reducible repeat (first | apply Kd.R_alloc | apply Kd.R_drewN | apply Kd.R_drew)); exact Kd.R_mono (Kd.R_far (p := ⟨gb462, 3, none⟩) (Kd.R_far (p := ⟨gb462, 2, none⟩) (Kd.R_far (p := ⟨gb462, 1, none⟩) (Kd.R_far (p := ⟨gb462, 0, none⟩) (Kd.R_mono HO_5.out (fun k_ hk => (⟨hk, hk.2⟩ : _ ∧ k_ ≠ gb462))) (fun _ hk => hk.2) (.int .i64 ((rd_T62 l0 x13_1).f0))) (fun _ hk => hk.2) (.int .i64 0)) (fun _ hk => hk.2) (.int .i64 0)) (fun _ hk => hk.2) (.int .i64 0)) (fun _ hk => ⟨hk.1.1.2, hk.1.2⟩)⟩, ⟨zq5 BK461⟩, ⟨qs BK462⟩, ⟨(zb1 HB)⟩⟩
      case round =>
       clear H'
       try clear c1
       try clear p2
       try clear c3
       try clear c3b0
       try clear c4
       try clear c4b0
       try clear p4
       try clear q4
       try clear hx4
       try clear c5
       try clear c5b0
       try clear c9
       try clear hcz10_0
       try clear hcz10_1
       try clear hcz10_2
       try clear hcz10_3
       try clear hcz7_0
       try clear hcz7_1
       try clear hcz7_2
       try clear hcz7_3
       try clear hfz10_0
       try clear hfz10_1
       try clear hfz10_2
       try clear hfz10_3
       try clear hfz7_0
       try clear hfz7_1
       try clear hfz7_2
       try clear hfz7_3
       try clear hx460_0
       try clear hx460_1
       try clear hx460_2
       try clear hx460_3
       try clear p2
       try clear p460
       try clear q460
       obtain ⟨x22_2, x463000_2, x463001_2, x463002_2, x463003_2, rfl, HA, HK2, HO_5, BK461, BK462, HB⟩ := hrel
       cases gk with
       | zero => exact absurd HA.out (by simp [spec_poExchange.l1])
       | succ k2 =>
        have H := HA.out
        clear HA
        simp only [spec_poExchange.l1] at H
        by_cases c11 : x22_2 < (l1.length : Int)
        ·
         rw [if_pos c11] at H
         have c11b0 := decide_eq_true c11
         clear c11
         by_cases c12 : 0 ≤ x22_2
         ·
          rw [if_pos c12] at H
          have c12b0 := decide_eq_true c12
          clear c12
          by_cases c13 : x22_2 < (l1.length : Int)
          ·
           rw [if_pos c13] at H
           have c13b0 := decide_eq_true c13
           clear c13
           replace H := qo H
           obtain ⟨t464, A14, H⟩ := H
           replace H : ((spec_poWith.f x463000_2 x463001_2 x463002_2 x463003_2 (rd l1 x22_2) t464).bind fun bt465 => (spec_poExchange.l1 k2 l1 x5_1 l0 (l0.length : Int) x13_1 l1 (l1.length : Int) (wrap64 (x22_2 + 1)) ((rd_T62 l0 x13_1).f0) ((rd_T62 l0 x13_1).f1) ((rd_T62 l0 x13_1).f2) ((rd_T62 l0 x13_1).f3) bt465.1 bt465.2.1 bt465.2.2.1 bt465.2.2.2)) = some r := H
           replace H := qo H
           obtain ⟨⟨t465, t466, t467, t468⟩, A15, H⟩ := H
           replace H : (spec_poExchange.l1 k2 l1 x5_1 l0 (l0.length : Int) x13_1 l1 (l1.length : Int) (wrap64 (x22_2 + 1)) ((rd_T62 l0 x13_1).f0) ((rd_T62 l0 x13_1).f1) ((rd_T62 l0 x13_1).f2) ((rd_T62 l0 x13_1).f3) t465 t466 t467 t468) = some r := H
           have H' := qa H
           clear H
           have p463 : 0 ≤ (x22_2 : Int) := qd
           have q463 : x22_2 < (l1.length : Int) := qd
           obtain ⟨ad463, e463, hx463_0⟩ := Kd.at_int HR1.out x22_2 p463 q463
           cases e463
           replace hx463_0 := qb HB hx463_0
           replace p463 := eq_true p463
           replace q463 := eq_true q463
           try go_wp2
           replace HO_5 := qa (Kd.R_drew HO_5.out); replace BK461 := qa (blk_drew BK461.out); replace BK462 := qa (blk_drew BK462.out); replace HB := qa (below_drew1 HB.out)
           refine start_ (n := 7) (S := fun w' => w'.cell? ⟨gb462, 0, none⟩ = some (.int .i64 x463000_2) ∧ w'.cell? ⟨gb462, 1, none⟩ = some (.int .i64 x463001_2) ∧ w'.cell? ⟨gb462, 2, none⟩ = some (.int .i64 x463002_2) ∧ w'.cell? ⟨gb462, 3, none⟩ = some (.int .i64 x463003_2) ∧ w'.cell? ⟨gb461, 0, none⟩ = some (.int .i64 ((rd_T62 l0 x13_1).f0)) ∧ w'.cell? ⟨gb461, 1, none⟩ = some (.int .i64 ((rd_T62 l0 x13_1).f1)) ∧ w'.cell? ⟨gb461, 2, none⟩ = some (.int .i64 ((rd_T62 l0 x13_1).f2)) ∧ w'.cell? ⟨gb461, 3, none⟩ = some (.int .i64 ((rd_T62 l0 x13_1).f3))) (ds := [6]) (bn 7 0) (by kernel_rfl) rfl rfl ⟨zc BK462 0, zc BK462 1, zc BK462 2, zc BK462 3, zc BK461 0, zc BK461 1, zc BK461 2, zc BK461 3⟩ (fun hHeld => ?_)
           generalize wr.drew = w16 at HO_5 BK461 BK462 HB hHeld ⊢
           refine pure_ (i := 1) (N := some 28) (v := ?_) (a' := ?_) (bn 7 2) rfl rfl (by kernel_rfl) (fun _ _ _ h => h) (Or.inl ⟨by rfl, ?_⟩) ?_ ?_
           rotate_left
           ·
            intro w'
            go_simp
            with_reducible rfl
           rotate_left
           ·
            simp only [Act.put, List.setIfInBounds_toArray, List.set_cons_zero, List.set_cons_succ, i64_w, i32_w]
            rfl
           refine pure_ (i := 3) (N := some 30) (v := ?_) (a' := ?_) (bn 7 10) rfl rfl (by kernel_rfl) (fun _ _ _ h => h) (Or.inl ⟨by rfl, ?_⟩) ?_ ?_
           rotate_left
           ·
            intro w'
            go_simp
            with_reducible rfl
           rotate_left
           ·
            simp only [Act.put, List.setIfInBounds_toArray, List.set_cons_zero, List.set_cons_succ, i64_w, i32_w]
            rfl
           refine take_ (i := 0) (N := some 27) (v := ?_) (a' := ?_) (bn 7 11) rfl rfl (by kernel_rfl) (fun _ _ _ h => h) (Or.inl ⟨by rfl, ?_⟩) hHeld ?_ ?_
           rotate_left
           ·
            rintro w' ⟨s0, s1, s2, s3, s4, s5, s6, s7⟩
            go_simp
            with_reducible rfl
           rotate_left
           ·
            simp only [Act.put, List.setIfInBounds_toArray, List.set_cons_zero, List.set_cons_succ, i64_w, i32_w]
            rfl
           refine take_ (i := 2) (N := some 29) (v := ?_) (a' := ?_) (bn 7 15) rfl rfl (by kernel_rfl) (fun _ _ _ h => h) (Or.inl ⟨by rfl, ?_⟩) hHeld ?_ ?_
           rotate_left
           ·
            rintro w' ⟨s0, s1, s2, s3, s4, s5, s6, s7⟩
            go_simp
            with_reducible rfl
           rotate_left
           ·
            simp only [Act.put, List.setIfInBounds_toArray, List.set_cons_zero, List.set_cons_succ, i64_w, i32_w]
            rfl
           refine one_ (i := 4) (N := some 31) (bn 7 31) rfl rfl (by kernel_rfl) (by decide) (fun K hK => ?_)
           refine goes_ Tryz.func50 (by kernel_rfl) rfl #[.agg #[.int .i64 ((rd_T62 l0 x13_1).f0), .int .i64 ((rd_T62 l0 x13_1).f1), .int .i64 ((rd_T62 l0 x13_1).f2), .int .i64 ((rd_T62 l0 x13_1).f3)], .int .i64 x22_2] (by rfl) rfl rfl zq6 ?_
           with_reducible refine (spec_poPower.calls ((rd_T62 l0 x13_1).f0) ((rd_T62 l0 x13_1).f1) ((rd_T62 l0 x13_1).f2) ((rd_T62 l0 x13_1).f3) x22_2 t464 _ A14.out).mono ?_
           rintro e w17 ⟨rfl, hb⟩
           refine ⟨_, rfl, ?_⟩
           replace HO_5 := qa (Kd.R_below (zq3 HO_5) hb); replace BK461 := qa (zbb BK461 hb); replace BK462 := qa (zbb BK462 hb); replace HB := qa (below_step (zb1 HB) hb)
           (try clear hb)
           (try clear hb2)
           (try clear hk)
           (try clear hi)
           refine hK.out _ _ ⟨zc BK462 0, zc BK462 1, zc BK462 2, zc BK462 3, zc BK461 0, zc BK461 1, zc BK461 2, zc BK461 3⟩ (fun hHeld => ?_)
           clear hK K
           refine qt ?_
           refine one_ (i := 5) (N := some 32) (bn 7 63) rfl rfl (by kernel_rfl) (by decide) (fun K hK => ?_)
           refine goes_ Tryz.func51 (by kernel_rfl) rfl #[.agg #[.int .i64 x463000_2, .int .i64 x463001_2, .int .i64 x463002_2, .int .i64 x463003_2], .int .i64 (rd l1 x22_2), .int .i64 t464] (by rfl) rfl rfl zq6 ?_
           with_reducible refine (spec_poWith.calls x463000_2 x463001_2 x463002_2 x463003_2 (rd l1 x22_2) t464 t465 t466 t467 t468 _ A15.out).mono ?_
           rintro e w18 ⟨rfl, hb⟩
           refine ⟨_, rfl, ?_⟩
           replace HO_5 := qa (Kd.R_below (zq3 HO_5) hb); replace BK461 := qa (zbb BK461 hb); replace BK462 := qa (zbb BK462 hb); replace HB := qa (below_step (zb1 HB) hb)
           (try clear hb)
           (try clear hb2)
           (try clear hk)
           (try clear hi)
           refine hK.out _ _ ⟨zc BK462 0, zc BK462 1, zc BK462 2, zc BK462 3, zc BK461 0, zc BK461 1, zc BK461 2, zc BK461 3⟩ (fun hHeld => ?_)
           clear hK K
           refine qt ?_
           refine last_ (i := 6) (N := none) #[true, true, true, true, true, true, true] rfl rfl (by kernel_rfl) (by decide) (fun K hK => ?_)
           have hs19 : w18.cell? ⟨gb462, 0, none⟩ = some (.int .i64 x463000_2) := zc BK462 0
           have hfs19 := blk_frozen BK462.out 0
           have hns19_0 := NB461_462.out
           have hms19_0 := NB462_461.out
           have hs20 : w18.cell? ⟨gb462, 1, none⟩ = some (.int .i64 x463001_2) := zc BK462 1
           have hfs20 := blk_frozen BK462.out 1
           have hns20_0 := NB461_462.out
           have hms20_0 := NB462_461.out
           have hs21 : w18.cell? ⟨gb462, 2, none⟩ = some (.int .i64 x463002_2) := zc BK462 2
           have hfs21 := blk_frozen BK462.out 2
           have hns21_0 := NB461_462.out
           have hms21_0 := NB462_461.out
           have hs22 : w18.cell? ⟨gb462, 3, none⟩ = some (.int .i64 x463003_2) := zc BK462 3
           have hfs22 := blk_frozen BK462.out 3
           have hns22_0 := NB461_462.out
           have hms22_0 := NB462_461.out
           refine skip_ (w1 := ?_) (by rfl) rfl ?_ ?_
           rotate_left
           ·
            go_simp
            rfl
           refine hK.out _ _ ?_
           clear hK K
           refine done_ (by kernel_rfl) ?_
           try go_wp2
           go_roundg k2
           case measure => have := HK1.out; have := HK2.out; omega
           case rel => exact ⟨(wrap64 (x22_2 + 1)), (t465), (t466), (t467), (t468), qf, H', ⟨by have := HK1.out; have := HK2.out; omega⟩, ⟨by (with_reducible repeat (first | apply Kd.R_alloc | apply Kd.R_drewN | apply Kd.R_drew)); exact Kd.R_mono (Kd.R_far (p := ⟨gb462, 3, none⟩) (Kd.R_far (p := ⟨gb462, 2, none⟩) (Kd.R_far (p := ⟨gb462, 1, none⟩) (Kd.R_far (p := ⟨gb462, 0, none⟩) (Kd.R_mono HO_5.out (fun k_ hk => (⟨hk, hk.2⟩ : _ ∧ k_ ≠ gb462))) (fun _ hk => hk.2) (.int .i64 t465)) (fun _ hk => hk.2) (.int .i64 t466)) (fun _ hk => hk.2) (.int .i64 t467)) (fun _ hk => hk.2) (.int .i64 t468)) (fun _ hk => ⟨hk.1.1, hk.1.2⟩)⟩, ⟨zq5 BK461⟩, ⟨qs BK462⟩, ⟨(zb1 HB)⟩⟩
          ·
           rw [if_neg c13] at H
           exact absurd H (by simp)
         ·
          rw [if_neg c12] at H
          exact absurd H (by simp)
        ·
         rw [if_neg c11] at H
         have c11b0 := decide_eq_false c11
         clear c11
         replace H := qo H
         obtain ⟨t469, A23, H⟩ := H
         replace H : (spec_poExchange.l0 k2 l1 t469 l0 (l0.length : Int) (wrap64 (x13_1 + 1))) = some r := H
         have H' := qa H
         clear H
         have hnb24 := NB462_461.out
         have hnc24 := NB461_462.out
         have hcz25_0 : wr.cell? ⟨gb462, 0, none⟩ = some (.int .i64 x463000_2) := zc BK462 0
         have hcz25_1 : wr.cell? ⟨gb462, 1, none⟩ = some (.int .i64 x463001_2) := zc BK462 1
         have hcz25_2 : wr.cell? ⟨gb462, 2, none⟩ = some (.int .i64 x463002_2) := zc BK462 2
         have hcz25_3 : wr.cell? ⟨gb462, 3, none⟩ = some (.int .i64 x463003_2) := zc BK462 3
         have hfz25_0 := blk_frozen BK462.out 0
         have hfz25_1 := blk_frozen BK462.out 1
         have hfz25_2 := blk_frozen BK462.out 2
         have hfz25_3 := blk_frozen BK462.out 3
         obtain ⟨Ao26, co26, eo26⟩ := Kd.R_slice HO_5.out
         subst eo26
         go_wp2_with (first | ((with_reducible refine gate_callee (f := 74) rfl ?_); refine qg 36 Tryz.func74 #[.slice Ao26 x5_1.length co26, .agg #[.int .i64 x463000_2, .int .i64 x463001_2, .int .i64 x463002_2, .int .i64 x463003_2]] ?_; (with_reducible refine (spec_poPut.calls k2 _ _ x5_1 x463000_2 x463001_2 x463002_2 x463003_2 t469 _ ?side1 ?side2 A23.out).mono ?_); (case side1 => repeat (first | exact (Kd.R_reads' HO_5.out).2.2 | (with_reducible refine Kd.C_alloc ?_ _) | (with_reducible refine Kd.C_drewN ?_ _) | (with_reducible refine Kd.C_drew ?_))); (case side2 => exact (Kd.R_reads' HO_5.out).2.1); rintro e w27 ⟨v470, rfl, ho0, hb⟩; refine ⟨_, rfl, ?_⟩; have HO471 := qa (Kd.R_lower (Kd.R_newB (Kd.R_newB (Kd.R_new' ho0 (Kd.R_lt (zq3 HO_5))) (g := gb461) (o := .cells #[.int .i64 ((rd_T62 l0 x13_1).f0), .int .i64 ((rd_T62 l0 x13_1).f1), .int .i64 ((rd_T62 l0 x13_1).f2), .int .i64 ((rd_T62 l0 x13_1).f3)] 62 (0, 0)) (zq1 BK461)) (g := gb462) (o := .cells #[.int .i64 x463000_2, .int .i64 x463001_2, .int .i64 x463002_2, .int .i64 x463003_2] 62 (0, 0)) (zq1 BK462)) (below_size (zb1 HB))); replace HO_5 := qa (Kd.R_elder' (zq3 HO_5) (Kd.R_base ho0) hb); replace BK461 := qa (zbb BK461 hb); replace BK462 := qa (zbb BK462 hb); replace HB := qa (below_step (zb1 HB) hb); (try clear hb); (try clear hb2); (try clear hk); (try clear hi); (try clear ho0)))
         go_roundg k2
         case measure => have := HK1.out; have := HK2.out; omega
         case rel => exact ⟨(t469), (wrap64 (x13_1 + 1)), qf, H', ⟨by have := HK1.out; have := HK2.out; omega⟩, ⟨by (with_reducible repeat (first | apply Kd.R_alloc | apply Kd.R_drewN | apply Kd.R_drew)); exact Kd.R_mono HO471.out (fun _ hk => trivial)⟩, ⟨(zb1 HB)⟩⟩
     ·
      rw [if_neg c5] at H
      exact absurd H (by simp)
    ·
     rw [if_neg c4] at H
     exact absurd H (by simp)
   ·
    rw [if_neg c3] at H
    have c3b0 := decide_eq_false c3
    clear c3
    obtain rfl := Option.some.inj H
    go_wp2
    go_ret
    exact ⟨_, by first | rfl | (simp [errW_none, errW_some] <;> rfl) | (simp [*, errW_none, errW_some] <;> rfl), by (with_reducible repeat (first | apply Kd.R_alloc | apply Kd.R_drewN | apply Kd.R_drew)); exact HO_5.out, (zb0 HB)⟩
/-! ### spec_ExchangeUnknowns: function 7 -/
set_option maxHeartbeats 8000000 in
set_option maxRecDepth 100000 in
theorem spec_ExchangeUnknowns.calls (k : Nat) (A0 : Option Addr) (c0 : Nat) (l0 : List (S62)) (A1 : Option Addr) (c1 : Nat) (l1 : List Int) (r1 : List (S62)) (r2 : Bool) (w : World) (hr0 : Kd.C k62 w A0 l0.length l0) (hc0 : l0.length ≤ c0) (hr1 : Kd.C (Kd.int .i64) w A1 l1.length l1) (hc1 : l1.length ≤ c1) (h : spec_ExchangeUnknowns.f k l0 l1 = some (r1, r2)) :
  Calls Tryz.prog 7 #[.slice A0 l0.length c0, .slice A1 l1.length c1] w fun e w' => ∃ v0_ : Value, e = .returned (.tuple #[v0_, .bool r2]) ∧ Kd.R k62 62 w' w.heap.size (fun _ => True) v0_ r1 ∧ Below w.heap.size w w' := by
 have HR0 := qa hr0
 have HC0 := qa hc0
 clear hr0 hc0
 have HR1 := qa hr1
 have HC1 := qa hc1
 clear hr1 hc1
 have HB := qa (Below.refl w.heap.size w)
 have H : ((spec_poGood.f k l0).bind fun t472 => (if t472 = true then (if (l1.length : Int) = 3 then ((spec_l1All.f k l1 0 2).bind fun t473 => (if t473 = true then ((spec_l1Has.f k l1 0).bind fun t474 => (if t474 = true then ((spec_l1Has.f k l1 1).bind fun t475 => (if t475 = true then ((spec_l1Has.f k l1 2).bind fun t476 => (if t476 = true then ((spec_poExchange.f k l0 l1).bind fun t477 => (some (t477, true))) else (some (([] : List (S62)), false)))) else (some (([] : List (S62)), false)))) else (some (([] : List (S62)), false)))) else (some (([] : List (S62)), false)))) else (some (([] : List (S62)), false))) else (some (([] : List (S62)), false)))) = some (r1, r2) := h
 clear h
 replace H := qo H
 obtain ⟨t472, A3, H⟩ := H
 replace H : (if t472 = true then (if (l1.length : Int) = 3 then ((spec_l1All.f k l1 0 2).bind fun t473 => (if t473 = true then ((spec_l1Has.f k l1 0).bind fun t474 => (if t474 = true then ((spec_l1Has.f k l1 1).bind fun t475 => (if t475 = true then ((spec_l1Has.f k l1 2).bind fun t476 => (if t476 = true then ((spec_poExchange.f k l0 l1).bind fun t477 => (some (t477, true))) else (some (([] : List (S62)), false)))) else (some (([] : List (S62)), false)))) else (some (([] : List (S62)), false)))) else (some (([] : List (S62)), false)))) else (some (([] : List (S62)), false))) else (some (([] : List (S62)), false))) = some (r1, r2) := H
 by_cases c4 : t472 = true
 ·
  subst c4
  have H1 : (if (l1.length : Int) = 3 then ((spec_l1All.f k l1 0 2).bind fun t473 => (if t473 = true then ((spec_l1Has.f k l1 0).bind fun t474 => (if t474 = true then ((spec_l1Has.f k l1 1).bind fun t475 => (if t475 = true then ((spec_l1Has.f k l1 2).bind fun t476 => (if t476 = true then ((spec_poExchange.f k l0 l1).bind fun t477 => (some (t477, true))) else (some (([] : List (S62)), false)))) else (some (([] : List (S62)), false)))) else (some (([] : List (S62)), false)))) else (some (([] : List (S62)), false)))) else (some (([] : List (S62)), false))) = some (r1, r2) := by rw [if_pos rfl] at H; exact H
  clear H
  have H := H1
  clear H1
  by_cases c5 : (l1.length : Int) = 3
  ·
   rw [if_pos c5] at H
   have c5b0 : ((l1.length : Int) == 3) = true := beq_iff_eq.mpr c5
   have c5b1 : ((l1.length : Int) != 3) = false := bne_eq_false_iff_eq.mpr c5
   clear c5
   replace H := qo H
   obtain ⟨t473, A6, H⟩ := H
   replace H : (if t473 = true then ((spec_l1Has.f k l1 0).bind fun t474 => (if t474 = true then ((spec_l1Has.f k l1 1).bind fun t475 => (if t475 = true then ((spec_l1Has.f k l1 2).bind fun t476 => (if t476 = true then ((spec_poExchange.f k l0 l1).bind fun t477 => (some (t477, true))) else (some (([] : List (S62)), false)))) else (some (([] : List (S62)), false)))) else (some (([] : List (S62)), false)))) else (some (([] : List (S62)), false))) = some (r1, r2) := H
   by_cases c7 : t473 = true
   ·
    subst c7
    have H1 : ((spec_l1Has.f k l1 0).bind fun t474 => (if t474 = true then ((spec_l1Has.f k l1 1).bind fun t475 => (if t475 = true then ((spec_l1Has.f k l1 2).bind fun t476 => (if t476 = true then ((spec_poExchange.f k l0 l1).bind fun t477 => (some (t477, true))) else (some (([] : List (S62)), false)))) else (some (([] : List (S62)), false)))) else (some (([] : List (S62)), false)))) = some (r1, r2) := by rw [if_pos rfl] at H; exact H
    clear H
    have H := H1
    clear H1
    replace H := qo H
    obtain ⟨t474, A8, H⟩ := H
    replace H : (if t474 = true then ((spec_l1Has.f k l1 1).bind fun t475 => (if t475 = true then ((spec_l1Has.f k l1 2).bind fun t476 => (if t476 = true then ((spec_poExchange.f k l0 l1).bind fun t477 => (some (t477, true))) else (some (([] : List (S62)), false)))) else (some (([] : List (S62)), false)))) else (some (([] : List (S62)), false))) = some (r1, r2) := H
    by_cases c9 : t474 = true
    ·
     subst c9
     have H1 : ((spec_l1Has.f k l1 1).bind fun t475 => (if t475 = true then ((spec_l1Has.f k l1 2).bind fun t476 => (if t476 = true then ((spec_poExchange.f k l0 l1).bind fun t477 => (some (t477, true))) else (some (([] : List (S62)), false)))) else (some (([] : List (S62)), false)))) = some (r1, r2) := by rw [if_pos rfl] at H; exact H
     clear H
     have H := H1
     clear H1
     replace H := qo H
     obtain ⟨t475, A10, H⟩ := H
     replace H : (if t475 = true then ((spec_l1Has.f k l1 2).bind fun t476 => (if t476 = true then ((spec_poExchange.f k l0 l1).bind fun t477 => (some (t477, true))) else (some (([] : List (S62)), false)))) else (some (([] : List (S62)), false))) = some (r1, r2) := H
     by_cases c11 : t475 = true
     ·
      subst c11
      have H1 : ((spec_l1Has.f k l1 2).bind fun t476 => (if t476 = true then ((spec_poExchange.f k l0 l1).bind fun t477 => (some (t477, true))) else (some (([] : List (S62)), false)))) = some (r1, r2) := by rw [if_pos rfl] at H; exact H
      clear H
      have H := H1
      clear H1
      replace H := qo H
      obtain ⟨t476, A12, H⟩ := H
      replace H : (if t476 = true then ((spec_poExchange.f k l0 l1).bind fun t477 => (some (t477, true))) else (some (([] : List (S62)), false))) = some (r1, r2) := H
      by_cases c13 : t476 = true
      ·
       subst c13
       have H1 : ((spec_poExchange.f k l0 l1).bind fun t477 => (some (t477, true))) = some (r1, r2) := by rw [if_pos rfl] at H; exact H
       clear H
       have H := H1
       clear H1
       replace H := qo H
       obtain ⟨t477, A14, H⟩ := H
       replace H : (some (t477, true)) = some (r1, r2) := H
       simp only [Option.some.injEq, Prod.mk.injEq] at H
       obtain ⟨rfl, rfl⟩ := H
       go_enter Tryz.func7, Tryz.ntmps7
       go_wp2_with (first | ((with_reducible refine gate_callee (f := 38) rfl ?_); refine qg 7 Tryz.func38 #[.slice A0 l0.length c0] ?_; (with_reducible refine (spec_poGood.calls k _ _ l0 true _ ?side1 ?side2 A3.out).mono ?_); (case side1 => repeat (first | exact HR0.out | (with_reducible refine Kd.C_alloc ?_ _) | (with_reducible refine Kd.C_drewN ?_ _) | (with_reducible refine Kd.C_drew ?_))); (case side2 => exact HC0.out); rintro e w15 ⟨rfl, hb⟩; refine ⟨_, rfl, ?_⟩; replace HB := qa (below_step (zb0 HB) hb); (try clear hb); (try clear hb2); (try clear hk); (try clear hi)) | (go_at_call 39; (with_reducible refine (spec_l1All.calls k _ _ l1 0 2 true _ ?side1 ?side2 A6.out).mono ?_); (case side1 => repeat (first | exact (Kd.C_below HR1.out HB.out) | (with_reducible refine Kd.C_alloc ?_ _) | (with_reducible refine Kd.C_drewN ?_ _) | (with_reducible refine Kd.C_drew ?_))); (case side2 => exact HC1.out); rintro e w' ⟨rfl, ⟨nd, rfl⟩⟩) | (go_at_call 40; (with_reducible refine (spec_l1Has.calls k _ _ l1 0 true _ ?side1 ?side2 A8.out).mono ?_); (case side1 => repeat (first | exact (Kd.C_below HR1.out (zb0 HB)) | (with_reducible refine Kd.C_alloc ?_ _) | (with_reducible refine Kd.C_drewN ?_ _) | (with_reducible refine Kd.C_drew ?_))); (case side2 => exact HC1.out); rintro e w' ⟨rfl, ⟨nd, rfl⟩⟩) | (go_at_call 40; (with_reducible refine (spec_l1Has.calls k _ _ l1 1 true _ ?side1 ?side2 A10.out).mono ?_); (case side1 => repeat (first | exact (Kd.C_below HR1.out (zb0 HB)) | (with_reducible refine Kd.C_alloc ?_ _) | (with_reducible refine Kd.C_drewN ?_ _) | (with_reducible refine Kd.C_drew ?_))); (case side2 => exact HC1.out); rintro e w' ⟨rfl, ⟨nd, rfl⟩⟩) | (go_at_call 40; (with_reducible refine (spec_l1Has.calls k _ _ l1 2 true _ ?side1 ?side2 A12.out).mono ?_); (case side1 => repeat (first | exact (Kd.C_below HR1.out (zb0 HB)) | (with_reducible refine Kd.C_alloc ?_ _) | (with_reducible refine Kd.C_drewN ?_ _) | (with_reducible refine Kd.C_drew ?_))); (case side2 => exact HC1.out); rintro e w' ⟨rfl, ⟨nd, rfl⟩⟩) | ((with_reducible refine gate_callee (f := 41) rfl ?_); refine qg 36 Tryz.func41 #[.slice A0 l0.length c0, .slice A1 l1.length c1] ?_; (with_reducible refine (spec_poExchange.calls k _ _ l0 _ _ l1 t477 _ ?side1 ?side2 ?side3 ?side4 A14.out).mono ?_); (case side1 => repeat (first | exact (Kd.C_below HR0.out (zb0 HB)) | (with_reducible refine Kd.C_alloc ?_ _) | (with_reducible refine Kd.C_drewN ?_ _) | (with_reducible refine Kd.C_drew ?_))); (case side2 => exact HC0.out); (case side3 => repeat (first | exact (Kd.C_below HR1.out (zb0 HB)) | (with_reducible refine Kd.C_alloc ?_ _) | (with_reducible refine Kd.C_drewN ?_ _) | (with_reducible refine Kd.C_drew ?_))); (case side4 => exact HC1.out); rintro e w16 ⟨v478, rfl, ho0, hb⟩; refine ⟨_, rfl, ?_⟩; have HO479 := qa (Kd.R_lower ho0 (below_size (zb0 HB))); replace HB := qa (below_step (zb0 HB) hb); (try clear hb); (try clear hb2); (try clear hk); (try clear hi); (try clear ho0)))
       go_ret2
       exact ⟨_, by first | rfl | (simp [errW_none, errW_some] <;> rfl) | (simp [*, errW_none, errW_some] <;> rfl), by (with_reducible repeat (first | apply Kd.R_alloc | apply Kd.R_drewN | apply Kd.R_drew)); exact HO479.out, (zb0 HB)⟩
      ·
       replace c13 := Bool.eq_false_iff.mpr c13
       subst c13
       have H1 : (some (([] : List (S62)), false)) = some (r1, r2) := by rw [if_neg (show ¬ (false = true) by decide)] at H; exact H
       clear H
       have H := H1
       clear H1
       simp only [Option.some.injEq, Prod.mk.injEq] at H
       obtain ⟨rfl, rfl⟩ := H
       go_enter Tryz.func7, Tryz.ntmps7
       go_wp2_with (first | ((with_reducible refine gate_callee (f := 38) rfl ?_); refine qg 7 Tryz.func38 #[.slice A0 l0.length c0] ?_; (with_reducible refine (spec_poGood.calls k _ _ l0 true _ ?side1 ?side2 A3.out).mono ?_); (case side1 => repeat (first | exact HR0.out | (with_reducible refine Kd.C_alloc ?_ _) | (with_reducible refine Kd.C_drewN ?_ _) | (with_reducible refine Kd.C_drew ?_))); (case side2 => exact HC0.out); rintro e w17 ⟨rfl, hb⟩; refine ⟨_, rfl, ?_⟩; replace HB := qa (below_step (zb0 HB) hb); (try clear hb); (try clear hb2); (try clear hk); (try clear hi)) | (go_at_call 39; (with_reducible refine (spec_l1All.calls k _ _ l1 0 2 true _ ?side1 ?side2 A6.out).mono ?_); (case side1 => repeat (first | exact (Kd.C_below HR1.out HB.out) | (with_reducible refine Kd.C_alloc ?_ _) | (with_reducible refine Kd.C_drewN ?_ _) | (with_reducible refine Kd.C_drew ?_))); (case side2 => exact HC1.out); rintro e w' ⟨rfl, ⟨nd, rfl⟩⟩) | (go_at_call 40; (with_reducible refine (spec_l1Has.calls k _ _ l1 0 true _ ?side1 ?side2 A8.out).mono ?_); (case side1 => repeat (first | exact (Kd.C_below HR1.out (zb0 HB)) | (with_reducible refine Kd.C_alloc ?_ _) | (with_reducible refine Kd.C_drewN ?_ _) | (with_reducible refine Kd.C_drew ?_))); (case side2 => exact HC1.out); rintro e w' ⟨rfl, ⟨nd, rfl⟩⟩) | (go_at_call 40; (with_reducible refine (spec_l1Has.calls k _ _ l1 1 true _ ?side1 ?side2 A10.out).mono ?_); (case side1 => repeat (first | exact (Kd.C_below HR1.out (zb0 HB)) | (with_reducible refine Kd.C_alloc ?_ _) | (with_reducible refine Kd.C_drewN ?_ _) | (with_reducible refine Kd.C_drew ?_))); (case side2 => exact HC1.out); rintro e w' ⟨rfl, ⟨nd, rfl⟩⟩) | (go_at_call 40; (with_reducible refine (spec_l1Has.calls k _ _ l1 2 false _ ?side1 ?side2 A12.out).mono ?_); (case side1 => repeat (first | exact (Kd.C_below HR1.out (zb0 HB)) | (with_reducible refine Kd.C_alloc ?_ _) | (with_reducible refine Kd.C_drewN ?_ _) | (with_reducible refine Kd.C_drew ?_))); (case side2 => exact HC1.out); rintro e w' ⟨rfl, ⟨nd, rfl⟩⟩))
       go_ret2
       exact ⟨_, by first | rfl | (simp [errW_none, errW_some] <;> rfl) | (simp [*, errW_none, errW_some] <;> rfl), by first | exact Kd.R_nil _ _ _ _ _ | exact Kd.N_nil _ _ _ _ _ | exact Kd.V_nil _ _ _ _ _ | exact Kd.Q_nil _ _ _ _ _ | exact Kd.S_nil _ _ _ _ _, (zb0 HB)⟩
     ·
      replace c11 := Bool.eq_false_iff.mpr c11
      subst c11
      have H1 : (some (([] : List (S62)), false)) = some (r1, r2) := by rw [if_neg (show ¬ (false = true) by decide)] at H; exact H
      clear H
      have H := H1
      clear H1
      simp only [Option.some.injEq, Prod.mk.injEq] at H
      obtain ⟨rfl, rfl⟩ := H
      go_enter Tryz.func7, Tryz.ntmps7
      go_wp2_with (first | ((with_reducible refine gate_callee (f := 38) rfl ?_); refine qg 7 Tryz.func38 #[.slice A0 l0.length c0] ?_; (with_reducible refine (spec_poGood.calls k _ _ l0 true _ ?side1 ?side2 A3.out).mono ?_); (case side1 => repeat (first | exact HR0.out | (with_reducible refine Kd.C_alloc ?_ _) | (with_reducible refine Kd.C_drewN ?_ _) | (with_reducible refine Kd.C_drew ?_))); (case side2 => exact HC0.out); rintro e w18 ⟨rfl, hb⟩; refine ⟨_, rfl, ?_⟩; replace HB := qa (below_step (zb0 HB) hb); (try clear hb); (try clear hb2); (try clear hk); (try clear hi)) | (go_at_call 39; (with_reducible refine (spec_l1All.calls k _ _ l1 0 2 true _ ?side1 ?side2 A6.out).mono ?_); (case side1 => repeat (first | exact (Kd.C_below HR1.out HB.out) | (with_reducible refine Kd.C_alloc ?_ _) | (with_reducible refine Kd.C_drewN ?_ _) | (with_reducible refine Kd.C_drew ?_))); (case side2 => exact HC1.out); rintro e w' ⟨rfl, ⟨nd, rfl⟩⟩) | (go_at_call 40; (with_reducible refine (spec_l1Has.calls k _ _ l1 0 true _ ?side1 ?side2 A8.out).mono ?_); (case side1 => repeat (first | exact (Kd.C_below HR1.out (zb0 HB)) | (with_reducible refine Kd.C_alloc ?_ _) | (with_reducible refine Kd.C_drewN ?_ _) | (with_reducible refine Kd.C_drew ?_))); (case side2 => exact HC1.out); rintro e w' ⟨rfl, ⟨nd, rfl⟩⟩) | (go_at_call 40; (with_reducible refine (spec_l1Has.calls k _ _ l1 1 false _ ?side1 ?side2 A10.out).mono ?_); (case side1 => repeat (first | exact (Kd.C_below HR1.out (zb0 HB)) | (with_reducible refine Kd.C_alloc ?_ _) | (with_reducible refine Kd.C_drewN ?_ _) | (with_reducible refine Kd.C_drew ?_))); (case side2 => exact HC1.out); rintro e w' ⟨rfl, ⟨nd, rfl⟩⟩))
      go_ret2
      exact ⟨_, by first | rfl | (simp [errW_none, errW_some] <;> rfl) | (simp [*, errW_none, errW_some] <;> rfl), by first | exact Kd.R_nil _ _ _ _ _ | exact Kd.N_nil _ _ _ _ _ | exact Kd.V_nil _ _ _ _ _ | exact Kd.Q_nil _ _ _ _ _ | exact Kd.S_nil _ _ _ _ _, (zb0 HB)⟩
    ·
     replace c9 := Bool.eq_false_iff.mpr c9
     subst c9
     have H1 : (some (([] : List (S62)), false)) = some (r1, r2) := by rw [if_neg (show ¬ (false = true) by decide)] at H; exact H
     clear H
     have H := H1
     clear H1
     simp only [Option.some.injEq, Prod.mk.injEq] at H
     obtain ⟨rfl, rfl⟩ := H
     go_enter Tryz.func7, Tryz.ntmps7
     go_wp2_with (first | ((with_reducible refine gate_callee (f := 38) rfl ?_); refine qg 7 Tryz.func38 #[.slice A0 l0.length c0] ?_; (with_reducible refine (spec_poGood.calls k _ _ l0 true _ ?side1 ?side2 A3.out).mono ?_); (case side1 => repeat (first | exact HR0.out | (with_reducible refine Kd.C_alloc ?_ _) | (with_reducible refine Kd.C_drewN ?_ _) | (with_reducible refine Kd.C_drew ?_))); (case side2 => exact HC0.out); rintro e w19 ⟨rfl, hb⟩; refine ⟨_, rfl, ?_⟩; replace HB := qa (below_step (zb0 HB) hb); (try clear hb); (try clear hb2); (try clear hk); (try clear hi)) | (go_at_call 39; (with_reducible refine (spec_l1All.calls k _ _ l1 0 2 true _ ?side1 ?side2 A6.out).mono ?_); (case side1 => repeat (first | exact (Kd.C_below HR1.out HB.out) | (with_reducible refine Kd.C_alloc ?_ _) | (with_reducible refine Kd.C_drewN ?_ _) | (with_reducible refine Kd.C_drew ?_))); (case side2 => exact HC1.out); rintro e w' ⟨rfl, ⟨nd, rfl⟩⟩) | (go_at_call 40; (with_reducible refine (spec_l1Has.calls k _ _ l1 0 false _ ?side1 ?side2 A8.out).mono ?_); (case side1 => repeat (first | exact (Kd.C_below HR1.out (zb0 HB)) | (with_reducible refine Kd.C_alloc ?_ _) | (with_reducible refine Kd.C_drewN ?_ _) | (with_reducible refine Kd.C_drew ?_))); (case side2 => exact HC1.out); rintro e w' ⟨rfl, ⟨nd, rfl⟩⟩))
     go_ret2
     exact ⟨_, by first | rfl | (simp [errW_none, errW_some] <;> rfl) | (simp [*, errW_none, errW_some] <;> rfl), by first | exact Kd.R_nil _ _ _ _ _ | exact Kd.N_nil _ _ _ _ _ | exact Kd.V_nil _ _ _ _ _ | exact Kd.Q_nil _ _ _ _ _ | exact Kd.S_nil _ _ _ _ _, (zb0 HB)⟩
   ·
    replace c7 := Bool.eq_false_iff.mpr c7
    subst c7
    have H1 : (some (([] : List (S62)), false)) = some (r1, r2) := by rw [if_neg (show ¬ (false = true) by decide)] at H; exact H
    clear H
    have H := H1
    clear H1
    simp only [Option.some.injEq, Prod.mk.injEq] at H
    obtain ⟨rfl, rfl⟩ := H
    go_enter Tryz.func7, Tryz.ntmps7
    go_wp2_with (first | ((with_reducible refine gate_callee (f := 38) rfl ?_); refine qg 7 Tryz.func38 #[.slice A0 l0.length c0] ?_; (with_reducible refine (spec_poGood.calls k _ _ l0 true _ ?side1 ?side2 A3.out).mono ?_); (case side1 => repeat (first | exact HR0.out | (with_reducible refine Kd.C_alloc ?_ _) | (with_reducible refine Kd.C_drewN ?_ _) | (with_reducible refine Kd.C_drew ?_))); (case side2 => exact HC0.out); rintro e w20 ⟨rfl, hb⟩; refine ⟨_, rfl, ?_⟩; replace HB := qa (below_step (zb0 HB) hb); (try clear hb); (try clear hb2); (try clear hk); (try clear hi)) | (go_at_call 39; (with_reducible refine (spec_l1All.calls k _ _ l1 0 2 false _ ?side1 ?side2 A6.out).mono ?_); (case side1 => repeat (first | exact (Kd.C_below HR1.out HB.out) | (with_reducible refine Kd.C_alloc ?_ _) | (with_reducible refine Kd.C_drewN ?_ _) | (with_reducible refine Kd.C_drew ?_))); (case side2 => exact HC1.out); rintro e w' ⟨rfl, ⟨nd, rfl⟩⟩))
    go_ret2
    exact ⟨_, by first | rfl | (simp [errW_none, errW_some] <;> rfl) | (simp [*, errW_none, errW_some] <;> rfl), by first | exact Kd.R_nil _ _ _ _ _ | exact Kd.N_nil _ _ _ _ _ | exact Kd.V_nil _ _ _ _ _ | exact Kd.Q_nil _ _ _ _ _ | exact Kd.S_nil _ _ _ _ _, (zb0 HB)⟩
  ·
   rw [if_neg c5] at H
   have c5b0 : ((l1.length : Int) == 3) = false := beq_eq_false_iff_ne.mpr c5
   have c5b1 : ((l1.length : Int) != 3) = true := bne_iff_ne.mpr c5
   simp only [Option.some.injEq, Prod.mk.injEq] at H
   obtain ⟨rfl, rfl⟩ := H
   go_enter Tryz.func7, Tryz.ntmps7
   go_wp2_with (first | ((with_reducible refine gate_callee (f := 38) rfl ?_); refine qg 7 Tryz.func38 #[.slice A0 l0.length c0] ?_; (with_reducible refine (spec_poGood.calls k _ _ l0 true _ ?side1 ?side2 A3.out).mono ?_); (case side1 => repeat (first | exact HR0.out | (with_reducible refine Kd.C_alloc ?_ _) | (with_reducible refine Kd.C_drewN ?_ _) | (with_reducible refine Kd.C_drew ?_))); (case side2 => exact HC0.out); rintro e w21 ⟨rfl, hb⟩; refine ⟨_, rfl, ?_⟩; replace HB := qa (below_step (zb0 HB) hb); (try clear hb); (try clear hb2); (try clear hk); (try clear hi)))
   go_ret2
   exact ⟨_, by first | rfl | (simp [errW_none, errW_some] <;> rfl) | (simp [*, errW_none, errW_some] <;> rfl), by first | exact Kd.R_nil _ _ _ _ _ | exact Kd.N_nil _ _ _ _ _ | exact Kd.V_nil _ _ _ _ _ | exact Kd.Q_nil _ _ _ _ _ | exact Kd.S_nil _ _ _ _ _, (zb0 HB)⟩
 ·
  replace c4 := Bool.eq_false_iff.mpr c4
  subst c4
  have H1 : (some (([] : List (S62)), false)) = some (r1, r2) := by rw [if_neg (show ¬ (false = true) by decide)] at H; exact H
  clear H
  have H := H1
  clear H1
  simp only [Option.some.injEq, Prod.mk.injEq] at H
  obtain ⟨rfl, rfl⟩ := H
  go_enter Tryz.func7, Tryz.ntmps7
  go_wp2_with (first | ((with_reducible refine gate_callee (f := 38) rfl ?_); refine qg 7 Tryz.func38 #[.slice A0 l0.length c0] ?_; (with_reducible refine (spec_poGood.calls k _ _ l0 false _ ?side1 ?side2 A3.out).mono ?_); (case side1 => repeat (first | exact HR0.out | (with_reducible refine Kd.C_alloc ?_ _) | (with_reducible refine Kd.C_drewN ?_ _) | (with_reducible refine Kd.C_drew ?_))); (case side2 => exact HC0.out); rintro e w22 ⟨rfl, hb⟩; refine ⟨_, rfl, ?_⟩; replace HB := qa (below_step (zb0 HB) hb); (try clear hb); (try clear hb2); (try clear hk); (try clear hi)))
  go_ret2
  exact ⟨_, by first | rfl | (simp [errW_none, errW_some] <;> rfl) | (simp [*, errW_none, errW_some] <;> rfl), by first | exact Kd.R_nil _ _ _ _ _ | exact Kd.N_nil _ _ _ _ _ | exact Kd.V_nil _ _ _ _ _ | exact Kd.Q_nil _ _ _ _ _ | exact Kd.S_nil _ _ _ _ _, (zb0 HB)⟩
/-! ### impl_DegreeOf: function 9 -/
set_option maxHeartbeats 8000000 in
set_option maxRecDepth 100000 in
theorem impl_DegreeOf.calls (k : Nat) (A0 : Option Addr) (c0 : Nat) (l0 : List (S62)) (r1 : Int) (r2 : Bool) (w : World) (hr0 : Kd.C k62 w A0 l0.length l0) (hc0 : l0.length ≤ c0) (h : impl_DegreeOf.f k l0 = some (r1, r2)) :
  Calls Tryz.prog 9 #[.slice A0 l0.length c0] w fun e w' => e = .returned (.tuple #[.int .i64 r1, .bool r2]) ∧ Below w.heap.size w w' := by
 have HR0 := qa hr0
 have HC0 := qa hc0
 clear hr0 hc0
 have HB := qa (Below.refl w.heap.size w)
 have H : ((impl_isPoly.f k l0).bind fun t485 => (if t485 = true then ((impl_degreeOf.f k l0).bind fun t486 => (some (t486, true))) else (some (0, false)))) = some (r1, r2) := h
 clear h
 replace H := qo H
 obtain ⟨t485, A2, H⟩ := H
 replace H : (if t485 = true then ((impl_degreeOf.f k l0).bind fun t486 => (some (t486, true))) else (some (0, false))) = some (r1, r2) := H
 by_cases c3 : t485 = true
 ·
  subst c3
  have H1 : ((impl_degreeOf.f k l0).bind fun t486 => (some (t486, true))) = some (r1, r2) := by rw [if_pos rfl] at H; exact H
  clear H
  have H := H1
  clear H1
  replace H := qo H
  obtain ⟨t486, A4, H⟩ := H
  replace H : (some (t486, true)) = some (r1, r2) := H
  simp only [Option.some.injEq, Prod.mk.injEq] at H
  obtain ⟨rfl, rfl⟩ := H
  go_enter Tryz.func9, Tryz.ntmps9
  go_wp2_with (first | ((with_reducible refine gate_callee (f := 30) rfl ?_); refine qg 5 Tryz.func30 #[.slice A0 l0.length c0] ?_; (with_reducible refine (impl_isPoly.calls k _ _ l0 true _ ?side1 ?side2 A2.out).mono ?_); (case side1 => repeat (first | exact HR0.out | (with_reducible refine Kd.C_alloc ?_ _) | (with_reducible refine Kd.C_drewN ?_ _) | (with_reducible refine Kd.C_drew ?_))); (case side2 => exact HC0.out); rintro e w5 ⟨rfl, hb⟩; refine ⟨_, rfl, ?_⟩; replace HB := qa (below_step (zb0 HB) hb); (try clear hb); (try clear hb2); (try clear hk); (try clear hi)) | ((with_reducible refine gate_callee (f := 42) rfl ?_); refine qg 8 Tryz.func42 #[.slice A0 l0.length c0] ?_; (with_reducible refine (impl_degreeOf.calls k _ _ l0 t486 _ ?side1 ?side2 A4.out).mono ?_); (case side1 => repeat (first | exact (Kd.C_below HR0.out HB.out) | (with_reducible refine Kd.C_alloc ?_ _) | (with_reducible refine Kd.C_drewN ?_ _) | (with_reducible refine Kd.C_drew ?_))); (case side2 => exact HC0.out); rintro e w6 ⟨rfl, hb⟩; refine ⟨_, rfl, ?_⟩; replace HB := qa (below_step (zb0 HB) hb); (try clear hb); (try clear hb2); (try clear hk); (try clear hi)))
  go_ret2
  exact ⟨by first | rfl | (simp [errW_none, errW_some] <;> rfl) | (simp [*, errW_none, errW_some] <;> rfl), (zb0 HB)⟩
 ·
  replace c3 := Bool.eq_false_iff.mpr c3
  subst c3
  have H1 : (some (0, false)) = some (r1, r2) := by rw [if_neg (show ¬ (false = true) by decide)] at H; exact H
  clear H
  have H := H1
  clear H1
  simp only [Option.some.injEq, Prod.mk.injEq] at H
  obtain ⟨rfl, rfl⟩ := H
  go_enter Tryz.func9, Tryz.ntmps9
  go_wp2_with (first | ((with_reducible refine gate_callee (f := 30) rfl ?_); refine qg 5 Tryz.func30 #[.slice A0 l0.length c0] ?_; (with_reducible refine (impl_isPoly.calls k _ _ l0 false _ ?side1 ?side2 A2.out).mono ?_); (case side1 => repeat (first | exact HR0.out | (with_reducible refine Kd.C_alloc ?_ _) | (with_reducible refine Kd.C_drewN ?_ _) | (with_reducible refine Kd.C_drew ?_))); (case side2 => exact HC0.out); rintro e w7 ⟨rfl, hb⟩; refine ⟨_, rfl, ?_⟩; replace HB := qa (below_step (zb0 HB) hb); (try clear hb); (try clear hb2); (try clear hk); (try clear hi)))
  go_ret2
  exact ⟨by first | rfl | (simp [errW_none, errW_some] <;> rfl) | (simp [*, errW_none, errW_some] <;> rfl), (zb0 HB)⟩
/-! ### spec_DegreeOf: function 10 -/
set_option maxHeartbeats 8000000 in
set_option maxRecDepth 100000 in
theorem spec_DegreeOf.calls (k : Nat) (A0 : Option Addr) (c0 : Nat) (l0 : List (S62)) (r1 : Int) (r2 : Bool) (w : World) (hr0 : Kd.C k62 w A0 l0.length l0) (hc0 : l0.length ≤ c0) (h : spec_DegreeOf.f k l0 = some (r1, r2)) :
  Calls Tryz.prog 10 #[.slice A0 l0.length c0] w fun e w' => e = .returned (.tuple #[.int .i64 r1, .bool r2]) ∧ Below w.heap.size w w' := by
 have HR0 := qa hr0
 have HC0 := qa hc0
 clear hr0 hc0
 have HB := qa (Below.refl w.heap.size w)
 have H : ((spec_poGood.f k l0).bind fun t490 => (if t490 = true then ((spec_poDegree.f k l0).bind fun t491 => (some (t491, true))) else (some (0, false)))) = some (r1, r2) := h
 clear h
 replace H := qo H
 obtain ⟨t490, A2, H⟩ := H
 replace H : (if t490 = true then ((spec_poDegree.f k l0).bind fun t491 => (some (t491, true))) else (some (0, false))) = some (r1, r2) := H
 by_cases c3 : t490 = true
 ·
  subst c3
  have H1 : ((spec_poDegree.f k l0).bind fun t491 => (some (t491, true))) = some (r1, r2) := by rw [if_pos rfl] at H; exact H
  clear H
  have H := H1
  clear H1
  replace H := qo H
  obtain ⟨t491, A4, H⟩ := H
  replace H : (some (t491, true)) = some (r1, r2) := H
  simp only [Option.some.injEq, Prod.mk.injEq] at H
  obtain ⟨rfl, rfl⟩ := H
  go_enter Tryz.func10, Tryz.ntmps10
  go_wp2_with (first | ((with_reducible refine gate_callee (f := 38) rfl ?_); refine qg 5 Tryz.func38 #[.slice A0 l0.length c0] ?_; (with_reducible refine (spec_poGood.calls k _ _ l0 true _ ?side1 ?side2 A2.out).mono ?_); (case side1 => repeat (first | exact HR0.out | (with_reducible refine Kd.C_alloc ?_ _) | (with_reducible refine Kd.C_drewN ?_ _) | (with_reducible refine Kd.C_drew ?_))); (case side2 => exact HC0.out); rintro e w5 ⟨rfl, hb⟩; refine ⟨_, rfl, ?_⟩; replace HB := qa (below_step (zb0 HB) hb); (try clear hb); (try clear hb2); (try clear hk); (try clear hi)) | ((with_reducible refine gate_callee (f := 43) rfl ?_); refine qg 8 Tryz.func43 #[.slice A0 l0.length c0] ?_; (with_reducible refine (spec_poDegree.calls k _ _ l0 t491 _ ?side1 ?side2 A4.out).mono ?_); (case side1 => repeat (first | exact (Kd.C_below HR0.out HB.out) | (with_reducible refine Kd.C_alloc ?_ _) | (with_reducible refine Kd.C_drewN ?_ _) | (with_reducible refine Kd.C_drew ?_))); (case side2 => exact HC0.out); rintro e w6 ⟨rfl, hb⟩; refine ⟨_, rfl, ?_⟩; replace HB := qa (below_step (zb0 HB) hb); (try clear hb); (try clear hb2); (try clear hk); (try clear hi)))
  go_ret2
  exact ⟨by first | rfl | (simp [errW_none, errW_some] <;> rfl) | (simp [*, errW_none, errW_some] <;> rfl), (zb0 HB)⟩
 ·
  replace c3 := Bool.eq_false_iff.mpr c3
  subst c3
  have H1 : (some (0, false)) = some (r1, r2) := by rw [if_neg (show ¬ (false = true) by decide)] at H; exact H
  clear H
  have H := H1
  clear H1
  simp only [Option.some.injEq, Prod.mk.injEq] at H
  obtain ⟨rfl, rfl⟩ := H
  go_enter Tryz.func10, Tryz.ntmps10
  go_wp2_with (first | ((with_reducible refine gate_callee (f := 38) rfl ?_); refine qg 5 Tryz.func38 #[.slice A0 l0.length c0] ?_; (with_reducible refine (spec_poGood.calls k _ _ l0 false _ ?side1 ?side2 A2.out).mono ?_); (case side1 => repeat (first | exact HR0.out | (with_reducible refine Kd.C_alloc ?_ _) | (with_reducible refine Kd.C_drewN ?_ _) | (with_reducible refine Kd.C_drew ?_))); (case side2 => exact HC0.out); rintro e w7 ⟨rfl, hb⟩; refine ⟨_, rfl, ?_⟩; replace HB := qa (below_step (zb0 HB) hb); (try clear hb); (try clear hb2); (try clear hk); (try clear hi)))
  go_ret2
  exact ⟨by first | rfl | (simp [errW_none, errW_some] <;> rfl) | (simp [*, errW_none, errW_some] <;> rfl), (zb0 HB)⟩
/-! ### spec_DrawPutInteger: function 11 -/
theorem z11_0 {P Q : Prop} (h : Aside0 (Q)) (f : Q → P := by intro h_; repeat (first | (with_reducible first | exact h_ | apply IsS51.alloc | apply IsS51.drewN | apply IsS51.drew | apply IsS51.set_1 | apply IsS51.set_2) | exact h_)) : P := f h.out
theorem z11_1 {w W0 W1 : World} {B : Nat} (h : Aside0 (Below B w W0)) (f : Below B w W0 → Below B w W1 := by intro h_; repeat (first | (with_reducible first | exact h_ | apply below_alloc | apply pw_below_drewN | apply below_drew1 | refine below_set ?_ (IsS51.ge (Aside0.out (by assumption)))) | exact h_)) : Below B w W1 := f h.out
set_option maxHeartbeats 8000000 in
set_option maxRecDepth 100000 in
theorem spec_DrawPutInteger.calls (k : Nat) (A0 : Option Addr) (c0 : Nat) (l0 : List Int) (r1 : List (S62)) (r2 : Int) (r3 : Int) (w : World) (hr0 : Kd.C (Kd.int .u8) w A0 l0.length l0) (hc0 : l0.length ≤ c0) (h : spec_DrawPutInteger.f k l0 = some (r1, r2, r3)) :
  Calls Tryz.prog 11 #[.slice A0 l0.length c0] w fun e w' => ∃ v0_ : Value, e = .returned (.tuple #[v0_, .int .i64 r2, .int .i64 r3]) ∧ Kd.R k62 62 w' w.heap.size (fun _ => True) v0_ r1 ∧ Below w.heap.size w w' := by
 have hu51 := Tryz.underlying51
 have HR0 := qa hr0
 have HC0 := qa hc0
 clear hr0 hc0
 have HB := qa (Below.refl w.heap.size w)
 have H : ((spec_l1Cur_pick.f l0 0 0 3).bind fun bt505 => ((spec_l1Cur_anyPoly.f k l0 bt505.2.1 bt505.2.2 (wrap64 (1 + bt505.1))).bind fun bt508 => ((spec_l1Cur_unknownOf.f l0 bt508.2.1 bt508.2.2).bind fun bt513 => ((spec_l1Cur_among.f l0 bt513.2.1 bt513.2.2 (([101, (-101)] : List Int))).bind fun bt519 => ((spec_l1Cur_among.f l0 bt519.2.1 bt519.2.2 (([0, 1, (-1), 2, 3, (-5), 100, (-100), bt519.1] : List Int))).bind fun bt525 => (some (bt508.1, bt513.1, bt525.1))))))) = some (r1, r2, r3) := h
 clear h
 replace H := qo H
 obtain ⟨⟨t505, t506, t507⟩, A2, H⟩ := H
 replace H : ((spec_l1Cur_anyPoly.f k l0 t506 t507 (wrap64 (1 + t505))).bind fun bt508 => ((spec_l1Cur_unknownOf.f l0 bt508.2.1 bt508.2.2).bind fun bt513 => ((spec_l1Cur_among.f l0 bt513.2.1 bt513.2.2 (([101, (-101)] : List Int))).bind fun bt519 => ((spec_l1Cur_among.f l0 bt519.2.1 bt519.2.2 (([0, 1, (-1), 2, 3, (-5), 100, (-100), bt519.1] : List Int))).bind fun bt525 => (some (bt508.1, bt513.1, bt525.1)))))) = some (r1, r2, r3) := H
 replace H := qo H
 obtain ⟨⟨t508, t511, t512⟩, A3, H⟩ := H
 replace H : ((spec_l1Cur_unknownOf.f l0 t511 t512).bind fun bt513 => ((spec_l1Cur_among.f l0 bt513.2.1 bt513.2.2 (([101, (-101)] : List Int))).bind fun bt519 => ((spec_l1Cur_among.f l0 bt519.2.1 bt519.2.2 (([0, 1, (-1), 2, 3, (-5), 100, (-100), bt519.1] : List Int))).bind fun bt525 => (some (t508, bt513.1, bt525.1))))) = some (r1, r2, r3) := H
 replace H := qo H
 obtain ⟨⟨t513, t514, t515⟩, A4, H⟩ := H
 replace H : ((spec_l1Cur_among.f l0 t514 t515 (([101, (-101)] : List Int))).bind fun bt519 => ((spec_l1Cur_among.f l0 bt519.2.1 bt519.2.2 (([0, 1, (-1), 2, 3, (-5), 100, (-100), bt519.1] : List Int))).bind fun bt525 => (some (t508, t513, bt525.1)))) = some (r1, r2, r3) := H
 obtain ⟨y516, hy516⟩ : ∃ y_ : List Int, y_ = (([101, (-101)] : List Int)) := ⟨_, rfl⟩
 replace H : ((spec_l1Cur_among.f l0 t514 t515 y516).bind fun bt519 => ((spec_l1Cur_among.f l0 bt519.2.1 bt519.2.2 (([0, 1, (-1), 2, 3, (-5), 100, (-100), bt519.1] : List Int))).bind fun bt525 => (some (t508, t513, bt525.1)))) = some (r1, r2, r3) := by first | (rw [hy516]; with_reducible exact H) | (have H2_ := (Option.bind_some _ _).symm.trans H; rw [hy516]; with_reducible exact H2_) | (have H2_ := (Option.bind_some _ _).symm.trans H; with_reducible exact H2_) | with_reducible exact H | (rw [hy516]; exact H) | exact H
 have Ny516 := qa hy516
 clear hy516
 replace H := qo H
 obtain ⟨⟨t519, t520, t521⟩, A5, H⟩ := H
 replace H : ((spec_l1Cur_among.f l0 t520 t521 (([0, 1, (-1), 2, 3, (-5), 100, (-100), t519] : List Int))).bind fun bt525 => (some (t508, t513, bt525.1))) = some (r1, r2, r3) := H
 obtain ⟨y522, hy522⟩ : ∃ y_ : List Int, y_ = (([0, 1, (-1), 2, 3, (-5), 100, (-100), t519] : List Int)) := ⟨_, rfl⟩
 replace H : ((spec_l1Cur_among.f l0 t520 t521 y522).bind fun bt525 => (some (t508, t513, bt525.1))) = some (r1, r2, r3) := by first | (rw [hy522]; with_reducible exact H) | (have H2_ := (Option.bind_some _ _).symm.trans H; rw [hy522]; with_reducible exact H2_) | (have H2_ := (Option.bind_some _ _).symm.trans H; with_reducible exact H2_) | with_reducible exact H | (rw [hy522]; exact H) | exact H
 have Ny522 := qa hy522
 clear hy522
 replace H := qo H
 obtain ⟨⟨t525, t526, t527⟩, A6, H⟩ := H
 replace H : (some (t508, t513, t525)) = some (r1, r2, r3) := H
 simp only [Option.some.injEq, Prod.mk.injEq] at H
 obtain ⟨rfl, rfl, rfl⟩ := H
 go_enter Tryz.func11, Tryz.ntmps11
 go_wp2_with (first | ((with_reducible refine gate_dst (N := 9) rfl ?_); refine zbe (N := 9) (cs := #[.slice A0 l0.length c0, .int .i64 0, .int .u64 0]) (t := 51) ?_; intro gb504 hg w7 hbox hb; have BK504 := qa (hbox); have GW504 := qa (zge (zb0 HB) hg); have GE504 := GW504; replace HB := qa (below_step (zb0 HB) hb); clear hb hbox hg; have HI504 : Aside0 (IsS51 w w7 gb504 l0 0 0) := ⟨⟨A0, c0, (zq1 BK504), GE504.out, HR0.out⟩⟩) | ((with_reducible refine gate_callee (f := 27) rfl ?_); refine qg 12 Tryz.func27 #[.pointer (some ⟨gb504, 0, none⟩), .int .i64 3] ?_; (with_reducible refine (spec_l1Cur_pick.calls gb504 l0 0 0 3 t505 t506 t507 w _ ?side1 ?side2 A2.out).mono ?_); (case side1 => exact z11_0 HI504); (case side2 => exact z11_1 HB); rintro e w8 ⟨rfl, hi, hb, hk⟩; refine ⟨_, rfl, ?_⟩; replace HB := qa (hb); replace HI504 := qa (hi); (try clear hb); (try clear hb2); (try clear hk); (try clear hi)) | ((with_reducible refine gate_callee (f := 26) rfl ?_); refine qg 14 Tryz.func26 #[.pointer (some ⟨gb504, 0, none⟩), .int .i64 (wrap64 (1 + t505))] ?_; (with_reducible refine (spec_l1Cur_anyPoly.calls k gb504 l0 t506 t507 (wrap64 (1 + t505)) t508 t511 t512 w _ ?side1 ?side2 A3.out).mono ?_); (case side1 => exact z11_0 HI504); (case side2 => exact z11_1 HB); rintro e w9 ⟨v509, rfl, ho0, hi, hb, hk⟩; refine ⟨_, rfl, ?_⟩; have HO510 := qa (Kd.R_lower ho0 (below_size (z11_1 HB))); replace HB := qa (hb); replace HI504 := qa (hi); (try clear hb); (try clear hb2); (try clear hk); (try clear hi); (try clear ho0)) | ((with_reducible refine gate_callee (f := 44) rfl ?_); refine qg 17 Tryz.func44 #[.pointer (some ⟨gb504, 0, none⟩)] ?_; (with_reducible refine (spec_l1Cur_unknownOf.calls gb504 l0 t511 t512 t513 t514 t515 w _ ?side1 ?side2 A4.out).mono ?_); (case side1 => exact z11_0 HI504); (case side2 => exact z11_1 HB); rintro e w10 ⟨rfl, hi, hb, hk⟩; refine ⟨_, rfl, ?_⟩; replace HO510 := qa (Kd.R_mono (Kd.R_keep (IsS51.apart (show IsS51 w _ gb504 l0 t511 t512 from (z11_0 HI504)) (zq3 HO510) (by decide)) hk (fun _ h => h.2)) (fun _ h => h.1)); replace HB := qa (hb); replace HI504 := qa (hi); (try clear hb); (try clear hb2); (try clear hk); (try clear hi)) | ((with_reducible refine gate_dst (N := 20) rfl ?_); refine Kd.R_lit (Kd.int .i64) _ 3 ?hg (N := 20) ?hd (xs := ([101, (-101)] : List Int)) (inner := [.int .i64 101, .int .i64 (-101)]) (ok := fun _ => True) (okp := fun _ => True) ?hr ?hp (fun _ hk => hk) trivial (Below.refl _ _) (Nat.le_refl _) (by simp) ?_; (case hd => rfl); (case hg => rfl); (case hr => first | (go_simp; done) | (go_simp; rfl)); (case hp => exact (Reps.one (show Kd.M (Kd.int .i64) _ _ _ 101 [.int .i64 101] from rfl) (Reps.one (show Kd.M (Kd.int .i64) _ _ _ (-101) [.int .i64 (-101)] from rfl) (Reps.none _ _)))); intro v517 w11 ho12 hb hg_ hnew_; clear hg_ hnew_; (first | rw [← Ny516.out] at ho12 | (simp only [Int.reduceToNat] at ho12; rw [← Ny516.out] at ho12)); have HO518 := qa (Kd.R_lower ho12 (below_size (z11_1 HB))); replace HO510 := qa (Kd.R_below (zq3 HO510) hb); replace HI504 := qa (IsS51.below (z11_0 HI504) hb); replace HB := qa (below_step (z11_1 HB) hb); clear hb ho12; obtain ⟨Ao13, co13, eo13⟩ := Kd.R_slice HO518.out; subst eo13) | ((with_reducible refine gate_callee (f := 45) rfl ?_); refine qg 21 Tryz.func45 #[.pointer (some ⟨gb504, 0, none⟩), .slice Ao13 y516.length co13] ?_; (with_reducible refine (spec_l1Cur_among.calls gb504 l0 t514 t515 _ _ y516 t519 t520 t521 w _ ?side1 ?side2 ?side3 ?side4 ?side5 A5.out).mono ?_); (case side1 => exact z11_0 HI504); (case side2 => exact z11_1 HB); (case side3 => repeat (first | exact (Kd.R_reads' HO518.out).2.2 | (with_reducible refine Kd.C_alloc ?_ _) | (with_reducible refine Kd.C_drewN ?_ _) | (with_reducible refine Kd.C_drew ?_))); (case side4 => exact (Kd.R_reads' HO518.out).2.1); (case side5 => exact far_slice (IsS51.own_ne HI504.out HO518.out (by decide))); rintro e w14 ⟨rfl, hi, hb, hk⟩; refine ⟨_, rfl, ?_⟩; replace HO510 := qa (Kd.R_mono (Kd.R_keep (IsS51.apart (show IsS51 w _ gb504 l0 t514 t515 from (z11_0 HI504)) (zq3 HO510) (by decide)) hk (fun _ h => h.2)) (fun _ h => h.1)); replace HO518 := qa (Kd.R_mono (Kd.R_keep (IsS51.apart (show IsS51 w _ gb504 l0 t514 t515 from (z11_0 HI504)) (zq3 HO518) (by decide)) hk (fun _ h => h.2)) (fun _ h => h.1)); replace HB := qa (hb); replace HI504 := qa (hi); (try clear hb); (try clear hb2); (try clear hk); (try clear hi)) | ((with_reducible refine gate_dst (N := 22) rfl ?_); refine Kd.R_lit (Kd.int .i64) _ 3 ?hg (N := 22) ?hd (xs := ([0, 1, (-1), 2, 3, (-5), 100, (-100), t519] : List Int)) (inner := [.int .i64 0, .int .i64 1, .int .i64 (-1), .int .i64 2, .int .i64 3, .int .i64 (-5), .int .i64 100, .int .i64 (-100), .int .i64 t519]) (ok := fun _ => True) (okp := fun _ => True) ?hr ?hp (fun _ hk => hk) trivial (Below.refl _ _) (Nat.le_refl _) (by simp) ?_; (case hd => rfl); (case hg => rfl); (case hr => first | (go_simp; done) | (go_simp; rfl)); (case hp => exact (Reps.one (show Kd.M (Kd.int .i64) _ _ _ 0 [.int .i64 0] from rfl) (Reps.one (show Kd.M (Kd.int .i64) _ _ _ 1 [.int .i64 1] from rfl) (Reps.one (show Kd.M (Kd.int .i64) _ _ _ (-1) [.int .i64 (-1)] from rfl) (Reps.one (show Kd.M (Kd.int .i64) _ _ _ 2 [.int .i64 2] from rfl) (Reps.one (show Kd.M (Kd.int .i64) _ _ _ 3 [.int .i64 3] from rfl) (Reps.one (show Kd.M (Kd.int .i64) _ _ _ (-5) [.int .i64 (-5)] from rfl) (Reps.one (show Kd.M (Kd.int .i64) _ _ _ 100 [.int .i64 100] from rfl) (Reps.one (show Kd.M (Kd.int .i64) _ _ _ (-100) [.int .i64 (-100)] from rfl) (Reps.one (show Kd.M (Kd.int .i64) _ _ _ t519 [.int .i64 t519] from rfl) (Reps.none _ _))))))))))); intro v523 w15 ho16 hb hg_ hnew_; clear hg_ hnew_; (first | rw [← Ny522.out] at ho16 | (simp only [Int.reduceToNat] at ho16; rw [← Ny522.out] at ho16)); have HO524 := qa (Kd.R_lower (Kd.R_new' ho16 (Kd.R_lt (zq3 HO518))) (below_size (z11_1 HB))); replace HO510 := qa (Kd.R_below (zq3 HO510) hb); replace HO518 := qa (Kd.R_elder' (zq3 HO518) (Kd.R_base ho16) hb); replace HI504 := qa (IsS51.below (z11_0 HI504) hb); replace HB := qa (below_step (z11_1 HB) hb); clear hb ho16; obtain ⟨Ao17, co17, eo17⟩ := Kd.R_slice HO524.out; subst eo17) | ((with_reducible refine gate_callee (f := 45) rfl ?_); refine qg 23 Tryz.func45 #[.pointer (some ⟨gb504, 0, none⟩), .slice Ao17 y522.length co17] ?_; (with_reducible refine (spec_l1Cur_among.calls gb504 l0 t520 t521 _ _ y522 t525 t526 t527 w _ ?side1 ?side2 ?side3 ?side4 ?side5 A6.out).mono ?_); (case side1 => exact z11_0 HI504); (case side2 => exact z11_1 HB); (case side3 => repeat (first | exact (Kd.R_reads' HO524.out).2.2 | (with_reducible refine Kd.C_alloc ?_ _) | (with_reducible refine Kd.C_drewN ?_ _) | (with_reducible refine Kd.C_drew ?_))); (case side4 => exact (Kd.R_reads' HO524.out).2.1); (case side5 => exact far_slice (IsS51.own_ne HI504.out HO524.out (by decide))); rintro e w18 ⟨rfl, hi, hb, hk⟩; refine ⟨_, rfl, ?_⟩; replace HO510 := qa (Kd.R_mono (Kd.R_keep (IsS51.apart (show IsS51 w _ gb504 l0 t520 t521 from (z11_0 HI504)) (zq3 HO510) (by decide)) hk (fun _ h => h.2)) (fun _ h => h.1)); replace HO518 := qa (Kd.R_mono (Kd.R_keep (IsS51.apart (show IsS51 w _ gb504 l0 t520 t521 from (z11_0 HI504)) (zq3 HO518) (by decide)) hk (fun _ h => h.2)) (fun _ h => h.1)); replace HO524 := qa (Kd.R_mono (Kd.R_keep (IsS51.apart (show IsS51 w _ gb504 l0 t520 t521 from (z11_0 HI504)) (zq3 HO524) (by decide)) hk (fun _ h => h.2)) (fun _ h => h.1)); replace HB := qa (hb); replace HI504 := qa (hi); (try clear hb); (try clear hb2); (try clear hk); (try clear hi)))
 go_ret3
 exact ⟨_, by first | rfl | (simp [errW_none, errW_some] <;> rfl) | (simp [*, errW_none, errW_some] <;> rfl), by (with_reducible repeat (first | apply Kd.R_alloc | apply Kd.R_drewN | apply Kd.R_drew)); exact HO510.out, (z11_1 HB)⟩
/-! ### impl_PutInteger: function 12 -/
-- PROOF
set_option maxHeartbeats 8000000 in
set_option maxRecDepth 100000 in
theorem impl_PutInteger.exps (c x y z : Int) (w : World) : Calls Tryz.prog 34 #[.agg #[.int .i64 c, .int .i64 x, .int .i64 y, .int .i64 z]] w fun e w' => e = .returned (.agg #[.int .i64 x, .int .i64 y, .int .i64 z]) ∧ Below w.heap.size w w' := by
  have hu62 := Tryz.underlying62
  have HB := qa (Below.refl w.heap.size w)
  go_enter Tryz.func34, Tryz.ntmps34
  go_wp2_with (first | ((with_reducible refine gate_dst (N := 1) rfl ?_); refine zbe (N := 1) (cs := #[.int .i64 c, .int .i64 x, .int .i64 y, .int .i64 z]) (t := 62) ?_; intro gb1 hg w1 hbox hb; have BK1 := qa hbox; have GW1 := qa (zge (zb0 HB) hg); replace HB := qa (below_step (zb0 HB) hb); clear hb hbox hg) | ((with_reducible refine gate_dst (N := 2) rfl ?_); refine zbe (N := 2) (cs := #[.int .i64 0, .int .i64 0, .int .i64 0]) (t := 63) ?_; intro gb2 hg w2 hbox hb; have BK2 := qa hbox; have GW2 := qa (zge (zb0 HB) hg); replace BK1 := qa (zbb BK1 hb); replace HB := qa (below_step (zb0 HB) hb); clear hb hbox hg; have hc1 : w2.cell? ⟨gb1, 1, none⟩ = some (.int .i64 x) := zc BK1 1; have hc2 : w2.cell? ⟨gb1, 2, none⟩ = some (.int .i64 y) := zc BK1 2; have hc3 : w2.cell? ⟨gb1, 3, none⟩ = some (.int .i64 z) := zc BK1 3; have hd0 : w2.cell? ⟨gb2, 0, none⟩ = some (.int .i64 0) := zc BK2 0; have hd1 : w2.cell? ⟨gb2, 1, none⟩ = some (.int .i64 0) := zc BK2 1; have hd2 : w2.cell? ⟨gb2, 2, none⟩ = some (.int .i64 0) := zc BK2 2; have hf0 := blk_frozen BK2.out 0; have hf1 := blk_frozen BK2.out 1; have hf2 := blk_frozen BK2.out 2))
  refine bodyPost_ret (results_cell_row rfl _ _ gb2 63 #[.int .i64 x, .int .i64 y, .int .i64 z] (0, 0) _ rfl (qs BK2) Tryz.underlying63 rfl (by kernel_rfl)) rfl ?_
  exact ⟨qf, (zb1 HB)⟩
set_option maxHeartbeats 8000000 in
set_option maxRecDepth 100000 in
theorem impl_PutInteger.termOf (c x y z : Int) (w : World) : Calls Tryz.prog 35 #[.int .i64 c, .agg #[.int .i64 x, .int .i64 y, .int .i64 z]] w fun e w' => e = .returned (.agg #[.int .i64 c, .int .i64 x, .int .i64 y, .int .i64 z]) ∧ Below w.heap.size w w' := by
  have hu62 := Tryz.underlying62
  have hu63 := Tryz.underlying63
  have HB := qa (Below.refl w.heap.size w)
  go_enter Tryz.func35, Tryz.ntmps35
  go_wp2_with (first | ((with_reducible refine gate_dst (N := 3) rfl ?_); refine zbe (N := 3) (cs := #[.int .i64 x, .int .i64 y, .int .i64 z]) (t := 63) ?_; intro gb3 hg w3 hbox hb; have BK3 := qa hbox; have GW3 := qa (zge (zb1 HB) hg); replace HB := qa (below_step (zb1 HB) hb); clear hb hbox hg; skip) | ((with_reducible refine gate_dst (N := 4) rfl ?_); refine zbe (N := 4) (cs := #[.int .i64 0, .int .i64 0, .int .i64 0, .int .i64 0]) (t := 62) ?_; intro gb4 hg w4 hbox hb; have BK4 := qa hbox; have GW4 := qa (zge (zb1 HB) hg); replace BK3 := qa (zbb BK3 hb); replace HB := qa (below_step (zb1 HB) hb); clear hb hbox hg; obtain ⟨hcza_0, hcza_1, hcza_2⟩ := qc3 BK3; obtain ⟨hfza_0, hfza_1, hfza_2⟩ := qz3 BK3; obtain ⟨hczb_0, hczb_1, hczb_2, hczb_3⟩ := qc4 BK4; obtain ⟨hfzb_0, hfzb_1, hfzb_2, hfzb_3⟩ := qz4 BK4))
  refine bodyPost_ret (results_cell_row rfl _ _ gb4 62 #[.int .i64 c, .int .i64 x, .int .i64 y, .int .i64 z] (0, 0) _ rfl (qs BK4) Tryz.underlying62 rfl (by kernel_rfl)) rfl ?_
  exact ⟨qf, (zb1 HB)⟩
set_option maxHeartbeats 8000000 in
set_option maxRecDepth 100000 in
theorem impl_PutInteger.calls (k : Nat) (A0 : Option Addr) (c0 : Nat) (l0 : List (S62)) (a1 : Int) (a2 : Int) (r1 : List (S62)) (r2 : Bool) (w : World) (hr0 : Kd.C k62 w A0 l0.length l0) (hc0 : l0.length ≤ c0) (h : impl_PutInteger.f k l0 a1 a2 = some (r1, r2)) :
    Calls Tryz.prog 12 #[.slice A0 l0.length c0, .int .i64 a1, .int .i64 a2] w fun e w' => ∃ v0_ : Value, e = .returned (.tuple #[v0_, .bool r2]) ∧ Kd.R k62 62 w' w.heap.size (fun _ => True) v0_ r1 ∧ Below w.heap.size w w' := by
  have hu62 := Tryz.underlying62
  have hu63 := Tryz.underlying63
  have HR0 := qa hr0
  have HC0 := qa hc0
  have HB := qa (Below.refl w.heap.size w)
  clear hr0 hc0
  unfold impl_PutInteger.f at h
  obtain ⟨b1, hA0, h⟩ := Option.bind_eq_some_iff.mp h
  have hA := qa hA0
  clear hA0
  cases b1
  ·
    rw [if_neg Bool.false_ne_true] at h
    simp only [Option.some.injEq, Prod.mk.injEq] at h
    obtain ⟨rfl, rfl⟩ := h
    go_enter Tryz.func12, Tryz.ntmps12
    go_wp2_with (first | ((with_reducible refine gate_callee (f := 30) rfl ?_); refine qg 14 Tryz.func30 #[.slice A0 l0.length c0] ?_; refine (impl_isPoly.calls k _ _ l0 _ _ HR0.out HC0.out hA.out).mono ?_; rintro e w4 ⟨rfl, hb⟩; refine ⟨_, rfl, ?_⟩; replace HB := qa (below_step (zb0 HB) hb); clear hb))
    go_ret2
    exact ⟨_, by first | rfl | (simp; done) | (simp [*]; done), Kd.R_nil _ _ _ _ _, (zb1 HB)⟩
  · rw [if_pos rfl] at h
    obtain ⟨b2, hU0, h⟩ := Option.bind_eq_some_iff.mp h
    have hU := qa hU0
    clear hU0
    cases b2
    ·
      rw [if_neg Bool.false_ne_true] at h
      simp only [Option.some.injEq, Prod.mk.injEq] at h
      obtain ⟨rfl, rfl⟩ := h
      go_enter Tryz.func12, Tryz.ntmps12
      go_wp2_with (first | ((with_reducible refine gate_callee (f := 30) rfl ?_); refine qg 14 Tryz.func30 #[.slice A0 l0.length c0] ?_; refine (impl_isPoly.calls k _ _ l0 _ _ HR0.out HC0.out hA.out).mono ?_; rintro e w4 ⟨rfl, hb⟩; refine ⟨_, rfl, ?_⟩; replace HB := qa (below_step (zb0 HB) hb); clear hb) | (go_at_call 46; refine (impl_isUnknown.calls _ _ _ hU.out).mono ?_; rintro e w' ⟨rfl, ⟨nd, rfl⟩⟩))
      go_ret2
      exact ⟨_, by first | rfl | (simp; done) | (simp [*]; done), Kd.R_nil _ _ _ _ _, (zb1 HB)⟩
    · rw [if_pos rfl] at h
      obtain ⟨b3, hV0, h⟩ := Option.bind_eq_some_iff.mp h
      have hV := qa hV0
      clear hV0
      cases b3
      ·
        rw [if_neg Bool.false_ne_true] at h
        simp only [Option.some.injEq, Prod.mk.injEq] at h
        obtain ⟨rfl, rfl⟩ := h
        go_enter Tryz.func12, Tryz.ntmps12
        go_wp2_with (first | ((with_reducible refine gate_callee (f := 30) rfl ?_); refine qg 14 Tryz.func30 #[.slice A0 l0.length c0] ?_; refine (impl_isPoly.calls k _ _ l0 _ _ HR0.out HC0.out hA.out).mono ?_; rintro e w4 ⟨rfl, hb⟩; refine ⟨_, rfl, ?_⟩; replace HB := qa (below_step (zb0 HB) hb); clear hb) | (go_at_call 46; refine (impl_isUnknown.calls _ _ _ hU.out).mono ?_; rintro e w' ⟨rfl, ⟨nd, rfl⟩⟩) | (go_at_call 47; refine (impl_inside.calls _ _ _ _ _ hV.out).mono ?_; rintro e w' ⟨rfl, ⟨nd2, rfl⟩⟩))
        go_ret2
        exact ⟨_, by first | rfl | (simp; done) | (simp [*]; done), Kd.R_nil _ _ _ _ _, (zb1 HB)⟩
      · rw [if_pos rfl] at h
        by_cases q0 : 0 ≤ a1
        · rw [if_pos q0] at h
          by_cases q2 : a1 ≤ 2
          · rw [if_pos q2] at h
            obtain ⟨aa, haa⟩ : ∃ aa, aa = a1 := ⟨_, rfl⟩
            have hk : impl_PutInteger.l0 k l0 a1 a2 [] 0 = impl_PutInteger.l0 k l0 aa a2 [] 0 := by rw [haa]
            rw [hk] at h
            clear hk
            have H' := qa h
            clear h
            have hcase : a1 = 0 ∨ a1 = 1 ∨ a1 = 2 := by omega
            clear q0 q2
            rcases hcase with rfl | rfl | rfl
            · go_enter Tryz.func12, Tryz.ntmps12
              go_wp2_with (first | ((with_reducible refine gate_callee (f := 30) rfl ?_); refine qg 14 Tryz.func30 #[.slice A0 l0.length c0] ?_; refine (impl_isPoly.calls k _ _ l0 _ _ HR0.out HC0.out hA.out).mono ?_; rintro e w4 ⟨rfl, hb⟩; refine ⟨_, rfl, ?_⟩; replace HB := qa (below_step (zb0 HB) hb); clear hb) | (go_at_call 46; refine (impl_isUnknown.calls _ _ _ hU.out).mono ?_; rintro e w' ⟨rfl, ⟨nd, rfl⟩⟩) | (go_at_call 47; refine (impl_inside.calls _ _ _ _ _ hV.out).mono ?_; rintro e w' ⟨rfl, ⟨nd2, rfl⟩⟩))
              go_loopg [8, 28] k (fun kq v8 v28 w' => ∃ (x : List S62) (i : Int), v28 = .int .i64 i ∧ Aside0 (impl_PutInteger.l0 kq l0 aa a2 x i = some (r1, r2)) ∧ Aside0 (kq ≤ k) ∧ Aside0 (Kd.R k62 62 w' w.heap.size (fun _ => True) v8 x) ∧ Aside0 (Below w.heap.size w w'))
              case atStart => exact ⟨[], 0, qf, H', ⟨Nat.le_refl _⟩, ⟨Kd.R_nil _ _ _ _ _⟩, ⟨(zb0 HB)⟩⟩
              case round =>
                clear H' HB
                obtain ⟨x, i, rfl, HA, HK1, HO, HB⟩ := hrel
                cases gk with
                | zero => exact absurd HA.out (by simp [impl_PutInteger.l0])
                | succ k1 =>
                  have H := HA.out
                  clear HA
                  simp only [impl_PutInteger.l0] at H
                  by_cases c : i < (l0.length : Int)
                  · rw [if_pos c] at H
                    by_cases c' : 0 ≤ i
                    · rw [if_pos c'] at H
                      have he : impl_PutInteger.pw (rd_T62 l0 i) aa = (rd_T62 l0 i).f1 := by rw [haa]; simp [impl_PutInteger.pw]
                      rw [he] at H
                      clear he
                      have H' := qa H
                      clear H
                      have cb := decide_eq_true c
                      have cb' := decide_eq_true c'
                      obtain ⟨ad, ead, hx0, hx1, hx2, hx3⟩ := at_T62 HR0.out i c' c
                      subst ead
                      replace hx0 := qb HB hx0
                      replace hx1 := qb HB hx1
                      replace hx2 := qb HB hx2
                      replace hx3 := qb HB hx3
                      have p1 := eq_true c
                      have p2 := eq_true c'
                      clear c c'
                      have HC := qa (Below.refl wr.heap.size wr)
                      go_wp2_with (first | ((with_reducible refine gate_dst (N := 10) rfl ?_); refine zbe (N := 10) (cs := #[.int .i64 0, .int .i64 0, .int .i64 0, .int .i64 0]) (t := 62) ?_; intro gb10 hg w7 hbox hb; have BK10 := qa hbox; have GW10 := qa (zge (zb1 HC) hg); replace HC := qa (below_step (zb1 HC) hb); clear hb hbox hg; obtain ⟨hcza_0, hcza_1, hcza_2, hcza_3⟩ := qc4 BK10; obtain ⟨hfza_0, hfza_1, hfza_2, hfza_3⟩ := qz4 BK10) | ((with_reducible refine gate_callee (f := 34) rfl ?_); refine qg 33 Tryz.func34 #[.agg #[.int .i64 ((rd_T62 l0 i).f0), .int .i64 ((rd_T62 l0 i).f1), .int .i64 ((rd_T62 l0 i).f2), .int .i64 ((rd_T62 l0 i).f3)]] ?_; refine (impl_PutInteger.exps (rd_T62 l0 i).f0 (rd_T62 l0 i).f1 (rd_T62 l0 i).f2 (rd_T62 l0 i).f3 _).mono ?_; rintro e w9 ⟨rfl, hb⟩; refine ⟨_, rfl, ?_⟩; replace BK10 := qa (blk_below (g := gb10) (o := .cells #[.int .i64 ((rd_T62 l0 i).f0), .int .i64 ((rd_T62 l0 i).f1), .int .i64 ((rd_T62 l0 i).f2), .int .i64 ((rd_T62 l0 i).f3)] 62 (0, 0)) (qs BK10) hb); replace HC := qa (below_step (zb1 HC) hb); clear hb) | (go_at_call 34; refine (impl_PutInteger.exps (rd_T62 l0 i).f0 (rd_T62 l0 i).f1 (rd_T62 l0 i).f2 (rd_T62 l0 i).f3 _).mono ?_; rintro e w9 ⟨rfl, hb⟩; replace BK10 := qa (blk_below (g := gb10) (o := .cells #[.int .i64 ((rd_T62 l0 i).f0), .int .i64 ((rd_T62 l0 i).f1), .int .i64 ((rd_T62 l0 i).f2), .int .i64 ((rd_T62 l0 i).f3)] 62 (0, 0)) (qs BK10) hb); replace HC := qa (below_step (zb1 HC) hb); clear hb) | ((with_reducible refine gate_dst (N := 11) rfl ?_); refine zbe (N := 11) (cs := #[.int .i64 0, .int .i64 0, .int .i64 0]) (t := 63) ?_; intro gb11 hg w10 hbox hb; have BK11 := qa hbox; have GW11 := qa (zge (zb1 HC) hg); have NB87 := qa (by rw [hg]; exact Nat.ne_of_gt (blk_lt (zq1 BK10)) : gb11 ≠ gb10); have NB78 := qa (Ne.symm NB87.out); replace BK10 := qa (zbb BK10 hb); replace HC := qa (below_step (zb1 HC) hb); clear hb hbox hg; have hnb := NB87.out; have hnc := NB78.out; obtain ⟨hczc_0, hczc_1, hczc_2, hczc_3⟩ := qc4 BK10; obtain ⟨hfzc_0, hfzc_1, hfzc_2, hfzc_3⟩ := qz4 BK10; obtain ⟨hczd_0, hczd_1, hczd_2⟩ := qc3 BK11; obtain ⟨hfzd_0, hfzd_1, hfzd_2⟩ := qz3 BK11))
                      go_loopg [12, 39] k1 (fun kq v12 v39 w' => ∃ (c j : Int), v12 = .int .i64 c ∧ v39 = .int .i64 j ∧ Aside0 (impl_PutInteger.l1 kq l0 aa a2 x i c (rd_T62 l0 i).f1 j = some (r1, r2)) ∧ Aside0 (kq ≤ k1) ∧ Aside0 (w'.heap[gb11]? = some (.cells #[.int .i64 ((rd_T62 l0 i).f1), .int .i64 ((rd_T62 l0 i).f2), .int .i64 ((rd_T62 l0 i).f3)] 63 (0, 0))) ∧ Aside0 (Below wr.heap.size wr w'))
                      case atStart => exact ⟨_, 0, qf, qf, H', ⟨Nat.le_refl _⟩, ⟨qs BK11⟩, ⟨(zb1 HC)⟩⟩
                      case round =>
                        clear H' HC BK10 BK11 hx0 hx1 hx2 hx3 cb cb' p1 p2
                        (try clear hnb hnc)
                        obtain ⟨c, j, rfl, rfl, HA, HK2, BK11, HC⟩ := hrel
                        cases gk with
                        | zero => exact absurd HA.out (by simp [impl_PutInteger.l1])
                        | succ k2 =>
                          have H := HA.out
                          clear HA
                          simp only [impl_PutInteger.l1] at H
                          by_cases c5 : j < (rd_T62 l0 i).f1
                          · rw [if_pos c5] at H
                            have cb := decide_eq_true c5
                            clear c5
                            have H' := qa H
                            clear H
                            go_wp2
                            go_roundg k2
                            case measure => have := HK2.out; omega
                            case rel => exact ⟨_, _, qf, qf, H', ⟨by have := HK2.out; omega⟩, ⟨zq1 BK11⟩, ⟨(zb1 HC)⟩⟩
                          · rw [if_neg c5] at H
                            have cb := decide_eq_false c5
                            clear c5
                            by_cases c9 : x.length < 4398046511104
                            · rw [if_pos c9] at H
                              have LM := qa c9
                              clear c9
                              have ht : impl_PutInteger.tm (rd_T62 l0 i) aa c = (⟨c, 0, (rd_T62 l0 i).f2, (rd_T62 l0 i).f3⟩ : S62) := by rw [haa]; simp [impl_PutInteger.tm]
                              rw [ht] at H
                              clear ht
                              obtain ⟨y, hy⟩ : ∃ y_ : List S62, y_ = x ++ [(⟨c, 0, (rd_T62 l0 i).f2, (rd_T62 l0 i).f3⟩ : S62)] := ⟨_, rfl⟩
                              rw [← hy] at H
                              have Ny := qa hy
                              clear hy
                              have H' := qa H
                              clear H
                              obtain ⟨hcze_0, hcze_1, hcze_2⟩ := qc3 BK11; obtain ⟨hfze_0, hfze_1, hfze_2⟩ := qz3 BK11
                              go_wp2_with (first | ((with_reducible refine gate_callee (f := 35) rfl ?_); refine qg 50 Tryz.func35 #[.int .i64 c, .agg #[.int .i64 0, .int .i64 ((rd_T62 l0 i).f2), .int .i64 ((rd_T62 l0 i).f3)]] ?_; refine (impl_PutInteger.termOf c 0 (rd_T62 l0 i).f2 (rd_T62 l0 i).f3 _).mono ?_; rintro e w11 ⟨rfl, hb⟩; refine ⟨_, rfl, ?_⟩; replace HC := qa (below_step (zb1 HC) hb); clear hb) | (go_at_call 35; refine (impl_PutInteger.termOf c 0 (rd_T62 l0 i).f2 (rd_T62 l0 i).f3 _).mono ?_; rintro e w11 ⟨rfl, hb⟩; replace HC := qa (below_step (zb1 HC) hb); clear hb) | ((with_reducible refine gate_builtin (b := .append) (xs := #[.tmp 47, .tmp 51]) rfl ?_); at_builtin; refine Kd.R_append k62 (w0 := w) w.heap.size rfl (.tmp 47) (.tmp 51) 24 62 (.agg #[(.int .i64 0), (.int .i64 0), (.int .i64 0), (.int .i64 0)]) 32 rfl Tryz.underlying24 info62 rfl (by decide) (by omega) _ x (⟨c, 0, (rd_T62 l0 i).f2, (rd_T62 l0 i).f3⟩ : S62) [.int .i64 c, .int .i64 0, .int .i64 ((rd_T62 l0 i).f2), .int .i64 ((rd_T62 l0 i).f3)] (fun _ => True) (fun _ => False) rfl (by first | (go_simp; done) | (go_simp; rfl)) ?aP (fun _ hk => hk.elim) ?aF ?aO ?aB ?aS ?aL ?_; (case aP => exact k62_mkM _ _ _ (⟨c, 0, (rd_T62 l0 i).f2, (rd_T62 l0 i).f3⟩ : S62)); (case aB => exact (below_step HB.out (zb1 HC))); (case aF => exact (fun _ _ => trivial)); (case aO => exact (Kd.R_below HO.out (zb1 HC))); (case aS => exact (below_size (below_step HB.out (zb1 HC)))); (case aL => have := LM.out; omega); intro v36 w12 ho hb hg hat; rw [← Ny.out] at ho; have HO2 := qa ho; have HB2 := qa hb; clear ho hb hg hat))
                              go_roundg k2
                              case measure => have := HK1.out; have := HK2.out; omega
                              case rel => exact ⟨y, (wrap64 (i + 1)), qf, H', ⟨by have := HK1.out; have := HK2.out; omega⟩, ⟨zq3 HO2⟩, ⟨(zb1 HB2)⟩⟩
                            · rw [if_neg c9] at H; cases H
                    · rw [if_neg c'] at H; cases H
                  · rw [if_neg c] at H
                    have cb := decide_eq_false c
                    clear c
                    obtain ⟨t, hc0, hp0⟩ := Option.bind_eq_some_iff.mp H
                    clear H
                    have A6 := qa hc0
                    have A7 := qa hp0
                    clear hc0 hp0
                    obtain ⟨Ao, co, eo⟩ := Kd.R_slice HO.out
                    subst eo
                    go_wp2_with (first | ((with_reducible refine gate_callee (f := 37) rfl ?_); refine qg 55 Tryz.func37 #[.slice Ao x.length co] ?_; (with_reducible refine (impl_collect.calls _ _ x t _ (Kd.R_reads' HO.out).2.2 (Kd.R_reads' HO.out).2.1 A6.out).mono ?_); rintro e w6 ⟨v6, rfl, ho, hb⟩; refine ⟨_, rfl, ?_⟩; have HO6 := qa (Kd.R_lower ho (below_size (zb0 HB))); replace HB := qa (below_step (zb0 HB) hb); clear ho hb; obtain ⟨Aq, cq, eq6⟩ := Kd.R_slice HO6.out; subst eq6) | (go_at_call 37; (with_reducible refine (impl_collect.calls _ _ x t _ (Kd.R_reads' HO.out).2.2 (Kd.R_reads' HO.out).2.1 A6.out).mono ?_); rintro e w6 ⟨v6, rfl, ho, hb⟩; have HO6 := qa (Kd.R_lower ho (below_size (zb0 HB))); replace HB := qa (below_step (zb0 HB) hb); clear ho hb; obtain ⟨Aq, cq, eq6⟩ := Kd.R_slice HO6.out; subst eq6) | ((with_reducible refine gate_callee (f := 36) rfl ?_); refine qg 56 Tryz.func36 #[.slice Aq t.length cq] ?_; (with_reducible refine (impl_polyResult.calls k1 (fun k_ => some k_ = (.slice Aq t.length cq : Value).ownBlock) (.slice Aq t.length cq) t r1 r2 w _ (zb0 HB) (Kd.R_tight rfl HO6.out) A7.out).mono ?_); rintro e w7 ⟨v7, rfl, ho, hb, hkp⟩; refine ⟨_, rfl, ?_⟩; have HO7 := qa (Kd.R_mono (ok' := fun k_ => True) ho (fun k_ hk_ => trivial)); clear HB; have HB := qa hb; clear ho hb hkp) | (go_at_call 36; (with_reducible refine (impl_polyResult.calls k1 (fun k_ => some k_ = (.slice Aq t.length cq : Value).ownBlock) (.slice Aq t.length cq) t r1 r2 w _ (zb0 HB) (Kd.R_tight rfl HO6.out) A7.out).mono ?_); rintro e w7 ⟨v7, rfl, ho, hb, hkp⟩; have HO7 := qa (Kd.R_mono (ok' := fun k_ => True) ho (fun k_ hk_ => trivial)); clear HB; have HB := qa hb; clear ho hb hkp))
                    go_ret2
                    exact ⟨_, by first | rfl | (simp; done) | (simp [*]; done), zq3 HO7, (zb0 HB)⟩
            · go_enter Tryz.func12, Tryz.ntmps12
              go_wp2_with (first | ((with_reducible refine gate_callee (f := 30) rfl ?_); refine qg 14 Tryz.func30 #[.slice A0 l0.length c0] ?_; refine (impl_isPoly.calls k _ _ l0 _ _ HR0.out HC0.out hA.out).mono ?_; rintro e w4 ⟨rfl, hb⟩; refine ⟨_, rfl, ?_⟩; replace HB := qa (below_step (zb0 HB) hb); clear hb) | (go_at_call 46; refine (impl_isUnknown.calls _ _ _ hU.out).mono ?_; rintro e w' ⟨rfl, ⟨nd, rfl⟩⟩) | (go_at_call 47; refine (impl_inside.calls _ _ _ _ _ hV.out).mono ?_; rintro e w' ⟨rfl, ⟨nd2, rfl⟩⟩))
              go_loopg [8, 28] k (fun kq v8 v28 w' => ∃ (x : List S62) (i : Int), v28 = .int .i64 i ∧ Aside0 (impl_PutInteger.l0 kq l0 aa a2 x i = some (r1, r2)) ∧ Aside0 (kq ≤ k) ∧ Aside0 (Kd.R k62 62 w' w.heap.size (fun _ => True) v8 x) ∧ Aside0 (Below w.heap.size w w'))
              case atStart => exact ⟨[], 0, qf, H', ⟨Nat.le_refl _⟩, ⟨Kd.R_nil _ _ _ _ _⟩, ⟨(zb0 HB)⟩⟩
              case round =>
                clear H' HB
                obtain ⟨x, i, rfl, HA, HK1, HO, HB⟩ := hrel
                cases gk with
                | zero => exact absurd HA.out (by simp [impl_PutInteger.l0])
                | succ k1 =>
                  have H := HA.out
                  clear HA
                  simp only [impl_PutInteger.l0] at H
                  by_cases c : i < (l0.length : Int)
                  · rw [if_pos c] at H
                    by_cases c' : 0 ≤ i
                    · rw [if_pos c'] at H
                      have he : impl_PutInteger.pw (rd_T62 l0 i) aa = (rd_T62 l0 i).f2 := by rw [haa]; simp [impl_PutInteger.pw]
                      rw [he] at H
                      clear he
                      have H' := qa H
                      clear H
                      have cb := decide_eq_true c
                      have cb' := decide_eq_true c'
                      obtain ⟨ad, ead, hx0, hx1, hx2, hx3⟩ := at_T62 HR0.out i c' c
                      subst ead
                      replace hx0 := qb HB hx0
                      replace hx1 := qb HB hx1
                      replace hx2 := qb HB hx2
                      replace hx3 := qb HB hx3
                      have p1 := eq_true c
                      have p2 := eq_true c'
                      clear c c'
                      have HC := qa (Below.refl wr.heap.size wr)
                      go_wp2_with (first | ((with_reducible refine gate_dst (N := 10) rfl ?_); refine zbe (N := 10) (cs := #[.int .i64 0, .int .i64 0, .int .i64 0, .int .i64 0]) (t := 62) ?_; intro gb10 hg w7 hbox hb; have BK10 := qa hbox; have GW10 := qa (zge (zb1 HC) hg); replace HC := qa (below_step (zb1 HC) hb); clear hb hbox hg; obtain ⟨hcza_0, hcza_1, hcza_2, hcza_3⟩ := qc4 BK10; obtain ⟨hfza_0, hfza_1, hfza_2, hfza_3⟩ := qz4 BK10) | ((with_reducible refine gate_callee (f := 34) rfl ?_); refine qg 33 Tryz.func34 #[.agg #[.int .i64 ((rd_T62 l0 i).f0), .int .i64 ((rd_T62 l0 i).f1), .int .i64 ((rd_T62 l0 i).f2), .int .i64 ((rd_T62 l0 i).f3)]] ?_; refine (impl_PutInteger.exps (rd_T62 l0 i).f0 (rd_T62 l0 i).f1 (rd_T62 l0 i).f2 (rd_T62 l0 i).f3 _).mono ?_; rintro e w9 ⟨rfl, hb⟩; refine ⟨_, rfl, ?_⟩; replace BK10 := qa (blk_below (g := gb10) (o := .cells #[.int .i64 ((rd_T62 l0 i).f0), .int .i64 ((rd_T62 l0 i).f1), .int .i64 ((rd_T62 l0 i).f2), .int .i64 ((rd_T62 l0 i).f3)] 62 (0, 0)) (qs BK10) hb); replace HC := qa (below_step (zb1 HC) hb); clear hb) | (go_at_call 34; refine (impl_PutInteger.exps (rd_T62 l0 i).f0 (rd_T62 l0 i).f1 (rd_T62 l0 i).f2 (rd_T62 l0 i).f3 _).mono ?_; rintro e w9 ⟨rfl, hb⟩; replace BK10 := qa (blk_below (g := gb10) (o := .cells #[.int .i64 ((rd_T62 l0 i).f0), .int .i64 ((rd_T62 l0 i).f1), .int .i64 ((rd_T62 l0 i).f2), .int .i64 ((rd_T62 l0 i).f3)] 62 (0, 0)) (qs BK10) hb); replace HC := qa (below_step (zb1 HC) hb); clear hb) | ((with_reducible refine gate_dst (N := 11) rfl ?_); refine zbe (N := 11) (cs := #[.int .i64 0, .int .i64 0, .int .i64 0]) (t := 63) ?_; intro gb11 hg w10 hbox hb; have BK11 := qa hbox; have GW11 := qa (zge (zb1 HC) hg); have NB87 := qa (by rw [hg]; exact Nat.ne_of_gt (blk_lt (zq1 BK10)) : gb11 ≠ gb10); have NB78 := qa (Ne.symm NB87.out); replace BK10 := qa (zbb BK10 hb); replace HC := qa (below_step (zb1 HC) hb); clear hb hbox hg; have hnb := NB87.out; have hnc := NB78.out; obtain ⟨hczc_0, hczc_1, hczc_2, hczc_3⟩ := qc4 BK10; obtain ⟨hfzc_0, hfzc_1, hfzc_2, hfzc_3⟩ := qz4 BK10; obtain ⟨hczd_0, hczd_1, hczd_2⟩ := qc3 BK11; obtain ⟨hfzd_0, hfzd_1, hfzd_2⟩ := qz3 BK11))
                      go_loopg [12, 39] k1 (fun kq v12 v39 w' => ∃ (c j : Int), v12 = .int .i64 c ∧ v39 = .int .i64 j ∧ Aside0 (impl_PutInteger.l1 kq l0 aa a2 x i c (rd_T62 l0 i).f2 j = some (r1, r2)) ∧ Aside0 (kq ≤ k1) ∧ Aside0 (w'.heap[gb11]? = some (.cells #[.int .i64 ((rd_T62 l0 i).f1), .int .i64 ((rd_T62 l0 i).f2), .int .i64 ((rd_T62 l0 i).f3)] 63 (0, 0))) ∧ Aside0 (Below wr.heap.size wr w'))
                      case atStart => exact ⟨_, 0, qf, qf, H', ⟨Nat.le_refl _⟩, ⟨qs BK11⟩, ⟨(zb1 HC)⟩⟩
                      case round =>
                        clear H' HC BK10 BK11 hx0 hx1 hx2 hx3 cb cb' p1 p2
                        (try clear hnb hnc)
                        obtain ⟨c, j, rfl, rfl, HA, HK2, BK11, HC⟩ := hrel
                        cases gk with
                        | zero => exact absurd HA.out (by simp [impl_PutInteger.l1])
                        | succ k2 =>
                          have H := HA.out
                          clear HA
                          simp only [impl_PutInteger.l1] at H
                          by_cases c5 : j < (rd_T62 l0 i).f2
                          · rw [if_pos c5] at H
                            have cb := decide_eq_true c5
                            clear c5
                            have H' := qa H
                            clear H
                            go_wp2
                            go_roundg k2
                            case measure => have := HK2.out; omega
                            case rel => exact ⟨_, _, qf, qf, H', ⟨by have := HK2.out; omega⟩, ⟨zq1 BK11⟩, ⟨(zb1 HC)⟩⟩
                          · rw [if_neg c5] at H
                            have cb := decide_eq_false c5
                            clear c5
                            by_cases c9 : x.length < 4398046511104
                            · rw [if_pos c9] at H
                              have LM := qa c9
                              clear c9
                              have ht : impl_PutInteger.tm (rd_T62 l0 i) aa c = (⟨c, (rd_T62 l0 i).f1, 0, (rd_T62 l0 i).f3⟩ : S62) := by rw [haa]; simp [impl_PutInteger.tm]
                              rw [ht] at H
                              clear ht
                              obtain ⟨y, hy⟩ : ∃ y_ : List S62, y_ = x ++ [(⟨c, (rd_T62 l0 i).f1, 0, (rd_T62 l0 i).f3⟩ : S62)] := ⟨_, rfl⟩
                              rw [← hy] at H
                              have Ny := qa hy
                              clear hy
                              have H' := qa H
                              clear H
                              obtain ⟨hcze_0, hcze_1, hcze_2⟩ := qc3 BK11; obtain ⟨hfze_0, hfze_1, hfze_2⟩ := qz3 BK11
                              go_wp2_with (first | ((with_reducible refine gate_callee (f := 35) rfl ?_); refine qg 50 Tryz.func35 #[.int .i64 c, .agg #[.int .i64 ((rd_T62 l0 i).f1), .int .i64 0, .int .i64 ((rd_T62 l0 i).f3)]] ?_; refine (impl_PutInteger.termOf c (rd_T62 l0 i).f1 0 (rd_T62 l0 i).f3 _).mono ?_; rintro e w11 ⟨rfl, hb⟩; refine ⟨_, rfl, ?_⟩; replace HC := qa (below_step (zb1 HC) hb); clear hb) | (go_at_call 35; refine (impl_PutInteger.termOf c (rd_T62 l0 i).f1 0 (rd_T62 l0 i).f3 _).mono ?_; rintro e w11 ⟨rfl, hb⟩; replace HC := qa (below_step (zb1 HC) hb); clear hb) | ((with_reducible refine gate_builtin (b := .append) (xs := #[.tmp 47, .tmp 51]) rfl ?_); at_builtin; refine Kd.R_append k62 (w0 := w) w.heap.size rfl (.tmp 47) (.tmp 51) 24 62 (.agg #[(.int .i64 0), (.int .i64 0), (.int .i64 0), (.int .i64 0)]) 32 rfl Tryz.underlying24 info62 rfl (by decide) (by omega) _ x (⟨c, (rd_T62 l0 i).f1, 0, (rd_T62 l0 i).f3⟩ : S62) [.int .i64 c, .int .i64 ((rd_T62 l0 i).f1), .int .i64 0, .int .i64 ((rd_T62 l0 i).f3)] (fun _ => True) (fun _ => False) rfl (by first | (go_simp; done) | (go_simp; rfl)) ?aP (fun _ hk => hk.elim) ?aF ?aO ?aB ?aS ?aL ?_; (case aP => exact k62_mkM _ _ _ (⟨c, (rd_T62 l0 i).f1, 0, (rd_T62 l0 i).f3⟩ : S62)); (case aB => exact (below_step HB.out (zb1 HC))); (case aF => exact (fun _ _ => trivial)); (case aO => exact (Kd.R_below HO.out (zb1 HC))); (case aS => exact (below_size (below_step HB.out (zb1 HC)))); (case aL => have := LM.out; omega); intro v36 w12 ho hb hg hat; rw [← Ny.out] at ho; have HO2 := qa ho; have HB2 := qa hb; clear ho hb hg hat))
                              go_roundg k2
                              case measure => have := HK1.out; have := HK2.out; omega
                              case rel => exact ⟨y, (wrap64 (i + 1)), qf, H', ⟨by have := HK1.out; have := HK2.out; omega⟩, ⟨zq3 HO2⟩, ⟨(zb1 HB2)⟩⟩
                            · rw [if_neg c9] at H; cases H
                    · rw [if_neg c'] at H; cases H
                  · rw [if_neg c] at H
                    have cb := decide_eq_false c
                    clear c
                    obtain ⟨t, hc0, hp0⟩ := Option.bind_eq_some_iff.mp H
                    clear H
                    have A6 := qa hc0
                    have A7 := qa hp0
                    clear hc0 hp0
                    obtain ⟨Ao, co, eo⟩ := Kd.R_slice HO.out
                    subst eo
                    go_wp2_with (first | ((with_reducible refine gate_callee (f := 37) rfl ?_); refine qg 55 Tryz.func37 #[.slice Ao x.length co] ?_; (with_reducible refine (impl_collect.calls _ _ x t _ (Kd.R_reads' HO.out).2.2 (Kd.R_reads' HO.out).2.1 A6.out).mono ?_); rintro e w6 ⟨v6, rfl, ho, hb⟩; refine ⟨_, rfl, ?_⟩; have HO6 := qa (Kd.R_lower ho (below_size (zb0 HB))); replace HB := qa (below_step (zb0 HB) hb); clear ho hb; obtain ⟨Aq, cq, eq6⟩ := Kd.R_slice HO6.out; subst eq6) | (go_at_call 37; (with_reducible refine (impl_collect.calls _ _ x t _ (Kd.R_reads' HO.out).2.2 (Kd.R_reads' HO.out).2.1 A6.out).mono ?_); rintro e w6 ⟨v6, rfl, ho, hb⟩; have HO6 := qa (Kd.R_lower ho (below_size (zb0 HB))); replace HB := qa (below_step (zb0 HB) hb); clear ho hb; obtain ⟨Aq, cq, eq6⟩ := Kd.R_slice HO6.out; subst eq6) | ((with_reducible refine gate_callee (f := 36) rfl ?_); refine qg 56 Tryz.func36 #[.slice Aq t.length cq] ?_; (with_reducible refine (impl_polyResult.calls k1 (fun k_ => some k_ = (.slice Aq t.length cq : Value).ownBlock) (.slice Aq t.length cq) t r1 r2 w _ (zb0 HB) (Kd.R_tight rfl HO6.out) A7.out).mono ?_); rintro e w7 ⟨v7, rfl, ho, hb, hkp⟩; refine ⟨_, rfl, ?_⟩; have HO7 := qa (Kd.R_mono (ok' := fun k_ => True) ho (fun k_ hk_ => trivial)); clear HB; have HB := qa hb; clear ho hb hkp) | (go_at_call 36; (with_reducible refine (impl_polyResult.calls k1 (fun k_ => some k_ = (.slice Aq t.length cq : Value).ownBlock) (.slice Aq t.length cq) t r1 r2 w _ (zb0 HB) (Kd.R_tight rfl HO6.out) A7.out).mono ?_); rintro e w7 ⟨v7, rfl, ho, hb, hkp⟩; have HO7 := qa (Kd.R_mono (ok' := fun k_ => True) ho (fun k_ hk_ => trivial)); clear HB; have HB := qa hb; clear ho hb hkp))
                    go_ret2
                    exact ⟨_, by first | rfl | (simp; done) | (simp [*]; done), zq3 HO7, (zb0 HB)⟩
            · go_enter Tryz.func12, Tryz.ntmps12
              go_wp2_with (first | ((with_reducible refine gate_callee (f := 30) rfl ?_); refine qg 14 Tryz.func30 #[.slice A0 l0.length c0] ?_; refine (impl_isPoly.calls k _ _ l0 _ _ HR0.out HC0.out hA.out).mono ?_; rintro e w4 ⟨rfl, hb⟩; refine ⟨_, rfl, ?_⟩; replace HB := qa (below_step (zb0 HB) hb); clear hb) | (go_at_call 46; refine (impl_isUnknown.calls _ _ _ hU.out).mono ?_; rintro e w' ⟨rfl, ⟨nd, rfl⟩⟩) | (go_at_call 47; refine (impl_inside.calls _ _ _ _ _ hV.out).mono ?_; rintro e w' ⟨rfl, ⟨nd2, rfl⟩⟩))
              go_loopg [8, 28] k (fun kq v8 v28 w' => ∃ (x : List S62) (i : Int), v28 = .int .i64 i ∧ Aside0 (impl_PutInteger.l0 kq l0 aa a2 x i = some (r1, r2)) ∧ Aside0 (kq ≤ k) ∧ Aside0 (Kd.R k62 62 w' w.heap.size (fun _ => True) v8 x) ∧ Aside0 (Below w.heap.size w w'))
              case atStart => exact ⟨[], 0, qf, H', ⟨Nat.le_refl _⟩, ⟨Kd.R_nil _ _ _ _ _⟩, ⟨(zb0 HB)⟩⟩
              case round =>
                clear H' HB
                obtain ⟨x, i, rfl, HA, HK1, HO, HB⟩ := hrel
                cases gk with
                | zero => exact absurd HA.out (by simp [impl_PutInteger.l0])
                | succ k1 =>
                  have H := HA.out
                  clear HA
                  simp only [impl_PutInteger.l0] at H
                  by_cases c : i < (l0.length : Int)
                  · rw [if_pos c] at H
                    by_cases c' : 0 ≤ i
                    · rw [if_pos c'] at H
                      have he : impl_PutInteger.pw (rd_T62 l0 i) aa = (rd_T62 l0 i).f3 := by rw [haa]; simp [impl_PutInteger.pw]
                      rw [he] at H
                      clear he
                      have H' := qa H
                      clear H
                      have cb := decide_eq_true c
                      have cb' := decide_eq_true c'
                      obtain ⟨ad, ead, hx0, hx1, hx2, hx3⟩ := at_T62 HR0.out i c' c
                      subst ead
                      replace hx0 := qb HB hx0
                      replace hx1 := qb HB hx1
                      replace hx2 := qb HB hx2
                      replace hx3 := qb HB hx3
                      have p1 := eq_true c
                      have p2 := eq_true c'
                      clear c c'
                      have HC := qa (Below.refl wr.heap.size wr)
                      go_wp2_with (first | ((with_reducible refine gate_dst (N := 10) rfl ?_); refine zbe (N := 10) (cs := #[.int .i64 0, .int .i64 0, .int .i64 0, .int .i64 0]) (t := 62) ?_; intro gb10 hg w7 hbox hb; have BK10 := qa hbox; have GW10 := qa (zge (zb1 HC) hg); replace HC := qa (below_step (zb1 HC) hb); clear hb hbox hg; obtain ⟨hcza_0, hcza_1, hcza_2, hcza_3⟩ := qc4 BK10; obtain ⟨hfza_0, hfza_1, hfza_2, hfza_3⟩ := qz4 BK10) | ((with_reducible refine gate_callee (f := 34) rfl ?_); refine qg 33 Tryz.func34 #[.agg #[.int .i64 ((rd_T62 l0 i).f0), .int .i64 ((rd_T62 l0 i).f1), .int .i64 ((rd_T62 l0 i).f2), .int .i64 ((rd_T62 l0 i).f3)]] ?_; refine (impl_PutInteger.exps (rd_T62 l0 i).f0 (rd_T62 l0 i).f1 (rd_T62 l0 i).f2 (rd_T62 l0 i).f3 _).mono ?_; rintro e w9 ⟨rfl, hb⟩; refine ⟨_, rfl, ?_⟩; replace BK10 := qa (blk_below (g := gb10) (o := .cells #[.int .i64 ((rd_T62 l0 i).f0), .int .i64 ((rd_T62 l0 i).f1), .int .i64 ((rd_T62 l0 i).f2), .int .i64 ((rd_T62 l0 i).f3)] 62 (0, 0)) (qs BK10) hb); replace HC := qa (below_step (zb1 HC) hb); clear hb) | (go_at_call 34; refine (impl_PutInteger.exps (rd_T62 l0 i).f0 (rd_T62 l0 i).f1 (rd_T62 l0 i).f2 (rd_T62 l0 i).f3 _).mono ?_; rintro e w9 ⟨rfl, hb⟩; replace BK10 := qa (blk_below (g := gb10) (o := .cells #[.int .i64 ((rd_T62 l0 i).f0), .int .i64 ((rd_T62 l0 i).f1), .int .i64 ((rd_T62 l0 i).f2), .int .i64 ((rd_T62 l0 i).f3)] 62 (0, 0)) (qs BK10) hb); replace HC := qa (below_step (zb1 HC) hb); clear hb) | ((with_reducible refine gate_dst (N := 11) rfl ?_); refine zbe (N := 11) (cs := #[.int .i64 0, .int .i64 0, .int .i64 0]) (t := 63) ?_; intro gb11 hg w10 hbox hb; have BK11 := qa hbox; have GW11 := qa (zge (zb1 HC) hg); have NB87 := qa (by rw [hg]; exact Nat.ne_of_gt (blk_lt (zq1 BK10)) : gb11 ≠ gb10); have NB78 := qa (Ne.symm NB87.out); replace BK10 := qa (zbb BK10 hb); replace HC := qa (below_step (zb1 HC) hb); clear hb hbox hg; have hnb := NB87.out; have hnc := NB78.out; obtain ⟨hczc_0, hczc_1, hczc_2, hczc_3⟩ := qc4 BK10; obtain ⟨hfzc_0, hfzc_1, hfzc_2, hfzc_3⟩ := qz4 BK10; obtain ⟨hczd_0, hczd_1, hczd_2⟩ := qc3 BK11; obtain ⟨hfzd_0, hfzd_1, hfzd_2⟩ := qz3 BK11))
                      go_loopg [12, 39] k1 (fun kq v12 v39 w' => ∃ (c j : Int), v12 = .int .i64 c ∧ v39 = .int .i64 j ∧ Aside0 (impl_PutInteger.l1 kq l0 aa a2 x i c (rd_T62 l0 i).f3 j = some (r1, r2)) ∧ Aside0 (kq ≤ k1) ∧ Aside0 (w'.heap[gb11]? = some (.cells #[.int .i64 ((rd_T62 l0 i).f1), .int .i64 ((rd_T62 l0 i).f2), .int .i64 ((rd_T62 l0 i).f3)] 63 (0, 0))) ∧ Aside0 (Below wr.heap.size wr w'))
                      case atStart => exact ⟨_, 0, qf, qf, H', ⟨Nat.le_refl _⟩, ⟨qs BK11⟩, ⟨(zb1 HC)⟩⟩
                      case round =>
                        clear H' HC BK10 BK11 hx0 hx1 hx2 hx3 cb cb' p1 p2
                        (try clear hnb hnc)
                        obtain ⟨c, j, rfl, rfl, HA, HK2, BK11, HC⟩ := hrel
                        cases gk with
                        | zero => exact absurd HA.out (by simp [impl_PutInteger.l1])
                        | succ k2 =>
                          have H := HA.out
                          clear HA
                          simp only [impl_PutInteger.l1] at H
                          by_cases c5 : j < (rd_T62 l0 i).f3
                          · rw [if_pos c5] at H
                            have cb := decide_eq_true c5
                            clear c5
                            have H' := qa H
                            clear H
                            go_wp2
                            go_roundg k2
                            case measure => have := HK2.out; omega
                            case rel => exact ⟨_, _, qf, qf, H', ⟨by have := HK2.out; omega⟩, ⟨zq1 BK11⟩, ⟨(zb1 HC)⟩⟩
                          · rw [if_neg c5] at H
                            have cb := decide_eq_false c5
                            clear c5
                            by_cases c9 : x.length < 4398046511104
                            · rw [if_pos c9] at H
                              have LM := qa c9
                              clear c9
                              have ht : impl_PutInteger.tm (rd_T62 l0 i) aa c = (⟨c, (rd_T62 l0 i).f1, (rd_T62 l0 i).f2, 0⟩ : S62) := by rw [haa]; simp [impl_PutInteger.tm]
                              rw [ht] at H
                              clear ht
                              obtain ⟨y, hy⟩ : ∃ y_ : List S62, y_ = x ++ [(⟨c, (rd_T62 l0 i).f1, (rd_T62 l0 i).f2, 0⟩ : S62)] := ⟨_, rfl⟩
                              rw [← hy] at H
                              have Ny := qa hy
                              clear hy
                              have H' := qa H
                              clear H
                              obtain ⟨hcze_0, hcze_1, hcze_2⟩ := qc3 BK11; obtain ⟨hfze_0, hfze_1, hfze_2⟩ := qz3 BK11
                              go_wp2_with (first | ((with_reducible refine gate_callee (f := 35) rfl ?_); refine qg 50 Tryz.func35 #[.int .i64 c, .agg #[.int .i64 ((rd_T62 l0 i).f1), .int .i64 ((rd_T62 l0 i).f2), .int .i64 0]] ?_; refine (impl_PutInteger.termOf c (rd_T62 l0 i).f1 (rd_T62 l0 i).f2 0 _).mono ?_; rintro e w11 ⟨rfl, hb⟩; refine ⟨_, rfl, ?_⟩; replace HC := qa (below_step (zb1 HC) hb); clear hb) | (go_at_call 35; refine (impl_PutInteger.termOf c (rd_T62 l0 i).f1 (rd_T62 l0 i).f2 0 _).mono ?_; rintro e w11 ⟨rfl, hb⟩; replace HC := qa (below_step (zb1 HC) hb); clear hb) | ((with_reducible refine gate_builtin (b := .append) (xs := #[.tmp 47, .tmp 51]) rfl ?_); at_builtin; refine Kd.R_append k62 (w0 := w) w.heap.size rfl (.tmp 47) (.tmp 51) 24 62 (.agg #[(.int .i64 0), (.int .i64 0), (.int .i64 0), (.int .i64 0)]) 32 rfl Tryz.underlying24 info62 rfl (by decide) (by omega) _ x (⟨c, (rd_T62 l0 i).f1, (rd_T62 l0 i).f2, 0⟩ : S62) [.int .i64 c, .int .i64 ((rd_T62 l0 i).f1), .int .i64 ((rd_T62 l0 i).f2), .int .i64 0] (fun _ => True) (fun _ => False) rfl (by first | (go_simp; done) | (go_simp; rfl)) ?aP (fun _ hk => hk.elim) ?aF ?aO ?aB ?aS ?aL ?_; (case aP => exact k62_mkM _ _ _ (⟨c, (rd_T62 l0 i).f1, (rd_T62 l0 i).f2, 0⟩ : S62)); (case aB => exact (below_step HB.out (zb1 HC))); (case aF => exact (fun _ _ => trivial)); (case aO => exact (Kd.R_below HO.out (zb1 HC))); (case aS => exact (below_size (below_step HB.out (zb1 HC)))); (case aL => have := LM.out; omega); intro v36 w12 ho hb hg hat; rw [← Ny.out] at ho; have HO2 := qa ho; have HB2 := qa hb; clear ho hb hg hat))
                              go_roundg k2
                              case measure => have := HK1.out; have := HK2.out; omega
                              case rel => exact ⟨y, (wrap64 (i + 1)), qf, H', ⟨by have := HK1.out; have := HK2.out; omega⟩, ⟨zq3 HO2⟩, ⟨(zb1 HB2)⟩⟩
                            · rw [if_neg c9] at H; cases H
                    · rw [if_neg c'] at H; cases H
                  · rw [if_neg c] at H
                    have cb := decide_eq_false c
                    clear c
                    obtain ⟨t, hc0, hp0⟩ := Option.bind_eq_some_iff.mp H
                    clear H
                    have A6 := qa hc0
                    have A7 := qa hp0
                    clear hc0 hp0
                    obtain ⟨Ao, co, eo⟩ := Kd.R_slice HO.out
                    subst eo
                    go_wp2_with (first | ((with_reducible refine gate_callee (f := 37) rfl ?_); refine qg 55 Tryz.func37 #[.slice Ao x.length co] ?_; (with_reducible refine (impl_collect.calls _ _ x t _ (Kd.R_reads' HO.out).2.2 (Kd.R_reads' HO.out).2.1 A6.out).mono ?_); rintro e w6 ⟨v6, rfl, ho, hb⟩; refine ⟨_, rfl, ?_⟩; have HO6 := qa (Kd.R_lower ho (below_size (zb0 HB))); replace HB := qa (below_step (zb0 HB) hb); clear ho hb; obtain ⟨Aq, cq, eq6⟩ := Kd.R_slice HO6.out; subst eq6) | (go_at_call 37; (with_reducible refine (impl_collect.calls _ _ x t _ (Kd.R_reads' HO.out).2.2 (Kd.R_reads' HO.out).2.1 A6.out).mono ?_); rintro e w6 ⟨v6, rfl, ho, hb⟩; have HO6 := qa (Kd.R_lower ho (below_size (zb0 HB))); replace HB := qa (below_step (zb0 HB) hb); clear ho hb; obtain ⟨Aq, cq, eq6⟩ := Kd.R_slice HO6.out; subst eq6) | ((with_reducible refine gate_callee (f := 36) rfl ?_); refine qg 56 Tryz.func36 #[.slice Aq t.length cq] ?_; (with_reducible refine (impl_polyResult.calls k1 (fun k_ => some k_ = (.slice Aq t.length cq : Value).ownBlock) (.slice Aq t.length cq) t r1 r2 w _ (zb0 HB) (Kd.R_tight rfl HO6.out) A7.out).mono ?_); rintro e w7 ⟨v7, rfl, ho, hb, hkp⟩; refine ⟨_, rfl, ?_⟩; have HO7 := qa (Kd.R_mono (ok' := fun k_ => True) ho (fun k_ hk_ => trivial)); clear HB; have HB := qa hb; clear ho hb hkp) | (go_at_call 36; (with_reducible refine (impl_polyResult.calls k1 (fun k_ => some k_ = (.slice Aq t.length cq : Value).ownBlock) (.slice Aq t.length cq) t r1 r2 w _ (zb0 HB) (Kd.R_tight rfl HO6.out) A7.out).mono ?_); rintro e w7 ⟨v7, rfl, ho, hb, hkp⟩; have HO7 := qa (Kd.R_mono (ok' := fun k_ => True) ho (fun k_ hk_ => trivial)); clear HB; have HB := qa hb; clear ho hb hkp))
                    go_ret2
                    exact ⟨_, by first | rfl | (simp; done) | (simp [*]; done), zq3 HO7, (zb0 HB)⟩
          · rw [if_neg q2] at h; cases h
        · rw [if_neg q0] at h; cases h
/-! ### spec_PutInteger: function 13 -/
set_option maxHeartbeats 8000000 in
set_option maxRecDepth 100000 in
theorem spec_PutInteger.calls (k : Nat) (A0 : Option Addr) (c0 : Nat) (l0 : List (S62)) (a1 : Int) (a2 : Int) (r1 : List (S62)) (r2 : Bool) (w : World) (hr0 : Kd.C k62 w A0 l0.length l0) (hc0 : l0.length ≤ c0) (h : spec_PutInteger.f k l0 a1 a2 = some (r1, r2)) :
  Calls Tryz.prog 13 #[.slice A0 l0.length c0, .int .i64 a1, .int .i64 a2] w fun e w' => ∃ v0_ : Value, e = .returned (.tuple #[v0_, .bool r2]) ∧ Kd.R k62 62 w' w.heap.size (fun _ => True) v0_ r1 ∧ Below w.heap.size w w' := by
 have hu62 := Tryz.underlying62
 have HR0 := qa hr0
 have HC0 := qa hc0
 clear hr0 hc0
 have HB := qa (Below.refl w.heap.size w)
 have H : ((spec_poGood.f k l0).bind fun t530 => (if t530 = true then ((spec_poUnknown.f a1).bind fun t531 => (if t531 = true then ((spec_l1In.f a2 (-100) 100).bind fun t532 => (spec_PutInteger.j0 k l0 a1 a2 (!t532))) else (spec_PutInteger.j0 k l0 a1 a2 true))) else (spec_PutInteger.j0 k l0 a1 a2 true))) = some (r1, r2) := h
 clear h
 have HC4 := qa H
 clear H
 go_enter Tryz.func13, Tryz.ntmps13
 go_upto_region 1 with (fail)
 go_cut [24] (fun v24 wc => ∃ (kq : Nat) (x24_3 : Bool), v24 = .bool x24_3 ∧ Aside0 (spec_PutInteger.j0 kq l0 a1 a2 x24_3 = some (r1, r2)) ∧ Aside0 (kq ≤ k) ∧ Aside0 (Below w.heap.size w wc))
 case first =>
  have H := HC4.out
  clear HC4
  replace H := qo H
  obtain ⟨t530, A5, H⟩ := H
  replace H : (if t530 = true then ((spec_poUnknown.f a1).bind fun t531 => (if t531 = true then ((spec_l1In.f a2 (-100) 100).bind fun t532 => (spec_PutInteger.j0 k l0 a1 a2 (!t532))) else (spec_PutInteger.j0 k l0 a1 a2 true))) else (spec_PutInteger.j0 k l0 a1 a2 true)) = some (r1, r2) := H
  by_cases c6 : t530 = true
  ·
   subst c6
   have H1 : ((spec_poUnknown.f a1).bind fun t531 => (if t531 = true then ((spec_l1In.f a2 (-100) 100).bind fun t532 => (spec_PutInteger.j0 k l0 a1 a2 (!t532))) else (spec_PutInteger.j0 k l0 a1 a2 true))) = some (r1, r2) := by rw [if_pos rfl] at H; exact H
   clear H
   have H := H1
   clear H1
   replace H := qo H
   obtain ⟨t531, A7, H⟩ := H
   replace H : (if t531 = true then ((spec_l1In.f a2 (-100) 100).bind fun t532 => (spec_PutInteger.j0 k l0 a1 a2 (!t532))) else (spec_PutInteger.j0 k l0 a1 a2 true)) = some (r1, r2) := H
   by_cases c8 : t531 = true
   ·
    subst c8
    have H1 : ((spec_l1In.f a2 (-100) 100).bind fun t532 => (spec_PutInteger.j0 k l0 a1 a2 (!t532))) = some (r1, r2) := by rw [if_pos rfl] at H; exact H
    clear H
    have H := H1
    clear H1
    replace H := qo H
    obtain ⟨t532, A9, H⟩ := H
    replace H : (spec_PutInteger.j0 k l0 a1 a2 (!t532)) = some (r1, r2) := H
    have H' := qa H
    clear H
    go_wp2_with (first | ((with_reducible refine gate_callee (f := 38) rfl ?_); refine qg 13 Tryz.func38 #[.slice A0 l0.length c0] ?_; (with_reducible refine (spec_poGood.calls k _ _ l0 true _ ?side1 ?side2 A5.out).mono ?_); (case side1 => repeat (first | exact (Kd.C_below HR0.out HB.out) | (with_reducible refine Kd.C_alloc ?_ _) | (with_reducible refine Kd.C_drewN ?_ _) | (with_reducible refine Kd.C_drew ?_))); (case side2 => exact HC0.out); rintro e w10 ⟨rfl, hb⟩; refine ⟨_, rfl, ?_⟩; replace HB := qa (below_step (zb0 HB) hb); (try clear hb); (try clear hb2); (try clear hk); (try clear hi)) | (go_at_call 48; (with_reducible refine (spec_poUnknown.calls a1 true _ A7.out).mono ?_); rintro e w' ⟨rfl, ⟨nd, rfl⟩⟩) | (go_at_call 49; (with_reducible refine (spec_l1In.calls a2 (-100) 100 t532 _ A9.out).mono ?_); rintro e w' ⟨rfl, ⟨nd, rfl⟩⟩))
    go_meet
    case rel => exact ⟨_, (!t532), qf, H', ⟨by first | omega | exact Nat.le_refl _⟩, ⟨(zb0 HB)⟩⟩
   ·
    replace c8 := Bool.eq_false_iff.mpr c8
    subst c8
    have H1 : (spec_PutInteger.j0 k l0 a1 a2 true) = some (r1, r2) := by rw [if_neg (show ¬ (false = true) by decide)] at H; exact H
    clear H
    have H := H1
    clear H1
    have H' := qa H
    clear H
    go_wp2_with (first | ((with_reducible refine gate_callee (f := 38) rfl ?_); refine qg 13 Tryz.func38 #[.slice A0 l0.length c0] ?_; (with_reducible refine (spec_poGood.calls k _ _ l0 true _ ?side1 ?side2 A5.out).mono ?_); (case side1 => repeat (first | exact (Kd.C_below HR0.out HB.out) | (with_reducible refine Kd.C_alloc ?_ _) | (with_reducible refine Kd.C_drewN ?_ _) | (with_reducible refine Kd.C_drew ?_))); (case side2 => exact HC0.out); rintro e w11 ⟨rfl, hb⟩; refine ⟨_, rfl, ?_⟩; replace HB := qa (below_step (zb0 HB) hb); (try clear hb); (try clear hb2); (try clear hk); (try clear hi)) | (go_at_call 48; (with_reducible refine (spec_poUnknown.calls a1 false _ A7.out).mono ?_); rintro e w' ⟨rfl, ⟨nd, rfl⟩⟩))
    go_meet
    case rel => exact ⟨_, (true), qf, H', ⟨by first | omega | exact Nat.le_refl _⟩, ⟨(zb0 HB)⟩⟩
  ·
   replace c6 := Bool.eq_false_iff.mpr c6
   subst c6
   have H1 : (spec_PutInteger.j0 k l0 a1 a2 true) = some (r1, r2) := by rw [if_neg (show ¬ (false = true) by decide)] at H; exact H
   clear H
   have H := H1
   clear H1
   have H' := qa H
   clear H
   go_wp2_with (first | ((with_reducible refine gate_callee (f := 38) rfl ?_); refine qg 13 Tryz.func38 #[.slice A0 l0.length c0] ?_; (with_reducible refine (spec_poGood.calls k _ _ l0 false _ ?side1 ?side2 A5.out).mono ?_); (case side1 => repeat (first | exact (Kd.C_below HR0.out HB.out) | (with_reducible refine Kd.C_alloc ?_ _) | (with_reducible refine Kd.C_drewN ?_ _) | (with_reducible refine Kd.C_drew ?_))); (case side2 => exact HC0.out); rintro e w12 ⟨rfl, hb⟩; refine ⟨_, rfl, ?_⟩; replace HB := qa (below_step (zb0 HB) hb); (try clear hb); (try clear hb2); (try clear hk); (try clear hi)))
   go_meet
   case rel => exact ⟨_, (true), qf, H', ⟨by first | omega | exact Nat.le_refl _⟩, ⟨(zb0 HB)⟩⟩
 case rest =>
  clear HC4
  try clear c1
  try clear p2
  try clear c3
  try clear c6
  try clear c8
  obtain ⟨kq, x24_3, rfl, HA, HJ3, HB⟩ := hcut
  cases kq with
  | zero => exact absurd HA.out (by simp [spec_PutInteger.j0])
  | succ kj3 =>
   have H := HA.out
   clear HA
   simp only [spec_PutInteger.j0] at H
   by_cases c13 : x24_3 = true
   ·
    subst c13
    have H1 : (some (([] : List (S62)), false)) = some (r1, r2) := by rw [if_pos rfl] at H; exact H
    clear H
    have H := H1
    clear H1
    simp only [Option.some.injEq, Prod.mk.injEq] at H
    obtain ⟨rfl, rfl⟩ := H
    go_wp2
    go_ret2
    exact ⟨_, by first | rfl | (simp [errW_none, errW_some] <;> rfl) | (simp [*, errW_none, errW_some] <;> rfl), by first | exact Kd.R_nil _ _ _ _ _ | exact Kd.N_nil _ _ _ _ _ | exact Kd.V_nil _ _ _ _ _ | exact Kd.Q_nil _ _ _ _ _ | exact Kd.S_nil _ _ _ _ _, (zb0 HB)⟩
   ·
    replace c13 := Bool.eq_false_iff.mpr c13
    subst c13
    have H1 : (spec_PutInteger.l0 kj3 a1 a2 ([] : List (S62)) l0 (l0.length : Int) 0) = some (r1, r2) := by rw [if_neg (show ¬ (false = true) by decide)] at H; exact H
    clear H
    have H := H1
    clear H1
    have H' := qa H
    clear H
    go_wp2
    go_loopg [8, 27] kj3 (fun kq v8 v27 w' => ∃ (x8_2 : List (S62)) (x27_2 : Int), v27 = .int .i64 x27_2 ∧ Aside0 (spec_PutInteger.l0 kq a1 a2 x8_2 l0 (l0.length : Int) x27_2 = some (r1, r2)) ∧ Aside0 (kq ≤ kj3) ∧ Aside0 (Kd.R k62 62 w' w.heap.size (fun _ => True) v8 x8_2) ∧ Aside0 (Below w.heap.size w w'))
    case atStart => exact ⟨(([] : List (S62))), (0), qf, H', ⟨Nat.le_refl _⟩, ⟨by first | exact Kd.R_nil _ _ _ _ _ | exact Kd.N_nil _ _ _ _ _ | exact Kd.V_nil _ _ _ _ _ | exact Kd.Q_nil _ _ _ _ _ | exact Kd.S_nil _ _ _ _ _⟩, ⟨(zb0 HB)⟩⟩
    case round =>
     clear H'
     try clear c1
     try clear p2
     try clear c3
     try clear c6
     try clear c8
     try clear c13
     try clear p2
     obtain ⟨x8_2, x27_2, rfl, HA, HK2, HO_8, HB⟩ := hrel
     cases gk with
     | zero => exact absurd HA.out (by simp [spec_PutInteger.l0])
     | succ k2 =>
      have H := HA.out
      clear HA
      simp only [spec_PutInteger.l0] at H
      by_cases c14 : x27_2 < (l0.length : Int)
      ·
       rw [if_pos c14] at H
       have c14b0 := decide_eq_true c14
       clear c14
       by_cases c15 : 0 ≤ x27_2
       ·
        rw [if_pos c15] at H
        have c15b0 := decide_eq_true c15
        clear c15
        by_cases c16 : x27_2 < (l0.length : Int)
        ·
         rw [if_pos c16] at H
         have c16b0 := decide_eq_true c16
         clear c16
         replace H := qo H
         obtain ⟨t539, A17, H⟩ := H
         replace H : (spec_PutInteger.l1 k2 a1 a2 x8_2 t539 l0 (l0.length : Int) x27_2 ((rd_T62 l0 x27_2).f0) ((rd_T62 l0 x27_2).f1) ((rd_T62 l0 x27_2).f2) ((rd_T62 l0 x27_2).f3)) = some (r1, r2) := H
         have H' := qa H
         clear H
         have p537 : 0 ≤ (x27_2 : Int) := qd
         have q537 : x27_2 < (l0.length : Int) := qd
         obtain ⟨ad537, e537, hx537_0, hx537_1, hx537_2, hx537_3⟩ := at_T62 HR0.out x27_2 p537 q537
         cases e537
         replace hx537_0 := qb HB hx537_0
         replace hx537_1 := qb HB hx537_1
         replace hx537_2 := qb HB hx537_2
         replace hx537_3 := qb HB hx537_3
         replace p537 := eq_true p537
         replace q537 := eq_true q537
         go_wp2_with (first | ((with_reducible refine gate_dst (N := 10) rfl ?_); refine zbe (N := 10) (cs := #[.int .i64 0, .int .i64 0, .int .i64 0, .int .i64 0]) (t := 62) ?_; intro gb538 hg w18 hbox hb; have BK538 := qa (hbox); have GW538 := qa (zge (zb0 HB) hg); have GE538 := GW538; replace HO_8 := qa (Kd.R_below (Kd.R_elderB (zq3 HO_8) gb538 (Nat.le_of_eq hg.symm)) hb); replace HB := qa (below_step (zb0 HB) hb); clear hb hbox hg; obtain ⟨hcz19_0, hcz19_1, hcz19_2, hcz19_3⟩ := qc4 BK538; obtain ⟨hfz19_0, hfz19_1, hfz19_2, hfz19_3⟩ := qz4 BK538) | ((with_reducible refine gate_callee (f := 50) rfl ?_); refine qg 33 Tryz.func50 #[.agg #[.int .i64 ((rd_T62 l0 x27_2).f0), .int .i64 ((rd_T62 l0 x27_2).f1), .int .i64 ((rd_T62 l0 x27_2).f2), .int .i64 ((rd_T62 l0 x27_2).f3)], .int .i64 a1] ?_; (with_reducible refine (spec_poPower.calls ((rd_T62 l0 x27_2).f0) ((rd_T62 l0 x27_2).f1) ((rd_T62 l0 x27_2).f2) ((rd_T62 l0 x27_2).f3) a1 t539 _ A17.out).mono ?_); rintro e w20 ⟨rfl, hb⟩; refine ⟨_, rfl, ?_⟩; replace HO_8 := qa (Kd.R_below (by (with_reducible repeat (first | apply Kd.R_alloc | apply Kd.R_drewN | apply Kd.R_drew)); exact (Kd.R_mono (Kd.R_far (p := ⟨gb538, 3, none⟩) (Kd.R_far (p := ⟨gb538, 2, none⟩) (Kd.R_far (p := ⟨gb538, 1, none⟩) (Kd.R_far (p := ⟨gb538, 0, none⟩) (Kd.R_mono HO_8.out (fun k_ hk => (⟨hk, hk.2⟩ : _ ∧ k_ ≠ gb538))) (fun _ hk => hk.2) (.int .i64 ((rd_T62 l0 x27_2).f0))) (fun _ hk => hk.2) (.int .i64 ((rd_T62 l0 x27_2).f1))) (fun _ hk => hk.2) (.int .i64 ((rd_T62 l0 x27_2).f2))) (fun _ hk => hk.2) (.int .i64 ((rd_T62 l0 x27_2).f3))) (fun _ h_ => h_.1))) hb); replace BK538 := qa (blk_below (g := gb538) (o := .cells #[.int .i64 ((rd_T62 l0 x27_2).f0), .int .i64 ((rd_T62 l0 x27_2).f1), .int .i64 ((rd_T62 l0 x27_2).f2), .int .i64 ((rd_T62 l0 x27_2).f3)] 62 (0, 0)) (qs BK538) hb); replace HB := qa (below_step (zb1 HB) hb); (try clear hb); (try clear hb2); (try clear hk); (try clear hi)))
         go_loopg [11] k2 (fun kq v11 w' => ∃ (x11_3 : Int) (x539000_3 : Int), v11 = .int .i64 x11_3 ∧ Aside0 (spec_PutInteger.l1 kq a1 a2 x8_2 x11_3 l0 (l0.length : Int) x27_2 x539000_3 ((rd_T62 l0 x27_2).f1) ((rd_T62 l0 x27_2).f2) ((rd_T62 l0 x27_2).f3) = some (r1, r2)) ∧ Aside0 (kq ≤ k2) ∧ Aside0 (Kd.R k62 62 w' w.heap.size (fun k_ => k_ ≠ gb538) u8 x8_2) ∧ Aside0 (w'.heap[gb538]? = some (.cells #[.int .i64 x539000_3, .int .i64 ((rd_T62 l0 x27_2).f1), .int .i64 ((rd_T62 l0 x27_2).f2), .int .i64 ((rd_T62 l0 x27_2).f3)] 62 (0, 0))) ∧ Aside0 (Below w.heap.size w w'))
         case atStart => exact ⟨(t539), ((rd_T62 l0 x27_2).f0), qf, H', ⟨Nat.le_refl _⟩, ⟨by (with_reducible repeat (first | apply Kd.R_alloc | apply Kd.R_drewN | apply Kd.R_drew)); exact Kd.R_mono HO_8.out (fun _ hk => hk.2)⟩, ⟨zq1 BK538⟩, ⟨(zb1 HB)⟩⟩
         case round =>
          clear H'
          try clear c1
          try clear p2
          try clear c3
          try clear c5
          try clear p5
          try clear q5
          try clear hx5
          try clear c6
          try clear c8
          try clear c13
          try clear c14
          try clear c14b0
          try clear c15
          try clear c15b0
          try clear c16
          try clear c16b0
          try clear hcz19_0
          try clear hcz19_1
          try clear hcz19_2
          try clear hcz19_3
          try clear hfz19_0
          try clear hfz19_1
          try clear hfz19_2
          try clear hfz19_3
          try clear hx537_0
          try clear hx537_1
          try clear hx537_2
          try clear hx537_3
          try clear p2
          try clear p537
          try clear q537
          obtain ⟨x11_3, x539000_3, rfl, HA, HK3, HO_8, BK538, HB⟩ := hrel
          cases gk with
          | zero => exact absurd HA.out (by simp [spec_PutInteger.l1])
          | succ k3 =>
           have H := HA.out
           clear HA
           simp only [spec_PutInteger.l1] at H
           by_cases c21 : x11_3 > 0
           ·
            rw [if_pos c21] at H
            have c21b0 := decide_eq_true c21
            clear c21
            have H' := qa H
            clear H
            have hcz22_0 : wr.cell? ⟨gb538, 0, none⟩ = some (.int .i64 x539000_3) := zc BK538 0
            have hcz22_1 : wr.cell? ⟨gb538, 1, none⟩ = some (.int .i64 ((rd_T62 l0 x27_2).f1)) := zc BK538 1
            have hcz22_2 : wr.cell? ⟨gb538, 2, none⟩ = some (.int .i64 ((rd_T62 l0 x27_2).f2)) := zc BK538 2
            have hcz22_3 : wr.cell? ⟨gb538, 3, none⟩ = some (.int .i64 ((rd_T62 l0 x27_2).f3)) := zc BK538 3
            have hfz22_0 := blk_frozen BK538.out 0
            have hfz22_1 := blk_frozen BK538.out 1
            have hfz22_2 := blk_frozen BK538.out 2
            have hfz22_3 := blk_frozen BK538.out 3
            go_wp2
            go_roundg k3
            case measure => have := HJ3.out; have := HK2.out; have := HK3.out; omega
            case rel => exact ⟨(wrap64 (x11_3 - 1)), (wrap64 (x539000_3 * a2)), qf, H', ⟨by have := HJ3.out; have := HK2.out; have := HK3.out; omega⟩, ⟨by (with_reducible repeat (first | apply Kd.R_alloc | apply Kd.R_drewN | apply Kd.R_drew)); exact Kd.R_mono (Kd.R_far (p := ⟨gb538, 0, none⟩) (Kd.R_mono HO_8.out (fun k_ hk => (⟨hk, hk⟩ : _ ∧ k_ ≠ gb538))) (fun _ hk => hk.2) (.int .i64 (wrap64 (x539000_3 * a2)))) (fun _ hk => hk.1)⟩, ⟨qs BK538⟩, ⟨(zb1 HB)⟩⟩
           ·
            rw [if_neg c21] at H
            have c21b0 := decide_eq_false c21
            clear c21
            replace H := qo H
            obtain ⟨⟨t540, t541, t542, t543⟩, A23, H⟩ := H
            replace H : (if x8_2.length < 4398046511104 then (spec_PutInteger.l0 k3 a1 a2 (x8_2 ++ [(⟨t540, t541, t542, t543⟩ : S62)]) l0 (l0.length : Int) (wrap64 (x27_2 + 1))) else (none)) = some (r1, r2) := H
            by_cases c24 : x8_2.length < 4398046511104
            ·
             rw [if_pos c24] at H
             have LMc24 := qa c24
             clear c24
             obtain ⟨y544, hy544⟩ : ∃ y_ : List (S62), y_ = (x8_2 ++ [(⟨t540, t541, t542, t543⟩ : S62)]) := ⟨_, rfl⟩
             replace H : (spec_PutInteger.l0 k3 a1 a2 y544 l0 (l0.length : Int) (wrap64 (x27_2 + 1))) = some (r1, r2) := by first | (rw [hy544]; with_reducible exact H) | (have H2_ := (Option.bind_some _ _).symm.trans H; rw [hy544]; with_reducible exact H2_) | (have H2_ := (Option.bind_some _ _).symm.trans H; with_reducible exact H2_) | with_reducible exact H | (rw [hy544]; exact H) | exact H
             have Ny544 := qa hy544
             clear hy544
             have H' := qa H
             clear H
             have hcz25_0 : wr.cell? ⟨gb538, 0, none⟩ = some (.int .i64 x539000_3) := zc BK538 0
             have hcz25_1 : wr.cell? ⟨gb538, 1, none⟩ = some (.int .i64 ((rd_T62 l0 x27_2).f1)) := zc BK538 1
             have hcz25_2 : wr.cell? ⟨gb538, 2, none⟩ = some (.int .i64 ((rd_T62 l0 x27_2).f2)) := zc BK538 2
             have hcz25_3 : wr.cell? ⟨gb538, 3, none⟩ = some (.int .i64 ((rd_T62 l0 x27_2).f3)) := zc BK538 3
             have hfz25_0 := blk_frozen BK538.out 0
             have hfz25_1 := blk_frozen BK538.out 1
             have hfz25_2 := blk_frozen BK538.out 2
             have hfz25_3 := blk_frozen BK538.out 3
             go_wp2_with (first | ((with_reducible refine gate_callee (f := 51) rfl ?_); refine qg 46 Tryz.func51 #[.agg #[.int .i64 x539000_3, .int .i64 ((rd_T62 l0 x27_2).f1), .int .i64 ((rd_T62 l0 x27_2).f2), .int .i64 ((rd_T62 l0 x27_2).f3)], .int .i64 a1, .int .i64 0] ?_; (with_reducible refine (spec_poWith.calls x539000_3 ((rd_T62 l0 x27_2).f1) ((rd_T62 l0 x27_2).f2) ((rd_T62 l0 x27_2).f3) a1 0 t540 t541 t542 t543 _ A23.out).mono ?_); rintro e w26 ⟨rfl, hb⟩; refine ⟨_, rfl, ?_⟩; replace HO_8 := qa (Kd.R_below (zq3 HO_8) hb); replace BK538 := qa (zbb BK538 hb); replace HB := qa (below_step (zb1 HB) hb); (try clear hb); (try clear hb2); (try clear hk); (try clear hi)) | ((with_reducible refine gate_builtin (b := .append) (xs := #[.tmp 43, .tmp 47]) rfl ?_); at_builtin; refine Kd.R_append k62 (w0 := w) w.heap.size rfl (.tmp 43) (.tmp 47) 24 62 (.agg #[(.int .i64 0), (.int .i64 0), (.int .i64 0), (.int .i64 0)]) 32 rfl Tryz.underlying24 info62 rfl (by decide) (by omega) u8 x8_2 (⟨t540, t541, t542, t543⟩ : S62) [.int .i64 t540, .int .i64 t541, .int .i64 t542, .int .i64 t543] (fun k_ => k_ ≠ gb538) (fun _ => False) rfl rfl ?aP (fun _ hk => hk.elim) ?aF ?aO ?aB ?aS ?aL ?_; (case aP => exact k62_mkM _ _ _ (⟨t540, t541, t542, t543⟩ : S62)); (case aB => exact (zb1 HB)); (case aF => exact (fun k_ hk => Kd.freshB (g := gb538) (o := .cells #[.int .i64 x539000_3, .int .i64 ((rd_T62 l0 x27_2).f1), .int .i64 ((rd_T62 l0 x27_2).f2), .int .i64 ((rd_T62 l0 x27_2).f3)] 62 (0, 0)) (zq1 BK538) k_ hk)); (case aO => exact (zq3 HO_8)); (case aS => exact (below_size (zb1 HB))); (case aL => have := LMc24.out; omega); intro v545 w27 ho hb hg hat; rw [← Ny544.out] at ho; have HO546 := qa (ho); replace BK538 := qa (blk_grown (g := gb538) (o := .cells #[.int .i64 x539000_3, .int .i64 ((rd_T62 l0 x27_2).f1), .int .i64 ((rd_T62 l0 x27_2).f2), .int .i64 ((rd_T62 l0 x27_2).f3)] 62 (0, 0)) (zq1 BK538) hg (Kd.R_away HO_8.out (fun _ hk => hk))); replace HB := qa (hb); clear HO_8; clear ho hb hg hat))
             go_roundg k3
             case measure => have := HJ3.out; have := HK2.out; have := HK3.out; omega
             case rel => exact ⟨(y544), (wrap64 (x27_2 + 1)), qf, H', ⟨by have := HJ3.out; have := HK2.out; have := HK3.out; omega⟩, ⟨by (with_reducible repeat (first | apply Kd.R_alloc | apply Kd.R_drewN | apply Kd.R_drew)); exact Kd.R_mono HO546.out (fun _ hk => trivial)⟩, ⟨(zb1 HB)⟩⟩
            ·
             rw [if_neg c24] at H
             exact absurd H (by simp)
        ·
         rw [if_neg c16] at H
         exact absurd H (by simp)
       ·
        rw [if_neg c15] at H
        exact absurd H (by simp)
      ·
       rw [if_neg c14] at H
       have c14b0 := decide_eq_false c14
       clear c14
       replace H := qo H
       obtain ⟨⟨t533, t534⟩, A28, H⟩ := H
       replace H : (some (t533, t534)) = some (r1, r2) := H
       simp only [Option.some.injEq, Prod.mk.injEq] at H
       obtain ⟨rfl, rfl⟩ := H
       obtain ⟨Ao29, co29, eo29⟩ := Kd.R_slice HO_8.out
       subst eo29
       go_wp2_with (first | ((with_reducible refine gate_callee (f := 52) rfl ?_); refine qg 51 Tryz.func52 #[.slice Ao29 x8_2.length co29] ?_; (with_reducible refine (spec_poSum.calls k2 _ _ x8_2 t533 t534 _ ?side1 ?side2 A28.out).mono ?_); (case side1 => repeat (first | exact (Kd.R_reads' HO_8.out).2.2 | (with_reducible refine Kd.C_alloc ?_ _) | (with_reducible refine Kd.C_drewN ?_ _) | (with_reducible refine Kd.C_drew ?_))); (case side2 => exact (Kd.R_reads' HO_8.out).2.1); rintro e w30 ⟨v535, rfl, ho0, hb⟩; refine ⟨_, rfl, ?_⟩; have HO536 := qa (Kd.R_lower (Kd.R_new' ho0 (Kd.R_lt (zq3 HO_8))) (below_size (zb0 HB))); replace HO_8 := qa (Kd.R_elder' (zq3 HO_8) (Kd.R_base ho0) hb); replace HB := qa (below_step (zb0 HB) hb); (try clear hb); (try clear hb2); (try clear hk); (try clear hi); (try clear ho0)))
       go_ret2
       exact ⟨_, by first | rfl | (simp [errW_none, errW_some] <;> rfl) | (simp [*, errW_none, errW_some] <;> rfl), by (with_reducible repeat (first | apply Kd.R_alloc | apply Kd.R_drewN | apply Kd.R_drew)); exact Kd.R_mono HO536.out (fun _ hk => trivial), (zb0 HB)⟩
/-! ### impl_DegreeIn: function 14 -/
-- PROOF
set_option maxHeartbeats 8000000 in
set_option maxRecDepth 100000 in
theorem impl_DegreeIn.exps (c x y z : Int) (w : World) : Calls Tryz.prog 34 #[.agg #[.int .i64 c, .int .i64 x, .int .i64 y, .int .i64 z]] w fun e w' => e = .returned (.agg #[.int .i64 x, .int .i64 y, .int .i64 z]) ∧ Below w.heap.size w w' := by
 have hu55 := Tryz.underlying62
 have HB := qa (Below.refl w.heap.size w)
 go_enter Tryz.func34, Tryz.ntmps34
 go_wp2_with (first | ((with_reducible refine gate_dst (N := 1) rfl ?_); refine zbe (N := 1) (cs := #[.int .i64 c, .int .i64 x, .int .i64 y, .int .i64 z]) (t := 62) ?_; intro gb1 hg w1 hbox hb; have BK1 := qa hbox; have GW1 := qa (zge (zb0 HB) hg); replace HB := qa (below_step (zb0 HB) hb); clear hb hbox hg) | ((with_reducible refine gate_dst (N := 2) rfl ?_); refine zbe (N := 2) (cs := #[.int .i64 0, .int .i64 0, .int .i64 0]) (t := 63) ?_; intro gb2 hg w2 hbox hb; have BK2 := qa hbox; have GW2 := qa (zge (zb0 HB) hg); replace BK1 := qa (zbb BK1 hb); replace HB := qa (below_step (zb0 HB) hb); clear hb hbox hg; have hc1 : w2.cell? ⟨gb1, 1, none⟩ = some (.int .i64 x) := zc BK1 1; have hc2 : w2.cell? ⟨gb1, 2, none⟩ = some (.int .i64 y) := zc BK1 2; have hc3 : w2.cell? ⟨gb1, 3, none⟩ = some (.int .i64 z) := zc BK1 3; have hd0 : w2.cell? ⟨gb2, 0, none⟩ = some (.int .i64 0) := zc BK2 0; have hd1 : w2.cell? ⟨gb2, 1, none⟩ = some (.int .i64 0) := zc BK2 1; have hd2 : w2.cell? ⟨gb2, 2, none⟩ = some (.int .i64 0) := zc BK2 2; have hf0 := blk_frozen BK2.out 0; have hf1 := blk_frozen BK2.out 1; have hf2 := blk_frozen BK2.out 2))
 refine bodyPost_ret (results_cell_row rfl _ _ gb2 63 #[.int .i64 x, .int .i64 y, .int .i64 z] (0, 0) _ rfl (qs BK2) Tryz.underlying63 rfl (by kernel_rfl)) rfl ?_
 exact ⟨qf, (zb1 HB)⟩
theorem impl_DegreeIn.ix0 (x y z : Int) (w : World) : (Instr.index 63 (.agg #[.int .i64 x, .int .i64 y, .int .i64 z]) (.int .i64 0)).run Tryz.prog w = .ok (.int .i64 x) w := by
 have hA := Tryz.underlying63
 simp only [Instr.index]
 go_simp
theorem impl_DegreeIn.ix1 (x y z : Int) (w : World) : (Instr.index 63 (.agg #[.int .i64 x, .int .i64 y, .int .i64 z]) (.int .i64 1)).run Tryz.prog w = .ok (.int .i64 y) w := by
 have hA := Tryz.underlying63
 simp only [Instr.index]
 go_simp
theorem impl_DegreeIn.ix2 (x y z : Int) (w : World) : (Instr.index 63 (.agg #[.int .i64 x, .int .i64 y, .int .i64 z]) (.int .i64 2)).run Tryz.prog w = .ok (.int .i64 z) w := by
 have hA := Tryz.underlying63
 simp only [Instr.index]
 go_simp
set_option maxHeartbeats 8000000 in
set_option maxRecDepth 100000 in
theorem impl_DegreeIn.calls (k : Nat) (A0 : Option Addr) (c0 : Nat) (l0 : List (S62)) (a1 : Int) (r1 : Int) (r2 : Bool) (w : World) (hr0 : Kd.C k62 w A0 l0.length l0) (hc0 : l0.length ≤ c0) (h : impl_DegreeIn.f k l0 a1 = some (r1, r2)) :
  Calls Tryz.prog 14 #[.slice A0 l0.length c0, .int .i64 a1] w fun e w' => e = .returned (.tuple #[.int .i64 r1, .bool r2]) ∧ Below w.heap.size w w' := by
 have hu55 := Tryz.underlying62
 have HR0 := qa hr0
 have HC0 := qa hc0
 have HB := qa (Below.refl w.heap.size w)
 clear hr0 hc0
 unfold impl_DegreeIn.f at h
 obtain ⟨b1, hA0, h⟩ := Option.bind_eq_some_iff.mp h
 have hA := qa hA0
 clear hA0
 cases b1
 ·
  rw [if_neg Bool.false_ne_true] at h
  simp only [Option.some.injEq, Prod.mk.injEq] at h
  obtain ⟨rfl, rfl⟩ := h
  go_enter Tryz.func14, Tryz.ntmps14
  go_wp2_with (((with_reducible refine gate_callee (f := 30) rfl ?_); refine qg 10 Tryz.func30 #[.slice A0 l0.length c0] ?_; refine (impl_isPoly.calls k _ _ l0 _ _ HR0.out HC0.out hA.out).mono ?_; rintro e w4 ⟨rfl, hb⟩; refine ⟨_, rfl, ?_⟩; replace HB := qa (below_step (zb0 HB) hb); clear hb))
  go_ret2
  exact ⟨qf, (zb1 HB)⟩
 ·
  rw [if_pos rfl] at h
  obtain ⟨b2, hU0, h⟩ := Option.bind_eq_some_iff.mp h
  have hU := qa hU0
  clear hU0
  cases b2
  ·
   rw [if_neg Bool.false_ne_true] at h
   simp only [Option.some.injEq, Prod.mk.injEq] at h
   obtain ⟨rfl, rfl⟩ := h
   go_enter Tryz.func14, Tryz.ntmps14
   go_wp2_with (first | ((with_reducible refine gate_callee (f := 30) rfl ?_); refine qg 10 Tryz.func30 #[.slice A0 l0.length c0] ?_; refine (impl_isPoly.calls k _ _ l0 _ _ HR0.out HC0.out hA.out).mono ?_; rintro e w4 ⟨rfl, hb⟩; refine ⟨_, rfl, ?_⟩; replace HB := qa (below_step (zb0 HB) hb); clear hb) | (go_at_call 46; refine (impl_isUnknown.calls _ _ _ hU.out).mono ?_; rintro e w' ⟨rfl, ⟨nd, rfl⟩⟩))
   go_ret2
   exact ⟨qf, (zb1 HB)⟩
  ·
   rw [if_pos rfl] at h
   by_cases q0 : 0 ≤ a1
   ·
    rw [if_pos q0] at h
    by_cases q2 : a1 ≤ 2
    ·
     rw [if_pos q2] at h
     obtain ⟨aa, haa⟩ : ∃ aa, aa = a1 := ⟨_, rfl⟩
     rw [← haa] at h
     have H' := qa h
     clear h
     have hcase : a1 = 0 ∨ a1 = 1 ∨ a1 = 2 := by omega
     clear q0 q2
     rcases hcase with rfl | rfl | rfl
     all_goals (
      go_enter Tryz.func14, Tryz.ntmps14
      go_wp2_with (first | ((with_reducible refine gate_callee (f := 30) rfl ?_); refine qg 10 Tryz.func30 #[.slice A0 l0.length c0] ?_; refine (impl_isPoly.calls k _ _ l0 _ _ HR0.out HC0.out hA.out).mono ?_; rintro e w4 ⟨rfl, hb⟩; refine ⟨_, rfl, ?_⟩; replace HB := qa (below_step (zb0 HB) hb); clear hb) | (go_at_call 46; refine (impl_isUnknown.calls _ _ _ hU.out).mono ?_; rintro e w' ⟨rfl, ⟨nd, rfl⟩⟩))
      go_loopg [6, 19] k (fun kq v6 v19 w' => ∃ (m : Int) (i : Int), v6 = .int .i64 m ∧ v19 = .int .i64 i ∧ Aside0 (impl_DegreeIn.l0 kq l0 aa m i = some (r1, r2)) ∧ Aside0 (kq ≤ k) ∧ Aside0 (Below w.heap.size w w'))
      case atStart => exact ⟨-1, 0, qf, qf, H', ⟨Nat.le_refl _⟩, ⟨(zb0 HB)⟩⟩
      case round =>
       clear H' HB
       obtain ⟨m, i, rfl, rfl, HA, HK1, HB⟩ := hrel
       cases gk with
       | zero => exact absurd HA.out (by simp [impl_DegreeIn.l0])
       | succ k1 =>
        have H := HA.out
        clear HA
        simp only [impl_DegreeIn.l0] at H
        by_cases c : i < (l0.length : Int)
        ·
         rw [if_pos c] at H
         by_cases c' : 0 ≤ i
         ·
          rw [if_pos c'] at H
          obtain ⟨m', hm'⟩ : ∃ m', mx m (impl_DegreeIn.pw (rd_T62 l0 i) aa) = m' := ⟨_, rfl⟩
          rw [hm'] at H
          have H' := qa H
          clear H
          simp only [mx, impl_DegreeIn.pw, haa, if_true, if_false, Int.reduceEq, ↓reduceIte] at hm'
          have cb := decide_eq_true c
          have cb' := decide_eq_true c'
          obtain ⟨ad, ead, hx0, hx1, hx2, hx3⟩ := at_T62 HR0.out i c' c
          subst ead
          have hv0 := hx0; have hv1 := hx1; have hv2 := hx2; have hv3 := hx3
          replace hx0 := qb HB hx0
          replace hx1 := qb HB hx1
          replace hx2 := qb HB hx2
          replace hx3 := qb HB hx3
          have hi0 := impl_DegreeIn.ix0
          have hi1 := impl_DegreeIn.ix1
          have hi2 := impl_DegreeIn.ix2
          have p1 := eq_true c
          have p2 := eq_true c'
          clear c c'
          go_wp2_with (first | ((with_reducible refine gate_dst (N := 8) rfl ?_); refine zbe (N := 8) (cs := #[.int .i64 0, .int .i64 0, .int .i64 0, .int .i64 0]) (t := 62) ?_; intro gb8 hg w8 hbox hb; have BK8 := qa hbox; have GW8 := qa (zge (zb0 HB) hg); replace HB := qa (below_step (zb0 HB) hb); clear hb hbox hg; obtain ⟨hcz8_0, hcz8_1, hcz8_2, hcz8_3⟩ := qc4 BK8; obtain ⟨hfz8_0, hfz8_1, hfz8_2, hfz8_3⟩ := qz4 BK8) | ((with_reducible refine gate_callee (f := 34) rfl ?_); refine qg 25 Tryz.func34 #[.agg #[.int .i64 (rd_T62 l0 i).f0, .int .i64 (rd_T62 l0 i).f1, .int .i64 (rd_T62 l0 i).f2, .int .i64 (rd_T62 l0 i).f3]] ?_; refine (impl_DegreeIn.exps (rd_T62 l0 i).f0 (rd_T62 l0 i).f1 (rd_T62 l0 i).f2 (rd_T62 l0 i).f3 _).mono ?_; rintro e w9 ⟨rfl, hb⟩; refine ⟨_, rfl, ?_⟩; replace HB := qa (below_step (zb1 HB) hb); clear hb))
          go_roundg k1
          case measure => have := HK1.out; omega
          case rel => exact ⟨m', (wrap64 (i + 1)), qf, qf, H', ⟨by have := HK1.out; omega⟩, ⟨(zb1 HB)⟩⟩
         ·
          rw [if_neg c'] at H; cases H
        ·
         rw [if_neg c] at H
         simp only [Option.some.injEq, Prod.mk.injEq] at H
         obtain ⟨rfl, rfl⟩ := H
         have cb := decide_eq_false c
         clear c
         go_wp2
         go_ret2
         exact ⟨qf, (zb1 HB)⟩)
    ·
     rw [if_neg q2] at h; cases h
   ·
    rw [if_neg q0] at h; cases h
/-! ### impl_UnknownsOf: function 15 -/
-- PROOF
set_option maxHeartbeats 8000000 in
set_option maxRecDepth 100000 in
theorem impl_UnknownsOf.clos (c x y z : Int) (g : Nat) (u : Int) (w : World) (hG : w.heap[g]? = some (.cells #[.int .i64 u] 3 (0, 0))) (h0 : 0 ≤ u) (h2 : u ≤ 2) :
  Calls Tryz.prog 54 #[.agg #[.int .i64 c, .int .i64 x, .int .i64 y, .int .i64 z], .pointer (some ⟨g, 0, none⟩)] w fun e w' => e = .returned (.bool (decide (impl_DegreeIn.pw ⟨c, x, y, z⟩ u > 0))) ∧ Below w.heap.size w w' := by
 have hu55 := Tryz.underlying62
 have HB := qa (Below.refl w.heap.size w)
 have BKG := qa hG
 have hcase : u = 0 ∨ u = 1 ∨ u = 2 := by omega
 have hi0 := impl_DegreeIn.ix0
 have hi1 := impl_DegreeIn.ix1
 have hi2 := impl_DegreeIn.ix2
 clear hG h0 h2
 rcases hcase with rfl | rfl | rfl
 all_goals (
  go_enter Tryz.func54, Tryz.ntmps54
  go_wp2_with ((with_reducible refine gate_dst (N := 2) rfl ?_); refine zbe (N := 2) (cs := #[.int .i64 c, .int .i64 x, .int .i64 y, .int .i64 z]) (t := 62) ?_; intro gb2 hg w2 hbox hb; have BK2 := qa hbox; have GW2 := qa (zge (zb0 HB) hg); replace BKG := qa (zbb BKG hb); replace HB := qa (below_step (zb0 HB) hb); clear hb hbox hg)
  replace HB := qa (below_drew1 HB.out)
  replace BKG := qa (blk_drew BKG.out)
  replace BK2 := qa (blk_drew BK2.out)
  refine start_ (n := 6) (S := fun w' => w'.cell? ⟨gb2, 0, none⟩ = some (.int .i64 c) ∧ w'.cell? ⟨gb2, 1, none⟩ = some (.int .i64 x) ∧ w'.cell? ⟨gb2, 2, none⟩ = some (.int .i64 y) ∧ w'.cell? ⟨gb2, 3, none⟩ = some (.int .i64 z) ∧ w'.cell? ⟨g, 0, none⟩ = some (.int .i64 _)) (ds := []) (bn 6 0) (by kernel_rfl) rfl rfl ⟨zc BK2 0, zc BK2 1, zc BK2 2, zc BK2 3, zc BKG 0⟩ (fun hHeld => ?_)
  generalize w2.drew = w3 at HB BKG BK2 hHeld ⊢
  refine take_ (i := 0) (N := some 4) (v := ?_) (a' := ?_) (bn 6 1) rfl rfl (by kernel_rfl) (fun _ _ _ h => h) (Or.inl ⟨by rfl, ?_⟩) hHeld ?_ ?_
  rotate_left
  ·
   rintro w' ⟨s0, s1, s2, s3, s4⟩
   go_simp
   with_reducible rfl
  rotate_left
  ·
   simp only [Act.put, List.setIfInBounds_toArray, List.set_cons_zero, List.set_cons_succ, i64_w, i32_w]; rfl
  refine take_ (i := 2) (N := some 6) (v := ?_) (a' := ?_) (bn 6 5) rfl rfl (by kernel_rfl) (fun _ _ _ h => h) (Or.inl ⟨by rfl, ?_⟩) hHeld ?_ ?_
  rotate_left
  ·
   rintro w' ⟨s0, s1, s2, s3, s4⟩
   go_simp
   with_reducible rfl
  rotate_left
  ·
   simp only [Act.put, List.setIfInBounds_toArray, List.set_cons_zero, List.set_cons_succ, i64_w, i32_w]; rfl
  refine one_ (i := 1) (N := (some 5)) (bn 6 7) rfl rfl (by kernel_rfl) (by decide) (fun K hK => ?_)
  refine goes_ Tryz.func34 (by kernel_rfl) rfl #[.agg #[.int .i64 c, .int .i64 x, .int .i64 y, .int .i64 z]] (by rfl) rfl rfl zq6 ?_
  refine (impl_DegreeIn.exps c x y z _).mono ?_
  rintro e wn ⟨rfl, hb⟩
  refine ⟨_, rfl, ?_⟩
  replace BKG := qa (zbb BKG hb); replace BK2 := qa (zbb BK2 hb); replace HB := qa (below_step (zb1 HB) hb)
  clear hb
  refine hK.out _ _ ⟨zc BK2 0, zc BK2 1, zc BK2 2, zc BK2 3, zc BKG 0⟩ (fun hHeld => ?_)
  clear hK K
  refine qt ?_
  refine zp (i := 3) (N := some 7) (bn 6 15) (by kernel_rfl) ?_
  refine zp (i := 4) (N := some 8) (bn 6 31) (by kernel_rfl) ?_
  refine zp (i := 5) (N := some 3) (bn 6 63) (by kernel_rfl) ?_
  refine done_ (by kernel_rfl) ?_
  go_wp2
  go_ret
  exact ⟨qf, (zb1 HB)⟩)
set_option maxHeartbeats 8000000 in
set_option maxRecDepth 100000 in
theorem impl_UnknownsOf.index (k : Nat) (A0 : Option Addr) (c0 : Nat) (l0 : List S62) (g : Nat) (u r : Int) (w : World) (hr0 : Kd.C k62 w A0 l0.length l0) (hG : w.heap[g]? = some (.cells #[.int .i64 u] 3 (0, 0))) (h0 : 0 ≤ u) (h2 : u ≤ 2) (h : impl_UnknownsOf.ix k l0 u 0 = some r) :
  Calls Tryz.prog 77 #[.slice A0 l0.length c0, .func (.func 54) #[] #[.pointer (some ⟨g, 0, none⟩)]] w fun e w' => e = .returned (.int .i64 r) ∧ Below w.heap.size w w' := by
 have hu55 := Tryz.underlying62
 have HR0 := qa hr0
 have HB := qa (Below.refl w.heap.size w)
 have BKG := qa hG
 have H' := qa h
 clear hr0 hG h
 go_enter Tryz.func77, Tryz.ntmps77
 go_wp2
 go_loopg [8] k (fun kq v8 w' => ∃ (i : Int), v8 = .int .i64 i ∧ Aside0 (impl_UnknownsOf.ix kq l0 u i = some r) ∧ Aside0 (kq ≤ k) ∧ Aside0 (w'.heap[g]? = some (.cells #[.int .i64 u] 3 (0, 0))) ∧ Aside0 (Below w.heap.size w w'))
 case atStart => exact ⟨0, qf, H', ⟨Nat.le_refl _⟩, ⟨zq1 BKG⟩, ⟨(zb0 HB)⟩⟩
 case round =>
  clear H' HB BKG
  obtain ⟨i, rfl, HA, HK1, BKG, HB⟩ := hrel
  cases gk with
  | zero => exact absurd HA.out (by simp [impl_UnknownsOf.ix])
  | succ k1 =>
   have H := HA.out
   clear HA
   simp only [impl_UnknownsOf.ix] at H
   by_cases c : i < (l0.length : Int)
   ·
    rw [if_pos c] at H
    by_cases c' : 0 ≤ i
    ·
     rw [if_pos c'] at H
     have cb := decide_eq_true c
     have cb' := decide_eq_true c'
     obtain ⟨ad, ead, hx0, hx1, hx2, hx3⟩ := at_T62 HR0.out i c' c
     subst ead
     replace hx0 := qb HB hx0
     replace hx1 := qb HB hx1
     replace hx2 := qb HB hx2
     replace hx3 := qb HB hx3
     have p1 := eq_true c
     have p2 := eq_true c'
     clear c c'
     by_cases cg : impl_DegreeIn.pw (rd_T62 l0 i) u > 0
     ·
      rw [if_pos cg] at H
      obtain rfl := Option.some.inj H
      have cgb := decide_eq_true cg
      go_wp2_with (go_at_call 54; refine (impl_UnknownsOf.clos (rd_T62 l0 i).f0 (rd_T62 l0 i).f1 (rd_T62 l0 i).f2 (rd_T62 l0 i).f3 g u _ (zq1 BKG) h0 h2).mono ?_; rintro e w6 ⟨rfl, hb⟩; replace BKG := qa (zbb BKG hb); replace HB := qa (below_step (zb0 HB) hb); clear hb)
      go_ret
      exact ⟨qf, (zb1 HB)⟩
     ·
      rw [if_neg cg] at H
      have H' := qa H
      have cgb := decide_eq_false cg
      clear H
      go_wp2_with (go_at_call 54; refine (impl_UnknownsOf.clos (rd_T62 l0 i).f0 (rd_T62 l0 i).f1 (rd_T62 l0 i).f2 (rd_T62 l0 i).f3 g u _ (zq1 BKG) h0 h2).mono ?_; rintro e w6 ⟨rfl, hb⟩; replace BKG := qa (zbb BKG hb); replace HB := qa (below_step (zb0 HB) hb); clear hb)
      go_roundg k1
      case measure => have := HK1.out; omega
      case rel => exact ⟨(wrap64 (i + 1)), qf, H', ⟨by have := HK1.out; omega⟩, ⟨zq1 BKG⟩, ⟨(zb0 HB)⟩⟩
    ·
     rw [if_neg c'] at H; cases H
   ·
    rw [if_neg c] at H
    obtain rfl := Option.some.inj H
    have cb := decide_eq_false c
    clear c
    go_wp2
    go_ret
    exact ⟨qf, (zb1 HB)⟩
theorem impl_UnknownsOf.cont (k : Nat) (A0 : Option Addr) (c0 : Nat) (l0 : List S62) (g : Nat) (u r : Int) (w : World) (hr0 : Kd.C k62 w A0 l0.length l0) (hG : w.heap[g]? = some (.cells #[.int .i64 u] 3 (0, 0))) (h0 : 0 ≤ u) (h2 : u ≤ 2) (h : impl_UnknownsOf.ix k l0 u 0 = some r) :
  Calls Tryz.prog 53 #[.slice A0 l0.length c0, .func (.func 54) #[] #[.pointer (some ⟨g, 0, none⟩)]] w fun e w' => e = .returned (.bool (decide (r ≥ 0))) ∧ Below w.heap.size w w' := by
 have HB := qa (Below.refl w.heap.size w)
 go_enter Tryz.func53, Tryz.ntmps53
 go_wp2_with (go_at_call 77; refine (impl_UnknownsOf.index k _ _ l0 g u r _ hr0 hG h0 h2 h).mono ?_; rintro e w6 ⟨rfl, hb⟩; replace HB := qa (below_step (zb0 HB) hb); clear hb)
 go_ret
 exact ⟨qf, (zb1 HB)⟩
set_option maxHeartbeats 8000000 in
set_option maxRecDepth 100000 in
theorem impl_UnknownsOf.calls (k : Nat) (A0 : Option Addr) (c0 : Nat) (l0 : List (S62)) (r1 : List Int) (r2 : Bool) (w : World) (hr0 : Kd.C k62 w A0 l0.length l0) (hc0 : l0.length ≤ c0) (h : impl_UnknownsOf.f k l0 = some (r1, r2)) :
  Calls Tryz.prog 15 #[.slice A0 l0.length c0] w fun e w' => ∃ v0_ : Value, e = .returned (.tuple #[v0_, .bool r2]) ∧ Kd.R (Kd.int .i64) 3 w' w.heap.size (fun _ => True) v0_ r1 ∧ Below w.heap.size w w' := by
 have hu55 := Tryz.underlying62
 have HR0 := qa hr0
 have HC0 := qa hc0
 have HB := qa (Below.refl w.heap.size w)
 clear hr0 hc0
 unfold impl_UnknownsOf.f at h
 obtain ⟨b1, hA0, h⟩ := Option.bind_eq_some_iff.mp h
 have hA := qa hA0
 clear hA0
 cases b1
 ·
  rw [if_neg Bool.false_ne_true] at h
  simp only [Option.some.injEq, Prod.mk.injEq] at h
  obtain ⟨rfl, rfl⟩ := h
  go_enter Tryz.func15, Tryz.ntmps15
  go_wp2_with (((with_reducible refine gate_callee (f := 30) rfl ?_); refine qg 7 Tryz.func30 #[.slice A0 l0.length c0] ?_; refine (impl_isPoly.calls k _ _ l0 _ _ HR0.out HC0.out hA.out).mono ?_; rintro e w4 ⟨rfl, hb⟩; refine ⟨_, rfl, ?_⟩; replace HB := qa (below_step (zb0 HB) hb); clear hb))
  go_ret2
  exact ⟨_, by first | rfl | (simp; done) | (simp [*]; done), Kd.R_nil _ _ _ _ _, (zb1 HB)⟩
 ·
  rw [if_pos rfl] at h
  have H' := qa h
  clear h
  go_enter Tryz.func15, Tryz.ntmps15
  go_wp2_with (((with_reducible refine gate_callee (f := 30) rfl ?_); refine qg 7 Tryz.func30 #[.slice A0 l0.length c0] ?_; refine (impl_isPoly.calls k _ _ l0 _ _ HR0.out HC0.out hA.out).mono ?_; rintro e w4 ⟨rfl, hb⟩; refine ⟨_, rfl, ?_⟩; replace HB := qa (below_step (zb0 HB) hb); clear hb))
  go_loopg [4, 9] k (fun kq v4 v9 w' => ∃ (xs : List Int) (i : Int), v9 = .int .i64 i ∧ Aside0 (impl_UnknownsOf.l0 kq l0 xs i = some (r1, r2)) ∧ Aside0 (kq ≤ k) ∧ Aside0 (Kd.R (Kd.int .i64) 3 w' w.heap.size (fun _ => True) v4 xs) ∧ Aside0 (Below w.heap.size w w'))
  case atStart => exact ⟨[], 0, qf, H', ⟨Nat.le_refl _⟩, ⟨Kd.R_nil _ _ _ _ _⟩, ⟨(zb0 HB)⟩⟩
  case round =>
   clear H' HB
   obtain ⟨xs, i, rfl, HA, HK1, HO, HB⟩ := hrel
   cases gk with
   | zero => exact absurd HA.out (by simp [impl_UnknownsOf.l0])
   | succ k1 =>
    have H := HA.out
    clear HA
    simp only [impl_UnknownsOf.l0] at H
    by_cases c : i < 3
    ·
     rw [if_pos c] at H
     by_cases c' : 0 ≤ i
     ·
      rw [if_pos c'] at H
      obtain ⟨t, hI0, H⟩ := Option.bind_eq_some_iff.mp H
      have hI := qa hI0
      clear hI0
      have cb := decide_eq_true c
      by_cases ct : t ≥ 0
      ·
       rw [if_pos ct] at H
       by_cases cl : xs.length < 17592186044416
       ·
        rw [if_pos cl] at H
        obtain ⟨ys, hys⟩ : ∃ y_ : List Int, y_ = xs ++ [i] := ⟨_, rfl⟩
        rw [← hys] at H
        have NY := qa hys
        have LM := qa cl
        have H' := qa H
        have ctb := decide_eq_true ct
        clear H hys cl
        go_wp2_with (first | ((with_reducible refine gate_dst (N := 5) rfl ?_); refine zbe (N := 5) (cs := #[.int .i64 0]) (t := 3) ?_; intro gb5 hg w5 hbox hb; have BK5 := qa hbox; have GW5 := qa (zge (zb0 HB) hg); replace HO := qa (Kd.R_below (Kd.R_elderB (zq3 HO) gb5 (Nat.le_of_eq hg.symm)) hb); replace HB := qa (below_step (zb0 HB) hb); clear hb hbox hg; have hcz5_0 : w5.cell? ⟨gb5, 0, none⟩ = some (.int .i64 0) := zc BK5 0; have hfz5_0 := blk_frozen BK5.out 0) | (go_at_call 53; refine (impl_UnknownsOf.cont k1 _ _ l0 gb5 _ t _ (Kd.C_below HR0.out (zb1 HB)) (by exact blk_put (cs := #[.int .i64 0]) BK5.out 0 _ rfl) (by omega) (by omega) hI.out).mono ?_; rintro e w6 ⟨rfl, hb⟩; have BX5 := blk_below (blk_put (cs := #[.int .i64 0]) BK5.out 0 (.int .i64 i) rfl) hb; have HX := Kd.R_below (Kd.R_far (p := ⟨gb5, 0, none⟩) HO.out (fun _ hk => hk.2) (.int .i64 i)) hb; replace HB := qa (below_step (zb1 HB) hb); clear hcz5_0 hfz5_0 BK5 HO hb; have BK5 := qa BX5; have HO := qa (Kd.R_mono HX (fun _ _ => trivial) : Kd.R (Kd.int .i64) 3 w6 w.heap.size (fun _ => True) _ xs); clear BX5 HX; have hd5 : w6.cell? ⟨gb5, 0, none⟩ = some (.int .i64 i) := zc BK5 0) | ((with_reducible refine gate_builtin (b := .append) (xs := #[.tmp 15, .tmp 17]) rfl ?_); at_builtin; refine Kd.R_append (Kd.int .i64) (w0 := w) w.heap.size rfl (.tmp 15) (.tmp 17) 25 3 (.int .i64 0) 8 rfl Tryz.underlying25 info3 rfl (by decide) (by omega) u4 xs i [.int .i64 i] (fun _ => True) (fun _ => False) rfl (by first | (go_simp; done) | (go_simp; rfl)) ?aP (fun _ hk => hk.elim) ?aF ?aO ?aB ?aS ?aL ?_; (case aP => exact rfl); (case aB => exact (zb1 HB)); (case aF => exact (fun _ _ => trivial)); (case aO => exact (zq3 HO)); (case aS => exact (below_size (zb1 HB))); (case aL => have := LM.out; omega); intro v43 wy ho hb hg hat; rw [← NY.out] at ho; have HO' := qa ho; replace HB := qa hb; clear ho hb hg hat))
        go_roundg k1
        case measure => have := HK1.out; omega
        case rel => exact ⟨ys, (wrap64 (i + 1)), (by first | rfl | (rw [show wrap64 (i + 1) = i + 1 by unfold wrap64; omega]; done) | (rw [show wrap64 (i + 1) = i + 1 by unfold wrap64; omega]) | (simp; done)), H', ⟨by have := HK1.out; omega⟩, ⟨zq3 HO'⟩, ⟨(zb1 HB)⟩⟩
       ·
        rw [if_neg cl] at H; cases H
      ·
       rw [if_neg ct] at H
       have H' := qa H
       have ctb := decide_eq_false ct
       clear H
       go_wp2_with (first | ((with_reducible refine gate_dst (N := 5) rfl ?_); refine zbe (N := 5) (cs := #[.int .i64 0]) (t := 3) ?_; intro gb5 hg w5 hbox hb; have BK5 := qa hbox; have GW5 := qa (zge (zb0 HB) hg); replace HO := qa (Kd.R_below (Kd.R_elderB (zq3 HO) gb5 (Nat.le_of_eq hg.symm)) hb); replace HB := qa (below_step (zb0 HB) hb); clear hb hbox hg; have hcz5_0 : w5.cell? ⟨gb5, 0, none⟩ = some (.int .i64 0) := zc BK5 0; have hfz5_0 := blk_frozen BK5.out 0) | (go_at_call 53; refine (impl_UnknownsOf.cont k1 _ _ l0 gb5 _ t _ (Kd.C_below HR0.out (zb1 HB)) (by exact blk_put (cs := #[.int .i64 0]) BK5.out 0 _ rfl) (by omega) (by omega) hI.out).mono ?_; rintro e w6 ⟨rfl, hb⟩; have BX5 := blk_below (blk_put (cs := #[.int .i64 0]) BK5.out 0 (.int .i64 i) rfl) hb; have HX := Kd.R_below (Kd.R_far (p := ⟨gb5, 0, none⟩) HO.out (fun _ hk => hk.2) (.int .i64 i)) hb; replace HB := qa (below_step (zb1 HB) hb); clear hcz5_0 hfz5_0 BK5 HO hb; have BK5 := qa BX5; have HO := qa (Kd.R_mono HX (fun _ _ => trivial) : Kd.R (Kd.int .i64) 3 w6 w.heap.size (fun _ => True) _ xs); clear BX5 HX; have hd5 : w6.cell? ⟨gb5, 0, none⟩ = some (.int .i64 i) := zc BK5 0))
       go_roundg k1
       case measure => have := HK1.out; omega
       case rel => exact ⟨xs, (wrap64 (i + 1)), (by first | rfl | (rw [show wrap64 (i + 1) = i + 1 by unfold wrap64; omega]; done) | (rw [show wrap64 (i + 1) = i + 1 by unfold wrap64; omega]) | (simp; done)), H', ⟨by have := HK1.out; omega⟩, ⟨zq3 HO⟩, ⟨(zb1 HB)⟩⟩
     ·
      rw [if_neg c'] at H; cases H
    ·
     rw [if_neg c] at H
     simp only [Option.some.injEq, Prod.mk.injEq] at H
     obtain ⟨rfl, rfl⟩ := H
     have cb := decide_eq_false c
     clear c
     go_wp2
     go_ret2
     exact ⟨_, by first | rfl | (simp; done) | (simp [*]; done), zq3 HO, (zb1 HB)⟩
/-! ### spec_UnknownsOf: function 16 -/
set_option maxHeartbeats 8000000 in
set_option maxRecDepth 100000 in
theorem spec_UnknownsOf.calls (k : Nat) (A0 : Option Addr) (c0 : Nat) (l0 : List (S62)) (r1 : List Int) (r2 : Bool) (w : World) (hr0 : Kd.C k62 w A0 l0.length l0) (hc0 : l0.length ≤ c0) (h : spec_UnknownsOf.f k l0 = some (r1, r2)) :
  Calls Tryz.prog 16 #[.slice A0 l0.length c0] w fun e w' => ∃ v0_ : Value, e = .returned (.tuple #[v0_, .bool r2]) ∧ Kd.R (Kd.int .i64) 3 w' w.heap.size (fun _ => True) v0_ r1 ∧ Below w.heap.size w w' := by
 have HR0 := qa hr0
 have HC0 := qa hc0
 clear hr0 hc0
 have HB := qa (Below.refl w.heap.size w)
 have H : ((spec_poGood.f k l0).bind fun t551 => (if t551 = true then (spec_UnknownsOf.l0 k l0 ([] : List Int) 0) else (some (([] : List Int), false)))) = some (r1, r2) := h
 clear h
 replace H := qo H
 obtain ⟨t551, A2, H⟩ := H
 replace H : (if t551 = true then (spec_UnknownsOf.l0 k l0 ([] : List Int) 0) else (some (([] : List Int), false))) = some (r1, r2) := H
 by_cases c3 : t551 = true
 ·
  subst c3
  have H1 : (spec_UnknownsOf.l0 k l0 ([] : List Int) 0) = some (r1, r2) := by rw [if_pos rfl] at H; exact H
  clear H
  have H := H1
  clear H1
  have H' := qa H
  clear H
  go_enter Tryz.func16, Tryz.ntmps16
  go_wp2_with (first | ((with_reducible refine gate_callee (f := 38) rfl ?_); refine qg 7 Tryz.func38 #[.slice A0 l0.length c0] ?_; (with_reducible refine (spec_poGood.calls k _ _ l0 true _ ?side1 ?side2 A2.out).mono ?_); (case side1 => repeat (first | exact HR0.out | (with_reducible refine Kd.C_alloc ?_ _) | (with_reducible refine Kd.C_drewN ?_ _) | (with_reducible refine Kd.C_drew ?_))); (case side2 => exact HC0.out); rintro e w4 ⟨rfl, hb⟩; refine ⟨_, rfl, ?_⟩; replace HB := qa (below_step (zb0 HB) hb); (try clear hb); (try clear hb2); (try clear hk); (try clear hi)))
  go_loopg [4, 5] k (fun kq v4 v5 w' => ∃ (x4_1 : List Int) (x5_1 : Int), v5 = .int .i64 x5_1 ∧ Aside0 (spec_UnknownsOf.l0 kq l0 x4_1 x5_1 = some (r1, r2)) ∧ Aside0 (kq ≤ k) ∧ Aside0 (Kd.R (Kd.int .i64) 3 w' w.heap.size (fun _ => True) v4 x4_1) ∧ Aside0 (Below w.heap.size w w'))
  case atStart => exact ⟨(([] : List Int)), (0), qf, H', ⟨Nat.le_refl _⟩, ⟨by first | exact Kd.R_nil _ _ _ _ _ | exact Kd.N_nil _ _ _ _ _ | exact Kd.V_nil _ _ _ _ _ | exact Kd.Q_nil _ _ _ _ _ | exact Kd.S_nil _ _ _ _ _⟩, ⟨(zb0 HB)⟩⟩
  case round =>
   clear H'
   try clear c1
   try clear p2
   try clear c3
   obtain ⟨x4_1, x5_1, rfl, HA, HK1, HO_4, HB⟩ := hrel
   cases gk with
   | zero => exact absurd HA.out (by simp [spec_UnknownsOf.l0])
   | succ k1 =>
    have H := HA.out
    clear HA
    simp only [spec_UnknownsOf.l0] at H
    by_cases c5 : x5_1 < 3
    ·
     rw [if_pos c5] at H
     have c5b0 := decide_eq_true c5
     clear c5
     replace H := qo H
     obtain ⟨t552, A6, H⟩ := H
     replace H : (if t552 > 0 then (if x4_1.length < 17592186044416 then (spec_UnknownsOf.l0 k1 l0 (x4_1 ++ [x5_1]) (wrap64 (x5_1 + 1))) else (none)) else (spec_UnknownsOf.l0 k1 l0 x4_1 (wrap64 (x5_1 + 1)))) = some (r1, r2) := H
     by_cases c7 : t552 > 0
     ·
      rw [if_pos c7] at H
      have c7b0 := decide_eq_true c7
      clear c7
      by_cases c8 : x4_1.length < 17592186044416
      ·
       rw [if_pos c8] at H
       have LMc8 := qa c8
       clear c8
       obtain ⟨y553, hy553⟩ : ∃ y_ : List Int, y_ = (x4_1 ++ [x5_1]) := ⟨_, rfl⟩
       replace H : (spec_UnknownsOf.l0 k1 l0 y553 (wrap64 (x5_1 + 1))) = some (r1, r2) := by first | (rw [hy553]; with_reducible exact H) | (have H2_ := (Option.bind_some _ _).symm.trans H; rw [hy553]; with_reducible exact H2_) | (have H2_ := (Option.bind_some _ _).symm.trans H; with_reducible exact H2_) | with_reducible exact H | (rw [hy553]; exact H) | exact H
       have Ny553 := qa hy553
       clear hy553
       have H' := qa H
       clear H
       go_wp2_with (first | ((with_reducible refine gate_callee (f := 55) rfl ?_); refine qg 15 Tryz.func55 #[.slice A0 l0.length c0, .int .i64 x5_1] ?_; (with_reducible refine (spec_poDegreeIn.calls k1 _ _ l0 x5_1 t552 _ ?side1 ?side2 A6.out).mono ?_); (case side1 => repeat (first | exact (Kd.C_below HR0.out HB.out) | (with_reducible refine Kd.C_alloc ?_ _) | (with_reducible refine Kd.C_drewN ?_ _) | (with_reducible refine Kd.C_drew ?_))); (case side2 => exact HC0.out); rintro e w9 ⟨rfl, hb⟩; refine ⟨_, rfl, ?_⟩; replace HO_4 := qa (Kd.R_below (zq3 HO_4) hb); replace HB := qa (below_step (zb0 HB) hb); (try clear hb); (try clear hb2); (try clear hk); (try clear hi)) | ((with_reducible refine gate_builtin (b := .append) (xs := #[.tmp 17, .tmp 19]) rfl ?_); at_builtin; refine Kd.R_append (Kd.int .i64) (w0 := w) w.heap.size rfl (.tmp 17) (.tmp 19) 25 3 (.int .i64 0) 8 rfl Tryz.underlying25 info3 rfl (by decide) (by omega) u4 x4_1 x5_1 [.int .i64 x5_1] (fun _ => True) (fun _ => False) rfl rfl ?aP (fun _ hk => hk.elim) ?aF ?aO ?aB ?aS ?aL ?_; (case aP => exact rfl); (case aB => exact (zb0 HB)); (case aF => exact (fun _ _ => trivial)); (case aO => exact (zq3 HO_4)); (case aS => exact (below_size (zb0 HB))); (case aL => have := LMc8.out; omega); intro v554 w10 ho hb hg hat; rw [← Ny553.out] at ho; have HO555 := qa (ho); replace HB := qa (hb); clear HO_4; clear ho hb hg hat))
       go_roundg k1
       case measure => have := HK1.out; omega
       case rel => exact ⟨(y553), (wrap64 (x5_1 + 1)), qf, H', ⟨by have := HK1.out; omega⟩, ⟨by (with_reducible repeat (first | apply Kd.R_alloc | apply Kd.R_drewN | apply Kd.R_drew)); exact HO555.out⟩, ⟨(zb0 HB)⟩⟩
      ·
       rw [if_neg c8] at H
       exact absurd H (by simp)
     ·
      rw [if_neg c7] at H
      have c7b0 := decide_eq_false c7
      clear c7
      have H' := qa H
      clear H
      go_wp2_with (first | ((with_reducible refine gate_callee (f := 55) rfl ?_); refine qg 15 Tryz.func55 #[.slice A0 l0.length c0, .int .i64 x5_1] ?_; (with_reducible refine (spec_poDegreeIn.calls k1 _ _ l0 x5_1 t552 _ ?side1 ?side2 A6.out).mono ?_); (case side1 => repeat (first | exact (Kd.C_below HR0.out HB.out) | (with_reducible refine Kd.C_alloc ?_ _) | (with_reducible refine Kd.C_drewN ?_ _) | (with_reducible refine Kd.C_drew ?_))); (case side2 => exact HC0.out); rintro e w11 ⟨rfl, hb⟩; refine ⟨_, rfl, ?_⟩; replace HO_4 := qa (Kd.R_below (zq3 HO_4) hb); replace HB := qa (below_step (zb0 HB) hb); (try clear hb); (try clear hb2); (try clear hk); (try clear hi)))
      go_roundg k1
      case measure => have := HK1.out; omega
      case rel => exact ⟨(x4_1), (wrap64 (x5_1 + 1)), qf, H', ⟨by have := HK1.out; omega⟩, ⟨by (with_reducible repeat (first | apply Kd.R_alloc | apply Kd.R_drewN | apply Kd.R_drew)); exact HO_4.out⟩, ⟨(zb0 HB)⟩⟩
    ·
     rw [if_neg c5] at H
     have c5b0 := decide_eq_false c5
     clear c5
     simp only [Option.some.injEq, Prod.mk.injEq] at H
     obtain ⟨rfl, rfl⟩ := H
     go_wp2
     go_ret2
     exact ⟨_, by first | rfl | (simp [errW_none, errW_some] <;> rfl) | (simp [*, errW_none, errW_some] <;> rfl), by (with_reducible repeat (first | apply Kd.R_alloc | apply Kd.R_drewN | apply Kd.R_drew)); exact HO_4.out, (zb0 HB)⟩
 ·
  replace c3 := Bool.eq_false_iff.mpr c3
  subst c3
  have H1 : (some (([] : List Int), false)) = some (r1, r2) := by rw [if_neg (show ¬ (false = true) by decide)] at H; exact H
  clear H
  have H := H1
  clear H1
  simp only [Option.some.injEq, Prod.mk.injEq] at H
  obtain ⟨rfl, rfl⟩ := H
  go_enter Tryz.func16, Tryz.ntmps16
  go_wp2_with (first | ((with_reducible refine gate_callee (f := 38) rfl ?_); refine qg 7 Tryz.func38 #[.slice A0 l0.length c0] ?_; (with_reducible refine (spec_poGood.calls k _ _ l0 false _ ?side1 ?side2 A2.out).mono ?_); (case side1 => repeat (first | exact HR0.out | (with_reducible refine Kd.C_alloc ?_ _) | (with_reducible refine Kd.C_drewN ?_ _) | (with_reducible refine Kd.C_drew ?_))); (case side2 => exact HC0.out); rintro e w12 ⟨rfl, hb⟩; refine ⟨_, rfl, ?_⟩; replace HB := qa (below_step (zb0 HB) hb); (try clear hb); (try clear hb2); (try clear hk); (try clear hi)))
  go_ret2
  exact ⟨_, by first | rfl | (simp [errW_none, errW_some] <;> rfl) | (simp [*, errW_none, errW_some] <;> rfl), by first | exact Kd.R_nil _ _ _ _ _ | exact Kd.N_nil _ _ _ _ _ | exact Kd.V_nil _ _ _ _ _ | exact Kd.Q_nil _ _ _ _ _ | exact Kd.S_nil _ _ _ _ _, (zb0 HB)⟩
end Go.Proofs.YthanmlojikidbaaGreat.PD
