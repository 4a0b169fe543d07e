-- By wip/mk/drv.py
import Derived.Test.YthanmlojikidbaaQExchnsPDx0
import Derived.Test.YthanmlojikidbaaQExchnsPDx1
import Derived.Test.YthanmlojikidbaaQExchnsPDx3
import Derived.Test.YthanmlojikidbaaQExchnsPDx12
import Derived.Test.YthanmlojikidbaaQExchnsPDx24
import Derived.Test.YthanmlojikidbaaQExchnsPDx25
import Derived.Test.YthanmlojikidbaaQExchnsSq
namespace Go.Proofs.Ythanmlojikidbaa.PD
open Go.RowKit Go.Proofs.YthanmlojikidbaaW.PrintWords Go.Proofs.YthanmlojikidbaaW.PrintLast Go.Proofs.YthanmlojikidbaaW.PrintMore
attribute [local go_sem] max2_int min2_int max_two min_two max_three min_three max_four min_four
set_option linter.unusedVariables false
set_option linter.unusedSimpArgs false
/-! ### impl_ExchangeUnknowns: function 9 -/
-- PROOF
set_option maxHeartbeats 8000000 in
set_option maxRecDepth 100000 in
theorem impl_ExchangeUnknowns.exps (c x y z : Int) (w : World) : Calls Try.prog 44 #[.agg #[.int .i64 c, .int .i64 x, .int .i64 y, .int .i64 z]] w fun e w' => e = .returned (.agg #[.int .i64 x, .int .i64 y, .int .i64 z]) ∧ Below w.heap.size w w' := by
  have hu51 := Try.underlying51
  have HB := Aside0.mk (Below.refl w.heap.size w)
  go_enter Try.func44, Try.ntmps44
  go_wp2_with (first | ((with_reducible refine gate_dst (N := 1) rfl ?_); refine zbe (N := 1) (cs := #[.int .i64 c, .int .i64 x, .int .i64 y, .int .i64 z]) (t := 51) ?_; intro gb1 hg w1 hbox hb; have BK1 := Aside0.mk hbox; have GW1 := Aside0.mk (zge (zb0 HB) hg); replace HB := Aside0.mk (below_step (zb0 HB) hb); clear hb hbox hg) | ((with_reducible refine gate_dst (N := 2) rfl ?_); refine zbe (N := 2) (cs := #[.int .i64 0, .int .i64 0, .int .i64 0]) (t := 59) ?_; intro gb2 hg w2 hbox hb; have BK2 := Aside0.mk hbox; have GW2 := Aside0.mk (zge (zb0 HB) hg); replace BK1 := Aside0.mk (zbb BK1 hb); replace HB := Aside0.mk (below_step (zb0 HB) hb); clear hb hbox hg; have hc1 : w2.cell? ⟨gb1, 1, none⟩ = some (.int .i64 x) := zc BK1 1; have hc2 : w2.cell? ⟨gb1, 2, none⟩ = some (.int .i64 y) := zc BK1 2; have hc3 : w2.cell? ⟨gb1, 3, none⟩ = some (.int .i64 z) := zc BK1 3; have hd0 : w2.cell? ⟨gb2, 0, none⟩ = some (.int .i64 0) := zc BK2 0; have hd1 : w2.cell? ⟨gb2, 1, none⟩ = some (.int .i64 0) := zc BK2 1; have hd2 : w2.cell? ⟨gb2, 2, none⟩ = some (.int .i64 0) := zc BK2 2; have hf0 := blk_frozen BK2.out 0; have hf1 := blk_frozen BK2.out 1; have hf2 := blk_frozen BK2.out 2))
  refine bodyPost_ret (results_cell_row rfl _ _ gb2 59 #[.int .i64 x, .int .i64 y, .int .i64 z] (0, 0) _ rfl (by (with_reducible repeat (first | refine blk_drewN ?_ _ | refine blk_drew ?_ | refine blk_alloc ?_ _)); refine blk_put (cs := #[.int .i64 x, .int .i64 y, .int .i64 0]) ?_ 2 _ rfl; refine blk_put (cs := #[.int .i64 x, .int .i64 0, .int .i64 0]) ?_ 1 _ rfl; refine blk_put (cs := #[.int .i64 0, .int .i64 0, .int .i64 0]) ?_ 0 _ rfl; exact BK2.out) Try.underlying59 rfl (by kernel_rfl)) rfl ?_
  exact ⟨by first | rfl | (simp; done) | (simp [*]; done), (zb1 HB)⟩
set_option maxHeartbeats 8000000 in
set_option maxRecDepth 100000 in
theorem impl_ExchangeUnknowns.termOf (c x y z : Int) (w : World) : Calls Try.prog 45 #[.int .i64 c, .agg #[.int .i64 x, .int .i64 y, .int .i64 z]] w fun e w' => e = .returned (.agg #[.int .i64 c, .int .i64 x, .int .i64 y, .int .i64 z]) ∧ Below w.heap.size w w' := by
  have hu51 := Try.underlying51
  have hu59 := Try.underlying59
  have HB := Aside0.mk (Below.refl w.heap.size w)
  go_enter Try.func45, Try.ntmps45
  go_wp2_with (first | ((with_reducible refine gate_dst (N := 3) rfl ?_); refine zbe (N := 3) (cs := #[.int .i64 x, .int .i64 y, .int .i64 z]) (t := 59) ?_; intro gb3 hg w3 hbox hb; have BK3 := Aside0.mk hbox; have GW3 := Aside0.mk (zge (zb1 HB) hg); replace HB := Aside0.mk (below_step (zb1 HB) hb); clear hb hbox hg; skip) | ((with_reducible refine gate_dst (N := 4) rfl ?_); refine zbe (N := 4) (cs := #[.int .i64 0, .int .i64 0, .int .i64 0, .int .i64 0]) (t := 51) ?_; intro gb4 hg w4 hbox hb; have BK4 := Aside0.mk hbox; have GW4 := Aside0.mk (zge (zb1 HB) hg); replace BK3 := Aside0.mk (zbb BK3 hb); replace HB := Aside0.mk (below_step (zb1 HB) hb); clear hb hbox hg; have hcza_0 : w4.cell? ⟨gb3, 0, none⟩ = some (.int .i64 x) := zc BK3 0; have hcza_1 : w4.cell? ⟨gb3, 1, none⟩ = some (.int .i64 y) := zc BK3 1; have hcza_2 : w4.cell? ⟨gb3, 2, none⟩ = some (.int .i64 z) := zc BK3 2; have hfza_0 := blk_frozen BK3.out 0; have hfza_1 := blk_frozen BK3.out 1; have hfza_2 := blk_frozen BK3.out 2; have hczb_0 : w4.cell? ⟨gb4, 0, none⟩ = some (.int .i64 0) := zc BK4 0; have hczb_1 : w4.cell? ⟨gb4, 1, none⟩ = some (.int .i64 0) := zc BK4 1; have hczb_2 : w4.cell? ⟨gb4, 2, none⟩ = some (.int .i64 0) := zc BK4 2; have hczb_3 : w4.cell? ⟨gb4, 3, none⟩ = some (.int .i64 0) := zc BK4 3; have hfzb_0 := blk_frozen BK4.out 0; have hfzb_1 := blk_frozen BK4.out 1; have hfzb_2 := blk_frozen BK4.out 2; have hfzb_3 := blk_frozen BK4.out 3))
  refine bodyPost_ret (results_cell_row rfl _ _ gb4 51 #[.int .i64 c, .int .i64 x, .int .i64 y, .int .i64 z] (0, 0) _ rfl (by (with_reducible repeat (first | refine blk_drewN ?_ _ | refine blk_drew ?_ | refine blk_alloc ?_ _)); refine blk_put (cs := #[.int .i64 c, .int .i64 x, .int .i64 y, .int .i64 0]) ?_ 3 _ rfl; refine blk_put (cs := #[.int .i64 c, .int .i64 x, .int .i64 0, .int .i64 0]) ?_ 2 _ rfl; refine blk_put (cs := #[.int .i64 c, .int .i64 0, .int .i64 0, .int .i64 0]) ?_ 1 _ rfl; refine blk_put (cs := #[.int .i64 0, .int .i64 0, .int .i64 0, .int .i64 0]) ?_ 0 _ rfl; exact BK4.out) Try.underlying51 rfl (by kernel_rfl)) rfl ?_
  exact ⟨by first | rfl | (simp; done) | (simp [*]; done), (zb1 HB)⟩
theorem impl_ExchangeUnknowns.ints {w : World} {A : Option Addr} {c : Nat} {l : List Int} (h : Kd.C (Kd.int .i64) w A l.length l) : Go.Proofs.YthanmlojikidbaaSq.Ints w.heap.size w (.slice A l.length c) l := by
  cases l with
  | nil => exact .inl ⟨A, c, rfl, rfl⟩
  | cons x xs =>
    obtain ⟨ad, e, hc⟩ := Kd.at_int h 0 (by omega) (by simp)
    subst e
    refine .inr ⟨ad, c, rfl, ?_, fun j hj => ?_⟩
    · have := World.block_lt_of_cell? w _ hc
      rwa [Go.Proofs.YthanmlojikidbaaSq.add_block] at this
    · obtain ⟨ad', e', hc'⟩ := Kd.at_int h (j : Int) (by omega) (by omega)
      cases e'
      rw [show ((j : Int)).toNat = j by omega] at hc'
      rw [hc']
      simp [rd]
theorem impl_ExchangeUnknowns.values (A1 : Option Addr) (c1 : Nat) (l1 : List Int) (w : World) (hr1 : Kd.C (Kd.int .i64) w A1 l1.length l1) :
    Calls Try.prog 43 #[.slice A1 l1.length c1] w fun e w' => ∃ Bs : Nat, e = .returned (.func (.func 76) #[] #[.pointer (some ⟨Bs, 0, none⟩)]) ∧ Below w.heap.size w w' ∧ Bs < w'.heap.size ∧ w'.cell? ⟨Bs, 0, none⟩ = some (.slice A1 l1.length c1) ∧ Kd.C (Kd.int .i64) w' A1 l1.length l1 := by
  refine (Go.Proofs.YthanmlojikidbaaSq.values A1 l1.length c1 w).mono ?_
  rintro e w' ⟨rfl, rfl⟩
  have hb : Below w.heap.size w (w.alloc (.cells #[.slice A1 l1.length c1] 23)) := (Below.refl _ w).alloc (Nat.le_refl _) _
  exact ⟨_, rfl, hb, by simp, (Boxed.new w 23 _).cell, Kd.C_below hr1 hb⟩
theorem impl_ExchangeUnknowns.sorted (Bs : Nat) (A1 : Option Addr) (c1 : Nat) (l1 : List Int) (w : World) (hBs : Bs < w.heap.size) (hc : w.cell? ⟨Bs, 0, none⟩ = some (.slice A1 l1.length c1)) (hr1 : Kd.C (Kd.int .i64) w A1 l1.length l1) (hl : l1.length < 4398046511104) :
    Calls Try.prog 42 #[.func (.func 76) #[] #[.pointer (some ⟨Bs, 0, none⟩)]] w fun e w' => ∃ v : Value, e = .returned v ∧ Kd.R (Kd.int .i64) 3 w' w.heap.size (fun _ => True) v (l1.mergeSort fun x y => decide (x ≤ y)) ∧ Below w.heap.size w w' := by
  refine (Go.Proofs.YthanmlojikidbaaSq.sorted Bs w.heap.size (.slice A1 l1.length c1) l1 (by simp [maxLen]; omega) (by omega) w hBs (Nat.le_refl _) hc (impl_ExchangeUnknowns.ints hr1)).mono ?_
  rintro e w' ⟨v, rfl, ho, hb⟩
  exact ⟨v, rfl, Kd.R_of_own (by simpa [encs] using ho) (fun _ _ => trivial), hb⟩
theorem impl_ExchangeUnknowns.lit (w : World) : Kd.C (Kd.int .i64) (w.alloc (.cells #[.int .i64 0, .int .i64 1, .int .i64 2] 3)) (some ⟨w.heap.size, 0, none⟩) ([0, 1, 2] : List Int).length [0, 1, 2] := by
  have h := own_lit w w.heap.size 3 .i64 [0, 1, 2] (Nat.le_refl _) (by simp)
  exact (Kd.R_reads' (Kd.R_of_own (ok := fun _ => True) (by simpa [encs, nums] using h) (fun _ _ => trivial))).2.2
theorem impl_ExchangeUnknowns.eql (k : Nat) (As : Option Addr) (cs n : Nat) (sl : List Int) (q : Bool) (w : World) (hl : sl.length = n) (hr : Kd.C (Kd.int .i64) w As sl.length sl) (hc : sl.length ≤ cs) (h : slices_Equal_int_int.f k sl [0, 1, 2] = some q) :
    Calls Try.prog 41 #[.slice As n cs, .slice (some ⟨w.heap.size, 0, none⟩) 3 3] (w.alloc (.cells #[.int .i64 0, .int .i64 1, .int .i64 2] 3)) fun e w' => e = .returned (.bool q) ∧ Below w.heap.size w w' := by
  subst hl
  have hb : Below w.heap.size w (w.alloc (.cells #[.int .i64 0, .int .i64 1, .int .i64 2] 3)) := below_alloc (Below.refl _ _) _
  refine (slices_Equal_int_int.calls k As cs sl (some ⟨w.heap.size, 0, none⟩) 3 [0, 1, 2] q _ (Kd.C_below hr hb) hc (impl_ExchangeUnknowns.lit w) (by simp) h).mono ?_
  rintro e w' ⟨rfl, ⟨nd, rfl⟩⟩
  exact ⟨rfl, hb.trans ⟨rfl, rfl, rfl, Nat.le_refl _, fun _ _ => rfl⟩⟩
theorem impl_ExchangeUnknowns.ix (x y z j : Int) (h0 : 0 ≤ j) (h1 : j < 3) (w : World) : (Instr.index 59 (.agg #[.int .i64 x, .int .i64 y, .int .i64 z]) (.int .i64 j)).run Try.prog w = .ok (.int .i64 (if j = 0 then x else (if j = 1 then y else z))) w := by
  have hA := Try.underlying59
  have hj : j = 0 ∨ j = 1 ∨ j = 2 := by omega
  rcases hj with rfl | rfl | rfl
  all_goals
    simp only [Instr.index]
    go_simp
theorem impl_ExchangeUnknowns.arr (o : List Int) (x y z j u : Int) (ho : impl_ExchangeUnknowns.perm o) (hj : j = 0 ∨ j = 1 ∨ j = 2) (hu : rd o j = u) :
    (#[.int .i64 (impl_ExchangeUnknowns.pt o x y z j 0), .int .i64 (impl_ExchangeUnknowns.pt o x y z j 1), .int .i64 (impl_ExchangeUnknowns.pt o x y z j 2)] : Array Value).setIfInBounds u.toNat (.int .i64 (if j = 0 then x else (if j = 1 then y else z))) = #[.int .i64 (impl_ExchangeUnknowns.pt o x y z (j + 1) 0), .int .i64 (impl_ExchangeUnknowns.pt o x y z (j + 1) 1), .int .i64 (impl_ExchangeUnknowns.pt o x y z (j + 1) 2)] := by
  subst hu
  rcases hj with rfl | rfl | rfl <;> rcases ho with rfl | rfl | rfl | rfl | rfl | rfl <;> simp [impl_ExchangeUnknowns.pt, rd]
theorem impl_ExchangeUnknowns.three (o : List Int) (ho : impl_ExchangeUnknowns.perm o) (j : Int) (h0 : 0 ≤ j) (h1 : j < 3) : (o.length = 3) ∧ (rd o j = 0 ∨ rd o j = 1 ∨ rd o j = 2) := by
  have hj : j = 0 ∨ j = 1 ∨ j = 2 := by omega
  rcases hj with rfl | rfl | rfl <;> rcases ho with rfl | rfl | rfl | rfl | rfl | rfl <;> simp [rd]
set_option maxHeartbeats 8000000 in
set_option maxRecDepth 100000 in
theorem impl_ExchangeUnknowns.calls (k : Nat) (A0 : Option Addr) (c0 : Nat) (l0 : List (S51)) (A1 : Option Addr) (c1 : Nat) (l1 : List Int) (r1 : List (S51)) (r2 : Bool) (w : World) (hr0 : Kd.C k51 w A0 l0.length l0) (hc0 : l0.length ≤ c0) (hr1 : Kd.C (Kd.int .i64) w A1 l1.length l1) (hc1 : l1.length ≤ c1) (h : impl_ExchangeUnknowns.f k l0 l1 = some (r1, r2)) :
    Calls Try.prog 9 #[.slice A0 l0.length c0, .slice A1 l1.length c1] w fun e w' => ∃ v0_ : Value, e = .returned (.tuple #[v0_, .bool r2]) ∧ Kd.R k51 51 w' w.heap.size (fun _ => True) v0_ r1 ∧ Below w.heap.size w w' := by
  have hu51 := Try.underlying51
  have hu59 := Try.underlying59
  have HR0 := Aside0.mk hr0
  have HC0 := Aside0.mk hc0
  have HR1 := Aside0.mk hr1
  have HC1 := Aside0.mk hc1
  have HB := Aside0.mk (Below.refl w.heap.size w)
  clear hr0 hc0 hr1 hc1
  unfold impl_ExchangeUnknowns.f at h
  obtain ⟨b1, hA0, h⟩ := Option.bind_eq_some_iff.mp h
  have hA := Aside0.mk hA0
  clear hA0
  cases b1
  ·
    rw [if_neg Bool.false_ne_true] at h
    simp only [Option.some.injEq, Prod.mk.injEq] at h
    obtain ⟨rfl, rfl⟩ := h
    go_enter Try.func9, Try.ntmps9
    go_wp2_with (first | ((with_reducible refine gate_callee (f := 40) rfl ?_); refine goesL_ (some 13) rfl rfl Try.func40 (by kernel_rfl) rfl #[.slice A0 l0.length c0] rfl zq6 ?_; (with_reducible refine (impl_isPoly.calls k _ _ l0 _ _ HR0.out HC0.out hA.out).mono ?_); rintro e w4 ⟨rfl, hb⟩; refine ⟨_, rfl, ?_⟩; replace HB := Aside0.mk (below_step (zb0 HB) hb); clear hb) | (go_at_call 40; (with_reducible refine (impl_isPoly.calls k _ _ l0 _ _ HR0.out HC0.out hA.out).mono ?_); rintro e w4 ⟨rfl, hb⟩; replace HB := Aside0.mk (below_step (zb0 HB) hb); clear hb))
    go_ret2
    exact ⟨_, by first | rfl | (simp; done) | (simp [*]; done), Kd.R_nil _ _ _ _ _, (zb0 HB)⟩
  · rw [if_pos rfl] at h
    by_cases cl : l1.length < 4398046511104
    · rw [if_pos cl] at h
      have HL := Aside0.mk cl
      clear cl
      obtain ⟨b2, hE0, h⟩ := Option.bind_eq_some_iff.mp h
      have hE := Aside0.mk hE0
      clear hE0
      cases b2
      ·
        rw [if_neg Bool.false_ne_true] at h
        simp only [Option.some.injEq, Prod.mk.injEq] at h
        obtain ⟨rfl, rfl⟩ := h
        go_enter Try.func9, Try.ntmps9
        go_wp2_with (first | ((with_reducible refine gate_callee (f := 40) rfl ?_); refine goesL_ (some 13) rfl rfl Try.func40 (by kernel_rfl) rfl #[.slice A0 l0.length c0] rfl zq6 ?_; (with_reducible refine (impl_isPoly.calls k _ _ l0 _ _ HR0.out HC0.out hA.out).mono ?_); rintro e w4 ⟨rfl, hb⟩; refine ⟨_, rfl, ?_⟩; replace HB := Aside0.mk (below_step (zb0 HB) hb); clear hb) | (go_at_call 40; (with_reducible refine (impl_isPoly.calls k _ _ l0 _ _ HR0.out HC0.out hA.out).mono ?_); rintro e w4 ⟨rfl, hb⟩; replace HB := Aside0.mk (below_step (zb0 HB) hb); clear hb) | (go_at_call 43; (with_reducible refine (impl_ExchangeUnknowns.values _ _ l1 _ (Kd.C_below HR1.out HB.out)).mono ?_); rintro e w5 ⟨Bs, rfl, hb, hbs, hbc, hbr⟩; have HS := Aside0.mk hbs; have HSC := Aside0.mk hbc; have HSR := Aside0.mk hbr; replace HB := Aside0.mk (below_step (zb0 HB) hb); clear hb hbs hbc hbr) | (go_at_call 42; (with_reducible refine (impl_ExchangeUnknowns.sorted Bs _ c1 l1 _ HS.out HSC.out HSR.out HL.out).mono ?_); rintro e w6 ⟨v6, rfl, ho, hb⟩; have HOS := Aside0.mk ho; replace HB := Aside0.mk (below_step (zb0 HB) hb); clear ho hb; obtain ⟨As, cs, es⟩ := Kd.R_slice HOS.out; subst es) | (go_at_call 41; (with_reducible refine (impl_ExchangeUnknowns.eql k As cs l1.length (l1.mergeSort fun x y => decide (x ≤ y)) _ w6 (by simp) (Kd.R_reads' HOS.out).2.2 (Kd.R_reads' HOS.out).2.1 hE.out).mono ?_); rintro e w7 ⟨rfl, hb⟩; replace HB := Aside0.mk (below_step (zb0 HB) hb); clear hb))
        go_ret2
        exact ⟨_, by first | rfl | (simp; done) | (simp [*]; done), Kd.R_nil _ _ _ _ _, (zb0 HB)⟩
      · rw [if_pos rfl] at h
        by_cases cp : impl_ExchangeUnknowns.perm l1
        · rw [if_pos cp] at h
          have HP := Aside0.mk cp
          have H' := Aside0.mk h
          clear h cp
          go_enter Try.func9, Try.ntmps9
          go_wp2_with (first | ((with_reducible refine gate_callee (f := 40) rfl ?_); refine goesL_ (some 13) rfl rfl Try.func40 (by kernel_rfl) rfl #[.slice A0 l0.length c0] rfl zq6 ?_; (with_reducible refine (impl_isPoly.calls k _ _ l0 _ _ HR0.out HC0.out hA.out).mono ?_); rintro e w4 ⟨rfl, hb⟩; refine ⟨_, rfl, ?_⟩; replace HB := Aside0.mk (below_step (zb0 HB) hb); clear hb) | (go_at_call 40; (with_reducible refine (impl_isPoly.calls k _ _ l0 _ _ HR0.out HC0.out hA.out).mono ?_); rintro e w4 ⟨rfl, hb⟩; replace HB := Aside0.mk (below_step (zb0 HB) hb); clear hb) | (go_at_call 43; (with_reducible refine (impl_ExchangeUnknowns.values _ _ l1 _ (Kd.C_below HR1.out HB.out)).mono ?_); rintro e w5 ⟨Bs, rfl, hb, hbs, hbc, hbr⟩; have HS := Aside0.mk hbs; have HSC := Aside0.mk hbc; have HSR := Aside0.mk hbr; replace HB := Aside0.mk (below_step (zb0 HB) hb); clear hb hbs hbc hbr) | (go_at_call 42; (with_reducible refine (impl_ExchangeUnknowns.sorted Bs _ c1 l1 _ HS.out HSC.out HSR.out HL.out).mono ?_); rintro e w6 ⟨v6, rfl, ho, hb⟩; have HOS := Aside0.mk ho; replace HB := Aside0.mk (below_step (zb0 HB) hb); clear ho hb; obtain ⟨As, cs, es⟩ := Kd.R_slice HOS.out; subst es) | (go_at_call 41; (with_reducible refine (impl_ExchangeUnknowns.eql k As cs l1.length (l1.mergeSort fun x y => decide (x ≤ y)) _ w6 (by simp) (Kd.R_reads' HOS.out).2.2 (Kd.R_reads' HOS.out).2.1 hE.out).mono ?_); rintro e w7 ⟨rfl, hb⟩; replace HB := Aside0.mk (below_step (zb0 HB) hb); clear hb))
          go_loopg [6, 25] k (fun kq v6 v25 w' => ∃ (x : List S51) (i : Int), v25 = .int .i64 i ∧ Aside0 (impl_ExchangeUnknowns.l0 kq l0 l1 x i = some (r1, r2)) ∧ Aside0 (kq ≤ k) ∧ Aside0 (Kd.R k51 51 w' w.heap.size (fun _ => True) v6 x) ∧ Aside0 (Below w.heap.size w w'))
          case atStart => exact ⟨[], 0, (by first | rfl | (simp; done) | (simp [*]; done)), H', ⟨Nat.le_refl _⟩, ⟨Kd.R_nil _ _ _ _ _⟩, ⟨(zb0 HB)⟩⟩
          case round =>
            clear H' HB HOS HS HSC HSR
            obtain ⟨x, i, rfl, HA, HK1, HO, HB⟩ := hrel
            cases gk with
            | zero => exact absurd HA.out (by simp [impl_ExchangeUnknowns.l0])
            | succ k1 =>
              have H := HA.out
              clear HA
              simp only [impl_ExchangeUnknowns.l0] at H
              by_cases c : i < (l0.length : Int)
              · rw [if_pos c] at H
                by_cases c' : 0 ≤ i
                · rw [if_pos c'] at H
                  by_cases c9 : x.length < 4398046511104
                  · rw [if_pos c9] at H
                    have LM := Aside0.mk c9
                    clear c9
                    obtain ⟨y, hy⟩ : ∃ y_ : List S51, y_ = x ++ [(⟨(rd_T51 l0 i).f0, (impl_ExchangeUnknowns.pt l1 (rd_T51 l0 i).f1 (rd_T51 l0 i).f2 (rd_T51 l0 i).f3 3 0), (impl_ExchangeUnknowns.pt l1 (rd_T51 l0 i).f1 (rd_T51 l0 i).f2 (rd_T51 l0 i).f3 3 1), (impl_ExchangeUnknowns.pt l1 (rd_T51 l0 i).f1 (rd_T51 l0 i).f2 (rd_T51 l0 i).f3 3 2)⟩ : S51)] := ⟨_, rfl⟩
                    have hy2 : x ++ [impl_ExchangeUnknowns.tm (rd_T51 l0 i) l1] = y := hy.symm
                    rw [hy2] at H
                    clear hy2
                    have Ny := Aside0.mk hy
                    clear hy
                    have H' := Aside0.mk H
                    clear H
                    have cb := decide_eq_true c
                    have cb' := decide_eq_true c'
                    obtain ⟨ad, ead, hx0, hx1, hx2, hx3⟩ := at_T51 HR0.out i c' c
                    subst ead
                    replace hx0 := (HB.out.cell (World.block_lt_of_cell? w _ hx0)).trans hx0
                    replace hx1 := (HB.out.cell (World.block_lt_of_cell? w _ hx1)).trans hx1
                    replace hx2 := (HB.out.cell (World.block_lt_of_cell? w _ hx2)).trans hx2
                    replace hx3 := (HB.out.cell (World.block_lt_of_cell? w _ hx3)).trans hx3
                    have p1 := eq_true c
                    have p2 := eq_true c'
                    clear c c'
                    have HC := Aside0.mk (Below.refl wr.heap.size wr)
                    go_wp2_with (first | ((with_reducible refine gate_dst (N := 8) rfl ?_); refine zbe (N := 8) (cs := #[.int .i64 0, .int .i64 0, .int .i64 0, .int .i64 0]) (t := 51) ?_; intro gb8 hg w8 hbox hb; have BK8 := Aside0.mk hbox; have GW8 := Aside0.mk (zge (zb1 HC) hg); replace HC := Aside0.mk (below_step (zb1 HC) hb); clear hb hbox hg; have hcza_0 : w8.cell? ⟨gb8, 0, none⟩ = some (.int .i64 0) := zc BK8 0; have hcza_1 : w8.cell? ⟨gb8, 1, none⟩ = some (.int .i64 0) := zc BK8 1; have hcza_2 : w8.cell? ⟨gb8, 2, none⟩ = some (.int .i64 0) := zc BK8 2; have hcza_3 : w8.cell? ⟨gb8, 3, none⟩ = some (.int .i64 0) := zc BK8 3; have hfza_0 := blk_frozen BK8.out 0; have hfza_1 := blk_frozen BK8.out 1; have hfza_2 := blk_frozen BK8.out 2; have hfza_3 := blk_frozen BK8.out 3) | ((with_reducible refine gate_dst (N := 9) rfl ?_); refine zbe (N := 9) (cs := #[.int .i64 0, .int .i64 0, .int .i64 0]) (t := 59) ?_; intro gb9 hg w9 hbox hb; have BK9 := Aside0.mk hbox; have GW9 := Aside0.mk (zge (zb1 HC) hg); have NB98 := Aside0.mk (by rw [hg]; exact Nat.ne_of_gt (Nat.lt_of_lt_of_le (blk_lt (zq1 BK8)) (by simp)) : gb9 ≠ gb8); have NB89 := Aside0.mk (Ne.symm NB98.out); replace BK8 := Aside0.mk (blk_below (g := gb8) (o := .cells #[.int .i64 ((rd_T51 l0 i).f0), .int .i64 ((rd_T51 l0 i).f1), .int .i64 ((rd_T51 l0 i).f2), .int .i64 ((rd_T51 l0 i).f3)] 51 (0, 0)) (by (with_reducible repeat (first | refine blk_drewN ?_ _ | refine blk_drew ?_ | refine blk_alloc ?_ _)); refine blk_put (cs := #[.int .i64 ((rd_T51 l0 i).f0), .int .i64 ((rd_T51 l0 i).f1), .int .i64 ((rd_T51 l0 i).f2), .int .i64 0]) ?_ 3 _ rfl; (with_reducible repeat (first | refine blk_drewN ?_ _ | refine blk_drew ?_ | refine blk_alloc ?_ _)); refine blk_put (cs := #[.int .i64 ((rd_T51 l0 i).f0), .int .i64 ((rd_T51 l0 i).f1), .int .i64 0, .int .i64 0]) ?_ 2 _ rfl; (with_reducible repeat (first | refine blk_drewN ?_ _ | refine blk_drew ?_ | refine blk_alloc ?_ _)); refine blk_put (cs := #[.int .i64 ((rd_T51 l0 i).f0), .int .i64 0, .int .i64 0, .int .i64 0]) ?_ 1 _ rfl; (with_reducible repeat (first | refine blk_drewN ?_ _ | refine blk_drew ?_ | refine blk_alloc ?_ _)); refine blk_put (cs := #[.int .i64 0, .int .i64 0, .int .i64 0, .int .i64 0]) ?_ 0 _ rfl; (with_reducible repeat (first | refine blk_drewN ?_ _ | refine blk_drew ?_ | refine blk_alloc ?_ _)); exact BK8.out) hb); replace HC := Aside0.mk (below_step (zb1 HC) hb); clear hb hbox hg; have hnb := NB98.out; have hnc := NB89.out; have hczc_0 : w9.cell? ⟨gb8, 0, none⟩ = some (.int .i64 ((rd_T51 l0 i).f0)) := zc BK8 0; have hczc_1 : w9.cell? ⟨gb8, 1, none⟩ = some (.int .i64 ((rd_T51 l0 i).f1)) := zc BK8 1; have hczc_2 : w9.cell? ⟨gb8, 2, none⟩ = some (.int .i64 ((rd_T51 l0 i).f2)) := zc BK8 2; have hczc_3 : w9.cell? ⟨gb8, 3, none⟩ = some (.int .i64 ((rd_T51 l0 i).f3)) := zc BK8 3; have hfzc_0 := blk_frozen BK8.out 0; have hfzc_1 := blk_frozen BK8.out 1; have hfzc_2 := blk_frozen BK8.out 2; have hfzc_3 := blk_frozen BK8.out 3; have hczd_0 : w9.cell? ⟨gb9, 0, none⟩ = some (.int .i64 0) := zc BK9 0; have hczd_1 : w9.cell? ⟨gb9, 1, none⟩ = some (.int .i64 0) := zc BK9 1; have hczd_2 : w9.cell? ⟨gb9, 2, none⟩ = some (.int .i64 0) := zc BK9 2; have hfzd_0 := blk_frozen BK9.out 0; have hfzd_1 := blk_frozen BK9.out 1; have hfzd_2 := blk_frozen BK9.out 2) | ((with_reducible refine gate_callee (f := 44) rfl ?_); refine goesL_ (some 31) rfl rfl Try.func44 (by kernel_rfl) rfl #[.agg #[.int .i64 ((rd_T51 l0 i).f0), .int .i64 ((rd_T51 l0 i).f1), .int .i64 ((rd_T51 l0 i).f2), .int .i64 ((rd_T51 l0 i).f3)]] rfl zq6 ?_; refine (impl_ExchangeUnknowns.exps (rd_T51 l0 i).f0 (rd_T51 l0 i).f1 (rd_T51 l0 i).f2 (rd_T51 l0 i).f3 _).mono ?_; rintro e w10 ⟨rfl, hb⟩; refine ⟨_, rfl, ?_⟩; replace BK8 := Aside0.mk (blk_below (g := gb8) (o := .cells #[.int .i64 ((rd_T51 l0 i).f0), .int .i64 ((rd_T51 l0 i).f1), .int .i64 ((rd_T51 l0 i).f2), .int .i64 ((rd_T51 l0 i).f3)] 51 (0, 0)) (by (with_reducible repeat (first | refine blk_drewN ?_ _ | refine blk_drew ?_ | refine blk_alloc ?_ _)); refine blk_far ?_ NB89.out _; (with_reducible repeat (first | refine blk_drewN ?_ _ | refine blk_drew ?_ | refine blk_alloc ?_ _)); refine blk_far ?_ NB89.out _; (with_reducible repeat (first | refine blk_drewN ?_ _ | refine blk_drew ?_ | refine blk_alloc ?_ _)); refine blk_far ?_ NB89.out _; (with_reducible repeat (first | refine blk_drewN ?_ _ | refine blk_drew ?_ | refine blk_alloc ?_ _)); exact BK8.out) hb); replace BK9 := Aside0.mk (blk_below (g := gb9) (o := .cells #[.int .i64 0, .int .i64 0, .int .i64 0] 59 (0, 0)) (by (with_reducible repeat (first | refine blk_drewN ?_ _ | refine blk_drew ?_ | refine blk_alloc ?_ _)); refine blk_put (cs := #[.int .i64 0, .int .i64 0, .int .i64 0]) ?_ 2 _ rfl; (with_reducible repeat (first | refine blk_drewN ?_ _ | refine blk_drew ?_ | refine blk_alloc ?_ _)); refine blk_put (cs := #[.int .i64 0, .int .i64 0, .int .i64 0]) ?_ 1 _ rfl; (with_reducible repeat (first | refine blk_drewN ?_ _ | refine blk_drew ?_ | refine blk_alloc ?_ _)); refine blk_put (cs := #[.int .i64 0, .int .i64 0, .int .i64 0]) ?_ 0 _ rfl; (with_reducible repeat (first | refine blk_drewN ?_ _ | refine blk_drew ?_ | refine blk_alloc ?_ _)); exact BK9.out) hb); replace HC := Aside0.mk (below_step (zb1 HC) hb); clear hb) | (go_at_call 44; refine (impl_ExchangeUnknowns.exps (rd_T51 l0 i).f0 (rd_T51 l0 i).f1 (rd_T51 l0 i).f2 (rd_T51 l0 i).f3 _).mono ?_; rintro e w10 ⟨rfl, hb⟩; replace BK8 := Aside0.mk (blk_below (g := gb8) (o := .cells #[.int .i64 ((rd_T51 l0 i).f0), .int .i64 ((rd_T51 l0 i).f1), .int .i64 ((rd_T51 l0 i).f2), .int .i64 ((rd_T51 l0 i).f3)] 51 (0, 0)) (by (with_reducible repeat (first | refine blk_drewN ?_ _ | refine blk_drew ?_ | refine blk_alloc ?_ _)); refine blk_far ?_ NB89.out _; (with_reducible repeat (first | refine blk_drewN ?_ _ | refine blk_drew ?_ | refine blk_alloc ?_ _)); refine blk_far ?_ NB89.out _; (with_reducible repeat (first | refine blk_drewN ?_ _ | refine blk_drew ?_ | refine blk_alloc ?_ _)); refine blk_far ?_ NB89.out _; (with_reducible repeat (first | refine blk_drewN ?_ _ | refine blk_drew ?_ | refine blk_alloc ?_ _)); exact BK8.out) hb); replace BK9 := Aside0.mk (blk_below (g := gb9) (o := .cells #[.int .i64 0, .int .i64 0, .int .i64 0] 59 (0, 0)) (by (with_reducible repeat (first | refine blk_drewN ?_ _ | refine blk_drew ?_ | refine blk_alloc ?_ _)); refine blk_put (cs := #[.int .i64 0, .int .i64 0, .int .i64 0]) ?_ 2 _ rfl; (with_reducible repeat (first | refine blk_drewN ?_ _ | refine blk_drew ?_ | refine blk_alloc ?_ _)); refine blk_put (cs := #[.int .i64 0, .int .i64 0, .int .i64 0]) ?_ 1 _ rfl; (with_reducible repeat (first | refine blk_drewN ?_ _ | refine blk_drew ?_ | refine blk_alloc ?_ _)); refine blk_put (cs := #[.int .i64 0, .int .i64 0, .int .i64 0]) ?_ 0 _ rfl; (with_reducible repeat (first | refine blk_drewN ?_ _ | refine blk_drew ?_ | refine blk_alloc ?_ _)); exact BK9.out) hb); replace HC := Aside0.mk (below_step (zb1 HC) hb); clear hb))
                    go_loopg [32] 3 (fun kq v32 w' => ∃ (j : Int), v32 = .int .i64 j ∧ Aside0 ((kq : Int) = 3 - j ∧ 0 ≤ j ∧ j ≤ 3) ∧ Aside0 (w'.heap[gb8]? = some (.cells #[.int .i64 ((rd_T51 l0 i).f0), .int .i64 ((rd_T51 l0 i).f1), .int .i64 ((rd_T51 l0 i).f2), .int .i64 ((rd_T51 l0 i).f3)] 51 (0, 0))) ∧ Aside0 (w'.heap[gb9]? = some (.cells #[.int .i64 ((impl_ExchangeUnknowns.pt l1 (rd_T51 l0 i).f1 (rd_T51 l0 i).f2 (rd_T51 l0 i).f3 j 0)), .int .i64 ((impl_ExchangeUnknowns.pt l1 (rd_T51 l0 i).f1 (rd_T51 l0 i).f2 (rd_T51 l0 i).f3 j 1)), .int .i64 ((impl_ExchangeUnknowns.pt l1 (rd_T51 l0 i).f1 (rd_T51 l0 i).f2 (rd_T51 l0 i).f3 j 2))] 59 (0, 0))) ∧ Aside0 (Below wr.heap.size wr w'))
                    case atStart => exact ⟨0, (by first | rfl | (simp; done) | (simp [*]; done)), ⟨by omega⟩, ⟨(by (with_reducible repeat (first | refine blk_drewN ?_ _ | refine blk_drew ?_ | refine blk_alloc ?_ _)); exact BK8.out)⟩, ⟨(by (with_reducible repeat (first | refine blk_drewN ?_ _ | refine blk_drew ?_ | refine blk_alloc ?_ _)); refine Eq.trans (b := some (.cells #[.int .i64 0, .int .i64 0, .int .i64 0] 59 (0, 0))) BK9.out (by simp [impl_ExchangeUnknowns.pt]))⟩, ⟨(zb1 HC)⟩⟩
                    case round =>
                      clear HC BK8 BK9 hx0 hx1 hx2 hx3 cb cb' p1 p2
                      (try clear hnb hnc)
                      obtain ⟨j, rfl, HJ, BK8, BK9, HC⟩ := hrel
                      by_cases c5 : j < 3
                      · have h0j : 0 ≤ j := HJ.out.2.1
                        have cb := decide_eq_true c5
                        obtain ⟨hl3, hu3⟩ := impl_ExchangeUnknowns.three l1 HP.out j h0j c5
                        obtain ⟨ad1, ead1, hq⟩ := Kd.at_int HR1.out j h0j (by omega)
                        subst ead1
                        replace hq := (below_step HB.out HC.out).cell (World.block_lt_of_cell? w _ hq) |>.trans hq
                        have hix := impl_ExchangeUnknowns.ix (rd_T51 l0 i).f1 (rd_T51 l0 i).f2 (rd_T51 l0 i).f3 j h0j c5
                        obtain ⟨xj, hxj⟩ : ∃ xj, (if j = 0 then (rd_T51 l0 i).f1 else (if j = 1 then (rd_T51 l0 i).f2 else (rd_T51 l0 i).f3)) = xj := ⟨_, rfl⟩
                        rw [hxj] at hix
                        have harr := impl_ExchangeUnknowns.arr l1 (rd_T51 l0 i).f1 (rd_T51 l0 i).f2 (rd_T51 l0 i).f3 j _ HP.out (by omega) rfl
                        rw [hxj] at harr
                        have HRJ := Aside0.mk harr
                        clear harr hxj
                        obtain ⟨u, hu⟩ : ∃ u, rd l1 j = u := ⟨_, rfl⟩
                        rw [hu] at hq hu3 HRJ
                        clear hu
                        have p3 := eq_true c5
                        have p4 := eq_true h0j
                        have p5 : decide (j < ((l1.length : Nat) : Int)) = true := by rw [hl3]; exact decide_eq_true c5
                        have p6 : (j < ((l1.length : Nat) : Int)) = True := by rw [hl3]; exact eq_true c5
                        have cb4 := decide_eq_true h0j
                        have hz0 := zc BK9 0
                        have hz1 := zc BK9 1
                        have hz2 := zc BK9 2
                        have hf0 := blk_frozen BK9.out 0
                        have hf1 := blk_frozen BK9.out 1
                        have hf2 := blk_frozen BK9.out 2
                        clear c5 h0j hl3
                        rcases hu3 with rfl | rfl | rfl
                        all_goals
                          go_wp2
                          go_roundg (gk - 1)
                          case measure => have hj_ := HJ.out; have hc_ := of_decide_eq_true cb; omega
                          case rel => exact ⟨j + 1, (by first | rfl | (simp; done) | (have := HJ.out; have hc_ := of_decide_eq_true cb; rw [show wrap64 (j + 1) = j + 1 from by unfold wrap64; omega])), ⟨by have := HJ.out; have hc_ := of_decide_eq_true cb; omega⟩, ⟨(by (with_reducible repeat (first | refine blk_drewN ?_ _ | refine blk_drew ?_ | refine blk_alloc ?_ _)); refine blk_far ?_ NB89.out _; (with_reducible repeat (first | refine blk_drewN ?_ _ | refine blk_drew ?_ | refine blk_alloc ?_ _)); exact BK8.out)⟩, ⟨(by (with_reducible repeat (first | refine blk_drewN ?_ _ | refine blk_drew ?_ | refine blk_alloc ?_ _)); refine blk_put BK9.out _ _ HRJ.out)⟩, ⟨by first | exact (zb1 HC).setCell (p := ⟨gb9, _, none⟩) GW9.out _ | exact below_drew1 ((zb1 HC).setCell (p := ⟨gb9, _, none⟩) GW9.out _)⟩⟩
                      · have cb := decide_eq_false c5
                        have e3 : j = 3 := by have := HJ.out; omega
                        subst e3
                        clear c5
                        have hcze_0 : wr.cell? ⟨gb8, 0, none⟩ = some (.int .i64 ((rd_T51 l0 i).f0)) := zc BK8 0; have hcze_1 : wr.cell? ⟨gb8, 1, none⟩ = some (.int .i64 ((rd_T51 l0 i).f1)) := zc BK8 1; have hcze_2 : wr.cell? ⟨gb8, 2, none⟩ = some (.int .i64 ((rd_T51 l0 i).f2)) := zc BK8 2; have hcze_3 : wr.cell? ⟨gb8, 3, none⟩ = some (.int .i64 ((rd_T51 l0 i).f3)) := zc BK8 3; have hfze_0 := blk_frozen BK8.out 0; have hfze_1 := blk_frozen BK8.out 1; have hfze_2 := blk_frozen BK8.out 2; have hfze_3 := blk_frozen BK8.out 3; have hczf_0 : wr.cell? ⟨gb9, 0, none⟩ = some (.int .i64 ((impl_ExchangeUnknowns.pt l1 (rd_T51 l0 i).f1 (rd_T51 l0 i).f2 (rd_T51 l0 i).f3 3 0))) := zc BK9 0; have hczf_1 : wr.cell? ⟨gb9, 1, none⟩ = some (.int .i64 ((impl_ExchangeUnknowns.pt l1 (rd_T51 l0 i).f1 (rd_T51 l0 i).f2 (rd_T51 l0 i).f3 3 1))) := zc BK9 1; have hczf_2 : wr.cell? ⟨gb9, 2, none⟩ = some (.int .i64 ((impl_ExchangeUnknowns.pt l1 (rd_T51 l0 i).f1 (rd_T51 l0 i).f2 (rd_T51 l0 i).f3 3 2))) := zc BK9 2; have hfzf_0 := blk_frozen BK9.out 0; have hfzf_1 := blk_frozen BK9.out 1; have hfzf_2 := blk_frozen BK9.out 2
                        go_wp2_with (first | ((with_reducible refine gate_callee (f := 45) rfl ?_); refine goesL_ (some 47) rfl rfl Try.func45 (by kernel_rfl) rfl #[.int .i64 (rd_T51 l0 i).f0, .agg #[.int .i64 ((impl_ExchangeUnknowns.pt l1 (rd_T51 l0 i).f1 (rd_T51 l0 i).f2 (rd_T51 l0 i).f3 3 0)), .int .i64 ((impl_ExchangeUnknowns.pt l1 (rd_T51 l0 i).f1 (rd_T51 l0 i).f2 (rd_T51 l0 i).f3 3 1)), .int .i64 ((impl_ExchangeUnknowns.pt l1 (rd_T51 l0 i).f1 (rd_T51 l0 i).f2 (rd_T51 l0 i).f3 3 2))]] rfl zq6 ?_; refine (impl_ExchangeUnknowns.termOf (rd_T51 l0 i).f0 (impl_ExchangeUnknowns.pt l1 (rd_T51 l0 i).f1 (rd_T51 l0 i).f2 (rd_T51 l0 i).f3 3 0) (impl_ExchangeUnknowns.pt l1 (rd_T51 l0 i).f1 (rd_T51 l0 i).f2 (rd_T51 l0 i).f3 3 1) (impl_ExchangeUnknowns.pt l1 (rd_T51 l0 i).f1 (rd_T51 l0 i).f2 (rd_T51 l0 i).f3 3 2) _).mono ?_; rintro e w11 ⟨rfl, hb⟩; refine ⟨_, rfl, ?_⟩; replace HC := Aside0.mk (below_step (zb1 HC) hb); clear hb) | (go_at_call 45; refine (impl_ExchangeUnknowns.termOf (rd_T51 l0 i).f0 (impl_ExchangeUnknowns.pt l1 (rd_T51 l0 i).f1 (rd_T51 l0 i).f2 (rd_T51 l0 i).f3 3 0) (impl_ExchangeUnknowns.pt l1 (rd_T51 l0 i).f1 (rd_T51 l0 i).f2 (rd_T51 l0 i).f3 3 1) (impl_ExchangeUnknowns.pt l1 (rd_T51 l0 i).f1 (rd_T51 l0 i).f2 (rd_T51 l0 i).f3 3 2) _).mono ?_; rintro e w11 ⟨rfl, hb⟩; replace HC := Aside0.mk (below_step (zb1 HC) hb); clear hb) | ((with_reducible refine gate_builtin (b := .append) (xs := #[.tmp 43, .tmp 48]) rfl ?_); at_builtin; refine Kd.R_append k51 (w0 := w) w.heap.size rfl (.tmp 43) (.tmp 48) 25 51 (.agg #[(.int .i64 0), (.int .i64 0), (.int .i64 0), (.int .i64 0)]) 32 rfl Try.underlying25 info51 rfl (by decide) (by omega) _ x (⟨(rd_T51 l0 i).f0, (impl_ExchangeUnknowns.pt l1 (rd_T51 l0 i).f1 (rd_T51 l0 i).f2 (rd_T51 l0 i).f3 3 0), (impl_ExchangeUnknowns.pt l1 (rd_T51 l0 i).f1 (rd_T51 l0 i).f2 (rd_T51 l0 i).f3 3 1), (impl_ExchangeUnknowns.pt l1 (rd_T51 l0 i).f1 (rd_T51 l0 i).f2 (rd_T51 l0 i).f3 3 2)⟩ : S51) [.int .i64 ((rd_T51 l0 i).f0), .int .i64 ((impl_ExchangeUnknowns.pt l1 (rd_T51 l0 i).f1 (rd_T51 l0 i).f2 (rd_T51 l0 i).f3 3 0)), .int .i64 ((impl_ExchangeUnknowns.pt l1 (rd_T51 l0 i).f1 (rd_T51 l0 i).f2 (rd_T51 l0 i).f3 3 1)), .int .i64 ((impl_ExchangeUnknowns.pt l1 (rd_T51 l0 i).f1 (rd_T51 l0 i).f2 (rd_T51 l0 i).f3 3 2))] (fun _ => True) (fun _ => False) rfl (by first | (go_simp; done) | (go_simp; rfl)) ?aP (fun _ hk => hk.elim) ?aF ?aO ?aB ?aS ?aL ?_; (case aP => exact k51_mkM _ _ _ (⟨(rd_T51 l0 i).f0, (impl_ExchangeUnknowns.pt l1 (rd_T51 l0 i).f1 (rd_T51 l0 i).f2 (rd_T51 l0 i).f3 3 0), (impl_ExchangeUnknowns.pt l1 (rd_T51 l0 i).f1 (rd_T51 l0 i).f2 (rd_T51 l0 i).f3 3 1), (impl_ExchangeUnknowns.pt l1 (rd_T51 l0 i).f1 (rd_T51 l0 i).f2 (rd_T51 l0 i).f3 3 2)⟩ : S51)); (case aB => exact (below_step HB.out (zb1 HC))); (case aF => exact (fun _ _ => trivial)); (case aO => exact (Kd.R_below HO.out (zb1 HC))); (case aS => exact (below_size (below_step HB.out (zb1 HC)))); (case aL => have := LM.out; omega); intro v36 w12 ho hb hg hat; rw [← Ny.out] at ho; have HO2 := Aside0.mk ho; have HB2 := Aside0.mk hb; clear ho hb hg hat))
                        go_roundg k1
                        case measure => have := HK1.out; omega
                        case rel => exact ⟨y, (wrap64 (i + 1)), (by first | rfl | (simp; done) | (simp [*]; done)), H', ⟨by have := HK1.out; omega⟩, ⟨zq3 HO2⟩, ⟨(zb1 HB2)⟩⟩
                  · rw [if_neg c9] at H; cases H
                · rw [if_neg c'] at H; cases H
              · rw [if_neg c] at H
                have cb := decide_eq_false c
                clear c
                obtain ⟨t, hc0, hp0⟩ := Option.bind_eq_some_iff.mp H
                clear H
                have A6 := Aside0.mk hc0
                have A7 := Aside0.mk hp0
                clear hc0 hp0
                obtain ⟨Ao, co, eo⟩ := Kd.R_slice HO.out
                subst eo
                go_wp2_with (first | ((with_reducible refine gate_callee (f := 47) rfl ?_); refine goesL_ (some 52) rfl rfl Try.func47 (by kernel_rfl) rfl #[.slice Ao x.length co] rfl zq6 ?_; (with_reducible refine (impl_collect.calls _ _ x t _ (Kd.R_reads' HO.out).2.2 (Kd.R_reads' HO.out).2.1 A6.out).mono ?_); rintro e w6 ⟨v6, rfl, ho, hb⟩; refine ⟨_, rfl, ?_⟩; have HO6 := Aside0.mk (Kd.R_lower ho (below_size (zb0 HB))); replace HB := Aside0.mk (below_step (zb0 HB) hb); clear ho hb; obtain ⟨Aq, cq, eq6⟩ := Kd.R_slice HO6.out; subst eq6) | (go_at_call 47; (with_reducible refine (impl_collect.calls _ _ x t _ (Kd.R_reads' HO.out).2.2 (Kd.R_reads' HO.out).2.1 A6.out).mono ?_); rintro e w6 ⟨v6, rfl, ho, hb⟩; have HO6 := Aside0.mk (Kd.R_lower ho (below_size (zb0 HB))); replace HB := Aside0.mk (below_step (zb0 HB) hb); clear ho hb; obtain ⟨Aq, cq, eq6⟩ := Kd.R_slice HO6.out; subst eq6) | ((with_reducible refine gate_callee (f := 46) rfl ?_); refine goesL_ (some 53) rfl rfl Try.func46 (by kernel_rfl) rfl #[.slice Aq t.length cq] rfl zq6 ?_; (with_reducible refine (impl_polyResult.calls k1 (fun k_ => some k_ = (.slice Aq t.length cq : Value).ownBlock) (.slice Aq t.length cq) t r1 r2 w _ (zb0 HB) (Kd.R_tight rfl HO6.out) A7.out).mono ?_); rintro e w7 ⟨v7, rfl, ho, hb, hkp⟩; refine ⟨_, rfl, ?_⟩; have HO7 := Aside0.mk (Kd.R_mono (ok' := fun k_ => True) ho (fun k_ hk_ => trivial)); clear HB; have HB := Aside0.mk hb; clear ho hb hkp) | (go_at_call 46; (with_reducible refine (impl_polyResult.calls k1 (fun k_ => some k_ = (.slice Aq t.length cq : Value).ownBlock) (.slice Aq t.length cq) t r1 r2 w _ (zb0 HB) (Kd.R_tight rfl HO6.out) A7.out).mono ?_); rintro e w7 ⟨v7, rfl, ho, hb, hkp⟩; have HO7 := Aside0.mk (Kd.R_mono (ok' := fun k_ => True) ho (fun k_ hk_ => trivial)); clear HB; have HB := Aside0.mk hb; clear ho hb hkp))
                go_ret2
                exact ⟨_, by first | rfl | (simp; done) | (simp [*]; done), zq3 HO7, (zb0 HB)⟩
        · rw [if_neg cp] at h; cases h
    · rw [if_neg cl] at h; cases h
end Go.Proofs.Ythanmlojikidbaa.PD
