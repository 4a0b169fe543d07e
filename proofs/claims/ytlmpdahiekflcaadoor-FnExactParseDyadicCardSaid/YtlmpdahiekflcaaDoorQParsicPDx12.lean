-- By wip/mk/drv.py
import Derived.Test.YtlmpdahiekflcaaDoorQParsicPDx0
import Derived.Test.YtlmpdahiekflcaaDoorQParsicPDx1
import Derived.Test.YtlmpdahiekflcaaDoorQParsicPDx2
import Derived.Test.YtlmpdahiekflcaaDoorQParsicPDx3
namespace Go.Proofs.YtlmpdahiekflcaaDoor.PD
open Go.RowKit Go.Proofs.YtlmpdahiekflcaaDoorW.PrintWords Go.Proofs.YtlmpdahiekflcaaDoorW.PrintLast Go.Proofs.YtlmpdahiekflcaaDoorW.PrintMore
attribute [local go_sem] max2_int min2_int max_two min_two max_three min_three max_four min_four
set_option linter.unusedVariables false
set_option linter.unusedSimpArgs false
/-! ### impl_ParseDyadic: function 5 -/
-- PROOF
/-- strconv.Atoi at a string that spells no int: some number, an error. -/
theorem impl_ParseDyadic.bad {s : ByteArray} {w : World} (ht : Tab w) (hs : s.size ≤ 281474976710656) (h : ∀ v, Lib.atoiAll s.data.toList ≠ .ok v) :
    Calls Tryd.prog 9 #[.string s] w fun e w' => ∃ (n : Int) (g : Nat), e = .returned (.tuple #[.int .i64 n, .iface 48 (.pointer (some ⟨g, 0, none⟩))]) ∧ Below w.heap.size w w' := by
  obtain ⟨_hA, _hB, ⟨e1, h1, k1⟩, ⟨e2, h2, k2⟩⟩ := ht
  rcases hc : Lib.atoiAll s.data.toList with v | _ | _
  · exact absurd hc (h v)
  · refine (show Calls Tryd.prog 9 #[.string s] w _ from Any.strconv_Atoi_syntax Tryd.laysC172 s hs hc e1 w h1 k1).mono ?_
    rintro e w' ⟨g, rfl, _, _, hb⟩
    exact ⟨0, g, rfl, hb⟩
  · refine (Tryd.strconv_Atoi_range s hs hc e2 w h2 k2).mono ?_
    rintro e w' ⟨g, rfl, _, _, hb⟩
    exact ⟨_, g, rfl, hb⟩
theorem impl_ParseDyadic.well {s : ByteArray} {w : World} {v : Int} (hs : s.size ≤ 281474976710656) (h : Lib.atoiAll s.data.toList = .ok v) :
    Calls Tryd.prog 9 #[.string s] w fun e w' => e = .returned (.tuple #[.int .i64 v, .nilIface]) ∧ Below w.heap.size w w' := by
  refine (Tryd.strconv_Atoi_ok s (by omega) v h w).mono ?_
  rintro e w' ⟨rfl, hw⟩
  refine ⟨rfl, ?_⟩
  rcases hw with rfl | ⟨t, rfl⟩
  · exact Below.refl _ _
  · exact bytes_below (Below.refl _ _) (Nat.le_refl _) 5 t
theorem impl_ParseDyadic.part {s : ByteArray} (h : s.size ≤ 1000000) : (impl_ParseDyadic.cut s).1.length ≤ 1000000 ∧ (impl_ParseDyadic.cut s).2.1.length ≤ 1000000 := by
  have hl : s.data.toList.length ≤ 1000000 := by rw [Array.length_toList]; exact h
  unfold impl_ParseDyadic.cut Lib.cut
  split
  · refine ⟨?_, ?_⟩
    · show (List.take _ _).length ≤ _
      rw [List.length_take]; omega
    · show (List.drop _ _).length ≤ _
      rw [List.length_drop]; omega
  · exact ⟨hl, by simp⟩
theorem impl_ParseDyadic.ba (l : List UInt8) (h : l.length ≤ 1000000) : (⟨l.toArray⟩ : ByteArray).size ≤ 281474976710656 := by
  show l.toArray.size ≤ _
  rw [List.size_toArray]; omega
set_option maxHeartbeats 8000000 in
set_option maxRecDepth 100000 in
theorem impl_ParseDyadic.way_ofo {a0 s1 s2 : ByteArray} {n : Int} {r1 r2 : Int} {r3 : Bool} {w : World} (ht : Tab w) (HCUT : Aside0 (∀ W, Tab W → Calls Tryd.prog 8 #[.string a0, .string ⟨#[47, 50, 94]⟩] W fun e w' => e = .returned (.tuple #[.string s1, .string s2, .bool false]) ∧ Below W.heap.size W w')) (HA1 : Aside0 (∀ W, Tab W → Calls Tryd.prog 9 #[.string s1] W fun e w' => e = .returned (.tuple #[.int .i64 n, .nilIface]) ∧ Below W.heap.size W w')) (h : impl_ParseDyadic.fin a0 n 0 = some (r1, r2, r3)) : Calls Tryd.prog 5 #[.string a0] w fun e w' => e = .returned (.tuple #[.agg #[.int .i64 r1, .int .i64 r2], .bool r3]) ∧ Below w.heap.size w w' := by
  have HTAB := Aside0.mk ht
  clear ht
  have HB := Aside0.mk (Below.refl w.heap.size w)
  have hu23 := Tryd.underlying23
  have H := Aside0.mk h
  clear h
  go_enter Tryd.func5, Tryd.ntmps5
  go_upto_region 7 with (first | ((with_reducible refine gate_dst (N := 2) rfl ?_); (try (refine gate_guard (by rfl) ?_; dsimp only)); refine zbe (N := 2) (cs := #[.int .i64 0, .int .i64 0]) (t := 23) ?_; intro gb hg w4 hbox hb; have BK := Aside0.mk (hbox); have GE := Aside0.mk (zge (zb0 HB) hg); replace HB := Aside0.mk (below_step (zb0 HB) hb); clear hb hbox hg) | ((with_reducible refine gate_callee (f := 8) rfl ?_); refine goesL_ (some 14) rfl rfl Tryd.func8 (by kernel_rfl) rfl #[.string a0, .string ⟨#[47, 50, 94]⟩] rfl zq6 ?_; (with_reducible refine (HCUT.out _ (ztab HTAB (zb0 HB))).mono ?_); rintro e w14 ⟨rfl, hb⟩; refine ⟨_, rfl, ?_⟩; replace BK := Aside0.mk (zbb BK hb); replace HB := Aside0.mk (below_step (zb0 HB) hb); clear hb) | ((with_reducible refine gate_callee (f := 9) rfl ?_); refine goesL_ (some 20) rfl rfl Tryd.func9 (by kernel_rfl) rfl #[.string s1] rfl zq6 ?_; (with_reducible refine (HA1.out _ (ztab HTAB (zb0 HB))).mono ?_); rintro e w20 ⟨rfl, hb⟩; refine ⟨_, rfl, ?_⟩; replace BK := Aside0.mk (zbb BK hb); replace HB := Aside0.mk (below_step (zb0 HB) hb); clear hb) | ((with_reducible refine gate_dst (N := 11) rfl ?_); (try (refine gate_guard (by rfl) ?_; dsimp only)); refine zbe (N := 11) (cs := #[.int .i64 0, .int .i64 0]) (t := 23) ?_; intro gc hg w30 hbox hb; have BC := Aside0.mk (hbox); have NBC := Aside0.mk (zlt BK hg); have NCB := Aside0.mk (zgt BK hg); have GC := Aside0.mk (zge (zb0 HB) hg); replace BK := Aside0.mk (zbb BK hb); replace HB := Aside0.mk (below_step (zb0 HB) hb); clear hb hbox hg; have hc0 : w30.cell? ⟨gc, 0, none⟩ = some (.int .i64 0) := zc BC 0; have hc1 : w30.cell? ⟨gc, 1, none⟩ = some (.int .i64 0) := zc BC 1; have hf0 := blk_frozen BC.out 0; have hf1 := blk_frozen BC.out 1))
  (try simp only [Act.put, List.setIfInBounds_toArray, List.set_cons_zero, List.set_cons_succ])
  have hst : ((w30.setCell ⟨gc, 0, none⟩ (.int .i64 n)).setCell ⟨gc, 1, none⟩ (.int .i64 0)).heap[gc]? = some (.cells #[.int .i64 n, .int .i64 0] 23 (0, 0)) := blk_put (cs := #[.int .i64 n, .int .i64 0]) (blk_put (cs := #[.int .i64 0, .int .i64 0]) BC.out 0 _ rfl) 1 _ rfl
  have hsk : ((w30.setCell ⟨gc, 0, none⟩ (.int .i64 n)).setCell ⟨gc, 1, none⟩ (.int .i64 0)).heap[gb]? = some (.cells #[.int .i64 0, .int .i64 0] 23 (0, 0)) := blk_far (blk_far BK.out NBC.out _) NBC.out _
  have hsb : Below w.heap.size w ((w30.setCell ⟨gc, 0, none⟩ (.int .i64 n)).setCell ⟨gc, 1, none⟩ (.int .i64 0)) := below_set (below_set HB.out GC.out) GC.out
  clear hc0 hc1 hf0 hf1
  generalize (w30.setCell ⟨gc, 0, none⟩ (.int .i64 n)).setCell ⟨gc, 1, none⟩ (.int .i64 0) = w31 at hst hsk hsb ⊢
  replace BC := Aside0.mk hst
  replace BK := Aside0.mk hsk
  replace HB := Aside0.mk hsb
  clear hst hsk hsb
  have hc0 : w31.cell? ⟨gc, 0, none⟩ = some (.int .i64 n) := zc BC 0
  have hc1 : w31.cell? ⟨gc, 1, none⟩ = some (.int .i64 0) := zc BC 1
  have H0 := H.out
  clear H
  unfold impl_ParseDyadic.fin at H0
  obtain ⟨g, hg, H1⟩ := Option.bind_eq_some_iff.mp H0
  replace H1 : (if g = true then ((impl_dyadicText.f n 0).bind fun t => (if t.toList = a0.toList then (some (n, 0, true)) else (some (0, 0, false)))) else (some (0, 0, false))) = some (r1, r2, r3) := H1
  clear H0
  have A1 := Aside0.mk hg
  clear hg
  cases g with
  | false =>
    rw [if_neg (by decide)] at H1
    simp only [Option.some.injEq, Prod.mk.injEq] at H1
    obtain ⟨rfl, rfl, rfl⟩ := H1
    go_wp2_with (first | ((with_reducible refine gate_callee (f := 10) rfl ?_); (try (refine gate_guard (by rfl) ?_; dsimp only)); refine goesL_ (some 40) rfl rfl Tryd.func10 (by kernel_rfl) rfl #[.agg #[.int .i64 n, .int .i64 0]] rfl zq6 ?_; (with_reducible refine (impl_isDyadic.calls n 0 false _ A1.out).mono ?_); rintro e w40 ⟨rfl, hb⟩; refine ⟨_, rfl, ?_⟩; replace BK := Aside0.mk (zbb BK hb); replace BC := Aside0.mk (zbb BC hb); replace HB := Aside0.mk (below_step (zb0 HB) hb); clear hb; have hd0 : w40.cell? ⟨gb, 0, none⟩ = some (.int .i64 0) := zc BK 0; have hd1 : w40.cell? ⟨gb, 1, none⟩ = some (.int .i64 0) := zc BK 1; have hq0 := blk_frozen BK.out 0; have hq1 := blk_frozen BK.out 1))
    refine bodyPost_ret (results_ct rfl _ _ gb 23 #[.int .i64 0, .int .i64 0] (0, 0) _ rfl (by (with_reducible repeat (first | refine blk_drewN ?_ _ | refine blk_drew ?_ | refine blk_alloc ?_ _)); refine blk_put (cs := #[.int .i64 0, .int .i64 0]) ?_ 1 _ rfl; (with_reducible repeat (first | refine blk_drewN ?_ _ | refine blk_drew ?_ | refine blk_alloc ?_ _)); refine blk_put (cs := #[.int .i64 0, .int .i64 0]) ?_ 0 _ rfl; (with_reducible repeat (first | refine blk_drewN ?_ _ | refine blk_drew ?_ | refine blk_alloc ?_ _)); exact BK.out) Tryd.underlying23 rfl (by kernel_rfl)) rfl ?_
    exact ⟨by first | rfl | (simp; done) | (simp [*]; done), (by repeat (first | exact HB.out | refine below_set ?_ GE.out | refine below_drew ?_ | refine pw_below_drewN ?_ _))⟩
  | true =>
    rw [if_pos rfl] at H1
    obtain ⟨t, ht, H2⟩ := Option.bind_eq_some_iff.mp H1
    replace H2 : (if t.toList = a0.toList then (some (n, 0, true)) else (some (0, 0, false))) = some (r1, r2, r3) := H2
    clear H1
    have A2 := Aside0.mk ht
    clear ht
    by_cases c : t.toList = a0.toList
    · rw [if_pos c] at H2
      simp only [Option.some.injEq, Prod.mk.injEq] at H2
      obtain ⟨rfl, rfl, rfl⟩ := H2
      go_wp2_with (first | ((with_reducible refine gate_callee (f := 10) rfl ?_); (try (refine gate_guard (by rfl) ?_; dsimp only)); refine goesL_ (some 40) rfl rfl Tryd.func10 (by kernel_rfl) rfl #[.agg #[.int .i64 n, .int .i64 0]] rfl zq6 ?_; (with_reducible refine (impl_isDyadic.calls n 0 true _ A1.out).mono ?_); rintro e w40 ⟨rfl, hb⟩; refine ⟨_, rfl, ?_⟩; replace BK := Aside0.mk (zbb BK hb); replace BC := Aside0.mk (zbb BC hb); replace HB := Aside0.mk (below_step (zb0 HB) hb); clear hb; have hl0 : w40.cell? ⟨gc, 0, none⟩ = some (.int .i64 n) := zc BC 0; have hl1 : w40.cell? ⟨gc, 1, none⟩ = some (.int .i64 0) := zc BC 1) | ((with_reducible refine gate_callee (f := 11) rfl ?_); (try (refine gate_guard (by rfl) ?_; dsimp only)); refine goesL_ (some 45) rfl rfl Tryd.func11 (by kernel_rfl) rfl #[.agg #[.int .i64 n, .int .i64 0]] rfl zq6 ?_; (with_reducible refine (impl_dyadicText.calls n 0 t _ (ztab HTAB (zb0 HB)) A2.out).mono ?_); rintro e w45 ⟨rfl, hb⟩; refine ⟨_, rfl, ?_⟩; replace BK := Aside0.mk (zbb BK hb); replace BC := Aside0.mk (zbb BC hb); replace HB := Aside0.mk (below_step (zb0 HB) hb); clear hb; have hd0 : w45.cell? ⟨gb, 0, none⟩ = some (.int .i64 0) := zc BK 0; have hd1 : w45.cell? ⟨gb, 1, none⟩ = some (.int .i64 0) := zc BK 1; have hq0 := blk_frozen BK.out 0; have hq1 := blk_frozen BK.out 1; have hm0 : w45.cell? ⟨gc, 0, none⟩ = some (.int .i64 n) := zc BC 0; have hm1 : w45.cell? ⟨gc, 1, none⟩ = some (.int .i64 0) := zc BC 1; have hnb := NBC.out; have hnc := NCB.out))
      refine bodyPost_ret (results_ct rfl _ _ gb 23 #[.int .i64 n, .int .i64 0] (0, 0) _ rfl (by (with_reducible repeat (first | refine blk_drewN ?_ _ | refine blk_drew ?_ | refine blk_alloc ?_ _)); refine blk_put (cs := #[.int .i64 n, .int .i64 0]) ?_ 1 _ rfl; (with_reducible repeat (first | refine blk_drewN ?_ _ | refine blk_drew ?_ | refine blk_alloc ?_ _)); refine blk_put (cs := #[.int .i64 0, .int .i64 0]) ?_ 0 _ rfl; (with_reducible repeat (first | refine blk_drewN ?_ _ | refine blk_drew ?_ | refine blk_alloc ?_ _)); exact BK.out) Tryd.underlying23 rfl (by kernel_rfl)) rfl ?_
      exact ⟨by first | rfl | (simp; done) | (simp [*]; done), (by repeat (first | exact HB.out | refine below_set ?_ GE.out | refine below_drew ?_ | refine pw_below_drewN ?_ _))⟩
    · rw [if_neg c] at H2
      have cb : (!t.toList == a0.toList) = true := by simpa using c
      simp only [Option.some.injEq, Prod.mk.injEq] at H2
      obtain ⟨rfl, rfl, rfl⟩ := H2
      go_wp2_with (first | ((with_reducible refine gate_callee (f := 10) rfl ?_); (try (refine gate_guard (by rfl) ?_; dsimp only)); refine goesL_ (some 40) rfl rfl Tryd.func10 (by kernel_rfl) rfl #[.agg #[.int .i64 n, .int .i64 0]] rfl zq6 ?_; (with_reducible refine (impl_isDyadic.calls n 0 true _ A1.out).mono ?_); rintro e w40 ⟨rfl, hb⟩; refine ⟨_, rfl, ?_⟩; replace BK := Aside0.mk (zbb BK hb); replace BC := Aside0.mk (zbb BC hb); replace HB := Aside0.mk (below_step (zb0 HB) hb); clear hb; have hl0 : w40.cell? ⟨gc, 0, none⟩ = some (.int .i64 n) := zc BC 0; have hl1 : w40.cell? ⟨gc, 1, none⟩ = some (.int .i64 0) := zc BC 1) | ((with_reducible refine gate_callee (f := 11) rfl ?_); (try (refine gate_guard (by rfl) ?_; dsimp only)); refine goesL_ (some 45) rfl rfl Tryd.func11 (by kernel_rfl) rfl #[.agg #[.int .i64 n, .int .i64 0]] rfl zq6 ?_; (with_reducible refine (impl_dyadicText.calls n 0 t _ (ztab HTAB (zb0 HB)) A2.out).mono ?_); rintro e w45 ⟨rfl, hb⟩; refine ⟨_, rfl, ?_⟩; replace BK := Aside0.mk (zbb BK hb); replace BC := Aside0.mk (zbb BC hb); replace HB := Aside0.mk (below_step (zb0 HB) hb); clear hb; have hd0 : w45.cell? ⟨gb, 0, none⟩ = some (.int .i64 0) := zc BK 0; have hd1 : w45.cell? ⟨gb, 1, none⟩ = some (.int .i64 0) := zc BK 1; have hq0 := blk_frozen BK.out 0; have hq1 := blk_frozen BK.out 1; have hm0 : w45.cell? ⟨gc, 0, none⟩ = some (.int .i64 n) := zc BC 0; have hm1 : w45.cell? ⟨gc, 1, none⟩ = some (.int .i64 0) := zc BC 1; have hnb := NBC.out; have hnc := NCB.out))
      refine bodyPost_ret (results_ct rfl _ _ gb 23 #[.int .i64 0, .int .i64 0] (0, 0) _ rfl (by (with_reducible repeat (first | refine blk_drewN ?_ _ | refine blk_drew ?_ | refine blk_alloc ?_ _)); refine blk_put (cs := #[.int .i64 0, .int .i64 0]) ?_ 1 _ rfl; (with_reducible repeat (first | refine blk_drewN ?_ _ | refine blk_drew ?_ | refine blk_alloc ?_ _)); refine blk_put (cs := #[.int .i64 0, .int .i64 0]) ?_ 0 _ rfl; (with_reducible repeat (first | refine blk_drewN ?_ _ | refine blk_drew ?_ | refine blk_alloc ?_ _)); exact BK.out) Tryd.underlying23 rfl (by kernel_rfl)) rfl ?_
      exact ⟨by first | rfl | (simp; done) | (simp [*]; done), (by repeat (first | exact HB.out | refine below_set ?_ GE.out | refine below_drew ?_ | refine pw_below_drewN ?_ _))⟩
set_option maxHeartbeats 8000000 in
set_option maxRecDepth 100000 in
theorem impl_ParseDyadic.way_oto {a0 s1 s2 : ByteArray} {n : Int} {k : Int} {r1 r2 : Int} {r3 : Bool} {w : World} (ht : Tab w) (HCUT : Aside0 (∀ W, Tab W → Calls Tryd.prog 8 #[.string a0, .string ⟨#[47, 50, 94]⟩] W fun e w' => e = .returned (.tuple #[.string s1, .string s2, .bool true]) ∧ Below W.heap.size W w')) (HA1 : Aside0 (∀ W, Tab W → Calls Tryd.prog 9 #[.string s1] W fun e w' => e = .returned (.tuple #[.int .i64 n, .nilIface]) ∧ Below W.heap.size W w')) (HA2 : Aside0 (∀ W, Tab W → Calls Tryd.prog 9 #[.string s2] W fun e w' => e = .returned (.tuple #[.int .i64 k, .nilIface]) ∧ Below W.heap.size W w')) (h : impl_ParseDyadic.fin a0 n k = some (r1, r2, r3)) : Calls Tryd.prog 5 #[.string a0] w fun e w' => e = .returned (.tuple #[.agg #[.int .i64 r1, .int .i64 r2], .bool r3]) ∧ Below w.heap.size w w' := by
  have HTAB := Aside0.mk ht
  clear ht
  have HB := Aside0.mk (Below.refl w.heap.size w)
  have hu23 := Tryd.underlying23
  have H := Aside0.mk h
  clear h
  go_enter Tryd.func5, Tryd.ntmps5
  go_upto_region 7 with (first | ((with_reducible refine gate_dst (N := 2) rfl ?_); (try (refine gate_guard (by rfl) ?_; dsimp only)); refine zbe (N := 2) (cs := #[.int .i64 0, .int .i64 0]) (t := 23) ?_; intro gb hg w4 hbox hb; have BK := Aside0.mk (hbox); have GE := Aside0.mk (zge (zb0 HB) hg); replace HB := Aside0.mk (below_step (zb0 HB) hb); clear hb hbox hg) | ((with_reducible refine gate_callee (f := 8) rfl ?_); refine goesL_ (some 14) rfl rfl Tryd.func8 (by kernel_rfl) rfl #[.string a0, .string ⟨#[47, 50, 94]⟩] rfl zq6 ?_; (with_reducible refine (HCUT.out _ (ztab HTAB (zb0 HB))).mono ?_); rintro e w14 ⟨rfl, hb⟩; refine ⟨_, rfl, ?_⟩; replace BK := Aside0.mk (zbb BK hb); replace HB := Aside0.mk (below_step (zb0 HB) hb); clear hb) | ((with_reducible refine gate_callee (f := 9) rfl ?_); refine goesL_ (some 20) rfl rfl Tryd.func9 (by kernel_rfl) rfl #[.string s1] rfl zq6 ?_; (with_reducible refine (HA1.out _ (ztab HTAB (zb0 HB))).mono ?_); rintro e w20 ⟨rfl, hb⟩; refine ⟨_, rfl, ?_⟩; replace BK := Aside0.mk (zbb BK hb); replace HB := Aside0.mk (below_step (zb0 HB) hb); clear hb) | ((with_reducible refine gate_callee (f := 9) rfl ?_); refine goesL_ (some 26) rfl rfl Tryd.func9 (by kernel_rfl) rfl #[.string s2] rfl zq6 ?_; (with_reducible refine (HA2.out _ (ztab HTAB (zb0 HB))).mono ?_); rintro e w26 ⟨rfl, hb⟩; refine ⟨_, rfl, ?_⟩; replace BK := Aside0.mk (zbb BK hb); replace HB := Aside0.mk (below_step (zb0 HB) hb); clear hb) | ((with_reducible refine gate_dst (N := 11) rfl ?_); (try (refine gate_guard (by rfl) ?_; dsimp only)); refine zbe (N := 11) (cs := #[.int .i64 0, .int .i64 0]) (t := 23) ?_; intro gc hg w30 hbox hb; have BC := Aside0.mk (hbox); have NBC := Aside0.mk (zlt BK hg); have NCB := Aside0.mk (zgt BK hg); have GC := Aside0.mk (zge (zb0 HB) hg); replace BK := Aside0.mk (zbb BK hb); replace HB := Aside0.mk (below_step (zb0 HB) hb); clear hb hbox hg; have hc0 : w30.cell? ⟨gc, 0, none⟩ = some (.int .i64 0) := zc BC 0; have hc1 : w30.cell? ⟨gc, 1, none⟩ = some (.int .i64 0) := zc BC 1; have hf0 := blk_frozen BC.out 0; have hf1 := blk_frozen BC.out 1))
  (try simp only [Act.put, List.setIfInBounds_toArray, List.set_cons_zero, List.set_cons_succ])
  have hst : ((w30.setCell ⟨gc, 0, none⟩ (.int .i64 n)).setCell ⟨gc, 1, none⟩ (.int .i64 k)).heap[gc]? = some (.cells #[.int .i64 n, .int .i64 k] 23 (0, 0)) := blk_put (cs := #[.int .i64 n, .int .i64 0]) (blk_put (cs := #[.int .i64 0, .int .i64 0]) BC.out 0 _ rfl) 1 _ rfl
  have hsk : ((w30.setCell ⟨gc, 0, none⟩ (.int .i64 n)).setCell ⟨gc, 1, none⟩ (.int .i64 k)).heap[gb]? = some (.cells #[.int .i64 0, .int .i64 0] 23 (0, 0)) := blk_far (blk_far BK.out NBC.out _) NBC.out _
  have hsb : Below w.heap.size w ((w30.setCell ⟨gc, 0, none⟩ (.int .i64 n)).setCell ⟨gc, 1, none⟩ (.int .i64 k)) := below_set (below_set HB.out GC.out) GC.out
  clear hc0 hc1 hf0 hf1
  generalize (w30.setCell ⟨gc, 0, none⟩ (.int .i64 n)).setCell ⟨gc, 1, none⟩ (.int .i64 k) = w31 at hst hsk hsb ⊢
  replace BC := Aside0.mk hst
  replace BK := Aside0.mk hsk
  replace HB := Aside0.mk hsb
  clear hst hsk hsb
  have hc0 : w31.cell? ⟨gc, 0, none⟩ = some (.int .i64 n) := zc BC 0
  have hc1 : w31.cell? ⟨gc, 1, none⟩ = some (.int .i64 k) := zc BC 1
  have H0 := H.out
  clear H
  unfold impl_ParseDyadic.fin at H0
  obtain ⟨g, hg, H1⟩ := Option.bind_eq_some_iff.mp H0
  replace H1 : (if g = true then ((impl_dyadicText.f n k).bind fun t => (if t.toList = a0.toList then (some (n, k, true)) else (some (0, 0, false)))) else (some (0, 0, false))) = some (r1, r2, r3) := H1
  clear H0
  have A1 := Aside0.mk hg
  clear hg
  cases g with
  | false =>
    rw [if_neg (by decide)] at H1
    simp only [Option.some.injEq, Prod.mk.injEq] at H1
    obtain ⟨rfl, rfl, rfl⟩ := H1
    go_wp2_with (first | ((with_reducible refine gate_callee (f := 10) rfl ?_); (try (refine gate_guard (by rfl) ?_; dsimp only)); refine goesL_ (some 40) rfl rfl Tryd.func10 (by kernel_rfl) rfl #[.agg #[.int .i64 n, .int .i64 k]] rfl zq6 ?_; (with_reducible refine (impl_isDyadic.calls n k false _ A1.out).mono ?_); rintro e w40 ⟨rfl, hb⟩; refine ⟨_, rfl, ?_⟩; replace BK := Aside0.mk (zbb BK hb); replace BC := Aside0.mk (zbb BC hb); replace HB := Aside0.mk (below_step (zb0 HB) hb); clear hb; have hd0 : w40.cell? ⟨gb, 0, none⟩ = some (.int .i64 0) := zc BK 0; have hd1 : w40.cell? ⟨gb, 1, none⟩ = some (.int .i64 0) := zc BK 1; have hq0 := blk_frozen BK.out 0; have hq1 := blk_frozen BK.out 1))
    refine bodyPost_ret (results_ct rfl _ _ gb 23 #[.int .i64 0, .int .i64 0] (0, 0) _ rfl (by (with_reducible repeat (first | refine blk_drewN ?_ _ | refine blk_drew ?_ | refine blk_alloc ?_ _)); refine blk_put (cs := #[.int .i64 0, .int .i64 0]) ?_ 1 _ rfl; (with_reducible repeat (first | refine blk_drewN ?_ _ | refine blk_drew ?_ | refine blk_alloc ?_ _)); refine blk_put (cs := #[.int .i64 0, .int .i64 0]) ?_ 0 _ rfl; (with_reducible repeat (first | refine blk_drewN ?_ _ | refine blk_drew ?_ | refine blk_alloc ?_ _)); exact BK.out) Tryd.underlying23 rfl (by kernel_rfl)) rfl ?_
    exact ⟨by first | rfl | (simp; done) | (simp [*]; done), (by repeat (first | exact HB.out | refine below_set ?_ GE.out | refine below_drew ?_ | refine pw_below_drewN ?_ _))⟩
  | true =>
    rw [if_pos rfl] at H1
    obtain ⟨t, ht, H2⟩ := Option.bind_eq_some_iff.mp H1
    replace H2 : (if t.toList = a0.toList then (some (n, k, true)) else (some (0, 0, false))) = some (r1, r2, r3) := H2
    clear H1
    have A2 := Aside0.mk ht
    clear ht
    by_cases c : t.toList = a0.toList
    · rw [if_pos c] at H2
      simp only [Option.some.injEq, Prod.mk.injEq] at H2
      obtain ⟨rfl, rfl, rfl⟩ := H2
      go_wp2_with (first | ((with_reducible refine gate_callee (f := 10) rfl ?_); (try (refine gate_guard (by rfl) ?_; dsimp only)); refine goesL_ (some 40) rfl rfl Tryd.func10 (by kernel_rfl) rfl #[.agg #[.int .i64 n, .int .i64 k]] rfl zq6 ?_; (with_reducible refine (impl_isDyadic.calls n k true _ A1.out).mono ?_); rintro e w40 ⟨rfl, hb⟩; refine ⟨_, rfl, ?_⟩; replace BK := Aside0.mk (zbb BK hb); replace BC := Aside0.mk (zbb BC hb); replace HB := Aside0.mk (below_step (zb0 HB) hb); clear hb; have hl0 : w40.cell? ⟨gc, 0, none⟩ = some (.int .i64 n) := zc BC 0; have hl1 : w40.cell? ⟨gc, 1, none⟩ = some (.int .i64 k) := zc BC 1) | ((with_reducible refine gate_callee (f := 11) rfl ?_); (try (refine gate_guard (by rfl) ?_; dsimp only)); refine goesL_ (some 45) rfl rfl Tryd.func11 (by kernel_rfl) rfl #[.agg #[.int .i64 n, .int .i64 k]] rfl zq6 ?_; (with_reducible refine (impl_dyadicText.calls n k t _ (ztab HTAB (zb0 HB)) A2.out).mono ?_); rintro e w45 ⟨rfl, hb⟩; refine ⟨_, rfl, ?_⟩; replace BK := Aside0.mk (zbb BK hb); replace BC := Aside0.mk (zbb BC hb); replace HB := Aside0.mk (below_step (zb0 HB) hb); clear hb; have hd0 : w45.cell? ⟨gb, 0, none⟩ = some (.int .i64 0) := zc BK 0; have hd1 : w45.cell? ⟨gb, 1, none⟩ = some (.int .i64 0) := zc BK 1; have hq0 := blk_frozen BK.out 0; have hq1 := blk_frozen BK.out 1; have hm0 : w45.cell? ⟨gc, 0, none⟩ = some (.int .i64 n) := zc BC 0; have hm1 : w45.cell? ⟨gc, 1, none⟩ = some (.int .i64 k) := zc BC 1; have hnb := NBC.out; have hnc := NCB.out))
      refine bodyPost_ret (results_ct rfl _ _ gb 23 #[.int .i64 n, .int .i64 k] (0, 0) _ rfl (by (with_reducible repeat (first | refine blk_drewN ?_ _ | refine blk_drew ?_ | refine blk_alloc ?_ _)); refine blk_put (cs := #[.int .i64 n, .int .i64 0]) ?_ 1 _ rfl; (with_reducible repeat (first | refine blk_drewN ?_ _ | refine blk_drew ?_ | refine blk_alloc ?_ _)); refine blk_put (cs := #[.int .i64 0, .int .i64 0]) ?_ 0 _ rfl; (with_reducible repeat (first | refine blk_drewN ?_ _ | refine blk_drew ?_ | refine blk_alloc ?_ _)); exact BK.out) Tryd.underlying23 rfl (by kernel_rfl)) rfl ?_
      exact ⟨by first | rfl | (simp; done) | (simp [*]; done), (by repeat (first | exact HB.out | refine below_set ?_ GE.out | refine below_drew ?_ | refine pw_below_drewN ?_ _))⟩
    · rw [if_neg c] at H2
      have cb : (!t.toList == a0.toList) = true := by simpa using c
      simp only [Option.some.injEq, Prod.mk.injEq] at H2
      obtain ⟨rfl, rfl, rfl⟩ := H2
      go_wp2_with (first | ((with_reducible refine gate_callee (f := 10) rfl ?_); (try (refine gate_guard (by rfl) ?_; dsimp only)); refine goesL_ (some 40) rfl rfl Tryd.func10 (by kernel_rfl) rfl #[.agg #[.int .i64 n, .int .i64 k]] rfl zq6 ?_; (with_reducible refine (impl_isDyadic.calls n k true _ A1.out).mono ?_); rintro e w40 ⟨rfl, hb⟩; refine ⟨_, rfl, ?_⟩; replace BK := Aside0.mk (zbb BK hb); replace BC := Aside0.mk (zbb BC hb); replace HB := Aside0.mk (below_step (zb0 HB) hb); clear hb; have hl0 : w40.cell? ⟨gc, 0, none⟩ = some (.int .i64 n) := zc BC 0; have hl1 : w40.cell? ⟨gc, 1, none⟩ = some (.int .i64 k) := zc BC 1) | ((with_reducible refine gate_callee (f := 11) rfl ?_); (try (refine gate_guard (by rfl) ?_; dsimp only)); refine goesL_ (some 45) rfl rfl Tryd.func11 (by kernel_rfl) rfl #[.agg #[.int .i64 n, .int .i64 k]] rfl zq6 ?_; (with_reducible refine (impl_dyadicText.calls n k t _ (ztab HTAB (zb0 HB)) A2.out).mono ?_); rintro e w45 ⟨rfl, hb⟩; refine ⟨_, rfl, ?_⟩; replace BK := Aside0.mk (zbb BK hb); replace BC := Aside0.mk (zbb BC hb); replace HB := Aside0.mk (below_step (zb0 HB) hb); clear hb; have hd0 : w45.cell? ⟨gb, 0, none⟩ = some (.int .i64 0) := zc BK 0; have hd1 : w45.cell? ⟨gb, 1, none⟩ = some (.int .i64 0) := zc BK 1; have hq0 := blk_frozen BK.out 0; have hq1 := blk_frozen BK.out 1; have hm0 : w45.cell? ⟨gc, 0, none⟩ = some (.int .i64 n) := zc BC 0; have hm1 : w45.cell? ⟨gc, 1, none⟩ = some (.int .i64 k) := zc BC 1; have hnb := NBC.out; have hnc := NCB.out))
      refine bodyPost_ret (results_ct rfl _ _ gb 23 #[.int .i64 0, .int .i64 0] (0, 0) _ rfl (by (with_reducible repeat (first | refine blk_drewN ?_ _ | refine blk_drew ?_ | refine blk_alloc ?_ _)); refine blk_put (cs := #[.int .i64 0, .int .i64 0]) ?_ 1 _ rfl; (with_reducible repeat (first | refine blk_drewN ?_ _ | refine blk_drew ?_ | refine blk_alloc ?_ _)); refine blk_put (cs := #[.int .i64 0, .int .i64 0]) ?_ 0 _ rfl; (with_reducible repeat (first | refine blk_drewN ?_ _ | refine blk_drew ?_ | refine blk_alloc ?_ _)); exact BK.out) Tryd.underlying23 rfl (by kernel_rfl)) rfl ?_
      exact ⟨by first | rfl | (simp; done) | (simp [*]; done), (by repeat (first | exact HB.out | refine below_set ?_ GE.out | refine below_drew ?_ | refine pw_below_drewN ?_ _))⟩
set_option maxHeartbeats 8000000 in
set_option maxRecDepth 100000 in
theorem impl_ParseDyadic.way_otb {a0 s1 s2 : ByteArray} {n : Int} {w : World} (ht : Tab w) (HCUT : Aside0 (∀ W, Tab W → Calls Tryd.prog 8 #[.string a0, .string ⟨#[47, 50, 94]⟩] W fun e w' => e = .returned (.tuple #[.string s1, .string s2, .bool true]) ∧ Below W.heap.size W w')) (HA1 : Aside0 (∀ W, Tab W → Calls Tryd.prog 9 #[.string s1] W fun e w' => e = .returned (.tuple #[.int .i64 n, .nilIface]) ∧ Below W.heap.size W w')) (HA2 : Aside0 (∀ W, Tab W → Calls Tryd.prog 9 #[.string s2] W fun e w' => ∃ (n : Int) (g : Nat), e = .returned (.tuple #[.int .i64 n, .iface 48 (.pointer (some ⟨g, 0, none⟩))]) ∧ Below W.heap.size W w'))  : Calls Tryd.prog 5 #[.string a0] w fun e w' => e = .returned (.tuple #[.agg #[.int .i64 0, .int .i64 0], .bool false]) ∧ Below w.heap.size w w' := by
  have HTAB := Aside0.mk ht
  clear ht
  have HB := Aside0.mk (Below.refl w.heap.size w)
  have hu23 := Tryd.underlying23
  go_enter Tryd.func5, Tryd.ntmps5
  go_upto_region 7 with (first | ((with_reducible refine gate_dst (N := 2) rfl ?_); (try (refine gate_guard (by rfl) ?_; dsimp only)); refine zbe (N := 2) (cs := #[.int .i64 0, .int .i64 0]) (t := 23) ?_; intro gb hg w4 hbox hb; have BK := Aside0.mk (hbox); have GE := Aside0.mk (zge (zb0 HB) hg); replace HB := Aside0.mk (below_step (zb0 HB) hb); clear hb hbox hg) | ((with_reducible refine gate_callee (f := 8) rfl ?_); refine goesL_ (some 14) rfl rfl Tryd.func8 (by kernel_rfl) rfl #[.string a0, .string ⟨#[47, 50, 94]⟩] rfl zq6 ?_; (with_reducible refine (HCUT.out _ (ztab HTAB (zb0 HB))).mono ?_); rintro e w14 ⟨rfl, hb⟩; refine ⟨_, rfl, ?_⟩; replace BK := Aside0.mk (zbb BK hb); replace HB := Aside0.mk (below_step (zb0 HB) hb); clear hb) | ((with_reducible refine gate_callee (f := 9) rfl ?_); refine goesL_ (some 20) rfl rfl Tryd.func9 (by kernel_rfl) rfl #[.string s1] rfl zq6 ?_; (with_reducible refine (HA1.out _ (ztab HTAB (zb0 HB))).mono ?_); rintro e w20 ⟨rfl, hb⟩; refine ⟨_, rfl, ?_⟩; replace BK := Aside0.mk (zbb BK hb); replace HB := Aside0.mk (below_step (zb0 HB) hb); clear hb) | ((with_reducible refine gate_callee (f := 9) rfl ?_); refine goesL_ (some 26) rfl rfl Tryd.func9 (by kernel_rfl) rfl #[.string s2] rfl zq6 ?_; (with_reducible refine (HA2.out _ (ztab HTAB (zb0 HB))).mono ?_); rintro e w26 ⟨m2, g26, rfl, hb⟩; refine ⟨_, rfl, ?_⟩; replace BK := Aside0.mk (zbb BK hb); replace HB := Aside0.mk (below_step (zb0 HB) hb); clear hb) | ((with_reducible refine gate_dst (N := 11) rfl ?_); (try (refine gate_guard (by rfl) ?_; dsimp only)); refine zbe (N := 11) (cs := #[.int .i64 0, .int .i64 0]) (t := 23) ?_; intro gc hg w30 hbox hb; have BC := Aside0.mk (hbox); have NBC := Aside0.mk (zlt BK hg); have NCB := Aside0.mk (zgt BK hg); have GC := Aside0.mk (zge (zb0 HB) hg); replace BK := Aside0.mk (zbb BK hb); replace HB := Aside0.mk (below_step (zb0 HB) hb); clear hb hbox hg; have hc0 : w30.cell? ⟨gc, 0, none⟩ = some (.int .i64 0) := zc BC 0; have hc1 : w30.cell? ⟨gc, 1, none⟩ = some (.int .i64 0) := zc BC 1; have hf0 := blk_frozen BC.out 0; have hf1 := blk_frozen BC.out 1))
  (try simp only [Act.put, List.setIfInBounds_toArray, List.set_cons_zero, List.set_cons_succ])
  have hst : ((w30.setCell ⟨gc, 0, none⟩ (.int .i64 n)).setCell ⟨gc, 1, none⟩ (.int .i64 m2)).heap[gc]? = some (.cells #[.int .i64 n, .int .i64 m2] 23 (0, 0)) := blk_put (cs := #[.int .i64 n, .int .i64 0]) (blk_put (cs := #[.int .i64 0, .int .i64 0]) BC.out 0 _ rfl) 1 _ rfl
  have hsk : ((w30.setCell ⟨gc, 0, none⟩ (.int .i64 n)).setCell ⟨gc, 1, none⟩ (.int .i64 m2)).heap[gb]? = some (.cells #[.int .i64 0, .int .i64 0] 23 (0, 0)) := blk_far (blk_far BK.out NBC.out _) NBC.out _
  have hsb : Below w.heap.size w ((w30.setCell ⟨gc, 0, none⟩ (.int .i64 n)).setCell ⟨gc, 1, none⟩ (.int .i64 m2)) := below_set (below_set HB.out GC.out) GC.out
  clear hc0 hc1 hf0 hf1
  generalize (w30.setCell ⟨gc, 0, none⟩ (.int .i64 n)).setCell ⟨gc, 1, none⟩ (.int .i64 m2) = w31 at hst hsk hsb ⊢
  replace BC := Aside0.mk hst
  replace BK := Aside0.mk hsk
  replace HB := Aside0.mk hsb
  clear hst hsk hsb
  have hd0 : w31.cell? ⟨gb, 0, none⟩ = some (.int .i64 0) := zc BK 0
  have hd1 : w31.cell? ⟨gb, 1, none⟩ = some (.int .i64 0) := zc BK 1
  have hq0 := blk_frozen BK.out 0
  have hq1 := blk_frozen BK.out 1
  go_wp2
  refine bodyPost_ret (results_ct rfl _ _ gb 23 #[.int .i64 0, .int .i64 0] (0, 0) _ rfl (by (with_reducible repeat (first | refine blk_drewN ?_ _ | refine blk_drew ?_ | refine blk_alloc ?_ _)); refine blk_put (cs := #[.int .i64 0, .int .i64 0]) ?_ 1 _ rfl; (with_reducible repeat (first | refine blk_drewN ?_ _ | refine blk_drew ?_ | refine blk_alloc ?_ _)); refine blk_put (cs := #[.int .i64 0, .int .i64 0]) ?_ 0 _ rfl; (with_reducible repeat (first | refine blk_drewN ?_ _ | refine blk_drew ?_ | refine blk_alloc ?_ _)); exact BK.out) Tryd.underlying23 rfl (by kernel_rfl)) rfl ?_
  exact ⟨by first | rfl | (simp; done) | (simp [*]; done), (by repeat (first | exact HB.out | refine below_set ?_ GE.out | refine below_drew ?_ | refine pw_below_drewN ?_ _))⟩
set_option maxHeartbeats 8000000 in
set_option maxRecDepth 100000 in
theorem impl_ParseDyadic.way_bfo {a0 s1 s2 : ByteArray} {w : World} (ht : Tab w) (HCUT : Aside0 (∀ W, Tab W → Calls Tryd.prog 8 #[.string a0, .string ⟨#[47, 50, 94]⟩] W fun e w' => e = .returned (.tuple #[.string s1, .string s2, .bool false]) ∧ Below W.heap.size W w')) (HA1 : Aside0 (∀ W, Tab W → Calls Tryd.prog 9 #[.string s1] W fun e w' => ∃ (n : Int) (g : Nat), e = .returned (.tuple #[.int .i64 n, .iface 48 (.pointer (some ⟨g, 0, none⟩))]) ∧ Below W.heap.size W w'))  : Calls Tryd.prog 5 #[.string a0] w fun e w' => e = .returned (.tuple #[.agg #[.int .i64 0, .int .i64 0], .bool false]) ∧ Below w.heap.size w w' := by
  have HTAB := Aside0.mk ht
  clear ht
  have HB := Aside0.mk (Below.refl w.heap.size w)
  have hu23 := Tryd.underlying23
  go_enter Tryd.func5, Tryd.ntmps5
  go_upto_region 7 with (first | ((with_reducible refine gate_dst (N := 2) rfl ?_); (try (refine gate_guard (by rfl) ?_; dsimp only)); refine zbe (N := 2) (cs := #[.int .i64 0, .int .i64 0]) (t := 23) ?_; intro gb hg w4 hbox hb; have BK := Aside0.mk (hbox); have GE := Aside0.mk (zge (zb0 HB) hg); replace HB := Aside0.mk (below_step (zb0 HB) hb); clear hb hbox hg) | ((with_reducible refine gate_callee (f := 8) rfl ?_); refine goesL_ (some 14) rfl rfl Tryd.func8 (by kernel_rfl) rfl #[.string a0, .string ⟨#[47, 50, 94]⟩] rfl zq6 ?_; (with_reducible refine (HCUT.out _ (ztab HTAB (zb0 HB))).mono ?_); rintro e w14 ⟨rfl, hb⟩; refine ⟨_, rfl, ?_⟩; replace BK := Aside0.mk (zbb BK hb); replace HB := Aside0.mk (below_step (zb0 HB) hb); clear hb) | ((with_reducible refine gate_callee (f := 9) rfl ?_); refine goesL_ (some 20) rfl rfl Tryd.func9 (by kernel_rfl) rfl #[.string s1] rfl zq6 ?_; (with_reducible refine (HA1.out _ (ztab HTAB (zb0 HB))).mono ?_); rintro e w20 ⟨m1, g20, rfl, hb⟩; refine ⟨_, rfl, ?_⟩; replace BK := Aside0.mk (zbb BK hb); replace HB := Aside0.mk (below_step (zb0 HB) hb); clear hb) | ((with_reducible refine gate_dst (N := 11) rfl ?_); (try (refine gate_guard (by rfl) ?_; dsimp only)); refine zbe (N := 11) (cs := #[.int .i64 0, .int .i64 0]) (t := 23) ?_; intro gc hg w30 hbox hb; have BC := Aside0.mk (hbox); have NBC := Aside0.mk (zlt BK hg); have NCB := Aside0.mk (zgt BK hg); have GC := Aside0.mk (zge (zb0 HB) hg); replace BK := Aside0.mk (zbb BK hb); replace HB := Aside0.mk (below_step (zb0 HB) hb); clear hb hbox hg; have hc0 : w30.cell? ⟨gc, 0, none⟩ = some (.int .i64 0) := zc BC 0; have hc1 : w30.cell? ⟨gc, 1, none⟩ = some (.int .i64 0) := zc BC 1; have hf0 := blk_frozen BC.out 0; have hf1 := blk_frozen BC.out 1))
  (try simp only [Act.put, List.setIfInBounds_toArray, List.set_cons_zero, List.set_cons_succ])
  have hst : ((w30.setCell ⟨gc, 0, none⟩ (.int .i64 m1)).setCell ⟨gc, 1, none⟩ (.int .i64 0)).heap[gc]? = some (.cells #[.int .i64 m1, .int .i64 0] 23 (0, 0)) := blk_put (cs := #[.int .i64 m1, .int .i64 0]) (blk_put (cs := #[.int .i64 0, .int .i64 0]) BC.out 0 _ rfl) 1 _ rfl
  have hsk : ((w30.setCell ⟨gc, 0, none⟩ (.int .i64 m1)).setCell ⟨gc, 1, none⟩ (.int .i64 0)).heap[gb]? = some (.cells #[.int .i64 0, .int .i64 0] 23 (0, 0)) := blk_far (blk_far BK.out NBC.out _) NBC.out _
  have hsb : Below w.heap.size w ((w30.setCell ⟨gc, 0, none⟩ (.int .i64 m1)).setCell ⟨gc, 1, none⟩ (.int .i64 0)) := below_set (below_set HB.out GC.out) GC.out
  clear hc0 hc1 hf0 hf1
  generalize (w30.setCell ⟨gc, 0, none⟩ (.int .i64 m1)).setCell ⟨gc, 1, none⟩ (.int .i64 0) = w31 at hst hsk hsb ⊢
  replace BC := Aside0.mk hst
  replace BK := Aside0.mk hsk
  replace HB := Aside0.mk hsb
  clear hst hsk hsb
  have hd0 : w31.cell? ⟨gb, 0, none⟩ = some (.int .i64 0) := zc BK 0
  have hd1 : w31.cell? ⟨gb, 1, none⟩ = some (.int .i64 0) := zc BK 1
  have hq0 := blk_frozen BK.out 0
  have hq1 := blk_frozen BK.out 1
  go_wp2
  refine bodyPost_ret (results_ct rfl _ _ gb 23 #[.int .i64 0, .int .i64 0] (0, 0) _ rfl (by (with_reducible repeat (first | refine blk_drewN ?_ _ | refine blk_drew ?_ | refine blk_alloc ?_ _)); refine blk_put (cs := #[.int .i64 0, .int .i64 0]) ?_ 1 _ rfl; (with_reducible repeat (first | refine blk_drewN ?_ _ | refine blk_drew ?_ | refine blk_alloc ?_ _)); refine blk_put (cs := #[.int .i64 0, .int .i64 0]) ?_ 0 _ rfl; (with_reducible repeat (first | refine blk_drewN ?_ _ | refine blk_drew ?_ | refine blk_alloc ?_ _)); exact BK.out) Tryd.underlying23 rfl (by kernel_rfl)) rfl ?_
  exact ⟨by first | rfl | (simp; done) | (simp [*]; done), (by repeat (first | exact HB.out | refine below_set ?_ GE.out | refine below_drew ?_ | refine pw_below_drewN ?_ _))⟩
set_option maxHeartbeats 8000000 in
set_option maxRecDepth 100000 in
theorem impl_ParseDyadic.way_bto {a0 s1 s2 : ByteArray} {k : Int} {w : World} (ht : Tab w) (HCUT : Aside0 (∀ W, Tab W → Calls Tryd.prog 8 #[.string a0, .string ⟨#[47, 50, 94]⟩] W fun e w' => e = .returned (.tuple #[.string s1, .string s2, .bool true]) ∧ Below W.heap.size W w')) (HA1 : Aside0 (∀ W, Tab W → Calls Tryd.prog 9 #[.string s1] W fun e w' => ∃ (n : Int) (g : Nat), e = .returned (.tuple #[.int .i64 n, .iface 48 (.pointer (some ⟨g, 0, none⟩))]) ∧ Below W.heap.size W w')) (HA2 : Aside0 (∀ W, Tab W → Calls Tryd.prog 9 #[.string s2] W fun e w' => e = .returned (.tuple #[.int .i64 k, .nilIface]) ∧ Below W.heap.size W w'))  : Calls Tryd.prog 5 #[.string a0] w fun e w' => e = .returned (.tuple #[.agg #[.int .i64 0, .int .i64 0], .bool false]) ∧ Below w.heap.size w w' := by
  have HTAB := Aside0.mk ht
  clear ht
  have HB := Aside0.mk (Below.refl w.heap.size w)
  have hu23 := Tryd.underlying23
  go_enter Tryd.func5, Tryd.ntmps5
  go_upto_region 7 with (first | ((with_reducible refine gate_dst (N := 2) rfl ?_); (try (refine gate_guard (by rfl) ?_; dsimp only)); refine zbe (N := 2) (cs := #[.int .i64 0, .int .i64 0]) (t := 23) ?_; intro gb hg w4 hbox hb; have BK := Aside0.mk (hbox); have GE := Aside0.mk (zge (zb0 HB) hg); replace HB := Aside0.mk (below_step (zb0 HB) hb); clear hb hbox hg) | ((with_reducible refine gate_callee (f := 8) rfl ?_); refine goesL_ (some 14) rfl rfl Tryd.func8 (by kernel_rfl) rfl #[.string a0, .string ⟨#[47, 50, 94]⟩] rfl zq6 ?_; (with_reducible refine (HCUT.out _ (ztab HTAB (zb0 HB))).mono ?_); rintro e w14 ⟨rfl, hb⟩; refine ⟨_, rfl, ?_⟩; replace BK := Aside0.mk (zbb BK hb); replace HB := Aside0.mk (below_step (zb0 HB) hb); clear hb) | ((with_reducible refine gate_callee (f := 9) rfl ?_); refine goesL_ (some 20) rfl rfl Tryd.func9 (by kernel_rfl) rfl #[.string s1] rfl zq6 ?_; (with_reducible refine (HA1.out _ (ztab HTAB (zb0 HB))).mono ?_); rintro e w20 ⟨m1, g20, rfl, hb⟩; refine ⟨_, rfl, ?_⟩; replace BK := Aside0.mk (zbb BK hb); replace HB := Aside0.mk (below_step (zb0 HB) hb); clear hb) | ((with_reducible refine gate_callee (f := 9) rfl ?_); refine goesL_ (some 26) rfl rfl Tryd.func9 (by kernel_rfl) rfl #[.string s2] rfl zq6 ?_; (with_reducible refine (HA2.out _ (ztab HTAB (zb0 HB))).mono ?_); rintro e w26 ⟨rfl, hb⟩; refine ⟨_, rfl, ?_⟩; replace BK := Aside0.mk (zbb BK hb); replace HB := Aside0.mk (below_step (zb0 HB) hb); clear hb) | ((with_reducible refine gate_dst (N := 11) rfl ?_); (try (refine gate_guard (by rfl) ?_; dsimp only)); refine zbe (N := 11) (cs := #[.int .i64 0, .int .i64 0]) (t := 23) ?_; intro gc hg w30 hbox hb; have BC := Aside0.mk (hbox); have NBC := Aside0.mk (zlt BK hg); have NCB := Aside0.mk (zgt BK hg); have GC := Aside0.mk (zge (zb0 HB) hg); replace BK := Aside0.mk (zbb BK hb); replace HB := Aside0.mk (below_step (zb0 HB) hb); clear hb hbox hg; have hc0 : w30.cell? ⟨gc, 0, none⟩ = some (.int .i64 0) := zc BC 0; have hc1 : w30.cell? ⟨gc, 1, none⟩ = some (.int .i64 0) := zc BC 1; have hf0 := blk_frozen BC.out 0; have hf1 := blk_frozen BC.out 1))
  (try simp only [Act.put, List.setIfInBounds_toArray, List.set_cons_zero, List.set_cons_succ])
  have hst : ((w30.setCell ⟨gc, 0, none⟩ (.int .i64 m1)).setCell ⟨gc, 1, none⟩ (.int .i64 k)).heap[gc]? = some (.cells #[.int .i64 m1, .int .i64 k] 23 (0, 0)) := blk_put (cs := #[.int .i64 m1, .int .i64 0]) (blk_put (cs := #[.int .i64 0, .int .i64 0]) BC.out 0 _ rfl) 1 _ rfl
  have hsk : ((w30.setCell ⟨gc, 0, none⟩ (.int .i64 m1)).setCell ⟨gc, 1, none⟩ (.int .i64 k)).heap[gb]? = some (.cells #[.int .i64 0, .int .i64 0] 23 (0, 0)) := blk_far (blk_far BK.out NBC.out _) NBC.out _
  have hsb : Below w.heap.size w ((w30.setCell ⟨gc, 0, none⟩ (.int .i64 m1)).setCell ⟨gc, 1, none⟩ (.int .i64 k)) := below_set (below_set HB.out GC.out) GC.out
  clear hc0 hc1 hf0 hf1
  generalize (w30.setCell ⟨gc, 0, none⟩ (.int .i64 m1)).setCell ⟨gc, 1, none⟩ (.int .i64 k) = w31 at hst hsk hsb ⊢
  replace BC := Aside0.mk hst
  replace BK := Aside0.mk hsk
  replace HB := Aside0.mk hsb
  clear hst hsk hsb
  have hd0 : w31.cell? ⟨gb, 0, none⟩ = some (.int .i64 0) := zc BK 0
  have hd1 : w31.cell? ⟨gb, 1, none⟩ = some (.int .i64 0) := zc BK 1
  have hq0 := blk_frozen BK.out 0
  have hq1 := blk_frozen BK.out 1
  go_wp2
  refine bodyPost_ret (results_ct rfl _ _ gb 23 #[.int .i64 0, .int .i64 0] (0, 0) _ rfl (by (with_reducible repeat (first | refine blk_drewN ?_ _ | refine blk_drew ?_ | refine blk_alloc ?_ _)); refine blk_put (cs := #[.int .i64 0, .int .i64 0]) ?_ 1 _ rfl; (with_reducible repeat (first | refine blk_drewN ?_ _ | refine blk_drew ?_ | refine blk_alloc ?_ _)); refine blk_put (cs := #[.int .i64 0, .int .i64 0]) ?_ 0 _ rfl; (with_reducible repeat (first | refine blk_drewN ?_ _ | refine blk_drew ?_ | refine blk_alloc ?_ _)); exact BK.out) Tryd.underlying23 rfl (by kernel_rfl)) rfl ?_
  exact ⟨by first | rfl | (simp; done) | (simp [*]; done), (by repeat (first | exact HB.out | refine below_set ?_ GE.out | refine below_drew ?_ | refine pw_below_drewN ?_ _))⟩
set_option maxHeartbeats 8000000 in
set_option maxRecDepth 100000 in
theorem impl_ParseDyadic.way_btb {a0 s1 s2 : ByteArray} {w : World} (ht : Tab w) (HCUT : Aside0 (∀ W, Tab W → Calls Tryd.prog 8 #[.string a0, .string ⟨#[47, 50, 94]⟩] W fun e w' => e = .returned (.tuple #[.string s1, .string s2, .bool true]) ∧ Below W.heap.size W w')) (HA1 : Aside0 (∀ W, Tab W → Calls Tryd.prog 9 #[.string s1] W fun e w' => ∃ (n : Int) (g : Nat), e = .returned (.tuple #[.int .i64 n, .iface 48 (.pointer (some ⟨g, 0, none⟩))]) ∧ Below W.heap.size W w')) (HA2 : Aside0 (∀ W, Tab W → Calls Tryd.prog 9 #[.string s2] W fun e w' => ∃ (n : Int) (g : Nat), e = .returned (.tuple #[.int .i64 n, .iface 48 (.pointer (some ⟨g, 0, none⟩))]) ∧ Below W.heap.size W w'))  : Calls Tryd.prog 5 #[.string a0] w fun e w' => e = .returned (.tuple #[.agg #[.int .i64 0, .int .i64 0], .bool false]) ∧ Below w.heap.size w w' := by
  have HTAB := Aside0.mk ht
  clear ht
  have HB := Aside0.mk (Below.refl w.heap.size w)
  have hu23 := Tryd.underlying23
  go_enter Tryd.func5, Tryd.ntmps5
  go_upto_region 7 with (first | ((with_reducible refine gate_dst (N := 2) rfl ?_); (try (refine gate_guard (by rfl) ?_; dsimp only)); refine zbe (N := 2) (cs := #[.int .i64 0, .int .i64 0]) (t := 23) ?_; intro gb hg w4 hbox hb; have BK := Aside0.mk (hbox); have GE := Aside0.mk (zge (zb0 HB) hg); replace HB := Aside0.mk (below_step (zb0 HB) hb); clear hb hbox hg) | ((with_reducible refine gate_callee (f := 8) rfl ?_); refine goesL_ (some 14) rfl rfl Tryd.func8 (by kernel_rfl) rfl #[.string a0, .string ⟨#[47, 50, 94]⟩] rfl zq6 ?_; (with_reducible refine (HCUT.out _ (ztab HTAB (zb0 HB))).mono ?_); rintro e w14 ⟨rfl, hb⟩; refine ⟨_, rfl, ?_⟩; replace BK := Aside0.mk (zbb BK hb); replace HB := Aside0.mk (below_step (zb0 HB) hb); clear hb) | ((with_reducible refine gate_callee (f := 9) rfl ?_); refine goesL_ (some 20) rfl rfl Tryd.func9 (by kernel_rfl) rfl #[.string s1] rfl zq6 ?_; (with_reducible refine (HA1.out _ (ztab HTAB (zb0 HB))).mono ?_); rintro e w20 ⟨m1, g20, rfl, hb⟩; refine ⟨_, rfl, ?_⟩; replace BK := Aside0.mk (zbb BK hb); replace HB := Aside0.mk (below_step (zb0 HB) hb); clear hb) | ((with_reducible refine gate_callee (f := 9) rfl ?_); refine goesL_ (some 26) rfl rfl Tryd.func9 (by kernel_rfl) rfl #[.string s2] rfl zq6 ?_; (with_reducible refine (HA2.out _ (ztab HTAB (zb0 HB))).mono ?_); rintro e w26 ⟨m2, g26, rfl, hb⟩; refine ⟨_, rfl, ?_⟩; replace BK := Aside0.mk (zbb BK hb); replace HB := Aside0.mk (below_step (zb0 HB) hb); clear hb) | ((with_reducible refine gate_dst (N := 11) rfl ?_); (try (refine gate_guard (by rfl) ?_; dsimp only)); refine zbe (N := 11) (cs := #[.int .i64 0, .int .i64 0]) (t := 23) ?_; intro gc hg w30 hbox hb; have BC := Aside0.mk (hbox); have NBC := Aside0.mk (zlt BK hg); have NCB := Aside0.mk (zgt BK hg); have GC := Aside0.mk (zge (zb0 HB) hg); replace BK := Aside0.mk (zbb BK hb); replace HB := Aside0.mk (below_step (zb0 HB) hb); clear hb hbox hg; have hc0 : w30.cell? ⟨gc, 0, none⟩ = some (.int .i64 0) := zc BC 0; have hc1 : w30.cell? ⟨gc, 1, none⟩ = some (.int .i64 0) := zc BC 1; have hf0 := blk_frozen BC.out 0; have hf1 := blk_frozen BC.out 1))
  (try simp only [Act.put, List.setIfInBounds_toArray, List.set_cons_zero, List.set_cons_succ])
  have hst : ((w30.setCell ⟨gc, 0, none⟩ (.int .i64 m1)).setCell ⟨gc, 1, none⟩ (.int .i64 m2)).heap[gc]? = some (.cells #[.int .i64 m1, .int .i64 m2] 23 (0, 0)) := blk_put (cs := #[.int .i64 m1, .int .i64 0]) (blk_put (cs := #[.int .i64 0, .int .i64 0]) BC.out 0 _ rfl) 1 _ rfl
  have hsk : ((w30.setCell ⟨gc, 0, none⟩ (.int .i64 m1)).setCell ⟨gc, 1, none⟩ (.int .i64 m2)).heap[gb]? = some (.cells #[.int .i64 0, .int .i64 0] 23 (0, 0)) := blk_far (blk_far BK.out NBC.out _) NBC.out _
  have hsb : Below w.heap.size w ((w30.setCell ⟨gc, 0, none⟩ (.int .i64 m1)).setCell ⟨gc, 1, none⟩ (.int .i64 m2)) := below_set (below_set HB.out GC.out) GC.out
  clear hc0 hc1 hf0 hf1
  generalize (w30.setCell ⟨gc, 0, none⟩ (.int .i64 m1)).setCell ⟨gc, 1, none⟩ (.int .i64 m2) = w31 at hst hsk hsb ⊢
  replace BC := Aside0.mk hst
  replace BK := Aside0.mk hsk
  replace HB := Aside0.mk hsb
  clear hst hsk hsb
  have hd0 : w31.cell? ⟨gb, 0, none⟩ = some (.int .i64 0) := zc BK 0
  have hd1 : w31.cell? ⟨gb, 1, none⟩ = some (.int .i64 0) := zc BK 1
  have hq0 := blk_frozen BK.out 0
  have hq1 := blk_frozen BK.out 1
  go_wp2
  refine bodyPost_ret (results_ct rfl _ _ gb 23 #[.int .i64 0, .int .i64 0] (0, 0) _ rfl (by (with_reducible repeat (first | refine blk_drewN ?_ _ | refine blk_drew ?_ | refine blk_alloc ?_ _)); refine blk_put (cs := #[.int .i64 0, .int .i64 0]) ?_ 1 _ rfl; (with_reducible repeat (first | refine blk_drewN ?_ _ | refine blk_drew ?_ | refine blk_alloc ?_ _)); refine blk_put (cs := #[.int .i64 0, .int .i64 0]) ?_ 0 _ rfl; (with_reducible repeat (first | refine blk_drewN ?_ _ | refine blk_drew ?_ | refine blk_alloc ?_ _)); exact BK.out) Tryd.underlying23 rfl (by kernel_rfl)) rfl ?_
  exact ⟨by first | rfl | (simp; done) | (simp [*]; done), (by repeat (first | exact HB.out | refine below_set ?_ GE.out | refine below_drew ?_ | refine pw_below_drewN ?_ _))⟩
theorem impl_ParseDyadic.calls (a0 : ByteArray) (r1 : Int) (r2 : Int) (r3 : Bool) (w : World) (ht : Tab w) (h : impl_ParseDyadic.f a0 = some (r1, r2, r3)) :
  Calls Tryd.prog 5 #[.string a0] w fun e w' => e = .returned (.tuple #[.agg #[.int .i64 r1, .int .i64 r2], .bool r3]) ∧ Below w.heap.size w w' := by
  unfold impl_ParseDyadic.f at h
  by_cases hs : a0.size ≤ 1000000
  · rw [if_pos hs] at h
    obtain ⟨hl1, hl2⟩ := impl_ParseDyadic.part hs
    obtain ⟨s1, e1⟩ : ∃ s1 : ByteArray, s1 = ⟨(impl_ParseDyadic.cut a0).1.toArray⟩ := ⟨_, rfl⟩
    obtain ⟨s2, e2⟩ : ∃ s2 : ByteArray, s2 = ⟨(impl_ParseDyadic.cut a0).2.1.toArray⟩ := ⟨_, rfl⟩
    obtain ⟨mb, e3⟩ : ∃ mb : Bool, mb = (impl_ParseDyadic.cut a0).2.2 := ⟨_, rfl⟩
    have z1 : s1.size ≤ 281474976710656 := by rw [e1]; exact impl_ParseDyadic.ba _ hl1
    have z2 : s2.size ≤ 281474976710656 := by rw [e2]; exact impl_ParseDyadic.ba _ hl2
    have d1 : s1.data.toList = (impl_ParseDyadic.cut a0).1 := by rw [e1]
    have d2 : s2.data.toList = (impl_ParseDyadic.cut a0).2.1 := by rw [e2]
    have hcut : ∀ W, Tab W → Calls Tryd.prog 8 #[.string a0, .string ⟨#[47, 50, 94]⟩] W fun e w' => e = .returned (.tuple #[.string s1, .string s2, .bool mb]) ∧ Below W.heap.size W w' := by
      intro W hT
      obtain ⟨_hA, ⟨m, hm⟩, _hB⟩ := hT
      refine (Tryd.strings_Cut a0 ⟨#[47, 50, 94]⟩ m W (by omega) hm).mono ?_
      rintro e w' ⟨rfl, q, rfl⟩
      rw [e1, e2, e3]
      exact ⟨rfl, pw_below_drewN (Below.refl _ _) q⟩
    have yes : ∀ (s : ByteArray) (v : Int), s.size ≤ 281474976710656 → Lib.atoiAll s.data.toList = .ok v → ∀ W, Tab W → Calls Tryd.prog 9 #[.string s] W fun e w' => e = .returned (.tuple #[.int .i64 v, .nilIface]) ∧ Below W.heap.size W w' := fun s v hz hv W _ => impl_ParseDyadic.well hz hv
    have no : ∀ (s : ByteArray), s.size ≤ 281474976710656 → (∀ v, Lib.atoiAll s.data.toList ≠ .ok v) → ∀ W, Tab W → Calls Tryd.prog 9 #[.string s] W fun e w' => ∃ (n : Int) (g : Nat), e = .returned (.tuple #[.int .i64 n, .iface 48 (.pointer (some ⟨g, 0, none⟩))]) ∧ Below W.heap.size W w' := fun s hz hv W hT => impl_ParseDyadic.bad hT hz hv
    have key : ∀ c : Lib.NumEnd Int, (∃ v, c = .ok v) ∨ ∀ v, c ≠ .ok v := fun c => by
      rcases c with v | _ | _
      · exact .inl ⟨v, rfl⟩
      · exact .inr (fun v h => by cases h)
      · exact .inr (fun v h => by cases h)
    have gz : ∀ (a b : Lib.NumEnd Int), ((∀ v, a ≠ .ok v) ∨ ∀ v, b ≠ .ok v) → impl_ParseDyadic.g a0 a b = some (0, 0, false) := fun a b hab => by
      rcases a with v | _ | _
      · rcases b with u | _ | _
        · rcases hab with hab | hab
          · exact absurd rfl (hab v)
          · exact absurd rfl (hab u)
        · rfl
        · rfl
      · rfl
      · rfl
    have E1 : impl_ParseDyadic.n1 a0 = Lib.atoiAll s1.data.toList := by unfold impl_ParseDyadic.n1; rw [d1]
    have E2 : impl_ParseDyadic.n2 a0 = if mb = true then Lib.atoiAll s2.data.toList else .ok 0 := by unfold impl_ParseDyadic.n2; rw [d2, e3]
    rw [E1, E2] at h
    clear E1 E2 d1 d2 e1 e2 e3 hl1 hl2
    rcases key (Lib.atoiAll s1.data.toList) with ⟨n, hn⟩ | hn
    · cases mb with
      | false =>
        rw [if_neg (by decide), hn] at h
        exact impl_ParseDyadic.way_ofo ht ⟨hcut⟩ ⟨yes s1 n z1 hn⟩ h
      | true =>
        rw [if_pos rfl, hn] at h
        rcases key (Lib.atoiAll s2.data.toList) with ⟨k, hk⟩ | hk
        · rw [hk] at h
          exact impl_ParseDyadic.way_oto ht ⟨hcut⟩ ⟨yes s1 n z1 hn⟩ ⟨yes s2 k z2 hk⟩ h
        · rw [gz _ _ (.inr hk)] at h
          simp only [Option.some.injEq, Prod.mk.injEq] at h
          obtain ⟨rfl, rfl, rfl⟩ := h
          exact impl_ParseDyadic.way_otb ht ⟨hcut⟩ ⟨yes s1 n z1 hn⟩ ⟨no s2 z2 hk⟩
    · rw [gz _ _ (.inl hn)] at h
      simp only [Option.some.injEq, Prod.mk.injEq] at h
      obtain ⟨rfl, rfl, rfl⟩ := h
      cases mb with
      | false => exact impl_ParseDyadic.way_bfo ht ⟨hcut⟩ ⟨no s1 z1 hn⟩
      | true =>
        rcases key (Lib.atoiAll s2.data.toList) with ⟨k, hk⟩ | hk
        · exact impl_ParseDyadic.way_bto ht ⟨hcut⟩ ⟨no s1 z1 hn⟩ ⟨yes s2 k z2 hk⟩
        · exact impl_ParseDyadic.way_btb ht ⟨hcut⟩ ⟨no s1 z1 hn⟩ ⟨no s2 z2 hk⟩
  · rw [if_neg hs] at h; cases h
end Go.Proofs.YtlmpdahiekflcaaDoor.PD
