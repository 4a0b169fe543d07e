-- By wip/mk/drv.py
import Derived.Test.YtlhojnbllfmmoaaDoorQIntextPDx0
import Derived.Test.YtlhojnbllfmmoaaDoorQIntextPDx1
import Derived.Test.YtlhojnbllfmmoaaDoorQIntextPDx2
import Derived.Test.YtlhojnbllfmmoaaDoorQIntextPDx17
namespace Go.Proofs.YtlhojnbllfmmoaaDoor.PD
open Go.RowKit Go.Proofs.YtlhojnbllfmmoaaDoorW.PrintWords Go.Proofs.YtlhojnbllfmmoaaDoorW.PrintLast Go.Proofs.YtlhojnbllfmmoaaDoorW.PrintMore
attribute [local go_sem] max2_int min2_int max_two min_two max_three min_three max_four min_four
set_option linter.unusedVariables false
set_option linter.unusedSimpArgs false
/-! ### impl_isInterval: function 17 -/
set_option maxHeartbeats 8000000 in
set_option maxRecDepth 100000 in
theorem impl_isInterval.calls (k : Nat) (a0_0 : Int) (a0_1 : Int) (a0_2 : Int) (a0_3 : Int) (r : Bool) (w : World) (h : impl_isInterval.f k a0_0 a0_1 a0_2 a0_3 = some r) :
  Calls Tryd.prog 17 #[.agg #[.int .i64 a0_0, .int .i64 a0_1, .int .i64 a0_2, .int .i64 a0_3]] w fun e w' => e = .returned (.bool r) ∧ Below w.heap.size w w' := by
 have hu33 := Tryd.underlying33
 have hu26 := Tryd.underlying26
 have HB := Aside0.mk (Below.refl w.heap.size w)
 have H : ((impl_isDyadic.f a0_0 a0_1).bind fun t235 => (if t235 = true then ((impl_isDyadic.f a0_2 a0_3).bind fun t236 => (if t236 = true then ((impl_compareD.f k a0_0 a0_1 a0_2 a0_3).bind fun t237 => (some (decide (t237 ≤ 0)))) else (some false))) else (some false))) = some r := h
 clear h
 replace H := Option.bind_eq_some_iff.mp H
 obtain ⟨t235, A20, H⟩ := H
 replace H : (if t235 = true then ((impl_isDyadic.f a0_2 a0_3).bind fun t236 => (if t236 = true then ((impl_compareD.f k a0_0 a0_1 a0_2 a0_3).bind fun t237 => (some (decide (t237 ≤ 0)))) else (some false))) else (some false)) = some r := H
 have A2 := Aside0.mk A20
 clear A20
 by_cases c3 : t235 = true
 ·
  subst c3
  have H1 : ((impl_isDyadic.f a0_2 a0_3).bind fun t236 => (if t236 = true then ((impl_compareD.f k a0_0 a0_1 a0_2 a0_3).bind fun t237 => (some (decide (t237 ≤ 0)))) else (some false))) = some r := by rw [if_pos rfl] at H; exact H
  clear H
  have H := H1
  clear H1
  replace H := Option.bind_eq_some_iff.mp H
  obtain ⟨t236, A40, H⟩ := H
  replace H : (if t236 = true then ((impl_compareD.f k a0_0 a0_1 a0_2 a0_3).bind fun t237 => (some (decide (t237 ≤ 0)))) else (some false)) = some r := H
  have A4 := Aside0.mk A40
  clear A40
  by_cases c5 : t236 = true
  ·
   subst c5
   have H1 : ((impl_compareD.f k a0_0 a0_1 a0_2 a0_3).bind fun t237 => (some (decide (t237 ≤ 0)))) = some r := by rw [if_pos rfl] at H; exact H
   clear H
   have H := H1
   clear H1
   replace H := Option.bind_eq_some_iff.mp H
   obtain ⟨t237, A60, H⟩ := H
   replace H : (some (decide (t237 ≤ 0))) = some r := H
   have A6 := Aside0.mk A60
   clear A60
   obtain rfl := Option.some.inj H
   go_enter Tryd.func17, Tryd.ntmps17
   go_wp2_with (first | ((with_reducible refine gate_dst (N := 1) rfl ?_); refine zbe (N := 1) (cs := #[.int .i64 a0_0, .int .i64 a0_1, .int .i64 a0_2, .int .i64 a0_3]) (t := 33) ?_; intro gb234 hg w7 hbox hb; have BK234 := Aside0.mk (hbox); have GW234 := Aside0.mk (zge (zb0 HB) hg); have GE234 := GW234; replace HB := Aside0.mk (below_step (zb0 HB) hb); clear hb hbox hg; have hcz8_0 : w7.cell? ⟨gb234, 0, none⟩ = some (.int .i64 a0_0) := zc BK234 0; have hcz8_1 : w7.cell? ⟨gb234, 1, none⟩ = some (.int .i64 a0_1) := zc BK234 1; have hcz8_2 : w7.cell? ⟨gb234, 2, none⟩ = some (.int .i64 a0_2) := zc BK234 2; have hcz8_3 : w7.cell? ⟨gb234, 3, none⟩ = some (.int .i64 a0_3) := zc BK234 3; have hfz8_0 := blk_frozen BK234.out 0; have hfz8_1 := blk_frozen BK234.out 1; have hfz8_2 := blk_frozen BK234.out 2; have hfz8_3 := blk_frozen BK234.out 3) | ((with_reducible refine gate_callee (f := 13) rfl ?_); refine goesL_ (some 5) rfl rfl Tryd.func13 (by kernel_rfl) rfl #[.agg #[.int .i64 a0_0, .int .i64 a0_1]] rfl zq6 ?_; (with_reducible refine (impl_isDyadic.calls a0_0 a0_1 true _ A2.out).mono ?_); rintro e w9 ⟨rfl, hb⟩; refine ⟨_, rfl, ?_⟩; replace BK234 := Aside0.mk (zbb BK234 hb); replace HB := Aside0.mk (below_step (zb1 HB) hb); (try clear hb); (try clear hb2); (try clear hk); (try clear hi); have hcz10_0 : w9.cell? ⟨gb234, 0, none⟩ = some (.int .i64 a0_0) := zc BK234 0; have hcz10_1 : w9.cell? ⟨gb234, 1, none⟩ = some (.int .i64 a0_1) := zc BK234 1; have hcz10_2 : w9.cell? ⟨gb234, 2, none⟩ = some (.int .i64 a0_2) := zc BK234 2; have hcz10_3 : w9.cell? ⟨gb234, 3, none⟩ = some (.int .i64 a0_3) := zc BK234 3; have hfz10_0 := blk_frozen BK234.out 0; have hfz10_1 := blk_frozen BK234.out 1; have hfz10_2 := blk_frozen BK234.out 2; have hfz10_3 := blk_frozen BK234.out 3) | (go_at_call 13; (with_reducible refine (impl_isDyadic.calls a0_2 a0_3 true _ A4.out).mono ?_); rintro e w11 ⟨rfl, hb⟩; replace BK234 := Aside0.mk (zbb BK234 hb); replace HB := Aside0.mk (below_step (zb1 HB) hb); (try clear hb); (try clear hb2); (try clear hk); (try clear hi); have hcz12_0 : w11.cell? ⟨gb234, 0, none⟩ = some (.int .i64 a0_0) := zc BK234 0; have hcz12_1 : w11.cell? ⟨gb234, 1, none⟩ = some (.int .i64 a0_1) := zc BK234 1; have hcz12_2 : w11.cell? ⟨gb234, 2, none⟩ = some (.int .i64 a0_2) := zc BK234 2; have hcz12_3 : w11.cell? ⟨gb234, 3, none⟩ = some (.int .i64 a0_3) := zc BK234 3; have hfz12_0 := blk_frozen BK234.out 0; have hfz12_1 := blk_frozen BK234.out 1; have hfz12_2 := blk_frozen BK234.out 2; have hfz12_3 := blk_frozen BK234.out 3) | (go_at_call 26; (with_reducible refine (impl_compareD.calls k a0_0 a0_1 a0_2 a0_3 t237 _ A6.out).mono ?_); rintro e w13 ⟨rfl, hb⟩; replace BK234 := Aside0.mk (zbb BK234 hb); replace HB := Aside0.mk (below_step (zb1 HB) hb); (try clear hb); (try clear hb2); (try clear hk); (try clear hi)))
   go_ret
   exact ⟨by first | rfl | (simp [errW_none, errW_some] <;> rfl) | (simp [*, errW_none, errW_some] <;> rfl), (zb1 HB)⟩
  ·
   replace c5 := Bool.eq_false_iff.mpr c5
   subst c5
   have H1 : (some false) = some r := by rw [if_neg (show ¬ (false = true) by decide)] at H; exact H
   clear H
   have H := H1
   clear H1
   obtain rfl := Option.some.inj H
   go_enter Tryd.func17, Tryd.ntmps17
   go_wp2_with (first | ((with_reducible refine gate_dst (N := 1) rfl ?_); refine zbe (N := 1) (cs := #[.int .i64 a0_0, .int .i64 a0_1, .int .i64 a0_2, .int .i64 a0_3]) (t := 33) ?_; intro gb234 hg w14 hbox hb; have BK234 := Aside0.mk (hbox); have GW234 := Aside0.mk (zge (zb0 HB) hg); have GE234 := GW234; replace HB := Aside0.mk (below_step (zb0 HB) hb); clear hb hbox hg; have hcz15_0 : w14.cell? ⟨gb234, 0, none⟩ = some (.int .i64 a0_0) := zc BK234 0; have hcz15_1 : w14.cell? ⟨gb234, 1, none⟩ = some (.int .i64 a0_1) := zc BK234 1; have hcz15_2 : w14.cell? ⟨gb234, 2, none⟩ = some (.int .i64 a0_2) := zc BK234 2; have hcz15_3 : w14.cell? ⟨gb234, 3, none⟩ = some (.int .i64 a0_3) := zc BK234 3; have hfz15_0 := blk_frozen BK234.out 0; have hfz15_1 := blk_frozen BK234.out 1; have hfz15_2 := blk_frozen BK234.out 2; have hfz15_3 := blk_frozen BK234.out 3) | ((with_reducible refine gate_callee (f := 13) rfl ?_); refine goesL_ (some 5) rfl rfl Tryd.func13 (by kernel_rfl) rfl #[.agg #[.int .i64 a0_0, .int .i64 a0_1]] rfl zq6 ?_; (with_reducible refine (impl_isDyadic.calls a0_0 a0_1 true _ A2.out).mono ?_); rintro e w16 ⟨rfl, hb⟩; refine ⟨_, rfl, ?_⟩; replace BK234 := Aside0.mk (zbb BK234 hb); replace HB := Aside0.mk (below_step (zb1 HB) hb); (try clear hb); (try clear hb2); (try clear hk); (try clear hi); have hcz17_0 : w16.cell? ⟨gb234, 0, none⟩ = some (.int .i64 a0_0) := zc BK234 0; have hcz17_1 : w16.cell? ⟨gb234, 1, none⟩ = some (.int .i64 a0_1) := zc BK234 1; have hcz17_2 : w16.cell? ⟨gb234, 2, none⟩ = some (.int .i64 a0_2) := zc BK234 2; have hcz17_3 : w16.cell? ⟨gb234, 3, none⟩ = some (.int .i64 a0_3) := zc BK234 3; have hfz17_0 := blk_frozen BK234.out 0; have hfz17_1 := blk_frozen BK234.out 1; have hfz17_2 := blk_frozen BK234.out 2; have hfz17_3 := blk_frozen BK234.out 3) | (go_at_call 13; (with_reducible refine (impl_isDyadic.calls a0_2 a0_3 false _ A4.out).mono ?_); rintro e w18 ⟨rfl, hb⟩; replace BK234 := Aside0.mk (zbb BK234 hb); replace HB := Aside0.mk (below_step (zb1 HB) hb); (try clear hb); (try clear hb2); (try clear hk); (try clear hi)))
   go_ret
   exact ⟨by first | rfl | (simp [errW_none, errW_some] <;> rfl) | (simp [*, errW_none, errW_some] <;> rfl), (zb1 HB)⟩
 ·
  replace c3 := Bool.eq_false_iff.mpr c3
  subst c3
  have H1 : (some false) = some r := by rw [if_neg (show ¬ (false = true) by decide)] at H; exact H
  clear H
  have H := H1
  clear H1
  obtain rfl := Option.some.inj H
  go_enter Tryd.func17, Tryd.ntmps17
  go_wp2_with (first | ((with_reducible refine gate_dst (N := 1) rfl ?_); refine zbe (N := 1) (cs := #[.int .i64 a0_0, .int .i64 a0_1, .int .i64 a0_2, .int .i64 a0_3]) (t := 33) ?_; intro gb234 hg w19 hbox hb; have BK234 := Aside0.mk (hbox); have GW234 := Aside0.mk (zge (zb0 HB) hg); have GE234 := GW234; replace HB := Aside0.mk (below_step (zb0 HB) hb); clear hb hbox hg; have hcz20_0 : w19.cell? ⟨gb234, 0, none⟩ = some (.int .i64 a0_0) := zc BK234 0; have hcz20_1 : w19.cell? ⟨gb234, 1, none⟩ = some (.int .i64 a0_1) := zc BK234 1; have hcz20_2 : w19.cell? ⟨gb234, 2, none⟩ = some (.int .i64 a0_2) := zc BK234 2; have hcz20_3 : w19.cell? ⟨gb234, 3, none⟩ = some (.int .i64 a0_3) := zc BK234 3; have hfz20_0 := blk_frozen BK234.out 0; have hfz20_1 := blk_frozen BK234.out 1; have hfz20_2 := blk_frozen BK234.out 2; have hfz20_3 := blk_frozen BK234.out 3) | ((with_reducible refine gate_callee (f := 13) rfl ?_); refine goesL_ (some 5) rfl rfl Tryd.func13 (by kernel_rfl) rfl #[.agg #[.int .i64 a0_0, .int .i64 a0_1]] rfl zq6 ?_; (with_reducible refine (impl_isDyadic.calls a0_0 a0_1 false _ A2.out).mono ?_); rintro e w21 ⟨rfl, hb⟩; refine ⟨_, rfl, ?_⟩; replace BK234 := Aside0.mk (zbb BK234 hb); replace HB := Aside0.mk (below_step (zb1 HB) hb); (try clear hb); (try clear hb2); (try clear hk); (try clear hi)))
  go_ret
  exact ⟨by first | rfl | (simp [errW_none, errW_some] <;> rfl) | (simp [*, errW_none, errW_some] <;> rfl), (zb1 HB)⟩
end Go.Proofs.YtlhojnbllfmmoaaDoor.PD
