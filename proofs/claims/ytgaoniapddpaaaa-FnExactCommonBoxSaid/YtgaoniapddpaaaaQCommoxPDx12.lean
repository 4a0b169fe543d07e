-- By wip/mk/drv.py
import Derived.Test.YtgaoniapddpaaaaQCommoxPDx0
import Derived.Test.YtgaoniapddpaaaaQCommoxPDx1
import Derived.Test.YtgaoniapddpaaaaQCommoxPDx2
namespace Go.Proofs.Ytgaoniapddpaaaa.PD
open Go.RowKit Go.Proofs.YtgaoniapddpaaaaW.PrintWords Go.Proofs.YtgaoniapddpaaaaW.PrintLast Go.Proofs.YtgaoniapddpaaaaW.PrintMore
attribute [local go_sem] max2_int min2_int max_two min_two max_three min_three max_four min_four
set_option linter.unusedVariables false
set_option linter.unusedSimpArgs false
/-! ### impl_align: function 62 -/
-- PROOF
theorem impl_align.far3 {w : World} {g h : Nat} {cs : Array Value} {t : TypeId} (hb : w.heap[h]? = some (.cells cs t (0, 0))) (hne : h ≠ g) (a b c : Value) : (((w.setCell ⟨g, 0, none⟩ a).setCell ⟨g, 1, none⟩ b).setCell ⟨g, 2, none⟩ c).heap[h]? = some (.cells cs t (0, 0)) := blk_far (blk_far (blk_far hb hne a) hne b) hne c
theorem impl_align.put3 {w : World} {g : Nat} {a0 b0 c0 : Value} {t : TypeId} (hb : w.heap[g]? = some (.cells #[a0, b0, c0] t (0, 0))) (a b c : Value) : (((w.setCell ⟨g, 0, none⟩ a).setCell ⟨g, 1, none⟩ b).setCell ⟨g, 2, none⟩ c).heap[g]? = some (.cells #[a, b, c] t (0, 0)) := blk_put (cs := #[a, b, c0]) (blk_put (cs := #[a, b0, c0]) (blk_put (cs := #[a0, b0, c0]) hb 0 a rfl) 1 b rfl) 2 c rfl
theorem impl_align.rfar3 {w : World} {base g : Nat} {v : Value} {xs : List Int} {ok : Nat → Prop} {cs : Array Value} {t : TypeId} (h : Kd.R (Kd.int .i64) 3 w base ok v xs) (hb : w.heap[g]? = some (.cells cs t (0, 0))) (ht : ∀ q, q ∈ 3 :: (Kd.int .i64).E → q ≠ t) (a b c : Value) : Kd.R (Kd.int .i64) 3 (((w.setCell ⟨g, 0, none⟩ a).setCell ⟨g, 1, none⟩ b).setCell ⟨g, 2, none⟩ c) base ok v xs :=
 Kd.R_mono (Kd.R_far (p := ⟨g, 2, none⟩) (Kd.R_far (p := ⟨g, 1, none⟩) (Kd.R_far (p := ⟨g, 0, none⟩) (Kd.R_types h hb ht) (fun _ hk => hk.2) a) (fun _ hk => hk.2) b) (fun _ hk => hk.2) c) (fun _ hk => hk.1)
/-- Two slices that share no row. -/
def impl_align.Ap (u v : Value) : Prop := ∀ k, u.ownBlock = some k → v.ownBlock ≠ some k
theorem impl_align.Ap.mk_ {u v : Value} {n : Nat} (hu : ∀ k, u.ownBlock = some k → k < n) (hv : ∀ k, v.ownBlock = some k → n ≤ k) : impl_align.Ap u v := fun k h1 h2 => by have := hu k h1; have := hv k h2; omega
theorem impl_align.Ap.symm {u v : Value} (h : impl_align.Ap u v) : impl_align.Ap v u := fun k h1 h2 => h k h2 h1
set_option maxHeartbeats 8000000 in
set_option maxRecDepth 100000 in
theorem impl_align.readsA (k gA gB : Nat) (Ka : Int) (P1 P2 : Option Addr) (c1 c2 : Nat) (La Ma : List Int) (Kb : Int) (B1 B2 : Option Addr) (d1 d2 : Nat) (Lb Mb x1 x2 x3 x4 : List Int) (w : World) (hA : w.heap[gA]? = some (.cells #[.int .i64 Ka, .slice P1 La.length c1, .slice P2 Ma.length c2] 27 (0, 0))) (hB : w.heap[gB]? = some (.cells #[.int .i64 Kb, .slice B1 Lb.length d1, .slice B2 Mb.length d2] 27 (0, 0)))
  (hr1 : Kd.C (Kd.int .i64) w P1 La.length La) (hr2 : Kd.C (Kd.int .i64) w P2 Ma.length Ma) (hr3 : Kd.C (Kd.int .i64) w B1 Lb.length Lb) (hr4 : Kd.C (Kd.int .i64) w B2 Mb.length Mb)
  (m : Int) (hm : mx Ka Kb = m) (h1 : impl_scaled.f k La (wrap64 (m - Ka)) = some x1) (h2 : impl_scaled.f k Ma (wrap64 (m - Ka)) = some x2) (h3 : impl_scaled.f k Lb (wrap64 (m - Kb)) = some x3) (h4 : impl_scaled.f k Mb (wrap64 (m - Kb)) = some x4) :
  Calls Try.prog 62 #[.pointer (some ⟨gA, 0, none⟩), .pointer (some ⟨gB, 0, none⟩)] w fun e w' => ∃ v1 v2 v3 v4 : Value, e = .returned (.tuple #[.int .i64 m, .agg #[.int .i64 m, v1, v2], .agg #[.int .i64 m, v3, v4]]) ∧ Kd.R (Kd.int .i64) 3 w' w.heap.size (fun _ => True) v1 x1 ∧ Kd.R (Kd.int .i64) 3 w' w.heap.size (fun _ => True) v2 x2 ∧ Kd.R (Kd.int .i64) 3 w' w.heap.size (fun _ => True) v3 x3 ∧ Kd.R (Kd.int .i64) 3 w' w.heap.size (fun _ => True) v4 x4 ∧ impl_align.Ap v1 v2 ∧ impl_align.Ap v1 v3 ∧ impl_align.Ap v1 v4 ∧ impl_align.Ap v2 v3 ∧ impl_align.Ap v2 v4 ∧ Below w.heap.size w w' := by
 have hu27 := Try.underlying27
 have hmx : (if Ka < Kb then Kb else Ka) = m := hm
 have HB := Aside0.mk (Below.refl w.heap.size w)
 have BKA := Aside0.mk hA
 have BKB := Aside0.mk hB
 have HR1 := Aside0.mk hr1
 have HR2 := Aside0.mk hr2
 have HR3 := Aside0.mk hr3
 have HR4 := Aside0.mk hr4
 have A1 := Aside0.mk h1
 have A2 := Aside0.mk h2
 have A3 := Aside0.mk h3
 have A4 := Aside0.mk h4
 have hA0 : w.cell? ⟨gA, 0, none⟩ = some (.int .i64 Ka) := zc BKA 0
 have hA1 : w.cell? ⟨gA, 1, none⟩ = some (.slice P1 La.length c1) := zc BKA 1
 have hA2 : w.cell? ⟨gA, 2, none⟩ = some (.slice P2 Ma.length c2) := zc BKA 2
 have hB0 : w.cell? ⟨gB, 0, none⟩ = some (.int .i64 Kb) := zc BKB 0
 have hB1 : w.cell? ⟨gB, 1, none⟩ = some (.slice B1 Lb.length d1) := zc BKB 1
 have hB2 : w.cell? ⟨gB, 2, none⟩ = some (.slice B2 Mb.length d2) := zc BKB 2
 clear hA hB hr1 hr2 hr3 hr4 h1 h2 h3 h4 hm
 go_enter Try.func62, Try.ntmps62
 go_wp2_with (first | ((with_reducible refine gate_dst (N := 5) rfl ?_); refine zbe (N := 5) (cs := #[.int .i64 0, .slice none 0 0, .slice none 0 0]) (t := 27) ?_; intro gb5 hg w5 hbox hb; have BK5 := Aside0.mk hbox; have GW5 := Aside0.mk (zge (zb0 HB) hg); have NBA5 := Aside0.mk (zlt BKA hg); replace BKA := Aside0.mk (zbb BKA hb); have NBB5 := Aside0.mk (zlt BKB hg); replace BKB := Aside0.mk (zbb BKB hb); replace HB := Aside0.mk (below_step (zb0 HB) hb); clear hb hbox hg) | ((with_reducible refine gate_dst (N := 6) rfl ?_); refine zbe (N := 6) (cs := #[.int .i64 0, .slice none 0 0, .slice none 0 0]) (t := 27) ?_; intro gb6 hg w6 hbox hb; have BK6 := Aside0.mk hbox; have GW6 := Aside0.mk (zge (zb0 HB) hg); have NBA6 := Aside0.mk (zlt BKA hg); replace BKA := Aside0.mk (zbb BKA hb); have NBB6 := Aside0.mk (zlt BKB hg); replace BKB := Aside0.mk (zbb BKB hb); have NB56 := Aside0.mk (zlt BK5 hg); replace BK5 := Aside0.mk (zbb BK5 hb); replace HB := Aside0.mk (below_step (zb0 HB) hb); clear hb hbox hg))
 replace HB := Aside0.mk (below_drew1 HB.out); replace BKA := Aside0.mk (blk_drew BKA.out); replace BKB := Aside0.mk (blk_drew BKB.out); replace BK5 := Aside0.mk (blk_drew BK5.out); replace BK6 := Aside0.mk (blk_drew BK6.out)
 refine start_ (n := 10) (S := fun w' => w'.cell? ⟨gA, 0, none⟩ = some (.int .i64 Ka) ∧ w'.cell? ⟨gB, 0, none⟩ = some (.int .i64 Kb)) (ds := []) #[false, false, false, false, false, false, false, false, false, false] (by kernel_rfl) rfl rfl ⟨zc BKA 0, zc BKB 0⟩ (fun hHeld => ?_)
 generalize w6.drew = w10 at HB BKA BKB BK5 BK6 hHeld ⊢
 refine zp (i := 0) (N := some 10) #[true, false, false, false, false, false, false, false, false, false] (by kernel_rfl) ?_
 refine zp (i := 1) (N := some 11) #[true, true, false, false, false, false, false, false, false, false] (by kernel_rfl) ?_
 refine zp (i := 2) (N := some 12) #[true, true, true, false, false, false, false, false, false, false] (by kernel_rfl) ?_
 refine take_ (i := 3) (N := some 13) (v := ?_) (a' := ?_) #[true, true, true, true, false, false, false, false, false, false] rfl rfl (by kernel_rfl) (fun _ _ _ h => h) (Or.inl ⟨by rfl, ?_⟩) hHeld ?_ ?_
 rotate_left
 ·
  rintro w' ⟨s0, s1⟩
  go_simp
  with_reducible rfl
 rotate_left
 ·
  simp only [Act.put, List.setIfInBounds_toArray, List.set_cons_zero, List.set_cons_succ, i64_w, i32_w]; rfl
 refine zp (i := 4) (N := some 14) #[true, true, true, true, true, false, false, false, false, false] (by kernel_rfl) ?_
 refine zp (i := 5) (N := some 15) #[true, true, true, true, true, true, false, false, false, false] (by kernel_rfl) ?_
 refine zp (i := 6) (N := some 16) #[true, true, true, true, true, true, true, false, false, false] (by kernel_rfl) ?_
 refine take_ (i := 7) (N := some 17) (v := ?_) (a' := ?_) #[true, true, true, true, true, true, true, true, false, false] rfl rfl (by kernel_rfl) (fun _ _ _ h => h) (Or.inl ⟨by rfl, ?_⟩) hHeld ?_ ?_
 rotate_left
 ·
  rintro w' ⟨s0, s1⟩
  go_simp
  with_reducible rfl
 rotate_left
 ·
  simp only [Act.put, List.setIfInBounds_toArray, List.set_cons_zero, List.set_cons_succ, i64_w, i32_w]; rfl
 refine zp (i := 8) (N := some 18) #[true, true, true, true, true, true, true, true, true, false] (by kernel_rfl) ?_
 refine zp (i := 9) (N := some 7) #[true, true, true, true, true, true, true, true, true, true] (by kernel_rfl) ?_
 refine done_ (by kernel_rfl) ?_
 go_wp2
 replace HB := Aside0.mk (below_drew1 HB.out); replace BKA := Aside0.mk (blk_drew BKA.out); replace BKB := Aside0.mk (blk_drew BKB.out); replace BK5 := Aside0.mk (blk_drew BK5.out); replace BK6 := Aside0.mk (blk_drew BK6.out)
 refine start_ (n := 26) (S := fun w' => w'.cell? ⟨gA, 0, none⟩ = some (.int .i64 Ka) ∧ w'.cell? ⟨gA, 1, none⟩ = some (.slice P1 La.length c1) ∧ w'.cell? ⟨gA, 2, none⟩ = some (.slice P2 Ma.length c2)) (ds := []) #[false, false, false, false, false, false, false, false, false, false, false, false, false, false, false, false, false, false, false, false, false, false, false, false, false, false] (by kernel_rfl) rfl rfl ⟨(by exact ((zb1 HB).cell (World.block_lt_of_cell? w _ hA0)).trans hA0), (by exact ((zb1 HB).cell (World.block_lt_of_cell? w _ hA1)).trans hA1), (by exact ((zb1 HB).cell (World.block_lt_of_cell? w _ hA2)).trans hA2)⟩ (fun hHeld => ?_)
 generalize w10.drew = w20 at HB BKA BKB BK5 BK6 hHeld ⊢
 refine zp (i := 0) (N := some 19) #[true, false, false, false, false, false, false, false, false, false, false, false, false, false, false, false, false, false, false, false, false, false, false, false, false, false] (by kernel_rfl) ?_
 refine zp (i := 1) (N := some 20) #[true, true, false, false, false, false, false, false, false, false, false, false, false, false, false, false, false, false, false, false, false, false, false, false, false, false] (by kernel_rfl) ?_
 refine zp (i := 2) (N := some 21) #[true, true, true, false, false, false, false, false, false, false, false, false, false, false, false, false, false, false, false, false, false, false, false, false, false, false] (by kernel_rfl) ?_
 refine zp (i := 3) (N := some 22) #[true, true, true, true, false, false, false, false, false, false, false, false, false, false, false, false, false, false, false, false, false, false, false, false, false, false] (by kernel_rfl) ?_
 refine take_ (i := 4) (N := some 23) (v := ?_) (a' := ?_) #[true, true, true, true, true, false, false, false, false, false, false, false, false, false, false, false, false, false, false, false, false, false, false, false, false, false] rfl rfl (by kernel_rfl) (fun _ _ _ h => h) (Or.inl ⟨by rfl, ?_⟩) hHeld ?_ ?_
 rotate_left
 ·
  rintro w' ⟨s0, s1, s2⟩
  go_simp
  with_reducible rfl
 rotate_left
 ·
  simp only [Act.put, List.setIfInBounds_toArray, List.set_cons_zero, List.set_cons_succ, i64_w, i32_w]; rfl
 refine zp (i := 5) (N := some 24) #[true, true, true, true, true, true, false, false, false, false, false, false, false, false, false, false, false, false, false, false, false, false, false, false, false, false] (by kernel_rfl) ?_
 refine zp (i := 6) (N := some 25) #[true, true, true, true, true, true, true, false, false, false, false, false, false, false, false, false, false, false, false, false, false, false, false, false, false, false] (by kernel_rfl) ?_
 refine zp (i := 7) (N := some 26) #[true, true, true, true, true, true, true, true, false, false, false, false, false, false, false, false, false, false, false, false, false, false, false, false, false, false] (by kernel_rfl) ?_
 refine zp (i := 8) (N := some 27) #[true, true, true, true, true, true, true, true, true, false, false, false, false, false, false, false, false, false, false, false, false, false, false, false, false, false] (by kernel_rfl) ?_
 refine take_ (i := 9) (N := some 28) (v := ?_) (a' := ?_) #[true, true, true, true, true, true, true, true, true, true, false, false, false, false, false, false, false, false, false, false, false, false, false, false, false, false] rfl rfl (by kernel_rfl) (fun _ _ _ h => h) (Or.inl ⟨by rfl, ?_⟩) hHeld ?_ ?_
 rotate_left
 ·
  rintro w' ⟨s0, s1, s2⟩
  go_simp
  with_reducible rfl
 rotate_left
 ·
  simp only [Act.put, List.setIfInBounds_toArray, List.set_cons_zero, List.set_cons_succ, i64_w, i32_w]; rfl
 refine zp (i := 10) (N := some 29) #[true, true, true, true, true, true, true, true, true, true, true, false, false, false, false, false, false, false, false, false, false, false, false, false, false, false] (by kernel_rfl) ?_
 refine zp (i := 12) (N := some 31) #[true, true, true, true, true, true, true, true, true, true, true, false, true, false, false, false, false, false, false, false, false, false, false, false, false, false] (by kernel_rfl) ?_
 refine zp (i := 13) (N := some 32) #[true, true, true, true, true, true, true, true, true, true, true, false, true, true, false, false, false, false, false, false, false, false, false, false, false, false] (by kernel_rfl) ?_
 refine zp (i := 14) (N := some 33) #[true, true, true, true, true, true, true, true, true, true, true, false, true, true, true, false, false, false, false, false, false, false, false, false, false, false] (by kernel_rfl) ?_
 refine take_ (i := 15) (N := some 34) (v := ?_) (a' := ?_) #[true, true, true, true, true, true, true, true, true, true, true, false, true, true, true, true, false, false, false, false, false, false, false, false, false, false] rfl rfl (by kernel_rfl) (fun _ _ _ h => h) (Or.inl ⟨by rfl, ?_⟩) hHeld ?_ ?_
 rotate_left
 ·
  rintro w' ⟨s0, s1, s2⟩
  go_simp
  with_reducible rfl
 rotate_left
 ·
  simp only [Act.put, List.setIfInBounds_toArray, List.set_cons_zero, List.set_cons_succ, i64_w, i32_w]; rfl
 refine zp (i := 16) (N := some 35) #[true, true, true, true, true, true, true, true, true, true, true, false, true, true, true, true, true, false, false, false, false, false, false, false, false, false] (by kernel_rfl) ?_
 refine zp (i := 17) (N := some 36) #[true, true, true, true, true, true, true, true, true, true, true, false, true, true, true, true, true, true, false, false, false, false, false, false, false, false] (by kernel_rfl) ?_
 refine zp (i := 18) (N := some 37) #[true, true, true, true, true, true, true, true, true, true, true, false, true, true, true, true, true, true, true, false, false, false, false, false, false, false] (by kernel_rfl) ?_
 refine zp (i := 19) (N := some 38) #[true, true, true, true, true, true, true, true, true, true, true, false, true, true, true, true, true, true, true, true, false, false, false, false, false, false] (by kernel_rfl) ?_
 refine take_ (i := 20) (N := some 39) (v := ?_) (a' := ?_) #[true, true, true, true, true, true, true, true, true, true, true, false, true, true, true, true, true, true, true, true, true, false, false, false, false, false] rfl rfl (by kernel_rfl) (fun _ _ _ h => h) (Or.inl ⟨by rfl, ?_⟩) hHeld ?_ ?_
 rotate_left
 ·
  rintro w' ⟨s0, s1, s2⟩
  go_simp
  with_reducible rfl
 rotate_left
 ·
  simp only [Act.put, List.setIfInBounds_toArray, List.set_cons_zero, List.set_cons_succ, i64_w, i32_w]; rfl
 refine zp (i := 21) (N := some 40) #[true, true, true, true, true, true, true, true, true, true, true, false, true, true, true, true, true, true, true, true, true, true, false, false, false, false] (by kernel_rfl) ?_
 refine join_ (σ := Nat × Option Addr × Nat × Option Addr × Nat) 1 #[true, true, true, true, true, true, true, true, true, true, true, true, true, true, true, true, true, true, true, true, true, true, true, true, true, false] (fun s_ => [(30, (.slice s_.2.1 x1.length s_.2.2.1)), (41, (.slice s_.2.2.2.1 x2.length s_.2.2.2.2)), (42, .agg #[.int .i64 m, (.slice s_.2.1 x1.length s_.2.2.1), (.slice s_.2.2.2.1 x2.length s_.2.2.2.2)]), (8, .pointer (some ⟨s_.1, 0, none⟩))]) (fun s_ w' => (w'.cell? ⟨gA, 0, none⟩ = some (.int .i64 Ka) ∧ w'.cell? ⟨gA, 1, none⟩ = some (.slice P1 La.length c1) ∧ w'.cell? ⟨gA, 2, none⟩ = some (.slice P2 Ma.length c2)) ∧ (w'.heap[gA]? = some (.cells #[.int .i64 Ka, .slice P1 La.length c1, .slice P2 Ma.length c2] 27 (0, 0))) ∧ (w'.heap[gB]? = some (.cells #[.int .i64 Kb, .slice B1 Lb.length d1, .slice B2 Mb.length d2] 27 (0, 0))) ∧ (w'.heap[gb5]? = some (.cells #[.int .i64 0, .slice none 0 0, .slice none 0 0] 27 (0, 0))) ∧ (w'.heap[gb6]? = some (.cells #[.int .i64 0, .slice none 0 0, .slice none 0 0] 27 (0, 0))) ∧ (w'.heap[s_.1]? = some (.cells #[.int .i64 0, .slice none 0 0, .slice none 0 0] 27 (0, 0))) ∧ (gA ≠ s_.1) ∧ (gB ≠ s_.1) ∧ (gb5 ≠ s_.1) ∧ (gb6 ≠ s_.1) ∧ (w.heap.size ≤ s_.1) ∧ (Kd.R (Kd.int .i64) 3 w' w.heap.size (fun _ => True) (.slice s_.2.1 x1.length s_.2.2.1) x1) ∧ (Kd.R (Kd.int .i64) 3 w' w.heap.size (fun _ => True) (.slice s_.2.2.2.1 x2.length s_.2.2.2.2) x2) ∧ (impl_align.Ap (.slice s_.2.1 x1.length s_.2.2.1) (.slice s_.2.2.2.1 x2.length s_.2.2.2.2)) ∧ (Below w.heap.size w w')) ?_ ?_
 rotate_left
 ·
  intro hCont
  refine two_ (i := 11) (j := 24) (Ni := (some 30)) (Nj := (some 8)) #[true, true, true, true, true, true, true, true, true, true, true, true, true, true, true, true, true, true, true, true, true, true, false, false, false, false] #[true, true, true, true, true, true, true, true, true, true, true, false, true, true, true, true, true, true, true, true, true, true, false, false, true, false] rfl rfl rfl rfl (by kernel_rfl) (by decide) (by decide) (fun K hK => ?_) (fun K hK => ?_)
  ·
   refine goes_ Try.func91 (by kernel_rfl) rfl #[.slice P1 La.length c1, .int .i64 (wrap64 (m - Ka))] (by rfl) rfl rfl zq6 ?_
   refine (impl_scaled.callsC k _ _ La (wrap64 (m - Ka)) x1 _ (Kd.C_below HR1.out (zb1 HB)) A1.out).mono ?_
   rintro e wn0 ⟨v1, rfl, ho, hb⟩
   obtain ⟨o1, e1, eo1⟩ := Kd.R_slice ho; subst eo1
   refine ⟨_, rfl, ?_⟩
   have HO1 := Aside0.mk (Kd.R_lower ho (below_size (zb1 HB)))
   clear ho
   replace BKA := Aside0.mk (zbb BKA hb); replace BKB := Aside0.mk (zbb BKB hb); replace BK5 := Aside0.mk (zbb BK5 hb); replace BK6 := Aside0.mk (zbb BK6 hb); replace HB := Aside0.mk (below_step (zb1 HB) hb)
   clear hb
   refine hK.out _ _ ⟨(by exact ((zb1 HB).cell (World.block_lt_of_cell? w _ hA0)).trans hA0), (by exact ((zb1 HB).cell (World.block_lt_of_cell? w _ hA1)).trans hA1), (by exact ((zb1 HB).cell (World.block_lt_of_cell? w _ hA2)).trans hA2)⟩ (fun hHeld => ?_)
   clear hK K
   refine norm_ (a' := ?_) ?_ ?_
   rotate_left
   ·
    show Act.put _ (some 30) _ = _
    simp only [Act.put, List.setIfInBounds_toArray, List.set_cons_zero, List.set_cons_succ, i64_w, i32_w]; rfl
   refine two_ (i := 22) (j := 24) (Ni := (some 41)) (Nj := (some 8)) #[true, true, true, true, true, true, true, true, true, true, true, true, true, true, true, true, true, true, true, true, true, true, true, false, false, false] #[true, true, true, true, true, true, true, true, true, true, true, true, true, true, true, true, true, true, true, true, true, true, false, false, true, false] rfl rfl rfl rfl (by kernel_rfl) (by decide) (by decide) (fun K hK => ?_) (fun K hK => ?_)
   ·
    refine goes_ Try.func91 (by kernel_rfl) rfl #[.slice P2 Ma.length c2, .int .i64 (wrap64 (m - Ka))] (by rfl) rfl rfl zq6 ?_
    refine (impl_scaled.callsC k _ _ Ma (wrap64 (m - Ka)) x2 _ (Kd.C_below HR2.out (zb1 HB)) A2.out).mono ?_
    rintro e wn1 ⟨v2, rfl, ho, hb⟩
    obtain ⟨o2, e2, eo2⟩ := Kd.R_slice ho; subst eo2
    refine ⟨_, rfl, ?_⟩
    have AP12 := Aside0.mk (impl_align.Ap.mk_ (Kd.R_lt (zq3 HO1)) (Kd.R_base ho))
    have HO2 := Aside0.mk (Kd.R_lower ho (below_size (zb1 HB)))
    clear ho
    replace BKA := Aside0.mk (zbb BKA hb); replace BKB := Aside0.mk (zbb BKB hb); replace BK5 := Aside0.mk (zbb BK5 hb); replace BK6 := Aside0.mk (zbb BK6 hb); replace HO1 := Aside0.mk (Kd.R_below (zq3 HO1) hb); replace HB := Aside0.mk (below_step (zb1 HB) hb)
    clear hb
    refine hK.out _ _ ⟨(by exact ((zb1 HB).cell (World.block_lt_of_cell? w _ hA0)).trans hA0), (by exact ((zb1 HB).cell (World.block_lt_of_cell? w _ hA1)).trans hA1), (by exact ((zb1 HB).cell (World.block_lt_of_cell? w _ hA2)).trans hA2)⟩ (fun hHeld => ?_)
    clear hK K
    refine norm_ (a' := ?_) ?_ ?_
    rotate_left
    ·
     show Act.put _ (some 41) _ = _
     simp only [Act.put, List.setIfInBounds_toArray, List.set_cons_zero, List.set_cons_succ, i64_w, i32_w]; rfl
    refine zp (i := 23) (N := some 42) #[true, true, true, true, true, true, true, true, true, true, true, true, true, true, true, true, true, true, true, true, true, true, true, true, false, false] (by kernel_rfl) ?_
    refine one_ (i := 24) (N := (some 8)) #[true, true, true, true, true, true, true, true, true, true, true, true, true, true, true, true, true, true, true, true, true, true, true, true, true, false] rfl rfl (by kernel_rfl) (by decide) (fun K hK => ?_)
    refine box_step ?hg (N := 8) ?hd (cs := #[.int .i64 0, .slice none 0 0, .slice none 0 0]) (t := 27) ?hr ?_; (case hd => rfl); (case hg => rfl); (case hr => first | (go_simp; done) | (go_simp; rfl))
    intro gb8 hg wn2 hbox hb
    have BK8 := Aside0.mk hbox; have GW8 := Aside0.mk (zge (zb1 HB) hg); have NBA8 := Aside0.mk (zlt BKA hg); have NBB8 := Aside0.mk (zlt BKB hg); have NB58 := Aside0.mk (zlt BK5 hg); have NB68 := Aside0.mk (zlt BK6 hg)
    clear hbox hg
    replace BKA := Aside0.mk (zbb BKA hb); replace BKB := Aside0.mk (zbb BKB hb); replace BK5 := Aside0.mk (zbb BK5 hb); replace BK6 := Aside0.mk (zbb BK6 hb); replace HO1 := Aside0.mk (Kd.R_below (zq3 HO1) hb); replace HO2 := Aside0.mk (Kd.R_below (zq3 HO2) hb); replace HB := Aside0.mk (below_step (zb1 HB) hb)
    clear hb
    refine hK.out _ _ ⟨(by exact ((zb1 HB).cell (World.block_lt_of_cell? w _ hA0)).trans hA0), (by exact ((zb1 HB).cell (World.block_lt_of_cell? w _ hA1)).trans hA1), (by exact ((zb1 HB).cell (World.block_lt_of_cell? w _ hA2)).trans hA2)⟩ (fun hHeld => ?_)
    clear hK K
    refine norm_ (a' := ?_) ?_ ?_
    rotate_left
    ·
     show Act.put _ (some 8) _ = _
     simp only [Act.put, List.setIfInBounds_toArray, List.set_cons_zero, List.set_cons_succ, i64_w, i32_w]; rfl
    exact norm_ (by simp only [putAll, Act.put, List.setIfInBounds_toArray, List.set_cons_zero, List.set_cons_succ]) (hCont (gb8, o1, e1, o2, e2) _ ⟨hHeld, (zq1 BKA), (zq1 BKB), (zq1 BK5), (zq1 BK6), (zq1 BK8), NBA8.out, NBB8.out, NB58.out, NB68.out, GW8.out, (zq3 HO1), (zq3 HO2), (by first | exact AP12.out | exact AP21.out.symm), (zb1 HB)⟩)
   ·
    refine box_step ?hg (N := 8) ?hd (cs := #[.int .i64 0, .slice none 0 0, .slice none 0 0]) (t := 27) ?hr ?_; (case hd => rfl); (case hg => rfl); (case hr => first | (go_simp; done) | (go_simp; rfl))
    intro gb8 hg wn1 hbox hb
    have BK8 := Aside0.mk hbox; have GW8 := Aside0.mk (zge (zb1 HB) hg); have NBA8 := Aside0.mk (zlt BKA hg); have NBB8 := Aside0.mk (zlt BKB hg); have NB58 := Aside0.mk (zlt BK5 hg); have NB68 := Aside0.mk (zlt BK6 hg)
    clear hbox hg
    replace BKA := Aside0.mk (zbb BKA hb); replace BKB := Aside0.mk (zbb BKB hb); replace BK5 := Aside0.mk (zbb BK5 hb); replace BK6 := Aside0.mk (zbb BK6 hb); replace HO1 := Aside0.mk (Kd.R_below (zq3 HO1) hb); replace HB := Aside0.mk (below_step (zb1 HB) hb)
    clear hb
    refine hK.out _ _ ⟨(by exact ((zb1 HB).cell (World.block_lt_of_cell? w _ hA0)).trans hA0), (by exact ((zb1 HB).cell (World.block_lt_of_cell? w _ hA1)).trans hA1), (by exact ((zb1 HB).cell (World.block_lt_of_cell? w _ hA2)).trans hA2)⟩ (fun hHeld => ?_)
    clear hK K
    refine norm_ (a' := ?_) ?_ ?_
    rotate_left
    ·
     show Act.put _ (some 8) _ = _
     simp only [Act.put, List.setIfInBounds_toArray, List.set_cons_zero, List.set_cons_succ, i64_w, i32_w]; rfl
    refine one_ (i := 22) (N := (some 41)) #[true, true, true, true, true, true, true, true, true, true, true, true, true, true, true, true, true, true, true, true, true, true, true, false, true, false] rfl rfl (by kernel_rfl) (by decide) (fun K hK => ?_)
    refine goes_ Try.func91 (by kernel_rfl) rfl #[.slice P2 Ma.length c2, .int .i64 (wrap64 (m - Ka))] (by rfl) rfl rfl zq6 ?_
    refine (impl_scaled.callsC k _ _ Ma (wrap64 (m - Ka)) x2 _ (Kd.C_below HR2.out (zb1 HB)) A2.out).mono ?_
    rintro e wn2 ⟨v2, rfl, ho, hb⟩
    obtain ⟨o2, e2, eo2⟩ := Kd.R_slice ho; subst eo2
    refine ⟨_, rfl, ?_⟩
    have AP12 := Aside0.mk (impl_align.Ap.mk_ (Kd.R_lt (zq3 HO1)) (Kd.R_base ho))
    have HO2 := Aside0.mk (Kd.R_lower ho (below_size (zb1 HB)))
    clear ho
    replace BKA := Aside0.mk (zbb BKA hb); replace BKB := Aside0.mk (zbb BKB hb); replace BK5 := Aside0.mk (zbb BK5 hb); replace BK6 := Aside0.mk (zbb BK6 hb); replace BK8 := Aside0.mk (zbb BK8 hb); replace HO1 := Aside0.mk (Kd.R_below (zq3 HO1) hb); replace HB := Aside0.mk (below_step (zb1 HB) hb)
    clear hb
    refine hK.out _ _ ⟨(by exact ((zb1 HB).cell (World.block_lt_of_cell? w _ hA0)).trans hA0), (by exact ((zb1 HB).cell (World.block_lt_of_cell? w _ hA1)).trans hA1), (by exact ((zb1 HB).cell (World.block_lt_of_cell? w _ hA2)).trans hA2)⟩ (fun hHeld => ?_)
    clear hK K
    refine norm_ (a' := ?_) ?_ ?_
    rotate_left
    ·
     show Act.put _ (some 41) _ = _
     simp only [Act.put, List.setIfInBounds_toArray, List.set_cons_zero, List.set_cons_succ, i64_w, i32_w]; rfl
    refine zp (i := 23) (N := some 42) #[true, true, true, true, true, true, true, true, true, true, true, true, true, true, true, true, true, true, true, true, true, true, true, true, true, false] (by kernel_rfl) ?_
    exact norm_ (by simp only [putAll, Act.put, List.setIfInBounds_toArray, List.set_cons_zero, List.set_cons_succ]) (hCont (gb8, o1, e1, o2, e2) _ ⟨hHeld, (zq1 BKA), (zq1 BKB), (zq1 BK5), (zq1 BK6), (zq1 BK8), NBA8.out, NBB8.out, NB58.out, NB68.out, GW8.out, (zq3 HO1), (zq3 HO2), (by first | exact AP12.out | exact AP21.out.symm), (zb1 HB)⟩)
  ·
   refine box_step ?hg (N := 8) ?hd (cs := #[.int .i64 0, .slice none 0 0, .slice none 0 0]) (t := 27) ?hr ?_; (case hd => rfl); (case hg => rfl); (case hr => first | (go_simp; done) | (go_simp; rfl))
   intro gb8 hg wn0 hbox hb
   have BK8 := Aside0.mk hbox; have GW8 := Aside0.mk (zge (zb1 HB) hg); have NBA8 := Aside0.mk (zlt BKA hg); have NBB8 := Aside0.mk (zlt BKB hg); have NB58 := Aside0.mk (zlt BK5 hg); have NB68 := Aside0.mk (zlt BK6 hg)
   clear hbox hg
   replace BKA := Aside0.mk (zbb BKA hb); replace BKB := Aside0.mk (zbb BKB hb); replace BK5 := Aside0.mk (zbb BK5 hb); replace BK6 := Aside0.mk (zbb BK6 hb); replace HB := Aside0.mk (below_step (zb1 HB) hb)
   clear hb
   refine hK.out _ _ ⟨(by exact ((zb1 HB).cell (World.block_lt_of_cell? w _ hA0)).trans hA0), (by exact ((zb1 HB).cell (World.block_lt_of_cell? w _ hA1)).trans hA1), (by exact ((zb1 HB).cell (World.block_lt_of_cell? w _ hA2)).trans hA2)⟩ (fun hHeld => ?_)
   clear hK K
   refine norm_ (a' := ?_) ?_ ?_
   rotate_left
   ·
    show Act.put _ (some 8) _ = _
    simp only [Act.put, List.setIfInBounds_toArray, List.set_cons_zero, List.set_cons_succ, i64_w, i32_w]; rfl
   refine one_ (i := 11) (N := (some 30)) #[true, true, true, true, true, true, true, true, true, true, true, true, true, true, true, true, true, true, true, true, true, true, false, false, true, false] rfl rfl (by kernel_rfl) (by decide) (fun K hK => ?_)
   refine goes_ Try.func91 (by kernel_rfl) rfl #[.slice P1 La.length c1, .int .i64 (wrap64 (m - Ka))] (by rfl) rfl rfl zq6 ?_
   refine (impl_scaled.callsC k _ _ La (wrap64 (m - Ka)) x1 _ (Kd.C_below HR1.out (zb1 HB)) A1.out).mono ?_
   rintro e wn1 ⟨v1, rfl, ho, hb⟩
   obtain ⟨o1, e1, eo1⟩ := Kd.R_slice ho; subst eo1
   refine ⟨_, rfl, ?_⟩
   have HO1 := Aside0.mk (Kd.R_lower ho (below_size (zb1 HB)))
   clear ho
   replace BKA := Aside0.mk (zbb BKA hb); replace BKB := Aside0.mk (zbb BKB hb); replace BK5 := Aside0.mk (zbb BK5 hb); replace BK6 := Aside0.mk (zbb BK6 hb); replace BK8 := Aside0.mk (zbb BK8 hb); replace HB := Aside0.mk (below_step (zb1 HB) hb)
   clear hb
   refine hK.out _ _ ⟨(by exact ((zb1 HB).cell (World.block_lt_of_cell? w _ hA0)).trans hA0), (by exact ((zb1 HB).cell (World.block_lt_of_cell? w _ hA1)).trans hA1), (by exact ((zb1 HB).cell (World.block_lt_of_cell? w _ hA2)).trans hA2)⟩ (fun hHeld => ?_)
   clear hK K
   refine norm_ (a' := ?_) ?_ ?_
   rotate_left
   ·
    show Act.put _ (some 30) _ = _
    simp only [Act.put, List.setIfInBounds_toArray, List.set_cons_zero, List.set_cons_succ, i64_w, i32_w]; rfl
   refine one_ (i := 22) (N := (some 41)) #[true, true, true, true, true, true, true, true, true, true, true, true, true, true, true, true, true, true, true, true, true, true, true, false, true, false] rfl rfl (by kernel_rfl) (by decide) (fun K hK => ?_)
   refine goes_ Try.func91 (by kernel_rfl) rfl #[.slice P2 Ma.length c2, .int .i64 (wrap64 (m - Ka))] (by rfl) rfl rfl zq6 ?_
   refine (impl_scaled.callsC k _ _ Ma (wrap64 (m - Ka)) x2 _ (Kd.C_below HR2.out (zb1 HB)) A2.out).mono ?_
   rintro e wn2 ⟨v2, rfl, ho, hb⟩
   obtain ⟨o2, e2, eo2⟩ := Kd.R_slice ho; subst eo2
   refine ⟨_, rfl, ?_⟩
   have AP12 := Aside0.mk (impl_align.Ap.mk_ (Kd.R_lt (zq3 HO1)) (Kd.R_base ho))
   have HO2 := Aside0.mk (Kd.R_lower ho (below_size (zb1 HB)))
   clear ho
   replace BKA := Aside0.mk (zbb BKA hb); replace BKB := Aside0.mk (zbb BKB hb); replace BK5 := Aside0.mk (zbb BK5 hb); replace BK6 := Aside0.mk (zbb BK6 hb); replace BK8 := Aside0.mk (zbb BK8 hb); replace HO1 := Aside0.mk (Kd.R_below (zq3 HO1) hb); replace HB := Aside0.mk (below_step (zb1 HB) hb)
   clear hb
   refine hK.out _ _ ⟨(by exact ((zb1 HB).cell (World.block_lt_of_cell? w _ hA0)).trans hA0), (by exact ((zb1 HB).cell (World.block_lt_of_cell? w _ hA1)).trans hA1), (by exact ((zb1 HB).cell (World.block_lt_of_cell? w _ hA2)).trans hA2)⟩ (fun hHeld => ?_)
   clear hK K
   refine norm_ (a' := ?_) ?_ ?_
   rotate_left
   ·
    show Act.put _ (some 41) _ = _
    simp only [Act.put, List.setIfInBounds_toArray, List.set_cons_zero, List.set_cons_succ, i64_w, i32_w]; rfl
   refine zp (i := 23) (N := some 42) #[true, true, true, true, true, true, true, true, true, true, true, true, true, true, true, true, true, true, true, true, true, true, true, true, true, false] (by kernel_rfl) ?_
   exact norm_ (by simp only [putAll, Act.put, List.setIfInBounds_toArray, List.set_cons_zero, List.set_cons_succ]) (hCont (gb8, o1, e1, o2, e2) _ ⟨hHeld, (zq1 BKA), (zq1 BKB), (zq1 BK5), (zq1 BK6), (zq1 BK8), NBA8.out, NBB8.out, NB58.out, NB68.out, GW8.out, (zq3 HO1), (zq3 HO2), (by first | exact AP12.out | exact AP21.out.symm), (zb1 HB)⟩)
 rintro ⟨gb8, o1, e1, o2, e2⟩ w21 ⟨hHeld, hBKA, hBKB, hBK5, hBK6, hBK8, hNBA8, hNBB8, hNB58, hNB68, hGW8, hHO1, hHO2, hAP12, hHB⟩
 have BKA := Aside0.mk hBKA; have BKB := Aside0.mk hBKB; have BK5 := Aside0.mk hBK5; have BK6 := Aside0.mk hBK6; have BK8 := Aside0.mk hBK8; have NBA8 := Aside0.mk hNBA8; have NBB8 := Aside0.mk hNBB8; have NB58 := Aside0.mk hNB58; have NB68 := Aside0.mk hNB68; have GW8 := Aside0.mk hGW8; have HO1 := Aside0.mk hHO1; have HO2 := Aside0.mk hHO2; have AP12 := Aside0.mk hAP12; have HB := Aside0.mk hHB
 clear hBKA hBKB hBK5 hBK6 hBK8 hNBA8 hNBB8 hNB58 hNB68 hGW8 hHO1 hHO2 hAP12 hHB
 refine norm_ (a' := ?_) ?_ ?_
 rotate_left
 ·
  simp only [putAll, Act.put, List.setIfInBounds_toArray, List.set_cons_zero, List.set_cons_succ]; rfl
 refine one_ (i := 25) (N := none) #[true, true, true, true, true, true, true, true, true, true, true, true, true, true, true, true, true, true, true, true, true, true, true, true, true, true] rfl rfl (by kernel_rfl) (by decide) (fun K hK => ?_)
 have hcz_0 : w21.cell? ⟨gb8, 0, none⟩ = some (.int .i64 0) := zc BK8 0; have hfz_0 := blk_frozen BK8.out 0; have hcz_1 : w21.cell? ⟨gb8, 1, none⟩ = some (.slice none 0 0) := zc BK8 1; have hfz_1 := blk_frozen BK8.out 1; have hcz_2 : w21.cell? ⟨gb8, 2, none⟩ = some (.slice none 0 0) := zc BK8 2; have hfz_2 := blk_frozen BK8.out 2
 rw [if_pos (by rfl)]
 go_wp2
 clear hcz_0 hfz_0 hcz_1 hfz_1 hcz_2 hfz_2
 have hXA := impl_align.far3 (g := gb8) BKA.out NBA8.out (.int .i64 m) (.slice o1 x1.length e1) (.slice o2 x2.length e2)
 have hXB := impl_align.far3 (g := gb8) BKB.out NBB8.out (.int .i64 m) (.slice o1 x1.length e1) (.slice o2 x2.length e2)
 have hX5 := impl_align.far3 (g := gb8) BK5.out NB58.out (.int .i64 m) (.slice o1 x1.length e1) (.slice o2 x2.length e2)
 have hX6 := impl_align.far3 (g := gb8) BK6.out NB68.out (.int .i64 m) (.slice o1 x1.length e1) (.slice o2 x2.length e2)
 have hXn := impl_align.put3 BK8.out (.int .i64 m) (.slice o1 x1.length e1) (.slice o2 x2.length e2)
 have hXo1 := impl_align.rfar3 HO1.out BK8.out (by decide) (.int .i64 m) (.slice o1 x1.length e1) (.slice o2 x2.length e2)
 have hXo2 := impl_align.rfar3 HO2.out BK8.out (by decide) (.int .i64 m) (.slice o1 x1.length e1) (.slice o2 x2.length e2)
 have hXb : Below w.heap.size w (((w21.setCell ⟨gb8, 0, none⟩ (.int .i64 m)).setCell ⟨gb8, 1, none⟩ (.slice o1 x1.length e1)).setCell ⟨gb8, 2, none⟩ (.slice o2 x2.length e2)) := (zb1 HB)
 clear BKA BKB BK5 BK6 BK8 HO1 HO2 HB
 generalize (((w21.setCell ⟨gb8, 0, none⟩ (.int .i64 m)).setCell ⟨gb8, 1, none⟩ (.slice o1 x1.length e1)).setCell ⟨gb8, 2, none⟩ (.slice o2 x2.length e2)) = w22 at hXA hXB hX5 hX6 hXn hXo1 hXo2 hXb ⊢
 have BKA := Aside0.mk hXA; have BKB := Aside0.mk hXB; have BK5 := Aside0.mk hX5; have BK6 := Aside0.mk hX6; have BK8 := Aside0.mk hXn; have HO1 := Aside0.mk hXo1; have HO2 := Aside0.mk hXo2; have HB := Aside0.mk hXb
 clear hXA hXB hX5 hX6 hXn hXo1 hXo2 hXb
 refine hK.out _ _ ⟨(by exact ((zb1 HB).cell (World.block_lt_of_cell? w _ hA0)).trans hA0), (by exact ((zb1 HB).cell (World.block_lt_of_cell? w _ hA1)).trans hA1), (by exact ((zb1 HB).cell (World.block_lt_of_cell? w _ hA2)).trans hA2)⟩ (fun hHeld => ?_)
 clear hK K hHeld
 refine norm_ (a' := ?_) ?_ ?_
 rotate_left
 ·
  first | rfl | (simp only [Act.put, List.setIfInBounds_toArray, List.set_cons_zero, List.set_cons_succ, i64_w, i32_w]; rfl)
 refine done_ (by kernel_rfl) ?_
 go_wp2
 replace HB := Aside0.mk (below_drew1 HB.out); replace BKA := Aside0.mk (blk_drew BKA.out); replace BKB := Aside0.mk (blk_drew BKB.out); replace BK5 := Aside0.mk (blk_drew BK5.out); replace BK6 := Aside0.mk (blk_drew BK6.out); replace BK8 := Aside0.mk (blk_drew BK8.out); replace HO1 := Aside0.mk (Kd.R_drew HO1.out); replace HO2 := Aside0.mk (Kd.R_drew HO2.out)
 refine start_ (n := 26) (S := fun w' => w'.cell? ⟨gB, 0, none⟩ = some (.int .i64 Kb) ∧ w'.cell? ⟨gB, 1, none⟩ = some (.slice B1 Lb.length d1) ∧ w'.cell? ⟨gB, 2, none⟩ = some (.slice B2 Mb.length d2)) (ds := []) #[false, false, false, false, false, false, false, false, false, false, false, false, false, false, false, false, false, false, false, false, false, false, false, false, false, false] (by kernel_rfl) rfl rfl ⟨(by exact ((zb1 HB).cell (World.block_lt_of_cell? w _ hB0)).trans hB0), (by exact ((zb1 HB).cell (World.block_lt_of_cell? w _ hB1)).trans hB1), (by exact ((zb1 HB).cell (World.block_lt_of_cell? w _ hB2)).trans hB2)⟩ (fun hHeld => ?_)
 generalize w22.drew = w30 at HB BKA BKB BK5 BK6 BK8 HO1 HO2 hHeld ⊢
 refine zp (i := 0) (N := some 43) #[true, false, false, false, false, false, false, false, false, false, false, false, false, false, false, false, false, false, false, false, false, false, false, false, false, false] (by kernel_rfl) ?_
 refine zp (i := 1) (N := some 44) #[true, true, false, false, false, false, false, false, false, false, false, false, false, false, false, false, false, false, false, false, false, false, false, false, false, false] (by kernel_rfl) ?_
 refine zp (i := 2) (N := some 45) #[true, true, true, false, false, false, false, false, false, false, false, false, false, false, false, false, false, false, false, false, false, false, false, false, false, false] (by kernel_rfl) ?_
 refine zp (i := 3) (N := some 46) #[true, true, true, true, false, false, false, false, false, false, false, false, false, false, false, false, false, false, false, false, false, false, false, false, false, false] (by kernel_rfl) ?_
 refine take_ (i := 4) (N := some 47) (v := ?_) (a' := ?_) #[true, true, true, true, true, false, false, false, false, false, false, false, false, false, false, false, false, false, false, false, false, false, false, false, false, false] rfl rfl (by kernel_rfl) (fun _ _ _ h => h) (Or.inl ⟨by rfl, ?_⟩) hHeld ?_ ?_
 rotate_left
 ·
  rintro w' ⟨s0, s1, s2⟩
  go_simp
  with_reducible rfl
 rotate_left
 ·
  simp only [Act.put, List.setIfInBounds_toArray, List.set_cons_zero, List.set_cons_succ, i64_w, i32_w]; rfl
 refine zp (i := 5) (N := some 48) #[true, true, true, true, true, true, false, false, false, false, false, false, false, false, false, false, false, false, false, false, false, false, false, false, false, false] (by kernel_rfl) ?_
 refine zp (i := 6) (N := some 49) #[true, true, true, true, true, true, true, false, false, false, false, false, false, false, false, false, false, false, false, false, false, false, false, false, false, false] (by kernel_rfl) ?_
 refine zp (i := 7) (N := some 50) #[true, true, true, true, true, true, true, true, false, false, false, false, false, false, false, false, false, false, false, false, false, false, false, false, false, false] (by kernel_rfl) ?_
 refine zp (i := 8) (N := some 51) #[true, true, true, true, true, true, true, true, true, false, false, false, false, false, false, false, false, false, false, false, false, false, false, false, false, false] (by kernel_rfl) ?_
 refine take_ (i := 9) (N := some 52) (v := ?_) (a' := ?_) #[true, true, true, true, true, true, true, true, true, true, false, false, false, false, false, false, false, false, false, false, false, false, false, false, false, false] rfl rfl (by kernel_rfl) (fun _ _ _ h => h) (Or.inl ⟨by rfl, ?_⟩) hHeld ?_ ?_
 rotate_left
 ·
  rintro w' ⟨s0, s1, s2⟩
  go_simp
  with_reducible rfl
 rotate_left
 ·
  simp only [Act.put, List.setIfInBounds_toArray, List.set_cons_zero, List.set_cons_succ, i64_w, i32_w]; rfl
 refine zp (i := 10) (N := some 53) #[true, true, true, true, true, true, true, true, true, true, true, false, false, false, false, false, false, false, false, false, false, false, false, false, false, false] (by kernel_rfl) ?_
 refine zp (i := 12) (N := some 55) #[true, true, true, true, true, true, true, true, true, true, true, false, true, false, false, false, false, false, false, false, false, false, false, false, false, false] (by kernel_rfl) ?_
 refine zp (i := 13) (N := some 56) #[true, true, true, true, true, true, true, true, true, true, true, false, true, true, false, false, false, false, false, false, false, false, false, false, false, false] (by kernel_rfl) ?_
 refine zp (i := 14) (N := some 57) #[true, true, true, true, true, true, true, true, true, true, true, false, true, true, true, false, false, false, false, false, false, false, false, false, false, false] (by kernel_rfl) ?_
 refine take_ (i := 15) (N := some 58) (v := ?_) (a' := ?_) #[true, true, true, true, true, true, true, true, true, true, true, false, true, true, true, true, false, false, false, false, false, false, false, false, false, false] rfl rfl (by kernel_rfl) (fun _ _ _ h => h) (Or.inl ⟨by rfl, ?_⟩) hHeld ?_ ?_
 rotate_left
 ·
  rintro w' ⟨s0, s1, s2⟩
  go_simp
  with_reducible rfl
 rotate_left
 ·
  simp only [Act.put, List.setIfInBounds_toArray, List.set_cons_zero, List.set_cons_succ, i64_w, i32_w]; rfl
 refine zp (i := 16) (N := some 59) #[true, true, true, true, true, true, true, true, true, true, true, false, true, true, true, true, true, false, false, false, false, false, false, false, false, false] (by kernel_rfl) ?_
 refine zp (i := 17) (N := some 60) #[true, true, true, true, true, true, true, true, true, true, true, false, true, true, true, true, true, true, false, false, false, false, false, false, false, false] (by kernel_rfl) ?_
 refine zp (i := 18) (N := some 61) #[true, true, true, true, true, true, true, true, true, true, true, false, true, true, true, true, true, true, true, false, false, false, false, false, false, false] (by kernel_rfl) ?_
 refine zp (i := 19) (N := some 62) #[true, true, true, true, true, true, true, true, true, true, true, false, true, true, true, true, true, true, true, true, false, false, false, false, false, false] (by kernel_rfl) ?_
 refine take_ (i := 20) (N := some 63) (v := ?_) (a' := ?_) #[true, true, true, true, true, true, true, true, true, true, true, false, true, true, true, true, true, true, true, true, true, false, false, false, false, false] rfl rfl (by kernel_rfl) (fun _ _ _ h => h) (Or.inl ⟨by rfl, ?_⟩) hHeld ?_ ?_
 rotate_left
 ·
  rintro w' ⟨s0, s1, s2⟩
  go_simp
  with_reducible rfl
 rotate_left
 ·
  simp only [Act.put, List.setIfInBounds_toArray, List.set_cons_zero, List.set_cons_succ, i64_w, i32_w]; rfl
 refine zp (i := 21) (N := some 64) #[true, true, true, true, true, true, true, true, true, true, true, false, true, true, true, true, true, true, true, true, true, true, false, false, false, false] (by kernel_rfl) ?_
 refine join_ (σ := Nat × Option Addr × Nat × Option Addr × Nat) 1 #[true, true, true, true, true, true, true, true, true, true, true, true, true, true, true, true, true, true, true, true, true, true, true, true, true, false] (fun s_ => [(54, (.slice s_.2.1 x3.length s_.2.2.1)), (65, (.slice s_.2.2.2.1 x4.length s_.2.2.2.2)), (66, .agg #[.int .i64 m, (.slice s_.2.1 x3.length s_.2.2.1), (.slice s_.2.2.2.1 x4.length s_.2.2.2.2)]), (9, .pointer (some ⟨s_.1, 0, none⟩))]) (fun s_ w' => (w'.cell? ⟨gB, 0, none⟩ = some (.int .i64 Kb) ∧ w'.cell? ⟨gB, 1, none⟩ = some (.slice B1 Lb.length d1) ∧ w'.cell? ⟨gB, 2, none⟩ = some (.slice B2 Mb.length d2)) ∧ (w'.heap[gA]? = some (.cells #[.int .i64 Ka, .slice P1 La.length c1, .slice P2 Ma.length c2] 27 (0, 0))) ∧ (w'.heap[gB]? = some (.cells #[.int .i64 Kb, .slice B1 Lb.length d1, .slice B2 Mb.length d2] 27 (0, 0))) ∧ (w'.heap[gb5]? = some (.cells #[.int .i64 0, .slice none 0 0, .slice none 0 0] 27 (0, 0))) ∧ (w'.heap[gb6]? = some (.cells #[.int .i64 0, .slice none 0 0, .slice none 0 0] 27 (0, 0))) ∧ (w'.heap[gb8]? = some (.cells #[.int .i64 m, (.slice o1 x1.length e1), (.slice o2 x2.length e2)] 27 (0, 0))) ∧ (w'.heap[s_.1]? = some (.cells #[.int .i64 0, .slice none 0 0, .slice none 0 0] 27 (0, 0))) ∧ (gA ≠ s_.1) ∧ (gB ≠ s_.1) ∧ (gb5 ≠ s_.1) ∧ (gb6 ≠ s_.1) ∧ (gb8 ≠ s_.1) ∧ (w.heap.size ≤ s_.1) ∧ (Kd.R (Kd.int .i64) 3 w' w.heap.size (fun _ => True) (.slice o1 x1.length e1) x1) ∧ (Kd.R (Kd.int .i64) 3 w' w.heap.size (fun _ => True) (.slice o2 x2.length e2) x2) ∧ (Kd.R (Kd.int .i64) 3 w' w.heap.size (fun _ => True) (.slice s_.2.1 x3.length s_.2.2.1) x3) ∧ (Kd.R (Kd.int .i64) 3 w' w.heap.size (fun _ => True) (.slice s_.2.2.2.1 x4.length s_.2.2.2.2) x4) ∧ (impl_align.Ap (.slice o1 x1.length e1) (.slice s_.2.1 x3.length s_.2.2.1)) ∧ (impl_align.Ap (.slice o1 x1.length e1) (.slice s_.2.2.2.1 x4.length s_.2.2.2.2)) ∧ (impl_align.Ap (.slice o2 x2.length e2) (.slice s_.2.1 x3.length s_.2.2.1)) ∧ (impl_align.Ap (.slice o2 x2.length e2) (.slice s_.2.2.2.1 x4.length s_.2.2.2.2)) ∧ (impl_align.Ap (.slice s_.2.1 x3.length s_.2.2.1) (.slice s_.2.2.2.1 x4.length s_.2.2.2.2)) ∧ (Below w.heap.size w w')) ?_ ?_
 rotate_left
 ·
  intro hCont
  refine two_ (i := 11) (j := 24) (Ni := (some 54)) (Nj := (some 9)) #[true, true, true, true, true, true, true, true, true, true, true, true, true, true, true, true, true, true, true, true, true, true, false, false, false, false] #[true, true, true, true, true, true, true, true, true, true, true, false, true, true, true, true, true, true, true, true, true, true, false, false, true, false] rfl rfl rfl rfl (by kernel_rfl) (by decide) (by decide) (fun K hK => ?_) (fun K hK => ?_)
  ·
   refine goes_ Try.func91 (by kernel_rfl) rfl #[.slice B1 Lb.length d1, .int .i64 (wrap64 (m - Kb))] (by rfl) rfl rfl zq6 ?_
   refine (impl_scaled.callsC k _ _ Lb (wrap64 (m - Kb)) x3 _ (Kd.C_below HR3.out (zb1 HB)) A3.out).mono ?_
   rintro e wn0 ⟨v3, rfl, ho, hb⟩
   obtain ⟨o3, e3, eo3⟩ := Kd.R_slice ho; subst eo3
   refine ⟨_, rfl, ?_⟩
   have AP13 := Aside0.mk (impl_align.Ap.mk_ (Kd.R_lt (zq3 HO1)) (Kd.R_base ho))
   have AP23 := Aside0.mk (impl_align.Ap.mk_ (Kd.R_lt (zq3 HO2)) (Kd.R_base ho))
   have HO3 := Aside0.mk (Kd.R_lower ho (below_size (zb1 HB)))
   clear ho
   replace BKA := Aside0.mk (zbb BKA hb); replace BKB := Aside0.mk (zbb BKB hb); replace BK5 := Aside0.mk (zbb BK5 hb); replace BK6 := Aside0.mk (zbb BK6 hb); replace BK8 := Aside0.mk (zbb BK8 hb); replace HO1 := Aside0.mk (Kd.R_below (zq3 HO1) hb); replace HO2 := Aside0.mk (Kd.R_below (zq3 HO2) hb); replace HB := Aside0.mk (below_step (zb1 HB) hb)
   clear hb
   refine hK.out _ _ ⟨(by exact ((zb1 HB).cell (World.block_lt_of_cell? w _ hB0)).trans hB0), (by exact ((zb1 HB).cell (World.block_lt_of_cell? w _ hB1)).trans hB1), (by exact ((zb1 HB).cell (World.block_lt_of_cell? w _ hB2)).trans hB2)⟩ (fun hHeld => ?_)
   clear hK K
   refine norm_ (a' := ?_) ?_ ?_
   rotate_left
   ·
    show Act.put _ (some 54) _ = _
    simp only [Act.put, List.setIfInBounds_toArray, List.set_cons_zero, List.set_cons_succ, i64_w, i32_w]; rfl
   refine two_ (i := 22) (j := 24) (Ni := (some 65)) (Nj := (some 9)) #[true, true, true, true, true, true, true, true, true, true, true, true, true, true, true, true, true, true, true, true, true, true, true, false, false, false] #[true, true, true, true, true, true, true, true, true, true, true, true, true, true, true, true, true, true, true, true, true, true, false, false, true, false] rfl rfl rfl rfl (by kernel_rfl) (by decide) (by decide) (fun K hK => ?_) (fun K hK => ?_)
   ·
    refine goes_ Try.func91 (by kernel_rfl) rfl #[.slice B2 Mb.length d2, .int .i64 (wrap64 (m - Kb))] (by rfl) rfl rfl zq6 ?_
    refine (impl_scaled.callsC k _ _ Mb (wrap64 (m - Kb)) x4 _ (Kd.C_below HR4.out (zb1 HB)) A4.out).mono ?_
    rintro e wn1 ⟨v4, rfl, ho, hb⟩
    obtain ⟨o4, e4, eo4⟩ := Kd.R_slice ho; subst eo4
    refine ⟨_, rfl, ?_⟩
    have AP14 := Aside0.mk (impl_align.Ap.mk_ (Kd.R_lt (zq3 HO1)) (Kd.R_base ho))
    have AP24 := Aside0.mk (impl_align.Ap.mk_ (Kd.R_lt (zq3 HO2)) (Kd.R_base ho))
    have AP34 := Aside0.mk (impl_align.Ap.mk_ (Kd.R_lt (zq3 HO3)) (Kd.R_base ho))
    have HO4 := Aside0.mk (Kd.R_lower ho (below_size (zb1 HB)))
    clear ho
    replace BKA := Aside0.mk (zbb BKA hb); replace BKB := Aside0.mk (zbb BKB hb); replace BK5 := Aside0.mk (zbb BK5 hb); replace BK6 := Aside0.mk (zbb BK6 hb); replace BK8 := Aside0.mk (zbb BK8 hb); replace HO1 := Aside0.mk (Kd.R_below (zq3 HO1) hb); replace HO2 := Aside0.mk (Kd.R_below (zq3 HO2) hb); replace HO3 := Aside0.mk (Kd.R_below (zq3 HO3) hb); replace HB := Aside0.mk (below_step (zb1 HB) hb)
    clear hb
    refine hK.out _ _ ⟨(by exact ((zb1 HB).cell (World.block_lt_of_cell? w _ hB0)).trans hB0), (by exact ((zb1 HB).cell (World.block_lt_of_cell? w _ hB1)).trans hB1), (by exact ((zb1 HB).cell (World.block_lt_of_cell? w _ hB2)).trans hB2)⟩ (fun hHeld => ?_)
    clear hK K
    refine norm_ (a' := ?_) ?_ ?_
    rotate_left
    ·
     show Act.put _ (some 65) _ = _
     simp only [Act.put, List.setIfInBounds_toArray, List.set_cons_zero, List.set_cons_succ, i64_w, i32_w]; rfl
    refine zp (i := 23) (N := some 66) #[true, true, true, true, true, true, true, true, true, true, true, true, true, true, true, true, true, true, true, true, true, true, true, true, false, false] (by kernel_rfl) ?_
    refine one_ (i := 24) (N := (some 9)) #[true, true, true, true, true, true, true, true, true, true, true, true, true, true, true, true, true, true, true, true, true, true, true, true, true, false] rfl rfl (by kernel_rfl) (by decide) (fun K hK => ?_)
    refine box_step ?hg (N := 9) ?hd (cs := #[.int .i64 0, .slice none 0 0, .slice none 0 0]) (t := 27) ?hr ?_; (case hd => rfl); (case hg => rfl); (case hr => first | (go_simp; done) | (go_simp; rfl))
    intro gb9 hg wn2 hbox hb
    have BK9 := Aside0.mk hbox; have GW9 := Aside0.mk (zge (zb1 HB) hg); have NBA9 := Aside0.mk (zlt BKA hg); have NBB9 := Aside0.mk (zlt BKB hg); have NB59 := Aside0.mk (zlt BK5 hg); have NB69 := Aside0.mk (zlt BK6 hg); have NB89 := Aside0.mk (zlt BK8 hg)
    clear hbox hg
    replace BKA := Aside0.mk (zbb BKA hb); replace BKB := Aside0.mk (zbb BKB hb); replace BK5 := Aside0.mk (zbb BK5 hb); replace BK6 := Aside0.mk (zbb BK6 hb); replace BK8 := Aside0.mk (zbb BK8 hb); replace HO1 := Aside0.mk (Kd.R_below (zq3 HO1) hb); replace HO2 := Aside0.mk (Kd.R_below (zq3 HO2) hb); replace HO3 := Aside0.mk (Kd.R_below (zq3 HO3) hb); replace HO4 := Aside0.mk (Kd.R_below (zq3 HO4) hb); replace HB := Aside0.mk (below_step (zb1 HB) hb)
    clear hb
    refine hK.out _ _ ⟨(by exact ((zb1 HB).cell (World.block_lt_of_cell? w _ hB0)).trans hB0), (by exact ((zb1 HB).cell (World.block_lt_of_cell? w _ hB1)).trans hB1), (by exact ((zb1 HB).cell (World.block_lt_of_cell? w _ hB2)).trans hB2)⟩ (fun hHeld => ?_)
    clear hK K
    refine norm_ (a' := ?_) ?_ ?_
    rotate_left
    ·
     show Act.put _ (some 9) _ = _
     simp only [Act.put, List.setIfInBounds_toArray, List.set_cons_zero, List.set_cons_succ, i64_w, i32_w]; rfl
    exact norm_ (by simp only [putAll, Act.put, List.setIfInBounds_toArray, List.set_cons_zero, List.set_cons_succ]) (hCont (gb9, o3, e3, o4, e4) _ ⟨hHeld, (zq1 BKA), (zq1 BKB), (zq1 BK5), (zq1 BK6), (zq1 BK8), (zq1 BK9), NBA9.out, NBB9.out, NB59.out, NB69.out, NB89.out, GW9.out, (zq3 HO1), (zq3 HO2), (zq3 HO3), (zq3 HO4), AP13.out, AP14.out, AP23.out, AP24.out, (by first | exact AP34.out | exact AP43.out.symm), (zb1 HB)⟩)
   ·
    refine box_step ?hg (N := 9) ?hd (cs := #[.int .i64 0, .slice none 0 0, .slice none 0 0]) (t := 27) ?hr ?_; (case hd => rfl); (case hg => rfl); (case hr => first | (go_simp; done) | (go_simp; rfl))
    intro gb9 hg wn1 hbox hb
    have BK9 := Aside0.mk hbox; have GW9 := Aside0.mk (zge (zb1 HB) hg); have NBA9 := Aside0.mk (zlt BKA hg); have NBB9 := Aside0.mk (zlt BKB hg); have NB59 := Aside0.mk (zlt BK5 hg); have NB69 := Aside0.mk (zlt BK6 hg); have NB89 := Aside0.mk (zlt BK8 hg)
    clear hbox hg
    replace BKA := Aside0.mk (zbb BKA hb); replace BKB := Aside0.mk (zbb BKB hb); replace BK5 := Aside0.mk (zbb BK5 hb); replace BK6 := Aside0.mk (zbb BK6 hb); replace BK8 := Aside0.mk (zbb BK8 hb); replace HO1 := Aside0.mk (Kd.R_below (zq3 HO1) hb); replace HO2 := Aside0.mk (Kd.R_below (zq3 HO2) hb); replace HO3 := Aside0.mk (Kd.R_below (zq3 HO3) hb); replace HB := Aside0.mk (below_step (zb1 HB) hb)
    clear hb
    refine hK.out _ _ ⟨(by exact ((zb1 HB).cell (World.block_lt_of_cell? w _ hB0)).trans hB0), (by exact ((zb1 HB).cell (World.block_lt_of_cell? w _ hB1)).trans hB1), (by exact ((zb1 HB).cell (World.block_lt_of_cell? w _ hB2)).trans hB2)⟩ (fun hHeld => ?_)
    clear hK K
    refine norm_ (a' := ?_) ?_ ?_
    rotate_left
    ·
     show Act.put _ (some 9) _ = _
     simp only [Act.put, List.setIfInBounds_toArray, List.set_cons_zero, List.set_cons_succ, i64_w, i32_w]; rfl
    refine one_ (i := 22) (N := (some 65)) #[true, true, true, true, true, true, true, true, true, true, true, true, true, true, true, true, true, true, true, true, true, true, true, false, true, false] rfl rfl (by kernel_rfl) (by decide) (fun K hK => ?_)
    refine goes_ Try.func91 (by kernel_rfl) rfl #[.slice B2 Mb.length d2, .int .i64 (wrap64 (m - Kb))] (by rfl) rfl rfl zq6 ?_
    refine (impl_scaled.callsC k _ _ Mb (wrap64 (m - Kb)) x4 _ (Kd.C_below HR4.out (zb1 HB)) A4.out).mono ?_
    rintro e wn2 ⟨v4, rfl, ho, hb⟩
    obtain ⟨o4, e4, eo4⟩ := Kd.R_slice ho; subst eo4
    refine ⟨_, rfl, ?_⟩
    have AP14 := Aside0.mk (impl_align.Ap.mk_ (Kd.R_lt (zq3 HO1)) (Kd.R_base ho))
    have AP24 := Aside0.mk (impl_align.Ap.mk_ (Kd.R_lt (zq3 HO2)) (Kd.R_base ho))
    have AP34 := Aside0.mk (impl_align.Ap.mk_ (Kd.R_lt (zq3 HO3)) (Kd.R_base ho))
    have HO4 := Aside0.mk (Kd.R_lower ho (below_size (zb1 HB)))
    clear ho
    replace BKA := Aside0.mk (zbb BKA hb); replace BKB := Aside0.mk (zbb BKB hb); replace BK5 := Aside0.mk (zbb BK5 hb); replace BK6 := Aside0.mk (zbb BK6 hb); replace BK8 := Aside0.mk (zbb BK8 hb); replace BK9 := Aside0.mk (zbb BK9 hb); replace HO1 := Aside0.mk (Kd.R_below (zq3 HO1) hb); replace HO2 := Aside0.mk (Kd.R_below (zq3 HO2) hb); replace HO3 := Aside0.mk (Kd.R_below (zq3 HO3) hb); replace HB := Aside0.mk (below_step (zb1 HB) hb)
    clear hb
    refine hK.out _ _ ⟨(by exact ((zb1 HB).cell (World.block_lt_of_cell? w _ hB0)).trans hB0), (by exact ((zb1 HB).cell (World.block_lt_of_cell? w _ hB1)).trans hB1), (by exact ((zb1 HB).cell (World.block_lt_of_cell? w _ hB2)).trans hB2)⟩ (fun hHeld => ?_)
    clear hK K
    refine norm_ (a' := ?_) ?_ ?_
    rotate_left
    ·
     show Act.put _ (some 65) _ = _
     simp only [Act.put, List.setIfInBounds_toArray, List.set_cons_zero, List.set_cons_succ, i64_w, i32_w]; rfl
    refine zp (i := 23) (N := some 66) #[true, true, true, true, true, true, true, true, true, true, true, true, true, true, true, true, true, true, true, true, true, true, true, true, true, false] (by kernel_rfl) ?_
    exact norm_ (by simp only [putAll, Act.put, List.setIfInBounds_toArray, List.set_cons_zero, List.set_cons_succ]) (hCont (gb9, o3, e3, o4, e4) _ ⟨hHeld, (zq1 BKA), (zq1 BKB), (zq1 BK5), (zq1 BK6), (zq1 BK8), (zq1 BK9), NBA9.out, NBB9.out, NB59.out, NB69.out, NB89.out, GW9.out, (zq3 HO1), (zq3 HO2), (zq3 HO3), (zq3 HO4), AP13.out, AP14.out, AP23.out, AP24.out, (by first | exact AP34.out | exact AP43.out.symm), (zb1 HB)⟩)
  ·
   refine box_step ?hg (N := 9) ?hd (cs := #[.int .i64 0, .slice none 0 0, .slice none 0 0]) (t := 27) ?hr ?_; (case hd => rfl); (case hg => rfl); (case hr => first | (go_simp; done) | (go_simp; rfl))
   intro gb9 hg wn0 hbox hb
   have BK9 := Aside0.mk hbox; have GW9 := Aside0.mk (zge (zb1 HB) hg); have NBA9 := Aside0.mk (zlt BKA hg); have NBB9 := Aside0.mk (zlt BKB hg); have NB59 := Aside0.mk (zlt BK5 hg); have NB69 := Aside0.mk (zlt BK6 hg); have NB89 := Aside0.mk (zlt BK8 hg)
   clear hbox hg
   replace BKA := Aside0.mk (zbb BKA hb); replace BKB := Aside0.mk (zbb BKB hb); replace BK5 := Aside0.mk (zbb BK5 hb); replace BK6 := Aside0.mk (zbb BK6 hb); replace BK8 := Aside0.mk (zbb BK8 hb); replace HO1 := Aside0.mk (Kd.R_below (zq3 HO1) hb); replace HO2 := Aside0.mk (Kd.R_below (zq3 HO2) hb); replace HB := Aside0.mk (below_step (zb1 HB) hb)
   clear hb
   refine hK.out _ _ ⟨(by exact ((zb1 HB).cell (World.block_lt_of_cell? w _ hB0)).trans hB0), (by exact ((zb1 HB).cell (World.block_lt_of_cell? w _ hB1)).trans hB1), (by exact ((zb1 HB).cell (World.block_lt_of_cell? w _ hB2)).trans hB2)⟩ (fun hHeld => ?_)
   clear hK K
   refine norm_ (a' := ?_) ?_ ?_
   rotate_left
   ·
    show Act.put _ (some 9) _ = _
    simp only [Act.put, List.setIfInBounds_toArray, List.set_cons_zero, List.set_cons_succ, i64_w, i32_w]; rfl
   refine one_ (i := 11) (N := (some 54)) #[true, true, true, true, true, true, true, true, true, true, true, true, true, true, true, true, true, true, true, true, true, true, false, false, true, false] rfl rfl (by kernel_rfl) (by decide) (fun K hK => ?_)
   refine goes_ Try.func91 (by kernel_rfl) rfl #[.slice B1 Lb.length d1, .int .i64 (wrap64 (m - Kb))] (by rfl) rfl rfl zq6 ?_
   refine (impl_scaled.callsC k _ _ Lb (wrap64 (m - Kb)) x3 _ (Kd.C_below HR3.out (zb1 HB)) A3.out).mono ?_
   rintro e wn1 ⟨v3, rfl, ho, hb⟩
   obtain ⟨o3, e3, eo3⟩ := Kd.R_slice ho; subst eo3
   refine ⟨_, rfl, ?_⟩
   have AP13 := Aside0.mk (impl_align.Ap.mk_ (Kd.R_lt (zq3 HO1)) (Kd.R_base ho))
   have AP23 := Aside0.mk (impl_align.Ap.mk_ (Kd.R_lt (zq3 HO2)) (Kd.R_base ho))
   have HO3 := Aside0.mk (Kd.R_lower ho (below_size (zb1 HB)))
   clear ho
   replace BKA := Aside0.mk (zbb BKA hb); replace BKB := Aside0.mk (zbb BKB hb); replace BK5 := Aside0.mk (zbb BK5 hb); replace BK6 := Aside0.mk (zbb BK6 hb); replace BK8 := Aside0.mk (zbb BK8 hb); replace BK9 := Aside0.mk (zbb BK9 hb); replace HO1 := Aside0.mk (Kd.R_below (zq3 HO1) hb); replace HO2 := Aside0.mk (Kd.R_below (zq3 HO2) hb); replace HB := Aside0.mk (below_step (zb1 HB) hb)
   clear hb
   refine hK.out _ _ ⟨(by exact ((zb1 HB).cell (World.block_lt_of_cell? w _ hB0)).trans hB0), (by exact ((zb1 HB).cell (World.block_lt_of_cell? w _ hB1)).trans hB1), (by exact ((zb1 HB).cell (World.block_lt_of_cell? w _ hB2)).trans hB2)⟩ (fun hHeld => ?_)
   clear hK K
   refine norm_ (a' := ?_) ?_ ?_
   rotate_left
   ·
    show Act.put _ (some 54) _ = _
    simp only [Act.put, List.setIfInBounds_toArray, List.set_cons_zero, List.set_cons_succ, i64_w, i32_w]; rfl
   refine one_ (i := 22) (N := (some 65)) #[true, true, true, true, true, true, true, true, true, true, true, true, true, true, true, true, true, true, true, true, true, true, true, false, true, false] rfl rfl (by kernel_rfl) (by decide) (fun K hK => ?_)
   refine goes_ Try.func91 (by kernel_rfl) rfl #[.slice B2 Mb.length d2, .int .i64 (wrap64 (m - Kb))] (by rfl) rfl rfl zq6 ?_
   refine (impl_scaled.callsC k _ _ Mb (wrap64 (m - Kb)) x4 _ (Kd.C_below HR4.out (zb1 HB)) A4.out).mono ?_
   rintro e wn2 ⟨v4, rfl, ho, hb⟩
   obtain ⟨o4, e4, eo4⟩ := Kd.R_slice ho; subst eo4
   refine ⟨_, rfl, ?_⟩
   have AP14 := Aside0.mk (impl_align.Ap.mk_ (Kd.R_lt (zq3 HO1)) (Kd.R_base ho))
   have AP24 := Aside0.mk (impl_align.Ap.mk_ (Kd.R_lt (zq3 HO2)) (Kd.R_base ho))
   have AP34 := Aside0.mk (impl_align.Ap.mk_ (Kd.R_lt (zq3 HO3)) (Kd.R_base ho))
   have HO4 := Aside0.mk (Kd.R_lower ho (below_size (zb1 HB)))
   clear ho
   replace BKA := Aside0.mk (zbb BKA hb); replace BKB := Aside0.mk (zbb BKB hb); replace BK5 := Aside0.mk (zbb BK5 hb); replace BK6 := Aside0.mk (zbb BK6 hb); replace BK8 := Aside0.mk (zbb BK8 hb); replace BK9 := Aside0.mk (zbb BK9 hb); replace HO1 := Aside0.mk (Kd.R_below (zq3 HO1) hb); replace HO2 := Aside0.mk (Kd.R_below (zq3 HO2) hb); replace HO3 := Aside0.mk (Kd.R_below (zq3 HO3) hb); replace HB := Aside0.mk (below_step (zb1 HB) hb)
   clear hb
   refine hK.out _ _ ⟨(by exact ((zb1 HB).cell (World.block_lt_of_cell? w _ hB0)).trans hB0), (by exact ((zb1 HB).cell (World.block_lt_of_cell? w _ hB1)).trans hB1), (by exact ((zb1 HB).cell (World.block_lt_of_cell? w _ hB2)).trans hB2)⟩ (fun hHeld => ?_)
   clear hK K
   refine norm_ (a' := ?_) ?_ ?_
   rotate_left
   ·
    show Act.put _ (some 65) _ = _
    simp only [Act.put, List.setIfInBounds_toArray, List.set_cons_zero, List.set_cons_succ, i64_w, i32_w]; rfl
   refine zp (i := 23) (N := some 66) #[true, true, true, true, true, true, true, true, true, true, true, true, true, true, true, true, true, true, true, true, true, true, true, true, true, false] (by kernel_rfl) ?_
   exact norm_ (by simp only [putAll, Act.put, List.setIfInBounds_toArray, List.set_cons_zero, List.set_cons_succ]) (hCont (gb9, o3, e3, o4, e4) _ ⟨hHeld, (zq1 BKA), (zq1 BKB), (zq1 BK5), (zq1 BK6), (zq1 BK8), (zq1 BK9), NBA9.out, NBB9.out, NB59.out, NB69.out, NB89.out, GW9.out, (zq3 HO1), (zq3 HO2), (zq3 HO3), (zq3 HO4), AP13.out, AP14.out, AP23.out, AP24.out, (by first | exact AP34.out | exact AP43.out.symm), (zb1 HB)⟩)
 rintro ⟨gb9, o3, e3, o4, e4⟩ w31 ⟨hHeld, hBKA, hBKB, hBK5, hBK6, hBK8, hBK9, hNBA9, hNBB9, hNB59, hNB69, hNB89, hGW9, hHO1, hHO2, hHO3, hHO4, hAP13, hAP14, hAP23, hAP24, hAP34, hHB⟩
 have BKA := Aside0.mk hBKA; have BKB := Aside0.mk hBKB; have BK5 := Aside0.mk hBK5; have BK6 := Aside0.mk hBK6; have BK8 := Aside0.mk hBK8; have BK9 := Aside0.mk hBK9; have NBA9 := Aside0.mk hNBA9; have NBB9 := Aside0.mk hNBB9; have NB59 := Aside0.mk hNB59; have NB69 := Aside0.mk hNB69; have NB89 := Aside0.mk hNB89; have GW9 := Aside0.mk hGW9; have HO1 := Aside0.mk hHO1; have HO2 := Aside0.mk hHO2; have HO3 := Aside0.mk hHO3; have HO4 := Aside0.mk hHO4; have AP13 := Aside0.mk hAP13; have AP14 := Aside0.mk hAP14; have AP23 := Aside0.mk hAP23; have AP24 := Aside0.mk hAP24; have AP34 := Aside0.mk hAP34; have HB := Aside0.mk hHB
 clear hBKA hBKB hBK5 hBK6 hBK8 hBK9 hNBA9 hNBB9 hNB59 hNB69 hNB89 hGW9 hHO1 hHO2 hHO3 hHO4 hAP13 hAP14 hAP23 hAP24 hAP34 hHB
 refine norm_ (a' := ?_) ?_ ?_
 rotate_left
 ·
  simp only [putAll, Act.put, List.setIfInBounds_toArray, List.set_cons_zero, List.set_cons_succ]; rfl
 refine one_ (i := 25) (N := none) #[true, true, true, true, true, true, true, true, true, true, true, true, true, true, true, true, true, true, true, true, true, true, true, true, true, true] rfl rfl (by kernel_rfl) (by decide) (fun K hK => ?_)
 have hcz_0 : w31.cell? ⟨gb9, 0, none⟩ = some (.int .i64 0) := zc BK9 0; have hfz_0 := blk_frozen BK9.out 0; have hcz_1 : w31.cell? ⟨gb9, 1, none⟩ = some (.slice none 0 0) := zc BK9 1; have hfz_1 := blk_frozen BK9.out 1; have hcz_2 : w31.cell? ⟨gb9, 2, none⟩ = some (.slice none 0 0) := zc BK9 2; have hfz_2 := blk_frozen BK9.out 2
 rw [if_pos (by rfl)]
 go_wp2
 clear hcz_0 hfz_0 hcz_1 hfz_1 hcz_2 hfz_2
 have hXA := impl_align.far3 (g := gb9) BKA.out NBA9.out (.int .i64 m) (.slice o3 x3.length e3) (.slice o4 x4.length e4)
 have hXB := impl_align.far3 (g := gb9) BKB.out NBB9.out (.int .i64 m) (.slice o3 x3.length e3) (.slice o4 x4.length e4)
 have hX5 := impl_align.far3 (g := gb9) BK5.out NB59.out (.int .i64 m) (.slice o3 x3.length e3) (.slice o4 x4.length e4)
 have hX6 := impl_align.far3 (g := gb9) BK6.out NB69.out (.int .i64 m) (.slice o3 x3.length e3) (.slice o4 x4.length e4)
 have hX8 := impl_align.far3 (g := gb9) BK8.out NB89.out (.int .i64 m) (.slice o3 x3.length e3) (.slice o4 x4.length e4)
 have hXn := impl_align.put3 BK9.out (.int .i64 m) (.slice o3 x3.length e3) (.slice o4 x4.length e4)
 have hXo1 := impl_align.rfar3 HO1.out BK9.out (by decide) (.int .i64 m) (.slice o3 x3.length e3) (.slice o4 x4.length e4)
 have hXo2 := impl_align.rfar3 HO2.out BK9.out (by decide) (.int .i64 m) (.slice o3 x3.length e3) (.slice o4 x4.length e4)
 have hXo3 := impl_align.rfar3 HO3.out BK9.out (by decide) (.int .i64 m) (.slice o3 x3.length e3) (.slice o4 x4.length e4)
 have hXo4 := impl_align.rfar3 HO4.out BK9.out (by decide) (.int .i64 m) (.slice o3 x3.length e3) (.slice o4 x4.length e4)
 have hXb : Below w.heap.size w (((w31.setCell ⟨gb9, 0, none⟩ (.int .i64 m)).setCell ⟨gb9, 1, none⟩ (.slice o3 x3.length e3)).setCell ⟨gb9, 2, none⟩ (.slice o4 x4.length e4)) := (zb1 HB)
 clear BKA BKB BK5 BK6 BK8 BK9 HO1 HO2 HO3 HO4 HB
 generalize (((w31.setCell ⟨gb9, 0, none⟩ (.int .i64 m)).setCell ⟨gb9, 1, none⟩ (.slice o3 x3.length e3)).setCell ⟨gb9, 2, none⟩ (.slice o4 x4.length e4)) = w32 at hXA hXB hX5 hX6 hX8 hXn hXo1 hXo2 hXo3 hXo4 hXb ⊢
 have BKA := Aside0.mk hXA; have BKB := Aside0.mk hXB; have BK5 := Aside0.mk hX5; have BK6 := Aside0.mk hX6; have BK8 := Aside0.mk hX8; have BK9 := Aside0.mk hXn; have HO1 := Aside0.mk hXo1; have HO2 := Aside0.mk hXo2; have HO3 := Aside0.mk hXo3; have HO4 := Aside0.mk hXo4; have HB := Aside0.mk hXb
 clear hXA hXB hX5 hX6 hX8 hXn hXo1 hXo2 hXo3 hXo4 hXb
 refine hK.out _ _ ⟨(by exact ((zb1 HB).cell (World.block_lt_of_cell? w _ hB0)).trans hB0), (by exact ((zb1 HB).cell (World.block_lt_of_cell? w _ hB1)).trans hB1), (by exact ((zb1 HB).cell (World.block_lt_of_cell? w _ hB2)).trans hB2)⟩ (fun hHeld => ?_)
 clear hK K hHeld
 refine norm_ (a' := ?_) ?_ ?_
 rotate_left
 ·
  first | rfl | (simp only [Act.put, List.setIfInBounds_toArray, List.set_cons_zero, List.set_cons_succ, i64_w, i32_w]; rfl)
 refine done_ (by kernel_rfl) ?_
 go_wp2
 clear BKA BKB; replace HB := Aside0.mk (below_drew1 HB.out); replace BK5 := Aside0.mk (blk_drew BK5.out); replace BK6 := Aside0.mk (blk_drew BK6.out); replace BK8 := Aside0.mk (blk_drew BK8.out); replace BK9 := Aside0.mk (blk_drew BK9.out); replace HO1 := Aside0.mk (Kd.R_drew HO1.out); replace HO2 := Aside0.mk (Kd.R_drew HO2.out); replace HO3 := Aside0.mk (Kd.R_drew HO3.out); replace HO4 := Aside0.mk (Kd.R_drew HO4.out)
 refine start_ (n := 6) (S := fun w' => w'.cell? ⟨gb8, 0, none⟩ = some (.int .i64 m) ∧ w'.cell? ⟨gb8, 1, none⟩ = some ((.slice o1 x1.length e1)) ∧ w'.cell? ⟨gb8, 2, none⟩ = some ((.slice o2 x2.length e2)) ∧ w'.cell? ⟨gb9, 0, none⟩ = some (.int .i64 m) ∧ w'.cell? ⟨gb9, 1, none⟩ = some ((.slice o3 x3.length e3)) ∧ w'.cell? ⟨gb9, 2, none⟩ = some ((.slice o4 x4.length e4))) (ds := []) #[false, false, false, false, false, false] (by kernel_rfl) rfl rfl ⟨zc BK8 0, zc BK8 1, zc BK8 2, zc BK9 0, zc BK9 1, zc BK9 2⟩ (fun hHeld => ?_)
 generalize w32.drew = w40 at HB BK5 BK6 BK8 BK9 HO1 HO2 HO3 HO4 hHeld ⊢
 refine zp (i := 0) (N := some 67) #[true, false, false, false, false, false] (by kernel_rfl) ?_
 refine take_ (i := 1) (N := some 68) (v := ?_) (a' := ?_) #[true, true, false, false, false, false] rfl rfl (by kernel_rfl) (fun _ _ _ h => h) (Or.inl ⟨by rfl, ?_⟩) hHeld ?_ ?_
 rotate_left
 ·
  rintro w' ⟨s0, s1, s2, s3, s4, s5⟩
  go_simp
  with_reducible rfl
 rotate_left
 ·
  simp only [Act.put, List.setIfInBounds_toArray, List.set_cons_zero, List.set_cons_succ, i64_w, i32_w]; rfl
 refine take_ (i := 2) (N := some 69) (v := ?_) (a' := ?_) #[true, true, true, false, false, false] rfl rfl (by kernel_rfl) (fun _ _ _ h => h) (Or.inl ⟨by rfl, ?_⟩) hHeld ?_ ?_
 rotate_left
 ·
  rintro w' ⟨s0, s1, s2, s3, s4, s5⟩
  go_simp
  with_reducible rfl
 rotate_left
 ·
  simp only [Act.put, List.setIfInBounds_toArray, List.set_cons_zero, List.set_cons_succ, i64_w, i32_w]; rfl
 refine zp (i := 3) (N := some 4) #[true, true, true, true, false, false] (by kernel_rfl) ?_
 refine one_ (i := 4) (N := none) #[true, true, true, true, true, false] rfl rfl (by kernel_rfl) (by decide) (fun K hK => ?_)
 have hcz_0 : w40.cell? ⟨gb5, 0, none⟩ = some (.int .i64 0) := zc BK5 0; have hfz_0 := blk_frozen BK5.out 0; have hcz_1 : w40.cell? ⟨gb5, 1, none⟩ = some (.slice none 0 0) := zc BK5 1; have hfz_1 := blk_frozen BK5.out 1; have hcz_2 : w40.cell? ⟨gb5, 2, none⟩ = some (.slice none 0 0) := zc BK5 2; have hfz_2 := blk_frozen BK5.out 2
 rw [if_pos (by rfl)]
 go_wp2
 clear hcz_0 hfz_0 hcz_1 hfz_1 hcz_2 hfz_2
 have hX6 := impl_align.far3 (g := gb5) BK6.out NB56.out.symm (.int .i64 m) (.slice o1 x1.length e1) (.slice o2 x2.length e2)
 have hX8 := impl_align.far3 (g := gb5) BK8.out NB58.out.symm (.int .i64 m) (.slice o1 x1.length e1) (.slice o2 x2.length e2)
 have hX9 := impl_align.far3 (g := gb5) BK9.out NB59.out.symm (.int .i64 m) (.slice o1 x1.length e1) (.slice o2 x2.length e2)
 have hXn := impl_align.put3 BK5.out (.int .i64 m) (.slice o1 x1.length e1) (.slice o2 x2.length e2)
 have hXo1 := impl_align.rfar3 HO1.out BK5.out (by decide) (.int .i64 m) (.slice o1 x1.length e1) (.slice o2 x2.length e2)
 have hXo2 := impl_align.rfar3 HO2.out BK5.out (by decide) (.int .i64 m) (.slice o1 x1.length e1) (.slice o2 x2.length e2)
 have hXo3 := impl_align.rfar3 HO3.out BK5.out (by decide) (.int .i64 m) (.slice o1 x1.length e1) (.slice o2 x2.length e2)
 have hXo4 := impl_align.rfar3 HO4.out BK5.out (by decide) (.int .i64 m) (.slice o1 x1.length e1) (.slice o2 x2.length e2)
 have hXb : Below w.heap.size w (((w40.setCell ⟨gb5, 0, none⟩ (.int .i64 m)).setCell ⟨gb5, 1, none⟩ (.slice o1 x1.length e1)).setCell ⟨gb5, 2, none⟩ (.slice o2 x2.length e2)) := (zb1 HB)
 clear BK6 BK8 BK9 BK5 HO1 HO2 HO3 HO4 HB
 generalize (((w40.setCell ⟨gb5, 0, none⟩ (.int .i64 m)).setCell ⟨gb5, 1, none⟩ (.slice o1 x1.length e1)).setCell ⟨gb5, 2, none⟩ (.slice o2 x2.length e2)) = w41 at hX6 hX8 hX9 hXn hXo1 hXo2 hXo3 hXo4 hXb ⊢
 have BK6 := Aside0.mk hX6; have BK8 := Aside0.mk hX8; have BK9 := Aside0.mk hX9; have BK5 := Aside0.mk hXn; have HO1 := Aside0.mk hXo1; have HO2 := Aside0.mk hXo2; have HO3 := Aside0.mk hXo3; have HO4 := Aside0.mk hXo4; have HB := Aside0.mk hXb
 clear hX6 hX8 hX9 hXn hXo1 hXo2 hXo3 hXo4 hXb
 refine hK.out _ _ ⟨zc BK8 0, zc BK8 1, zc BK8 2, zc BK9 0, zc BK9 1, zc BK9 2⟩ (fun hHeld => ?_)
 clear hK K
 refine norm_ (a' := ?_) ?_ ?_
 rotate_left
 ·
  first | rfl | (simp only [Act.put, List.setIfInBounds_toArray, List.set_cons_zero, List.set_cons_succ, i64_w, i32_w]; rfl)
 refine one_ (i := 5) (N := none) #[true, true, true, true, true, true] rfl rfl (by kernel_rfl) (by decide) (fun K hK => ?_)
 have hcz_0 : w41.cell? ⟨gb6, 0, none⟩ = some (.int .i64 0) := zc BK6 0; have hfz_0 := blk_frozen BK6.out 0; have hcz_1 : w41.cell? ⟨gb6, 1, none⟩ = some (.slice none 0 0) := zc BK6 1; have hfz_1 := blk_frozen BK6.out 1; have hcz_2 : w41.cell? ⟨gb6, 2, none⟩ = some (.slice none 0 0) := zc BK6 2; have hfz_2 := blk_frozen BK6.out 2
 rw [if_pos (by rfl)]
 go_wp2
 clear hcz_0 hfz_0 hcz_1 hfz_1 hcz_2 hfz_2
 have hX5 := impl_align.far3 (g := gb6) BK5.out NB56.out (.int .i64 m) (.slice o3 x3.length e3) (.slice o4 x4.length e4)
 have hX8 := impl_align.far3 (g := gb6) BK8.out NB68.out.symm (.int .i64 m) (.slice o3 x3.length e3) (.slice o4 x4.length e4)
 have hX9 := impl_align.far3 (g := gb6) BK9.out NB69.out.symm (.int .i64 m) (.slice o3 x3.length e3) (.slice o4 x4.length e4)
 have hXn := impl_align.put3 BK6.out (.int .i64 m) (.slice o3 x3.length e3) (.slice o4 x4.length e4)
 have hXo1 := impl_align.rfar3 HO1.out BK6.out (by decide) (.int .i64 m) (.slice o3 x3.length e3) (.slice o4 x4.length e4)
 have hXo2 := impl_align.rfar3 HO2.out BK6.out (by decide) (.int .i64 m) (.slice o3 x3.length e3) (.slice o4 x4.length e4)
 have hXo3 := impl_align.rfar3 HO3.out BK6.out (by decide) (.int .i64 m) (.slice o3 x3.length e3) (.slice o4 x4.length e4)
 have hXo4 := impl_align.rfar3 HO4.out BK6.out (by decide) (.int .i64 m) (.slice o3 x3.length e3) (.slice o4 x4.length e4)
 have hXb : Below w.heap.size w (((w41.setCell ⟨gb6, 0, none⟩ (.int .i64 m)).setCell ⟨gb6, 1, none⟩ (.slice o3 x3.length e3)).setCell ⟨gb6, 2, none⟩ (.slice o4 x4.length e4)) := (zb1 HB)
 clear BK5 BK8 BK9 BK6 HO1 HO2 HO3 HO4 HB
 generalize (((w41.setCell ⟨gb6, 0, none⟩ (.int .i64 m)).setCell ⟨gb6, 1, none⟩ (.slice o3 x3.length e3)).setCell ⟨gb6, 2, none⟩ (.slice o4 x4.length e4)) = w42 at hX5 hX8 hX9 hXn hXo1 hXo2 hXo3 hXo4 hXb ⊢
 have BK5 := Aside0.mk hX5; have BK8 := Aside0.mk hX8; have BK9 := Aside0.mk hX9; have BK6 := Aside0.mk hXn; have HO1 := Aside0.mk hXo1; have HO2 := Aside0.mk hXo2; have HO3 := Aside0.mk hXo3; have HO4 := Aside0.mk hXo4; have HB := Aside0.mk hXb
 clear hX5 hX8 hX9 hXn hXo1 hXo2 hXo3 hXo4 hXb
 refine hK.out _ _ ⟨zc BK8 0, zc BK8 1, zc BK8 2, zc BK9 0, zc BK9 1, zc BK9 2⟩ (fun hHeld => ?_)
 clear hK K
 refine norm_ (a' := ?_) ?_ ?_
 rotate_left
 ·
  first | rfl | (simp only [Act.put, List.setIfInBounds_toArray, List.set_cons_zero, List.set_cons_succ, i64_w, i32_w]; rfl)
 refine done_ (by kernel_rfl) ?_
 go_wp2
 refine bodyPost_ret (results_list (rs := [.tmp 4, .cell 5 27, .cell 6 27]) rfl (by simp) (.tmp (.cell gb5 27 #[.int .i64 m, (.slice o1 x1.length e1), (.slice o2 x2.length e2)] (0, 0) _ rfl (zq1 BK5) Try.underlying27 rfl (by kernel_rfl) (.cell gb6 27 #[.int .i64 m, (.slice o3 x3.length e3), (.slice o4 x4.length e4)] (0, 0) _ rfl (zq1 BK6) Try.underlying27 rfl (by kernel_rfl) .nil)))) rfl ?_
 exact ⟨_, _, _, _, by first | rfl | (simp; done) | (simp [*]; done), zq3 HO1, zq3 HO2, zq3 HO3, zq3 HO4, AP12.out, AP13.out, AP14.out, AP23.out, AP24.out, (zb1 HB)⟩
theorem impl_align.reads (k gA gB : Nat) (Ka : Int) (P1 P2 : Option Addr) (c1 c2 : Nat) (La Ma : List Int) (Kb : Int) (B1 B2 : Option Addr) (d1 d2 : Nat) (Lb Mb x1 x2 x3 x4 : List Int) (w : World) (hA : w.heap[gA]? = some (.cells #[.int .i64 Ka, .slice P1 La.length c1, .slice P2 Ma.length c2] 27 (0, 0))) (hB : w.heap[gB]? = some (.cells #[.int .i64 Kb, .slice B1 Lb.length d1, .slice B2 Mb.length d2] 27 (0, 0)))
  (hr1 : Kd.C (Kd.int .i64) w P1 La.length La) (hr2 : Kd.C (Kd.int .i64) w P2 Ma.length Ma) (hr3 : Kd.C (Kd.int .i64) w B1 Lb.length Lb) (hr4 : Kd.C (Kd.int .i64) w B2 Mb.length Mb)
  (m : Int) (hm : mx Ka Kb = m) (h1 : impl_scaled.f k La (wrap64 (m - Ka)) = some x1) (h2 : impl_scaled.f k Ma (wrap64 (m - Ka)) = some x2) (h3 : impl_scaled.f k Lb (wrap64 (m - Kb)) = some x3) (h4 : impl_scaled.f k Mb (wrap64 (m - Kb)) = some x4) :
  Calls Try.prog 62 #[.pointer (some ⟨gA, 0, none⟩), .pointer (some ⟨gB, 0, none⟩)] w fun e w' => ∃ v1 v2 v3 v4 : Value, e = .returned (.tuple #[.int .i64 m, .agg #[.int .i64 m, v1, v2], .agg #[.int .i64 m, v3, v4]]) ∧ Kd.R (Kd.int .i64) 3 w' w.heap.size (fun _ => True) v1 x1 ∧ Kd.R (Kd.int .i64) 3 w' w.heap.size (fun _ => True) v2 x2 ∧ Kd.R (Kd.int .i64) 3 w' w.heap.size (fun _ => True) v3 x3 ∧ Kd.R (Kd.int .i64) 3 w' w.heap.size (fun _ => True) v4 x4 ∧ Below w.heap.size w w' := by
 refine (impl_align.readsA k gA gB Ka P1 P2 c1 c2 La Ma Kb B1 B2 d1 d2 Lb Mb x1 x2 x3 x4 w hA hB hr1 hr2 hr3 hr4 m hm h1 h2 h3 h4).mono ?_
 rintro e w' ⟨v1, v2, v3, v4, he, q1, q2, q3, q4, _, _, _, _, _, hb⟩
 exact ⟨v1, v2, v3, v4, he, q1, q2, q3, q4, hb⟩
end Go.Proofs.Ytgaoniapddpaaaa.PD
