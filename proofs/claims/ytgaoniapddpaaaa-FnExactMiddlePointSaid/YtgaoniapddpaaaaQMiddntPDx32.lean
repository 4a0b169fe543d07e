-- By wip/mk/drv.py
import Derived.Test.YtgaoniapddpaaaaQMiddntPDx0
import Derived.Test.YtgaoniapddpaaaaQMiddntPDx1
import Derived.Test.YtgaoniapddpaaaaQMiddntPDx2
import Derived.Test.YtgaoniapddpaaaaQMiddntPDx20
import Derived.Test.YtgaoniapddpaaaaQMiddntPDx36
namespace Go.Proofs.Ytgaoniapddpaaaa.PD
open Go.RowKit Go.Proofs.YtgaoniapddpaaaaW.PrintWords Go.Proofs.YtgaoniapddpaaaaW.PrintLast Go.Proofs.YtgaoniapddpaaaaW.PrintMore
attribute [local go_sem] max2_int min2_int max_two min_two max_three min_three max_four min_four
set_option linter.unusedVariables false
set_option linter.unusedSimpArgs false
/-! ### impl_Box_middle: function 81 -/
-- PROOF
set_option maxHeartbeats 8000000 in
set_option maxRecDepth 100000 in
theorem impl_Box_middle.reads (k g : Nat) (K0 : Int) (A1 A2 : Option Addr) (c1 c2 : Nat) (L M : List Int) (r : List S37) (w : World) (hG : w.heap[g]? = some (.cells #[.int .i64 K0, .slice A1 L.length c1, .slice A2 M.length c2] 27 (0, 0))) (hr1 : Kd.C (Kd.int .i64) w A1 L.length L) (hr2 : Kd.C (Kd.int .i64) w A2 M.length M) (h : impl_Box_middle.l0 k K0 L M [] 0 = some r) :
  Calls Try.prog 81 #[.pointer (some ⟨g, 0, none⟩)] w fun e w' => ∃ v0_ : Value, e = .returned (v0_) ∧ Kd.R k37 37 w' w.heap.size (fun _ => True) v0_ r ∧ Below w.heap.size w w' := by
 have hu37 := Try.underlying37
 have hu27 := Try.underlying27
 have HB := Aside0.mk (Below.refl w.heap.size w)
 have BKG := Aside0.mk hG
 have HR1 := Aside0.mk hr1
 have HR2 := Aside0.mk hr2
 have H' := Aside0.mk h
 have hg1 : w.cell? ⟨g, 1, none⟩ = some (.slice A1 L.length c1) := zc BKG 1
 clear hG hr1 hr2 h
 go_enter Try.func81, Try.ntmps81
 go_wp2
 go_loopg [3, 12] k (fun kq v3 v12 w' => ∃ (xs : List S37) (i : Int), v12 = .int .i64 i ∧ Aside0 (impl_Box_middle.l0 kq K0 L M xs i = some r) ∧ Aside0 (kq ≤ k) ∧ Aside0 (Kd.R k37 37 w' w.heap.size (fun _ => True) v3 xs) ∧ Aside0 (w'.heap[g]? = some (.cells #[.int .i64 K0, .slice A1 L.length c1, .slice A2 M.length c2] 27 (0, 0))) ∧ Aside0 (Below w.heap.size w w'))
 case atStart => exact ⟨[], 0, (by first | rfl | (simp; done) | (simp [*]; done)), H', ⟨Nat.le_refl _⟩, ⟨Kd.R_nil _ _ _ _ _⟩, ⟨zq1 BKG⟩, ⟨(zb0 HB)⟩⟩
 case round =>
  clear H' hg1 BKG HB
  obtain ⟨xs, i, rfl, HA, HK1, HO, BKG, HB⟩ := hrel
  cases gk with
  | zero => exact absurd HA.out (by simp [impl_Box_middle.l0])
  | succ k1 =>
   have H := HA.out
   clear HA
   simp only [impl_Box_middle.l0] at H
   by_cases c : i < (L.length : Int)
   ·
    rw [if_pos c] at H
    by_cases c' : 0 ≤ i
    ·
     rw [if_pos c'] at H
     by_cases c'' : i < (M.length : Int)
     ·
      rw [if_pos c''] at H
      obtain ⟨⟨t1, t2, t3⟩, hA, H⟩ := Option.bind_eq_some_iff.mp H
      obtain ⟨⟨u1, u2, q3⟩, hF, H⟩ := Option.bind_eq_some_iff.mp H
      replace H : (if xs.length < 8796093022208 then impl_Box_middle.l0 k1 K0 L M (xs ++ [(⟨u1, u2⟩ : S37)]) (wrap64 (i + 1)) else none) = some r := H
      by_cases cl : xs.length < 8796093022208
      ·
       rw [if_pos cl] at H
       obtain ⟨ys, hys⟩ : ∃ y_ : List S37, y_ = xs ++ [(⟨u1, u2⟩ : S37)] := ⟨_, rfl⟩
       rw [← hys] at H
       have NY := Aside0.mk hys
       have LM := Aside0.mk cl
       have H' := Aside0.mk H
       have A3 := Aside0.mk hA
       have A4 := Aside0.mk hF
       obtain ⟨adA, eA, hx⟩ := Kd.at_int HR1.out i c' c
       obtain ⟨adB, eB, hy⟩ := Kd.at_int HR2.out i c' c''
       subst eA eB
       have cb1 := decide_eq_true c
       have cb2 := decide_eq_true c'
       have cb3 := decide_eq_true c''
       have p1 := eq_true c
       have p2 := eq_true c'
       have p3 := eq_true c''
       clear H hA hF hys cl c c' c''
       have hc1 : wr.cell? ⟨g, 1, none⟩ = some (.slice (some adA) L.length c1) := zc BKG 1
       go_wp2
       clear hc1
       replace HB := Aside0.mk (below_drew1 HB.out)
       replace BKG := Aside0.mk (blk_drew BKG.out)
       replace HO := Aside0.mk (Kd.R_drew HO.out)
       refine start_ (n := 28) (S := fun w' => w'.cell? ⟨g, 0, none⟩ = some (.int .i64 K0) ∧ w'.cell? ⟨g, 1, none⟩ = some (.slice (some adA) L.length c1) ∧ w'.cell? ⟨g, 2, none⟩ = some (.slice (some adB) M.length c2) ∧ w'.cell? (adA.add i.toNat) = some (.int .i64 (rd L i)) ∧ w'.cell? (adB.add i.toNat) = some (.int .i64 (rd M i))) (ds := []) #[false, false, false, false, false, false, false, false, false, false, false, false, false, false, false, false, false, false, false, false, false, false, false, false, false, false, false, false] (by kernel_rfl) rfl rfl ⟨zc BKG 0, zc BKG 1, zc BKG 2, (by exact ((zb1 HB).cell (World.block_lt_of_cell? w _ hx)).trans hx), (by exact ((zb1 HB).cell (World.block_lt_of_cell? w _ hy)).trans hy)⟩ (fun hHeld => ?_)
       generalize wr.drew = w6 at HB BKG HO hHeld ⊢
       refine zp (i := 0) (N := some 16) #[true, false, false, false, false, false, false, false, false, false, false, false, false, false, false, false, false, false, false, false, false, false, false, false, false, false, false, false] (by kernel_rfl) ?_
       refine zp (i := 1) (N := some 17) #[true, true, false, false, false, false, false, false, false, false, false, false, false, false, false, false, false, false, false, false, false, false, false, false, false, false, false, false] (by kernel_rfl) ?_
       refine zp (i := 2) (N := some 18) #[true, true, true, false, false, false, false, false, false, false, false, false, false, false, false, false, false, false, false, false, false, false, false, false, false, false, false, false] (by kernel_rfl) ?_
       refine take_ (i := 3) (N := some 19) (v := ?_) (a' := ?_) #[true, true, true, true, false, false, false, false, false, false, false, false, false, false, false, false, false, false, false, false, false, false, false, false, false, false, false, false] rfl rfl (by kernel_rfl) (fun _ _ _ h => h) (Or.inl ⟨by rfl, ?_⟩) hHeld ?_ ?_
       rotate_left
       ·
        rintro w' ⟨s0, s1, s2, s3, s4⟩
        go_simp
        with_reducible rfl
       rotate_left
       ·
        simp only [Act.put, List.setIfInBounds_toArray, List.set_cons_zero, List.set_cons_succ, i64_w, i32_w]; rfl
       refine zp (i := 4) (N := some 20) #[true, true, true, true, true, false, false, false, false, false, false, false, false, false, false, false, false, false, false, false, false, false, false, false, false, false, false, false] (by kernel_rfl) ?_
       refine zp (i := 5) (N := some 21) #[true, true, true, true, true, true, false, false, false, false, false, false, false, false, false, false, false, false, false, false, false, false, false, false, false, false, false, false] (by kernel_rfl) ?_
       refine take_ (i := 6) (N := some 22) (v := ?_) (a' := ?_) #[true, true, true, true, true, true, true, false, false, false, false, false, false, false, false, false, false, false, false, false, false, false, false, false, false, false, false, false] rfl rfl (by kernel_rfl) (fun _ _ _ h => h) (Or.inl ⟨by rfl, ?_⟩) hHeld ?_ ?_
       rotate_left
       ·
        rintro w' ⟨s0, s1, s2, s3, s4⟩
        go_simp
        with_reducible rfl
       rotate_left
       ·
        simp only [Act.put, List.setIfInBounds_toArray, List.set_cons_zero, List.set_cons_succ, i64_w, i32_w]; rfl
       refine zp (i := 7) (N := some 23) #[true, true, true, true, true, true, true, true, false, false, false, false, false, false, false, false, false, false, false, false, false, false, false, false, false, false, false, false] (by kernel_rfl) ?_
       refine zp (i := 8) (N := some 24) #[true, true, true, true, true, true, true, true, true, false, false, false, false, false, false, false, false, false, false, false, false, false, false, false, false, false, false, false] (by kernel_rfl) ?_
       refine zp (i := 9) (N := some 25) #[true, true, true, true, true, true, true, true, true, true, false, false, false, false, false, false, false, false, false, false, false, false, false, false, false, false, false, false] (by kernel_rfl) ?_
       refine take_ (i := 10) (N := some 26) (v := ?_) (a' := ?_) #[true, true, true, true, true, true, true, true, true, true, true, false, false, false, false, false, false, false, false, false, false, false, false, false, false, false, false, false] rfl rfl (by kernel_rfl) (fun _ _ _ h => h) (Or.inl ⟨by rfl, ?_⟩) hHeld ?_ ?_
       rotate_left
       ·
        rintro w' ⟨s0, s1, s2, s3, s4⟩
        go_simp
        with_reducible rfl
       rotate_left
       ·
        simp only [Act.put, List.setIfInBounds_toArray, List.set_cons_zero, List.set_cons_succ, i64_w, i32_w]; rfl
       refine zp (i := 11) (N := some 27) #[true, true, true, true, true, true, true, true, true, true, true, true, false, false, false, false, false, false, false, false, false, false, false, false, false, false, false, false] (by kernel_rfl) ?_
       refine zp (i := 12) (N := some 28) #[true, true, true, true, true, true, true, true, true, true, true, true, true, false, false, false, false, false, false, false, false, false, false, false, false, false, false, false] (by kernel_rfl) ?_
       refine take_ (i := 13) (N := some 29) (v := ?_) (a' := ?_) #[true, true, true, true, true, true, true, true, true, true, true, true, true, true, false, false, false, false, false, false, false, false, false, false, false, false, false, false] rfl rfl (by kernel_rfl) (fun _ _ _ h => h) (Or.inl ⟨by rfl, ?_⟩) hHeld ?_ ?_
       rotate_left
       ·
        rintro w' ⟨s0, s1, s2, s3, s4⟩
        go_simp
        with_reducible rfl
       rotate_left
       ·
        simp only [Act.put, List.setIfInBounds_toArray, List.set_cons_zero, List.set_cons_succ, i64_w, i32_w]; rfl
       refine zp (i := 14) (N := some 30) #[true, true, true, true, true, true, true, true, true, true, true, true, true, true, true, false, false, false, false, false, false, false, false, false, false, false, false, false] (by kernel_rfl) ?_
       refine zp (i := 16) (N := some 32) #[true, true, true, true, true, true, true, true, true, true, true, true, true, true, true, false, true, false, false, false, false, false, false, false, false, false, false, false] (by kernel_rfl) ?_
       refine zp (i := 17) (N := some 33) #[true, true, true, true, true, true, true, true, true, true, true, true, true, true, true, false, true, true, false, false, false, false, false, false, false, false, false, false] (by kernel_rfl) ?_
       refine zp (i := 18) (N := some 34) #[true, true, true, true, true, true, true, true, true, true, true, true, true, true, true, false, true, true, true, false, false, false, false, false, false, false, false, false] (by kernel_rfl) ?_
       refine take_ (i := 19) (N := some 35) (v := ?_) (a' := ?_) #[true, true, true, true, true, true, true, true, true, true, true, true, true, true, true, false, true, true, true, true, false, false, false, false, false, false, false, false] rfl rfl (by kernel_rfl) (fun _ _ _ h => h) (Or.inl ⟨by rfl, ?_⟩) hHeld ?_ ?_
       rotate_left
       ·
        rintro w' ⟨s0, s1, s2, s3, s4⟩
        go_simp
        with_reducible rfl
       rotate_left
       ·
        simp only [Act.put, List.setIfInBounds_toArray, List.set_cons_zero, List.set_cons_succ, i64_w, i32_w]; rfl
       refine zp (i := 20) (N := some 36) #[true, true, true, true, true, true, true, true, true, true, true, true, true, true, true, false, true, true, true, true, true, false, false, false, false, false, false, false] (by kernel_rfl) ?_
       refine two_ (i := 15) (j := 25) (Ni := (some 31)) (Nj := (some 5)) #[true, true, true, true, true, true, true, true, true, true, true, true, true, true, true, true, true, true, true, true, true, false, false, false, false, false, false, false] #[true, true, true, true, true, true, true, true, true, true, true, true, true, true, true, false, true, true, true, true, true, false, false, false, false, true, false, false] rfl rfl rfl rfl (by kernel_rfl) (by decide) (by decide) (fun K hK => ?_) (fun K hK => ?_)
       ·
        refine goes_ Try.func94 (by kernel_rfl) rfl #[.int .i64 (wrap64 ((rd L i) + (rd M i)))] (by rfl) rfl rfl zq6 ?_
        with_reducible refine (impl_wideOf.calls (wrap64 ((rd L i) + (rd M i))) t1 t2 t3 _ A3.out).mono ?_
        rintro e wn0 ⟨rfl, hb⟩
        refine ⟨_, rfl, ?_⟩
        replace BKG := Aside0.mk (zbb BKG hb); replace HB := Aside0.mk (below_step (zb1 HB) hb); replace HO := Aside0.mk (Kd.R_below (zq3 HO) hb)
        clear hb
        refine hK.out _ _ ⟨zc BKG 0, zc BKG 1, zc BKG 2, (by exact ((zb1 HB).cell (World.block_lt_of_cell? w _ hx)).trans hx), (by exact ((zb1 HB).cell (World.block_lt_of_cell? w _ hy)).trans hy)⟩ (fun hHeld => ?_)
        clear hK K
        refine norm_ (a' := ?_) ?_ ?_
        rotate_left
        ·
         show Act.put _ (some 31) _ = _
         simp only [Act.put, List.setIfInBounds_toArray, List.set_cons_zero, List.set_cons_succ, i64_w, i32_w]; rfl
        refine two_ (i := 21) (j := 25) (Ni := (some 37)) (Nj := (some 5)) #[true, true, true, true, true, true, true, true, true, true, true, true, true, true, true, true, true, true, true, true, true, true, false, false, false, false, false, false] #[true, true, true, true, true, true, true, true, true, true, true, true, true, true, true, true, true, true, true, true, true, false, false, false, false, true, false, false] rfl rfl rfl rfl (by kernel_rfl) (by decide) (by decide) (fun K hK => ?_) (fun K hK => ?_)
        ·
         refine goes_ Try.func95 (by kernel_rfl) rfl #[.agg #[.bool t1, .int .u64 t2, .int .u64 t3], .int .i64 (wrap64 (K0 + 1))] (by rfl) rfl rfl zq6 ?_
         with_reducible refine (impl_wide_fit.calls k1 t1 t2 t3 (wrap64 (K0 + 1)) u1 u2 q3 _ A4.out).mono ?_
         rintro e wn1 ⟨rfl, hb⟩
         refine ⟨_, rfl, ?_⟩
         replace BKG := Aside0.mk (zbb BKG hb); replace HB := Aside0.mk (below_step (zb1 HB) hb); replace HO := Aside0.mk (Kd.R_below (zq3 HO) hb)
         clear hb
         refine hK.out _ _ ⟨zc BKG 0, zc BKG 1, zc BKG 2, (by exact ((zb1 HB).cell (World.block_lt_of_cell? w _ hx)).trans hx), (by exact ((zb1 HB).cell (World.block_lt_of_cell? w _ hy)).trans hy)⟩ (fun hHeld => ?_)
         clear hK K
         refine norm_ (a' := ?_) ?_ ?_
         rotate_left
         ·
          show Act.put _ (some 37) _ = _
          simp only [Act.put, List.setIfInBounds_toArray, List.set_cons_zero, List.set_cons_succ, i64_w, i32_w]; rfl
         refine zp (i := 22) (N := some 15) #[true, true, true, true, true, true, true, true, true, true, true, true, true, true, true, true, true, true, true, true, true, true, true, false, false, false, false, false] (by kernel_rfl) ?_
         refine zp (i := 23) (N := some 38) #[true, true, true, true, true, true, true, true, true, true, true, true, true, true, true, true, true, true, true, true, true, true, true, true, false, false, false, false] (by kernel_rfl) ?_
         refine zp (i := 24) (N := some 39) #[true, true, true, true, true, true, true, true, true, true, true, true, true, true, true, true, true, true, true, true, true, true, true, true, true, false, false, false] (by kernel_rfl) ?_
         refine one_ (i := 25) (N := (some 5)) #[true, true, true, true, true, true, true, true, true, true, true, true, true, true, true, true, true, true, true, true, true, true, true, true, true, true, false, false] rfl rfl (by kernel_rfl) (by decide) (fun K hK => ?_)
         refine box_step ?hg (N := 5) ?hd (cs := #[.int .i64 0, .int .i64 0]) (t := 37) ?hr ?_; (case hd => rfl); (case hg => rfl); (case hr => first | (go_simp; done) | (go_simp; rfl))
         intro gb5 hg wn2 hbox hb
         have BK5 := Aside0.mk hbox; have GW5 := Aside0.mk (zge (zb1 HB) hg); have NBG5 := Aside0.mk (zlt BKG hg)
         replace BKG := Aside0.mk (zbb BKG hb); replace HB := Aside0.mk (below_step (zb1 HB) hb); replace HO := Aside0.mk (Kd.R_below (Kd.R_elderB (zq3 HO) gb5 (Nat.le_of_eq hg.symm)) hb)
         clear hbox hg hb
         refine hK.out _ _ ⟨zc BKG 0, zc BKG 1, zc BKG 2, (by exact ((zb1 HB).cell (World.block_lt_of_cell? w _ hx)).trans hx), (by exact ((zb1 HB).cell (World.block_lt_of_cell? w _ hy)).trans hy)⟩ (fun hHeld => ?_)
         clear hK K
         refine norm_ (a' := ?_) ?_ ?_
         rotate_left
         ·
          show Act.put _ (some 5) _ = _
          simp only [Act.put, List.setIfInBounds_toArray, List.set_cons_zero, List.set_cons_succ, i64_w, i32_w]; rfl
         refine one_ (i := 26) (N := none) #[true, true, true, true, true, true, true, true, true, true, true, true, true, true, true, true, true, true, true, true, true, true, true, true, true, true, true, false] rfl rfl (by kernel_rfl) (by decide) (fun K hK => ?_)
         have hcz5_0 : wn2.cell? ⟨gb5, 0, none⟩ = some (.int .i64 0) := zc BK5 0; have hfz5_0 := blk_frozen BK5.out 0; have hcz5_1 : wn2.cell? ⟨gb5, 1, none⟩ = some (.int .i64 0) := zc BK5 1; have hfz5_1 := blk_frozen BK5.out 1
         rw [if_pos (by rfl)]
         go_wp2
         have BX5 : ((wn2.setCell ⟨gb5, 0, none⟩ (.int .i64 u1)).setCell ⟨gb5, 1, none⟩ (.int .i64 u2)).heap[gb5]? = some (.cells #[.int .i64 u1, .int .i64 u2] 37 (0, 0)) := blk_put (cs := #[.int .i64 u1, .int .i64 0]) (blk_put (cs := #[.int .i64 0, .int .i64 0]) BK5.out 0 _ rfl) 1 _ rfl
         have BXG : ((wn2.setCell ⟨gb5, 0, none⟩ (.int .i64 u1)).setCell ⟨gb5, 1, none⟩ (.int .i64 u2)).heap[g]? = some (.cells #[.int .i64 K0, .slice (some adA) L.length c1, .slice (some adB) M.length c2] 27 (0, 0)) := blk_far (blk_far BKG.out NBG5.out _) NBG5.out _
         have HX : Below w.heap.size w ((wn2.setCell ⟨gb5, 0, none⟩ (.int .i64 u1)).setCell ⟨gb5, 1, none⟩ (.int .i64 u2)) := (zb1 HB)
         have HOX : Kd.R k37 37 ((wn2.setCell ⟨gb5, 0, none⟩ (.int .i64 u1)).setCell ⟨gb5, 1, none⟩ (.int .i64 u2)) w.heap.size (fun _ => True) u3 xs := Kd.R_mono (Kd.R_far (p := ⟨gb5, 1, none⟩) (Kd.R_far (p := ⟨gb5, 0, none⟩) HO.out (fun _ hk => hk.2) (.int .i64 u1)) (fun _ hk => hk.2) (.int .i64 u2)) (fun _ _ => trivial)
         clear hcz5_0 hcz5_1 hfz5_0 hfz5_1 BK5 BKG HB HO
         generalize ((wn2.setCell ⟨gb5, 0, none⟩ (.int .i64 u1)).setCell ⟨gb5, 1, none⟩ (.int .i64 u2)) = wx at BX5 BXG HX HOX ⊢
         have BK5 := Aside0.mk BX5; have BKG := Aside0.mk BXG; have HB := Aside0.mk HX; have HO := Aside0.mk HOX
         have hc5_0 : wx.cell? ⟨gb5, 0, none⟩ = some (.int .i64 u1) := zc BK5 0; have hc5_1 : wx.cell? ⟨gb5, 1, none⟩ = some (.int .i64 u2) := zc BK5 1
         clear BX5 BXG HX HOX
         refine hK.out _ _ ⟨zc BKG 0, zc BKG 1, zc BKG 2, (by exact ((zb1 HB).cell (World.block_lt_of_cell? w _ hx)).trans hx), (by exact ((zb1 HB).cell (World.block_lt_of_cell? w _ hy)).trans hy)⟩ (fun hHeld => ?_)
         clear hK K
         refine norm_ (a' := ?_) ?_ ?_
         rotate_left
         ·
          first | rfl | (simp only [Act.put, List.setIfInBounds_toArray, List.set_cons_zero, List.set_cons_succ, i64_w, i32_w]; rfl)
         refine zp (i := 27) (N := some 6) #[true, true, true, true, true, true, true, true, true, true, true, true, true, true, true, true, true, true, true, true, true, true, true, true, true, true, true, true] (by kernel_rfl) ?_
         refine done_ (by kernel_rfl) ?_
         go_wp2_with ((with_reducible refine gate_builtin (b := .append) (xs := #[.tmp 40, .tmp 42]) rfl ?_); at_builtin; refine Kd.R_append k37 (w0 := w) w.heap.size rfl (.tmp 40) (.tmp 42) 51 37 (.agg #[(.int .i64 0), (.int .i64 0)]) 16 rfl Try.underlying51 info37 rfl (by decide) (by omega) u3 xs (⟨u1, u2⟩ : S37) [.int .i64 u1, .int .i64 u2] (fun _ => True) (fun _ => False) rfl (by first | (go_simp; done) | (go_simp; rfl)) ?aP (fun _ hk => hk.elim) ?aF ?aO ?aB ?aS ?aL ?_; (case aP => exact k37_mkM _ _ _ (⟨u1, u2⟩ : S37)); (case aB => exact (zb1 HB)); (case aF => exact (fun _ _ => trivial)); (case aO => exact (zq3 HO)); (case aS => exact (below_size (zb1 HB))); (case aL => have := LM.out; omega); intro v43 wy ho hb hg hat; rw [← NY.out] at ho; have HO' := Aside0.mk ho; replace BKG := Aside0.mk (blk_grown (zq1 BKG) hg (Kd.R_ne HO.out BKG.out (by decide))); replace HB := Aside0.mk hb; clear ho hb hg hat)
         go_roundg k1
         case measure => have := HK1.out; omega
         case rel => exact ⟨ys, (wrap64 (i + 1)), (by first | rfl | (simp; done) | (simp [*]; done)), H', ⟨by have := HK1.out; omega⟩, ⟨by (with_reducible repeat (first | apply Kd.R_alloc | apply Kd.R_drewN | apply Kd.R_drew)); exact HO'.out⟩, ⟨zq1 BKG⟩, ⟨(zb1 HB)⟩⟩
        ·
         refine box_step ?hg (N := 5) ?hd (cs := #[.int .i64 0, .int .i64 0]) (t := 37) ?hr ?_; (case hd => rfl); (case hg => rfl); (case hr => first | (go_simp; done) | (go_simp; rfl))
         intro gb5 hg wn1 hbox hb
         have BK5 := Aside0.mk hbox; have GW5 := Aside0.mk (zge (zb1 HB) hg); have NBG5 := Aside0.mk (zlt BKG hg)
         replace BKG := Aside0.mk (zbb BKG hb); replace HB := Aside0.mk (below_step (zb1 HB) hb); replace HO := Aside0.mk (Kd.R_below (Kd.R_elderB (zq3 HO) gb5 (Nat.le_of_eq hg.symm)) hb)
         clear hbox hg hb
         refine hK.out _ _ ⟨zc BKG 0, zc BKG 1, zc BKG 2, (by exact ((zb1 HB).cell (World.block_lt_of_cell? w _ hx)).trans hx), (by exact ((zb1 HB).cell (World.block_lt_of_cell? w _ hy)).trans hy)⟩ (fun hHeld => ?_)
         clear hK K
         refine norm_ (a' := ?_) ?_ ?_
         rotate_left
         ·
          show Act.put _ (some 5) _ = _
          simp only [Act.put, List.setIfInBounds_toArray, List.set_cons_zero, List.set_cons_succ, i64_w, i32_w]; rfl
         refine one_ (i := 21) (N := (some 37)) #[true, true, true, true, true, true, true, true, true, true, true, true, true, true, true, true, true, true, true, true, true, true, false, false, false, true, false, false] rfl rfl (by kernel_rfl) (by decide) (fun K hK => ?_)
         refine goes_ Try.func95 (by kernel_rfl) rfl #[.agg #[.bool t1, .int .u64 t2, .int .u64 t3], .int .i64 (wrap64 (K0 + 1))] (by rfl) rfl rfl zq6 ?_
         with_reducible refine (impl_wide_fit.calls k1 t1 t2 t3 (wrap64 (K0 + 1)) u1 u2 q3 _ A4.out).mono ?_
         rintro e wn2 ⟨rfl, hb⟩
         refine ⟨_, rfl, ?_⟩
         replace BKG := Aside0.mk (zbb BKG hb); replace BK5 := Aside0.mk (zbb BK5 hb); replace HB := Aside0.mk (below_step (zb1 HB) hb); replace HO := Aside0.mk (Kd.R_below (zq3 HO) hb)
         clear hb
         refine hK.out _ _ ⟨zc BKG 0, zc BKG 1, zc BKG 2, (by exact ((zb1 HB).cell (World.block_lt_of_cell? w _ hx)).trans hx), (by exact ((zb1 HB).cell (World.block_lt_of_cell? w _ hy)).trans hy)⟩ (fun hHeld => ?_)
         clear hK K
         refine norm_ (a' := ?_) ?_ ?_
         rotate_left
         ·
          show Act.put _ (some 37) _ = _
          simp only [Act.put, List.setIfInBounds_toArray, List.set_cons_zero, List.set_cons_succ, i64_w, i32_w]; rfl
         refine zp (i := 22) (N := some 15) #[true, true, true, true, true, true, true, true, true, true, true, true, true, true, true, true, true, true, true, true, true, true, true, false, false, true, false, false] (by kernel_rfl) ?_
         refine zp (i := 23) (N := some 38) #[true, true, true, true, true, true, true, true, true, true, true, true, true, true, true, true, true, true, true, true, true, true, true, true, false, true, false, false] (by kernel_rfl) ?_
         refine zp (i := 24) (N := some 39) #[true, true, true, true, true, true, true, true, true, true, true, true, true, true, true, true, true, true, true, true, true, true, true, true, true, true, false, false] (by kernel_rfl) ?_
         refine one_ (i := 26) (N := none) #[true, true, true, true, true, true, true, true, true, true, true, true, true, true, true, true, true, true, true, true, true, true, true, true, true, true, true, false] rfl rfl (by kernel_rfl) (by decide) (fun K hK => ?_)
         have hcz5_0 : wn2.cell? ⟨gb5, 0, none⟩ = some (.int .i64 0) := zc BK5 0; have hfz5_0 := blk_frozen BK5.out 0; have hcz5_1 : wn2.cell? ⟨gb5, 1, none⟩ = some (.int .i64 0) := zc BK5 1; have hfz5_1 := blk_frozen BK5.out 1
         rw [if_pos (by rfl)]
         go_wp2
         have BX5 : ((wn2.setCell ⟨gb5, 0, none⟩ (.int .i64 u1)).setCell ⟨gb5, 1, none⟩ (.int .i64 u2)).heap[gb5]? = some (.cells #[.int .i64 u1, .int .i64 u2] 37 (0, 0)) := blk_put (cs := #[.int .i64 u1, .int .i64 0]) (blk_put (cs := #[.int .i64 0, .int .i64 0]) BK5.out 0 _ rfl) 1 _ rfl
         have BXG : ((wn2.setCell ⟨gb5, 0, none⟩ (.int .i64 u1)).setCell ⟨gb5, 1, none⟩ (.int .i64 u2)).heap[g]? = some (.cells #[.int .i64 K0, .slice (some adA) L.length c1, .slice (some adB) M.length c2] 27 (0, 0)) := blk_far (blk_far BKG.out NBG5.out _) NBG5.out _
         have HX : Below w.heap.size w ((wn2.setCell ⟨gb5, 0, none⟩ (.int .i64 u1)).setCell ⟨gb5, 1, none⟩ (.int .i64 u2)) := (zb1 HB)
         have HOX : Kd.R k37 37 ((wn2.setCell ⟨gb5, 0, none⟩ (.int .i64 u1)).setCell ⟨gb5, 1, none⟩ (.int .i64 u2)) w.heap.size (fun _ => True) u3 xs := Kd.R_mono (Kd.R_far (p := ⟨gb5, 1, none⟩) (Kd.R_far (p := ⟨gb5, 0, none⟩) HO.out (fun _ hk => hk.2) (.int .i64 u1)) (fun _ hk => hk.2) (.int .i64 u2)) (fun _ _ => trivial)
         clear hcz5_0 hcz5_1 hfz5_0 hfz5_1 BK5 BKG HB HO
         generalize ((wn2.setCell ⟨gb5, 0, none⟩ (.int .i64 u1)).setCell ⟨gb5, 1, none⟩ (.int .i64 u2)) = wx at BX5 BXG HX HOX ⊢
         have BK5 := Aside0.mk BX5; have BKG := Aside0.mk BXG; have HB := Aside0.mk HX; have HO := Aside0.mk HOX
         have hc5_0 : wx.cell? ⟨gb5, 0, none⟩ = some (.int .i64 u1) := zc BK5 0; have hc5_1 : wx.cell? ⟨gb5, 1, none⟩ = some (.int .i64 u2) := zc BK5 1
         clear BX5 BXG HX HOX
         refine hK.out _ _ ⟨zc BKG 0, zc BKG 1, zc BKG 2, (by exact ((zb1 HB).cell (World.block_lt_of_cell? w _ hx)).trans hx), (by exact ((zb1 HB).cell (World.block_lt_of_cell? w _ hy)).trans hy)⟩ (fun hHeld => ?_)
         clear hK K
         refine norm_ (a' := ?_) ?_ ?_
         rotate_left
         ·
          first | rfl | (simp only [Act.put, List.setIfInBounds_toArray, List.set_cons_zero, List.set_cons_succ, i64_w, i32_w]; rfl)
         refine zp (i := 27) (N := some 6) #[true, true, true, true, true, true, true, true, true, true, true, true, true, true, true, true, true, true, true, true, true, true, true, true, true, true, true, true] (by kernel_rfl) ?_
         refine done_ (by kernel_rfl) ?_
         go_wp2_with ((with_reducible refine gate_builtin (b := .append) (xs := #[.tmp 40, .tmp 42]) rfl ?_); at_builtin; refine Kd.R_append k37 (w0 := w) w.heap.size rfl (.tmp 40) (.tmp 42) 51 37 (.agg #[(.int .i64 0), (.int .i64 0)]) 16 rfl Try.underlying51 info37 rfl (by decide) (by omega) u3 xs (⟨u1, u2⟩ : S37) [.int .i64 u1, .int .i64 u2] (fun _ => True) (fun _ => False) rfl (by first | (go_simp; done) | (go_simp; rfl)) ?aP (fun _ hk => hk.elim) ?aF ?aO ?aB ?aS ?aL ?_; (case aP => exact k37_mkM _ _ _ (⟨u1, u2⟩ : S37)); (case aB => exact (zb1 HB)); (case aF => exact (fun _ _ => trivial)); (case aO => exact (zq3 HO)); (case aS => exact (below_size (zb1 HB))); (case aL => have := LM.out; omega); intro v43 wy ho hb hg hat; rw [← NY.out] at ho; have HO' := Aside0.mk ho; replace BKG := Aside0.mk (blk_grown (zq1 BKG) hg (Kd.R_ne HO.out BKG.out (by decide))); replace HB := Aside0.mk hb; clear ho hb hg hat)
         go_roundg k1
         case measure => have := HK1.out; omega
         case rel => exact ⟨ys, (wrap64 (i + 1)), (by first | rfl | (simp; done) | (simp [*]; done)), H', ⟨by have := HK1.out; omega⟩, ⟨by (with_reducible repeat (first | apply Kd.R_alloc | apply Kd.R_drewN | apply Kd.R_drew)); exact HO'.out⟩, ⟨zq1 BKG⟩, ⟨(zb1 HB)⟩⟩
       ·
        refine box_step ?hg (N := 5) ?hd (cs := #[.int .i64 0, .int .i64 0]) (t := 37) ?hr ?_; (case hd => rfl); (case hg => rfl); (case hr => first | (go_simp; done) | (go_simp; rfl))
        intro gb5 hg wn0 hbox hb
        have BK5 := Aside0.mk hbox; have GW5 := Aside0.mk (zge (zb1 HB) hg); have NBG5 := Aside0.mk (zlt BKG hg)
        replace BKG := Aside0.mk (zbb BKG hb); replace HB := Aside0.mk (below_step (zb1 HB) hb); replace HO := Aside0.mk (Kd.R_below (Kd.R_elderB (zq3 HO) gb5 (Nat.le_of_eq hg.symm)) hb)
        clear hbox hg hb
        refine hK.out _ _ ⟨zc BKG 0, zc BKG 1, zc BKG 2, (by exact ((zb1 HB).cell (World.block_lt_of_cell? w _ hx)).trans hx), (by exact ((zb1 HB).cell (World.block_lt_of_cell? w _ hy)).trans hy)⟩ (fun hHeld => ?_)
        clear hK K
        refine norm_ (a' := ?_) ?_ ?_
        rotate_left
        ·
         show Act.put _ (some 5) _ = _
         simp only [Act.put, List.setIfInBounds_toArray, List.set_cons_zero, List.set_cons_succ, i64_w, i32_w]; rfl
        refine one_ (i := 15) (N := (some 31)) #[true, true, true, true, true, true, true, true, true, true, true, true, true, true, true, true, true, true, true, true, true, false, false, false, false, true, false, false] rfl rfl (by kernel_rfl) (by decide) (fun K hK => ?_)
        refine goes_ Try.func94 (by kernel_rfl) rfl #[.int .i64 (wrap64 ((rd L i) + (rd M i)))] (by rfl) rfl rfl zq6 ?_
        with_reducible refine (impl_wideOf.calls (wrap64 ((rd L i) + (rd M i))) t1 t2 t3 _ A3.out).mono ?_
        rintro e wn1 ⟨rfl, hb⟩
        refine ⟨_, rfl, ?_⟩
        replace BKG := Aside0.mk (zbb BKG hb); replace BK5 := Aside0.mk (zbb BK5 hb); replace HB := Aside0.mk (below_step (zb1 HB) hb); replace HO := Aside0.mk (Kd.R_below (zq3 HO) hb)
        clear hb
        refine hK.out _ _ ⟨zc BKG 0, zc BKG 1, zc BKG 2, (by exact ((zb1 HB).cell (World.block_lt_of_cell? w _ hx)).trans hx), (by exact ((zb1 HB).cell (World.block_lt_of_cell? w _ hy)).trans hy)⟩ (fun hHeld => ?_)
        clear hK K
        refine norm_ (a' := ?_) ?_ ?_
        rotate_left
        ·
         show Act.put _ (some 31) _ = _
         simp only [Act.put, List.setIfInBounds_toArray, List.set_cons_zero, List.set_cons_succ, i64_w, i32_w]; rfl
        refine one_ (i := 21) (N := (some 37)) #[true, true, true, true, true, true, true, true, true, true, true, true, true, true, true, true, true, true, true, true, true, true, false, false, false, true, false, false] rfl rfl (by kernel_rfl) (by decide) (fun K hK => ?_)
        refine goes_ Try.func95 (by kernel_rfl) rfl #[.agg #[.bool t1, .int .u64 t2, .int .u64 t3], .int .i64 (wrap64 (K0 + 1))] (by rfl) rfl rfl zq6 ?_
        with_reducible refine (impl_wide_fit.calls k1 t1 t2 t3 (wrap64 (K0 + 1)) u1 u2 q3 _ A4.out).mono ?_
        rintro e wn2 ⟨rfl, hb⟩
        refine ⟨_, rfl, ?_⟩
        replace BKG := Aside0.mk (zbb BKG hb); replace BK5 := Aside0.mk (zbb BK5 hb); replace HB := Aside0.mk (below_step (zb1 HB) hb); replace HO := Aside0.mk (Kd.R_below (zq3 HO) hb)
        clear hb
        refine hK.out _ _ ⟨zc BKG 0, zc BKG 1, zc BKG 2, (by exact ((zb1 HB).cell (World.block_lt_of_cell? w _ hx)).trans hx), (by exact ((zb1 HB).cell (World.block_lt_of_cell? w _ hy)).trans hy)⟩ (fun hHeld => ?_)
        clear hK K
        refine norm_ (a' := ?_) ?_ ?_
        rotate_left
        ·
         show Act.put _ (some 37) _ = _
         simp only [Act.put, List.setIfInBounds_toArray, List.set_cons_zero, List.set_cons_succ, i64_w, i32_w]; rfl
        refine zp (i := 22) (N := some 15) #[true, true, true, true, true, true, true, true, true, true, true, true, true, true, true, true, true, true, true, true, true, true, true, false, false, true, false, false] (by kernel_rfl) ?_
        refine zp (i := 23) (N := some 38) #[true, true, true, true, true, true, true, true, true, true, true, true, true, true, true, true, true, true, true, true, true, true, true, true, false, true, false, false] (by kernel_rfl) ?_
        refine zp (i := 24) (N := some 39) #[true, true, true, true, true, true, true, true, true, true, true, true, true, true, true, true, true, true, true, true, true, true, true, true, true, true, false, false] (by kernel_rfl) ?_
        refine one_ (i := 26) (N := none) #[true, true, true, true, true, true, true, true, true, true, true, true, true, true, true, true, true, true, true, true, true, true, true, true, true, true, true, false] rfl rfl (by kernel_rfl) (by decide) (fun K hK => ?_)
        have hcz5_0 : wn2.cell? ⟨gb5, 0, none⟩ = some (.int .i64 0) := zc BK5 0; have hfz5_0 := blk_frozen BK5.out 0; have hcz5_1 : wn2.cell? ⟨gb5, 1, none⟩ = some (.int .i64 0) := zc BK5 1; have hfz5_1 := blk_frozen BK5.out 1
        rw [if_pos (by rfl)]
        go_wp2
        have BX5 : ((wn2.setCell ⟨gb5, 0, none⟩ (.int .i64 u1)).setCell ⟨gb5, 1, none⟩ (.int .i64 u2)).heap[gb5]? = some (.cells #[.int .i64 u1, .int .i64 u2] 37 (0, 0)) := blk_put (cs := #[.int .i64 u1, .int .i64 0]) (blk_put (cs := #[.int .i64 0, .int .i64 0]) BK5.out 0 _ rfl) 1 _ rfl
        have BXG : ((wn2.setCell ⟨gb5, 0, none⟩ (.int .i64 u1)).setCell ⟨gb5, 1, none⟩ (.int .i64 u2)).heap[g]? = some (.cells #[.int .i64 K0, .slice (some adA) L.length c1, .slice (some adB) M.length c2] 27 (0, 0)) := blk_far (blk_far BKG.out NBG5.out _) NBG5.out _
        have HX : Below w.heap.size w ((wn2.setCell ⟨gb5, 0, none⟩ (.int .i64 u1)).setCell ⟨gb5, 1, none⟩ (.int .i64 u2)) := (zb1 HB)
        have HOX : Kd.R k37 37 ((wn2.setCell ⟨gb5, 0, none⟩ (.int .i64 u1)).setCell ⟨gb5, 1, none⟩ (.int .i64 u2)) w.heap.size (fun _ => True) u3 xs := Kd.R_mono (Kd.R_far (p := ⟨gb5, 1, none⟩) (Kd.R_far (p := ⟨gb5, 0, none⟩) HO.out (fun _ hk => hk.2) (.int .i64 u1)) (fun _ hk => hk.2) (.int .i64 u2)) (fun _ _ => trivial)
        clear hcz5_0 hcz5_1 hfz5_0 hfz5_1 BK5 BKG HB HO
        generalize ((wn2.setCell ⟨gb5, 0, none⟩ (.int .i64 u1)).setCell ⟨gb5, 1, none⟩ (.int .i64 u2)) = wx at BX5 BXG HX HOX ⊢
        have BK5 := Aside0.mk BX5; have BKG := Aside0.mk BXG; have HB := Aside0.mk HX; have HO := Aside0.mk HOX
        have hc5_0 : wx.cell? ⟨gb5, 0, none⟩ = some (.int .i64 u1) := zc BK5 0; have hc5_1 : wx.cell? ⟨gb5, 1, none⟩ = some (.int .i64 u2) := zc BK5 1
        clear BX5 BXG HX HOX
        refine hK.out _ _ ⟨zc BKG 0, zc BKG 1, zc BKG 2, (by exact ((zb1 HB).cell (World.block_lt_of_cell? w _ hx)).trans hx), (by exact ((zb1 HB).cell (World.block_lt_of_cell? w _ hy)).trans hy)⟩ (fun hHeld => ?_)
        clear hK K
        refine norm_ (a' := ?_) ?_ ?_
        rotate_left
        ·
         first | rfl | (simp only [Act.put, List.setIfInBounds_toArray, List.set_cons_zero, List.set_cons_succ, i64_w, i32_w]; rfl)
        refine zp (i := 27) (N := some 6) #[true, true, true, true, true, true, true, true, true, true, true, true, true, true, true, true, true, true, true, true, true, true, true, true, true, true, true, true] (by kernel_rfl) ?_
        refine done_ (by kernel_rfl) ?_
        go_wp2_with ((with_reducible refine gate_builtin (b := .append) (xs := #[.tmp 40, .tmp 42]) rfl ?_); at_builtin; refine Kd.R_append k37 (w0 := w) w.heap.size rfl (.tmp 40) (.tmp 42) 51 37 (.agg #[(.int .i64 0), (.int .i64 0)]) 16 rfl Try.underlying51 info37 rfl (by decide) (by omega) u3 xs (⟨u1, u2⟩ : S37) [.int .i64 u1, .int .i64 u2] (fun _ => True) (fun _ => False) rfl (by first | (go_simp; done) | (go_simp; rfl)) ?aP (fun _ hk => hk.elim) ?aF ?aO ?aB ?aS ?aL ?_; (case aP => exact k37_mkM _ _ _ (⟨u1, u2⟩ : S37)); (case aB => exact (zb1 HB)); (case aF => exact (fun _ _ => trivial)); (case aO => exact (zq3 HO)); (case aS => exact (below_size (zb1 HB))); (case aL => have := LM.out; omega); intro v43 wy ho hb hg hat; rw [← NY.out] at ho; have HO' := Aside0.mk ho; replace BKG := Aside0.mk (blk_grown (zq1 BKG) hg (Kd.R_ne HO.out BKG.out (by decide))); replace HB := Aside0.mk hb; clear ho hb hg hat)
        go_roundg k1
        case measure => have := HK1.out; omega
        case rel => exact ⟨ys, (wrap64 (i + 1)), (by first | rfl | (simp; done) | (simp [*]; done)), H', ⟨by have := HK1.out; omega⟩, ⟨by (with_reducible repeat (first | apply Kd.R_alloc | apply Kd.R_drewN | apply Kd.R_drew)); exact HO'.out⟩, ⟨zq1 BKG⟩, ⟨(zb1 HB)⟩⟩
      ·
       rw [if_neg cl] at H; cases H
     ·
      rw [if_neg c''] at H; cases H
    ·
     rw [if_neg c'] at H; cases H
   ·
    rw [if_neg c] at H
    have cb := decide_eq_false c
    obtain rfl := Option.some.inj H
    clear c
    go_wp2
    go_ret
    exact ⟨_, by first | rfl | (simp; done) | (simp [*]; done), by (with_reducible repeat (first | apply Kd.R_alloc | apply Kd.R_drewN | apply Kd.R_drew)); exact HO.out, (zb0 HB)⟩
theorem impl_Box_middle.calls (k : Nat) (g : Nat) (s0_0 : Int) (s0_1 : List Int) (s0_2 : List Int) (r1 : List (S37)) (r2 : Int) (w0 w : World) (hI : IsS27 w0 w g s0_0 s0_1 s0_2) (hB : Below w0.heap.size w0 w) (h : impl_Box_middle.f k s0_0 s0_1 s0_2 = some (r1, r2)) :
  Calls Try.prog 81 #[.pointer (some ⟨g, 0, none⟩)] w fun e w' => ∃ v0_ : Value, e = .returned (v0_) ∧ Kd.R k37 37 w' w.heap.size (fun _ => True) v0_ r1 ∧ IsS27 w0 w' g r2 s0_1 s0_2 ∧ Below w0.heap.size w0 w' ∧ KeepBut w w' g none := by
 unfold impl_Box_middle.f at h
 obtain ⟨u, hF, h⟩ := Option.bind_eq_some_iff.mp h
 simp only [Option.some.injEq, Prod.mk.injEq] at h
 obtain ⟨rfl, rfl⟩ := h
 have hI' := hI
 obtain ⟨A1, c1, A2, c2, hb, hg, hr1, hr2⟩ := hI
 refine (impl_Box_middle.reads k g s0_0 A1 A2 c1 c2 s0_1 s0_2 u w hb (Kd.C_below hr1 hB) (Kd.C_below hr2 hB) hF).mono ?_
 rintro e w' ⟨v, rfl, ho, hbw⟩
 exact ⟨v, rfl, ho, hI'.below hbw, below_step hB hbw, KeepBut.of_below hbw g none⟩
end Go.Proofs.Ytgaoniapddpaaaa.PD
