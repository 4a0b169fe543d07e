-- By wip/mk/drv.py
import Derived.Test.YthanmlojikidbaaQExchnsPDx0
import Derived.Test.YthanmlojikidbaaQExchnsPDx1
import Derived.Test.YthanmlojikidbaaQExchnsPDx2
import Derived.Test.YthanmlojikidbaaQExchnsPDx3
namespace Go.Proofs.Ythanmlojikidbaa.PD
open Go.RowKit Go.Proofs.YthanmlojikidbaaW.PrintWords Go.Proofs.YthanmlojikidbaaW.PrintLast Go.Proofs.YthanmlojikidbaaW.PrintMore
attribute [local go_sem] max2_int min2_int max_two min_two max_three min_three max_four min_four
set_option linter.unusedVariables false
set_option linter.unusedSimpArgs false
/-! ### laws_toTermS: function 7 -/
set_option maxHeartbeats 8000000 in
set_option maxRecDepth 100000 in
theorem laws_toTermS.calls (k : Nat) (A0 : Option Addr) (c0 : Nat) (l0 : List (S53)) (a1 : Bool) (r : List (S51)) (w : World) (hr0 : Kd.C k53 w A0 l0.length l0) (hc0 : l0.length ≤ c0) (h : laws_toTermS.f k l0 a1 = some r) :
  Calls Try.prog 7 #[.slice A0 l0.length c0, .bool a1] w fun e w' => ∃ v0_ : Value, e = .returned (v0_) ∧ Kd.R k51 51 w' w.heap.size (fun _ => True) v0_ r ∧ Below w.heap.size w w' ∧ Kd.R k51 51 w' w.heap.size (fun _ => True) (relen v0_ (flb filk51 a1 r).length) (flb filk51 a1 r) := by
 have hu53 := Try.underlying53
 have hu51 := Try.underlying51
 have HR0 := Aside0.mk hr0
 have HC0 := Aside0.mk hc0
 clear hr0 hc0
 have HB := Aside0.mk (Below.refl w.heap.size w)
 have H : (if a1 = true then (laws_toTermS.j0 k l0 ((l0.length : Int) == 0)) else (laws_toTermS.j0 k l0 false)) = some r := h
 clear h
 have HC3 := Aside0.mk H
 clear H
 go_enter Try.func7, Try.ntmps7
 go_upto_region 1 with (fail)
 go_cut [13] (fun v13 wc => ∃ (kq : Nat) (x13_2 : Bool), v13 = .bool x13_2 ∧ Aside0 (laws_toTermS.j0 kq l0 x13_2 = some r) ∧ Aside0 (kq ≤ k) ∧ Aside0 (Below w.heap.size w wc) ∧ Aside0 (x13_2 = (a1 && decide (l0.length = 0))))
 case first =>
  have H := HC3.out
  clear HC3
  by_cases c4 : a1 = true
  ·
   subst c4
   have H1 : (laws_toTermS.j0 k l0 ((l0.length : Int) == 0)) = some r := by rw [if_pos rfl] at H; exact H
   clear H
   have H := H1
   clear H1
   have H' := Aside0.mk H
   clear H
   go_wp2
   go_meet
   case rel => exact ⟨_, (((l0.length : Int) == 0)), (by first | rfl | (simp; done) | (simp [*]; done)), H', ⟨by first | omega | exact Nat.le_refl _⟩, ⟨(zb0 HB)⟩, ⟨by cases l0 <;> simp <;> omega⟩⟩
  ·
   replace c4 := Bool.eq_false_iff.mpr c4
   subst c4
   have H1 : (laws_toTermS.j0 k l0 false) = some r := by rw [if_neg (show ¬ (false = true) by decide)] at H; exact H
   clear H
   have H := H1
   clear H1
   have H' := Aside0.mk H
   clear H
   go_wp2
   go_meet
   case rel => exact ⟨_, (false), (by first | rfl | (simp; done) | (simp [*]; done)), H', ⟨by first | omega | exact Nat.le_refl _⟩, ⟨(zb0 HB)⟩, ⟨rfl⟩⟩
 case rest =>
  clear HC3
  try clear p2
  try clear c4
  obtain ⟨kq, x13_2, rfl, HA, HJ2, HB, HFA⟩ := hcut
  cases kq with
  | zero => exact absurd HA.out (by simp [laws_toTermS.j0])
  | succ kj2 =>
   have H := HA.out
   clear HA
   simp only [laws_toTermS.j0] at H
   by_cases c5 : x13_2 = true
   ·
    subst c5
    have H1 : (some ([] : List (S51))) = some r := by rw [if_pos rfl] at H; exact H
    clear H
    have H := H1
    clear H1
    obtain rfl := Option.some.inj H
    go_wp2
    go_ret
    exact ⟨_, by first | rfl | (simp [errW_none, errW_some] <;> rfl) | (simp [*, errW_none, errW_some] <;> rfl), by first | exact Kd.R_nil _ _ _ _ _ | exact Kd.N_nil _ _ _ _ _ | exact Kd.V_nil _ _ _ _ _ | exact Kd.Q_nil _ _ _ _ _ | exact Kd.S_nil _ _ _ _ _, (zb0 HB), by obtain ⟨h1_, h2_⟩ := Bool.and_eq_true_iff.mp HFA.out.symm; have h3_ : flb filk51 a1 [] = [] := (by unfold flb; rw [if_pos ⟨h1_, rfl⟩]; rfl); rw [h3_]; exact Kd.R_nil _ _ _ _ _⟩
   ·
    replace c5 := Bool.eq_false_iff.mpr c5
    subst c5
    have H1 : ((laws_roomBehind.f (l0.length : Int)).bind fun t198 => (if 0 ≤ (wrap64 ((l0.length : Int) + t198)) then (if (wrap64 ((l0.length : Int) + t198) : Int).toNat ≤ 8796093022208 then (laws_toTermS.l0 kj2 l0 (List.replicate (wrap64 ((l0.length : Int) + t198) : Int).toNat z51) 0) else (none)) else (none))) = some r := by rw [if_neg (show ¬ (false = true) by decide)] at H; exact H
    clear H
    have H := H1
    clear H1
    replace H := Option.bind_eq_some_iff.mp H
    obtain ⟨t198, A60, H⟩ := H
    replace H : (if 0 ≤ (wrap64 ((l0.length : Int) + t198)) then (if (wrap64 ((l0.length : Int) + t198) : Int).toNat ≤ 8796093022208 then (laws_toTermS.l0 kj2 l0 (List.replicate (wrap64 ((l0.length : Int) + t198) : Int).toNat z51) 0) else (none)) else (none)) = some r := H
    have A6 := Aside0.mk A60
    clear A60
    obtain ⟨ji7, hji7⟩ : ∃ j_ : Int, (wrap64 ((l0.length : Int) + t198)) = j_ := ⟨_, rfl⟩
    replace H : (if 0 ≤ (ji7) then (if (ji7 : Int).toNat ≤ 8796093022208 then (laws_toTermS.l0 kj2 l0 (List.replicate (ji7 : Int).toNat z51) 0) else (none)) else (none)) = some r := by first | (rw [hji7] at H; exact H) | (simp only [hji7] at H ⊢; exact H)
    (try rw [hji7] at A6)
    have hji7w : (IntKind.i64.wrap ((l0.length : Int) + t198)) = ji7 := (i64_w _).trans hji7
    by_cases c8 : 0 ≤ (ji7)
    ·
     rw [if_pos c8] at H
     have c8b0 := eq_true c8
     have c8b1 : decide (0 ≤ (ji7)) = true := decide_eq_true c8
     clear c8
     by_cases c9 : (ji7 : Int).toNat ≤ 8796093022208
     ·
      rw [if_pos c9] at H
      have c9b0 := eq_true c9
      have c9b1 : decide ((ji7 : Int).toNat ≤ 8796093022208) = true := decide_eq_true c9
      clear c9
      obtain ⟨y199, hy199⟩ : ∃ y_ : List (S51), y_ = (List.replicate (ji7 : Int).toNat z51) := ⟨_, rfl⟩
      replace H : (laws_toTermS.l0 kj2 l0 y199 0) = some r := by first | (rw [hy199]; with_reducible exact H) | (have H2_ := (Option.bind_some _ _).symm.trans H; rw [hy199]; with_reducible exact H2_) | (have H2_ := (Option.bind_some _ _).symm.trans H; with_reducible exact H2_) | with_reducible exact H | (rw [hy199]; exact H) | exact H
      have Ny199 := Aside0.mk hy199
      clear hy199
      have H' := Aside0.mk H
      clear H
      go_wp2_with (first | ((with_reducible refine gate_callee (f := 37) rfl ?_); refine goesL_ (some 18) rfl rfl Try.func37 (by kernel_rfl) rfl #[.int .i64 (l0.length : Int)] rfl zq6 ?_; (with_reducible refine (laws_roomBehind.calls (l0.length : Int) t198 _ A6.out).mono ?_); rintro e w' ⟨rfl, ⟨nd, rfl⟩⟩; refine ⟨_, rfl, ?_⟩) | ((with_reducible refine gate_dst (N := 20) rfl ?_); (try (refine gate_guard (by rfl) ?_; dsimp only)); refine Kd.R_make k51 _ 51 rfl (N := 20) rfl 25 _ _ rfl ji7 rfl rfl Try.underlying25 (.agg #[(.int .i64 0), (.int .i64 0), (.int .i64 0), (.int .i64 0)]) 32 info51 rfl (by decide) (by omega) z51 (ok := fun _ => True) (okp := fun _ => True) (k51_mkM _ _ _ z51 ) (fun _ hk => hk) trivial (of_decide_eq_true (by first | (with_reducible assumption) | assumption)) (Nat.le_trans (Nat.mul_le_mul_right _ (of_decide_eq_true (by first | (with_reducible assumption) | assumption) : ji7.toNat ≤ 8796093022208)) (by omega)) (Below.refl _ _) (Nat.le_refl _) ?_; intro v200 w10 ho11 hb hg_ hnew_; clear hg_ hnew_; (first | rw [← Ny199.out] at ho11 | (simp only [Int.reduceToNat] at ho11; rw [← Ny199.out] at ho11)); have HO201 := Aside0.mk (Kd.R_lower ho11 (below_size (zb0 HB))); replace HB := Aside0.mk (below_step (zb0 HB) hb); clear hb ho11))
      go_loopg [6] kj2 (fun kq v6 w' => ∃ (x5_2 : List (S51)) (x6_2 : Int), v6 = .int .i64 x6_2 ∧ Aside0 (laws_toTermS.l0 kq l0 x5_2 x6_2 = some r) ∧ Aside0 (kq ≤ kj2) ∧ Aside0 (Kd.R k51 51 w' w.heap.size (fun _ => True) v200 x5_2) ∧ Aside0 (Below w.heap.size w w') ∧ Aside0 (Cop (l0.map (fun t => (⟨t.f0, t.f1, t.f2, t.f3⟩ : S51))) x5_2 x6_2))
      case atStart => exact ⟨(y199), (0), (by first | rfl | (simp; done) | (simp [*]; done)), H', ⟨Nat.le_refl _⟩, ⟨by (with_reducible repeat (first | apply Kd.R_alloc | apply Kd.R_drewN | apply Kd.R_drew)); exact HO201.out⟩, ⟨(zb0 HB)⟩, ⟨Cop.startC Ny199.out hji7 (by have h_ := A6.out; rw [laws_roomBehind.at_] at h_; exact (Option.some.inj h_).symm) (by first | exact of_decide_eq_true (by assumption) | exact Nat.le_trans (of_decide_eq_true (by assumption) : _ ≤ 8796093022208) (by omega)) (of_decide_eq_true (by assumption)) HR0.out.2.1⟩⟩
      case round =>
       clear H'
       try clear p2
       try clear c3
       try clear c4
       try clear c5
       try clear p6
       try clear c7
       try clear c8
       try clear c8b0
       try clear c8b1
       try clear c9
       try clear c9b0
       try clear c9b1
       try clear p2
       obtain ⟨x5_2, x6_2, rfl, HA, HK2, HO_5, HB, HCF⟩ := hrel
       cases gk with
       | zero => exact absurd HA.out (by simp [laws_toTermS.l0])
       | succ k2 =>
        have H := HA.out
        clear HA
        simp only [laws_toTermS.l0] at H
        by_cases c12 : x6_2 < (l0.length : Int)
        ·
         rw [if_pos c12] at H
         have c12b0 : decide (x6_2 < (l0.length : Int)) = true := decide_eq_true c12
         clear c12
         by_cases c13 : 0 ≤ x6_2
         ·
          rw [if_pos c13] at H
          have c13b0 : decide (0 ≤ x6_2) = true := decide_eq_true c13
          clear c13
          replace H := Option.bind_eq_some_iff.mp H
          obtain ⟨⟨t203, t204, t205, t206⟩, A140, H⟩ := H
          replace H : (if x6_2 < (x5_2.length : Int) then (laws_toTermS.l0 k2 l0 (x5_2.set (x6_2 : Int).toNat (⟨t203, t204, t205, t206⟩ : S51)) (wrap64 (x6_2 + 1))) else (none)) = some r := H
          have A14 := Aside0.mk A140
          clear A140
          by_cases c15 : x6_2 < (x5_2.length : Int)
          ·
           rw [if_pos c15] at H
           have c15b0 : decide (x6_2 < (x5_2.length : Int)) = true := decide_eq_true c15
           clear c15
           obtain ⟨y207, hy207⟩ : ∃ y_ : List (S51), y_ = (x5_2.set (x6_2 : Int).toNat (⟨t203, t204, t205, t206⟩ : S51)) := ⟨_, rfl⟩
           replace H : (laws_toTermS.l0 k2 l0 y207 (wrap64 (x6_2 + 1))) = some r := by first | (rw [hy207]; with_reducible exact H) | (have H2_ := (Option.bind_some _ _).symm.trans H; rw [hy207]; with_reducible exact H2_) | (have H2_ := (Option.bind_some _ _).symm.trans H; with_reducible exact H2_) | with_reducible exact H | (rw [hy207]; exact H) | exact H
           have Ny207 := Aside0.mk hy207
           clear hy207
           have H' := Aside0.mk H
           clear H
           have p202 : 0 ≤ (x6_2 : Int) := of_decide_eq_true (by first | (with_reducible assumption) | assumption)
           have q202 : x6_2 < (l0.length : Int) := of_decide_eq_true (by first | (with_reducible assumption) | assumption)
           obtain ⟨ad202, e202, hx202_0, hx202_1, hx202_2, hx202_3⟩ := at_T53 HR0.out x6_2 p202 q202
           cases e202
           replace hx202_0 := (HB.out.cell (World.block_lt_of_cell? w _ hx202_0)).trans hx202_0
           replace hx202_1 := (HB.out.cell (World.block_lt_of_cell? w _ hx202_1)).trans hx202_1
           replace hx202_2 := (HB.out.cell (World.block_lt_of_cell? w _ hx202_2)).trans hx202_2
           replace hx202_3 := (HB.out.cell (World.block_lt_of_cell? w _ hx202_3)).trans hx202_3
           replace p202 := eq_true p202
           replace q202 := eq_true q202
           go_wp2_with (first | ((with_reducible refine gate_callee (f := 38) rfl ?_); refine goesL_ (some 33) rfl rfl Try.func38 (by kernel_rfl) rfl #[.agg #[.int .i64 ((rd_T53 l0 x6_2).f0), .int .i64 ((rd_T53 l0 x6_2).f1), .int .i64 ((rd_T53 l0 x6_2).f2), .int .i64 ((rd_T53 l0 x6_2).f3)]] rfl zq6 ?_; (with_reducible refine (laws_toTerm.calls ((rd_T53 l0 x6_2).f0) ((rd_T53 l0 x6_2).f1) ((rd_T53 l0 x6_2).f2) ((rd_T53 l0 x6_2).f3) t203 t204 t205 t206 _ A14.out).mono ?_); rintro e w17 ⟨rfl, hb⟩; refine ⟨_, rfl, ?_⟩; replace HO_5 := Aside0.mk (Kd.R_below (zq3 HO_5) hb); replace HB := Aside0.mk (below_step (zb0 HB) hb); (try clear hb); (try clear hb2); (try clear hk); (try clear hi); have p16 : 0 ≤ (x6_2 : Int) := of_decide_eq_true (by first | (with_reducible assumption) | assumption); have q16 : (x6_2 : Int) < ((x5_2.length : Int) : Int) := of_decide_eq_true (by first | (with_reducible assumption) | assumption); obtain ⟨go16, co16, eo16, gb16, gl16, cl16, HG16⟩ := Kd.R_form HO_5.out (by omega); (first | cases eo16 | (injection eo16 with ea_ en_ ec_; (first | subst ea_ | (injection ea_ with ea_; subst ea_)); subst ec_; clear en_)); have GB16 := Aside0.mk gb16; have GG16 := Aside0.mk HG16; clear gb16 gl16 HG16; obtain ⟨ce16, hcl16, hM16, hcc16, hfr16⟩ := Kd.R_elem HO_5.out z51 (x6_2 : Int) p16 q16; obtain rfl := k51_openM hM16; have hx16_0 : w17.cell? ⟨go16, (x6_2 : Int).toNat * 4, none⟩ = some (.int .i64 ((rd_T51 x5_2 x6_2).f0)) := hcc16 0 _ rfl; have hx16_1 : w17.cell? ⟨go16, (x6_2 : Int).toNat * 4 + 1, none⟩ = some (.int .i64 ((rd_T51 x5_2 x6_2).f1)) := hcc16 1 _ rfl; have hx16_2 : w17.cell? ⟨go16, (x6_2 : Int).toNat * 4 + 2, none⟩ = some (.int .i64 ((rd_T51 x5_2 x6_2).f2)) := hcc16 2 _ rfl; have hx16_3 : w17.cell? ⟨go16, (x6_2 : Int).toNat * 4 + 3, none⟩ = some (.int .i64 ((rd_T51 x5_2 x6_2).f3)) := hcc16 3 _ rfl; have hf16_0 : w17.frozen? ⟨go16, (x6_2 : Int).toNat * 4, none⟩ = false := hfr16 0; have hf16_1 : w17.frozen? ⟨go16, (x6_2 : Int).toNat * 4 + 1, none⟩ = false := hfr16 1; have hf16_2 : w17.frozen? ⟨go16, (x6_2 : Int).toNat * 4 + 2, none⟩ = false := hfr16 2; have hf16_3 : w17.frozen? ⟨go16, (x6_2 : Int).toNat * 4 + 3, none⟩ = false := hfr16 3; clear hcl16 hcc16 hfr16 hM16; replace p16 := eq_true p16; replace q16 := eq_true q16; have HX18 := Aside0.mk (show Kd.R k51 51 w17 w.heap.size (fun _ => True) (.slice (some ⟨go16, 0, none⟩) x5_2.length co16) x5_2 from (zq3 HO_5)); obtain ⟨ce18, hcl18, hM18, hcc18, hfr18⟩ := Kd.R_elem HX18.out z51 (x6_2 : Int) (of_decide_eq_true (by first | (with_reducible assumption) | assumption)) (by have h_ : (x6_2 : Int) < ((x5_2.length : Int) : Int) := of_decide_eq_true (by first | (with_reducible assumption) | assumption); first | exact h_ | (have e_ := (Kd.R_reads' HO_5.out).1; omega) | simpa using h_); obtain rfl := k51_openM hM18; have HP18 := Kd.R_seg HX18.out (x6_2 : Int) (of_decide_eq_true (by first | (with_reducible assumption) | assumption)) (by have h_ : (x6_2 : Int) < ((x5_2.length : Int) : Int) := of_decide_eq_true (by first | (with_reducible assumption) | assumption); first | exact h_ | (have e_ := (Kd.R_reads' HO_5.out).1; omega) | simpa using h_) (seg := [.int .i64 t203, .int .i64 t204, .int .i64 t205, .int .i64 t206]) (j := 0) hcl18 hcc18 (show 4 ≤ 4 from by decide) (x' := (⟨t203, t204, t205, t206⟩ : S51)) (k51_mkM _ _ _ (⟨t203, t204, t205, t206⟩ : S51) ) (fun _ hk => hk); have hx18_0 := hcc18 0 _ rfl; (try simp only [show (k51).sz = 4 from rfl, Nat.mul_one, Nat.add_zero] at hx18_0); have hf18_0 := hfr18 0; (try simp only [show (k51).sz = 4 from rfl, Nat.mul_one, Nat.add_zero] at hf18_0); have hx18_1 := hcc18 1 _ rfl; (try simp only [show (k51).sz = 4 from rfl, Nat.mul_one, Nat.add_zero] at hx18_1); have hf18_1 := hfr18 1; (try simp only [show (k51).sz = 4 from rfl, Nat.mul_one, Nat.add_zero] at hf18_1); have hx18_2 := hcc18 2 _ rfl; (try simp only [show (k51).sz = 4 from rfl, Nat.mul_one, Nat.add_zero] at hx18_2); have hf18_2 := hfr18 2; (try simp only [show (k51).sz = 4 from rfl, Nat.mul_one, Nat.add_zero] at hf18_2); have hx18_3 := hcc18 3 _ rfl; (try simp only [show (k51).sz = 4 from rfl, Nat.mul_one, Nat.add_zero] at hx18_3); have hf18_3 := hfr18 3; (try simp only [show (k51).sz = 4 from rfl, Nat.mul_one, Nat.add_zero] at hf18_3); clear hcl18 hcc18 hfr18 hM18) | ((with_reducible refine gate_store (t := 51) (p := 34) rfl ?_); refine store_event (t := 51) (p := 34) (v := ?vo_w19) (w1 := ((((w17.setCell ⟨go16, (x6_2 : Int).toNat * 4, none⟩ (.int .i64 t203)).setCell ⟨go16, (x6_2 : Int).toNat * 4 + 1, none⟩ (.int .i64 t204)).setCell ⟨go16, (x6_2 : Int).toNat * 4 + 2, none⟩ (.int .i64 t205)).setCell ⟨go16, (x6_2 : Int).toNat * 4 + 3, none⟩ (.int .i64 t206))) ?hg ?ho ?hn ?hr ?_; (case ho => rfl); (case hg => rfl); (case hn => rfl); (case hr => first | (go_simp; done) | (go_simp; rfl)); intro w19 hw; have hg : w17.grownBy w19 (some go16) := (by rw [hw]; exact HP18.2); have hp_ : Kd.R k51 51 w19 w.heap.size (fun _ => True) (.slice (some ⟨go16, 0, none⟩) x5_2.length co16) y207 := (by rw [hw, Ny207.out]; exact HP18.1); clear HP18; replace HO_5 := Aside0.mk (hp_); replace HB := Aside0.mk ((by rw [hw]; exact below_set (below_set (below_set (below_set (HB.out) GB16.out) GB16.out) GB16.out) GB16.out : Below w.heap.size w w19)); clear hg hw hp_))
           go_roundg k2
           case measure => have := HJ2.out; have := HK2.out; omega
           case rel => exact ⟨(y207), (wrap64 (x6_2 + 1)), (by first | rfl | (simp; done) | (simp [*]; done)), H', ⟨by have := HJ2.out; have := HK2.out; omega⟩, ⟨by (with_reducible repeat (first | apply Kd.R_alloc | apply Kd.R_drewN | apply Kd.R_drew)); exact HO_5.out⟩, ⟨(zb0 HB)⟩, ⟨Cop.stepC HCF.out (of_decide_eq_true c12b0) (by rw [Ny207.out]; have h_ := Option.some.inj (show some _ = some _ from A14.out); simp only [Prod.mk.injEq] at h_; obtain ⟨h0_, h1_, h2_, h3_⟩ := h_; rw [← h0_, ← h1_, ← h2_, ← h3_]; rfl)⟩⟩
          ·
           rw [if_neg c15] at H
           exact absurd H (by simp)
         ·
          rw [if_neg c13] at H
          exact absurd H (by simp)
        ·
         rw [if_neg c12] at H
         have c12b0 : decide (x6_2 < (l0.length : Int)) = false := decide_eq_false c12
         clear c12
         have H' := Aside0.mk H
         clear H
         go_wp2
         go_loopg [7] k2 (fun kq v7 w' => ∃ (x5_3 : List (S51)) (x7_3 : Int), v7 = .int .i64 x7_3 ∧ Aside0 (laws_toTermS.l1 kq l0 x5_3 x7_3 = some r) ∧ Aside0 (kq ≤ k2) ∧ Aside0 (Kd.R k51 51 w' w.heap.size (fun _ => True) v200 x5_3) ∧ Aside0 (Below w.heap.size w w') ∧ Aside0 (Fil filk51 (l0.map (fun t => (⟨t.f0, t.f1, t.f2, t.f3⟩ : S51))) x5_3 x7_3))
         case atStart => exact ⟨(x5_2), ((l0.length : Int)), (by first | rfl | (simp; done) | (simp [*]; done)), H', ⟨Nat.le_refl _⟩, ⟨by (with_reducible repeat (first | apply Kd.R_alloc | apply Kd.R_drewN | apply Kd.R_drew)); exact HO_5.out⟩, ⟨(zb0 HB)⟩, ⟨Cop.filC HCF.out (of_decide_eq_false c12b0)⟩⟩
         case round =>
          clear H'
          try clear c1
          try clear p1
          try clear q1
          try clear hx1
          try clear p2
          try clear q2
          try clear hx2
          try clear c3
          try clear c4
          try clear c5
          try clear p6
          try clear c7
          try clear c8
          try clear c8b0
          try clear c8b1
          try clear c9
          try clear c9b0
          try clear c9b1
          try clear c12
          try clear c12b0
          try clear c13
          try clear c13b0
          try clear c15
          try clear c15b0
          try clear c16
          try clear p16
          try clear q16
          try clear hx16
          try clear hf16
          try clear c18
          try clear hx18
          try clear hf18
          try clear hx16_0
          try clear hx16_1
          try clear hx16_2
          try clear hx16_3
          try clear hx18_0
          try clear hx18_1
          try clear hx18_2
          try clear hx18_3
          try clear hx202_0
          try clear hx202_1
          try clear hx202_2
          try clear hx202_3
          try clear p16
          try clear p2
          try clear p202
          try clear p6
          try clear q16
          try clear q202
          obtain ⟨x5_3, x7_3, rfl, HA, HK3, HO_5, HB, HCF⟩ := hrel
          cases gk with
          | zero => exact absurd HA.out (by simp [laws_toTermS.l1])
          | succ k3 =>
           have H := HA.out
           clear HA
           simp only [laws_toTermS.l1] at H
           by_cases c20 : x7_3 < (x5_3.length : Int)
           ·
            rw [if_pos c20] at H
            have c20b0 : decide (x7_3 < (x5_3.length : Int)) = true := decide_eq_true c20
            clear c20
            replace H := Option.bind_eq_some_iff.mp H
            obtain ⟨⟨t208, t209, t210, t211⟩, A210, H⟩ := H
            replace H : (if 0 ≤ x7_3 then (laws_toTermS.l1 k3 l0 (x5_3.set (x7_3 : Int).toNat (⟨t208, t209, t210, t211⟩ : S51)) (wrap64 (x7_3 + 1))) else (none)) = some r := H
            have A21 := Aside0.mk A210
            clear A210
            by_cases c22 : 0 ≤ x7_3
            ·
             rw [if_pos c22] at H
             have c22b0 : decide (0 ≤ x7_3) = true := decide_eq_true c22
             clear c22
             obtain ⟨y212, hy212⟩ : ∃ y_ : List (S51), y_ = (x5_3.set (x7_3 : Int).toNat (⟨t208, t209, t210, t211⟩ : S51)) := ⟨_, rfl⟩
             replace H : (laws_toTermS.l1 k3 l0 y212 (wrap64 (x7_3 + 1))) = some r := by first | (rw [hy212]; with_reducible exact H) | (have H2_ := (Option.bind_some _ _).symm.trans H; rw [hy212]; with_reducible exact H2_) | (have H2_ := (Option.bind_some _ _).symm.trans H; with_reducible exact H2_) | with_reducible exact H | (rw [hy212]; exact H) | exact H
             have Ny212 := Aside0.mk hy212
             clear hy212
             have H' := Aside0.mk H
             clear H
             obtain ⟨Ao24, co24, eo24⟩ := Kd.R_slice HO_5.out
             subst eo24
             go_wp2_with (first | ((with_reducible refine gate_callee (f := 39) rfl ?_); refine goesL_ (some 45) rfl rfl Try.func39 (by kernel_rfl) rfl #[] rfl zq6 ?_; (with_reducible refine (laws_fillerTerm.calls  t208 t209 t210 t211 _ A21.out).mono ?_); rintro e w25 ⟨rfl, hb⟩; refine ⟨_, rfl, ?_⟩; replace HO_5 := Aside0.mk (Kd.R_below (zq3 HO_5) hb); replace HB := Aside0.mk (below_step (zb0 HB) hb); (try clear hb); (try clear hb2); (try clear hk); (try clear hi); have p23 : 0 ≤ (x7_3 : Int) := of_decide_eq_true (by first | (with_reducible assumption) | assumption); have q23 : (x7_3 : Int) < ((x5_3.length : Int) : Int) := of_decide_eq_true (by first | (with_reducible assumption) | assumption); obtain ⟨go23, co23, eo23, gb23, gl23, cl23, HG23⟩ := Kd.R_form HO_5.out (by omega); (first | cases eo23 | (injection eo23 with ea_ en_ ec_; (first | subst ea_ | (injection ea_ with ea_; subst ea_)); subst ec_; clear en_)); have GB23 := Aside0.mk gb23; have GG23 := Aside0.mk HG23; clear gb23 gl23 HG23; obtain ⟨ce23, hcl23, hM23, hcc23, hfr23⟩ := Kd.R_elem HO_5.out z51 (x7_3 : Int) p23 q23; obtain rfl := k51_openM hM23; have hx23_0 : w25.cell? ⟨go23, (x7_3 : Int).toNat * 4, none⟩ = some (.int .i64 ((rd_T51 x5_3 x7_3).f0)) := hcc23 0 _ rfl; have hx23_1 : w25.cell? ⟨go23, (x7_3 : Int).toNat * 4 + 1, none⟩ = some (.int .i64 ((rd_T51 x5_3 x7_3).f1)) := hcc23 1 _ rfl; have hx23_2 : w25.cell? ⟨go23, (x7_3 : Int).toNat * 4 + 2, none⟩ = some (.int .i64 ((rd_T51 x5_3 x7_3).f2)) := hcc23 2 _ rfl; have hx23_3 : w25.cell? ⟨go23, (x7_3 : Int).toNat * 4 + 3, none⟩ = some (.int .i64 ((rd_T51 x5_3 x7_3).f3)) := hcc23 3 _ rfl; have hf23_0 : w25.frozen? ⟨go23, (x7_3 : Int).toNat * 4, none⟩ = false := hfr23 0; have hf23_1 : w25.frozen? ⟨go23, (x7_3 : Int).toNat * 4 + 1, none⟩ = false := hfr23 1; have hf23_2 : w25.frozen? ⟨go23, (x7_3 : Int).toNat * 4 + 2, none⟩ = false := hfr23 2; have hf23_3 : w25.frozen? ⟨go23, (x7_3 : Int).toNat * 4 + 3, none⟩ = false := hfr23 3; clear hcl23 hcc23 hfr23 hM23; replace p23 := eq_true p23; replace q23 := eq_true q23; have HX26 := Aside0.mk (show Kd.R k51 51 w25 w.heap.size (fun _ => True) (.slice (some ⟨go23, 0, none⟩) x5_3.length co24) x5_3 from (zq3 HO_5)); obtain ⟨ce26, hcl26, hM26, hcc26, hfr26⟩ := Kd.R_elem HX26.out z51 (x7_3 : Int) (of_decide_eq_true (by first | (with_reducible assumption) | assumption)) (by have h_ : (x7_3 : Int) < ((x5_3.length : Int) : Int) := of_decide_eq_true (by first | (with_reducible assumption) | assumption); first | exact h_ | (have e_ := (Kd.R_reads' HO_5.out).1; omega) | simpa using h_); obtain rfl := k51_openM hM26; have HP26 := Kd.R_seg HX26.out (x7_3 : Int) (of_decide_eq_true (by first | (with_reducible assumption) | assumption)) (by have h_ : (x7_3 : Int) < ((x5_3.length : Int) : Int) := of_decide_eq_true (by first | (with_reducible assumption) | assumption); first | exact h_ | (have e_ := (Kd.R_reads' HO_5.out).1; omega) | simpa using h_) (seg := [.int .i64 t208, .int .i64 t209, .int .i64 t210, .int .i64 t211]) (j := 0) hcl26 hcc26 (show 4 ≤ 4 from by decide) (x' := (⟨t208, t209, t210, t211⟩ : S51)) (k51_mkM _ _ _ (⟨t208, t209, t210, t211⟩ : S51) ) (fun _ hk => hk); have hx26_0 := hcc26 0 _ rfl; (try simp only [show (k51).sz = 4 from rfl, Nat.mul_one, Nat.add_zero] at hx26_0); have hf26_0 := hfr26 0; (try simp only [show (k51).sz = 4 from rfl, Nat.mul_one, Nat.add_zero] at hf26_0); have hx26_1 := hcc26 1 _ rfl; (try simp only [show (k51).sz = 4 from rfl, Nat.mul_one, Nat.add_zero] at hx26_1); have hf26_1 := hfr26 1; (try simp only [show (k51).sz = 4 from rfl, Nat.mul_one, Nat.add_zero] at hf26_1); have hx26_2 := hcc26 2 _ rfl; (try simp only [show (k51).sz = 4 from rfl, Nat.mul_one, Nat.add_zero] at hx26_2); have hf26_2 := hfr26 2; (try simp only [show (k51).sz = 4 from rfl, Nat.mul_one, Nat.add_zero] at hf26_2); have hx26_3 := hcc26 3 _ rfl; (try simp only [show (k51).sz = 4 from rfl, Nat.mul_one, Nat.add_zero] at hx26_3); have hf26_3 := hfr26 3; (try simp only [show (k51).sz = 4 from rfl, Nat.mul_one, Nat.add_zero] at hf26_3); clear hcl26 hcc26 hfr26 hM26) | ((with_reducible refine gate_store (t := 51) (p := 46) rfl ?_); refine store_event (t := 51) (p := 46) (v := ?vo_w27) (w1 := ((((w25.setCell ⟨go23, (x7_3 : Int).toNat * 4, none⟩ (.int .i64 t208)).setCell ⟨go23, (x7_3 : Int).toNat * 4 + 1, none⟩ (.int .i64 t209)).setCell ⟨go23, (x7_3 : Int).toNat * 4 + 2, none⟩ (.int .i64 t210)).setCell ⟨go23, (x7_3 : Int).toNat * 4 + 3, none⟩ (.int .i64 t211))) ?hg ?ho ?hn ?hr ?_; (case ho => rfl); (case hg => rfl); (case hn => rfl); (case hr => first | (go_simp; done) | (go_simp; rfl)); intro w27 hw; have hg : w25.grownBy w27 (some go23) := (by rw [hw]; exact HP26.2); have hp_ : Kd.R k51 51 w27 w.heap.size (fun _ => True) (.slice (some ⟨go23, 0, none⟩) x5_3.length co24) y212 := (by rw [hw, Ny212.out]; exact HP26.1); clear HP26; replace HO_5 := Aside0.mk (hp_); replace HB := Aside0.mk ((by rw [hw]; exact below_set (below_set (below_set (below_set (HB.out) GB23.out) GB23.out) GB23.out) GB23.out : Below w.heap.size w w27)); clear hg hw hp_))
             go_roundg k3
             case measure => have := HJ2.out; have := HK2.out; have := HK3.out; omega
             case rel => exact ⟨(y212), (wrap64 (x7_3 + 1)), (by first | rfl | (simp; done) | (simp [*]; done)), H', ⟨by have := HJ2.out; have := HK2.out; have := HK3.out; omega⟩, ⟨by (with_reducible repeat (first | apply Kd.R_alloc | apply Kd.R_drewN | apply Kd.R_drew)); exact HO_5.out⟩, ⟨(zb0 HB)⟩, ⟨Fil.step HCF.out (of_decide_eq_true c20b0) (by rw [Ny212.out]; have h_ := Option.some.inj (show some _ = some _ from A21.out); simp only [Prod.mk.injEq] at h_; obtain ⟨h0_, h1_, h2_, h3_⟩ := h_; rw [← h0_, ← h1_, ← h2_, ← h3_]; rfl)⟩⟩
            ·
             rw [if_neg c22] at H
             exact absurd H (by simp)
           ·
            rw [if_neg c20] at H
            have c20b0 : decide (x7_3 < (x5_3.length : Int)) = false := decide_eq_false c20
            clear c20
            by_cases c28 : 0 ≤ (l0.length : Int)
            ·
             rw [if_pos c28] at H
             have c28b0 := eq_true c28
             have c28b1 : decide (0 ≤ (l0.length : Int)) = true := decide_eq_true c28
             clear c28
             by_cases c29 : (l0.length : Int) ≤ (x5_3.length : Int)
             ·
              rw [if_pos c29] at H
              have c29b0 := eq_true c29
              have c29b1 : decide ((l0.length : Int) ≤ (x5_3.length : Int)) = true := decide_eq_true c29
              clear c29
              obtain ⟨y213, hy213⟩ : ∃ y_ : List (S51), y_ = (x5_3.take ((l0.length : Int) : Int).toNat) := ⟨_, rfl⟩
              replace H : (some y213) = some r := by first | (rw [hy213]; with_reducible exact H) | (have H2_ := (Option.bind_some _ _).symm.trans H; rw [hy213]; with_reducible exact H2_) | (have H2_ := (Option.bind_some _ _).symm.trans H; with_reducible exact H2_) | with_reducible exact H | (rw [hy213]; exact H) | exact H
              have Ny213 := Aside0.mk hy213
              clear hy213
              obtain rfl := Option.some.inj H
              obtain ⟨Ao30, co30, eo30⟩ := Kd.R_slice HO_5.out
              subst eo30
              have q31 : ((l0.length : Int) : Int) ≤ ((x5_3.length : Int) : Int) := of_decide_eq_true (by first | (with_reducible assumption) | assumption)
              obtain ⟨i031, hi031, _, hsz31, _⟩ := info_parts info51
              have hcut31 := cut_to (P := Try.prog) 25 51 .i64 Try.underlying25 hi031 Ao30 x5_3.length co30 (l0.length : Int) (of_decide_eq_true (by first | (with_reducible assumption) | assumption)) q31 (Kd.R_reads' HO_5.out).2.1
              have hr31 := Kd.R_take (m := ((l0.length : Int) : Int).toNat) HO_5.out (by omega)
              have hy31 : y213.length = ((l0.length : Int) : Int).toNat := (by rw [Ny213.out, List.length_take]; omega)
              rw [← Ny213.out] at hr31
              rw [← hy31] at hr31 hcut31
              have HFUL := Aside0.mk (R_relen HO_5.out rfl (Fil.doneC (b := a1) HCF.out (of_decide_eq_false c20b0) Ny213.out (fun h_ => absurd HFA.out (by rw [h_.1, h_.2]; decide))).2)
              clear hy31 hi031 hsz31 HO_5
              have HO215 := Aside0.mk hr31
              clear hr31
              replace q31 := eq_true q31
              go_wp2
              go_ret
              exact ⟨_, by first | rfl | (simp [errW_none, errW_some] <;> rfl) | (simp only [← hji7]; first | rfl | (simp [errW_none, errW_some] <;> rfl)) | (simp [*, errW_none, errW_some] <;> rfl), by (with_reducible repeat (first | apply Kd.R_alloc | apply Kd.R_drewN | apply Kd.R_drew)); exact HO215.out, (zb0 HB), by (with_reducible repeat (first | apply Kd.R_alloc | apply Kd.R_drewN | apply Kd.R_drew)); exact HFUL.out _⟩
             ·
              rw [if_neg c29] at H
              exact absurd H (by simp)
            ·
             rw [if_neg c28] at H
             exact absurd H (by simp)
     ·
      rw [if_neg c9] at H
      exact absurd H (by simp)
    ·
     rw [if_neg c8] at H
     exact absurd H (by simp)
end Go.Proofs.Ythanmlojikidbaa.PD
