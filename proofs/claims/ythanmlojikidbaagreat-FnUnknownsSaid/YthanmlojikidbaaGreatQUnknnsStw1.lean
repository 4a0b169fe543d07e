import Derived.Test.YthanmlojikidbaaGreatProg
import Derived.Test.YthanmlojikidbaaGreatQUnknnsSta
import Derived.Test.YthanmlojikidbaaGreatQUnknnsStw0
import Derived.Shelf.SlSortCmp.KitK
import Derived.Sort.WalkB2
import Derived.Sort.WalkB12
import Derived.Deep.LoopGhost
import Derived.Deep.DeepCutAuto
/- slices.stableCmpFunc's family at []impl.Term, walked: from a world of the sort's to a world of the sort's; what the row holds in the end is a sorted permutation of what it held.
   Conditions: the comparison's own contract (CmpLays), fewer than 2^62 elements. -/
namespace Go.Proofs.YthanmlojikidbaaGreatStw1
open Go Go.Proofs Go.Shelf Go.RowKit Go.Lib Go.Sort Go.Proofs.YthanmlojikidbaaGreatSta Go.Proofs.YthanmlojikidbaaGreatStw0
set_option maxHeartbeats 16000000 in
set_option maxRecDepth 1000000 in
theorem symUp {α : Type} [Inhabited α] (k : Nat) (aE : ∀ w, (isAgg 62).run Tryz.prog w = .ok true w) (zE : ∀ w, (Go.sizeOf 62).run Tryz.prog w = .ok k w) (enc : α → List Value) (cf : α → α → Int) (hS : SWO (ltOf cf)) (g : Nat) (cb : Array Value) (blk off cap : Nat) (d0 : Array α) (w0 : World) (eg : ∀ args w, (callFunc g args).run Tryz.prog w = .ok (.enter g args) w) (hcmp : CmpLays Tryz.prog g cb enc k cf blk off d0.size w0) (R : RowK enc k w0 blk off d0) (a m b : Nat) (d : Array α) (w : World) (hs : d0.size = d.size) (S : SWK enc k w0 blk off d w) (_ham : a < m) (hmb : m < b) (hb : b ≤ d.size) (hsz : d.size < 4611686018427387904) (hsl : SortedIn (ltOf cf) a m d) (hsr : SortedIn (ltOf cf) m b d) (c1 : m = a + 1) :
    Calls Tryz.prog 102 #[.slice (some ⟨blk, off, none⟩) d.size cap, .int .i64 a, .int .i64 m, .int .i64 b, .func (.func g) #[] cb] w fun e w' => e = .returned (.tuple #[]) ∧ ∃ d', PermIn a b d d' ∧ SortedIn (ltOf cf) a b d' ∧ SWK enc k w0 blk off d' w' := by
  have mixed : Tryz.prog.follows .mixedOrders = true := by kernel_rfl
  have t_0 := Tryz.underlying0; have a_0 := Tryz.isAgg0; have z_0 := Tryz.sizeOf0; have v_0 := Tryz.zeroValue0
  have t_1 := Tryz.underlying3; have a_1 := Tryz.isAgg3; have z_1 := Tryz.sizeOf3; have v_1 := Tryz.zeroValue3
  have t_2 := Tryz.underlying4; have a_2 := Tryz.isAgg4; have z_2 := Tryz.sizeOf4; have v_2 := Tryz.zeroValue4
  have t_3 := Tryz.underlying24; have a_3 := Tryz.isAgg24; have z_3 := Tryz.sizeOf24; have v_3 := Tryz.zeroValue24
  have t_4 := Tryz.underlying80; have a_4 := Tryz.isAgg80; have z_4 := Tryz.sizeOf80; have v_4 := Tryz.zeroValue80
  have u_3 := run_underlying Tryz.underlying24
  have HC : Aside _ := hcmp
  have HSW : Aside _ := hS
  have S0 : Aside (SWK enc k w0 blk off d w) := S
  have SL : Aside (SortedIn (ltOf cf) a m d) := hsl
  have SR : Aside (SortedIn (ltOf cf) m b d) := hsr
  clear hcmp hS S hsl hsr
  have C1 : Hid (m = a + 1) := c1
  have q1 : (m : Int) - (a : Int) = 1 := by omega
  clear c1
  go_enter Tryz.func102, Tryz.ntmps102
  go_wp2_with fail
  go_loopg [10, 11] (b - m) (fun kx s10 s11 wr => ∃ (i j : Nat), s10 = .int .i64 i ∧ s11 = .int .i64 j ∧ m ≤ i ∧ i ≤ j ∧ j ≤ b ∧ j - i ≤ kx ∧ Aside (SWK enc k w0 blk off d wr) ∧ Hid ((i = m ∨ ltOf cf d[i - 1]! d[a]! = true) ∧ (j = b ∨ ltOf cf d[j]! d[a]! = false)))
  case atStart => exact ⟨m, b, rfl, rfl, by omega, by omega, by omega, by omega, S0, (⟨Or.inl rfl, Or.inl rfl⟩ : (m = m ∨ ltOf cf d[m - 1]! d[a]! = true) ∧ (b = b ∨ ltOf cf d[b]! d[a]! = false))⟩
  case round =>
    clear S0
    obtain ⟨i, j, rfl, rfl, hmi, hij, hjb, hkx, S1, HE⟩ := hrel
    by_cases hlt : i < j
    · have hltz : (i : Int) < (j : Int) := by omega
      cases hlv : ltOf cf d[(i + j) / 2]! d[a]! with
      | true =>
        have ea1 : (((i : Int) + (j : Int)) / 2).toNat = (i + j) / 2 := by omega
        have pa1 : (0 : Int) ≤ ((i : Int) + (j : Int)) / 2 := by omega
        have ba1 : ((i : Int) + (j : Int)) / 2 < (d.size : Int) := by omega
        have ra1 : IntKind.i64.wrap (((i : Int) + (j : Int)) / 2) = ((i : Int) + (j : Int)) / 2 := by rw [IntKind.wrap_i64]; omega
        have ec1 : ((a : Int)).toNat = a := by omega
        have pc1 : (0 : Int) ≤ (a : Int) := by omega
        have bc1 : (a : Int) < (d.size : Int) := by omega
        have rc1 : IntKind.i64.wrap ((a : Int)) = (a : Int) := by rw [IntKind.wrap_i64]; omega
        obtain ⟨x1, hx1⟩ : ∃ x, x = d[(i + j) / 2]! := ⟨_, rfl⟩
        obtain ⟨y1, hy1⟩ : ∃ x, x = d[a]! := ⟨_, rfl⟩
        have l1a := S1.out.ld R (by omega) Tryz.prog ((i + j) / 2) (by omega)
        have l1b := S1.out.ld R (by omega) Tryz.prog (a) (by omega)
        rw [← hx1] at l1a
        rw [← hy1] at l1b
        have hc1 := S1.out.cmp HC.out (by omega) x1 y1
        have hv1 : cf x1 y1 < 0 := by rw [hx1, hy1]; exact of_decide_eq_true hlv
        have hd1 : decide (cf x1 y1 < 0) = true := decide_eq_true hv1
        clear hx1 hy1
        go_wp2_with fail
        go_quiet_grown (first | (go_at_fn g; refine Calls.grown_of (hc1 _ _)))
        have S2 : Aside (SWK enc k w0 blk off d (grow (wr.drewN nq) osq)) := S1.out.grown nq osq
        clear l1a l1b hc1 S1
        generalize grow (wr.drewN nq) osq = w2 at S2 ⊢
        clear nq osq
        go_wp2
        go_roundg (j - ((i + j) / 2 + 1))
        case measure => omega
        case rel => exact ⟨(i + j) / 2 + 1, j, by rw [show ((i : Int) + (j : Int)) / 2 + 1 = (((i + j) / 2 + 1 : Nat) : Int) by omega], rfl, by omega, by omega, hjb, Nat.le_refl _, S2, (⟨Or.inr hlv, HE.out.2⟩ : ((i + j) / 2 + 1 = m ∨ ltOf cf d[(i + j) / 2 + 1 - 1]! d[a]! = true) ∧ (j = b ∨ ltOf cf d[j]! d[a]! = false))⟩
      | false =>
        have ea1 : (((i : Int) + (j : Int)) / 2).toNat = (i + j) / 2 := by omega
        have pa1 : (0 : Int) ≤ ((i : Int) + (j : Int)) / 2 := by omega
        have ba1 : ((i : Int) + (j : Int)) / 2 < (d.size : Int) := by omega
        have ra1 : IntKind.i64.wrap (((i : Int) + (j : Int)) / 2) = ((i : Int) + (j : Int)) / 2 := by rw [IntKind.wrap_i64]; omega
        have ec1 : ((a : Int)).toNat = a := by omega
        have pc1 : (0 : Int) ≤ (a : Int) := by omega
        have bc1 : (a : Int) < (d.size : Int) := by omega
        have rc1 : IntKind.i64.wrap ((a : Int)) = (a : Int) := by rw [IntKind.wrap_i64]; omega
        obtain ⟨x1, hx1⟩ : ∃ x, x = d[(i + j) / 2]! := ⟨_, rfl⟩
        obtain ⟨y1, hy1⟩ : ∃ x, x = d[a]! := ⟨_, rfl⟩
        have l1a := S1.out.ld R (by omega) Tryz.prog ((i + j) / 2) (by omega)
        have l1b := S1.out.ld R (by omega) Tryz.prog (a) (by omega)
        rw [← hx1] at l1a
        rw [← hy1] at l1b
        have hc1 := S1.out.cmp HC.out (by omega) x1 y1
        have hv1 : ¬ cf x1 y1 < 0 := by rw [hx1, hy1]; exact of_decide_eq_false hlv
        have hd1 : decide (cf x1 y1 < 0) = false := decide_eq_false hv1
        clear hx1 hy1
        go_wp2_with fail
        go_quiet_grown (first | (go_at_fn g; refine Calls.grown_of (hc1 _ _)))
        have S2 : Aside (SWK enc k w0 blk off d (grow (wr.drewN nq) osq)) := S1.out.grown nq osq
        clear l1a l1b hc1 S1
        generalize grow (wr.drewN nq) osq = w2 at S2 ⊢
        clear nq osq
        go_wp2
        go_roundg ((i + j) / 2 - i)
        case measure => omega
        case rel => exact ⟨i, (i + j) / 2, rfl, by rw [show ((i : Int) + (j : Int)) / 2 = (((i + j) / 2 : Nat) : Int) by omega], hmi, by omega, by omega, Nat.le_refl _, S2, (⟨HE.out.1, Or.inr hlv⟩ : (i = m ∨ ltOf cf d[i - 1]! d[a]! = true) ∧ ((i + j) / 2 = b ∨ ltOf cf d[(i + j) / 2]! d[a]! = false))⟩
    · have hltz : ¬ (i : Int) < (j : Int) := by omega
      obtain rfl : i = j := by omega
      go_wp2
      go_loopg [13] (i - 1 - a) (fun kx s13 wr2 => ∃ (t : Nat) (dk : Array α), s13 = .int .i64 t ∧ a ≤ t ∧ t ≤ i - 1 ∧ i - 1 - t ≤ kx ∧ dk.size = d.size ∧ Aside (SWK enc k w0 blk off dk wr2) ∧ Aside (Up d a b t dk))
      case atStart => exact ⟨a, d, rfl, Nat.le_refl _, by omega, by omega, rfl, S1, Up.start d a b⟩
      case round =>
        clear S1
        obtain ⟨t, dk, rfl, hat, hti, hkx, hds, S1, HU⟩ := hrel
        by_cases hlt2 : t < i - 1
        · have hltz2 : (t : Int) < (i : Int) - 1 := by omega
          go_wp2_with fail
          have ea1 : ((t : Int)).toNat = t := by omega
          have pa1 : (0 : Int) ≤ (t : Int) := by omega
          have ba1 : (t : Int) < (d.size : Int) := by omega
          have ra1 : IntKind.i64.wrap ((t : Int)) = (t : Int) := by rw [IntKind.wrap_i64]; omega
          have ec1 : ((t : Int) + 1).toNat = t + 1 := by omega
          have pc1 : (0 : Int) ≤ (t : Int) + 1 := by omega
          have bc1 : (t : Int) + 1 < (d.size : Int) := by omega
          have rc1 : IntKind.i64.wrap ((t : Int) + 1) = (t : Int) + 1 := by rw [IntKind.wrap_i64]; omega
          have S2 : Aside (SWK enc k w0 blk off (Go.Sort.swp dk (t) (t + 1)) ((wr.drew.setCells blk (off + (t) * k) (enc dk[t + 1]!)).setCells blk (off + (t + 1) * k) (enc dk[t]!))) := S1.out.swapped R (t) (t + 1) (by omega) (by omega)
          have l1a := S1.out.ld1 R (by omega) Tryz.prog (t) (by omega)
          have l1b := S1.out.ld1 R (by omega) Tryz.prog (t + 1) (by omega)
          have s1a := S1.out.st1 R (by omega) Tryz.prog (t) (by omega) dk[t + 1]!
          have s1b := S1.out.st2 R (by omega) Tryz.prog (t) (t + 1) (by omega) (by omega) dk[t + 1]! dk[t]!
          have n1a : (enc dk[t]!).length = k := R.hk _
          have n1b : (enc dk[t + 1]!).length = k := R.hk _
          generalize enc dk[t]! = cI1 at S2 l1a s1b n1a
          generalize enc dk[t + 1]! = cJ1 at S2 l1b s1a s1b n1b
          clear S1
          go_wp2_with fail
          go_big_region_o
          clear l1a l1b s1a s1b
          generalize (wr.drew.setCells blk (off + (t) * k) cJ1).setCells blk (off + (t + 1) * k) cI1 = w2 at S2 ⊢
          go_wp2
          go_roundg (i - 1 - (t + 1))
          case measure => omega
          case rel => exact ⟨t + 1, Go.Sort.swp dk t (t + 1), by simp, by omega, by omega, Nat.le_refl _, by rw [size_swp]; exact hds, S2, HU.out.step hat (by omega) hb⟩
        · have hltz2 : ¬ (t : Int) < (i : Int) - 1 := by omega
          obtain rfl : t = i - 1 := by omega
          have hfin := Up.done HSW.out (by rw [← C1.out]; exact hmi) hjb HU.out (by rw [← C1.out]; exact SR.out) (by rw [← C1.out]; exact HE.out.1) HE.out.2
          have HF : Aside _ := hfin
          clear hfin
          go_wp2
          (try simp only [Exit.inBlock, Exit.then]); refine bodyPost_ret (results_none rfl _ _ _) rfl ?_
          exact ⟨rfl, dk, HF.out.1, HF.out.2, S1.out⟩
set_option maxHeartbeats 16000000 in
set_option maxRecDepth 1000000 in
theorem symDown {α : Type} [Inhabited α] (k : Nat) (aE : ∀ w, (isAgg 62).run Tryz.prog w = .ok true w) (zE : ∀ w, (Go.sizeOf 62).run Tryz.prog w = .ok k w) (enc : α → List Value) (cf : α → α → Int) (hS : SWO (ltOf cf)) (g : Nat) (cb : Array Value) (blk off cap : Nat) (d0 : Array α) (w0 : World) (eg : ∀ args w, (callFunc g args).run Tryz.prog w = .ok (.enter g args) w) (hcmp : CmpLays Tryz.prog g cb enc k cf blk off d0.size w0) (R : RowK enc k w0 blk off d0) (a m b : Nat) (d : Array α) (w : World) (hs : d0.size = d.size) (S : SWK enc k w0 blk off d w) (ham : a < m) (_hmb : m < b) (hb : b ≤ d.size) (hsz : d.size < 4611686018427387904) (hsl : SortedIn (ltOf cf) a m d) (hsr : SortedIn (ltOf cf) m b d) (c1 : ¬ m = a + 1) (c2 : b = m + 1) :
    Calls Tryz.prog 102 #[.slice (some ⟨blk, off, none⟩) d.size cap, .int .i64 a, .int .i64 m, .int .i64 b, .func (.func g) #[] cb] w fun e w' => e = .returned (.tuple #[]) ∧ ∃ d', PermIn a b d d' ∧ SortedIn (ltOf cf) a b d' ∧ SWK enc k w0 blk off d' w' := by
  have mixed : Tryz.prog.follows .mixedOrders = true := by kernel_rfl
  have t_0 := Tryz.underlying0; have a_0 := Tryz.isAgg0; have z_0 := Tryz.sizeOf0; have v_0 := Tryz.zeroValue0
  have t_1 := Tryz.underlying3; have a_1 := Tryz.isAgg3; have z_1 := Tryz.sizeOf3; have v_1 := Tryz.zeroValue3
  have t_2 := Tryz.underlying4; have a_2 := Tryz.isAgg4; have z_2 := Tryz.sizeOf4; have v_2 := Tryz.zeroValue4
  have t_3 := Tryz.underlying24; have a_3 := Tryz.isAgg24; have z_3 := Tryz.sizeOf24; have v_3 := Tryz.zeroValue24
  have t_4 := Tryz.underlying80; have a_4 := Tryz.isAgg80; have z_4 := Tryz.sizeOf80; have v_4 := Tryz.zeroValue80
  have u_3 := run_underlying Tryz.underlying24
  have HC : Aside _ := hcmp
  have HSW : Aside _ := hS
  have S0 : Aside (SWK enc k w0 blk off d w) := S
  have SL : Aside (SortedIn (ltOf cf) a m d) := hsl
  have SR : Aside (SortedIn (ltOf cf) m b d) := hsr
  clear hcmp hS S hsl hsr
  have C2 : Hid (b = m + 1) := c2
  have q1 : ¬ (m : Int) - (a : Int) = 1 := by omega
  have q1b : ((m : Int) - (a : Int) == 1) = false := beq_false_of_ne q1
  have q2 : (b : Int) - (m : Int) = 1 := by omega
  have hb2 : m < d.size := by omega
  clear c2
  go_enter Tryz.func102, Tryz.ntmps102
  go_wp2_with fail
  go_loopg [14, 15] (m - a) (fun kx s14 s15 wr => ∃ (i j : Nat), s14 = .int .i64 i ∧ s15 = .int .i64 j ∧ a ≤ i ∧ i ≤ j ∧ j ≤ m ∧ j - i ≤ kx ∧ Aside (SWK enc k w0 blk off d wr) ∧ Hid ((i = a ∨ ltOf cf d[m]! d[i - 1]! = false) ∧ (j = m ∨ ltOf cf d[m]! d[j]! = true)))
  case atStart => exact ⟨a, m, rfl, rfl, by omega, by omega, by omega, by omega, S0, (⟨Or.inl rfl, Or.inl rfl⟩ : (a = a ∨ ltOf cf d[m]! d[a - 1]! = false) ∧ (m = m ∨ ltOf cf d[m]! d[m]! = true))⟩
  case round =>
    clear S0
    obtain ⟨i, j, rfl, rfl, hmi, hij, hjb, hkx, S1, HE⟩ := hrel
    by_cases hlt : i < j
    · have hltz : (i : Int) < (j : Int) := by omega
      cases hlv : ltOf cf d[m]! d[(i + j) / 2]! with
      | false =>
        have ea1 : ((m : Int)).toNat = m := by omega
        have pa1 : (0 : Int) ≤ (m : Int) := by omega
        have ba1 : (m : Int) < (d.size : Int) := by omega
        have ra1 : IntKind.i64.wrap ((m : Int)) = (m : Int) := by rw [IntKind.wrap_i64]; omega
        have ec1 : (((i : Int) + (j : Int)) / 2).toNat = (i + j) / 2 := by omega
        have pc1 : (0 : Int) ≤ ((i : Int) + (j : Int)) / 2 := by omega
        have bc1 : ((i : Int) + (j : Int)) / 2 < (d.size : Int) := by omega
        have rc1 : IntKind.i64.wrap (((i : Int) + (j : Int)) / 2) = ((i : Int) + (j : Int)) / 2 := by rw [IntKind.wrap_i64]; omega
        obtain ⟨x1, hx1⟩ : ∃ x, x = d[m]! := ⟨_, rfl⟩
        obtain ⟨y1, hy1⟩ : ∃ x, x = d[(i + j) / 2]! := ⟨_, rfl⟩
        have l1a := S1.out.ld R (by omega) Tryz.prog (m) (by omega)
        have l1b := S1.out.ld R (by omega) Tryz.prog ((i + j) / 2) (by omega)
        rw [← hx1] at l1a
        rw [← hy1] at l1b
        have hc1 := S1.out.cmp HC.out (by omega) x1 y1
        have hv1 : ¬ cf x1 y1 < 0 := by rw [hx1, hy1]; exact of_decide_eq_false hlv
        have hd1 : decide (cf x1 y1 < 0) = false := decide_eq_false hv1
        clear hx1 hy1
        go_wp2_with fail
        go_quiet_grown (first | (go_at_fn g; refine Calls.grown_of (hc1 _ _)))
        have S2 : Aside (SWK enc k w0 blk off d (grow (wr.drewN nq) osq)) := S1.out.grown nq osq
        clear l1a l1b hc1 S1
        generalize grow (wr.drewN nq) osq = w2 at S2 ⊢
        clear nq osq
        go_wp2
        go_roundg (j - ((i + j) / 2 + 1))
        case measure => omega
        case rel => exact ⟨(i + j) / 2 + 1, j, by rw [show ((i : Int) + (j : Int)) / 2 + 1 = (((i + j) / 2 + 1 : Nat) : Int) by omega], rfl, by omega, by omega, hjb, Nat.le_refl _, S2, (⟨Or.inr hlv, HE.out.2⟩ : ((i + j) / 2 + 1 = a ∨ ltOf cf d[m]! d[(i + j) / 2 + 1 - 1]! = false) ∧ (j = m ∨ ltOf cf d[m]! d[j]! = true))⟩
      | true =>
        have ea1 : ((m : Int)).toNat = m := by omega
        have pa1 : (0 : Int) ≤ (m : Int) := by omega
        have ba1 : (m : Int) < (d.size : Int) := by omega
        have ra1 : IntKind.i64.wrap ((m : Int)) = (m : Int) := by rw [IntKind.wrap_i64]; omega
        have ec1 : (((i : Int) + (j : Int)) / 2).toNat = (i + j) / 2 := by omega
        have pc1 : (0 : Int) ≤ ((i : Int) + (j : Int)) / 2 := by omega
        have bc1 : ((i : Int) + (j : Int)) / 2 < (d.size : Int) := by omega
        have rc1 : IntKind.i64.wrap (((i : Int) + (j : Int)) / 2) = ((i : Int) + (j : Int)) / 2 := by rw [IntKind.wrap_i64]; omega
        obtain ⟨x1, hx1⟩ : ∃ x, x = d[m]! := ⟨_, rfl⟩
        obtain ⟨y1, hy1⟩ : ∃ x, x = d[(i + j) / 2]! := ⟨_, rfl⟩
        have l1a := S1.out.ld R (by omega) Tryz.prog (m) (by omega)
        have l1b := S1.out.ld R (by omega) Tryz.prog ((i + j) / 2) (by omega)
        rw [← hx1] at l1a
        rw [← hy1] at l1b
        have hc1 := S1.out.cmp HC.out (by omega) x1 y1
        have hv1 : cf x1 y1 < 0 := by rw [hx1, hy1]; exact of_decide_eq_true hlv
        have hd1 : decide (cf x1 y1 < 0) = true := decide_eq_true hv1
        clear hx1 hy1
        go_wp2_with fail
        go_quiet_grown (first | (go_at_fn g; refine Calls.grown_of (hc1 _ _)))
        have S2 : Aside (SWK enc k w0 blk off d (grow (wr.drewN nq) osq)) := S1.out.grown nq osq
        clear l1a l1b hc1 S1
        generalize grow (wr.drewN nq) osq = w2 at S2 ⊢
        clear nq osq
        go_wp2
        go_roundg ((i + j) / 2 - i)
        case measure => omega
        case rel => exact ⟨i, (i + j) / 2, rfl, by rw [show ((i : Int) + (j : Int)) / 2 = (((i + j) / 2 : Nat) : Int) by omega], hmi, by omega, by omega, Nat.le_refl _, S2, (⟨HE.out.1, Or.inr hlv⟩ : (i = a ∨ ltOf cf d[m]! d[i - 1]! = false) ∧ ((i + j) / 2 = m ∨ ltOf cf d[m]! d[(i + j) / 2]! = true))⟩
    · have hltz : ¬ (i : Int) < (j : Int) := by omega
      obtain rfl : i = j := by omega
      go_wp2
      go_loopg [17] (m - i) (fun kx s17 wr2 => ∃ (t : Nat) (dk : Array α), s17 = .int .i64 t ∧ i ≤ t ∧ t ≤ m ∧ t - i ≤ kx ∧ dk.size = d.size ∧ Aside (SWK enc k w0 blk off dk wr2) ∧ Aside (Dn d a m t dk))
      case atStart => exact ⟨m, d, rfl, by omega, Nat.le_refl _, by omega, rfl, S1, Dn.start d a m⟩
      case round =>
        clear S1
        obtain ⟨t, dk, rfl, hat, hti, hkx, hds, S1, HU⟩ := hrel
        by_cases hlt2 : i < t
        · obtain ⟨tp, rfl⟩ : ∃ tp, t = tp + 1 := ⟨t - 1, by omega⟩
          have hltz2 : (i : Int) < (tp : Int) + 1 := by omega
          go_wp2_with fail
          have ea1 : ((tp : Int) + 1).toNat = tp + 1 := by omega
          have pa1 : (0 : Int) ≤ (tp : Int) + 1 := by omega
          have ba1 : (tp : Int) + 1 < (d.size : Int) := by omega
          have ra1 : IntKind.i64.wrap ((tp : Int) + 1) = (tp : Int) + 1 := by rw [IntKind.wrap_i64]; omega
          have ec1 : ((tp : Int)).toNat = tp := by omega
          have pc1 : (0 : Int) ≤ (tp : Int) := by omega
          have bc1 : (tp : Int) < (d.size : Int) := by omega
          have rc1 : IntKind.i64.wrap ((tp : Int)) = (tp : Int) := by rw [IntKind.wrap_i64]; omega
          have S2 : Aside (SWK enc k w0 blk off (Go.Sort.swp dk (tp + 1) (tp)) ((wr.drew.setCells blk (off + (tp + 1) * k) (enc dk[tp]!)).setCells blk (off + (tp) * k) (enc dk[tp + 1]!))) := S1.out.swapped R (tp + 1) (tp) (by omega) (by omega)
          have l1a := S1.out.ld1 R (by omega) Tryz.prog (tp + 1) (by omega)
          have l1b := S1.out.ld1 R (by omega) Tryz.prog (tp) (by omega)
          have s1a := S1.out.st1 R (by omega) Tryz.prog (tp + 1) (by omega) dk[tp]!
          have s1b := S1.out.st2 R (by omega) Tryz.prog (tp + 1) (tp) (by omega) (by omega) dk[tp]! dk[tp + 1]!
          have n1a : (enc dk[tp + 1]!).length = k := R.hk _
          have n1b : (enc dk[tp]!).length = k := R.hk _
          generalize enc dk[tp + 1]! = cI1 at S2 l1a s1b n1a
          generalize enc dk[tp]! = cJ1 at S2 l1b s1a s1b n1b
          clear S1
          go_wp2_with fail
          go_big_region_o
          clear l1a l1b s1a s1b
          generalize (wr.drew.setCells blk (off + (tp + 1) * k) cJ1).setCells blk (off + (tp) * k) cI1 = w2 at S2 ⊢
          go_wp2
          go_roundg (tp - i)
          case measure => omega
          case rel => exact ⟨tp, Go.Sort.swp dk (tp + 1) tp, by first | rfl | go_num | (congr 1; omega), by omega, by omega, Nat.le_refl _, by rw [size_swp]; exact hds, S2, HU.out.step (by omega) hti hb2⟩
        · have hltz2 : ¬ (i : Int) < (t : Int) := by omega
          obtain rfl : i = t := by omega
          have hfin := Dn.done HSW.out hmi hjb HU.out SL.out HE.out.1 HE.out.2
          rw [← C2.out] at hfin
          have HF : Aside _ := hfin
          clear hfin
          go_wp2
          (try simp only [Exit.inBlock, Exit.then]); refine bodyPost_ret (results_none rfl _ _ _) rfl ?_
          exact ⟨rfl, dk, HF.out.1, HF.out.2, S1.out⟩
end Go.Proofs.YthanmlojikidbaaGreatStw1
