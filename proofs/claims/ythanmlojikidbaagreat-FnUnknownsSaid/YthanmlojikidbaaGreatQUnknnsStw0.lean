import Derived.Test.YthanmlojikidbaaGreatProg
import Derived.Test.YthanmlojikidbaaGreatQUnknnsSta
import Derived.Shelf.SlSortCmp.KitK
import Derived.Sort.WalkB2
import Derived.Sort.WalkB12
import Derived.Deep.LoopGhost
import Derived.Deep.DeepCutAuto
/- slices.stableCmpFunc's family at []impl.Term, walked: from a world of the sort's to a world of the sort's; what the row holds in the end is a sorted permutation of what it held.
   Conditions: the comparison's own contract (CmpLays), fewer than 2^62 elements. -/
namespace Go.Proofs.YthanmlojikidbaaGreatStw0
open Go Go.Proofs Go.Shelf Go.RowKit Go.Lib Go.Sort Go.Proofs.YthanmlojikidbaaGreatSta
set_option maxHeartbeats 16000000 in
set_option maxRecDepth 1000000 in
theorem swapRange {α : Type} [Inhabited α] (k : Nat) (aE : ∀ w, (isAgg 62).run Tryz.prog w = .ok true w) (zE : ∀ w, (Go.sizeOf 62).run Tryz.prog w = .ok k w) (enc : α → List Value) (g : Nat) (cb : Array Value) (blk off cap a b n : Nat) (d0 d : Array α) (w0 w : World) (R : RowK enc k w0 blk off d0) (hs : d0.size = d.size) (S : SWK enc k w0 blk off d w) (h1 : a + n ≤ b) (h2 : b + n ≤ d.size) (hsz : d.size < 4611686018427387904) :
    Calls Tryz.prog 110 #[.slice (some ⟨blk, off, none⟩) d.size cap, .int .i64 a, .int .i64 b, .int .i64 n, .func (.func g) #[] cb] w fun e w' => e = .returned (.tuple #[]) ∧ SWK enc k w0 blk off (swr d a b n) w' := by
  have mixed : Tryz.prog.follows .mixedOrders = true := by kernel_rfl
  have t_0 := Tryz.underlying0; have a_0 := Tryz.isAgg0; have z_0 := Tryz.sizeOf0; have v_0 := Tryz.zeroValue0
  have t_1 := Tryz.underlying3; have a_1 := Tryz.isAgg3; have z_1 := Tryz.sizeOf3; have v_1 := Tryz.zeroValue3
  have t_2 := Tryz.underlying4; have a_2 := Tryz.isAgg4; have z_2 := Tryz.sizeOf4; have v_2 := Tryz.zeroValue4
  have t_3 := Tryz.underlying24; have a_3 := Tryz.isAgg24; have z_3 := Tryz.sizeOf24; have v_3 := Tryz.zeroValue24
  have t_4 := Tryz.underlying80; have a_4 := Tryz.isAgg80; have z_4 := Tryz.sizeOf80; have v_4 := Tryz.zeroValue80
  have u_3 := run_underlying Tryz.underlying24
  have S0 : Aside (SWK enc k w0 blk off d w) := S
  clear S
  go_enter Tryz.func110, Tryz.ntmps110
  go_wp2
  go_loopg [10] n (fun kx s10 wr => ∃ (i : Nat) (dk : Array α), s10 = .int .i64 i ∧ i ≤ n ∧ n - i ≤ kx ∧ dk.size = d.size ∧ Aside (SWK enc k w0 blk off dk wr) ∧ Hid (dk = swr d a b i))
  case atStart => exact ⟨0, d, rfl, Nat.zero_le _, by omega, rfl, S0, rfl⟩
  case round =>
    clear S0
    obtain ⟨i, dk, rfl, hin, hkx, hds, S1, HE⟩ := hrel
    by_cases hlt : i < n
    · have hltz : (i : Int) < (n : Int) := by omega
      go_wp2_with fail
      have ea1 : ((a : Int) + (i : Int)).toNat = a + i := by omega
      have pa1 : (0 : Int) ≤ (a : Int) + (i : Int) := by omega
      have ba1 : (a : Int) + (i : Int) < (d.size : Int) := by omega
      have ra1 : IntKind.i64.wrap ((a : Int) + (i : Int)) = (a : Int) + (i : Int) := by rw [IntKind.wrap_i64]; omega
      have ec1 : ((b : Int) + (i : Int)).toNat = b + i := by omega
      have pc1 : (0 : Int) ≤ (b : Int) + (i : Int) := by omega
      have bc1 : (b : Int) + (i : Int) < (d.size : Int) := by omega
      have rc1 : IntKind.i64.wrap ((b : Int) + (i : Int)) = (b : Int) + (i : Int) := by rw [IntKind.wrap_i64]; omega
      have S2 : Aside (SWK enc k w0 blk off (Go.Sort.swp dk (a + i) (b + i)) ((wr.drew.setCells blk (off + (a + i) * k) (enc dk[b + i]!)).setCells blk (off + (b + i) * k) (enc dk[a + i]!))) := S1.out.swapped R (a + i) (b + i) (by omega) (by omega)
      have l1a := S1.out.ld1 R (by omega) Tryz.prog (a + i) (by omega)
      have l1b := S1.out.ld1 R (by omega) Tryz.prog (b + i) (by omega)
      have s1a := S1.out.st1 R (by omega) Tryz.prog (a + i) (by omega) dk[b + i]!
      have s1b := S1.out.st2 R (by omega) Tryz.prog (a + i) (b + i) (by omega) (by omega) dk[b + i]! dk[a + i]!
      have n1a : (enc dk[a + i]!).length = k := R.hk _
      have n1b : (enc dk[b + i]!).length = k := R.hk _
      generalize enc dk[a + i]! = cI1 at S2 l1a s1b n1a
      generalize enc dk[b + i]! = cJ1 at S2 l1b s1a s1b n1b
      clear S1
      go_wp2_with fail
      go_big_region_o
      clear l1a l1b s1a s1b
      generalize (wr.drew.setCells blk (off + (a + i) * k) cJ1).setCells blk (off + (b + i) * k) cI1 = w2 at S2 ⊢
      go_wp2
      go_roundg (n - (i + 1))
      case measure => omega
      case rel => exact ⟨i + 1, Go.Sort.swp dk (a + i) (b + i), by simp, by omega, Nat.le_refl _, by rw [size_swp]; exact hds, S2, by show _ = _; rw [swr, ← HE.out]⟩
    · have hltz : ¬ (i : Int) < (n : Int) := by omega
      go_wp2
      go_end0
      obtain rfl : i = n := by omega
      refine ⟨rfl, ?_⟩
      rw [← HE.out]
      exact S1.out
set_option maxHeartbeats 16000000 in
set_option maxRecDepth 1000000 in
theorem rotate {α : Type} [Inhabited α] (k : Nat) (aE : ∀ w, (isAgg 62).run Tryz.prog w = .ok true w) (zE : ∀ w, (Go.sizeOf 62).run Tryz.prog w = .ok k w) (enc : α → List Value) (g : Nat) (cb : Array Value) (blk off cap a m b : Nat) (d0 d : Array α) (w0 w : World) (R : RowK enc k w0 blk off d0) (hs : d0.size = d.size) (S : SWK enc k w0 blk off d w) (ham : a < m) (hmb : m < b) (hb : b ≤ d.size) (hsz : d.size < 4611686018427387904) :
    Calls Tryz.prog 108 #[.slice (some ⟨blk, off, none⟩) d.size cap, .int .i64 a, .int .i64 m, .int .i64 b, .func (.func g) #[] cb] w fun e w' => e = .returned (.tuple #[]) ∧ ∃ d', Rot d a m b d' ∧ SWK enc k w0 blk off d' w' := by
  have mixed : Tryz.prog.follows .mixedOrders = true := by kernel_rfl
  have t_0 := Tryz.underlying0; have a_0 := Tryz.isAgg0; have z_0 := Tryz.sizeOf0; have v_0 := Tryz.zeroValue0
  have t_1 := Tryz.underlying3; have a_1 := Tryz.isAgg3; have z_1 := Tryz.sizeOf3; have v_1 := Tryz.zeroValue3
  have t_2 := Tryz.underlying4; have a_2 := Tryz.isAgg4; have z_2 := Tryz.sizeOf4; have v_2 := Tryz.zeroValue4
  have t_3 := Tryz.underlying24; have a_3 := Tryz.isAgg24; have z_3 := Tryz.sizeOf24; have v_3 := Tryz.zeroValue24
  have t_4 := Tryz.underlying80; have a_4 := Tryz.isAgg80; have z_4 := Tryz.sizeOf80; have v_4 := Tryz.zeroValue80
  have u_3 := run_underlying Tryz.underlying24
  have S0 : Aside (SWK enc k w0 blk off d w) := S
  clear S
  have e1 : (m : Int) - (a : Int) = ((m - a : Nat) : Int) := by omega
  have e2 : (b : Int) - (m : Int) = ((b - m : Nat) : Int) := by omega
  go_enter Tryz.func108, Tryz.ntmps108
  go_wp2
  go_loopg [10, 11] (b - a) (fun kx s10 s11 wr => ∃ (i j : Nat) (dk : Array α), s10 = .int .i64 i ∧ s11 = .int .i64 j ∧ 0 < i ∧ 0 < j ∧ i ≤ m ∧ m + j ≤ b ∧ i + j ≤ kx ∧ dk.size = d.size ∧ Aside (SWK enc k w0 blk off dk wr) ∧ Hid (∀ d', Rot dk (m - i) m (m + j) d' → Rot d a m b d'))
  case atStart => exact ⟨m - a, b - m, d, by first | rfl | (rw [e1]; done) | rw [e1], by first | rfl | (rw [e2]; done) | rw [e2], by omega, by omega, by omega, by omega, by omega, rfl, S0, (fun d' h => by rwa [show m - (m - a) = a by omega, show m + (b - m) = b by omega] at h : ∀ d', Rot d (m - (m - a)) m (m + (b - m)) d' → Rot d a m b d')⟩
  case round =>
    clear S0
    obtain ⟨i, j, dk, rfl, rfl, hi0, hj0, him, hjb, hkx, hds, S1, HE⟩ := hrel
    have z1 : (m : Int) - (i : Int) = ((m - i : Nat) : Int) := by omega
    by_cases hne : i = j
    · subst hne
      have hcall := swapRange k aE zE enc g cb blk off cap (m - i) m i d0 dk w0 wr R (by omega) S1.out (by omega) (by omega) (by omega)
      rw [hds] at hcall
      have S2 := S1
      clear S1
      go_wp2_with (go_at_call 110; refine hcall.mono ?_; rintro e w1 ⟨rfl, S3⟩)
      go_end0
      exact ⟨rfl, _, HE.out _ (Rot.eqv dk m i him (by omega)), S3⟩
    · have hnez : ¬ (i : Int) = (j : Int) := by omega
      by_cases hgt : j < i
      · have hgtz : (j : Int) < (i : Int) := by omega
        have hcall := swapRange k aE zE enc g cb blk off cap (m - i) m j d0 dk w0 wr R (by omega) S1.out (by omega) (by omega) (by omega)
        rw [hds] at hcall
        clear S1
        go_wp2_with (go_at_call 110; refine hcall.mono ?_; rintro e w1 ⟨rfl, S3⟩)
        go_roundg (i - j + j)
        case measure => omega
        case rel => exact ⟨i - j, j, swr dk (m - i) m j, by first | rfl | (congr 1; omega), rfl, by omega, hj0, by omega, hjb, Nat.le_refl _, by rw [swr_size]; exact hds, S3, (fun d' h => HE.out d' (Rot.gt him (by omega) hgt h) : ∀ d', Rot (swr dk (m - i) m j) (m - (i - j)) m (m + j) d' → Rot d a m b d')⟩
      · have hgtz : ¬ (j : Int) < (i : Int) := by omega
        have z2 : (m : Int) + (j : Int) - (i : Int) = ((m + j - i : Nat) : Int) := by omega
        have hcall := swapRange k aE zE enc g cb blk off cap (m - i) (m + j - i) i d0 dk w0 wr R (by omega) S1.out (by omega) (by omega) (by omega)
        rw [hds] at hcall
        clear S1
        go_wp2_with (go_at_call 110; refine hcall.mono ?_; rintro e w1 ⟨rfl, S3⟩)
        go_roundg (i + (j - i))
        case measure => omega
        case rel => exact ⟨i, j - i, swr dk (m - i) (m + j - i) i, rfl, by first | rfl | (congr 1; omega), hi0, by omega, him, by omega, Nat.le_refl _, by rw [swr_size]; exact hds, S3, (fun d' h => HE.out d' (Rot.less him (by omega) (by omega) h) : ∀ d', Rot (swr dk (m - i) (m + j - i) i) (m - i) m (m + (j - i)) d' → Rot d a m b d')⟩
end Go.Proofs.YthanmlojikidbaaGreatStw0
