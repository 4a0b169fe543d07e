import Derived.Test.YthanmlojikidbaaGreatProg
import Derived.Test.YthanmlojikidbaaGreatQUnknnsSta
import Derived.Test.YthanmlojikidbaaGreatQUnknnsStw0
import Derived.Test.YthanmlojikidbaaGreatQUnknnsStw1
import Derived.Test.YthanmlojikidbaaGreatQUnknnsStw4
import Derived.Shelf.SlSortCmp.KitK
import Derived.Sort.WalkB2
import Derived.Sort.WalkB12
import Derived.Deep.LoopGhost
import Derived.Deep.DeepCutAuto
/- slices.stableCmpFunc's family at []impl.Term, walked: from a world of the sort's to a world of the sort's; what the row holds in the end is a sorted permutation of what it held.
   Conditions: the comparison's own contract (CmpLays), fewer than 2^62 elements. -/
namespace Go.Proofs.YthanmlojikidbaaGreatStw5
open Go Go.Proofs Go.Shelf Go.RowKit Go.Lib Go.Sort Go.Proofs.YthanmlojikidbaaGreatSta Go.Proofs.YthanmlojikidbaaGreatStw0 Go.Proofs.YthanmlojikidbaaGreatStw1 Go.Proofs.YthanmlojikidbaaGreatStw4
theorem symMerge {α : Type} [Inhabited α] (k : Nat) (aE : ∀ w, (isAgg 62).run Tryz.prog w = .ok true w) (zE : ∀ w, (Go.sizeOf 62).run Tryz.prog w = .ok k w) (enc : α → List Value) (cf : α → α → Int) (hS : SWO (ltOf cf)) (g : Nat) (cb : Array Value) (blk off cap : Nat) (d0 : Array α) (w0 : World) (eg : ∀ args w, (callFunc g args).run Tryz.prog w = .ok (.enter g args) w) (hcmp : CmpLays Tryz.prog g cb enc k cf blk off d0.size w0) (R : RowK enc k w0 blk off d0) :
    ∀ (N a m b : Nat) (d : Array α) (w : World), b - a ≤ N → d0.size = d.size → SWK enc k w0 blk off d w → a < m → m < b → b ≤ d.size → d.size < 4611686018427387904 → SortedIn (ltOf cf) a m d → SortedIn (ltOf cf) m b d → Calls Tryz.prog 102 #[.slice (some ⟨blk, off, none⟩) d.size cap, .int .i64 a, .int .i64 m, .int .i64 b, .func (.func g) #[] cb] w fun e w' => e = .returned (.tuple #[]) ∧ ∃ d', PermIn a b d d' ∧ SortedIn (ltOf cf) a b d' ∧ SWK enc k w0 blk off d' w' := by
  intro N
  induction N with
  | zero => intro a m b d w hN hs S ham hmb; omega
  | succ N ih =>
    intro a m b d w hN hs S ham hmb hb hsz hsl hsr
    by_cases c1 : m = a + 1
    · exact symUp k aE zE enc cf hS g cb blk off cap d0 w0 eg hcmp R a m b d w hs S ham hmb hb hsz hsl hsr c1
    · by_cases c2 : b = m + 1
      · exact symDown k aE zE enc cf hS g cb blk off cap d0 w0 eg hcmp R a m b d w hs S ham hmb hb hsz hsl hsr c1 c2
      · exact symHalf k aE zE enc cf hS g cb blk off cap d0 w0 eg hcmp R a m b d w hs S ham hmb hb hsz hsl hsr (fun a' m' b' d' w' h1 h2 h3 h4 h5 h6 h7 h8 h9 => ih a' m' b' d' w' (by omega) h2 h3 h4 h5 h6 h7 h8 h9) c1 c2
def insRen : Go.Shelf.Ren := ⟨fun | 20 => 101 | n => n, fun | 0 => 0 | 3 => 3 | 4 => 4 | 22 => 24 | 24 => 62 | 25 => 80 | n => n, fun n => n⟩
theorem insLay : SlLaysF0.n20 Tryz.prog insRen := { mixed := by kernel_rfl, f20 := ⟨Tryz.f101.name, by decide, Tryz.func101.trans (congrArg some (by kernel_rfl))⟩, t0 := Tryz.underlying0, a0 := Tryz.isAgg0, z0 := Tryz.sizeOf0, v0 := Tryz.zeroValue0, t3 := Tryz.underlying3, a3 := Tryz.isAgg3, z3 := Tryz.sizeOf3, v3 := Tryz.zeroValue3, t4 := Tryz.underlying4, a4 := Tryz.isAgg4, z4 := Tryz.sizeOf4, v4 := Tryz.zeroValue4, t22 := Tryz.underlying24, a22 := Tryz.isAgg24, z22 := Tryz.sizeOf24, v22 := Tryz.zeroValue24, t25 := Tryz.underlying80, a25 := Tryz.isAgg80, z25 := Tryz.sizeOf80, v25 := Tryz.zeroValue80 }
theorem insertion {α : Type} [Inhabited α] (k : Nat) (aE : ∀ w, (isAgg 62).run Tryz.prog w = .ok true w) (zE : ∀ w, (Go.sizeOf 62).run Tryz.prog w = .ok k w) (enc : α → List Value) (cf : α → α → Int) (hS : SWO (ltOf cf)) (g : Nat) (cb : Array Value) (blk off cap a b : Nat) (d0 d : Array α) (w0 w : World) (eg : ∀ args w, (callFunc g args).run Tryz.prog w = .ok (.enter g args) w) (hcmp : CmpLays Tryz.prog g cb enc k cf blk off d0.size w0) (R : RowK enc k w0 blk off d0) (hs : d0.size = d.size) (S : SWK enc k w0 blk off d w) (hab : a ≤ b) (hb : b ≤ d.size) (hsz : d.size < 4611686018427387904) :
    Calls Tryz.prog 101 #[.slice (some ⟨blk, off, none⟩) d.size cap, .int .i64 a, .int .i64 b, .func (.func g) #[] cb] w fun e w' => e = .returned (.tuple #[]) ∧ ∃ d', PermIn a b d d' ∧ SortedIn (ltOf cf) a b d' ∧ SWK enc k w0 blk off d' w' := by
  have hP := insertionSort_holds hS d a b hab hb
  have hcall := AnyQ.insertionSortCmpFunc insLay k aE zE enc R.hk R.h1 cf g cb blk off cap a b d w eg (by
    intro m os dk hdk x y
    obtain ⟨n1, os1, e1⟩ := S
    subst e1
    have e2 := sortWorldK_on enc k w0 blk off n1 m d dk os1 os R.hblk hdk
    rw [e2]
    exact hcmp _ _ dk (by omega) x y) (S.holds R.hblk R.hH hs.symm) (S.lt R.hblk) hab hb hsz
  refine hcall.mono ?_
  intro e w' h
  obtain ⟨h1, n, os, h2⟩ := h
  subst h2
  exact ⟨h1, _, hP.1, hP.2, S.on R.hblk n _ os hP.1.1⟩
set_option maxHeartbeats 16000000 in
set_option maxRecDepth 1000000 in
theorem stable {α : Type} [Inhabited α] (k : Nat) (aE : ∀ w, (isAgg 62).run Tryz.prog w = .ok true w) (zE : ∀ w, (Go.sizeOf 62).run Tryz.prog w = .ok k w) (enc : α → List Value) (cf : α → α → Int) (hS : SWO (ltOf cf)) (g : Nat) (cb : Array Value) (blk off cap : Nat) (d0 d : Array α) (w0 w : World) (eg : ∀ args w, (callFunc g args).run Tryz.prog w = .ok (.enter g args) w) (hcmp : CmpLays Tryz.prog g cb enc k cf blk off d0.size w0) (R : RowK enc k w0 blk off d0) (hs : d0.size = d.size) (S : SWK enc k w0 blk off d w) (hsz : d.size < 4611686018427387904) :
    Calls Tryz.prog 87 #[.slice (some ⟨blk, off, none⟩) d.size cap, .int .i64 d.size, .func (.func g) #[] cb] w fun e w' => e = .returned (.tuple #[]) ∧ ∃ d', PermIn 0 d.size d d' ∧ SortedIn (ltOf cf) 0 d.size d' ∧ SWK enc k w0 blk off d' w' := by
  have mixed : Tryz.prog.follows .mixedOrders = true := by kernel_rfl
  have t_0 := Tryz.underlying0; have a_0 := Tryz.isAgg0; have z_0 := Tryz.sizeOf0; have v_0 := Tryz.zeroValue0
  have t_1 := Tryz.underlying3; have a_1 := Tryz.isAgg3; have z_1 := Tryz.sizeOf3; have v_1 := Tryz.zeroValue3
  have t_2 := Tryz.underlying4; have a_2 := Tryz.isAgg4; have z_2 := Tryz.sizeOf4; have v_2 := Tryz.zeroValue4
  have t_3 := Tryz.underlying24; have a_3 := Tryz.isAgg24; have z_3 := Tryz.sizeOf24; have v_3 := Tryz.zeroValue24
  have t_4 := Tryz.underlying80; have a_4 := Tryz.isAgg80; have z_4 := Tryz.sizeOf80; have v_4 := Tryz.zeroValue80
  have u_3 := run_underlying Tryz.underlying24
  have HC : Aside _ := hcmp
  have HSW : Aside _ := hS
  have S0 : Aside (SWK enc k w0 blk off d w) := S
  clear hcmp hS S
  go_enter Tryz.func87, Tryz.ntmps87
  go_wp2
  go_loopg [7, 8] d.size (fun kx s7 s8 wr => ∃ (a b : Nat) (dk : Array α), s7 = .int .i64 a ∧ s8 = .int .i64 b ∧ b = a + 20 ∧ a ≤ d.size ∧ d.size - a ≤ kx ∧ dk.size = d.size ∧ Aside (20 ∣ a) ∧ Aside (PermIn 0 d.size d dk) ∧ Aside (Blks (ltOf cf) 20 d.size a dk) ∧ Aside (SWK enc k w0 blk off dk wr))
  case atStart => exact ⟨0, 20, d, rfl, rfl, by omega, by omega, by omega, rfl, Nat.dvd_zero 20, permIn_refl _ _ _, (fun s _ h => absurd h (Nat.not_lt_zero s)), S0⟩
  case round =>
    clear S0
    obtain ⟨a, b, dk, rfl, rfl, hb, han, hkx, hds, D, HP, HB, S1⟩ := hrel
    have HBE : Hid (b = a + 20) := hb
    have hab : a < b := by omega
    have hab2 : b ≤ a + 20 := by omega
    clear hb
    by_cases hlt : b ≤ d.size
    · have hltz : (b : Int) ≤ (d.size : Int) := by omega
      have hcall := insertion k aE zE enc cf HSW.out g cb blk off cap a b d0 dk w0 wr eg HC.out R (by omega) S1.out (by omega) (by omega) (by omega)
      rw [hds] at hcall
      clear S1
      go_wp2_with (go_at_call 101; refine hcall.mono ?_; rintro e w1 ⟨rfl, d2, hp2, hs2, hw2⟩)
      go_roundg (d.size - b)
      case measure => omega
      case rel =>
        have e1 : min (a + 20) d.size = b := by have := HBE.out; omega
        have hblk := Blks.snoc HB.out D.out (by rw [e1]; exact hp2) (by rw [e1]; exact hs2)
        rw [← HBE.out] at hblk
        have hdv : 20 ∣ b := by rw [HBE.out]; exact (Nat.dvd_add_iff_left (Nat.dvd_refl 20)).1 D.out
        exact ⟨b, b + 20, d2, rfl, by first | rfl | go_num, rfl, hlt, Nat.le_refl _, hp2.1.trans hds, hdv, permIn_trans _ _ _ _ _ HP.out (permIn_mono _ _ _ _ _ _ (Nat.zero_le _) hlt (by omega) hp2), hblk, hw2⟩
    · have hltz : ¬ (b : Int) ≤ (d.size : Int) := by omega
      have hcall := insertion k aE zE enc cf HSW.out g cb blk off cap a d.size d0 dk w0 wr eg HC.out R (by omega) S1.out han (by omega) (by omega)
      rw [hds] at hcall
      clear S1
      go_wp2_with (go_at_call 101; refine hcall.mono ?_; rintro e w1 ⟨rfl, d2, hp2, hs2, hw2⟩)
      have z2 : d2.size = d.size := hp2.1.trans hds
      have hp0 : PermIn 0 d.size d d2 := permIn_trans _ _ _ _ _ HP.out (permIn_mono _ _ _ _ _ _ (Nat.zero_le _) (Nat.le_refl _) (by omega) hp2)
      have e1 : min (a + 20) d.size = d.size := by have := HBE.out; omega
      have hblk := Blks.snoc HB.out D.out (by rw [e1]; exact hp2) (by rw [e1]; exact hs2)
      have hbl : Blks (ltOf cf) 20 d.size d.size d2 := fun s h1 h2 => hblk s h1 (by have := HBE.out; omega)
      have HP2 : Aside _ := hp0
      have HB2 : Aside _ := hbl
      have S2 : Aside _ := hw2
      clear hp0 hbl hw2 hblk e1 hp2 hs2 HP HB D HBE hab hab2 hltz
      go_loopg [6] d.size (fun kx s6 wr => ∃ (bs : Nat) (dj : Array α), s6 = .int .i64 bs ∧ 0 < bs ∧ bs ≤ 2 * d.size + 20 ∧ d.size - bs ≤ kx ∧ dj.size = d.size ∧ Aside (PermIn 0 d.size d dj) ∧ Aside (Blks (ltOf cf) bs d.size d.size dj) ∧ Aside (SWK enc k w0 blk off dj wr))
      case atStart => exact ⟨20, d2, rfl, by omega, by omega, by omega, z2, HP2, HB2, S2⟩
      case round =>
        clear HP2 HB2 S2 z2 hds hkx han hlt
        obtain ⟨bs, dj, rfl, hb0, hbb, hkx, hds, HP, HB, S1⟩ := hrel
        by_cases hlt : bs < d.size
        · have hltz : (bs : Int) < (d.size : Int) := by omega
          obtain ⟨b2, hb2⟩ : ∃ x, x = 2 * bs := ⟨_, rfl⟩
          have hb2z : (2 : Int) * (bs : Int) = (b2 : Int) := by omega
          have hb2y : (bs : Int) * 2 = (b2 : Int) := by omega
          have hb2x : (bs : Int) + (bs : Int) = (b2 : Int) := by omega
          have HB2 : Hid (b2 = 2 * bs) := hb2
          have hb2n : b2 ≤ bs + bs := by omega
          have hb2m : bs + bs ≤ b2 := by omega
          have hb2w : IntKind.i64.wrap (b2 : Int) = (b2 : Int) := by rw [IntKind.wrap_i64]; omega
          clear hb2
          go_wp2_with fail
          go_loopg [7, 8] d.size (fun kx s7 s8 wr => ∃ (a b : Nat) (dk : Array α), s7 = .int .i64 a ∧ s8 = .int .i64 b ∧ b = a + b2 ∧ a ≤ d.size ∧ d.size - a ≤ kx ∧ dk.size = d.size ∧ Aside (2 * bs ∣ a) ∧ Aside (PermIn 0 d.size d dk) ∧ Aside (Half (ltOf cf) bs d.size a dk) ∧ Aside (SWK enc k w0 blk off dk wr))
          case atStart => exact ⟨0, b2, dj, rfl, rfl, by omega, by omega, by omega, hds, Nat.dvd_zero _, HP, Half.start HB.out, S1⟩
          case round =>
            clear S1 HP HB
            obtain ⟨a, b, dk, rfl, rfl, hb, han, hkx2, hdk, D, HP, HH, S1⟩ := hrel
            obtain ⟨mm, hmm⟩ : ∃ x, x = a + bs := ⟨_, rfl⟩
            have HBE : Hid (b = a + 2 * bs) := by show _ = _; rw [hb, HB2.out]
            have dv1 : bs ∣ a := Nat.dvd_trans (Nat.dvd_mul_left bs 2) D.out
            have dv2 : bs ∣ mm := by rw [hmm]; exact (Nat.dvd_add_iff_left (Nat.dvd_refl bs)).1 dv1
            have DV1 : Aside _ := dv1
            have DV2 : Aside _ := dv2
            have HMM : Hid (mm = a + bs) := hmm
            have hmz : (a : Int) + (bs : Int) = (mm : Int) := by omega
            have ham : a < mm := by omega
            have hmb : mm < b := by omega
            have hb1 : b ≤ mm + bs := by omega
            have hb3 : mm + bs ≤ b := by omega
            have hmb1 : mm ≤ a + bs := by omega
            clear hb dv1 dv2 hmm
            by_cases hl2 : b ≤ d.size
            · have hl2z : (b : Int) ≤ (d.size : Int) := by omega
              have q1 : SortedIn (ltOf cf) a mm dk := by
                have := HH.out.2 a DV1.out (Nat.le_refl _) (by omega)
                have e := HMM.out
                rwa [show min (a + bs) d.size = mm by omega] at this
              have q2 : SortedIn (ltOf cf) mm b dk := by
                have := HH.out.2 mm DV2.out (by omega) (by omega)
                rwa [show min (mm + bs) d.size = b by omega] at this
              have hcall := symMerge k aE zE enc cf HSW.out g cb blk off cap d0 w0 eg HC.out R (b - a) a mm b dk wr (Nat.le_refl _) (by omega) S1.out ham hmb (by omega) (by omega) q1 q2
              rw [hdk] at hcall
              clear S1 q1 q2
              go_wp2_with (go_at_call 102; refine hcall.mono ?_; rintro e w2 ⟨rfl, d3, hp3, hs3, hw3⟩)
              go_roundg (d.size - b)
              case measure => omega
              case rel =>
                have e1 : min (a + 2 * bs) d.size = b := by have := HBE.out; omega
                have hh := Half.step HH.out D.out (by rw [e1]; exact hp3) (by rw [e1]; exact hs3)
                rw [← HBE.out] at hh
                have hdv : 2 * bs ∣ b := by rw [HBE.out]; exact (Nat.dvd_add_iff_left (Nat.dvd_refl _)).1 D.out
                exact ⟨b, b + b2, d3, rfl, by first | rfl | go_num, rfl, hl2, Nat.le_refl _, hp3.1.trans hdk, hdv, permIn_trans _ _ _ _ _ HP.out (permIn_mono _ _ _ _ _ _ (Nat.zero_le _) hl2 (by omega) hp3), hh, hw3⟩
            · have hl2z : ¬ (b : Int) ≤ (d.size : Int) := by omega
              by_cases hm : mm < d.size
              · have hmz2 : (mm : Int) < (d.size : Int) := by omega
                have q1 : SortedIn (ltOf cf) a mm dk := by
                  have := HH.out.2 a DV1.out (Nat.le_refl _) (by omega)
                  have e := HMM.out
                  rwa [show min (a + bs) d.size = mm by omega] at this
                have q2 : SortedIn (ltOf cf) mm d.size dk := by
                  have := HH.out.2 mm DV2.out (by omega) (by omega)
                  rwa [show min (mm + bs) d.size = d.size by omega] at this
                have hcall := symMerge k aE zE enc cf HSW.out g cb blk off cap d0 w0 eg HC.out R (d.size - a) a mm d.size dk wr (Nat.le_refl _) (by omega) S1.out ham hm (by omega) (by omega) q1 q2
                rw [hdk] at hcall
                clear S1 q1 q2
                go_wp2_with (go_at_call 102; refine hcall.mono ?_; rintro e w2 ⟨rfl, d3, hp3, hs3, hw3⟩)
                go_roundg (d.size - b2)
                case measure => omega
                case rel =>
                  have e1 : min (a + 2 * bs) d.size = d.size := by have := HBE.out; omega
                  have hh := Half.step HH.out D.out (by rw [e1]; exact hp3) (by rw [e1]; exact hs3)
                  have ha := Half.all hh (by have := HBE.out; omega)
                  rw [← HB2.out] at ha
                  exact ⟨b2, d3, by first | rfl | go_num, by omega, by omega, Nat.le_refl _, hp3.1.trans hdk, permIn_trans _ _ _ _ _ HP.out (permIn_mono _ _ _ _ _ _ (Nat.zero_le _) (Nat.le_refl _) (by omega) hp3), ha, hw3⟩
              · have hmz2 : ¬ (mm : Int) < (d.size : Int) := by omega
                go_wp2_with fail
                go_roundg (d.size - b2)
                case measure => omega
                case rel =>
                  have ha := Half.last HH.out D.out (by have := HMM.out; omega) hb0
                  rw [← HB2.out] at ha
                  exact ⟨b2, dk, by first | rfl | go_num, by omega, by omega, Nat.le_refl _, hdk, HP, ha, S1⟩
        · have hltz : ¬ (bs : Int) < (d.size : Int) := by omega
          have hd := Blks.done HB.out (by omega)
          have HD : Aside _ := hd
          clear hd
          go_wp2_with fail
          go_end0
          exact ⟨rfl, dj, HP.out, HD.out, S1.out⟩
set_option maxHeartbeats 16000000 in
set_option maxRecDepth 1000000 in
theorem sortStable {α : Type} [Inhabited α] (k : Nat) (aE : ∀ w, (isAgg 62).run Tryz.prog w = .ok true w) (zE : ∀ w, (Go.sizeOf 62).run Tryz.prog w = .ok k w) (enc : α → List Value) (cf : α → α → Int) (hS : SWO (ltOf cf)) (g : Nat) (cb : Array Value) (blk off cap : Nat) (d : Array α) (w : World) (eg : ∀ args w, (callFunc g args).run Tryz.prog w = .ok (.enter g args) w) (hcmp : CmpLays Tryz.prog g cb enc k cf blk off d.size w) (R : RowK enc k w blk off d) (hsz : d.size < 4611686018427387904) :
    Calls Tryz.prog 69 #[.slice (some ⟨blk, off, none⟩) d.size cap, .func (.func g) #[] cb] w fun e w' => e = .returned (.tuple #[]) ∧ ∃ d', PermIn 0 d.size d d' ∧ SortedIn (ltOf cf) 0 d.size d' ∧ SWK enc k w blk off d' w' := by
  have mixed : Tryz.prog.follows .mixedOrders = true := by kernel_rfl
  have t_0 := Tryz.underlying0; have a_0 := Tryz.isAgg0; have z_0 := Tryz.sizeOf0; have v_0 := Tryz.zeroValue0
  have t_1 := Tryz.underlying3; have a_1 := Tryz.isAgg3; have z_1 := Tryz.sizeOf3; have v_1 := Tryz.zeroValue3
  have t_2 := Tryz.underlying4; have a_2 := Tryz.isAgg4; have z_2 := Tryz.sizeOf4; have v_2 := Tryz.zeroValue4
  have t_3 := Tryz.underlying24; have a_3 := Tryz.isAgg24; have z_3 := Tryz.sizeOf24; have v_3 := Tryz.zeroValue24
  have t_4 := Tryz.underlying80; have a_4 := Tryz.isAgg80; have z_4 := Tryz.sizeOf80; have v_4 := Tryz.zeroValue80
  have u_3 := run_underlying Tryz.underlying24
  have hcall := stable k aE zE enc cf hS g cb blk off cap d d w w eg hcmp R rfl (SWK.start R.hH) hsz
  clear hcmp
  go_enter Tryz.func69, Tryz.ntmps69
  go_wp2_with (go_at_call 87; refine hcall.mono ?_; rintro e w2 ⟨rfl, d3, hp3, hs3, hw3⟩)
  go_end0
  exact ⟨rfl, d3, hp3, hs3, hw3⟩
end Go.Proofs.YthanmlojikidbaaGreatStw5
