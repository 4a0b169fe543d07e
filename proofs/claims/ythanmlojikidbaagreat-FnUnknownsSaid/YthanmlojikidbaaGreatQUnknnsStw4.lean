import Derived.Test.YthanmlojikidbaaGreatProg
import Derived.Test.YthanmlojikidbaaGreatQUnknnsSta
import Derived.Test.YthanmlojikidbaaGreatQUnknnsStw0
import Derived.Test.YthanmlojikidbaaGreatQUnknnsStw2
import Derived.Test.YthanmlojikidbaaGreatQUnknnsStw3
import Derived.Shelf.SlSortCmp.KitK
import Derived.Sort.WalkB2
import Derived.Sort.WalkB12
import Derived.Deep.LoopGhost
import Derived.Deep.DeepCutAuto
/- slices.stableCmpFunc's family at []impl.Term, walked: from a world of the sort's to a world of the sort's; what the row holds in the end is a sorted permutation of what it held.
   Conditions: the comparison's own contract (CmpLays), fewer than 2^62 elements. -/
namespace Go.Proofs.YthanmlojikidbaaGreatStw4
open Go Go.Proofs Go.Shelf Go.RowKit Go.Lib Go.Sort Go.Proofs.YthanmlojikidbaaGreatSta Go.Proofs.YthanmlojikidbaaGreatStw0 Go.Proofs.YthanmlojikidbaaGreatStw2 Go.Proofs.YthanmlojikidbaaGreatStw3
set_option maxHeartbeats 16000000 in
set_option maxRecDepth 1000000 in
theorem symRest {α : Type} [Inhabited α] (k : Nat) (aE : ∀ w, (isAgg 62).run Tryz.prog w = .ok true w) (zE : ∀ w, (Go.sizeOf 62).run Tryz.prog w = .ok k w) (enc : α → List Value) (cf : α → α → Int) (hS : SWO (ltOf cf)) (g : Nat) (cb : Array Value) (blk off cap : Nat) (d0 : Array α) (w0 : World) (eg : ∀ args w, (callFunc g args).run Tryz.prog w = .ok (.enter g args) w) (hcmp : CmpLays Tryz.prog g cb enc k cf blk off d0.size w0) (R : RowK enc k w0 blk off d0) (a m b lo ro mid : Nat) (d : Array α) (w : World) (hs : d0.size = d.size) (S : SWK enc k w0 blk off d w) (ham : a < m) (hmb : m < b) (hb : b ≤ d.size) (hsz : d.size < 4611686018427387904) (hsl : SortedIn (ltOf cf) a m d) (hsr : SortedIn (ltOf cf) m b d) (hmid : mid = (a + b) / 2) (hlo : lo = if mid < m then mid + m - b else a) (hro : ro = if mid < m then mid else m) (ih : ∀ (a' m' b' : Nat) (d' : Array α) (w' : World), b' - a' < b - a → d0.size = d'.size → SWK enc k w0 blk off d' w' → a' < m' → m' < b' → b' ≤ d'.size → d'.size < 4611686018427387904 → SortedIn (ltOf cf) a' m' d' → SortedIn (ltOf cf) m' b' d' → Calls Tryz.prog 102 #[.slice (some ⟨blk, off, none⟩) d'.size cap, .int .i64 a', .int .i64 m', .int .i64 b', .func (.func g) #[] cb] w' fun e w'' => e = .returned (.tuple #[]) ∧ ∃ d'', PermIn a' b' d' d'' ∧ SortedIn (ltOf cf) a' b' d'' ∧ SWK enc k w0 blk off d'' w'') {x5 x6 x7 x8 x9 x10 x11 x12 x13 x14 x15 x16 x17 x22 x23 x24 x25 x26 x27 x28 x29 x30 x31 x32 x33 x34 x35 x36 x37 x38 x39 x40 x41 x42 x43 x44 x45 x46 x47 x48 x49 x50 x51 x52 x53 x54 x55 x56 x57 x58 x59 x60 x61 x62 x63 x64 x65 x66 x67 x68 x69 x70 x71 x72 x73 x74 x75 x76 x77 x78 x79 x80 x81 x82 x83 x84 x85 x86 x87 x88 x89 x90 x91 x92 x93 x94 x95 x96 x97 x98 x99 x100 x101 x102 x103 x104 x105 x106 x107 x108 x109 x110 x111 x112 x113 x114 x115 x116 x117 x118 x119 x120 x121 x122 x123 x124 x125 x126 x127 x128 x129 x130 x131 x132 x133 x134 x135 x136 x137 x138 x139 x140 x141 x142 x143 x144 x145 x146 x147 x148 x149 x150 x151 x152 x153 x154 x155 x156 x157 x158 x159 x160 x161 x162 x163 x164 x165 x166 x167 x168 x169 x170 x171 x172 x173 x174 x175 x176 x177 x178 x179 x180 x181 x182 x183 x184 x185 x186 x187 x188 x189 x190 x191 x192 x193 x194 x195 x196 x197 x198 x199 x200 x201 x202 x203 x204 x205 x206 x207 x208 x209 x210 x211 x212 x213 x214 x215 x216 x217 x218 x219 : Value} (Q : Exit → Act → World → Prop) (c : Code) (hc : c = (sndS (sndS (sndS (sndS (sndS (sndS (Tryz.f102.body.getD Code.skip)))))))) (hQ : ∀ a' w', SymFin enc k w0 blk off cf a b d a' w' → Q .normal a' w') :
    Code.wp Tryz.prog c Q ⟨#[.slice (some ⟨blk, off, none⟩) d.size cap, .int .i64 a, .int .i64 m, .int .i64 b, .func (.func g) #[] cb, x5, x6, x7, x8, x9, x10, x11, x12, x13, x14, x15, x16, x17, .int .i64 mid, .int .i64 ((mid : Int) + (m : Int)), .int .i64 lo, .int .i64 ro, x22, x23, x24, x25, x26, x27, x28, x29, x30, x31, x32, x33, x34, x35, x36, x37, x38, x39, x40, x41, x42, x43, x44, x45, x46, x47, x48, x49, x50, x51, x52, x53, x54, x55, x56, x57, x58, x59, x60, x61, x62, x63, x64, x65, x66, x67, x68, x69, x70, x71, x72, x73, x74, x75, x76, x77, x78, x79, x80, x81, x82, x83, x84, x85, x86, x87, x88, x89, x90, x91, x92, x93, x94, x95, x96, x97, x98, x99, x100, x101, x102, x103, x104, x105, x106, x107, x108, x109, x110, x111, x112, x113, x114, x115, x116, x117, x118, x119, x120, x121, x122, x123, x124, x125, x126, x127, x128, x129, x130, x131, x132, x133, x134, x135, x136, x137, x138, x139, x140, x141, x142, x143, x144, x145, x146, x147, x148, x149, x150, x151, x152, x153, x154, x155, x156, x157, x158, x159, x160, x161, x162, x163, x164, x165, x166, x167, x168, x169, x170, x171, x172, x173, x174, x175, x176, x177, x178, x179, x180, x181, x182, x183, x184, x185, x186, x187, x188, x189, x190, x191, x192, x193, x194, x195, x196, x197, x198, x199, x200, x201, x202, x203, x204, x205, x206, x207, x208, x209, x210, x211, x212, x213, x214, x215, x216, x217, x218, x219], []⟩ w := by
  have mixed : Tryz.prog.follows .mixedOrders = true := by kernel_rfl
  have t_0 := Tryz.underlying0; have a_0 := Tryz.isAgg0; have z_0 := Tryz.sizeOf0; have v_0 := Tryz.zeroValue0
  have t_1 := Tryz.underlying3; have a_1 := Tryz.isAgg3; have z_1 := Tryz.sizeOf3; have v_1 := Tryz.zeroValue3
  have t_2 := Tryz.underlying4; have a_2 := Tryz.isAgg4; have z_2 := Tryz.sizeOf4; have v_2 := Tryz.zeroValue4
  have t_3 := Tryz.underlying24; have a_3 := Tryz.isAgg24; have z_3 := Tryz.sizeOf24; have v_3 := Tryz.zeroValue24
  have t_4 := Tryz.underlying80; have a_4 := Tryz.isAgg80; have z_4 := Tryz.sizeOf80; have v_4 := Tryz.zeroValue80
  have u_3 := run_underlying Tryz.underlying24
  have HC : Aside _ := hcmp
  have HSW : Aside _ := hS
  have S0 : Aside (SWK enc k w0 blk off d w) := S
  have SL : Aside (SortedIn (ltOf cf) a m d) := hsl
  have SR : Aside (SortedIn (ltOf cf) m b d) := hsr
  clear hcmp hS S hsl hsr
  have IH : Aside _ := ih
  have HQ : Aside _ := hQ
  clear ih hQ
  have bd1 : 2 * mid ≤ a + b := by omega
  have bd2 : a + b ≤ 2 * mid + 1 := by omega
  have HMID : Hid (mid = (a + b) / 2) := hmid
  have HLO : Hid (lo = if mid < m then mid + m - b else a) := hlo
  have HRO : Hid (ro = if mid < m then mid else m) := hro
  have bl1 : a ≤ lo := by rw [hlo]; split <;> omega
  have bl2 : lo ≤ ro := by rw [hlo, hro]; split <;> omega
  have bl3 : ro ≤ m ∧ ro ≤ mid := by rw [hro]; split <;> omega
  have bl4 : mid + m ≤ b + lo := by rw [hlo]; split <;> omega
  clear hmid hlo hro
  subst hc
  simp only [Tryz.f102, Option.getD, sndS]
  refine wp_seq_stop (fun K0 hK0 => ?_)
  go_wp2_with fail
  show Code.wp _ _ _ _ _
  refine wp_seq_stop (fun K1 hK1 => ?_)
  go_wp2_with fail
  go_loopg [20, 21] (ro - lo) (fun kx s20 s21 wr => ∃ (s r : Nat), s20 = .int .i64 s ∧ s21 = .int .i64 r ∧ lo ≤ s ∧ s ≤ r ∧ r ≤ ro ∧ r - s ≤ kx ∧ Aside (SWK enc k w0 blk off d wr) ∧ Hid ((s = lo ∨ ltOf cf d[mid + m - 1 - (s - 1)]! d[s - 1]! = false) ∧ (r = ro ∨ ltOf cf d[mid + m - 1 - r]! d[r]! = true)))
  case atStart => exact ⟨lo, ro, rfl, rfl, Nat.le_refl _, bl2, Nat.le_refl _, Nat.le_refl _, S0, (⟨Or.inl rfl, Or.inl rfl⟩ : (lo = lo ∨ ltOf cf d[mid + m - 1 - (lo - 1)]! d[lo - 1]! = false) ∧ (ro = ro ∨ ltOf cf d[mid + m - 1 - ro]! d[ro]! = true))⟩
  case round =>
    clear S0
    obtain ⟨s, r, rfl, rfl, hls, hsr, hrr, hkx, S1, HE⟩ := hrel
    by_cases hlt : s < r
    · have hltz : (s : Int) < (r : Int) := by omega
      obtain ⟨c, hc⟩ : ∃ x, x = (s + r) / 2 := ⟨_, rfl⟩
      have hcz : ((s : Int) + (r : Int)) / 2 = (c : Int) := by omega
      have bc1 : s ≤ c := by omega
      have bc2 : c < r := by omega
      obtain ⟨pc, hpc⟩ : ∃ x, x = mid + m - 1 - c := ⟨_, rfl⟩
      have hpz : (mid : Int) + (m : Int) - 1 - (c : Int) = (pc : Int) := by omega
      have bp1 : pc < d.size := by omega
      have HPC : Hid (pc = mid + m - 1 - c) := hpc
      clear hc hpc
      cases hlv : ltOf cf d[pc]! d[c]! with
      | false =>
        have ea1 : ((pc : Int)).toNat = pc := by omega
        have pa1 : (0 : Int) ≤ (pc : Int) := by omega
        have ba1 : (pc : Int) < (d.size : Int) := by omega
        have ra1 : IntKind.i64.wrap ((pc : Int)) = (pc : Int) := by rw [IntKind.wrap_i64]; omega
        have ec1 : ((c : Int)).toNat = c := by omega
        have pc1 : (0 : Int) ≤ (c : Int) := by omega
        have bc1 : (c : Int) < (d.size : Int) := by omega
        have rc1 : IntKind.i64.wrap ((c : Int)) = (c : Int) := by rw [IntKind.wrap_i64]; omega
        obtain ⟨x1, hx1⟩ : ∃ x, x = d[pc]! := ⟨_, rfl⟩
        obtain ⟨y1, hy1⟩ : ∃ x, x = d[c]! := ⟨_, rfl⟩
        have l1a := S1.out.ld R (by omega) Tryz.prog (pc) (by omega)
        have l1b := S1.out.ld R (by omega) Tryz.prog (c) (by omega)
        rw [← hx1] at l1a
        rw [← hy1] at l1b
        have hc1 := S1.out.cmp HC.out (by omega) x1 y1
        have hv1 : ¬ cf x1 y1 < 0 := by rw [hx1, hy1]; exact of_decide_eq_false hlv
        have hd1 : decide (cf x1 y1 < 0) = false := decide_eq_false hv1
        clear hx1 hy1
        go_wp2_with fail
        go_quiet_grown (first | (go_at_fn g; refine Calls.grown_of (hc1 _ _)))
        have S2 : Aside (SWK enc k w0 blk off d (grow (wr.drewN nq) osq)) := S1.out.grown nq osq
        clear l1a l1b hc1 S1
        generalize grow (wr.drewN nq) osq = w2 at S2 ⊢
        clear nq osq
        go_wp2
        go_roundg (r - (c + 1))
        case measure => omega
        case rel => exact ⟨c + 1, r, by first | rfl | go_num, rfl, by omega, by omega, hrr, Nat.le_refl _, S2, (⟨Or.inr (by rw [Nat.add_sub_cancel, ← HPC.out]; exact hlv), HE.out.2⟩ : (c + 1 = lo ∨ ltOf cf d[mid + m - 1 - (c + 1 - 1)]! d[c + 1 - 1]! = false) ∧ (r = ro ∨ ltOf cf d[mid + m - 1 - r]! d[r]! = true))⟩
      | true =>
        have ea1 : ((pc : Int)).toNat = pc := by omega
        have pa1 : (0 : Int) ≤ (pc : Int) := by omega
        have ba1 : (pc : Int) < (d.size : Int) := by omega
        have ra1 : IntKind.i64.wrap ((pc : Int)) = (pc : Int) := by rw [IntKind.wrap_i64]; omega
        have ec1 : ((c : Int)).toNat = c := by omega
        have pc1 : (0 : Int) ≤ (c : Int) := by omega
        have bc1 : (c : Int) < (d.size : Int) := by omega
        have rc1 : IntKind.i64.wrap ((c : Int)) = (c : Int) := by rw [IntKind.wrap_i64]; omega
        obtain ⟨x1, hx1⟩ : ∃ x, x = d[pc]! := ⟨_, rfl⟩
        obtain ⟨y1, hy1⟩ : ∃ x, x = d[c]! := ⟨_, rfl⟩
        have l1a := S1.out.ld R (by omega) Tryz.prog (pc) (by omega)
        have l1b := S1.out.ld R (by omega) Tryz.prog (c) (by omega)
        rw [← hx1] at l1a
        rw [← hy1] at l1b
        have hc1 := S1.out.cmp HC.out (by omega) x1 y1
        have hv1 : cf x1 y1 < 0 := by rw [hx1, hy1]; exact of_decide_eq_true hlv
        have hd1 : decide (cf x1 y1 < 0) = true := decide_eq_true hv1
        clear hx1 hy1
        go_wp2_with fail
        go_quiet_grown (first | (go_at_fn g; refine Calls.grown_of (hc1 _ _)))
        have S2 : Aside (SWK enc k w0 blk off d (grow (wr.drewN nq) osq)) := S1.out.grown nq osq
        clear l1a l1b hc1 S1
        generalize grow (wr.drewN nq) osq = w2 at S2 ⊢
        clear nq osq
        go_wp2
        go_roundg (c - s)
        case measure => omega
        case rel => exact ⟨s, c, rfl, rfl, hls, by omega, by omega, Nat.le_refl _, S2, (⟨HE.out.1, Or.inr (by rw [← HPC.out]; exact hlv)⟩ : (s = lo ∨ ltOf cf d[mid + m - 1 - (s - 1)]! d[s - 1]! = false) ∧ (c = ro ∨ ltOf cf d[mid + m - 1 - c]! d[c]! = true))⟩
    · have hltz : ¬ (s : Int) < (r : Int) := by omega
      obtain rfl : s = r := by omega
      have hF : SFound (ltOf cf) d a m b s := found_of ham hmb (by rw [← HMID.out, ← HLO.out]; exact hls) (by rw [← HMID.out, ← HRO.out]; exact hrr) (by rw [← HMID.out, ← HLO.out]; exact HE.out.1) (by rw [← HMID.out, ← HRO.out]; exact HE.out.2)
      have FF : Aside (SFound (ltOf cf) d a m b s) := hF
      clear hF HE
      obtain ⟨en, hen⟩ : ∃ x, x = mid + m - s := ⟨_, rfl⟩
      have henz : (mid : Int) + (m : Int) - (s : Int) = (en : Int) := by omega
      have be1 : en ≤ b := by omega
      have be2 : m ≤ en := by omega
      have be3 : mid ≤ en := by omega
      have HEN : Hid (en = mid + m - s) := hen
      clear hen
      go_wp2_with fail
      show Code.wp _ _ _ _ _
      refine wp_seq_stop (fun K2 hK2 => ?_)
      go_wp2_with fail
      exact symTail39 k aE zE enc cf HSW.out g cb blk off cap d0 w0 R a m b s en mid d.size d _ HMID.out HEN.out ham hmb hs rfl hb hsz SL.out SR.out FF.out S1.out be1 be2 be3 IH.out _ _ (by kernel_rfl) HQ.out
set_option maxHeartbeats 16000000 in
set_option maxRecDepth 1000000 in
theorem symHalf {α : Type} [Inhabited α] (k : Nat) (aE : ∀ w, (isAgg 62).run Tryz.prog w = .ok true w) (zE : ∀ w, (Go.sizeOf 62).run Tryz.prog w = .ok k w) (enc : α → List Value) (cf : α → α → Int) (hS : SWO (ltOf cf)) (g : Nat) (cb : Array Value) (blk off cap : Nat) (d0 : Array α) (w0 : World) (eg : ∀ args w, (callFunc g args).run Tryz.prog w = .ok (.enter g args) w) (hcmp : CmpLays Tryz.prog g cb enc k cf blk off d0.size w0) (R : RowK enc k w0 blk off d0) (a m b : Nat) (d : Array α) (w : World) (hs : d0.size = d.size) (S : SWK enc k w0 blk off d w) (ham : a < m) (hmb : m < b) (hb : b ≤ d.size) (hsz : d.size < 4611686018427387904) (hsl : SortedIn (ltOf cf) a m d) (hsr : SortedIn (ltOf cf) m b d) (ih : ∀ (a' m' b' : Nat) (d' : Array α) (w' : World), b' - a' < b - a → d0.size = d'.size → SWK enc k w0 blk off d' w' → a' < m' → m' < b' → b' ≤ d'.size → d'.size < 4611686018427387904 → SortedIn (ltOf cf) a' m' d' → SortedIn (ltOf cf) m' b' d' → Calls Tryz.prog 102 #[.slice (some ⟨blk, off, none⟩) d'.size cap, .int .i64 a', .int .i64 m', .int .i64 b', .func (.func g) #[] cb] w' fun e w'' => e = .returned (.tuple #[]) ∧ ∃ d'', PermIn a' b' d' d'' ∧ SortedIn (ltOf cf) a' b' d'' ∧ SWK enc k w0 blk off d'' w'') (c1 : ¬ m = a + 1) (c2 : ¬ b = m + 1) :
    Calls Tryz.prog 102 #[.slice (some ⟨blk, off, none⟩) d.size cap, .int .i64 a, .int .i64 m, .int .i64 b, .func (.func g) #[] cb] w fun e w' => e = .returned (.tuple #[]) ∧ ∃ d', PermIn a b d d' ∧ SortedIn (ltOf cf) a b d' ∧ SWK enc k w0 blk off d' w' := by
  have mixed : Tryz.prog.follows .mixedOrders = true := by kernel_rfl
  have t_0 := Tryz.underlying0; have a_0 := Tryz.isAgg0; have z_0 := Tryz.sizeOf0; have v_0 := Tryz.zeroValue0
  have t_1 := Tryz.underlying3; have a_1 := Tryz.isAgg3; have z_1 := Tryz.sizeOf3; have v_1 := Tryz.zeroValue3
  have t_2 := Tryz.underlying4; have a_2 := Tryz.isAgg4; have z_2 := Tryz.sizeOf4; have v_2 := Tryz.zeroValue4
  have t_3 := Tryz.underlying24; have a_3 := Tryz.isAgg24; have z_3 := Tryz.sizeOf24; have v_3 := Tryz.zeroValue24
  have t_4 := Tryz.underlying80; have a_4 := Tryz.isAgg80; have z_4 := Tryz.sizeOf80; have v_4 := Tryz.zeroValue80
  have u_3 := run_underlying Tryz.underlying24
  have HC : Aside _ := hcmp
  have HSW : Aside _ := hS
  have S0 : Aside (SWK enc k w0 blk off d w) := S
  have SL : Aside (SortedIn (ltOf cf) a m d) := hsl
  have SR : Aside (SortedIn (ltOf cf) m b d) := hsr
  clear hcmp hS S hsl hsr
  have IH : Aside _ := ih
  clear ih
  have q1 : ¬ (m : Int) - (a : Int) = 1 := by omega
  have q2 : ¬ (b : Int) - (m : Int) = 1 := by omega
  have q1b : ((m : Int) - (a : Int) == 1) = false := beq_false_of_ne q1
  have q2b : ((b : Int) - (m : Int) == 1) = false := beq_false_of_ne q2
  obtain ⟨mid, hmid⟩ : ∃ x, x = (a + b) / 2 := ⟨_, rfl⟩
  have hmidz : ((a : Int) + (b : Int)) / 2 = (mid : Int) := by omega
  have HMID : Hid (mid = (a + b) / 2) := hmid
  have bd1 : mid ≤ b := by omega
  clear hmid
  obtain ⟨lo, hlo⟩ : ∃ x, x = if mid < m then mid + m - b else a := ⟨_, rfl⟩
  obtain ⟨ro, hro⟩ : ∃ x, x = if mid < m then mid else m := ⟨_, rfl⟩
  have HLO : Hid (lo = if mid < m then mid + m - b else a) := hlo
  have HRO : Hid (ro = if mid < m then mid else m) := hro
  have hgz : (mid < m ∧ (mid : Int) + (m : Int) - (b : Int) = (lo : Int) ∧ mid = ro) ∨ (¬ mid < m ∧ a = lo ∧ m = ro) := by
    have hm := HMID.out
    by_cases c : mid < m
    · rw [if_pos c] at hlo hro; exact Or.inl ⟨c, by omega, hro.symm⟩
    · rw [if_neg c] at hlo hro; exact Or.inr ⟨c, hlo.symm, hro.symm⟩
  have HGZ : Hid _ := hgz
  clear hlo hro hgz
  go_enter Tryz.func102, Tryz.ntmps102
  refine wp_seq_stop (fun K0 hK0 => ?_)
  go_wp2_with fail
  show Code.wp _ _ _ _ _
  refine wp_seq_stop (fun K1 hK1 => ?_)
  go_wp2_with fail
  show Code.wp _ _ _ _ _
  refine wp_seq_stop (fun K2 hK2 => ?_)
  go_wp2_with fail
  show Code.wp _ _ _ _ _
  refine wp_seq_stop (fun K3 hK3 => ?_)
  go_wp2_with fail
  show Code.wp _ _ _ _ _
  refine wp_seq_stop (fun K4 hK4 => ?_)
  go_wp2_with fail
  show Code.wp _ _ _ _ _
  refine wp_seq_stop (fun K5 hK5 => ?_)
  rcases HGZ.out with ⟨c, c3, c4⟩ | ⟨c, c3, c4⟩
  · have cz : (mid : Int) < (m : Int) := by omega
    clear c
    subst c4
    go_wp2_with fail
    refine symRest k aE zE enc cf HSW.out g cb blk off cap d0 w0 eg HC.out R a m b lo mid mid d w hs S0.out ham hmb hb hsz SL.out SR.out HMID.out HLO.out HRO.out IH.out _ _ (by kernel_rfl) (fun a' w' h => ?_)
    obtain ⟨hd, d', h1, h2, h3⟩ := h
    obtain ⟨tm, df⟩ := a'
    have hd' : df = [] := hd
    subst hd'
    go_end0
    exact ⟨rfl, d', h1, h2, h3⟩
  · have cz : ¬ (mid : Int) < (m : Int) := by omega
    clear c
    subst c3
    subst c4
    go_wp2_with fail
    refine symRest k aE zE enc cf HSW.out g cb blk off cap d0 w0 eg HC.out R a m b a m mid d w hs S0.out ham hmb hb hsz SL.out SR.out HMID.out HLO.out HRO.out IH.out _ _ (by kernel_rfl) (fun a' w' h => ?_)
    obtain ⟨hd, d', h1, h2, h3⟩ := h
    obtain ⟨tm, df⟩ := a'
    have hd' : df = [] := hd
    subst hd'
    go_end0
    exact ⟨rfl, d', h1, h2, h3⟩
end Go.Proofs.YthanmlojikidbaaGreatStw4
