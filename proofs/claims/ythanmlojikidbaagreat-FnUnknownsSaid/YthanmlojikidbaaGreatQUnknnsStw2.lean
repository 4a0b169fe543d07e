import Derived.Test.YthanmlojikidbaaGreatProg
import Derived.Test.YthanmlojikidbaaGreatQUnknnsSta
import Derived.Test.YthanmlojikidbaaGreatQUnknnsStw0
import Derived.Shelf.SlSortCmp.KitK
import Derived.Sort.WalkB2
import Derived.Sort.WalkB12
import Derived.Deep.LoopGhost
import Derived.Deep.DeepCutAuto
/- slices.stableCmpFunc's family at []impl.Term, walked: from a world of the sort's to a world of the sort's; what the row holds in the end is a sorted permutation of what it held.
   Conditions: the comparison's own contract (CmpLays), fewer than 2^62 elements. -/
namespace Go.Proofs.YthanmlojikidbaaGreatStw2
open Go Go.Proofs Go.Shelf Go.RowKit Go.Lib Go.Sort Go.Proofs.YthanmlojikidbaaGreatSta Go.Proofs.YthanmlojikidbaaGreatStw0
/-- The second of two statements. -/
def sndS : Code → Code
  | .seq _ y => y
  | c => c
/-- Two statements: the walk stops between them. -/
theorem wp_seq_stop {P : Program} {x y : Code} {Q : Exit → Act → World → Prop} {a : Act} {w : World} (h : ∀ K : Act → World → Prop, (∀ a' w', Aside (Code.wp P y Q a' w') → K a' w') → Code.wp P x (Exit.then K Q) a w) : Code.wp P (x.seq y) Q a w := wp_seq (h _ (fun _ _ h => h))
/-- What symMerge leaves behind. -/
def SymFin {α : Type} [Inhabited α] (enc : α → List Value) (k : Nat) (w0 : World) (blk off : Nat) (cf : α → α → Int) (a b : Nat) (d : Array α) (a' : Act) (w' : World) : Prop := a'.defers = [] ∧ ∃ d', PermIn a b d d' ∧ SortedIn (ltOf cf) a b d' ∧ SWK enc k w0 blk off d' w'
set_option maxHeartbeats 16000000 in
set_option maxRecDepth 1000000 in
theorem symTail43 {α : Type} [Inhabited α] (enc : α → List Value) (k : Nat) (cf : α → α → Int) (g : Nat) (cb : Array Value) (blk off cap : Nat) (d0 : Array α) (w0 : World) (a m b s en mid n : Nat) (d d2 : Array α) (w : World) (hs : d0.size = n) (hn : d2.size = n) (hb : b ≤ n) (hsz : n < 4611686018427387904) (S : SWK enc k w0 blk off d2 w) (ham : a < mid) (be1 : en ≤ b) (be3 : mid ≤ en) (ih : ∀ (a' m' b' : Nat) (d' : Array α) (w' : World), b' - a' < b - a → d0.size = d'.size → SWK enc k w0 blk off d' w' → a' < m' → m' < b' → b' ≤ d'.size → d'.size < 4611686018427387904 → SortedIn (ltOf cf) a' m' d' → SortedIn (ltOf cf) m' b' d' → Calls Tryz.prog 102 #[.slice (some ⟨blk, off, none⟩) d'.size cap, .int .i64 a', .int .i64 m', .int .i64 b', .func (.func g) #[] cb] w' fun e w'' => e = .returned (.tuple #[]) ∧ ∃ d'', PermIn a' b' d' d'' ∧ SortedIn (ltOf cf) a' b' d'' ∧ SWK enc k w0 blk off d'' w'') (join : ∀ d3, PermIn mid b d2 d3 → SortedIn (ltOf cf) mid b d3 → PermIn a b d d3 ∧ SortedIn (ltOf cf) a b d3) (r1 : SortedIn (ltOf cf) mid en d2) (r2 : SortedIn (ltOf cf) en b d2) {x5 x6 x7 x8 x9 x10 x11 x12 x13 x14 x15 x16 x17 x19 x21 x22 x23 x25 x26 x27 x28 x29 x30 x31 x32 x33 x34 x35 x36 x37 x38 x39 x40 x41 x42 x43 x44 x45 x46 x47 x48 x49 x50 x51 x52 x53 x54 x55 x56 x57 x58 x59 x60 x61 x62 x63 x64 x65 x66 x67 x68 x69 x70 x71 x72 x73 x74 x75 x76 x77 x78 x79 x80 x81 x82 x83 x84 x85 x86 x87 x88 x89 x90 x91 x92 x93 x94 x95 x96 x97 x98 x99 x100 x101 x102 x103 x104 x105 x106 x107 x108 x109 x110 x111 x112 x113 x114 x115 x116 x117 x118 x119 x120 x121 x122 x123 x124 x125 x126 x127 x128 x129 x130 x131 x132 x133 x134 x135 x136 x137 x138 x139 x140 x141 x142 x143 x144 x145 x146 x147 x148 x149 x150 x151 x152 x153 x154 x155 x156 x157 x158 x159 x160 x161 x162 x163 x164 x165 x166 x167 x168 x169 x170 x171 x172 x173 x174 x175 x176 x177 x178 x179 x180 x181 x182 x183 x184 x185 x186 x187 x188 x189 x190 x191 x192 x193 x194 x195 x196 x197 x198 x199 x200 x201 x202 x203 x204 x205 x206 x207 x208 x209 x210 x211 x212 x213 x214 x215 x216 x217 x218 x219 : Value} (Q : Exit → Act → World → Prop) (c : Code) (hc : c = (sndS (sndS (sndS (sndS (sndS (sndS (sndS (sndS (sndS (sndS (sndS (Tryz.f102.body.getD Code.skip))))))))))))) (hQ : ∀ a' w', SymFin enc k w0 blk off cf a b d a' w' → Q .normal a' w') :
    Code.wp Tryz.prog c Q ⟨#[.slice (some ⟨blk, off, none⟩) n cap, .int .i64 a, .int .i64 m, .int .i64 b, .func (.func g) #[] cb, x5, x6, x7, x8, x9, x10, x11, x12, x13, x14, x15, x16, x17, .int .i64 mid, x19, .int .i64 s, x21, x22, x23, .int .i64 en, x25, x26, x27, x28, x29, x30, x31, x32, x33, x34, x35, x36, x37, x38, x39, x40, x41, x42, x43, x44, x45, x46, x47, x48, x49, x50, x51, x52, x53, x54, x55, x56, x57, x58, x59, x60, x61, x62, x63, x64, x65, x66, x67, x68, x69, x70, x71, x72, x73, x74, x75, x76, x77, x78, x79, x80, x81, x82, x83, x84, x85, x86, x87, x88, x89, x90, x91, x92, x93, x94, x95, x96, x97, x98, x99, x100, x101, x102, x103, x104, x105, x106, x107, x108, x109, x110, x111, x112, x113, x114, x115, x116, x117, x118, x119, x120, x121, x122, x123, x124, x125, x126, x127, x128, x129, x130, x131, x132, x133, x134, x135, x136, x137, x138, x139, x140, x141, x142, x143, x144, x145, x146, x147, x148, x149, x150, x151, x152, x153, x154, x155, x156, x157, x158, x159, x160, x161, x162, x163, x164, x165, x166, x167, x168, x169, x170, x171, x172, x173, x174, x175, x176, x177, x178, x179, x180, x181, x182, x183, x184, x185, x186, x187, x188, x189, x190, x191, x192, x193, x194, x195, x196, x197, x198, x199, x200, x201, x202, x203, x204, x205, x206, x207, x208, x209, x210, x211, x212, x213, x214, x215, x216, x217, x218, x219], []⟩ w := by
  have mixed : Tryz.prog.follows .mixedOrders = true := by kernel_rfl
  have t_0 := Tryz.underlying0; have a_0 := Tryz.isAgg0; have z_0 := Tryz.sizeOf0; have v_0 := Tryz.zeroValue0
  have t_1 := Tryz.underlying3; have a_1 := Tryz.isAgg3; have z_1 := Tryz.sizeOf3; have v_1 := Tryz.zeroValue3
  have t_2 := Tryz.underlying4; have a_2 := Tryz.isAgg4; have z_2 := Tryz.sizeOf4; have v_2 := Tryz.zeroValue4
  have t_3 := Tryz.underlying24; have a_3 := Tryz.isAgg24; have z_3 := Tryz.sizeOf24; have v_3 := Tryz.zeroValue24
  have t_4 := Tryz.underlying80; have a_4 := Tryz.isAgg80; have z_4 := Tryz.sizeOf80; have v_4 := Tryz.zeroValue80
  have u_3 := run_underlying Tryz.underlying24
  have S1 : Aside _ := S
  have IH : Aside _ := ih
  have JOIN : Aside _ := join
  have R1 : Aside _ := r1
  have R2 : Aside _ := r2
  have HN : Hid (d2.size = n) := hn
  have HS : Hid (d0.size = n) := hs
  clear S ih join r1 r2 hn hs
  subst hc
  simp only [Tryz.f102, Option.getD, sndS]
  by_cases q1 : mid < en
  · have q1z : (mid : Int) < (en : Int) := by omega
    by_cases q2 : en < b
    · have q2z : (en : Int) < (b : Int) := by omega
      have hcall := IH.out mid en b d2 w (by omega) (by rw [HS.out, HN.out]) S1.out q1 q2 (by rw [HN.out]; exact hb) (by rw [HN.out]; exact hsz) R1.out R2.out
      rw [HN.out] at hcall
      clear S1
      go_wp2_with (go_at_call 102; refine hcall.mono ?_; rintro e w1 ⟨rfl, d3, hp3, hs3, hw3⟩)
      exact ⟨rfl, d3, (JOIN.out d3 hp3 hs3).1, (JOIN.out d3 hp3 hs3).2, hw3⟩
    · have q2z : ¬ (en : Int) < (b : Int) := by omega
      have hj := JOIN.out d2 (permIn_refl _ _ _) (by obtain rfl : en = b := (by omega); exact R1.out)
      have HJ : Aside _ := hj
      clear hj
      go_wp2_with fail
      exact ⟨rfl, d2, HJ.out.1, HJ.out.2, S1.out⟩
  · have q1z : ¬ (mid : Int) < (en : Int) := by omega
    have hj := JOIN.out d2 (permIn_refl _ _ _) (by obtain rfl : mid = en := (by omega); exact R2.out)
    have HJ : Aside _ := hj
    clear hj
    go_wp2_with fail
    exact ⟨rfl, d2, HJ.out.1, HJ.out.2, S1.out⟩
end Go.Proofs.YthanmlojikidbaaGreatStw2
