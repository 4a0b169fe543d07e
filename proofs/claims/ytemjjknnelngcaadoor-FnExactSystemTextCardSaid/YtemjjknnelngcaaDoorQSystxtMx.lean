import Derived.Test.YtemjjknnelngcaaDoorQSystxtPDx1
import Derived.Test.YtemjjknnelngcaaDoorQSystxtMw
import Derived.Test.YtemjjknnelngcaaDoorQSystxtMr
/- The text of a term: plain lemmas on the printed functions. -/
namespace Go.Proofs.YtemjjknnelngcaaDoor.PD
open Go.RowKit Go.Proofs.YtemjjknnelngcaaDoorW.PrintWords Go.Proofs.YtemjjknnelngcaaDoorW.PrintLast Go.Proofs.YtemjjknnelngcaaDoorW.PrintMore
/-- What the reference adds for one unknown. -/
def pc (i : Nat) (e : Int) : List UInt8 := if e = 0 then [] else if e = 1 then [42, UInt8.ofNat (120 + i)] else [42, UInt8.ofNat (120 + i), 94, UInt8.ofNat (48 + e.toNat)]
/-- What the list takes in for one unknown. -/
def pl (i : Nat) (e : Int) : List (List UInt8) := if e = 0 then [] else if e = 1 then [[UInt8.ofNat (120 + i)]] else [[UInt8.ofNat (120 + i), 94, UInt8.ofNat (48 + e.toNat)]]
def yb (l : List UInt8) : ByteArray := ⟨l.toArray⟩
theorem yb_data (l : List UInt8) : (yb l).data.toList = l := rfl
theorem yb_append (a b : List UInt8) : yb a ++ yb b = yb (a ++ b) := bytes_append a b
theorem yb_size (l : List UInt8) : (yb l).size = l.length := by show (List.toArray l).size = _; rw [List.size_toArray]
theorem yb_nil (l : List UInt8) : (yb l).toList = ([] : List UInt8) ↔ l = [] := by
  have key : ∀ b : ByteArray, b.toList = b.data.toList := fun b => ByteArray.toList_eq b
  rw [key]; rfl
theorem pc_pl (i : Nat) (e : Int) : pc i e = Lib.joinTail [42] (pl i e) := by
  unfold pc pl
  split
  · rfl
  · split <;> rfl
theorem jt_append (s : List UInt8) (a b : List (List UInt8)) : Lib.joinTail s (a ++ b) = Lib.joinTail s a ++ Lib.joinTail s b := by
  unfold Lib.joinTail; rw [List.map_append, List.flatten_append]
theorem pc_len (i : Nat) (e : Int) : (pc i e).length ≤ 4 := by
  unfold pc
  split
  · simp
  · split <;> simp
theorem decDigits_small {u : Nat} (h : u < 10) : Lib.decDigits u = [UInt8.ofNat (48 + u)] := by rw [Lib.decDigits, dif_pos h]
theorem ext_at {i : Nat} (h : i < 3) : ((⟨#[120, 121, 122]⟩ : ByteArray).extract i (i + 1)) = yb [UInt8.ofNat (120 + i)] := by
  have : i = 0 ∨ i = 1 ∨ i = 2 := by omega
  rcases this with rfl | rfl | rfl <;> rfl
theorem pt_eq {i : Nat} (hi : i < 3) {e : Int} (h0 : 0 ≤ e) (h4 : e ≤ 4) : impl_termText.pt ((⟨#[120, 121, 122]⟩ : ByteArray).extract i (i + 1)) e = some ((pl i e).map yb) := by
  unfold impl_termText.pt pl
  rw [ext_at hi]
  by_cases c1 : e = 1
  · subst c1; rfl
  · rw [if_neg c1]
    by_cases c2 : e > 1
    · rw [if_pos c2, itoa_eq ⟨by omega, by omega⟩]; simp only [bs2]
      have c0 : ¬ e = 0 := by omega
      rw [if_neg c0, if_neg c1]
      have hA : A e = yb [UInt8.ofNat (48 + e.toNat)] := by unfold A Lib.itoa; rw [if_neg (by omega), decDigits_small (by omega)]; rfl
      have hc : (⟨#[94]⟩ : ByteArray) = yb [94] := rfl
      rw [hA, hc, yb_append, yb_append, yb_size, yb_size]
      rw [if_pos (by simp)]; rfl
    · rw [if_neg c2, if_pos (by omega)]; rfl
theorem l1Num_small {e : Int} (h0 : 0 ≤ e) (h9 : e < 10) (K : Nat) : spec_l1Num.f (K + 1) e = some (yb [UInt8.ofNat (48 + e.toNat)]) := by
  obtain ⟨u, rfl⟩ := Int.eq_ofNat_of_zero_le h0
  simp only [spec_l1Num.f]
  rw [if_pos (by omega), digit_one (by omega)]; rfl
def pw (x y z : Int) (i : Nat) : Int := if i = 0 then x else if i = 1 then y else z
theorem poPower_eq (c x y z : Int) (i : Nat) : spec_poPower.f c x y z (i : Int) = some (pw x y z i) := by
  unfold spec_poPower.f pw
  by_cases h : i = 0
  · subst h; rfl
  · rw [if_neg (by omega), if_neg h]
    by_cases h1 : i = 1
    · subst h1; rfl
    · rw [if_neg (by omega), if_neg h1]
theorem txTerm_step (c x y z : Int) {i : Nat} (hi : i < 3) (s : List UInt8) (hs : s.length ≤ 100) (K : Nat) (h0 : 0 ≤ pw x y z i) (h4 : pw x y z i ≤ 4) :
    spec_txTerm.l0 (K + 2) (yb s) (i : Int) c x y z = spec_txTerm.l0 (K + 1) (yb (s ++ pc i (pw x y z i))) ((i + 1 : Nat) : Int) c x y z := by
  have hw : wrap64 ((i : Int) + 1) = ((i + 1 : Nat) : Int) := by rw [w64 (by omega) (by omega)]; omega
  conv => lhs; unfold spec_txTerm.l0
  rw [if_pos (by omega), poPower_eq]; simp only [bs2]
  generalize pw x y z i = e at h0 h4
  by_cases c0 : e = 0
  · rw [if_pos c0, hw]
    unfold pc; rw [if_pos c0, List.append_nil]
  · rw [if_neg c0, if_pos (by omega), hw, if_pos (by omega), if_pos (by omega), Int.toNat_natCast, Int.toNat_natCast, ext_at hi, show (⟨#[42]⟩ : ByteArray) = yb [42] from rfl, yb_append, yb_size, yb_size, yb_size, if_pos (by simp), if_pos (by simp; omega)]
    by_cases c1 : e > 1
    · rw [if_pos c1, l1Num_small (by omega) (by omega)]; simp only [bs2]
      rw [show (⟨#[94]⟩ : ByteArray) = yb [94] from rfl, yb_append, yb_append, yb_append, yb_size, yb_size, yb_size, if_pos (by simp), if_pos (by simp; omega)]
      unfold pc; rw [if_neg c0, if_neg (by omega)]; simp
    · rw [if_neg c1, yb_append]
      unfold pc; rw [if_neg c0, if_pos (by omega)]; simp
def pls (x y z : Int) : List (List UInt8) := pl 0 x ++ pl 1 y ++ pl 2 z
def jn (x y z : Int) : List UInt8 := Lib.join (pls x y z) [42]
/-- A term's text. -/
def tt (c x y z : Int) : ByteArray := if pls x y z = [] then A c else if c = 1 then yb (jn x y z) else if c = -1 then yb (45 :: jn x y z) else A c ++ yb (42 :: jn x y z)
theorem pcs (x y z : Int) : (([] ++ pc 0 x) ++ pc 1 y) ++ pc 2 z = if pls x y z = [] then [] else 42 :: jn x y z := by
  rw [pc_pl, pc_pl, pc_pl, List.nil_append, ← jt_append, ← jt_append]
  show Lib.joinTail [42] (pls x y z) = _
  unfold jn
  generalize pls x y z = l
  cases l with
  | nil => rfl
  | cons a r => rw [if_neg (by simp), Lib.join_cons]; rfl
theorem jn_len (x y z : Int) : (jn x y z).length ≤ 12 := by
  have h := congrArg List.length (pcs x y z)
  have a := pc_len 0 x
  have b := pc_len 1 y
  have d := pc_len 2 z
  rw [List.length_append, List.length_append, List.length_append, List.length_nil] at h
  by_cases c : pls x y z = []
  · unfold jn; rw [c]; simp [Lib.join]
  · rw [if_neg c, List.length_cons] at h; omega
theorem pl_ne {i : Nat} {e : Int} {a : List UInt8} (h : a ∈ pl i e) : a ≠ [] := by
  unfold pl at h
  split at h
  · cases h
  · split at h <;> (rw [List.mem_singleton] at h; subst h; simp)
theorem jn_ne {x y z : Int} (h : pls x y z ≠ []) : jn x y z ≠ [] := by
  unfold jn
  cases hp : pls x y z with
  | nil => exact absurd hp h
  | cons a r =>
    have ha : a ∈ pls x y z := by rw [hp]; exact List.mem_cons_self ..
    have : a ≠ [] := by
      unfold pls at ha
      rcases List.mem_append.1 ha with ha | ha
      · rcases List.mem_append.1 ha with ha | ha
        · exact pl_ne ha
        · exact pl_ne ha
      · exact pl_ne ha
    rw [Lib.join_cons]
    intro e
    exact this (List.append_eq_nil_iff.1 e).1
theorem A_ne (c : Int) : 0 < (A c).size := by
  unfold A Lib.itoa
  show 0 < (List.toArray _).size
  rw [List.size_toArray]
  split
  · simp
  · rw [Lib.decDigits]; split <;> simp
theorem tt_size {c : Int} (x y z : Int) (h1 : -1000 ≤ c) (h2 : c ≤ 1000) : 0 < (tt c x y z).size ∧ (tt c x y z).size ≤ 1100 := by
  have hj := jn_len x y z
  have a1 := A_size c
  have a2 := A_ne c
  unfold tt
  by_cases c0 : pls x y z = []
  · rw [if_pos c0]; omega
  · have := List.length_pos_iff.2 (jn_ne c0)
    rw [if_neg c0]
    split
    · rw [yb_size]; omega
    · split
      · rw [yb_size, List.length_cons]; omega
      · rw [ByteArray.size_append, yb_size, List.length_cons]; omega
theorem termText_eq {c x y z : Int} (h1 : -1000 ≤ c) (h2 : c ≤ 1000) (x0 : 0 ≤ x) (x4 : x ≤ 4) (y0 : 0 ≤ y) (y4 : y ≤ 4) (z0 : 0 ≤ z) (z4 : z ≤ 4) : impl_termText.f c x y z = some (tt c x y z) := by
  have hj := jn_len x y z
  have a1 := A_size c
  unfold impl_termText.f
  rw [pt_eq (i := 0) (by omega) x0 x4]; simp only [bs2]
  rw [pt_eq (i := 1) (by omega) y0 y4]; simp only [bs2]
  rw [pt_eq (i := 2) (by omega) z0 z4]; simp only [bs2]
  have hm : ((pl 0 x).map yb ++ (pl 1 y).map yb ++ (pl 2 z).map yb).map (·.data.toList) = pls x y z := by
    unfold pls
    rw [← List.map_append, ← List.map_append, List.map_map]
    conv => rhs; rw [← List.map_id (pl 0 x ++ pl 1 y ++ pl 2 z)]
    exact List.map_congr_left fun a _ => yb_data a
  have hjn : impl_termText.jn ((pl 0 x).map yb ++ (pl 1 y).map yb ++ (pl 2 z).map yb) = yb (jn x y z) := by unfold impl_termText.jn; rw [hm]; rfl
  rw [hm, if_pos (by unfold jn at hj; omega), hjn]
  unfold impl_termText.tl tt
  by_cases c0 : pls x y z = []
  · have : jn x y z = [] := by unfold jn; rw [c0]; rfl
    rw [if_pos c0, this, if_pos ((yb_nil []).2 rfl), itoa_eq ⟨by omega, by omega⟩]
  · rw [if_neg c0, if_neg (fun e => jn_ne c0 ((yb_nil _).1 e))]
    by_cases c1 : c = 1
    · rw [if_pos c1, if_pos c1]
    · rw [if_neg c1, if_neg c1]
      by_cases c2 : c = -1
      · rw [if_pos c2, if_pos c2, yb_size, if_pos (by omega)]
        exact congrArg some (yb_append [45] _)
      · rw [if_neg c2, if_neg c2, itoa_eq ⟨by omega, by omega⟩]; simp only [bs2]
        rw [show (⟨#[42]⟩ : ByteArray) = yb [42] from rfl, ByteArray.size_append, yb_size, yb_size, if_pos (by omega), if_pos (by simp; omega), ByteArray.append_assoc, yb_append]; rfl
theorem txTerm_ev {c x y z : Int} (h1 : -1000 ≤ c) (h2 : c ≤ 1000) (x0 : 0 ≤ x) (x4 : x ≤ 4) (y0 : 0 ≤ y) (y4 : y ≤ 4) (z0 : 0 ≤ z) (z4 : z ≤ 4) : Ev (fun K => spec_txTerm.f K c x y z) (tt c x y z) := by
  have hj := jn_len x y z
  have a1 := A_size c
  obtain ⟨K1, e1⟩ := l1Int_ev (n := c) ⟨by omega, by omega⟩
  dsimp only at e1
  refine ⟨K1 + 5, fun K hK => ?_⟩
  obtain ⟨K, rfl⟩ : ∃ j, K = j + 5 := ⟨K - 5, by omega⟩
  dsimp only; unfold spec_txTerm.f
  have p0 := pc_len 0 x
  have p1 := pc_len 1 y
  have s0 := txTerm_step c x y z (i := 0) (by omega) [] (by simp) (K + 3) (by exact x0) (by exact x4)
  have s1 := txTerm_step c x y z (i := 1) (by omega) ([] ++ pc 0 x) (by simp; omega) (K + 2) (by exact y0) (by exact y4)
  have s2 := txTerm_step c x y z (i := 2) (by omega) (([] ++ pc 0 x) ++ pc 1 y) (by simp; omega) (K + 1) (by exact z0) (by exact z4)
  refine s0.trans (s1.trans (s2.trans ?_))
  show spec_txTerm.l0 (K + 2) (yb ((([] ++ pc 0 x) ++ pc 1 y) ++ pc 2 z)) 3 c x y z = _
  rw [pcs]
  unfold spec_txTerm.l0
  rw [if_neg (by omega)]
  unfold tt
  by_cases c0 : pls x y z = []
  · rw [if_pos c0, if_pos c0, if_pos ((yb_nil []).2 rfl)]
    simp only [spec_txTerm.j1]
    rw [if_neg (by simp), if_pos ((yb_nil []).2 rfl), e1 _ (by omega)]; simp only [bs2]
    rw [show (yb []).size = 0 from rfl, if_pos (by omega)]
    exact congrArg some (ByteArray.append_empty)
  · rw [if_neg c0, if_neg c0, if_neg (fun e => by have := (yb_nil _).1 e; simp at this)]
    simp only [spec_txTerm.j1]
    have hx : (yb (42 :: jn x y z)).extract 1 (yb (42 :: jn x y z)).size = yb (jn x y z) := by
      apply ByteArray.ext
      rw [ByteArray.data_extract]
      apply Array.toList_inj.1
      rw [Array.toList_extract]
      show List.extract (42 :: jn x y z) 1 (yb (42 :: jn x y z)).size = jn x y z
      rw [yb_size]; simp [List.extract]
    by_cases c1 : c = 1
    · rw [if_pos (by rw [c1]; rfl), if_pos c1, yb_size, if_pos (by simp; omega), ← yb_size, hx]
    · rw [if_neg (by simpa using c1), if_neg c1, if_neg (fun e => by have := (yb_nil _).1 e; simp at this)]
      by_cases c2 : c = -1
      · rw [if_pos c2, if_pos c2, hx, yb_size, yb_size, if_pos (by simp; omega), if_pos (by omega)]
        exact congrArg some (yb_append [45] _)
      · rw [if_neg c2, if_neg c2, e1 _ (by omega)]; simp only [bs2]
        rw [yb_size, if_pos (by simp; omega)]
end Go.Proofs.YtemjjknnelngcaaDoor.PD
