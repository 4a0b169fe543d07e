import Derived.Test.YthanmlojikidbaaQExchnsW
import Derived.Deep.Slices
import Derived.Deep.Fields
import Derived.ChangeSame
import Derived.ChangeArms
import Derived.SizedLaws
import Derived.WalkKit
import Derived.ProofKit
/- What an argument that reads as data holds, kind by kind: lemmas on values, over any program; no program and no law here. -/
namespace Go.Proofs.YthanmlojikidbaaR
open Go.ChangeShapes Go.WideShapes Go.Deep Go.RowKit Go.Proofs.YthanmlojikidbaaW.PrintWords
/-- Whatever reads as data of type t holds a value of kind d for which G is true. -/
def Opens {α : Type} (P : Program) (t : TypeId) (d : Kd α) (G : α → Prop) : Prop :=
  ∀ (H : Type) (enc : TypeId × Value → H) (w : World) (base : Nat) (spare : Nat → Bool) (held : Bool) (fuel : Nat) (cs : List Value) (x : DataW H × List MemPlace),
    DataW.trod enc P w base spare held fuel t cs = some x → ∃ y : α, G y ∧ d.K w y cs
theorem opens_int {P : Program} {t : TypeId} {k : IntKind} (ht : P.underlying t = some (.int k)) : Opens P t (Kd.int k) (fun n => (Lit.int k n).wf = true) := by
  intro H enc w base spare held fuel cs x h
  obtain ⟨n, hc, _, hw⟩ := DataW.trod_int ht h
  exact ⟨n, hw, hc⟩
theorem opens_iso {α β : Type} {P : Program} {t : TypeId} {d : Kd α} {G : α → Prop} (h : Opens P t d G) (f : β → α) (g : α → β) (hfg : ∀ y, f (g y) = y) : Opens P t (Kd.iso d f) (fun z => G (f z)) := by
  intro H enc w base spare held fuel cs x hx
  obtain ⟨y, hy, hK⟩ := h H enc w base spare held fuel cs x hx
  refine ⟨g y, by show G (f (g y)); rw [hfg]; exact hy, ?_⟩
  show d.K w (f (g y)) cs
  rw [hfg]
  exact hK
theorem opens_slice {α : Type} {P : Program} {t e : TypeId} {d : Kd α} {G : α → Prop} (ht : P.underlying t = some (.slice e)) (hC : P.cellsOf e = d.sz) (h : Opens P e d G) :
    Opens P t (Kd.slice e d) (fun l => l.length ≤ maxLen ∧ ∀ y ∈ l, G y) := by
  intro H enc w base spare held fuel cs x hx
  rcases open_slice ht hx with ⟨rfl, _⟩ | ⟨a, len, cap, m, n, D, Pl, rfl, _, hl, hm, hmm, _, hi⟩
  · refine ⟨[], ⟨by simp, fun y hy => by cases hy⟩, none, 0, rfl, by simp, ?_⟩
    exact ⟨rfl, by simp, fun hn => absurd hn (by simp)⟩
  · have hlm : len ≤ m := by
      rw [hmm]
      split <;> omega
    have hex : ∀ i, i < len → ∃ y : α, G y ∧ ∃ c, c.length = d.sz ∧ d.K w y c ∧ ∀ j u, c[j]? = some u → w.cell? (a.add (i * d.sz + j)) = some u := by
      intro i hil
      obtain ⟨cs', hc, ht'⟩ := hi i (by omega)
      obtain ⟨y, hy, hK⟩ := h H enc w base spare held n cs' _ ht'
      rw [hC] at hc
      obtain ⟨_, hcl, hat⟩ := World.cells?_some hc
      refine ⟨y, hy, cs', hcl, hK, fun j u hu => ?_⟩
      have hjl : j < d.sz := by
        have := (List.getElem?_eq_some_iff.1 hu).1
        omega
      rw [← Go.Deep.add_add, hat j hjl, hu]
    have hbuild : ∀ k, k ≤ len → ∃ l : List α, l.length = k ∧ (∀ y ∈ l, G y) ∧ ∀ i p, l[i]? = some p → ∃ c, c.length = d.sz ∧ d.K w p c ∧ ∀ j u, c[j]? = some u → w.cell? (a.add (i * d.sz + j)) = some u := by
      intro k
      induction k with
      | zero => intro _; exact ⟨[], rfl, (fun y hy => by cases hy), fun i p hp => by simp at hp⟩
      | succ k ih =>
        intro hk
        obtain ⟨l, hll, hG, hcell⟩ := ih (by omega)
        obtain ⟨y, hy, hc⟩ := hex k (by omega)
        refine ⟨l ++ [y], by simp [hll], fun z hz => ?_, fun i p hp => ?_⟩
        · rcases List.mem_append.1 hz with hz | hz
          · exact hG z hz
          · rw [List.mem_singleton.1 hz]; exact hy
        · rcases Nat.lt_or_ge i l.length with hlt | hge
          · rw [List.getElem?_append_left hlt] at hp
            exact hcell i p hp
          · have hik : i = l.length := by
              have := (List.getElem?_eq_some_iff.1 hp).1
              simp at this
              omega
            subst hik
            have hp' : y = p := by simpa using hp
            subst hp'
            rw [hll]
            exact hc
    obtain ⟨l, hll, hG, hcell⟩ := hbuild len (Nat.le_refl _)
    have hlen : l.length ≤ maxLen := by omega
    refine ⟨l, ⟨hlen, hG⟩, some a, cap, by rw [hll], by omega, rfl, by unfold maxLen at hlen; omega, fun _ => ⟨a, rfl, hcell⟩⟩
/-- Fields in line, one behind the other from an offset on. -/
def Fields {α : Type} (P : Program) (fs : List Field) (i0 : Nat) (d : Kd α) (G : α → Prop) : Prop :=
  ∀ (H : Type) (enc : TypeId × Value → H) (w : World) (base : Nat) (spare : Nat → Bool) (held : Bool) (fuel : Nat) (cs : List Value) (xs : List (DataW H × List MemPlace)),
    cs.length = d.sz → (∀ (i : Nat) (f : Field), fs[i]? = some f → DataW.trod enc P w base spare held fuel f.type ((cs.drop (f.offset - i0)).take (P.cellsOf f.type)) = xs[i]?) → fs.length = xs.length → ∃ y : α, G y ∧ d.K w y cs
theorem fields_one {α : Type} {P : Program} {f : Field} {d : Kd α} {G : α → Prop} (h : Opens P f.type d G) (hC : P.cellsOf f.type = d.sz) : Fields P [f] f.offset d G := by
  intro H enc w base spare held fuel cs xs hl ht hx
  have h0 := ht 0 f rfl
  match xs, hx with
  | [x], _ =>
    rw [hC, Nat.sub_self, List.drop_zero, List.take_of_length_le (by omega)] at h0
    exact h H enc w base spare held fuel cs x h0
theorem fields_cons {α β : Type} {P : Program} {f : Field} {fs : List Field} {i0 i1 : Nat} {d : Kd α} {d1 : Kd β} {G : α → Prop} {G1 : β → Prop} (h : Opens P f.type d G) (hC : P.cellsOf f.type = d.sz) (h1 : Fields P fs i1 d1 G1)
    (h0 : f.offset = i0) (hi : i1 = i0 + d.sz) (hoff : ∀ g ∈ fs, i1 ≤ g.offset) : Fields P (f :: fs) i0 (Kd.pair d d1) (fun y => G y.1 ∧ G1 y.2) := by
  intro H enc w base spare held fuel cs xs hl ht hx
  have hl' : cs.length = d.sz + d1.sz := hl
  match xs, hx with
  | x :: xs, hx =>
    have e0 := ht 0 f rfl
    rw [hC, h0, Nat.sub_self, List.drop_zero] at e0
    obtain ⟨y, hy, hK⟩ := h H enc w base spare held fuel _ x e0
    obtain ⟨z, hz, hK1⟩ := h1 H enc w base spare held fuel (cs.drop d.sz) xs (by rw [List.length_drop]; omega) (fun i g hg => by
      have e1 := ht (i + 1) g hg
      have ho := hoff g (List.mem_of_getElem? hg)
      rw [List.drop_drop, show d.sz + (g.offset - i1) = g.offset - i0 by omega]
      exact e1) (by simpa using hx)
    exact ⟨(y, z), ⟨hy, hz⟩, cs.take d.sz, cs.drop d.sz, (List.take_append_drop _ _).symm, hK, hK1⟩
theorem opens_struct {α : Type} {P : Program} {t : TypeId} {fs : Array Field} {d : Kd α} {G : α → Prop} (ht : P.underlying t = some (.struct fs)) (hC : P.cellsOf t = d.sz) (h : Fields P fs.toList 0 d G) : Opens P t d G := by
  intro H enc w base spare held fuel cs x hx
  obtain ⟨xs, n, _, _, hlen, hxl, hg⟩ := DataW.trod_struct ht hx
  exact h H enc w base spare held n cs xs (by omega) (fun i f hf => by rw [Nat.sub_zero]; exact hg i f (by simpa using hf)) (by simpa using hxl.symm)
/-- An argument that is a slice. -/
theorem slice_of {α : Type} {P : Program} {t e : TypeId} {d : Kd α} {G : List α → Prop} {H : Type} {enc : TypeId × Value → H} {w : World} {r : Reach} {b0 base : Nat} {spare : Nat → Bool} {held : Bool} {v : Value} {dd : DataW H} {ps : List MemPlace}
    (ht : P.underlying t = some (.slice e)) (ho : Opens P t (Kd.slice e d) G) (hv : Value.okWide P w r b0 t v) (h : DataW.Trod enc P w base spare held t v dd ps) :
    ∃ (l : List α) (A : Option Addr) (c : Nat), G l ∧ v = .slice A l.length c ∧ l.length ≤ c ∧ d.C w A l.length l := by
  obtain ⟨a, len, cap, rfl⟩ := okWide_slice ht hv
  obtain ⟨fuel, hf⟩ := h
  obtain ⟨l, hl, A, c, hc, hlc, hC⟩ := ho H enc w base spare held fuel _ _ hf
  refine ⟨l, A, c, hl, ?_, hlc, hC⟩
  have : [Value.slice a len cap] = [.slice A l.length c] := hc
  exact (List.cons.inj this).1
/-- The bytes of an argument that is a slice. -/
theorem slice_sized {P : Program} {t e : TypeId} {H : Type} {enc : TypeId × Value → H} {w : World} {base : Nat} {spare : Nat → Bool} {held : Bool} {A : Option Addr} {n c b : Nat} {dd : DataW H} {ps : List MemPlace} {ts : List TypeId} {ds : List (DataW H)} {j : Nat}
    (ht : P.underlying t = some (.slice e)) (h : DataW.Trod enc P w base spare held t (.slice A n c) dd ps) (hz : (DataW.weightsEach P ts ds).all (· ≤ reachBytes) = true) (hj : ts[j]? = some t) (hd : ds[j]? = some dd) (hb : P.bytesOf e = b) : n * b ≤ 140737488351232 := by
  obtain ⟨fuel, hf⟩ := h
  rcases DataW.trod_slice ht hf with ⟨hc, _⟩ | ⟨a, len, cap, elems, rest, n', _, hc, hx, _, _, _, hl, _⟩
  · have hc' : [Value.slice A n c] = [.slice none 0 0] := hc
    injection hc' with h1 _
    injection h1 with _ h2 _
    subst h2; simp
  · have hc' : [Value.slice A n c] = [.slice (some a) len cap] := hc
    injection hc' with h1 _
    injection h1 with _ h2 _
    injection hx with hx _
    subst hx
    have := sized_slice hz hj hd ht
    rw [List.length_map, hl, hb] at this
    have h3 : n * b ≤ (len + (rest.map (·.1)).length) * b := Nat.mul_le_mul_right b (by omega)
    have h4 : reachBytes = 140737488351232 := rfl
    omega
end Go.Proofs.YthanmlojikidbaaR
