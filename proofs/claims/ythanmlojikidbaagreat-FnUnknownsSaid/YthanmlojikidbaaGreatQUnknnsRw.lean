import Derived.Test.YthanmlojikidbaaGreatQUnknnsW
import Derived.Deep.Slices
import Derived.Deep.Fields
import Derived.ChangeSame
import Derived.ChangeArms
import Derived.SizedLaws
import Derived.WalkKit
import Derived.ProofKit
/- What an argument that reads as data holds, kind by kind: lemmas on values, over any program; no program and no law here. -/
namespace Go.Proofs.YthanmlojikidbaaGreatR
open Go.ChangeShapes Go.WideShapes Go.Deep Go.RowKit Go.Proofs.YthanmlojikidbaaGreatW.PrintWords
/-- Whatever reads as data of type t holds a value of kind d for which G is true. -/
def Opens {α : Type} (P : Program) (t : TypeId) (d : Kd α) (G : α → Prop) : Prop :=
  ∀ (H : Type) (enc : TypeId × Value → H) (w : World) (base : Nat) (spare : Nat → Bool) (held : Bool) (fuel : Nat) (cs : List Value) (x : DataW H × List MemPlace),
    DataW.trod enc P w base spare held fuel t cs = some x → ∃ y : α, G y ∧ d.K w y cs
theorem opens_int {P : Program} {t : TypeId} {k : IntKind} (ht : P.underlying t = some (.int k)) : Opens P t (Kd.int k) (fun n => (Lit.int k n).wf = true) := by
  intro H enc w base spare held fuel cs x h
  obtain ⟨n, hc, _, hw⟩ := DataW.trod_int ht h
  exact ⟨n, hw, hc⟩
theorem opens_slice {α : Type} {P : Program} {t e : TypeId} {d : Kd α} {G : α → Prop} (ht : P.underlying t = some (.slice e)) (hC : P.cellsOf e = d.sz) (h : Opens P e d G) :
    Opens P t (Kd.slice e d) (fun l => l.length ≤ maxLen ∧ ∀ y ∈ l, G y) := by
  intro H enc w base spare held fuel cs x hx
  rcases open_slice ht hx with ⟨rfl, _⟩ | ⟨a, len, cap, m, n, D, Pl, rfl, _, hl, hm, hmm, _, hi⟩
  · refine ⟨[], ⟨by simp, fun y hy => by cases hy⟩, none, 0, rfl, by simp, ?_⟩
    exact ⟨rfl, by simp, fun hn => absurd hn (by simp)⟩
  · have hlm : len ≤ m := by
      rw [hmm]
      split <;> omega
    have hex : ∀ i, i < len → ∃ y : α, G y ∧ ∃ c, c.length = d.sz ∧ d.K w y c ∧ ∀ j u, c[j]? = some u → w.cell? (a.add (i * d.sz + j)) = some u := by
      intro i hil
      obtain ⟨cs', hc, ht'⟩ := hi i (by omega)
      obtain ⟨y, hy, hK⟩ := h H enc w base spare held n cs' _ ht'
      rw [hC] at hc
      obtain ⟨_, hcl, hat⟩ := World.cells?_some hc
      refine ⟨y, hy, cs', hcl, hK, fun j u hu => ?_⟩
      have hjl : j < d.sz := by
        have := (List.getElem?_eq_some_iff.1 hu).1
        omega
      rw [← Go.Deep.add_add, hat j hjl, hu]
    have hbuild : ∀ k, k ≤ len → ∃ l : List α, l.length = k ∧ (∀ y ∈ l, G y) ∧ ∀ i p, l[i]? = some p → ∃ c, c.length = d.sz ∧ d.K w p c ∧ ∀ j u, c[j]? = some u → w.cell? (a.add (i * d.sz + j)) = some u := by
      intro k
      induction k with
      | zero => intro _; exact ⟨[], rfl, (fun y hy => by cases hy), fun i p hp => by simp at hp⟩
      | succ k ih =>
        intro hk
        obtain ⟨l, hll, hG, hcell⟩ := ih (by omega)
        obtain ⟨y, hy, hc⟩ := hex k (by omega)
        refine ⟨l ++ [y], by simp [hll], fun z hz => ?_, fun i p hp => ?_⟩
        · rcases List.mem_append.1 hz with hz | hz
          · exact hG z hz
          · rw [List.mem_singleton.1 hz]; exact hy
        · rcases Nat.lt_or_ge i l.length with hlt | hge
          · rw [List.getElem?_append_left hlt] at hp
            exact hcell i p hp
          · have hik : i = l.length := by
              have := (List.getElem?_eq_some_iff.1 hp).1
              simp at this
              omega
            subst hik
            have hp' : y = p := by simpa using hp
            subst hp'
            rw [hll]
            exact hc
    obtain ⟨l, hll, hG, hcell⟩ := hbuild len (Nat.le_refl _)
    have hlen : l.length ≤ maxLen := by omega
    refine ⟨l, ⟨hlen, hG⟩, some a, cap, by rw [hll], by omega, rfl, by unfold maxLen at hlen; omega, fun _ => ⟨a, rfl, hcell⟩⟩
/-- Fields in line, one behind the other from an offset on. -/
def Fields {α : Type} (P : Program) (fs : List Field) (i0 : Nat) (d : Kd α) (G : α → Prop) : Prop :=
  ∀ (H : Type) (enc : TypeId × Value → H) (w : World) (base : Nat) (spare : Nat → Bool) (held : Bool) (fuel : Nat) (cs : List Value) (xs : List (DataW H × List MemPlace)),
    cs.length = d.sz → (∀ (i : Nat) (f : Field), fs[i]? = some f → DataW.trod enc P w base spare held fuel f.type ((cs.drop (f.offset - i0)).take (P.cellsOf f.type)) = xs[i]?) → fs.length = xs.length → ∃ y : α, G y ∧ d.K w y cs
/-- An argument that is a slice. -/
theorem slice_of {α : Type} {P : Program} {t e : TypeId} {d : Kd α} {G : List α → Prop} {H : Type} {enc : TypeId × Value → H} {w : World} {r : Reach} {b0 base : Nat} {spare : Nat → Bool} {held : Bool} {v : Value} {dd : DataW H} {ps : List MemPlace}
    (ht : P.underlying t = some (.slice e)) (ho : Opens P t (Kd.slice e d) G) (hv : Value.okWide P w r b0 t v) (h : DataW.Trod enc P w base spare held t v dd ps) :
    ∃ (l : List α) (A : Option Addr) (c : Nat), G l ∧ v = .slice A l.length c ∧ l.length ≤ c ∧ d.C w A l.length l := by
  obtain ⟨a, len, cap, rfl⟩ := okWide_slice ht hv
  obtain ⟨fuel, hf⟩ := h
  obtain ⟨l, hl, A, c, hc, hlc, hC⟩ := ho H enc w base spare held fuel _ _ hf
  refine ⟨l, A, c, hl, ?_, hlc, hC⟩
  have : [Value.slice a len cap] = [.slice A l.length c] := hc
  exact (List.cons.inj this).1
end Go.Proofs.YthanmlojikidbaaGreatR
