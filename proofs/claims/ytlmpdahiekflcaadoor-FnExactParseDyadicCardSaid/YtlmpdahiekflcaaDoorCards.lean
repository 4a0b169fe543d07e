/-
  DERIVED. GIVEN WITH THE SEED: THE CARDS: each row of YtlmpdahiekflcaaDoorRows.lean that lists a variable, with what it lists TIED to the program's text (the seventh form; the later family's looks); each row that meets fmt, with fmt's text TOLD by the authors' own Lean function (tested against real Go, not proved from fmt's source: count such statements apart). THE CARD IS WHAT COUNTS. Prove the row's statement (the work); the ties are given (YtlmpdahiekflcaaDoorTie.lean); close each card by the builder's one call (the guide's Derived/Test/ToyasCard.lean, 'card_holds'). Laid BY PROGRAM, IN A SANDBOX (cutbox-door.mjs). By AI agents, Wed Nov 11 2026. No macro, syntax, notation, axiom, sorry.
-/
import Derived.Test.YtlmpdahiekflcaaDoorRows
import GoSem.ClaimSeven
namespace Go.Proofs.YtlmpdahiekflcaaDoor
namespace Rows

/-- THE TIED CARD OF 'laws.FnExactParseDyadic'. -/
def fnExactParseDyadicCard : Claim7 := { stood := { row := fnExactParseDyadicRow, standIns := [], harness := (true, "5a7c538d51641347edb05f472fa09ad55bab1fa54aa154a2d25762a4b4cfb133"), looks := true }, kinds := [], alts := [], laidByText := true, laidKinds := [.data, .data, .data, .sentinel, .sentinel], laidTests := true, laidLooks := .later }
def FnExactParseDyadicCardSaid : Prop := Claim7.holds Tryd.pinned (.plain (OpenSpec.ofChange fnExactParseDyadicSpec)) fnExactParseDyadicCard

/-- THE SECOND FORM's CARD OF 'laws.FnExactParseDyadic'. -/
def fnExactParseDyadicUptoCard : Claim7 := { stood := { row := fnExactParseDyadicUptoRow, standIns := [], harness := (true, "5a7c538d51641347edb05f472fa09ad55bab1fa54aa154a2d25762a4b4cfb133"), looks := true }, kinds := [], alts := [], laidByText := true, laidKinds := [.data, .data, .data, .sentinel, .sentinel], laidTests := true, laidLooks := .later }
def FnExactParseDyadicUptoCardSaid : Prop := Claim7.holds Tryd.pinned (.plain (OpenSpec.upto fnExactParseDyadicSpec)) fnExactParseDyadicUptoCard
end Rows
end Go.Proofs.YtlmpdahiekflcaaDoor
