/-
  DERIVED. GIVEN WITH THE SEED: THE CARDS: each row of YtdbhednhhmbooaaDoorRows.lean that lists a variable, with what it lists TIED to the program's text (the seventh form; the later family's looks); each row that meets fmt, with fmt's text TOLD by the authors' own Lean function (tested against real Go, not proved from fmt's source: count such statements apart). THE CARD IS WHAT COUNTS. Prove the row's statement (the work); the ties are given (YtdbhednhhmbooaaDoorTie.lean); close each card by the builder's one call (the guide's Derived/Test/ToyasCard.lean, 'card_holds'). Laid BY PROGRAM, IN A SANDBOX (cutbox-door.mjs). By AI agents, Wed Nov 11 2026. No macro, syntax, notation, axiom, sorry.
-/
import Derived.Test.YtdbhednhhmbooaaDoorRows
import GoSem.ClaimSeven
namespace Go.Proofs.YtdbhednhhmbooaaDoor
namespace Rows

/-- THE TIED CARD OF 'ulplaw03.NatParts'. -/
def natPartsCard : Claim7 := { stood := { row := natPartsRow, standIns := [], harness := (true, "73e40d0b3d7edf52d6e9f03030b824798fd5080bd674feae837c51c1f0c1db22"), looks := false }, kinds := [], alts := [], laidByText := true, laidKinds := [.data], laidTests := true, laidLooks := .later }
def NatPartsCardSaid : Prop := Claim7.holds Tryd.pinned (.plain (OpenSpec.ofChange natPartsSpec)) natPartsCard

/-- THE TIED CARD OF 'ulplaw03.NatBetween'. -/
def natBetweenCard : Claim7 := { stood := { row := natBetweenRow, standIns := [], harness := (true, "73e40d0b3d7edf52d6e9f03030b824798fd5080bd674feae837c51c1f0c1db22"), looks := false }, kinds := [], alts := [], laidByText := true, laidKinds := [.data], laidTests := true, laidLooks := .later }
def NatBetweenCardSaid : Prop := Claim7.holds Tryd.pinned (.plain (OpenSpec.ofChange natBetweenSpec)) natBetweenCard

/-- THE SECOND FORM's CARD OF 'ulplaw03.NatParts'. -/
def natPartsUptoCard : Claim7 := { stood := { row := natPartsUptoRow, standIns := [], harness := (true, "73e40d0b3d7edf52d6e9f03030b824798fd5080bd674feae837c51c1f0c1db22"), looks := false }, kinds := [], alts := [], laidByText := true, laidKinds := [.data], laidTests := true, laidLooks := .later }
def NatPartsUptoCardSaid : Prop := Claim7.holds Tryd.pinned (.plain (OpenSpec.upto natPartsSpec)) natPartsUptoCard

/-- THE SECOND FORM's CARD OF 'ulplaw03.NatBetween'. -/
def natBetweenUptoCard : Claim7 := { stood := { row := natBetweenUptoRow, standIns := [], harness := (true, "73e40d0b3d7edf52d6e9f03030b824798fd5080bd674feae837c51c1f0c1db22"), looks := false }, kinds := [], alts := [], laidByText := true, laidKinds := [.data], laidTests := true, laidLooks := .later }
def NatBetweenUptoCardSaid : Prop := Claim7.holds Tryd.pinned (.plain (OpenSpec.upto natBetweenSpec)) natBetweenUptoCard
end Rows
end Go.Proofs.YtdbhednhhmbooaaDoor
