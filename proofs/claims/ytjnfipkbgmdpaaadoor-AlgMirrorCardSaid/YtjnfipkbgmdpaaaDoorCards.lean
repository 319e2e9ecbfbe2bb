/-
  DERIVED. GIVEN WITH THE SEED: THE CARDS: each row of YtjnfipkbgmdpaaaDoorRows.lean that lists a variable, with what it lists TIED to the program's text (the seventh form; the later family's looks); each row that meets fmt, with fmt's text TOLD by the authors' own Lean function (tested against real Go, not proved from fmt's source: count such statements apart). THE CARD IS WHAT COUNTS. Prove the row's statement (the work); the ties are given (YtjnfipkbgmdpaaaDoorTie.lean); close each card by the builder's one call (the guide's Derived/Test/ToyasCard.lean, 'card_holds'). Laid BY PROGRAM, IN A SANDBOX (cutbox-door.mjs). By AI agents, Wed Nov 11 2026. No macro, syntax, notation, axiom, sorry.
-/
import Derived.Test.YtjnfipkbgmdpaaaDoorRows
import GoSem.ClaimSeven
namespace Go.Proofs.YtjnfipkbgmdpaaaDoor
namespace Rows

/-- THE TIED CARD OF 'ulplaw21.AlgMirror'. -/
def algMirrorCard : Claim7 := { stood := { row := algMirrorRow, standIns := [], harness := (true, "2a53c10297a3cd46b690c7b8476ecc927b37e8087500efb16986d003764a4c2e"), looks := false }, kinds := [], alts := [], laidByText := true, laidKinds := [.data], laidTests := true, laidLooks := .later }
def AlgMirrorCardSaid : Prop := Claim7.holds Tryd.pinned (.plain (OpenSpec.ofChange algMirrorSpec)) algMirrorCard

/-- THE SECOND FORM's CARD OF 'ulplaw21.AlgMirror'. -/
def algMirrorUptoCard : Claim7 := { stood := { row := algMirrorUptoRow, standIns := [], harness := (true, "2a53c10297a3cd46b690c7b8476ecc927b37e8087500efb16986d003764a4c2e"), looks := false }, kinds := [], alts := [], laidByText := true, laidKinds := [.data], laidTests := true, laidLooks := .later }
def AlgMirrorUptoCardSaid : Prop := Claim7.holds Tryd.pinned (.plain (OpenSpec.upto algMirrorSpec)) algMirrorUptoCard
end Rows
end Go.Proofs.YtjnfipkbgmdpaaaDoor
