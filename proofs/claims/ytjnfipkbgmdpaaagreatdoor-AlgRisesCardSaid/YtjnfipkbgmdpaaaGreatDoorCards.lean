/-
  DERIVED. GIVEN WITH THE SEED: THE CARDS: each row of YtjnfipkbgmdpaaaGreatDoorRows.lean that lists a variable, with what it lists TIED to the program's text (the seventh form; the later family's looks); each row that meets fmt, with fmt's text TOLD by the authors' own Lean function (tested against real Go, not proved from fmt's source: count such statements apart). THE CARD IS WHAT COUNTS. Prove the row's statement (the work); the ties are given (YtjnfipkbgmdpaaaGreatDoorTie.lean); close each card by the builder's one call (the guide's Derived/Test/ToyasCard.lean, 'card_holds'). Laid BY PROGRAM, IN A SANDBOX (cutbox-door.mjs). By AI agents, Wed Nov 11 2026. No macro, syntax, notation, axiom, sorry.
-/
import Derived.Test.YtjnfipkbgmdpaaaGreatDoorRows
import GoSem.ClaimSeven
namespace Go.Proofs.YtjnfipkbgmdpaaaGreatDoor
namespace Rows

/-- THE TIED CARD OF 'ulplaw21.AlgRoots'. -/
def algRootsCard : Claim7 := { stood := { row := algRootsRow, standIns := [], harness := (true, "5877ac21bc2470f0225a45bbeef24a6ad71016f5fe07c7b6a408b9426289f588"), looks := false }, kinds := [], alts := [], laidByText := true, laidKinds := [.data], laidTests := true, laidLooks := .later }
def AlgRootsCardSaid : Prop := Claim7.holds Tryz.pinned (.plain (OpenSpec.ofChange algRootsSpec)) algRootsCard

/-- THE TIED CARD OF 'ulplaw21.AlgExact'. -/
def algExactCard : Claim7 := { stood := { row := algExactRow, standIns := [], harness := (true, "5877ac21bc2470f0225a45bbeef24a6ad71016f5fe07c7b6a408b9426289f588"), looks := false }, kinds := [], alts := [], laidByText := true, laidKinds := [.data], laidTests := true, laidLooks := .later }
def AlgExactCardSaid : Prop := Claim7.holds Tryz.pinned (.plain (OpenSpec.ofChange algExactSpec)) algExactCard

/-- THE TIED CARD OF 'ulplaw21.AlgScaled'. -/
def algScaledCard : Claim7 := { stood := { row := algScaledRow, standIns := [], harness := (true, "5877ac21bc2470f0225a45bbeef24a6ad71016f5fe07c7b6a408b9426289f588"), looks := false }, kinds := [], alts := [], laidByText := true, laidKinds := [.data], laidTests := true, laidLooks := .later }
def AlgScaledCardSaid : Prop := Claim7.holds Tryz.pinned (.plain (OpenSpec.ofChange algScaledSpec)) algScaledCard

/-- THE TIED CARD OF 'ulplaw21.AlgHypots'. -/
def algHypotsCard : Claim7 := { stood := { row := algHypotsRow, standIns := [], harness := (true, "5877ac21bc2470f0225a45bbeef24a6ad71016f5fe07c7b6a408b9426289f588"), looks := false }, kinds := [], alts := [], laidByText := true, laidKinds := [.data], laidTests := true, laidLooks := .later }
def AlgHypotsCardSaid : Prop := Claim7.holds Tryz.pinned (.plain (OpenSpec.ofChange algHypotsSpec)) algHypotsCard

/-- THE TIED CARD OF 'ulplaw21.AlgRises'. -/
def algRisesCard : Claim7 := { stood := { row := algRisesRow, standIns := [], harness := (true, "5877ac21bc2470f0225a45bbeef24a6ad71016f5fe07c7b6a408b9426289f588"), looks := false }, kinds := [], alts := [], laidByText := true, laidKinds := [.data], laidTests := true, laidLooks := .later }
def AlgRisesCardSaid : Prop := Claim7.holds Tryz.pinned (.plain (OpenSpec.ofChange algRisesSpec)) algRisesCard

/-- THE TIED CARD OF 'ulplaw21.AlgBetween'. -/
def algBetweenCard : Claim7 := { stood := { row := algBetweenRow, standIns := [], harness := (true, "5877ac21bc2470f0225a45bbeef24a6ad71016f5fe07c7b6a408b9426289f588"), looks := false }, kinds := [], alts := [], laidByText := true, laidKinds := [.data], laidTests := true, laidLooks := .later }
def AlgBetweenCardSaid : Prop := Claim7.holds Tryz.pinned (.plain (OpenSpec.ofChange algBetweenSpec)) algBetweenCard

/-- THE SECOND FORM's CARD OF 'ulplaw21.AlgRoots'. -/
def algRootsUptoCard : Claim7 := { stood := { row := algRootsUptoRow, standIns := [], harness := (true, "5877ac21bc2470f0225a45bbeef24a6ad71016f5fe07c7b6a408b9426289f588"), looks := false }, kinds := [], alts := [], laidByText := true, laidKinds := [.data], laidTests := true, laidLooks := .later }
def AlgRootsUptoCardSaid : Prop := Claim7.holds Tryz.pinned (.plain (OpenSpec.upto algRootsSpec)) algRootsUptoCard

/-- THE SECOND FORM's CARD OF 'ulplaw21.AlgExact'. -/
def algExactUptoCard : Claim7 := { stood := { row := algExactUptoRow, standIns := [], harness := (true, "5877ac21bc2470f0225a45bbeef24a6ad71016f5fe07c7b6a408b9426289f588"), looks := false }, kinds := [], alts := [], laidByText := true, laidKinds := [.data], laidTests := true, laidLooks := .later }
def AlgExactUptoCardSaid : Prop := Claim7.holds Tryz.pinned (.plain (OpenSpec.upto algExactSpec)) algExactUptoCard

/-- THE SECOND FORM's CARD OF 'ulplaw21.AlgScaled'. -/
def algScaledUptoCard : Claim7 := { stood := { row := algScaledUptoRow, standIns := [], harness := (true, "5877ac21bc2470f0225a45bbeef24a6ad71016f5fe07c7b6a408b9426289f588"), looks := false }, kinds := [], alts := [], laidByText := true, laidKinds := [.data], laidTests := true, laidLooks := .later }
def AlgScaledUptoCardSaid : Prop := Claim7.holds Tryz.pinned (.plain (OpenSpec.upto algScaledSpec)) algScaledUptoCard

/-- THE SECOND FORM's CARD OF 'ulplaw21.AlgHypots'. -/
def algHypotsUptoCard : Claim7 := { stood := { row := algHypotsUptoRow, standIns := [], harness := (true, "5877ac21bc2470f0225a45bbeef24a6ad71016f5fe07c7b6a408b9426289f588"), looks := false }, kinds := [], alts := [], laidByText := true, laidKinds := [.data], laidTests := true, laidLooks := .later }
def AlgHypotsUptoCardSaid : Prop := Claim7.holds Tryz.pinned (.plain (OpenSpec.upto algHypotsSpec)) algHypotsUptoCard

/-- THE SECOND FORM's CARD OF 'ulplaw21.AlgRises'. -/
def algRisesUptoCard : Claim7 := { stood := { row := algRisesUptoRow, standIns := [], harness := (true, "5877ac21bc2470f0225a45bbeef24a6ad71016f5fe07c7b6a408b9426289f588"), looks := false }, kinds := [], alts := [], laidByText := true, laidKinds := [.data], laidTests := true, laidLooks := .later }
def AlgRisesUptoCardSaid : Prop := Claim7.holds Tryz.pinned (.plain (OpenSpec.upto algRisesSpec)) algRisesUptoCard

/-- THE SECOND FORM's CARD OF 'ulplaw21.AlgBetween'. -/
def algBetweenUptoCard : Claim7 := { stood := { row := algBetweenUptoRow, standIns := [], harness := (true, "5877ac21bc2470f0225a45bbeef24a6ad71016f5fe07c7b6a408b9426289f588"), looks := false }, kinds := [], alts := [], laidByText := true, laidKinds := [.data], laidTests := true, laidLooks := .later }
def AlgBetweenUptoCardSaid : Prop := Claim7.holds Tryz.pinned (.plain (OpenSpec.upto algBetweenSpec)) algBetweenUptoCard
end Rows
end Go.Proofs.YtjnfipkbgmdpaaaGreatDoor
