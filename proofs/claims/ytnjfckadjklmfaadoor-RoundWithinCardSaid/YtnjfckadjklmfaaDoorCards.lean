/-
  DERIVED. GIVEN WITH THE SEED: THE CARDS: each row of YtnjfckadjklmfaaDoorRows.lean that lists a variable, with what it lists TIED to the program's text (the seventh form; the later family's looks); each row that meets fmt, with fmt's text TOLD by the authors' own Lean function (tested against real Go, not proved from fmt's source: count such statements apart). THE CARD IS WHAT COUNTS. Prove the row's statement (the work); the ties are given (YtnjfckadjklmfaaDoorTie.lean); close each card by the builder's one call (the guide's Derived/Test/ToyasCard.lean, 'card_holds'). Laid BY PROGRAM, IN A SANDBOX (cutbox-door.mjs). By AI agents, Wed Nov 11 2026. No macro, syntax, notation, axiom, sorry.
-/
import Derived.Test.YtnjfckadjklmfaaDoorRows
import GoSem.ClaimSeven
namespace Go.Proofs.YtnjfckadjklmfaaDoor
namespace Rows

/-- THE TIED CARD OF 'ulplaw05.RoundNears'. -/
def roundNearsCard : Claim7 := { stood := { row := roundNearsRow, standIns := [], harness := (true, "aea913fd0150563840ed207a15994377d3cee48bc89f8014d432e4759197a803"), looks := false }, kinds := [], alts := [], laidByText := true, laidKinds := [.data], laidTests := true, laidLooks := .later }
def RoundNearsCardSaid : Prop := Claim7.holds Tryd.pinned (.plain (OpenSpec.ofChange roundNearsSpec)) roundNearsCard

/-- THE TIED CARD OF 'ulplaw05.RoundRises'. -/
def roundRisesCard : Claim7 := { stood := { row := roundRisesRow, standIns := [], harness := (true, "aea913fd0150563840ed207a15994377d3cee48bc89f8014d432e4759197a803"), looks := false }, kinds := [], alts := [], laidByText := true, laidKinds := [.data], laidTests := true, laidLooks := .later }
def RoundRisesCardSaid : Prop := Claim7.holds Tryd.pinned (.plain (OpenSpec.ofChange roundRisesSpec)) roundRisesCard

/-- THE TIED CARD OF 'ulplaw05.RoundOnce'. -/
def roundOnceCard : Claim7 := { stood := { row := roundOnceRow, standIns := [], harness := (true, "aea913fd0150563840ed207a15994377d3cee48bc89f8014d432e4759197a803"), looks := false }, kinds := [], alts := [], laidByText := true, laidKinds := [.data], laidTests := true, laidLooks := .later }
def RoundOnceCardSaid : Prop := Claim7.holds Tryd.pinned (.plain (OpenSpec.ofChange roundOnceSpec)) roundOnceCard

/-- THE TIED CARD OF 'ulplaw05.RoundWithin'. -/
def roundWithinCard : Claim7 := { stood := { row := roundWithinRow, standIns := [], harness := (true, "aea913fd0150563840ed207a15994377d3cee48bc89f8014d432e4759197a803"), looks := false }, kinds := [], alts := [], laidByText := true, laidKinds := [.data], laidTests := true, laidLooks := .later }
def RoundWithinCardSaid : Prop := Claim7.holds Tryd.pinned (.plain (OpenSpec.ofChange roundWithinSpec)) roundWithinCard

/-- THE TIED CARD OF 'ulplaw05.RoundPoints'. -/
def roundPointsCard : Claim7 := { stood := { row := roundPointsRow, standIns := [], harness := (true, "aea913fd0150563840ed207a15994377d3cee48bc89f8014d432e4759197a803"), looks := false }, kinds := [], alts := [], laidByText := true, laidKinds := [.data], laidTests := true, laidLooks := .later }
def RoundPointsCardSaid : Prop := Claim7.holds Tryd.pinned (.plain (OpenSpec.ofChange roundPointsSpec)) roundPointsCard

/-- THE SECOND FORM's CARD OF 'ulplaw05.RoundNears'. -/
def roundNearsUptoCard : Claim7 := { stood := { row := roundNearsUptoRow, standIns := [], harness := (true, "aea913fd0150563840ed207a15994377d3cee48bc89f8014d432e4759197a803"), looks := false }, kinds := [], alts := [], laidByText := true, laidKinds := [.data], laidTests := true, laidLooks := .later }
def RoundNearsUptoCardSaid : Prop := Claim7.holds Tryd.pinned (.plain (OpenSpec.upto roundNearsSpec)) roundNearsUptoCard

/-- THE SECOND FORM's CARD OF 'ulplaw05.RoundRises'. -/
def roundRisesUptoCard : Claim7 := { stood := { row := roundRisesUptoRow, standIns := [], harness := (true, "aea913fd0150563840ed207a15994377d3cee48bc89f8014d432e4759197a803"), looks := false }, kinds := [], alts := [], laidByText := true, laidKinds := [.data], laidTests := true, laidLooks := .later }
def RoundRisesUptoCardSaid : Prop := Claim7.holds Tryd.pinned (.plain (OpenSpec.upto roundRisesSpec)) roundRisesUptoCard

/-- THE SECOND FORM's CARD OF 'ulplaw05.RoundOnce'. -/
def roundOnceUptoCard : Claim7 := { stood := { row := roundOnceUptoRow, standIns := [], harness := (true, "aea913fd0150563840ed207a15994377d3cee48bc89f8014d432e4759197a803"), looks := false }, kinds := [], alts := [], laidByText := true, laidKinds := [.data], laidTests := true, laidLooks := .later }
def RoundOnceUptoCardSaid : Prop := Claim7.holds Tryd.pinned (.plain (OpenSpec.upto roundOnceSpec)) roundOnceUptoCard

/-- THE SECOND FORM's CARD OF 'ulplaw05.RoundWithin'. -/
def roundWithinUptoCard : Claim7 := { stood := { row := roundWithinUptoRow, standIns := [], harness := (true, "aea913fd0150563840ed207a15994377d3cee48bc89f8014d432e4759197a803"), looks := false }, kinds := [], alts := [], laidByText := true, laidKinds := [.data], laidTests := true, laidLooks := .later }
def RoundWithinUptoCardSaid : Prop := Claim7.holds Tryd.pinned (.plain (OpenSpec.upto roundWithinSpec)) roundWithinUptoCard

/-- THE SECOND FORM's CARD OF 'ulplaw05.RoundPoints'. -/
def roundPointsUptoCard : Claim7 := { stood := { row := roundPointsUptoRow, standIns := [], harness := (true, "aea913fd0150563840ed207a15994377d3cee48bc89f8014d432e4759197a803"), looks := false }, kinds := [], alts := [], laidByText := true, laidKinds := [.data], laidTests := true, laidLooks := .later }
def RoundPointsUptoCardSaid : Prop := Claim7.holds Tryd.pinned (.plain (OpenSpec.upto roundPointsSpec)) roundPointsUptoCard
end Rows
end Go.Proofs.YtnjfckadjklmfaaDoor
