/-
  DERIVED. GIVEN WITH THE SEED: THE CARDS: each row of YtemfckibdojbbaaDoorRows.lean that lists a variable, with what it lists TIED to the program's text (the seventh form; the later family's looks); each row that meets fmt, with fmt's text TOLD by the authors' own Lean function (tested against real Go, not proved from fmt's source: count such statements apart). THE CARD IS WHAT COUNTS. Prove the row's statement (the work); the ties are given (YtemfckibdojbbaaDoorTie.lean); close each card by the builder's one call (the guide's Derived/Test/ToyasCard.lean, 'card_holds'). Laid BY PROGRAM, IN A SANDBOX (cutbox-door.mjs). By AI agents, Wed Nov 11 2026. No macro, syntax, notation, axiom, sorry.
-/
import Derived.Test.YtemfckibdojbbaaDoorRows
import GoSem.ClaimSeven
namespace Go.Proofs.YtemfckibdojbbaaDoor
namespace Rows

/-- THE TIED CARD OF 'ulplaw04.DyadOwn'. -/
def dyadOwnCard : Claim7 := { stood := { row := dyadOwnRow, standIns := [], harness := (true, "05a167a8498bf93c75efab644efb1533d05f80eeeec4f217b1754190697faf23"), looks := false }, kinds := [], alts := [], laidByText := true, laidKinds := [.data], laidTests := true, laidLooks := .later }
def DyadOwnCardSaid : Prop := Claim7.holds Tryd.pinned (.plain (OpenSpec.ofChange dyadOwnSpec)) dyadOwnCard

/-- THE TIED CARD OF 'ulplaw04.DyadForms'. -/
def dyadFormsCard : Claim7 := { stood := { row := dyadFormsRow, standIns := [], harness := (true, "05a167a8498bf93c75efab644efb1533d05f80eeeec4f217b1754190697faf23"), looks := false }, kinds := [], alts := [], laidByText := true, laidKinds := [.data], laidTests := true, laidLooks := .later }
def DyadFormsCardSaid : Prop := Claim7.holds Tryd.pinned (.plain (OpenSpec.ofChange dyadFormsSpec)) dyadFormsCard

/-- THE TIED CARD OF 'ulplaw04.DyadTurns'. -/
def dyadTurnsCard : Claim7 := { stood := { row := dyadTurnsRow, standIns := [], harness := (true, "05a167a8498bf93c75efab644efb1533d05f80eeeec4f217b1754190697faf23"), looks := false }, kinds := [], alts := [], laidByText := true, laidKinds := [.data], laidTests := true, laidLooks := .later }
def DyadTurnsCardSaid : Prop := Claim7.holds Tryd.pinned (.plain (OpenSpec.ofChange dyadTurnsSpec)) dyadTurnsCard

/-- THE TIED CARD OF 'ulplaw04.DyadOrders'. -/
def dyadOrdersCard : Claim7 := { stood := { row := dyadOrdersRow, standIns := [], harness := (true, "05a167a8498bf93c75efab644efb1533d05f80eeeec4f217b1754190697faf23"), looks := false }, kinds := [], alts := [], laidByText := true, laidKinds := [.data], laidTests := true, laidLooks := .later }
def DyadOrdersCardSaid : Prop := Claim7.holds Tryd.pinned (.plain (OpenSpec.ofChange dyadOrdersSpec)) dyadOrdersCard

/-- THE TIED CARD OF 'ulplaw04.DyadCut'. -/
def dyadCutCard : Claim7 := { stood := { row := dyadCutRow, standIns := [], harness := (true, "05a167a8498bf93c75efab644efb1533d05f80eeeec4f217b1754190697faf23"), looks := false }, kinds := [], alts := [], laidByText := true, laidKinds := [.data], laidTests := true, laidLooks := .later }
def DyadCutCardSaid : Prop := Claim7.holds Tryd.pinned (.plain (OpenSpec.ofChange dyadCutSpec)) dyadCutCard

/-- THE TIED CARD OF 'ulplaw04.DyadFloats'. -/
def dyadFloatsCard : Claim7 := { stood := { row := dyadFloatsRow, standIns := [], harness := (true, "05a167a8498bf93c75efab644efb1533d05f80eeeec4f217b1754190697faf23"), looks := false }, kinds := [], alts := [], laidByText := true, laidKinds := [.data], laidTests := true, laidLooks := .later }
def DyadFloatsCardSaid : Prop := Claim7.holds Tryd.pinned (.plain (OpenSpec.ofChange dyadFloatsSpec)) dyadFloatsCard

/-- THE TIED CARD OF 'ulplaw04.DyadCuts'. -/
def dyadCutsCard : Claim7 := { stood := { row := dyadCutsRow, standIns := [], harness := (true, "05a167a8498bf93c75efab644efb1533d05f80eeeec4f217b1754190697faf23"), looks := false }, kinds := [], alts := [], laidByText := true, laidKinds := [.data], laidTests := true, laidLooks := .later }
def DyadCutsCardSaid : Prop := Claim7.holds Tryd.pinned (.plain (OpenSpec.ofChange dyadCutsSpec)) dyadCutsCard

/-- THE TIED CARD OF 'ulplaw04.DyadParts'. -/
def dyadPartsCard : Claim7 := { stood := { row := dyadPartsRow, standIns := [], harness := (true, "05a167a8498bf93c75efab644efb1533d05f80eeeec4f217b1754190697faf23"), looks := false }, kinds := [], alts := [], laidByText := true, laidKinds := [.data], laidTests := true, laidLooks := .later }
def DyadPartsCardSaid : Prop := Claim7.holds Tryd.pinned (.plain (OpenSpec.ofChange dyadPartsSpec)) dyadPartsCard

/-- THE TIED CARD OF 'ulplaw04.DyadExact'. -/
def dyadExactCard : Claim7 := { stood := { row := dyadExactRow, standIns := [], harness := (true, "05a167a8498bf93c75efab644efb1533d05f80eeeec4f217b1754190697faf23"), looks := false }, kinds := [], alts := [], laidByText := true, laidKinds := [.data], laidTests := true, laidLooks := .later }
def DyadExactCardSaid : Prop := Claim7.holds Tryd.pinned (.plain (OpenSpec.ofChange dyadExactSpec)) dyadExactCard

/-- THE TIED CARD OF 'ulplaw04.DyadSums'. -/
def dyadSumsCard : Claim7 := { stood := { row := dyadSumsRow, standIns := [], harness := (true, "05a167a8498bf93c75efab644efb1533d05f80eeeec4f217b1754190697faf23"), looks := false }, kinds := [], alts := [], laidByText := true, laidKinds := [.data], laidTests := true, laidLooks := .later }
def DyadSumsCardSaid : Prop := Claim7.holds Tryd.pinned (.plain (OpenSpec.ofChange dyadSumsSpec)) dyadSumsCard

/-- THE TIED CARD OF 'ulplaw04.DyadRing'. -/
def dyadRingCard : Claim7 := { stood := { row := dyadRingRow, standIns := [], harness := (true, "05a167a8498bf93c75efab644efb1533d05f80eeeec4f217b1754190697faf23"), looks := false }, kinds := [], alts := [], laidByText := true, laidKinds := [.data], laidTests := true, laidLooks := .later }
def DyadRingCardSaid : Prop := Claim7.holds Tryd.pinned (.plain (OpenSpec.ofChange dyadRingSpec)) dyadRingCard

/-- THE TIED CARD OF 'ulplaw04.DyadShifts'. -/
def dyadShiftsCard : Claim7 := { stood := { row := dyadShiftsRow, standIns := [], harness := (true, "05a167a8498bf93c75efab644efb1533d05f80eeeec4f217b1754190697faf23"), looks := false }, kinds := [], alts := [], laidByText := true, laidKinds := [.data], laidTests := true, laidLooks := .later }
def DyadShiftsCardSaid : Prop := Claim7.holds Tryd.pinned (.plain (OpenSpec.ofChange dyadShiftsSpec)) dyadShiftsCard

/-- THE SECOND FORM's CARD OF 'ulplaw04.DyadOwn'. -/
def dyadOwnUptoCard : Claim7 := { stood := { row := dyadOwnUptoRow, standIns := [], harness := (true, "05a167a8498bf93c75efab644efb1533d05f80eeeec4f217b1754190697faf23"), looks := false }, kinds := [], alts := [], laidByText := true, laidKinds := [.data], laidTests := true, laidLooks := .later }
def DyadOwnUptoCardSaid : Prop := Claim7.holds Tryd.pinned (.plain (OpenSpec.upto dyadOwnSpec)) dyadOwnUptoCard

/-- THE SECOND FORM's CARD OF 'ulplaw04.DyadForms'. -/
def dyadFormsUptoCard : Claim7 := { stood := { row := dyadFormsUptoRow, standIns := [], harness := (true, "05a167a8498bf93c75efab644efb1533d05f80eeeec4f217b1754190697faf23"), looks := false }, kinds := [], alts := [], laidByText := true, laidKinds := [.data], laidTests := true, laidLooks := .later }
def DyadFormsUptoCardSaid : Prop := Claim7.holds Tryd.pinned (.plain (OpenSpec.upto dyadFormsSpec)) dyadFormsUptoCard

/-- THE SECOND FORM's CARD OF 'ulplaw04.DyadTurns'. -/
def dyadTurnsUptoCard : Claim7 := { stood := { row := dyadTurnsUptoRow, standIns := [], harness := (true, "05a167a8498bf93c75efab644efb1533d05f80eeeec4f217b1754190697faf23"), looks := false }, kinds := [], alts := [], laidByText := true, laidKinds := [.data], laidTests := true, laidLooks := .later }
def DyadTurnsUptoCardSaid : Prop := Claim7.holds Tryd.pinned (.plain (OpenSpec.upto dyadTurnsSpec)) dyadTurnsUptoCard

/-- THE SECOND FORM's CARD OF 'ulplaw04.DyadOrders'. -/
def dyadOrdersUptoCard : Claim7 := { stood := { row := dyadOrdersUptoRow, standIns := [], harness := (true, "05a167a8498bf93c75efab644efb1533d05f80eeeec4f217b1754190697faf23"), looks := false }, kinds := [], alts := [], laidByText := true, laidKinds := [.data], laidTests := true, laidLooks := .later }
def DyadOrdersUptoCardSaid : Prop := Claim7.holds Tryd.pinned (.plain (OpenSpec.upto dyadOrdersSpec)) dyadOrdersUptoCard

/-- THE SECOND FORM's CARD OF 'ulplaw04.DyadCut'. -/
def dyadCutUptoCard : Claim7 := { stood := { row := dyadCutUptoRow, standIns := [], harness := (true, "05a167a8498bf93c75efab644efb1533d05f80eeeec4f217b1754190697faf23"), looks := false }, kinds := [], alts := [], laidByText := true, laidKinds := [.data], laidTests := true, laidLooks := .later }
def DyadCutUptoCardSaid : Prop := Claim7.holds Tryd.pinned (.plain (OpenSpec.upto dyadCutSpec)) dyadCutUptoCard

/-- THE SECOND FORM's CARD OF 'ulplaw04.DyadFloats'. -/
def dyadFloatsUptoCard : Claim7 := { stood := { row := dyadFloatsUptoRow, standIns := [], harness := (true, "05a167a8498bf93c75efab644efb1533d05f80eeeec4f217b1754190697faf23"), looks := false }, kinds := [], alts := [], laidByText := true, laidKinds := [.data], laidTests := true, laidLooks := .later }
def DyadFloatsUptoCardSaid : Prop := Claim7.holds Tryd.pinned (.plain (OpenSpec.upto dyadFloatsSpec)) dyadFloatsUptoCard

/-- THE SECOND FORM's CARD OF 'ulplaw04.DyadCuts'. -/
def dyadCutsUptoCard : Claim7 := { stood := { row := dyadCutsUptoRow, standIns := [], harness := (true, "05a167a8498bf93c75efab644efb1533d05f80eeeec4f217b1754190697faf23"), looks := false }, kinds := [], alts := [], laidByText := true, laidKinds := [.data], laidTests := true, laidLooks := .later }
def DyadCutsUptoCardSaid : Prop := Claim7.holds Tryd.pinned (.plain (OpenSpec.upto dyadCutsSpec)) dyadCutsUptoCard

/-- THE SECOND FORM's CARD OF 'ulplaw04.DyadParts'. -/
def dyadPartsUptoCard : Claim7 := { stood := { row := dyadPartsUptoRow, standIns := [], harness := (true, "05a167a8498bf93c75efab644efb1533d05f80eeeec4f217b1754190697faf23"), looks := false }, kinds := [], alts := [], laidByText := true, laidKinds := [.data], laidTests := true, laidLooks := .later }
def DyadPartsUptoCardSaid : Prop := Claim7.holds Tryd.pinned (.plain (OpenSpec.upto dyadPartsSpec)) dyadPartsUptoCard

/-- THE SECOND FORM's CARD OF 'ulplaw04.DyadExact'. -/
def dyadExactUptoCard : Claim7 := { stood := { row := dyadExactUptoRow, standIns := [], harness := (true, "05a167a8498bf93c75efab644efb1533d05f80eeeec4f217b1754190697faf23"), looks := false }, kinds := [], alts := [], laidByText := true, laidKinds := [.data], laidTests := true, laidLooks := .later }
def DyadExactUptoCardSaid : Prop := Claim7.holds Tryd.pinned (.plain (OpenSpec.upto dyadExactSpec)) dyadExactUptoCard

/-- THE SECOND FORM's CARD OF 'ulplaw04.DyadSums'. -/
def dyadSumsUptoCard : Claim7 := { stood := { row := dyadSumsUptoRow, standIns := [], harness := (true, "05a167a8498bf93c75efab644efb1533d05f80eeeec4f217b1754190697faf23"), looks := false }, kinds := [], alts := [], laidByText := true, laidKinds := [.data], laidTests := true, laidLooks := .later }
def DyadSumsUptoCardSaid : Prop := Claim7.holds Tryd.pinned (.plain (OpenSpec.upto dyadSumsSpec)) dyadSumsUptoCard

/-- THE SECOND FORM's CARD OF 'ulplaw04.DyadRing'. -/
def dyadRingUptoCard : Claim7 := { stood := { row := dyadRingUptoRow, standIns := [], harness := (true, "05a167a8498bf93c75efab644efb1533d05f80eeeec4f217b1754190697faf23"), looks := false }, kinds := [], alts := [], laidByText := true, laidKinds := [.data], laidTests := true, laidLooks := .later }
def DyadRingUptoCardSaid : Prop := Claim7.holds Tryd.pinned (.plain (OpenSpec.upto dyadRingSpec)) dyadRingUptoCard

/-- THE SECOND FORM's CARD OF 'ulplaw04.DyadShifts'. -/
def dyadShiftsUptoCard : Claim7 := { stood := { row := dyadShiftsUptoRow, standIns := [], harness := (true, "05a167a8498bf93c75efab644efb1533d05f80eeeec4f217b1754190697faf23"), looks := false }, kinds := [], alts := [], laidByText := true, laidKinds := [.data], laidTests := true, laidLooks := .later }
def DyadShiftsUptoCardSaid : Prop := Claim7.holds Tryd.pinned (.plain (OpenSpec.upto dyadShiftsSpec)) dyadShiftsUptoCard
end Rows
end Go.Proofs.YtemfckibdojbbaaDoor
