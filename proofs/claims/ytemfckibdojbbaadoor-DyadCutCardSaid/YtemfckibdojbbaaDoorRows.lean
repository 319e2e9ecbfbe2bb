/-
  NARROWER THAN 'FOR EVERY INPUT', by the rows' own cells (each row's printed sentence says how): DyadOwn: laid · DyadForms: laid · DyadTurns: laid · DyadOrders: laid · DyadCut: laid · DyadFloats: laid · DyadCuts: laid · DyadParts: laid · DyadExact: laid · DyadSums: laid · DyadRing: laid · DyadShifts: laid.
  DERIVED. THE GIVEN ROWS OF THIS SEAT. 12 by the template 'for every input the law returns true; each argument reads behind the call as it read before'; 0 by the template 'total and deterministic' (their statements: YtemfckibdojbbaaDoorTotals.lean).
  GIVEN WITH THE SEED: the statements are not yours to turn. If you find one false, say at which input.
  Laid BY PROGRAM, IN A SANDBOX (cutbox-rows.mjs): the forced cells as the released guide's own fill.sh prints them over the translation b6cab18fc8b1e016… (all of the seat's roots in one cut). By AI agents, Wed Nov 11 2026. No macro, syntax, notation, axiom, sorry.
-/
import Derived.Test.YtemfckibdojbbaaDoorChecked
import GoSem.Claim
import GoSem.ClaimJoined
import GoSem.ClaimMapViews
import Derived.JoinedTies
import Derived.KernelRfl
namespace Go.Proofs.YtemfckibdojbbaaDoor
/- THE CELL 'sum', in the pinned program and in every row, IS THE sha256 OF THE DUMP (.gsa) THAT YtemfckibdojbbaaDoorProg.lean LOADS. Nothing in Lean hashes anything: it is a label: what it is worth is what the hold of that sum in a sandbox is worth. -/
noncomputable def Tryd.pinned : Pinned := { name := "ytemfckibdojbbaadoor", sum := "b6cab18fc8b1e016402e09c6c32b6e19483a3d2b0c1e7046bd95c982eac9b8b5", checked := Tryd.checked }
namespace Rows
def none {H : Type} : Left H := { results := [], args := [] }

/- WHAT THE LISTED PACKAGE-LEVEL VARIABLES READ AS WHEN THE CALL BEGINS. Each datum BY PROGRAM (the guide's laid-datum.mjs) off the statement by which the dump's own 'gosem.cut.vars' lays the variable. In a bare row this is a premise. The card (YtemfckibdojbbaaDoorCards.lean) ties it to the program's text. -/
def laid_math_bits_deBruijn64tab {H : Type} : DataW H := .agg [.lit (.int .u8 0), .lit (.int .u8 1), .lit (.int .u8 56), .lit (.int .u8 2), .lit (.int .u8 57), .lit (.int .u8 49), .lit (.int .u8 28), .lit (.int .u8 3), .lit (.int .u8 61), .lit (.int .u8 58), .lit (.int .u8 42), .lit (.int .u8 50), .lit (.int .u8 38), .lit (.int .u8 29), .lit (.int .u8 17), .lit (.int .u8 4), .lit (.int .u8 62), .lit (.int .u8 47), .lit (.int .u8 59), .lit (.int .u8 36), .lit (.int .u8 45), .lit (.int .u8 43), .lit (.int .u8 51), .lit (.int .u8 22), .lit (.int .u8 53), .lit (.int .u8 39), .lit (.int .u8 33), .lit (.int .u8 30), .lit (.int .u8 24), .lit (.int .u8 18), .lit (.int .u8 12), .lit (.int .u8 5), .lit (.int .u8 63), .lit (.int .u8 55), .lit (.int .u8 48), .lit (.int .u8 27), .lit (.int .u8 60), .lit (.int .u8 41), .lit (.int .u8 37), .lit (.int .u8 16), .lit (.int .u8 46), .lit (.int .u8 35), .lit (.int .u8 44), .lit (.int .u8 21), .lit (.int .u8 52), .lit (.int .u8 32), .lit (.int .u8 23), .lit (.int .u8 11), .lit (.int .u8 54), .lit (.int .u8 26), .lit (.int .u8 40), .lit (.int .u8 15), .lit (.int .u8 34), .lit (.int .u8 20), .lit (.int .u8 31), .lit (.int .u8 10), .lit (.int .u8 25), .lit (.int .u8 14), .lit (.int .u8 19), .lit (.int .u8 9), .lit (.int .u8 13), .lit (.int .u8 8), .lit (.int .u8 7), .lit (.int .u8 6)]

/-- 'ulplaw04.DyadOwn': WHATEVER THE INPUT: true; the input reads as it did. -/
def dyadOwnSpec : ChangeSpec := { name := "dyadOwn", fn := fun _ => fun
  | [d1, d2, d3] => { results := [.lit (.bool true)], args := [d1, d2, d3] }
  | _ => none }
def dyadOwnRow : OpenClaim := { program := "ytemfckibdojbbaadoor", sum := "b6cab18fc8b1e016402e09c6c32b6e19483a3d2b0c1e7046bd95c982eac9b8b5", func := "ulp/ulplaw04.DyadOwn", spec := "dyadOwn", inPlace := ["math/bits.Add64", "math/bits.Sub64"], unfollowed := true, recurses := true, named := ["math/bits.deBruijn64tab"], apart := false, laid := [("math/bits.deBruijn64tab", laid_math_bits_deBruijn64tab)] }
def DyadOwnSaid : Prop := dyadOwnRow.holds Tryd.pinned (OpenSpec.ofChange dyadOwnSpec)

/-- ITS FALSE NEIGHBOUR: 'it returns false'. Refute it at one input. -/
def dyadOwnWrong : ChangeSpec := { name := "dyadOwn", fn := fun _ => fun
  | [d1, d2, d3] => { results := [.lit (.bool false)], args := [d1, d2, d3] }
  | _ => none }
def DyadOwnWrongFalsely : Prop := dyadOwnRow.holds Tryd.pinned (OpenSpec.ofChange dyadOwnWrong)

/-- 'ulplaw04.DyadForms': WHATEVER THE INPUT: true; the input reads as it did. -/
def dyadFormsSpec : ChangeSpec := { name := "dyadForms", fn := fun _ => fun
  | [d] => { results := [.lit (.bool true)], args := [d] }
  | _ => none }
def dyadFormsRow : OpenClaim := { program := "ytemfckibdojbbaadoor", sum := "b6cab18fc8b1e016402e09c6c32b6e19483a3d2b0c1e7046bd95c982eac9b8b5", func := "ulp/ulplaw04.DyadForms", spec := "dyadForms", inPlace := ["math/bits.Add64", "math/bits.Sub64"], unfollowed := true, recurses := true, named := ["math/bits.deBruijn64tab"], apart := false, laid := [("math/bits.deBruijn64tab", laid_math_bits_deBruijn64tab)] }
def DyadFormsSaid : Prop := dyadFormsRow.holds Tryd.pinned (OpenSpec.ofChange dyadFormsSpec)

/-- ITS FALSE NEIGHBOUR: 'it returns false'. Refute it at one input. -/
def dyadFormsWrong : ChangeSpec := { name := "dyadForms", fn := fun _ => fun
  | [d] => { results := [.lit (.bool false)], args := [d] }
  | _ => none }
def DyadFormsWrongFalsely : Prop := dyadFormsRow.holds Tryd.pinned (OpenSpec.ofChange dyadFormsWrong)

/-- 'ulplaw04.DyadTurns': WHATEVER THE INPUT: true; the input reads as it did. -/
def dyadTurnsSpec : ChangeSpec := { name := "dyadTurns", fn := fun _ => fun
  | [d1, d2] => { results := [.lit (.bool true)], args := [d1, d2] }
  | _ => none }
def dyadTurnsRow : OpenClaim := { program := "ytemfckibdojbbaadoor", sum := "b6cab18fc8b1e016402e09c6c32b6e19483a3d2b0c1e7046bd95c982eac9b8b5", func := "ulp/ulplaw04.DyadTurns", spec := "dyadTurns", inPlace := ["math/bits.Add64", "math/bits.Sub64"], unfollowed := true, recurses := true, named := ["math/bits.deBruijn64tab"], apart := false, laid := [("math/bits.deBruijn64tab", laid_math_bits_deBruijn64tab)] }
def DyadTurnsSaid : Prop := dyadTurnsRow.holds Tryd.pinned (OpenSpec.ofChange dyadTurnsSpec)

/-- ITS FALSE NEIGHBOUR: 'it returns false'. Refute it at one input. -/
def dyadTurnsWrong : ChangeSpec := { name := "dyadTurns", fn := fun _ => fun
  | [d1, d2] => { results := [.lit (.bool false)], args := [d1, d2] }
  | _ => none }
def DyadTurnsWrongFalsely : Prop := dyadTurnsRow.holds Tryd.pinned (OpenSpec.ofChange dyadTurnsWrong)

/-- 'ulplaw04.DyadOrders': WHATEVER THE INPUT: true; the input reads as it did. -/
def dyadOrdersSpec : ChangeSpec := { name := "dyadOrders", fn := fun _ => fun
  | [d1, d2] => { results := [.lit (.bool true)], args := [d1, d2] }
  | _ => none }
def dyadOrdersRow : OpenClaim := { program := "ytemfckibdojbbaadoor", sum := "b6cab18fc8b1e016402e09c6c32b6e19483a3d2b0c1e7046bd95c982eac9b8b5", func := "ulp/ulplaw04.DyadOrders", spec := "dyadOrders", inPlace := ["math/bits.Add64", "math/bits.Sub64"], unfollowed := true, recurses := true, named := ["math/bits.deBruijn64tab"], apart := false, laid := [("math/bits.deBruijn64tab", laid_math_bits_deBruijn64tab)] }
def DyadOrdersSaid : Prop := dyadOrdersRow.holds Tryd.pinned (OpenSpec.ofChange dyadOrdersSpec)

/-- ITS FALSE NEIGHBOUR: 'it returns false'. Refute it at one input. -/
def dyadOrdersWrong : ChangeSpec := { name := "dyadOrders", fn := fun _ => fun
  | [d1, d2] => { results := [.lit (.bool false)], args := [d1, d2] }
  | _ => none }
def DyadOrdersWrongFalsely : Prop := dyadOrdersRow.holds Tryd.pinned (OpenSpec.ofChange dyadOrdersWrong)

/-- 'ulplaw04.DyadCut': WHATEVER THE INPUT: true; the input reads as it did. -/
def dyadCutSpec : ChangeSpec := { name := "dyadCut", fn := fun _ => fun
  | [d1, d2] => { results := [.lit (.bool true)], args := [d1, d2] }
  | _ => none }
def dyadCutRow : OpenClaim := { program := "ytemfckibdojbbaadoor", sum := "b6cab18fc8b1e016402e09c6c32b6e19483a3d2b0c1e7046bd95c982eac9b8b5", func := "ulp/ulplaw04.DyadCut", spec := "dyadCut", inPlace := ["math/bits.Add64", "math/bits.Sub64"], unfollowed := true, recurses := true, named := ["math/bits.deBruijn64tab"], apart := false, laid := [("math/bits.deBruijn64tab", laid_math_bits_deBruijn64tab)] }
def DyadCutSaid : Prop := dyadCutRow.holds Tryd.pinned (OpenSpec.ofChange dyadCutSpec)

/-- ITS FALSE NEIGHBOUR: 'it returns false'. Refute it at one input. -/
def dyadCutWrong : ChangeSpec := { name := "dyadCut", fn := fun _ => fun
  | [d1, d2] => { results := [.lit (.bool false)], args := [d1, d2] }
  | _ => none }
def DyadCutWrongFalsely : Prop := dyadCutRow.holds Tryd.pinned (OpenSpec.ofChange dyadCutWrong)

/-- 'ulplaw04.DyadFloats': WHATEVER THE INPUT: true; the input reads as it did. -/
def dyadFloatsSpec : ChangeSpec := { name := "dyadFloats", fn := fun _ => fun
  | [d1, d2, d3] => { results := [.lit (.bool true)], args := [d1, d2, d3] }
  | _ => none }
def dyadFloatsRow : OpenClaim := { program := "ytemfckibdojbbaadoor", sum := "b6cab18fc8b1e016402e09c6c32b6e19483a3d2b0c1e7046bd95c982eac9b8b5", func := "ulp/ulplaw04.DyadFloats", spec := "dyadFloats", inPlace := ["math/bits.Add64", "math/bits.Sub64"], unfollowed := true, recurses := true, named := ["math/bits.deBruijn64tab"], apart := false, laid := [("math/bits.deBruijn64tab", laid_math_bits_deBruijn64tab)] }
def DyadFloatsSaid : Prop := dyadFloatsRow.holds Tryd.pinned (OpenSpec.ofChange dyadFloatsSpec)

/-- ITS FALSE NEIGHBOUR: 'it returns false'. Refute it at one input. -/
def dyadFloatsWrong : ChangeSpec := { name := "dyadFloats", fn := fun _ => fun
  | [d1, d2, d3] => { results := [.lit (.bool false)], args := [d1, d2, d3] }
  | _ => none }
def DyadFloatsWrongFalsely : Prop := dyadFloatsRow.holds Tryd.pinned (OpenSpec.ofChange dyadFloatsWrong)

/-- 'ulplaw04.DyadCuts': WHATEVER THE INPUT: true; the input reads as it did. -/
def dyadCutsSpec : ChangeSpec := { name := "dyadCuts", fn := fun _ => fun
  | [d1, d2, d3] => { results := [.lit (.bool true)], args := [d1, d2, d3] }
  | _ => none }
def dyadCutsRow : OpenClaim := { program := "ytemfckibdojbbaadoor", sum := "b6cab18fc8b1e016402e09c6c32b6e19483a3d2b0c1e7046bd95c982eac9b8b5", func := "ulp/ulplaw04.DyadCuts", spec := "dyadCuts", inPlace := ["math/bits.Add64", "math/bits.Sub64"], unfollowed := true, recurses := true, named := ["math/bits.deBruijn64tab"], apart := false, laid := [("math/bits.deBruijn64tab", laid_math_bits_deBruijn64tab)] }
def DyadCutsSaid : Prop := dyadCutsRow.holds Tryd.pinned (OpenSpec.ofChange dyadCutsSpec)

/-- ITS FALSE NEIGHBOUR: 'it returns false'. Refute it at one input. -/
def dyadCutsWrong : ChangeSpec := { name := "dyadCuts", fn := fun _ => fun
  | [d1, d2, d3] => { results := [.lit (.bool false)], args := [d1, d2, d3] }
  | _ => none }
def DyadCutsWrongFalsely : Prop := dyadCutsRow.holds Tryd.pinned (OpenSpec.ofChange dyadCutsWrong)

/-- 'ulplaw04.DyadParts': WHATEVER THE INPUT: true; the input reads as it did. -/
def dyadPartsSpec : ChangeSpec := { name := "dyadParts", fn := fun _ => fun
  | [d] => { results := [.lit (.bool true)], args := [d] }
  | _ => none }
def dyadPartsRow : OpenClaim := { program := "ytemfckibdojbbaadoor", sum := "b6cab18fc8b1e016402e09c6c32b6e19483a3d2b0c1e7046bd95c982eac9b8b5", func := "ulp/ulplaw04.DyadParts", spec := "dyadParts", inPlace := ["math/bits.Add64", "math/bits.Sub64"], unfollowed := true, recurses := true, named := ["math/bits.deBruijn64tab"], apart := false, laid := [("math/bits.deBruijn64tab", laid_math_bits_deBruijn64tab)] }
def DyadPartsSaid : Prop := dyadPartsRow.holds Tryd.pinned (OpenSpec.ofChange dyadPartsSpec)

/-- ITS FALSE NEIGHBOUR: 'it returns false'. Refute it at one input. -/
def dyadPartsWrong : ChangeSpec := { name := "dyadParts", fn := fun _ => fun
  | [d] => { results := [.lit (.bool false)], args := [d] }
  | _ => none }
def DyadPartsWrongFalsely : Prop := dyadPartsRow.holds Tryd.pinned (OpenSpec.ofChange dyadPartsWrong)

/-- 'ulplaw04.DyadExact': WHATEVER THE INPUT: true; the input reads as it did. -/
def dyadExactSpec : ChangeSpec := { name := "dyadExact", fn := fun _ => fun
  | [d1, d2] => { results := [.lit (.bool true)], args := [d1, d2] }
  | _ => none }
def dyadExactRow : OpenClaim := { program := "ytemfckibdojbbaadoor", sum := "b6cab18fc8b1e016402e09c6c32b6e19483a3d2b0c1e7046bd95c982eac9b8b5", func := "ulp/ulplaw04.DyadExact", spec := "dyadExact", inPlace := ["math/bits.Add64", "math/bits.Sub64"], unfollowed := true, recurses := true, named := ["math/bits.deBruijn64tab"], apart := false, laid := [("math/bits.deBruijn64tab", laid_math_bits_deBruijn64tab)] }
def DyadExactSaid : Prop := dyadExactRow.holds Tryd.pinned (OpenSpec.ofChange dyadExactSpec)

/-- ITS FALSE NEIGHBOUR: 'it returns false'. Refute it at one input. -/
def dyadExactWrong : ChangeSpec := { name := "dyadExact", fn := fun _ => fun
  | [d1, d2] => { results := [.lit (.bool false)], args := [d1, d2] }
  | _ => none }
def DyadExactWrongFalsely : Prop := dyadExactRow.holds Tryd.pinned (OpenSpec.ofChange dyadExactWrong)

/-- 'ulplaw04.DyadSums': WHATEVER THE INPUT: true; the input reads as it did. -/
def dyadSumsSpec : ChangeSpec := { name := "dyadSums", fn := fun _ => fun
  | [d1, d2] => { results := [.lit (.bool true)], args := [d1, d2] }
  | _ => none }
def dyadSumsRow : OpenClaim := { program := "ytemfckibdojbbaadoor", sum := "b6cab18fc8b1e016402e09c6c32b6e19483a3d2b0c1e7046bd95c982eac9b8b5", func := "ulp/ulplaw04.DyadSums", spec := "dyadSums", inPlace := ["math/bits.Add64", "math/bits.Sub64"], unfollowed := true, recurses := true, named := ["math/bits.deBruijn64tab"], apart := false, laid := [("math/bits.deBruijn64tab", laid_math_bits_deBruijn64tab)] }
def DyadSumsSaid : Prop := dyadSumsRow.holds Tryd.pinned (OpenSpec.ofChange dyadSumsSpec)

/-- ITS FALSE NEIGHBOUR: 'it returns false'. Refute it at one input. -/
def dyadSumsWrong : ChangeSpec := { name := "dyadSums", fn := fun _ => fun
  | [d1, d2] => { results := [.lit (.bool false)], args := [d1, d2] }
  | _ => none }
def DyadSumsWrongFalsely : Prop := dyadSumsRow.holds Tryd.pinned (OpenSpec.ofChange dyadSumsWrong)

/-- 'ulplaw04.DyadRing': WHATEVER THE INPUT: true; the input reads as it did. -/
def dyadRingSpec : ChangeSpec := { name := "dyadRing", fn := fun _ => fun
  | [d1, d2, d3] => { results := [.lit (.bool true)], args := [d1, d2, d3] }
  | _ => none }
def dyadRingRow : OpenClaim := { program := "ytemfckibdojbbaadoor", sum := "b6cab18fc8b1e016402e09c6c32b6e19483a3d2b0c1e7046bd95c982eac9b8b5", func := "ulp/ulplaw04.DyadRing", spec := "dyadRing", inPlace := ["math/bits.Add64", "math/bits.Sub64"], unfollowed := true, recurses := true, named := ["math/bits.deBruijn64tab"], apart := false, laid := [("math/bits.deBruijn64tab", laid_math_bits_deBruijn64tab)] }
def DyadRingSaid : Prop := dyadRingRow.holds Tryd.pinned (OpenSpec.ofChange dyadRingSpec)

/-- ITS FALSE NEIGHBOUR: 'it returns false'. Refute it at one input. -/
def dyadRingWrong : ChangeSpec := { name := "dyadRing", fn := fun _ => fun
  | [d1, d2, d3] => { results := [.lit (.bool false)], args := [d1, d2, d3] }
  | _ => none }
def DyadRingWrongFalsely : Prop := dyadRingRow.holds Tryd.pinned (OpenSpec.ofChange dyadRingWrong)

/-- 'ulplaw04.DyadShifts': WHATEVER THE INPUT: true; the input reads as it did. -/
def dyadShiftsSpec : ChangeSpec := { name := "dyadShifts", fn := fun _ => fun
  | [d1, d2] => { results := [.lit (.bool true)], args := [d1, d2] }
  | _ => none }
def dyadShiftsRow : OpenClaim := { program := "ytemfckibdojbbaadoor", sum := "b6cab18fc8b1e016402e09c6c32b6e19483a3d2b0c1e7046bd95c982eac9b8b5", func := "ulp/ulplaw04.DyadShifts", spec := "dyadShifts", inPlace := ["math/bits.Add64", "math/bits.Sub64"], unfollowed := true, recurses := true, named := ["math/bits.deBruijn64tab"], apart := false, laid := [("math/bits.deBruijn64tab", laid_math_bits_deBruijn64tab)] }
def DyadShiftsSaid : Prop := dyadShiftsRow.holds Tryd.pinned (OpenSpec.ofChange dyadShiftsSpec)

/-- ITS FALSE NEIGHBOUR: 'it returns false'. Refute it at one input. -/
def dyadShiftsWrong : ChangeSpec := { name := "dyadShifts", fn := fun _ => fun
  | [d1, d2] => { results := [.lit (.bool false)], args := [d1, d2] }
  | _ => none }
def DyadShiftsWrongFalsely : Prop := dyadShiftsRow.holds Tryd.pinned (OpenSpec.ofChange dyadShiftsWrong)

/- THE SECOND FORM. 'bulk': how many values and letters a reading holds, each counted each time it is reached (what is shared counts as often as it is met; a slice's spare places count too). A statement '..UptoSaid' is the law's where the arguments, and the package variables that the reading takes, are together of bulk at most 1048576: NARROWER than '..Said'. Prove '..Said' where nothing that the law and all that it calls make is longer than what came in: it says more and counts as full. Else prove '..UptoSaid'. A law counts once. -/
mutual
def uptoBulk {H : Type} : DataW H → Nat
  | .lit (.string bytes) => bytes.length + 1
  | .lit _ => 1
  | .nil => 1
  | .ptr d => uptoBulk d + 1
  | .slice elems spare => uptoBulkAll elems + uptoBulkAll spare + 1
  | .agg parts => uptoBulkAll parts + 1
  | .iface _ d => uptoBulk d + 1
  | .map entries => uptoBulkEntries entries + 1
  | .held _ => 1
def uptoBulkAll {H : Type} : List (DataW H) → Nat
  | [] => 0
  | d :: r => uptoBulk d + uptoBulkAll r
def uptoBulkEntries {H : Type} : List (Lit × DataW H) → Nat
  | [] => 0
  | x :: r => uptoBulkEntry x + uptoBulkEntries r
def uptoBulkEntry {H : Type} : Lit × DataW H → Nat
  | (.string bytes, d) => bytes.length + uptoBulk d + 1
  | (_, d) => uptoBulk d + 1
 end
def uptoSmall : (H : Type) → List (DataW H) → Bool := fun _ ds => decide (uptoBulkAll ds ≤ 1048576)
def OpenSpec.upto (s : _root_.Go.ChangeSpec) : _root_.Go.OpenSpec := { _root_.Go.OpenSpec.ofChange s with cond := some uptoSmall }

/-- 'ulplaw04.DyadOwn', WHERE WHAT IT READS IS OF BULK AT MOST 1048576: true; the input reads as it did. -/
def dyadOwnUptoRow : OpenClaim := { program := "ytemfckibdojbbaadoor", sum := "b6cab18fc8b1e016402e09c6c32b6e19483a3d2b0c1e7046bd95c982eac9b8b5", func := "ulp/ulplaw04.DyadOwn", spec := "dyadOwn", inPlace := ["math/bits.Add64", "math/bits.Sub64"], unfollowed := true, recurses := true, named := ["math/bits.deBruijn64tab"], apart := false, laid := [("math/bits.deBruijn64tab", laid_math_bits_deBruijn64tab)], narrowed := true }
def DyadOwnUptoSaid : Prop := dyadOwnUptoRow.holds Tryd.pinned (OpenSpec.upto dyadOwnSpec)

/-- 'ulplaw04.DyadForms', WHERE WHAT IT READS IS OF BULK AT MOST 1048576: true; the input reads as it did. -/
def dyadFormsUptoRow : OpenClaim := { program := "ytemfckibdojbbaadoor", sum := "b6cab18fc8b1e016402e09c6c32b6e19483a3d2b0c1e7046bd95c982eac9b8b5", func := "ulp/ulplaw04.DyadForms", spec := "dyadForms", inPlace := ["math/bits.Add64", "math/bits.Sub64"], unfollowed := true, recurses := true, named := ["math/bits.deBruijn64tab"], apart := false, laid := [("math/bits.deBruijn64tab", laid_math_bits_deBruijn64tab)], narrowed := true }
def DyadFormsUptoSaid : Prop := dyadFormsUptoRow.holds Tryd.pinned (OpenSpec.upto dyadFormsSpec)

/-- 'ulplaw04.DyadTurns', WHERE WHAT IT READS IS OF BULK AT MOST 1048576: true; the input reads as it did. -/
def dyadTurnsUptoRow : OpenClaim := { program := "ytemfckibdojbbaadoor", sum := "b6cab18fc8b1e016402e09c6c32b6e19483a3d2b0c1e7046bd95c982eac9b8b5", func := "ulp/ulplaw04.DyadTurns", spec := "dyadTurns", inPlace := ["math/bits.Add64", "math/bits.Sub64"], unfollowed := true, recurses := true, named := ["math/bits.deBruijn64tab"], apart := false, laid := [("math/bits.deBruijn64tab", laid_math_bits_deBruijn64tab)], narrowed := true }
def DyadTurnsUptoSaid : Prop := dyadTurnsUptoRow.holds Tryd.pinned (OpenSpec.upto dyadTurnsSpec)

/-- 'ulplaw04.DyadOrders', WHERE WHAT IT READS IS OF BULK AT MOST 1048576: true; the input reads as it did. -/
def dyadOrdersUptoRow : OpenClaim := { program := "ytemfckibdojbbaadoor", sum := "b6cab18fc8b1e016402e09c6c32b6e19483a3d2b0c1e7046bd95c982eac9b8b5", func := "ulp/ulplaw04.DyadOrders", spec := "dyadOrders", inPlace := ["math/bits.Add64", "math/bits.Sub64"], unfollowed := true, recurses := true, named := ["math/bits.deBruijn64tab"], apart := false, laid := [("math/bits.deBruijn64tab", laid_math_bits_deBruijn64tab)], narrowed := true }
def DyadOrdersUptoSaid : Prop := dyadOrdersUptoRow.holds Tryd.pinned (OpenSpec.upto dyadOrdersSpec)

/-- 'ulplaw04.DyadCut', WHERE WHAT IT READS IS OF BULK AT MOST 1048576: true; the input reads as it did. -/
def dyadCutUptoRow : OpenClaim := { program := "ytemfckibdojbbaadoor", sum := "b6cab18fc8b1e016402e09c6c32b6e19483a3d2b0c1e7046bd95c982eac9b8b5", func := "ulp/ulplaw04.DyadCut", spec := "dyadCut", inPlace := ["math/bits.Add64", "math/bits.Sub64"], unfollowed := true, recurses := true, named := ["math/bits.deBruijn64tab"], apart := false, laid := [("math/bits.deBruijn64tab", laid_math_bits_deBruijn64tab)], narrowed := true }
def DyadCutUptoSaid : Prop := dyadCutUptoRow.holds Tryd.pinned (OpenSpec.upto dyadCutSpec)

/-- 'ulplaw04.DyadFloats', WHERE WHAT IT READS IS OF BULK AT MOST 1048576: true; the input reads as it did. -/
def dyadFloatsUptoRow : OpenClaim := { program := "ytemfckibdojbbaadoor", sum := "b6cab18fc8b1e016402e09c6c32b6e19483a3d2b0c1e7046bd95c982eac9b8b5", func := "ulp/ulplaw04.DyadFloats", spec := "dyadFloats", inPlace := ["math/bits.Add64", "math/bits.Sub64"], unfollowed := true, recurses := true, named := ["math/bits.deBruijn64tab"], apart := false, laid := [("math/bits.deBruijn64tab", laid_math_bits_deBruijn64tab)], narrowed := true }
def DyadFloatsUptoSaid : Prop := dyadFloatsUptoRow.holds Tryd.pinned (OpenSpec.upto dyadFloatsSpec)

/-- 'ulplaw04.DyadCuts', WHERE WHAT IT READS IS OF BULK AT MOST 1048576: true; the input reads as it did. -/
def dyadCutsUptoRow : OpenClaim := { program := "ytemfckibdojbbaadoor", sum := "b6cab18fc8b1e016402e09c6c32b6e19483a3d2b0c1e7046bd95c982eac9b8b5", func := "ulp/ulplaw04.DyadCuts", spec := "dyadCuts", inPlace := ["math/bits.Add64", "math/bits.Sub64"], unfollowed := true, recurses := true, named := ["math/bits.deBruijn64tab"], apart := false, laid := [("math/bits.deBruijn64tab", laid_math_bits_deBruijn64tab)], narrowed := true }
def DyadCutsUptoSaid : Prop := dyadCutsUptoRow.holds Tryd.pinned (OpenSpec.upto dyadCutsSpec)

/-- 'ulplaw04.DyadParts', WHERE WHAT IT READS IS OF BULK AT MOST 1048576: true; the input reads as it did. -/
def dyadPartsUptoRow : OpenClaim := { program := "ytemfckibdojbbaadoor", sum := "b6cab18fc8b1e016402e09c6c32b6e19483a3d2b0c1e7046bd95c982eac9b8b5", func := "ulp/ulplaw04.DyadParts", spec := "dyadParts", inPlace := ["math/bits.Add64", "math/bits.Sub64"], unfollowed := true, recurses := true, named := ["math/bits.deBruijn64tab"], apart := false, laid := [("math/bits.deBruijn64tab", laid_math_bits_deBruijn64tab)], narrowed := true }
def DyadPartsUptoSaid : Prop := dyadPartsUptoRow.holds Tryd.pinned (OpenSpec.upto dyadPartsSpec)

/-- 'ulplaw04.DyadExact', WHERE WHAT IT READS IS OF BULK AT MOST 1048576: true; the input reads as it did. -/
def dyadExactUptoRow : OpenClaim := { program := "ytemfckibdojbbaadoor", sum := "b6cab18fc8b1e016402e09c6c32b6e19483a3d2b0c1e7046bd95c982eac9b8b5", func := "ulp/ulplaw04.DyadExact", spec := "dyadExact", inPlace := ["math/bits.Add64", "math/bits.Sub64"], unfollowed := true, recurses := true, named := ["math/bits.deBruijn64tab"], apart := false, laid := [("math/bits.deBruijn64tab", laid_math_bits_deBruijn64tab)], narrowed := true }
def DyadExactUptoSaid : Prop := dyadExactUptoRow.holds Tryd.pinned (OpenSpec.upto dyadExactSpec)

/-- 'ulplaw04.DyadSums', WHERE WHAT IT READS IS OF BULK AT MOST 1048576: true; the input reads as it did. -/
def dyadSumsUptoRow : OpenClaim := { program := "ytemfckibdojbbaadoor", sum := "b6cab18fc8b1e016402e09c6c32b6e19483a3d2b0c1e7046bd95c982eac9b8b5", func := "ulp/ulplaw04.DyadSums", spec := "dyadSums", inPlace := ["math/bits.Add64", "math/bits.Sub64"], unfollowed := true, recurses := true, named := ["math/bits.deBruijn64tab"], apart := false, laid := [("math/bits.deBruijn64tab", laid_math_bits_deBruijn64tab)], narrowed := true }
def DyadSumsUptoSaid : Prop := dyadSumsUptoRow.holds Tryd.pinned (OpenSpec.upto dyadSumsSpec)

/-- 'ulplaw04.DyadRing', WHERE WHAT IT READS IS OF BULK AT MOST 1048576: true; the input reads as it did. -/
def dyadRingUptoRow : OpenClaim := { program := "ytemfckibdojbbaadoor", sum := "b6cab18fc8b1e016402e09c6c32b6e19483a3d2b0c1e7046bd95c982eac9b8b5", func := "ulp/ulplaw04.DyadRing", spec := "dyadRing", inPlace := ["math/bits.Add64", "math/bits.Sub64"], unfollowed := true, recurses := true, named := ["math/bits.deBruijn64tab"], apart := false, laid := [("math/bits.deBruijn64tab", laid_math_bits_deBruijn64tab)], narrowed := true }
def DyadRingUptoSaid : Prop := dyadRingUptoRow.holds Tryd.pinned (OpenSpec.upto dyadRingSpec)

/-- 'ulplaw04.DyadShifts', WHERE WHAT IT READS IS OF BULK AT MOST 1048576: true; the input reads as it did. -/
def dyadShiftsUptoRow : OpenClaim := { program := "ytemfckibdojbbaadoor", sum := "b6cab18fc8b1e016402e09c6c32b6e19483a3d2b0c1e7046bd95c982eac9b8b5", func := "ulp/ulplaw04.DyadShifts", spec := "dyadShifts", inPlace := ["math/bits.Add64", "math/bits.Sub64"], unfollowed := true, recurses := true, named := ["math/bits.deBruijn64tab"], apart := false, laid := [("math/bits.deBruijn64tab", laid_math_bits_deBruijn64tab)], narrowed := true }
def DyadShiftsUptoSaid : Prop := dyadShiftsUptoRow.holds Tryd.pinned (OpenSpec.upto dyadShiftsSpec)

end Rows
end Go.Proofs.YtemfckibdojbbaaDoor
