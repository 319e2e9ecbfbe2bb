/-
  No cell of these rows narrows 'for every input' (looked for: loops, veiled, ifaces, maps, wideKeys, modest, calm, conditions, laid).
  DERIVED. THE GIVEN ROWS OF THIS SEAT. 8 by the template 'for every input the law returns true; each argument reads behind the call as it read before'; 0 by the template 'total and deterministic' (their statements: YtcigeggdapjijaaTotals.lean).
  GIVEN WITH THE SEED: the statements are not yours to turn. If you find one false, say at which input.
  Laid BY PROGRAM, IN A SANDBOX (cutbox-rows.mjs): the forced cells as the released guide's own fill.sh prints them over the translation 2eb99e7342ecf18f… (all of the seat's roots in one cut). By AI agents, Wed Nov 11 2026. No macro, syntax, notation, axiom, sorry.
-/
import Derived.Test.YtcigeggdapjijaaChecked
import GoSem.Claim
import GoSem.ClaimJoined
import GoSem.ClaimMapViews
import Derived.JoinedTies
import Derived.KernelRfl
namespace Go.Proofs.Ytcigeggdapjijaa
/- THE CELL 'sum', in the pinned program and in every row, IS THE sha256 OF THE DUMP (.gsa) THAT YtcigeggdapjijaaProg.lean LOADS. Nothing in Lean hashes anything: it is a label: what it is worth is what the hold of that sum in a sandbox is worth. -/
noncomputable def Try.pinned : Pinned := { name := "ytcigeggdapjijaa", sum := "2eb99e7342ecf18f3860a8da049c904355e49f8a4697010cb8cc68160ac94000", checked := Try.checked }
namespace Rows
def none {H : Type} : Left H := { results := [], args := [] }

/-- 'ulplaw01.BitsSteps': WHATEVER THE INPUT: true; the input reads as it did. -/
def bitsStepsSpec : ChangeSpec := { name := "bitsSteps", fn := fun _ => fun
  | [d1, d2, d3] => { results := [.lit (.bool true)], args := [d1, d2, d3] }
  | _ => none }
def bitsStepsRow : OpenClaim := { program := "ytcigeggdapjijaa", sum := "2eb99e7342ecf18f3860a8da049c904355e49f8a4697010cb8cc68160ac94000", func := "ulp/ulplaw01.BitsSteps", spec := "bitsSteps", apart := false }
def BitsStepsSaid : Prop := bitsStepsRow.holds Try.pinned (OpenSpec.ofChange bitsStepsSpec)

/-- ITS FALSE NEIGHBOUR: 'it returns false'. Refute it at one input. -/
def bitsStepsWrong : ChangeSpec := { name := "bitsSteps", fn := fun _ => fun
  | [d1, d2, d3] => { results := [.lit (.bool false)], args := [d1, d2, d3] }
  | _ => none }
def BitsStepsWrongFalsely : Prop := bitsStepsRow.holds Try.pinned (OpenSpec.ofChange bitsStepsWrong)

/-- 'ulplaw01.BitsOrders': WHATEVER THE INPUT: true; the input reads as it did. -/
def bitsOrdersSpec : ChangeSpec := { name := "bitsOrders", fn := fun _ => fun
  | [d1, d2] => { results := [.lit (.bool true)], args := [d1, d2] }
  | _ => none }
def bitsOrdersRow : OpenClaim := { program := "ytcigeggdapjijaa", sum := "2eb99e7342ecf18f3860a8da049c904355e49f8a4697010cb8cc68160ac94000", func := "ulp/ulplaw01.BitsOrders", spec := "bitsOrders", apart := false }
def BitsOrdersSaid : Prop := bitsOrdersRow.holds Try.pinned (OpenSpec.ofChange bitsOrdersSpec)

/-- ITS FALSE NEIGHBOUR: 'it returns false'. Refute it at one input. -/
def bitsOrdersWrong : ChangeSpec := { name := "bitsOrders", fn := fun _ => fun
  | [d1, d2] => { results := [.lit (.bool false)], args := [d1, d2] }
  | _ => none }
def BitsOrdersWrongFalsely : Prop := bitsOrdersRow.holds Try.pinned (OpenSpec.ofChange bitsOrdersWrong)

/-- 'ulplaw01.BitsTotal': WHATEVER THE INPUT: true; the input reads as it did. -/
def bitsTotalSpec : ChangeSpec := { name := "bitsTotal", fn := fun _ => fun
  | [d1, d2, d3] => { results := [.lit (.bool true)], args := [d1, d2, d3] }
  | _ => none }
def bitsTotalRow : OpenClaim := { program := "ytcigeggdapjijaa", sum := "2eb99e7342ecf18f3860a8da049c904355e49f8a4697010cb8cc68160ac94000", func := "ulp/ulplaw01.BitsTotal", spec := "bitsTotal", apart := false }
def BitsTotalSaid : Prop := bitsTotalRow.holds Try.pinned (OpenSpec.ofChange bitsTotalSpec)

/-- ITS FALSE NEIGHBOUR: 'it returns false'. Refute it at one input. -/
def bitsTotalWrong : ChangeSpec := { name := "bitsTotal", fn := fun _ => fun
  | [d1, d2, d3] => { results := [.lit (.bool false)], args := [d1, d2, d3] }
  | _ => none }
def BitsTotalWrongFalsely : Prop := bitsTotalRow.holds Try.pinned (OpenSpec.ofChange bitsTotalWrong)

/-- 'ulplaw01.BitsWhole': WHATEVER THE INPUT: true; the input reads as it did. -/
def bitsWholeSpec : ChangeSpec := { name := "bitsWhole", fn := fun _ => fun
  | [d] => { results := [.lit (.bool true)], args := [d] }
  | _ => none }
def bitsWholeRow : OpenClaim := { program := "ytcigeggdapjijaa", sum := "2eb99e7342ecf18f3860a8da049c904355e49f8a4697010cb8cc68160ac94000", func := "ulp/ulplaw01.BitsWhole", spec := "bitsWhole", apart := false }
def BitsWholeSaid : Prop := bitsWholeRow.holds Try.pinned (OpenSpec.ofChange bitsWholeSpec)

/-- ITS FALSE NEIGHBOUR: 'it returns false'. Refute it at one input. -/
def bitsWholeWrong : ChangeSpec := { name := "bitsWhole", fn := fun _ => fun
  | [d] => { results := [.lit (.bool false)], args := [d] }
  | _ => none }
def BitsWholeWrongFalsely : Prop := bitsWholeRow.holds Try.pinned (OpenSpec.ofChange bitsWholeWrong)

/-- 'ulplaw01.BitsSplits': WHATEVER THE INPUT: true; the input reads as it did. -/
def bitsSplitsSpec : ChangeSpec := { name := "bitsSplits", fn := fun _ => fun
  | [d1, d2] => { results := [.lit (.bool true)], args := [d1, d2] }
  | _ => none }
def bitsSplitsRow : OpenClaim := { program := "ytcigeggdapjijaa", sum := "2eb99e7342ecf18f3860a8da049c904355e49f8a4697010cb8cc68160ac94000", func := "ulp/ulplaw01.BitsSplits", spec := "bitsSplits", apart := false }
def BitsSplitsSaid : Prop := bitsSplitsRow.holds Try.pinned (OpenSpec.ofChange bitsSplitsSpec)

/-- ITS FALSE NEIGHBOUR: 'it returns false'. Refute it at one input. -/
def bitsSplitsWrong : ChangeSpec := { name := "bitsSplits", fn := fun _ => fun
  | [d1, d2] => { results := [.lit (.bool false)], args := [d1, d2] }
  | _ => none }
def BitsSplitsWrongFalsely : Prop := bitsSplitsRow.holds Try.pinned (OpenSpec.ofChange bitsSplitsWrong)

/-- 'ulplaw01.BitsBack': WHATEVER THE INPUT: true; the input reads as it did. -/
def bitsBackSpec : ChangeSpec := { name := "bitsBack", fn := fun _ => fun
  | [d1, d2] => { results := [.lit (.bool true)], args := [d1, d2] }
  | _ => none }
def bitsBackRow : OpenClaim := { program := "ytcigeggdapjijaa", sum := "2eb99e7342ecf18f3860a8da049c904355e49f8a4697010cb8cc68160ac94000", func := "ulp/ulplaw01.BitsBack", spec := "bitsBack", apart := false }
def BitsBackSaid : Prop := bitsBackRow.holds Try.pinned (OpenSpec.ofChange bitsBackSpec)

/-- ITS FALSE NEIGHBOUR: 'it returns false'. Refute it at one input. -/
def bitsBackWrong : ChangeSpec := { name := "bitsBack", fn := fun _ => fun
  | [d1, d2] => { results := [.lit (.bool false)], args := [d1, d2] }
  | _ => none }
def BitsBackWrongFalsely : Prop := bitsBackRow.holds Try.pinned (OpenSpec.ofChange bitsBackWrong)

/-- 'ulplaw01.BitsNexts': WHATEVER THE INPUT: true; the input reads as it did. -/
def bitsNextsSpec : ChangeSpec := { name := "bitsNexts", fn := fun _ => fun
  | [d1, d2] => { results := [.lit (.bool true)], args := [d1, d2] }
  | _ => none }
def bitsNextsRow : OpenClaim := { program := "ytcigeggdapjijaa", sum := "2eb99e7342ecf18f3860a8da049c904355e49f8a4697010cb8cc68160ac94000", func := "ulp/ulplaw01.BitsNexts", spec := "bitsNexts", apart := false }
def BitsNextsSaid : Prop := bitsNextsRow.holds Try.pinned (OpenSpec.ofChange bitsNextsSpec)

/-- ITS FALSE NEIGHBOUR: 'it returns false'. Refute it at one input. -/
def bitsNextsWrong : ChangeSpec := { name := "bitsNexts", fn := fun _ => fun
  | [d1, d2] => { results := [.lit (.bool false)], args := [d1, d2] }
  | _ => none }
def BitsNextsWrongFalsely : Prop := bitsNextsRow.holds Try.pinned (OpenSpec.ofChange bitsNextsWrong)

/-- 'ulplaw01.BitsNear': WHATEVER THE INPUT: true; the input reads as it did. -/
def bitsNearSpec : ChangeSpec := { name := "bitsNear", fn := fun _ => fun
  | [d1, d2] => { results := [.lit (.bool true)], args := [d1, d2] }
  | _ => none }
def bitsNearRow : OpenClaim := { program := "ytcigeggdapjijaa", sum := "2eb99e7342ecf18f3860a8da049c904355e49f8a4697010cb8cc68160ac94000", func := "ulp/ulplaw01.BitsNear", spec := "bitsNear", apart := false }
def BitsNearSaid : Prop := bitsNearRow.holds Try.pinned (OpenSpec.ofChange bitsNearSpec)

/-- ITS FALSE NEIGHBOUR: 'it returns false'. Refute it at one input. -/
def bitsNearWrong : ChangeSpec := { name := "bitsNear", fn := fun _ => fun
  | [d1, d2] => { results := [.lit (.bool false)], args := [d1, d2] }
  | _ => none }
def BitsNearWrongFalsely : Prop := bitsNearRow.holds Try.pinned (OpenSpec.ofChange bitsNearWrong)

/- THE SECOND FORM. 'bulk': how many values and letters a reading holds, each counted each time it is reached (what is shared counts as often as it is met; a slice's spare places count too). A statement '..UptoSaid' is the law's where the arguments, and the package variables that the reading takes, are together of bulk at most 1048576: NARROWER than '..Said'. Prove '..Said' where nothing that the law and all that it calls make is longer than what came in: it says more and counts as full. Else prove '..UptoSaid'. A law counts once. -/
mutual
def uptoBulk {H : Type} : DataW H → Nat
  | .lit (.string bytes) => bytes.length + 1
  | .lit _ => 1
  | .nil => 1
  | .ptr d => uptoBulk d + 1
  | .slice elems spare => uptoBulkAll elems + uptoBulkAll spare + 1
  | .agg parts => uptoBulkAll parts + 1
  | .iface _ d => uptoBulk d + 1
  | .map entries => uptoBulkEntries entries + 1
  | .held _ => 1
def uptoBulkAll {H : Type} : List (DataW H) → Nat
  | [] => 0
  | d :: r => uptoBulk d + uptoBulkAll r
def uptoBulkEntries {H : Type} : List (Lit × DataW H) → Nat
  | [] => 0
  | x :: r => uptoBulkEntry x + uptoBulkEntries r
def uptoBulkEntry {H : Type} : Lit × DataW H → Nat
  | (.string bytes, d) => bytes.length + uptoBulk d + 1
  | (_, d) => uptoBulk d + 1
 end
def uptoSmall : (H : Type) → List (DataW H) → Bool := fun _ ds => decide (uptoBulkAll ds ≤ 1048576)
def OpenSpec.upto (s : _root_.Go.ChangeSpec) : _root_.Go.OpenSpec := { _root_.Go.OpenSpec.ofChange s with cond := some uptoSmall }

/-- 'ulplaw01.BitsSteps', WHERE WHAT IT READS IS OF BULK AT MOST 1048576: true; the input reads as it did. -/
def bitsStepsUptoRow : OpenClaim := { program := "ytcigeggdapjijaa", sum := "2eb99e7342ecf18f3860a8da049c904355e49f8a4697010cb8cc68160ac94000", func := "ulp/ulplaw01.BitsSteps", spec := "bitsSteps", apart := false, narrowed := true }
def BitsStepsUptoSaid : Prop := bitsStepsUptoRow.holds Try.pinned (OpenSpec.upto bitsStepsSpec)

/-- 'ulplaw01.BitsOrders', WHERE WHAT IT READS IS OF BULK AT MOST 1048576: true; the input reads as it did. -/
def bitsOrdersUptoRow : OpenClaim := { program := "ytcigeggdapjijaa", sum := "2eb99e7342ecf18f3860a8da049c904355e49f8a4697010cb8cc68160ac94000", func := "ulp/ulplaw01.BitsOrders", spec := "bitsOrders", apart := false, narrowed := true }
def BitsOrdersUptoSaid : Prop := bitsOrdersUptoRow.holds Try.pinned (OpenSpec.upto bitsOrdersSpec)

/-- 'ulplaw01.BitsTotal', WHERE WHAT IT READS IS OF BULK AT MOST 1048576: true; the input reads as it did. -/
def bitsTotalUptoRow : OpenClaim := { program := "ytcigeggdapjijaa", sum := "2eb99e7342ecf18f3860a8da049c904355e49f8a4697010cb8cc68160ac94000", func := "ulp/ulplaw01.BitsTotal", spec := "bitsTotal", apart := false, narrowed := true }
def BitsTotalUptoSaid : Prop := bitsTotalUptoRow.holds Try.pinned (OpenSpec.upto bitsTotalSpec)

/-- 'ulplaw01.BitsWhole', WHERE WHAT IT READS IS OF BULK AT MOST 1048576: true; the input reads as it did. -/
def bitsWholeUptoRow : OpenClaim := { program := "ytcigeggdapjijaa", sum := "2eb99e7342ecf18f3860a8da049c904355e49f8a4697010cb8cc68160ac94000", func := "ulp/ulplaw01.BitsWhole", spec := "bitsWhole", apart := false, narrowed := true }
def BitsWholeUptoSaid : Prop := bitsWholeUptoRow.holds Try.pinned (OpenSpec.upto bitsWholeSpec)

/-- 'ulplaw01.BitsSplits', WHERE WHAT IT READS IS OF BULK AT MOST 1048576: true; the input reads as it did. -/
def bitsSplitsUptoRow : OpenClaim := { program := "ytcigeggdapjijaa", sum := "2eb99e7342ecf18f3860a8da049c904355e49f8a4697010cb8cc68160ac94000", func := "ulp/ulplaw01.BitsSplits", spec := "bitsSplits", apart := false, narrowed := true }
def BitsSplitsUptoSaid : Prop := bitsSplitsUptoRow.holds Try.pinned (OpenSpec.upto bitsSplitsSpec)

/-- 'ulplaw01.BitsBack', WHERE WHAT IT READS IS OF BULK AT MOST 1048576: true; the input reads as it did. -/
def bitsBackUptoRow : OpenClaim := { program := "ytcigeggdapjijaa", sum := "2eb99e7342ecf18f3860a8da049c904355e49f8a4697010cb8cc68160ac94000", func := "ulp/ulplaw01.BitsBack", spec := "bitsBack", apart := false, narrowed := true }
def BitsBackUptoSaid : Prop := bitsBackUptoRow.holds Try.pinned (OpenSpec.upto bitsBackSpec)

/-- 'ulplaw01.BitsNexts', WHERE WHAT IT READS IS OF BULK AT MOST 1048576: true; the input reads as it did. -/
def bitsNextsUptoRow : OpenClaim := { program := "ytcigeggdapjijaa", sum := "2eb99e7342ecf18f3860a8da049c904355e49f8a4697010cb8cc68160ac94000", func := "ulp/ulplaw01.BitsNexts", spec := "bitsNexts", apart := false, narrowed := true }
def BitsNextsUptoSaid : Prop := bitsNextsUptoRow.holds Try.pinned (OpenSpec.upto bitsNextsSpec)

/-- 'ulplaw01.BitsNear', WHERE WHAT IT READS IS OF BULK AT MOST 1048576: true; the input reads as it did. -/
def bitsNearUptoRow : OpenClaim := { program := "ytcigeggdapjijaa", sum := "2eb99e7342ecf18f3860a8da049c904355e49f8a4697010cb8cc68160ac94000", func := "ulp/ulplaw01.BitsNear", spec := "bitsNear", apart := false, narrowed := true }
def BitsNearUptoSaid : Prop := bitsNearUptoRow.holds Try.pinned (OpenSpec.upto bitsNearSpec)

end Rows
end Go.Proofs.Ytcigeggdapjijaa
