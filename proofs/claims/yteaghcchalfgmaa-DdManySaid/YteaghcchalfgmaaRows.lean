/-
  No cell of these rows narrows 'for every input' (looked for: loops, veiled, ifaces, maps, wideKeys, modest, calm, conditions, laid).
  DERIVED. THE GIVEN ROWS OF THIS SEAT. 4 by the template 'for every input the law returns true; each argument reads behind the call as it read before'; 0 by the template 'total and deterministic' (their statements: YteaghcchalfgmaaTotals.lean).
  GIVEN WITH THE SEED: the statements are not yours to turn. If you find one false, say at which input.
  Laid BY PROGRAM, IN A SANDBOX (cutbox-rows.mjs): the forced cells as the released guide's own fill.sh prints them over the translation 19910fe1d6f80e14… (all of the seat's roots in one cut). By AI agents, Wed Nov 11 2026. No macro, syntax, notation, axiom, sorry.
-/
import Derived.Test.YteaghcchalfgmaaChecked
import GoSem.Claim
import GoSem.ClaimJoined
import GoSem.ClaimMapViews
import Derived.JoinedTies
import Derived.KernelRfl
namespace Go.Proofs.Yteaghcchalfgmaa
/- THE CELL 'sum', in the pinned program and in every row, IS THE sha256 OF THE DUMP (.gsa) THAT YteaghcchalfgmaaProg.lean LOADS. Nothing in Lean hashes anything: it is a label: what it is worth is what the hold of that sum in a sandbox is worth. -/
noncomputable def Try.pinned : Pinned := { name := "yteaghcchalfgmaa", sum := "19910fe1d6f80e140fc23d193b2525d8899ae44cfae097aa212d5e80f49b5e90", checked := Try.checked }
namespace Rows
def none {H : Type} : Left H := { results := [], args := [] }

/-- 'ulplaw08.DdAll': WHATEVER THE INPUT: true; the input reads as it did. -/
def ddAllSpec : ChangeSpec := { name := "ddAll", fn := fun _ => fun
  | [d] => { results := [.lit (.bool true)], args := [d] }
  | _ => none }
def ddAllRow : OpenClaim := { program := "yteaghcchalfgmaa", sum := "19910fe1d6f80e140fc23d193b2525d8899ae44cfae097aa212d5e80f49b5e90", func := "ulp/ulplaw08.DdAll", spec := "ddAll", inPlace := ["math.Float64frombits", "math.Float64bits"], unfollowed := true, recurses := true, apart := false }
def DdAllSaid : Prop := ddAllRow.holds Try.pinned (OpenSpec.ofChange ddAllSpec)

/-- ITS FALSE NEIGHBOUR: 'it returns false'. Refute it at one input. -/
def ddAllWrong : ChangeSpec := { name := "ddAll", fn := fun _ => fun
  | [d] => { results := [.lit (.bool false)], args := [d] }
  | _ => none }
def DdAllWrongFalsely : Prop := ddAllRow.holds Try.pinned (OpenSpec.ofChange ddAllWrong)

/-- 'ulplaw08.DdMany': WHATEVER THE INPUT: true; the input reads as it did. -/
def ddManySpec : ChangeSpec := { name := "ddMany", fn := fun _ => fun
  | [d1, d2] => { results := [.lit (.bool true)], args := [d1, d2] }
  | _ => none }
def ddManyRow : OpenClaim := { program := "yteaghcchalfgmaa", sum := "19910fe1d6f80e140fc23d193b2525d8899ae44cfae097aa212d5e80f49b5e90", func := "ulp/ulplaw08.DdMany", spec := "ddMany", inPlace := ["math.Float64bits", "math.Float64frombits"], unfollowed := true, recurses := true, apart := false }
def DdManySaid : Prop := ddManyRow.holds Try.pinned (OpenSpec.ofChange ddManySpec)

/-- ITS FALSE NEIGHBOUR: 'it returns false'. Refute it at one input. -/
def ddManyWrong : ChangeSpec := { name := "ddMany", fn := fun _ => fun
  | [d1, d2] => { results := [.lit (.bool false)], args := [d1, d2] }
  | _ => none }
def DdManyWrongFalsely : Prop := ddManyRow.holds Try.pinned (OpenSpec.ofChange ddManyWrong)

/-- 'ulplaw08.DdTwos': WHATEVER THE INPUT: true; the input reads as it did. -/
def ddTwosSpec : ChangeSpec := { name := "ddTwos", fn := fun _ => fun
  | [d1, d2] => { results := [.lit (.bool true)], args := [d1, d2] }
  | _ => none }
def ddTwosRow : OpenClaim := { program := "yteaghcchalfgmaa", sum := "19910fe1d6f80e140fc23d193b2525d8899ae44cfae097aa212d5e80f49b5e90", func := "ulp/ulplaw08.DdTwos", spec := "ddTwos", inPlace := ["math.Float64bits", "math.Float64frombits"], unfollowed := true, recurses := true, apart := false }
def DdTwosSaid : Prop := ddTwosRow.holds Try.pinned (OpenSpec.ofChange ddTwosSpec)

/-- ITS FALSE NEIGHBOUR: 'it returns false'. Refute it at one input. -/
def ddTwosWrong : ChangeSpec := { name := "ddTwos", fn := fun _ => fun
  | [d1, d2] => { results := [.lit (.bool false)], args := [d1, d2] }
  | _ => none }
def DdTwosWrongFalsely : Prop := ddTwosRow.holds Try.pinned (OpenSpec.ofChange ddTwosWrong)

/-- 'ulplaw08.DdNear': WHATEVER THE INPUT: true; the input reads as it did. -/
def ddNearSpec : ChangeSpec := { name := "ddNear", fn := fun _ => fun
  | [d1, d2] => { results := [.lit (.bool true)], args := [d1, d2] }
  | _ => none }
def ddNearRow : OpenClaim := { program := "yteaghcchalfgmaa", sum := "19910fe1d6f80e140fc23d193b2525d8899ae44cfae097aa212d5e80f49b5e90", func := "ulp/ulplaw08.DdNear", spec := "ddNear", inPlace := ["math.Float64frombits", "math.Float64bits"], unfollowed := true, recurses := true, apart := false }
def DdNearSaid : Prop := ddNearRow.holds Try.pinned (OpenSpec.ofChange ddNearSpec)

/-- ITS FALSE NEIGHBOUR: 'it returns false'. Refute it at one input. -/
def ddNearWrong : ChangeSpec := { name := "ddNear", fn := fun _ => fun
  | [d1, d2] => { results := [.lit (.bool false)], args := [d1, d2] }
  | _ => none }
def DdNearWrongFalsely : Prop := ddNearRow.holds Try.pinned (OpenSpec.ofChange ddNearWrong)

/- THE SECOND FORM. 'bulk': how many values and letters a reading holds, each counted each time it is reached (what is shared counts as often as it is met; a slice's spare places count too). A statement '..UptoSaid' is the law's where the arguments, and the package variables that the reading takes, are together of bulk at most 1048576: NARROWER than '..Said'. Prove '..Said' where nothing that the law and all that it calls make is longer than what came in: it says more and counts as full. Else prove '..UptoSaid'. A law counts once. -/
mutual
def uptoBulk {H : Type} : DataW H → Nat
  | .lit (.string bytes) => bytes.length + 1
  | .lit _ => 1
  | .nil => 1
  | .ptr d => uptoBulk d + 1
  | .slice elems spare => uptoBulkAll elems + uptoBulkAll spare + 1
  | .agg parts => uptoBulkAll parts + 1
  | .iface _ d => uptoBulk d + 1
  | .map entries => uptoBulkEntries entries + 1
  | .held _ => 1
def uptoBulkAll {H : Type} : List (DataW H) → Nat
  | [] => 0
  | d :: r => uptoBulk d + uptoBulkAll r
def uptoBulkEntries {H : Type} : List (Lit × DataW H) → Nat
  | [] => 0
  | x :: r => uptoBulkEntry x + uptoBulkEntries r
def uptoBulkEntry {H : Type} : Lit × DataW H → Nat
  | (.string bytes, d) => bytes.length + uptoBulk d + 1
  | (_, d) => uptoBulk d + 1
 end
def uptoSmall : (H : Type) → List (DataW H) → Bool := fun _ ds => decide (uptoBulkAll ds ≤ 1048576)
def OpenSpec.upto (s : _root_.Go.ChangeSpec) : _root_.Go.OpenSpec := { _root_.Go.OpenSpec.ofChange s with cond := some uptoSmall }

/-- 'ulplaw08.DdAll', WHERE WHAT IT READS IS OF BULK AT MOST 1048576: true; the input reads as it did. -/
def ddAllUptoRow : OpenClaim := { program := "yteaghcchalfgmaa", sum := "19910fe1d6f80e140fc23d193b2525d8899ae44cfae097aa212d5e80f49b5e90", func := "ulp/ulplaw08.DdAll", spec := "ddAll", inPlace := ["math.Float64frombits", "math.Float64bits"], unfollowed := true, recurses := true, apart := false, narrowed := true }
def DdAllUptoSaid : Prop := ddAllUptoRow.holds Try.pinned (OpenSpec.upto ddAllSpec)

/-- 'ulplaw08.DdMany', WHERE WHAT IT READS IS OF BULK AT MOST 1048576: true; the input reads as it did. -/
def ddManyUptoRow : OpenClaim := { program := "yteaghcchalfgmaa", sum := "19910fe1d6f80e140fc23d193b2525d8899ae44cfae097aa212d5e80f49b5e90", func := "ulp/ulplaw08.DdMany", spec := "ddMany", inPlace := ["math.Float64bits", "math.Float64frombits"], unfollowed := true, recurses := true, apart := false, narrowed := true }
def DdManyUptoSaid : Prop := ddManyUptoRow.holds Try.pinned (OpenSpec.upto ddManySpec)

/-- 'ulplaw08.DdTwos', WHERE WHAT IT READS IS OF BULK AT MOST 1048576: true; the input reads as it did. -/
def ddTwosUptoRow : OpenClaim := { program := "yteaghcchalfgmaa", sum := "19910fe1d6f80e140fc23d193b2525d8899ae44cfae097aa212d5e80f49b5e90", func := "ulp/ulplaw08.DdTwos", spec := "ddTwos", inPlace := ["math.Float64bits", "math.Float64frombits"], unfollowed := true, recurses := true, apart := false, narrowed := true }
def DdTwosUptoSaid : Prop := ddTwosUptoRow.holds Try.pinned (OpenSpec.upto ddTwosSpec)

/-- 'ulplaw08.DdNear', WHERE WHAT IT READS IS OF BULK AT MOST 1048576: true; the input reads as it did. -/
def ddNearUptoRow : OpenClaim := { program := "yteaghcchalfgmaa", sum := "19910fe1d6f80e140fc23d193b2525d8899ae44cfae097aa212d5e80f49b5e90", func := "ulp/ulplaw08.DdNear", spec := "ddNear", inPlace := ["math.Float64frombits", "math.Float64bits"], unfollowed := true, recurses := true, apart := false, narrowed := true }
def DdNearUptoSaid : Prop := ddNearUptoRow.holds Try.pinned (OpenSpec.upto ddNearSpec)

end Rows
end Go.Proofs.Yteaghcchalfgmaa
