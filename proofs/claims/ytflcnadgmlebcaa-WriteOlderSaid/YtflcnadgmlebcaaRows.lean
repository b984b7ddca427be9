/-
  No cell of these rows narrows 'for every input' (looked for: loops, veiled, ifaces, maps, wideKeys, modest, calm, conditions, laid).
  DERIVED. THE GIVEN ROWS OF THIS SEAT. 4 by the template 'for every input the law returns true; each argument reads behind the call as it read before'; 0 by the template 'total and deterministic' (their statements: YtflcnadgmlebcaaTotals.lean).
  GIVEN WITH THE SEED: the statements are not yours to turn. If you find one false, say at which input.
  Laid BY PROGRAM, IN A SANDBOX (cutbox-rows.mjs): the forced cells as the released guide's own fill.sh prints them over the translation 1831936e15e7e620… (all of the seat's roots in one cut). By AI agents, Wed Nov 11 2026. No macro, syntax, notation, axiom, sorry.
-/
import Derived.Test.YtflcnadgmlebcaaChecked
import GoSem.Claim
import GoSem.ClaimJoined
import GoSem.ClaimMapViews
import Derived.JoinedTies
import Derived.KernelRfl
namespace Go.Proofs.Ytflcnadgmlebcaa
/- THE CELL 'sum', in the pinned program and in every row, IS THE sha256 OF THE DUMP (.gsa) THAT YtflcnadgmlebcaaProg.lean LOADS. Nothing in Lean hashes anything: it is a label: what it is worth is what the hold of that sum in a sandbox is worth. -/
noncomputable def Try.pinned : Pinned := { name := "ytflcnadgmlebcaa", sum := "1831936e15e7e620f839271d2b6f221061cee6287432812802342066ddb5848d", checked := Try.checked }
namespace Rows
def none {H : Type} : Left H := { results := [], args := [] }

/-- 'clinkerlaw15.WriteMade': WHATEVER THE INPUT: true; the input reads as it did. -/
def writeMadeSpec : ChangeSpec := { name := "writeMade", fn := fun _ => fun
  | [d1, d2, d3, d4] => { results := [.lit (.bool true)], args := [d1, d2, d3, d4] }
  | _ => none }
def writeMadeRow : OpenClaim := { program := "ytflcnadgmlebcaa", sum := "1831936e15e7e620f839271d2b6f221061cee6287432812802342066ddb5848d", func := "clinker/clinkerlaw15.WriteMade", spec := "writeMade", unfollowed := true, recurses := true, apart := false }
def WriteMadeSaid : Prop := writeMadeRow.holds Try.pinned (OpenSpec.ofChange writeMadeSpec)

/-- ITS FALSE NEIGHBOUR: 'it returns false'. Refute it at one input. -/
def writeMadeWrong : ChangeSpec := { name := "writeMade", fn := fun _ => fun
  | [d1, d2, d3, d4] => { results := [.lit (.bool false)], args := [d1, d2, d3, d4] }
  | _ => none }
def WriteMadeWrongFalsely : Prop := writeMadeRow.holds Try.pinned (OpenSpec.ofChange writeMadeWrong)

/-- 'clinkerlaw15.WriteMounts': WHATEVER THE INPUT: true; the input reads as it did. -/
def writeMountsSpec : ChangeSpec := { name := "writeMounts", fn := fun _ => fun
  | [d1, d2, d3, d4] => { results := [.lit (.bool true)], args := [d1, d2, d3, d4] }
  | _ => none }
def writeMountsRow : OpenClaim := { program := "ytflcnadgmlebcaa", sum := "1831936e15e7e620f839271d2b6f221061cee6287432812802342066ddb5848d", func := "clinker/clinkerlaw15.WriteMounts", spec := "writeMounts", unfollowed := true, recurses := true, apart := false }
def WriteMountsSaid : Prop := writeMountsRow.holds Try.pinned (OpenSpec.ofChange writeMountsSpec)

/-- ITS FALSE NEIGHBOUR: 'it returns false'. Refute it at one input. -/
def writeMountsWrong : ChangeSpec := { name := "writeMounts", fn := fun _ => fun
  | [d1, d2, d3, d4] => { results := [.lit (.bool false)], args := [d1, d2, d3, d4] }
  | _ => none }
def WriteMountsWrongFalsely : Prop := writeMountsRow.holds Try.pinned (OpenSpec.ofChange writeMountsWrong)

/-- 'clinkerlaw15.WriteOpen': WHATEVER THE INPUT: true; the input reads as it did. -/
def writeOpenSpec : ChangeSpec := { name := "writeOpen", fn := fun _ => fun
  | [d1, d2, d3, d4, d5] => { results := [.lit (.bool true)], args := [d1, d2, d3, d4, d5] }
  | _ => none }
def writeOpenRow : OpenClaim := { program := "ytflcnadgmlebcaa", sum := "1831936e15e7e620f839271d2b6f221061cee6287432812802342066ddb5848d", func := "clinker/clinkerlaw15.WriteOpen", spec := "writeOpen", unfollowed := true, recurses := true, apart := false }
def WriteOpenSaid : Prop := writeOpenRow.holds Try.pinned (OpenSpec.ofChange writeOpenSpec)

/-- ITS FALSE NEIGHBOUR: 'it returns false'. Refute it at one input. -/
def writeOpenWrong : ChangeSpec := { name := "writeOpen", fn := fun _ => fun
  | [d1, d2, d3, d4, d5] => { results := [.lit (.bool false)], args := [d1, d2, d3, d4, d5] }
  | _ => none }
def WriteOpenWrongFalsely : Prop := writeOpenRow.holds Try.pinned (OpenSpec.ofChange writeOpenWrong)

/-- 'clinkerlaw15.WriteOlder': WHATEVER THE INPUT: true; the input reads as it did. -/
def writeOlderSpec : ChangeSpec := { name := "writeOlder", fn := fun _ => fun
  | [d1, d2] => { results := [.lit (.bool true)], args := [d1, d2] }
  | _ => none }
def writeOlderRow : OpenClaim := { program := "ytflcnadgmlebcaa", sum := "1831936e15e7e620f839271d2b6f221061cee6287432812802342066ddb5848d", func := "clinker/clinkerlaw15.WriteOlder", spec := "writeOlder", unfollowed := true, recurses := true, apart := false }
def WriteOlderSaid : Prop := writeOlderRow.holds Try.pinned (OpenSpec.ofChange writeOlderSpec)

/-- ITS FALSE NEIGHBOUR: 'it returns false'. Refute it at one input. -/
def writeOlderWrong : ChangeSpec := { name := "writeOlder", fn := fun _ => fun
  | [d1, d2] => { results := [.lit (.bool false)], args := [d1, d2] }
  | _ => none }
def WriteOlderWrongFalsely : Prop := writeOlderRow.holds Try.pinned (OpenSpec.ofChange writeOlderWrong)

/- THE SECOND FORM. 'bulk': how many values and letters a reading holds, each counted each time it is reached (what is shared counts as often as it is met; a slice's spare places count too). A statement '..UptoSaid' is the law's where the arguments, and the package variables that the reading takes, are together of bulk at most 1048576: NARROWER than '..Said'. Prove '..Said' where nothing that the law and all that it calls make is longer than what came in: it says more and counts as full. Else prove '..UptoSaid'. A law counts once. -/
mutual
def uptoBulk {H : Type} : DataW H → Nat
  | .lit (.string bytes) => bytes.length + 1
  | .lit _ => 1
  | .nil => 1
  | .ptr d => uptoBulk d + 1
  | .slice elems spare => uptoBulkAll elems + uptoBulkAll spare + 1
  | .agg parts => uptoBulkAll parts + 1
  | .iface _ d => uptoBulk d + 1
  | .map entries => uptoBulkEntries entries + 1
  | .held _ => 1
def uptoBulkAll {H : Type} : List (DataW H) → Nat
  | [] => 0
  | d :: r => uptoBulk d + uptoBulkAll r
def uptoBulkEntries {H : Type} : List (Lit × DataW H) → Nat
  | [] => 0
  | x :: r => uptoBulkEntry x + uptoBulkEntries r
def uptoBulkEntry {H : Type} : Lit × DataW H → Nat
  | (.string bytes, d) => bytes.length + uptoBulk d + 1
  | (_, d) => uptoBulk d + 1
 end
def uptoSmall : (H : Type) → List (DataW H) → Bool := fun _ ds => decide (uptoBulkAll ds ≤ 1048576)
def OpenSpec.upto (s : _root_.Go.ChangeSpec) : _root_.Go.OpenSpec := { _root_.Go.OpenSpec.ofChange s with cond := some uptoSmall }

/-- 'clinkerlaw15.WriteMade', WHERE WHAT IT READS IS OF BULK AT MOST 1048576: true; the input reads as it did. -/
def writeMadeUptoRow : OpenClaim := { program := "ytflcnadgmlebcaa", sum := "1831936e15e7e620f839271d2b6f221061cee6287432812802342066ddb5848d", func := "clinker/clinkerlaw15.WriteMade", spec := "writeMade", unfollowed := true, recurses := true, apart := false, narrowed := true }
def WriteMadeUptoSaid : Prop := writeMadeUptoRow.holds Try.pinned (OpenSpec.upto writeMadeSpec)

/-- 'clinkerlaw15.WriteMounts', WHERE WHAT IT READS IS OF BULK AT MOST 1048576: true; the input reads as it did. -/
def writeMountsUptoRow : OpenClaim := { program := "ytflcnadgmlebcaa", sum := "1831936e15e7e620f839271d2b6f221061cee6287432812802342066ddb5848d", func := "clinker/clinkerlaw15.WriteMounts", spec := "writeMounts", unfollowed := true, recurses := true, apart := false, narrowed := true }
def WriteMountsUptoSaid : Prop := writeMountsUptoRow.holds Try.pinned (OpenSpec.upto writeMountsSpec)

/-- 'clinkerlaw15.WriteOpen', WHERE WHAT IT READS IS OF BULK AT MOST 1048576: true; the input reads as it did. -/
def writeOpenUptoRow : OpenClaim := { program := "ytflcnadgmlebcaa", sum := "1831936e15e7e620f839271d2b6f221061cee6287432812802342066ddb5848d", func := "clinker/clinkerlaw15.WriteOpen", spec := "writeOpen", unfollowed := true, recurses := true, apart := false, narrowed := true }
def WriteOpenUptoSaid : Prop := writeOpenUptoRow.holds Try.pinned (OpenSpec.upto writeOpenSpec)

/-- 'clinkerlaw15.WriteOlder', WHERE WHAT IT READS IS OF BULK AT MOST 1048576: true; the input reads as it did. -/
def writeOlderUptoRow : OpenClaim := { program := "ytflcnadgmlebcaa", sum := "1831936e15e7e620f839271d2b6f221061cee6287432812802342066ddb5848d", func := "clinker/clinkerlaw15.WriteOlder", spec := "writeOlder", unfollowed := true, recurses := true, apart := false, narrowed := true }
def WriteOlderUptoSaid : Prop := writeOlderUptoRow.holds Try.pinned (OpenSpec.upto writeOlderSpec)

end Rows
end Go.Proofs.Ytflcnadgmlebcaa
