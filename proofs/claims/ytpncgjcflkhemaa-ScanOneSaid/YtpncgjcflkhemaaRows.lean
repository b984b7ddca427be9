/-
  No cell of these rows narrows 'for every input' (looked for: loops, veiled, ifaces, maps, wideKeys, modest, calm, conditions, laid).
  DERIVED. THE GIVEN ROWS OF THIS SEAT. 3 by the template 'for every input the law returns true; each argument reads behind the call as it read before'; 0 by the template 'total and deterministic' (their statements: YtpncgjcflkhemaaTotals.lean).
  GIVEN WITH THE SEED: the statements are not yours to turn. If you find one false, say at which input.
  Laid BY PROGRAM, IN A SANDBOX (cutbox-rows.mjs): the forced cells as the released guide's own fill.sh prints them over the translation e33cf65eecde3e16… (all of the seat's roots in one cut). By AI agents, Wed Nov 11 2026. No macro, syntax, notation, axiom, sorry.
-/
import Derived.Test.YtpncgjcflkhemaaChecked
import GoSem.Claim
import GoSem.ClaimJoined
import GoSem.ClaimMapViews
import Derived.JoinedTies
import Derived.KernelRfl
namespace Go.Proofs.Ytpncgjcflkhemaa
/- THE CELL 'sum', in the pinned program and in every row, IS THE sha256 OF THE DUMP (.gsa) THAT YtpncgjcflkhemaaProg.lean LOADS. Nothing in Lean hashes anything: it is a label: what it is worth is what the hold of that sum in a sandbox is worth. -/
noncomputable def Try.pinned : Pinned := { name := "ytpncgjcflkhemaa", sum := "e33cf65eecde3e165c803a9e671e64e92f15c372c39af15a7a2c2fea2887cc16", checked := Try.checked }
namespace Rows
def none {H : Type} : Left H := { results := [], args := [] }

/-- 'clinkerlaw06.ScanPlace': WHATEVER THE INPUT: true; the input reads as it did. -/
def scanPlaceSpec : ChangeSpec := { name := "scanPlace", fn := fun _ => fun
  | [d1, d2, d3, d4] => { results := [.lit (.bool true)], args := [d1, d2, d3, d4] }
  | _ => none }
def scanPlaceRow : OpenClaim := { program := "ytpncgjcflkhemaa", sum := "e33cf65eecde3e165c803a9e671e64e92f15c372c39af15a7a2c2fea2887cc16", func := "clinker/clinkerlaw06.ScanPlace", spec := "scanPlace", unfollowed := true, recurses := true, apart := false }
def ScanPlaceSaid : Prop := scanPlaceRow.holds Try.pinned (OpenSpec.ofChange scanPlaceSpec)

/-- ITS FALSE NEIGHBOUR: 'it returns false'. Refute it at one input. -/
def scanPlaceWrong : ChangeSpec := { name := "scanPlace", fn := fun _ => fun
  | [d1, d2, d3, d4] => { results := [.lit (.bool false)], args := [d1, d2, d3, d4] }
  | _ => none }
def ScanPlaceWrongFalsely : Prop := scanPlaceRow.holds Try.pinned (OpenSpec.ofChange scanPlaceWrong)

/-- 'clinkerlaw06.ScanOne': WHATEVER THE INPUT: true; the input reads as it did. -/
def scanOneSpec : ChangeSpec := { name := "scanOne", fn := fun _ => fun
  | [d1, d2, d3, d4] => { results := [.lit (.bool true)], args := [d1, d2, d3, d4] }
  | _ => none }
def scanOneRow : OpenClaim := { program := "ytpncgjcflkhemaa", sum := "e33cf65eecde3e165c803a9e671e64e92f15c372c39af15a7a2c2fea2887cc16", func := "clinker/clinkerlaw06.ScanOne", spec := "scanOne", unfollowed := true, recurses := true, apart := false }
def ScanOneSaid : Prop := scanOneRow.holds Try.pinned (OpenSpec.ofChange scanOneSpec)

/-- ITS FALSE NEIGHBOUR: 'it returns false'. Refute it at one input. -/
def scanOneWrong : ChangeSpec := { name := "scanOne", fn := fun _ => fun
  | [d1, d2, d3, d4] => { results := [.lit (.bool false)], args := [d1, d2, d3, d4] }
  | _ => none }
def ScanOneWrongFalsely : Prop := scanOneRow.holds Try.pinned (OpenSpec.ofChange scanOneWrong)

/-- 'clinkerlaw06.ScanErase': WHATEVER THE INPUT: true; the input reads as it did. -/
def scanEraseSpec : ChangeSpec := { name := "scanErase", fn := fun _ => fun
  | [d1, d2] => { results := [.lit (.bool true)], args := [d1, d2] }
  | _ => none }
def scanEraseRow : OpenClaim := { program := "ytpncgjcflkhemaa", sum := "e33cf65eecde3e165c803a9e671e64e92f15c372c39af15a7a2c2fea2887cc16", func := "clinker/clinkerlaw06.ScanErase", spec := "scanErase", unfollowed := true, recurses := true, apart := false }
def ScanEraseSaid : Prop := scanEraseRow.holds Try.pinned (OpenSpec.ofChange scanEraseSpec)

/-- ITS FALSE NEIGHBOUR: 'it returns false'. Refute it at one input. -/
def scanEraseWrong : ChangeSpec := { name := "scanErase", fn := fun _ => fun
  | [d1, d2] => { results := [.lit (.bool false)], args := [d1, d2] }
  | _ => none }
def ScanEraseWrongFalsely : Prop := scanEraseRow.holds Try.pinned (OpenSpec.ofChange scanEraseWrong)

/- THE SECOND FORM. 'bulk': how many values and letters a reading holds, each counted each time it is reached (what is shared counts as often as it is met; a slice's spare places count too). A statement '..UptoSaid' is the law's where the arguments, and the package variables that the reading takes, are together of bulk at most 1048576: NARROWER than '..Said'. Prove '..Said' where nothing that the law and all that it calls make is longer than what came in: it says more and counts as full. Else prove '..UptoSaid'. A law counts once. -/
mutual
def uptoBulk {H : Type} : DataW H → Nat
  | .lit (.string bytes) => bytes.length + 1
  | .lit _ => 1
  | .nil => 1
  | .ptr d => uptoBulk d + 1
  | .slice elems spare => uptoBulkAll elems + uptoBulkAll spare + 1
  | .agg parts => uptoBulkAll parts + 1
  | .iface _ d => uptoBulk d + 1
  | .map entries => uptoBulkEntries entries + 1
  | .held _ => 1
def uptoBulkAll {H : Type} : List (DataW H) → Nat
  | [] => 0
  | d :: r => uptoBulk d + uptoBulkAll r
def uptoBulkEntries {H : Type} : List (Lit × DataW H) → Nat
  | [] => 0
  | x :: r => uptoBulkEntry x + uptoBulkEntries r
def uptoBulkEntry {H : Type} : Lit × DataW H → Nat
  | (.string bytes, d) => bytes.length + uptoBulk d + 1
  | (_, d) => uptoBulk d + 1
 end
def uptoSmall : (H : Type) → List (DataW H) → Bool := fun _ ds => decide (uptoBulkAll ds ≤ 1048576)
def OpenSpec.upto (s : _root_.Go.ChangeSpec) : _root_.Go.OpenSpec := { _root_.Go.OpenSpec.ofChange s with cond := some uptoSmall }

/-- 'clinkerlaw06.ScanPlace', WHERE WHAT IT READS IS OF BULK AT MOST 1048576: true; the input reads as it did. -/
def scanPlaceUptoRow : OpenClaim := { program := "ytpncgjcflkhemaa", sum := "e33cf65eecde3e165c803a9e671e64e92f15c372c39af15a7a2c2fea2887cc16", func := "clinker/clinkerlaw06.ScanPlace", spec := "scanPlace", unfollowed := true, recurses := true, apart := false, narrowed := true }
def ScanPlaceUptoSaid : Prop := scanPlaceUptoRow.holds Try.pinned (OpenSpec.upto scanPlaceSpec)

/-- 'clinkerlaw06.ScanOne', WHERE WHAT IT READS IS OF BULK AT MOST 1048576: true; the input reads as it did. -/
def scanOneUptoRow : OpenClaim := { program := "ytpncgjcflkhemaa", sum := "e33cf65eecde3e165c803a9e671e64e92f15c372c39af15a7a2c2fea2887cc16", func := "clinker/clinkerlaw06.ScanOne", spec := "scanOne", unfollowed := true, recurses := true, apart := false, narrowed := true }
def ScanOneUptoSaid : Prop := scanOneUptoRow.holds Try.pinned (OpenSpec.upto scanOneSpec)

/-- 'clinkerlaw06.ScanErase', WHERE WHAT IT READS IS OF BULK AT MOST 1048576: true; the input reads as it did. -/
def scanEraseUptoRow : OpenClaim := { program := "ytpncgjcflkhemaa", sum := "e33cf65eecde3e165c803a9e671e64e92f15c372c39af15a7a2c2fea2887cc16", func := "clinker/clinkerlaw06.ScanErase", spec := "scanErase", unfollowed := true, recurses := true, apart := false, narrowed := true }
def ScanEraseUptoSaid : Prop := scanEraseUptoRow.holds Try.pinned (OpenSpec.upto scanEraseSpec)

end Rows
end Go.Proofs.Ytpncgjcflkhemaa
