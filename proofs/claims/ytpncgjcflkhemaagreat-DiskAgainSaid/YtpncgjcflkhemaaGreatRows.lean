/-
  No cell of these rows narrows 'for every input' (looked for: loops, veiled, ifaces, maps, wideKeys, modest, calm, conditions, laid).
  DERIVED. THE GIVEN ROWS OF THIS SEAT. 3 by the template 'for every input the law returns true; each argument reads behind the call as it read before'; 0 by the template 'total and deterministic' (their statements: YtpncgjcflkhemaaGreatTotals.lean).
  GIVEN WITH THE SEED: the statements are not yours to turn. If you find one false, say at which input.
  Laid BY PROGRAM, IN A SANDBOX (cutbox-rows.mjs): the forced cells as the released guide's own fill.sh prints them over the translation 3969e9aa9fda3389… (all of the seat's roots in one cut). By AI agents, Wed Nov 11 2026. No macro, syntax, notation, axiom, sorry.
-/
import Derived.Test.YtpncgjcflkhemaaGreatChecked
import GoSem.Claim
import GoSem.ClaimJoined
import GoSem.ClaimMapViews
import Derived.JoinedTies
import Derived.KernelRfl
namespace Go.Proofs.YtpncgjcflkhemaaGreat
/- THE CELL 'sum', in the pinned program and in every row, IS THE sha256 OF THE DUMP (.gsa) THAT YtpncgjcflkhemaaGreatProg.lean LOADS. Nothing in Lean hashes anything: it is a label: what it is worth is what the hold of that sum in a sandbox is worth. -/
noncomputable def Tryz.pinned : Pinned := { name := "ytpncgjcflkhemaagreat", sum := "3969e9aa9fda3389f30865565124f7ea5b36e3a9695ae4545305841c21ecb51b", checked := Tryz.checked }
namespace Rows
def none {H : Type} : Left H := { results := [], args := [] }

/-- 'clinkerlaw14.DiskFits': WHATEVER THE INPUT: true; the input reads as it did. -/
def diskFitsSpec : ChangeSpec := { name := "diskFits", fn := fun _ => fun
  | [d1, d2, d3, d4, d5] => { results := [.lit (.bool true)], args := [d1, d2, d3, d4, d5] }
  | _ => none }
def diskFitsRow : OpenClaim := { program := "ytpncgjcflkhemaagreat", sum := "3969e9aa9fda3389f30865565124f7ea5b36e3a9695ae4545305841c21ecb51b", func := "clinker/clinkerlaw14.DiskFits", spec := "diskFits", unfollowed := true, recurses := true, apart := false }
def DiskFitsSaid : Prop := diskFitsRow.holds Tryz.pinned (OpenSpec.ofChange diskFitsSpec)

/-- ITS FALSE NEIGHBOUR: 'it returns false'. Refute it at one input. -/
def diskFitsWrong : ChangeSpec := { name := "diskFits", fn := fun _ => fun
  | [d1, d2, d3, d4, d5] => { results := [.lit (.bool false)], args := [d1, d2, d3, d4, d5] }
  | _ => none }
def DiskFitsWrongFalsely : Prop := diskFitsRow.holds Tryz.pinned (OpenSpec.ofChange diskFitsWrong)

/-- 'clinkerlaw14.DiskMount': WHATEVER THE INPUT: true; the input reads as it did. -/
def diskMountSpec : ChangeSpec := { name := "diskMount", fn := fun _ => fun
  | [d1, d2, d3] => { results := [.lit (.bool true)], args := [d1, d2, d3] }
  | _ => none }
def diskMountRow : OpenClaim := { program := "ytpncgjcflkhemaagreat", sum := "3969e9aa9fda3389f30865565124f7ea5b36e3a9695ae4545305841c21ecb51b", func := "clinker/clinkerlaw14.DiskMount", spec := "diskMount", unfollowed := true, recurses := true, apart := false }
def DiskMountSaid : Prop := diskMountRow.holds Tryz.pinned (OpenSpec.ofChange diskMountSpec)

/-- ITS FALSE NEIGHBOUR: 'it returns false'. Refute it at one input. -/
def diskMountWrong : ChangeSpec := { name := "diskMount", fn := fun _ => fun
  | [d1, d2, d3] => { results := [.lit (.bool false)], args := [d1, d2, d3] }
  | _ => none }
def DiskMountWrongFalsely : Prop := diskMountRow.holds Tryz.pinned (OpenSpec.ofChange diskMountWrong)

/-- 'clinkerlaw14.DiskAgain': WHATEVER THE INPUT: true; the input reads as it did. -/
def diskAgainSpec : ChangeSpec := { name := "diskAgain", fn := fun _ => fun
  | [d1, d2] => { results := [.lit (.bool true)], args := [d1, d2] }
  | _ => none }
def diskAgainRow : OpenClaim := { program := "ytpncgjcflkhemaagreat", sum := "3969e9aa9fda3389f30865565124f7ea5b36e3a9695ae4545305841c21ecb51b", func := "clinker/clinkerlaw14.DiskAgain", spec := "diskAgain", unfollowed := true, recurses := true, apart := false }
def DiskAgainSaid : Prop := diskAgainRow.holds Tryz.pinned (OpenSpec.ofChange diskAgainSpec)

/-- ITS FALSE NEIGHBOUR: 'it returns false'. Refute it at one input. -/
def diskAgainWrong : ChangeSpec := { name := "diskAgain", fn := fun _ => fun
  | [d1, d2] => { results := [.lit (.bool false)], args := [d1, d2] }
  | _ => none }
def DiskAgainWrongFalsely : Prop := diskAgainRow.holds Tryz.pinned (OpenSpec.ofChange diskAgainWrong)

/- THE SECOND FORM. 'bulk': how many values and letters a reading holds, each counted each time it is reached (what is shared counts as often as it is met; a slice's spare places count too). A statement '..UptoSaid' is the law's where the arguments, and the package variables that the reading takes, are together of bulk at most 1048576: NARROWER than '..Said'. Prove '..Said' where nothing that the law and all that it calls make is longer than what came in: it says more and counts as full. Else prove '..UptoSaid'. A law counts once. -/
mutual
def uptoBulk {H : Type} : DataW H → Nat
  | .lit (.string bytes) => bytes.length + 1
  | .lit _ => 1
  | .nil => 1
  | .ptr d => uptoBulk d + 1
  | .slice elems spare => uptoBulkAll elems + uptoBulkAll spare + 1
  | .agg parts => uptoBulkAll parts + 1
  | .iface _ d => uptoBulk d + 1
  | .map entries => uptoBulkEntries entries + 1
  | .held _ => 1
def uptoBulkAll {H : Type} : List (DataW H) → Nat
  | [] => 0
  | d :: r => uptoBulk d + uptoBulkAll r
def uptoBulkEntries {H : Type} : List (Lit × DataW H) → Nat
  | [] => 0
  | x :: r => uptoBulkEntry x + uptoBulkEntries r
def uptoBulkEntry {H : Type} : Lit × DataW H → Nat
  | (.string bytes, d) => bytes.length + uptoBulk d + 1
  | (_, d) => uptoBulk d + 1
 end
def uptoSmall : (H : Type) → List (DataW H) → Bool := fun _ ds => decide (uptoBulkAll ds ≤ 1048576)
def OpenSpec.upto (s : _root_.Go.ChangeSpec) : _root_.Go.OpenSpec := { _root_.Go.OpenSpec.ofChange s with cond := some uptoSmall }

/-- 'clinkerlaw14.DiskFits', WHERE WHAT IT READS IS OF BULK AT MOST 1048576: true; the input reads as it did. -/
def diskFitsUptoRow : OpenClaim := { program := "ytpncgjcflkhemaagreat", sum := "3969e9aa9fda3389f30865565124f7ea5b36e3a9695ae4545305841c21ecb51b", func := "clinker/clinkerlaw14.DiskFits", spec := "diskFits", unfollowed := true, recurses := true, apart := false, narrowed := true }
def DiskFitsUptoSaid : Prop := diskFitsUptoRow.holds Tryz.pinned (OpenSpec.upto diskFitsSpec)

/-- 'clinkerlaw14.DiskMount', WHERE WHAT IT READS IS OF BULK AT MOST 1048576: true; the input reads as it did. -/
def diskMountUptoRow : OpenClaim := { program := "ytpncgjcflkhemaagreat", sum := "3969e9aa9fda3389f30865565124f7ea5b36e3a9695ae4545305841c21ecb51b", func := "clinker/clinkerlaw14.DiskMount", spec := "diskMount", unfollowed := true, recurses := true, apart := false, narrowed := true }
def DiskMountUptoSaid : Prop := diskMountUptoRow.holds Tryz.pinned (OpenSpec.upto diskMountSpec)

/-- 'clinkerlaw14.DiskAgain', WHERE WHAT IT READS IS OF BULK AT MOST 1048576: true; the input reads as it did. -/
def diskAgainUptoRow : OpenClaim := { program := "ytpncgjcflkhemaagreat", sum := "3969e9aa9fda3389f30865565124f7ea5b36e3a9695ae4545305841c21ecb51b", func := "clinker/clinkerlaw14.DiskAgain", spec := "diskAgain", unfollowed := true, recurses := true, apart := false, narrowed := true }
def DiskAgainUptoSaid : Prop := diskAgainUptoRow.holds Tryz.pinned (OpenSpec.upto diskAgainSpec)

end Rows
end Go.Proofs.YtpncgjcflkhemaaGreat
