/-
  No cell of these rows narrows 'for every input' (looked for: loops, veiled, ifaces, maps, wideKeys, modest, calm, conditions, laid).
  DERIVED. THE GIVEN ROWS OF THIS SEAT. 6 by the template 'for every input the law returns true; each argument reads behind the call as it read before'; 0 by the template 'total and deterministic' (their statements: YtnkakbjfdfoehaaTotals.lean).
  GIVEN WITH THE SEED: the statements are not yours to turn. If you find one false, say at which input.
  Laid BY PROGRAM, IN A SANDBOX (cutbox-rows.mjs): the forced cells as the released guide's own fill.sh prints them over the translation af71d4a623d0eb9c… (all of the seat's roots in one cut). By AI agents, Wed Nov 11 2026. No macro, syntax, notation, axiom, sorry.
-/
import Derived.Test.YtnkakbjfdfoehaaChecked
import GoSem.Claim
import GoSem.ClaimJoined
import GoSem.ClaimMapViews
import Derived.JoinedTies
import Derived.KernelRfl
namespace Go.Proofs.Ytnkakbjfdfoehaa
/- THE CELL 'sum', in the pinned program and in every row, IS THE sha256 OF THE DUMP (.gsa) THAT YtnkakbjfdfoehaaProg.lean LOADS. Nothing in Lean hashes anything: it is a label: what it is worth is what the hold of that sum in a sandbox is worth. -/
noncomputable def Try.pinned : Pinned := { name := "ytnkakbjfdfoehaa", sum := "af71d4a623d0eb9c0a52dbb28eb584bd9e998fe5bf9724d79ed2ff8f9e4247ab", checked := Try.checked }
namespace Rows
def none {H : Type} : Left H := { results := [], args := [] }

/-- 'clinkerlaw07.ReplayNew': WHATEVER THE INPUT: true; the input reads as it did. -/
def replayNewSpec : ChangeSpec := { name := "replayNew", fn := fun _ => fun
  | [d] => { results := [.lit (.bool true)], args := [d] }
  | _ => none }
def replayNewRow : OpenClaim := { program := "ytnkakbjfdfoehaa", sum := "af71d4a623d0eb9c0a52dbb28eb584bd9e998fe5bf9724d79ed2ff8f9e4247ab", func := "clinker/clinkerlaw07.ReplayNew", spec := "replayNew", unfollowed := true, recurses := true, apart := false }
def ReplayNewSaid : Prop := replayNewRow.holds Try.pinned (OpenSpec.ofChange replayNewSpec)

/-- ITS FALSE NEIGHBOUR: 'it returns false'. Refute it at one input. -/
def replayNewWrong : ChangeSpec := { name := "replayNew", fn := fun _ => fun
  | [d] => { results := [.lit (.bool false)], args := [d] }
  | _ => none }
def ReplayNewWrongFalsely : Prop := replayNewRow.holds Try.pinned (OpenSpec.ofChange replayNewWrong)

/-- 'clinkerlaw07.ReplayApply': WHATEVER THE INPUT: true; the input reads as it did. -/
def replayApplySpec : ChangeSpec := { name := "replayApply", fn := fun _ => fun
  | [d1, d2] => { results := [.lit (.bool true)], args := [d1, d2] }
  | _ => none }
def replayApplyRow : OpenClaim := { program := "ytnkakbjfdfoehaa", sum := "af71d4a623d0eb9c0a52dbb28eb584bd9e998fe5bf9724d79ed2ff8f9e4247ab", func := "clinker/clinkerlaw07.ReplayApply", spec := "replayApply", unfollowed := true, recurses := true, apart := false }
def ReplayApplySaid : Prop := replayApplyRow.holds Try.pinned (OpenSpec.ofChange replayApplySpec)

/-- ITS FALSE NEIGHBOUR: 'it returns false'. Refute it at one input. -/
def replayApplyWrong : ChangeSpec := { name := "replayApply", fn := fun _ => fun
  | [d1, d2] => { results := [.lit (.bool false)], args := [d1, d2] }
  | _ => none }
def ReplayApplyWrongFalsely : Prop := replayApplyRow.holds Try.pinned (OpenSpec.ofChange replayApplyWrong)

/-- 'clinkerlaw07.ReplayMany': WHATEVER THE INPUT: true; the input reads as it did. -/
def replayManySpec : ChangeSpec := { name := "replayMany", fn := fun _ => fun
  | [d1, d2] => { results := [.lit (.bool true)], args := [d1, d2] }
  | _ => none }
def replayManyRow : OpenClaim := { program := "ytnkakbjfdfoehaa", sum := "af71d4a623d0eb9c0a52dbb28eb584bd9e998fe5bf9724d79ed2ff8f9e4247ab", func := "clinker/clinkerlaw07.ReplayMany", spec := "replayMany", unfollowed := true, recurses := true, apart := false }
def ReplayManySaid : Prop := replayManyRow.holds Try.pinned (OpenSpec.ofChange replayManySpec)

/-- ITS FALSE NEIGHBOUR: 'it returns false'. Refute it at one input. -/
def replayManyWrong : ChangeSpec := { name := "replayMany", fn := fun _ => fun
  | [d1, d2] => { results := [.lit (.bool false)], args := [d1, d2] }
  | _ => none }
def ReplayManyWrongFalsely : Prop := replayManyRow.holds Try.pinned (OpenSpec.ofChange replayManyWrong)

/-- 'clinkerlaw07.ReplayChip': WHATEVER THE INPUT: true; the input reads as it did. -/
def replayChipSpec : ChangeSpec := { name := "replayChip", fn := fun _ => fun
  | [d1, d2, d3, d4] => { results := [.lit (.bool true)], args := [d1, d2, d3, d4] }
  | _ => none }
def replayChipRow : OpenClaim := { program := "ytnkakbjfdfoehaa", sum := "af71d4a623d0eb9c0a52dbb28eb584bd9e998fe5bf9724d79ed2ff8f9e4247ab", func := "clinker/clinkerlaw07.ReplayChip", spec := "replayChip", unfollowed := true, recurses := true, apart := false }
def ReplayChipSaid : Prop := replayChipRow.holds Try.pinned (OpenSpec.ofChange replayChipSpec)

/-- ITS FALSE NEIGHBOUR: 'it returns false'. Refute it at one input. -/
def replayChipWrong : ChangeSpec := { name := "replayChip", fn := fun _ => fun
  | [d1, d2, d3, d4] => { results := [.lit (.bool false)], args := [d1, d2, d3, d4] }
  | _ => none }
def ReplayChipWrongFalsely : Prop := replayChipRow.holds Try.pinned (OpenSpec.ofChange replayChipWrong)

/-- 'clinkerlaw07.ReplayLast': WHATEVER THE INPUT: true; the input reads as it did. -/
def replayLastSpec : ChangeSpec := { name := "replayLast", fn := fun _ => fun
  | [d1, d2] => { results := [.lit (.bool true)], args := [d1, d2] }
  | _ => none }
def replayLastRow : OpenClaim := { program := "ytnkakbjfdfoehaa", sum := "af71d4a623d0eb9c0a52dbb28eb584bd9e998fe5bf9724d79ed2ff8f9e4247ab", func := "clinker/clinkerlaw07.ReplayLast", spec := "replayLast", unfollowed := true, recurses := true, apart := false }
def ReplayLastSaid : Prop := replayLastRow.holds Try.pinned (OpenSpec.ofChange replayLastSpec)

/-- ITS FALSE NEIGHBOUR: 'it returns false'. Refute it at one input. -/
def replayLastWrong : ChangeSpec := { name := "replayLast", fn := fun _ => fun
  | [d1, d2] => { results := [.lit (.bool false)], args := [d1, d2] }
  | _ => none }
def ReplayLastWrongFalsely : Prop := replayLastRow.holds Try.pinned (OpenSpec.ofChange replayLastWrong)

/-- 'clinkerlaw07.ReplayCopies': WHATEVER THE INPUT: true; the input reads as it did. -/
def replayCopiesSpec : ChangeSpec := { name := "replayCopies", fn := fun _ => fun
  | [d1, d2] => { results := [.lit (.bool true)], args := [d1, d2] }
  | _ => none }
def replayCopiesRow : OpenClaim := { program := "ytnkakbjfdfoehaa", sum := "af71d4a623d0eb9c0a52dbb28eb584bd9e998fe5bf9724d79ed2ff8f9e4247ab", func := "clinker/clinkerlaw07.ReplayCopies", spec := "replayCopies", unfollowed := true, recurses := true, apart := false }
def ReplayCopiesSaid : Prop := replayCopiesRow.holds Try.pinned (OpenSpec.ofChange replayCopiesSpec)

/-- ITS FALSE NEIGHBOUR: 'it returns false'. Refute it at one input. -/
def replayCopiesWrong : ChangeSpec := { name := "replayCopies", fn := fun _ => fun
  | [d1, d2] => { results := [.lit (.bool false)], args := [d1, d2] }
  | _ => none }
def ReplayCopiesWrongFalsely : Prop := replayCopiesRow.holds Try.pinned (OpenSpec.ofChange replayCopiesWrong)

/- THE SECOND FORM. 'bulk': how many values and letters a reading holds, each counted each time it is reached (what is shared counts as often as it is met; a slice's spare places count too). A statement '..UptoSaid' is the law's where the arguments, and the package variables that the reading takes, are together of bulk at most 1048576: NARROWER than '..Said'. Prove '..Said' where nothing that the law and all that it calls make is longer than what came in: it says more and counts as full. Else prove '..UptoSaid'. A law counts once. -/
mutual
def uptoBulk {H : Type} : DataW H → Nat
  | .lit (.string bytes) => bytes.length + 1
  | .lit _ => 1
  | .nil => 1
  | .ptr d => uptoBulk d + 1
  | .slice elems spare => uptoBulkAll elems + uptoBulkAll spare + 1
  | .agg parts => uptoBulkAll parts + 1
  | .iface _ d => uptoBulk d + 1
  | .map entries => uptoBulkEntries entries + 1
  | .held _ => 1
def uptoBulkAll {H : Type} : List (DataW H) → Nat
  | [] => 0
  | d :: r => uptoBulk d + uptoBulkAll r
def uptoBulkEntries {H : Type} : List (Lit × DataW H) → Nat
  | [] => 0
  | x :: r => uptoBulkEntry x + uptoBulkEntries r
def uptoBulkEntry {H : Type} : Lit × DataW H → Nat
  | (.string bytes, d) => bytes.length + uptoBulk d + 1
  | (_, d) => uptoBulk d + 1
 end
def uptoSmall : (H : Type) → List (DataW H) → Bool := fun _ ds => decide (uptoBulkAll ds ≤ 1048576)
def OpenSpec.upto (s : _root_.Go.ChangeSpec) : _root_.Go.OpenSpec := { _root_.Go.OpenSpec.ofChange s with cond := some uptoSmall }

/-- 'clinkerlaw07.ReplayNew', WHERE WHAT IT READS IS OF BULK AT MOST 1048576: true; the input reads as it did. -/
def replayNewUptoRow : OpenClaim := { program := "ytnkakbjfdfoehaa", sum := "af71d4a623d0eb9c0a52dbb28eb584bd9e998fe5bf9724d79ed2ff8f9e4247ab", func := "clinker/clinkerlaw07.ReplayNew", spec := "replayNew", unfollowed := true, recurses := true, apart := false, narrowed := true }
def ReplayNewUptoSaid : Prop := replayNewUptoRow.holds Try.pinned (OpenSpec.upto replayNewSpec)

/-- 'clinkerlaw07.ReplayApply', WHERE WHAT IT READS IS OF BULK AT MOST 1048576: true; the input reads as it did. -/
def replayApplyUptoRow : OpenClaim := { program := "ytnkakbjfdfoehaa", sum := "af71d4a623d0eb9c0a52dbb28eb584bd9e998fe5bf9724d79ed2ff8f9e4247ab", func := "clinker/clinkerlaw07.ReplayApply", spec := "replayApply", unfollowed := true, recurses := true, apart := false, narrowed := true }
def ReplayApplyUptoSaid : Prop := replayApplyUptoRow.holds Try.pinned (OpenSpec.upto replayApplySpec)

/-- 'clinkerlaw07.ReplayMany', WHERE WHAT IT READS IS OF BULK AT MOST 1048576: true; the input reads as it did. -/
def replayManyUptoRow : OpenClaim := { program := "ytnkakbjfdfoehaa", sum := "af71d4a623d0eb9c0a52dbb28eb584bd9e998fe5bf9724d79ed2ff8f9e4247ab", func := "clinker/clinkerlaw07.ReplayMany", spec := "replayMany", unfollowed := true, recurses := true, apart := false, narrowed := true }
def ReplayManyUptoSaid : Prop := replayManyUptoRow.holds Try.pinned (OpenSpec.upto replayManySpec)

/-- 'clinkerlaw07.ReplayChip', WHERE WHAT IT READS IS OF BULK AT MOST 1048576: true; the input reads as it did. -/
def replayChipUptoRow : OpenClaim := { program := "ytnkakbjfdfoehaa", sum := "af71d4a623d0eb9c0a52dbb28eb584bd9e998fe5bf9724d79ed2ff8f9e4247ab", func := "clinker/clinkerlaw07.ReplayChip", spec := "replayChip", unfollowed := true, recurses := true, apart := false, narrowed := true }
def ReplayChipUptoSaid : Prop := replayChipUptoRow.holds Try.pinned (OpenSpec.upto replayChipSpec)

/-- 'clinkerlaw07.ReplayLast', WHERE WHAT IT READS IS OF BULK AT MOST 1048576: true; the input reads as it did. -/
def replayLastUptoRow : OpenClaim := { program := "ytnkakbjfdfoehaa", sum := "af71d4a623d0eb9c0a52dbb28eb584bd9e998fe5bf9724d79ed2ff8f9e4247ab", func := "clinker/clinkerlaw07.ReplayLast", spec := "replayLast", unfollowed := true, recurses := true, apart := false, narrowed := true }
def ReplayLastUptoSaid : Prop := replayLastUptoRow.holds Try.pinned (OpenSpec.upto replayLastSpec)

/-- 'clinkerlaw07.ReplayCopies', WHERE WHAT IT READS IS OF BULK AT MOST 1048576: true; the input reads as it did. -/
def replayCopiesUptoRow : OpenClaim := { program := "ytnkakbjfdfoehaa", sum := "af71d4a623d0eb9c0a52dbb28eb584bd9e998fe5bf9724d79ed2ff8f9e4247ab", func := "clinker/clinkerlaw07.ReplayCopies", spec := "replayCopies", unfollowed := true, recurses := true, apart := false, narrowed := true }
def ReplayCopiesUptoSaid : Prop := replayCopiesUptoRow.holds Try.pinned (OpenSpec.upto replayCopiesSpec)

end Rows
end Go.Proofs.Ytnkakbjfdfoehaa
