/-
  No cell of these rows narrows 'for every input' (looked for: loops, veiled, ifaces, maps, wideKeys, modest, calm, conditions, laid).
  DERIVED. THE GIVEN ROWS OF THIS SEAT. 9 by the template 'for every input the law returns true; each argument reads behind the call as it read before'; 0 by the template 'total and deterministic' (their statements: YtnnklpmgncbgnaaTotals.lean).
  GIVEN WITH THE SEED: the statements are not yours to turn. If you find one false, say at which input.
  Laid BY PROGRAM, IN A SANDBOX (cutbox-rows.mjs): the forced cells as the released guide's own fill.sh prints them over the translation 9e2972f951b19afe… (all of the seat's roots in one cut). By AI agents, Wed Nov 11 2026. No macro, syntax, notation, axiom, sorry.
-/
import Derived.Test.YtnnklpmgncbgnaaChecked
import GoSem.Claim
import GoSem.ClaimJoined
import GoSem.ClaimMapViews
import Derived.JoinedTies
import Derived.KernelRfl
namespace Go.Proofs.Ytnnklpmgncbgnaa
/- THE CELL 'sum', in the pinned program and in every row, IS THE sha256 OF THE DUMP (.gsa) THAT YtnnklpmgncbgnaaProg.lean LOADS. Nothing in Lean hashes anything: it is a label: what it is worth is what the hold of that sum in a sandbox is worth. -/
noncomputable def Try.pinned : Pinned := { name := "ytnnklpmgncbgnaa", sum := "9e2972f951b19afe034726d84c81546b229469d81e608092c1fc6b2328c3a516", checked := Try.checked }
namespace Rows
def none {H : Type} : Left H := { results := [], args := [] }

/-- 'netwrightlaw24.CycleMany': WHATEVER THE INPUT: true; the input reads as it did. -/
def cycleManySpec : ChangeSpec := { name := "cycleMany", fn := fun _ => fun
  | [d1, d2] => { results := [.lit (.bool true)], args := [d1, d2] }
  | _ => none }
def cycleManyRow : OpenClaim := { program := "ytnnklpmgncbgnaa", sum := "9e2972f951b19afe034726d84c81546b229469d81e608092c1fc6b2328c3a516", func := "netwright/netwrightlaw24.CycleMany", spec := "cycleMany", unfollowed := true, recurses := true, apart := false }
def CycleManySaid : Prop := cycleManyRow.holds Try.pinned (OpenSpec.ofChange cycleManySpec)

/-- ITS FALSE NEIGHBOUR: 'it returns false'. Refute it at one input. -/
def cycleManyWrong : ChangeSpec := { name := "cycleMany", fn := fun _ => fun
  | [d1, d2] => { results := [.lit (.bool false)], args := [d1, d2] }
  | _ => none }
def CycleManyWrongFalsely : Prop := cycleManyRow.holds Try.pinned (OpenSpec.ofChange cycleManyWrong)

/-- 'netwrightlaw24.CycleLanes': WHATEVER THE INPUT: true; the input reads as it did. -/
def cycleLanesSpec : ChangeSpec := { name := "cycleLanes", fn := fun _ => fun
  | [d1, d2, d3] => { results := [.lit (.bool true)], args := [d1, d2, d3] }
  | _ => none }
def cycleLanesRow : OpenClaim := { program := "ytnnklpmgncbgnaa", sum := "9e2972f951b19afe034726d84c81546b229469d81e608092c1fc6b2328c3a516", func := "netwright/netwrightlaw24.CycleLanes", spec := "cycleLanes", unfollowed := true, recurses := true, apart := false }
def CycleLanesSaid : Prop := cycleLanesRow.holds Try.pinned (OpenSpec.ofChange cycleLanesSpec)

/-- ITS FALSE NEIGHBOUR: 'it returns false'. Refute it at one input. -/
def cycleLanesWrong : ChangeSpec := { name := "cycleLanes", fn := fun _ => fun
  | [d1, d2, d3] => { results := [.lit (.bool false)], args := [d1, d2, d3] }
  | _ => none }
def CycleLanesWrongFalsely : Prop := cycleLanesRow.holds Try.pinned (OpenSpec.ofChange cycleLanesWrong)

/-- 'netwrightlaw24.CycleClosed': WHATEVER THE INPUT: true; the input reads as it did. -/
def cycleClosedSpec : ChangeSpec := { name := "cycleClosed", fn := fun _ => fun
  | [d] => { results := [.lit (.bool true)], args := [d] }
  | _ => none }
def cycleClosedRow : OpenClaim := { program := "ytnnklpmgncbgnaa", sum := "9e2972f951b19afe034726d84c81546b229469d81e608092c1fc6b2328c3a516", func := "netwright/netwrightlaw24.CycleClosed", spec := "cycleClosed", unfollowed := true, recurses := true, apart := false }
def CycleClosedSaid : Prop := cycleClosedRow.holds Try.pinned (OpenSpec.ofChange cycleClosedSpec)

/-- ITS FALSE NEIGHBOUR: 'it returns false'. Refute it at one input. -/
def cycleClosedWrong : ChangeSpec := { name := "cycleClosed", fn := fun _ => fun
  | [d] => { results := [.lit (.bool false)], args := [d] }
  | _ => none }
def CycleClosedWrongFalsely : Prop := cycleClosedRow.holds Try.pinned (OpenSpec.ofChange cycleClosedWrong)

/-- 'netwrightlaw24.CycleKnown': WHATEVER THE INPUT: true; the input reads as it did. -/
def cycleKnownSpec : ChangeSpec := { name := "cycleKnown", fn := fun _ => fun
  | [d1, d2, d3] => { results := [.lit (.bool true)], args := [d1, d2, d3] }
  | _ => none }
def cycleKnownRow : OpenClaim := { program := "ytnnklpmgncbgnaa", sum := "9e2972f951b19afe034726d84c81546b229469d81e608092c1fc6b2328c3a516", func := "netwright/netwrightlaw24.CycleKnown", spec := "cycleKnown", unfollowed := true, recurses := true, apart := false }
def CycleKnownSaid : Prop := cycleKnownRow.holds Try.pinned (OpenSpec.ofChange cycleKnownSpec)

/-- ITS FALSE NEIGHBOUR: 'it returns false'. Refute it at one input. -/
def cycleKnownWrong : ChangeSpec := { name := "cycleKnown", fn := fun _ => fun
  | [d1, d2, d3] => { results := [.lit (.bool false)], args := [d1, d2, d3] }
  | _ => none }
def CycleKnownWrongFalsely : Prop := cycleKnownRow.holds Try.pinned (OpenSpec.ofChange cycleKnownWrong)

/-- 'netwrightlaw24.CycleEarly': WHATEVER THE INPUT: true; the input reads as it did. -/
def cycleEarlySpec : ChangeSpec := { name := "cycleEarly", fn := fun _ => fun
  | [d1, d2, d3] => { results := [.lit (.bool true)], args := [d1, d2, d3] }
  | _ => none }
def cycleEarlyRow : OpenClaim := { program := "ytnnklpmgncbgnaa", sum := "9e2972f951b19afe034726d84c81546b229469d81e608092c1fc6b2328c3a516", func := "netwright/netwrightlaw24.CycleEarly", spec := "cycleEarly", unfollowed := true, recurses := true, apart := false }
def CycleEarlySaid : Prop := cycleEarlyRow.holds Try.pinned (OpenSpec.ofChange cycleEarlySpec)

/-- ITS FALSE NEIGHBOUR: 'it returns false'. Refute it at one input. -/
def cycleEarlyWrong : ChangeSpec := { name := "cycleEarly", fn := fun _ => fun
  | [d1, d2, d3] => { results := [.lit (.bool false)], args := [d1, d2, d3] }
  | _ => none }
def CycleEarlyWrongFalsely : Prop := cycleEarlyRow.holds Try.pinned (OpenSpec.ofChange cycleEarlyWrong)

/-- 'netwrightlaw24.CycleRounds': WHATEVER THE INPUT: true; the input reads as it did. -/
def cycleRoundsSpec : ChangeSpec := { name := "cycleRounds", fn := fun _ => fun
  | [d1, d2] => { results := [.lit (.bool true)], args := [d1, d2] }
  | _ => none }
def cycleRoundsRow : OpenClaim := { program := "ytnnklpmgncbgnaa", sum := "9e2972f951b19afe034726d84c81546b229469d81e608092c1fc6b2328c3a516", func := "netwright/netwrightlaw24.CycleRounds", spec := "cycleRounds", unfollowed := true, recurses := true, apart := false }
def CycleRoundsSaid : Prop := cycleRoundsRow.holds Try.pinned (OpenSpec.ofChange cycleRoundsSpec)

/-- ITS FALSE NEIGHBOUR: 'it returns false'. Refute it at one input. -/
def cycleRoundsWrong : ChangeSpec := { name := "cycleRounds", fn := fun _ => fun
  | [d1, d2] => { results := [.lit (.bool false)], args := [d1, d2] }
  | _ => none }
def CycleRoundsWrongFalsely : Prop := cycleRoundsRow.holds Try.pinned (OpenSpec.ofChange cycleRoundsWrong)

/-- 'netwrightlaw24.CycleOwn': WHATEVER THE INPUT: true; the input reads as it did. -/
def cycleOwnSpec : ChangeSpec := { name := "cycleOwn", fn := fun _ => fun
  | [d1, d2, d3] => { results := [.lit (.bool true)], args := [d1, d2, d3] }
  | _ => none }
def cycleOwnRow : OpenClaim := { program := "ytnnklpmgncbgnaa", sum := "9e2972f951b19afe034726d84c81546b229469d81e608092c1fc6b2328c3a516", func := "netwright/netwrightlaw24.CycleOwn", spec := "cycleOwn", unfollowed := true, recurses := true, apart := false }
def CycleOwnSaid : Prop := cycleOwnRow.holds Try.pinned (OpenSpec.ofChange cycleOwnSpec)

/-- ITS FALSE NEIGHBOUR: 'it returns false'. Refute it at one input. -/
def cycleOwnWrong : ChangeSpec := { name := "cycleOwn", fn := fun _ => fun
  | [d1, d2, d3] => { results := [.lit (.bool false)], args := [d1, d2, d3] }
  | _ => none }
def CycleOwnWrongFalsely : Prop := cycleOwnRow.holds Try.pinned (OpenSpec.ofChange cycleOwnWrong)

/-- 'netwrightlaw24.CycleRuns': WHATEVER THE INPUT: true; the input reads as it did. -/
def cycleRunsSpec : ChangeSpec := { name := "cycleRuns", fn := fun _ => fun
  | [d1, d2, d3] => { results := [.lit (.bool true)], args := [d1, d2, d3] }
  | _ => none }
def cycleRunsRow : OpenClaim := { program := "ytnnklpmgncbgnaa", sum := "9e2972f951b19afe034726d84c81546b229469d81e608092c1fc6b2328c3a516", func := "netwright/netwrightlaw24.CycleRuns", spec := "cycleRuns", unfollowed := true, recurses := true, apart := false }
def CycleRunsSaid : Prop := cycleRunsRow.holds Try.pinned (OpenSpec.ofChange cycleRunsSpec)

/-- ITS FALSE NEIGHBOUR: 'it returns false'. Refute it at one input. -/
def cycleRunsWrong : ChangeSpec := { name := "cycleRuns", fn := fun _ => fun
  | [d1, d2, d3] => { results := [.lit (.bool false)], args := [d1, d2, d3] }
  | _ => none }
def CycleRunsWrongFalsely : Prop := cycleRunsRow.holds Try.pinned (OpenSpec.ofChange cycleRunsWrong)

/-- 'netwrightlaw24.CycleParts': WHATEVER THE INPUT: true; the input reads as it did. -/
def cyclePartsSpec : ChangeSpec := { name := "cycleParts", fn := fun _ => fun
  | [d1, d2, d3] => { results := [.lit (.bool true)], args := [d1, d2, d3] }
  | _ => none }
def cyclePartsRow : OpenClaim := { program := "ytnnklpmgncbgnaa", sum := "9e2972f951b19afe034726d84c81546b229469d81e608092c1fc6b2328c3a516", func := "netwright/netwrightlaw24.CycleParts", spec := "cycleParts", unfollowed := true, recurses := true, apart := false }
def CyclePartsSaid : Prop := cyclePartsRow.holds Try.pinned (OpenSpec.ofChange cyclePartsSpec)

/-- ITS FALSE NEIGHBOUR: 'it returns false'. Refute it at one input. -/
def cyclePartsWrong : ChangeSpec := { name := "cycleParts", fn := fun _ => fun
  | [d1, d2, d3] => { results := [.lit (.bool false)], args := [d1, d2, d3] }
  | _ => none }
def CyclePartsWrongFalsely : Prop := cyclePartsRow.holds Try.pinned (OpenSpec.ofChange cyclePartsWrong)

/- THE SECOND FORM. 'bulk': how many values and letters a reading holds, each counted each time it is reached (what is shared counts as often as it is met; a slice's spare places count too). A statement '..UptoSaid' is the law's where the arguments, and the package variables that the reading takes, are together of bulk at most 1048576: NARROWER than '..Said'. Prove '..Said' where nothing that the law and all that it calls make is longer than what came in: it says more and counts as full. Else prove '..UptoSaid'. A law counts once. -/
mutual
def uptoBulk {H : Type} : DataW H → Nat
  | .lit (.string bytes) => bytes.length + 1
  | .lit _ => 1
  | .nil => 1
  | .ptr d => uptoBulk d + 1
  | .slice elems spare => uptoBulkAll elems + uptoBulkAll spare + 1
  | .agg parts => uptoBulkAll parts + 1
  | .iface _ d => uptoBulk d + 1
  | .map entries => uptoBulkEntries entries + 1
  | .held _ => 1
def uptoBulkAll {H : Type} : List (DataW H) → Nat
  | [] => 0
  | d :: r => uptoBulk d + uptoBulkAll r
def uptoBulkEntries {H : Type} : List (Lit × DataW H) → Nat
  | [] => 0
  | x :: r => uptoBulkEntry x + uptoBulkEntries r
def uptoBulkEntry {H : Type} : Lit × DataW H → Nat
  | (.string bytes, d) => bytes.length + uptoBulk d + 1
  | (_, d) => uptoBulk d + 1
 end
def uptoSmall : (H : Type) → List (DataW H) → Bool := fun _ ds => decide (uptoBulkAll ds ≤ 1048576)
def OpenSpec.upto (s : _root_.Go.ChangeSpec) : _root_.Go.OpenSpec := { _root_.Go.OpenSpec.ofChange s with cond := some uptoSmall }

/-- 'netwrightlaw24.CycleMany', WHERE WHAT IT READS IS OF BULK AT MOST 1048576: true; the input reads as it did. -/
def cycleManyUptoRow : OpenClaim := { program := "ytnnklpmgncbgnaa", sum := "9e2972f951b19afe034726d84c81546b229469d81e608092c1fc6b2328c3a516", func := "netwright/netwrightlaw24.CycleMany", spec := "cycleMany", unfollowed := true, recurses := true, apart := false, narrowed := true }
def CycleManyUptoSaid : Prop := cycleManyUptoRow.holds Try.pinned (OpenSpec.upto cycleManySpec)

/-- 'netwrightlaw24.CycleLanes', WHERE WHAT IT READS IS OF BULK AT MOST 1048576: true; the input reads as it did. -/
def cycleLanesUptoRow : OpenClaim := { program := "ytnnklpmgncbgnaa", sum := "9e2972f951b19afe034726d84c81546b229469d81e608092c1fc6b2328c3a516", func := "netwright/netwrightlaw24.CycleLanes", spec := "cycleLanes", unfollowed := true, recurses := true, apart := false, narrowed := true }
def CycleLanesUptoSaid : Prop := cycleLanesUptoRow.holds Try.pinned (OpenSpec.upto cycleLanesSpec)

/-- 'netwrightlaw24.CycleClosed', WHERE WHAT IT READS IS OF BULK AT MOST 1048576: true; the input reads as it did. -/
def cycleClosedUptoRow : OpenClaim := { program := "ytnnklpmgncbgnaa", sum := "9e2972f951b19afe034726d84c81546b229469d81e608092c1fc6b2328c3a516", func := "netwright/netwrightlaw24.CycleClosed", spec := "cycleClosed", unfollowed := true, recurses := true, apart := false, narrowed := true }
def CycleClosedUptoSaid : Prop := cycleClosedUptoRow.holds Try.pinned (OpenSpec.upto cycleClosedSpec)

/-- 'netwrightlaw24.CycleKnown', WHERE WHAT IT READS IS OF BULK AT MOST 1048576: true; the input reads as it did. -/
def cycleKnownUptoRow : OpenClaim := { program := "ytnnklpmgncbgnaa", sum := "9e2972f951b19afe034726d84c81546b229469d81e608092c1fc6b2328c3a516", func := "netwright/netwrightlaw24.CycleKnown", spec := "cycleKnown", unfollowed := true, recurses := true, apart := false, narrowed := true }
def CycleKnownUptoSaid : Prop := cycleKnownUptoRow.holds Try.pinned (OpenSpec.upto cycleKnownSpec)

/-- 'netwrightlaw24.CycleEarly', WHERE WHAT IT READS IS OF BULK AT MOST 1048576: true; the input reads as it did. -/
def cycleEarlyUptoRow : OpenClaim := { program := "ytnnklpmgncbgnaa", sum := "9e2972f951b19afe034726d84c81546b229469d81e608092c1fc6b2328c3a516", func := "netwright/netwrightlaw24.CycleEarly", spec := "cycleEarly", unfollowed := true, recurses := true, apart := false, narrowed := true }
def CycleEarlyUptoSaid : Prop := cycleEarlyUptoRow.holds Try.pinned (OpenSpec.upto cycleEarlySpec)

/-- 'netwrightlaw24.CycleRounds', WHERE WHAT IT READS IS OF BULK AT MOST 1048576: true; the input reads as it did. -/
def cycleRoundsUptoRow : OpenClaim := { program := "ytnnklpmgncbgnaa", sum := "9e2972f951b19afe034726d84c81546b229469d81e608092c1fc6b2328c3a516", func := "netwright/netwrightlaw24.CycleRounds", spec := "cycleRounds", unfollowed := true, recurses := true, apart := false, narrowed := true }
def CycleRoundsUptoSaid : Prop := cycleRoundsUptoRow.holds Try.pinned (OpenSpec.upto cycleRoundsSpec)

/-- 'netwrightlaw24.CycleOwn', WHERE WHAT IT READS IS OF BULK AT MOST 1048576: true; the input reads as it did. -/
def cycleOwnUptoRow : OpenClaim := { program := "ytnnklpmgncbgnaa", sum := "9e2972f951b19afe034726d84c81546b229469d81e608092c1fc6b2328c3a516", func := "netwright/netwrightlaw24.CycleOwn", spec := "cycleOwn", unfollowed := true, recurses := true, apart := false, narrowed := true }
def CycleOwnUptoSaid : Prop := cycleOwnUptoRow.holds Try.pinned (OpenSpec.upto cycleOwnSpec)

/-- 'netwrightlaw24.CycleRuns', WHERE WHAT IT READS IS OF BULK AT MOST 1048576: true; the input reads as it did. -/
def cycleRunsUptoRow : OpenClaim := { program := "ytnnklpmgncbgnaa", sum := "9e2972f951b19afe034726d84c81546b229469d81e608092c1fc6b2328c3a516", func := "netwright/netwrightlaw24.CycleRuns", spec := "cycleRuns", unfollowed := true, recurses := true, apart := false, narrowed := true }
def CycleRunsUptoSaid : Prop := cycleRunsUptoRow.holds Try.pinned (OpenSpec.upto cycleRunsSpec)

/-- 'netwrightlaw24.CycleParts', WHERE WHAT IT READS IS OF BULK AT MOST 1048576: true; the input reads as it did. -/
def cyclePartsUptoRow : OpenClaim := { program := "ytnnklpmgncbgnaa", sum := "9e2972f951b19afe034726d84c81546b229469d81e608092c1fc6b2328c3a516", func := "netwright/netwrightlaw24.CycleParts", spec := "cycleParts", unfollowed := true, recurses := true, apart := false, narrowed := true }
def CyclePartsUptoSaid : Prop := cyclePartsUptoRow.holds Try.pinned (OpenSpec.upto cyclePartsSpec)

end Rows
end Go.Proofs.Ytnnklpmgncbgnaa
