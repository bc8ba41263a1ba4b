/-
  No cell of these rows narrows 'for every input' (looked for: loops, veiled, ifaces, maps, wideKeys, modest, calm, conditions, laid).
  DERIVED. THE GIVEN ROWS OF THIS SEAT. 11 by the template 'for every input the law returns true; each argument reads behind the call as it read before'; 0 by the template 'total and deterministic' (their statements: YtbpamlphacpkeaaTotals.lean).
  GIVEN WITH THE SEED: the statements are not yours to turn. If you find one false, say at which input.
  Laid BY PROGRAM, IN A SANDBOX (cutbox-rows.mjs): the forced cells as the released guide's own fill.sh prints them over the translation 857b7ac69a30ab35… (all of the seat's roots in one cut). By AI agents, Wed Nov 11 2026. No macro, syntax, notation, axiom, sorry.
-/
import Derived.Test.YtbpamlphacpkeaaChecked
import GoSem.Claim
import GoSem.ClaimJoined
import GoSem.ClaimMapViews
import Derived.JoinedTies
import Derived.KernelRfl
namespace Go.Proofs.Ytbpamlphacpkeaa
/- THE CELL 'sum', in the pinned program and in every row, IS THE sha256 OF THE DUMP (.gsa) THAT YtbpamlphacpkeaaProg.lean LOADS. Nothing in Lean hashes anything: it is a label: what it is worth is what the hold of that sum in a sandbox is worth. -/
noncomputable def Try.pinned : Pinned := { name := "ytbpamlphacpkeaa", sum := "857b7ac69a30ab357fcb2cebd33834be593371734991c4c467b6328677006ebb", checked := Try.checked }
namespace Rows
def none {H : Type} : Left H := { results := [], args := [] }

/-- 'netwrightlaw22.GatesEvals': WHATEVER THE INPUT: true; the input reads as it did. -/
def gatesEvalsSpec : ChangeSpec := { name := "gatesEvals", fn := fun _ => fun
  | [d1, d2, d3] => { results := [.lit (.bool true)], args := [d1, d2, d3] }
  | _ => none }
def gatesEvalsRow : OpenClaim := { program := "ytbpamlphacpkeaa", sum := "857b7ac69a30ab357fcb2cebd33834be593371734991c4c467b6328677006ebb", func := "netwright/netwrightlaw22.GatesEvals", spec := "gatesEvals", unfollowed := true, recurses := true, plainKeys := false, apart := false }
def GatesEvalsSaid : Prop := gatesEvalsRow.holds Try.pinned (OpenSpec.ofChange gatesEvalsSpec)

/-- ITS FALSE NEIGHBOUR: 'it returns false'. Refute it at one input. -/
def gatesEvalsWrong : ChangeSpec := { name := "gatesEvals", fn := fun _ => fun
  | [d1, d2, d3] => { results := [.lit (.bool false)], args := [d1, d2, d3] }
  | _ => none }
def GatesEvalsWrongFalsely : Prop := gatesEvalsRow.holds Try.pinned (OpenSpec.ofChange gatesEvalsWrong)

/-- 'netwrightlaw22.GatesKnown': WHATEVER THE INPUT: true; the input reads as it did. -/
def gatesKnownSpec : ChangeSpec := { name := "gatesKnown", fn := fun _ => fun
  | [d1, d2, d3] => { results := [.lit (.bool true)], args := [d1, d2, d3] }
  | _ => none }
def gatesKnownRow : OpenClaim := { program := "ytbpamlphacpkeaa", sum := "857b7ac69a30ab357fcb2cebd33834be593371734991c4c467b6328677006ebb", func := "netwright/netwrightlaw22.GatesKnown", spec := "gatesKnown", unfollowed := true, recurses := true, plainKeys := false, apart := false }
def GatesKnownSaid : Prop := gatesKnownRow.holds Try.pinned (OpenSpec.ofChange gatesKnownSpec)

/-- ITS FALSE NEIGHBOUR: 'it returns false'. Refute it at one input. -/
def gatesKnownWrong : ChangeSpec := { name := "gatesKnown", fn := fun _ => fun
  | [d1, d2, d3] => { results := [.lit (.bool false)], args := [d1, d2, d3] }
  | _ => none }
def GatesKnownWrongFalsely : Prop := gatesKnownRow.holds Try.pinned (OpenSpec.ofChange gatesKnownWrong)

/-- 'netwrightlaw22.GatesValid': WHATEVER THE INPUT: true; the input reads as it did. -/
def gatesValidSpec : ChangeSpec := { name := "gatesValid", fn := fun _ => fun
  | [d] => { results := [.lit (.bool true)], args := [d] }
  | _ => none }
def gatesValidRow : OpenClaim := { program := "ytbpamlphacpkeaa", sum := "857b7ac69a30ab357fcb2cebd33834be593371734991c4c467b6328677006ebb", func := "netwright/netwrightlaw22.GatesValid", spec := "gatesValid", unfollowed := true, recurses := true, plainKeys := false, apart := false }
def GatesValidSaid : Prop := gatesValidRow.holds Try.pinned (OpenSpec.ofChange gatesValidSpec)

/-- ITS FALSE NEIGHBOUR: 'it returns false'. Refute it at one input. -/
def gatesValidWrong : ChangeSpec := { name := "gatesValid", fn := fun _ => fun
  | [d] => { results := [.lit (.bool false)], args := [d] }
  | _ => none }
def GatesValidWrongFalsely : Prop := gatesValidRow.holds Try.pinned (OpenSpec.ofChange gatesValidWrong)

/-- 'netwrightlaw22.GatesMakes': WHATEVER THE INPUT: true; the input reads as it did. -/
def gatesMakesSpec : ChangeSpec := { name := "gatesMakes", fn := fun _ => fun
  | [d1, d2] => { results := [.lit (.bool true)], args := [d1, d2] }
  | _ => none }
def gatesMakesRow : OpenClaim := { program := "ytbpamlphacpkeaa", sum := "857b7ac69a30ab357fcb2cebd33834be593371734991c4c467b6328677006ebb", func := "netwright/netwrightlaw22.GatesMakes", spec := "gatesMakes", unfollowed := true, recurses := true, plainKeys := false, apart := false }
def GatesMakesSaid : Prop := gatesMakesRow.holds Try.pinned (OpenSpec.ofChange gatesMakesSpec)

/-- ITS FALSE NEIGHBOUR: 'it returns false'. Refute it at one input. -/
def gatesMakesWrong : ChangeSpec := { name := "gatesMakes", fn := fun _ => fun
  | [d1, d2] => { results := [.lit (.bool false)], args := [d1, d2] }
  | _ => none }
def GatesMakesWrongFalsely : Prop := gatesMakesRow.holds Try.pinned (OpenSpec.ofChange gatesMakesWrong)

/-- 'netwrightlaw22.GatesMean': WHATEVER THE INPUT: true; the input reads as it did. -/
def gatesMeanSpec : ChangeSpec := { name := "gatesMean", fn := fun _ => fun
  | [d1, d2, d3] => { results := [.lit (.bool true)], args := [d1, d2, d3] }
  | _ => none }
def gatesMeanRow : OpenClaim := { program := "ytbpamlphacpkeaa", sum := "857b7ac69a30ab357fcb2cebd33834be593371734991c4c467b6328677006ebb", func := "netwright/netwrightlaw22.GatesMean", spec := "gatesMean", unfollowed := true, recurses := true, plainKeys := false, apart := false }
def GatesMeanSaid : Prop := gatesMeanRow.holds Try.pinned (OpenSpec.ofChange gatesMeanSpec)

/-- ITS FALSE NEIGHBOUR: 'it returns false'. Refute it at one input. -/
def gatesMeanWrong : ChangeSpec := { name := "gatesMean", fn := fun _ => fun
  | [d1, d2, d3] => { results := [.lit (.bool false)], args := [d1, d2, d3] }
  | _ => none }
def GatesMeanWrongFalsely : Prop := gatesMeanRow.holds Try.pinned (OpenSpec.ofChange gatesMeanWrong)

/-- 'netwrightlaw22.GatesNil': WHATEVER THE INPUT: true; the input reads as it did. -/
def gatesNilSpec : ChangeSpec := { name := "gatesNil", fn := fun _ => fun
  | [d1, d2, d3] => { results := [.lit (.bool true)], args := [d1, d2, d3] }
  | _ => none }
def gatesNilRow : OpenClaim := { program := "ytbpamlphacpkeaa", sum := "857b7ac69a30ab357fcb2cebd33834be593371734991c4c467b6328677006ebb", func := "netwright/netwrightlaw22.GatesNil", spec := "gatesNil", unfollowed := true, recurses := true, plainKeys := false, apart := false }
def GatesNilSaid : Prop := gatesNilRow.holds Try.pinned (OpenSpec.ofChange gatesNilSpec)

/-- ITS FALSE NEIGHBOUR: 'it returns false'. Refute it at one input. -/
def gatesNilWrong : ChangeSpec := { name := "gatesNil", fn := fun _ => fun
  | [d1, d2, d3] => { results := [.lit (.bool false)], args := [d1, d2, d3] }
  | _ => none }
def GatesNilWrongFalsely : Prop := gatesNilRow.holds Try.pinned (OpenSpec.ofChange gatesNilWrong)

/-- 'netwrightlaw22.GatesCones': WHATEVER THE INPUT: true; the input reads as it did. -/
def gatesConesSpec : ChangeSpec := { name := "gatesCones", fn := fun _ => fun
  | [d1, d2, d3] => { results := [.lit (.bool true)], args := [d1, d2, d3] }
  | _ => none }
def gatesConesRow : OpenClaim := { program := "ytbpamlphacpkeaa", sum := "857b7ac69a30ab357fcb2cebd33834be593371734991c4c467b6328677006ebb", func := "netwright/netwrightlaw22.GatesCones", spec := "gatesCones", unfollowed := true, recurses := true, plainKeys := false, apart := false }
def GatesConesSaid : Prop := gatesConesRow.holds Try.pinned (OpenSpec.ofChange gatesConesSpec)

/-- ITS FALSE NEIGHBOUR: 'it returns false'. Refute it at one input. -/
def gatesConesWrong : ChangeSpec := { name := "gatesCones", fn := fun _ => fun
  | [d1, d2, d3] => { results := [.lit (.bool false)], args := [d1, d2, d3] }
  | _ => none }
def GatesConesWrongFalsely : Prop := gatesConesRow.holds Try.pinned (OpenSpec.ofChange gatesConesWrong)

/-- 'netwrightlaw22.GatesLevels': WHATEVER THE INPUT: true; the input reads as it did. -/
def gatesLevelsSpec : ChangeSpec := { name := "gatesLevels", fn := fun _ => fun
  | [d1, d2] => { results := [.lit (.bool true)], args := [d1, d2] }
  | _ => none }
def gatesLevelsRow : OpenClaim := { program := "ytbpamlphacpkeaa", sum := "857b7ac69a30ab357fcb2cebd33834be593371734991c4c467b6328677006ebb", func := "netwright/netwrightlaw22.GatesLevels", spec := "gatesLevels", unfollowed := true, recurses := true, plainKeys := false, apart := false }
def GatesLevelsSaid : Prop := gatesLevelsRow.holds Try.pinned (OpenSpec.ofChange gatesLevelsSpec)

/-- ITS FALSE NEIGHBOUR: 'it returns false'. Refute it at one input. -/
def gatesLevelsWrong : ChangeSpec := { name := "gatesLevels", fn := fun _ => fun
  | [d1, d2] => { results := [.lit (.bool false)], args := [d1, d2] }
  | _ => none }
def GatesLevelsWrongFalsely : Prop := gatesLevelsRow.holds Try.pinned (OpenSpec.ofChange gatesLevelsWrong)

/-- 'netwrightlaw22.GatesShares': WHATEVER THE INPUT: true; the input reads as it did. -/
def gatesSharesSpec : ChangeSpec := { name := "gatesShares", fn := fun _ => fun
  | [d] => { results := [.lit (.bool true)], args := [d] }
  | _ => none }
def gatesSharesRow : OpenClaim := { program := "ytbpamlphacpkeaa", sum := "857b7ac69a30ab357fcb2cebd33834be593371734991c4c467b6328677006ebb", func := "netwright/netwrightlaw22.GatesShares", spec := "gatesShares", unfollowed := true, recurses := true, plainKeys := false, apart := false }
def GatesSharesSaid : Prop := gatesSharesRow.holds Try.pinned (OpenSpec.ofChange gatesSharesSpec)

/-- ITS FALSE NEIGHBOUR: 'it returns false'. Refute it at one input. -/
def gatesSharesWrong : ChangeSpec := { name := "gatesShares", fn := fun _ => fun
  | [d] => { results := [.lit (.bool false)], args := [d] }
  | _ => none }
def GatesSharesWrongFalsely : Prop := gatesSharesRow.holds Try.pinned (OpenSpec.ofChange gatesSharesWrong)

/-- 'netwrightlaw22.GatesKeep': WHATEVER THE INPUT: true; the input reads as it did. -/
def gatesKeepSpec : ChangeSpec := { name := "gatesKeep", fn := fun _ => fun
  | [d1, d2, d3] => { results := [.lit (.bool true)], args := [d1, d2, d3] }
  | _ => none }
def gatesKeepRow : OpenClaim := { program := "ytbpamlphacpkeaa", sum := "857b7ac69a30ab357fcb2cebd33834be593371734991c4c467b6328677006ebb", func := "netwright/netwrightlaw22.GatesKeep", spec := "gatesKeep", unfollowed := true, recurses := true, plainKeys := false, apart := false }
def GatesKeepSaid : Prop := gatesKeepRow.holds Try.pinned (OpenSpec.ofChange gatesKeepSpec)

/-- ITS FALSE NEIGHBOUR: 'it returns false'. Refute it at one input. -/
def gatesKeepWrong : ChangeSpec := { name := "gatesKeep", fn := fun _ => fun
  | [d1, d2, d3] => { results := [.lit (.bool false)], args := [d1, d2, d3] }
  | _ => none }
def GatesKeepWrongFalsely : Prop := gatesKeepRow.holds Try.pinned (OpenSpec.ofChange gatesKeepWrong)

/-- 'netwrightlaw22.GatesOwn': WHATEVER THE INPUT: true; the input reads as it did. -/
def gatesOwnSpec : ChangeSpec := { name := "gatesOwn", fn := fun _ => fun
  | [d] => { results := [.lit (.bool true)], args := [d] }
  | _ => none }
def gatesOwnRow : OpenClaim := { program := "ytbpamlphacpkeaa", sum := "857b7ac69a30ab357fcb2cebd33834be593371734991c4c467b6328677006ebb", func := "netwright/netwrightlaw22.GatesOwn", spec := "gatesOwn", unfollowed := true, recurses := true, plainKeys := false, apart := false }
def GatesOwnSaid : Prop := gatesOwnRow.holds Try.pinned (OpenSpec.ofChange gatesOwnSpec)

/-- ITS FALSE NEIGHBOUR: 'it returns false'. Refute it at one input. -/
def gatesOwnWrong : ChangeSpec := { name := "gatesOwn", fn := fun _ => fun
  | [d] => { results := [.lit (.bool false)], args := [d] }
  | _ => none }
def GatesOwnWrongFalsely : Prop := gatesOwnRow.holds Try.pinned (OpenSpec.ofChange gatesOwnWrong)

/- THE SECOND FORM. 'bulk': how many values and letters a reading holds, each counted each time it is reached (what is shared counts as often as it is met; a slice's spare places count too). A statement '..UptoSaid' is the law's where the arguments, and the package variables that the reading takes, are together of bulk at most 1048576: NARROWER than '..Said'. Prove '..Said' where nothing that the law and all that it calls make is longer than what came in: it says more and counts as full. Else prove '..UptoSaid'. A law counts once. -/
mutual
def uptoBulk {H : Type} : DataW H → Nat
  | .lit (.string bytes) => bytes.length + 1
  | .lit _ => 1
  | .nil => 1
  | .ptr d => uptoBulk d + 1
  | .slice elems spare => uptoBulkAll elems + uptoBulkAll spare + 1
  | .agg parts => uptoBulkAll parts + 1
  | .iface _ d => uptoBulk d + 1
  | .map entries => uptoBulkEntries entries + 1
  | .held _ => 1
def uptoBulkAll {H : Type} : List (DataW H) → Nat
  | [] => 0
  | d :: r => uptoBulk d + uptoBulkAll r
def uptoBulkEntries {H : Type} : List (Lit × DataW H) → Nat
  | [] => 0
  | x :: r => uptoBulkEntry x + uptoBulkEntries r
def uptoBulkEntry {H : Type} : Lit × DataW H → Nat
  | (.string bytes, d) => bytes.length + uptoBulk d + 1
  | (_, d) => uptoBulk d + 1
 end
def uptoSmall : (H : Type) → List (DataW H) → Bool := fun _ ds => decide (uptoBulkAll ds ≤ 1048576)
def OpenSpec.upto (s : _root_.Go.ChangeSpec) : _root_.Go.OpenSpec := { _root_.Go.OpenSpec.ofChange s with cond := some uptoSmall }

/-- 'netwrightlaw22.GatesEvals', WHERE WHAT IT READS IS OF BULK AT MOST 1048576: true; the input reads as it did. -/
def gatesEvalsUptoRow : OpenClaim := { program := "ytbpamlphacpkeaa", sum := "857b7ac69a30ab357fcb2cebd33834be593371734991c4c467b6328677006ebb", func := "netwright/netwrightlaw22.GatesEvals", spec := "gatesEvals", unfollowed := true, recurses := true, plainKeys := false, apart := false, narrowed := true }
def GatesEvalsUptoSaid : Prop := gatesEvalsUptoRow.holds Try.pinned (OpenSpec.upto gatesEvalsSpec)

/-- 'netwrightlaw22.GatesKnown', WHERE WHAT IT READS IS OF BULK AT MOST 1048576: true; the input reads as it did. -/
def gatesKnownUptoRow : OpenClaim := { program := "ytbpamlphacpkeaa", sum := "857b7ac69a30ab357fcb2cebd33834be593371734991c4c467b6328677006ebb", func := "netwright/netwrightlaw22.GatesKnown", spec := "gatesKnown", unfollowed := true, recurses := true, plainKeys := false, apart := false, narrowed := true }
def GatesKnownUptoSaid : Prop := gatesKnownUptoRow.holds Try.pinned (OpenSpec.upto gatesKnownSpec)

/-- 'netwrightlaw22.GatesValid', WHERE WHAT IT READS IS OF BULK AT MOST 1048576: true; the input reads as it did. -/
def gatesValidUptoRow : OpenClaim := { program := "ytbpamlphacpkeaa", sum := "857b7ac69a30ab357fcb2cebd33834be593371734991c4c467b6328677006ebb", func := "netwright/netwrightlaw22.GatesValid", spec := "gatesValid", unfollowed := true, recurses := true, plainKeys := false, apart := false, narrowed := true }
def GatesValidUptoSaid : Prop := gatesValidUptoRow.holds Try.pinned (OpenSpec.upto gatesValidSpec)

/-- 'netwrightlaw22.GatesMakes', WHERE WHAT IT READS IS OF BULK AT MOST 1048576: true; the input reads as it did. -/
def gatesMakesUptoRow : OpenClaim := { program := "ytbpamlphacpkeaa", sum := "857b7ac69a30ab357fcb2cebd33834be593371734991c4c467b6328677006ebb", func := "netwright/netwrightlaw22.GatesMakes", spec := "gatesMakes", unfollowed := true, recurses := true, plainKeys := false, apart := false, narrowed := true }
def GatesMakesUptoSaid : Prop := gatesMakesUptoRow.holds Try.pinned (OpenSpec.upto gatesMakesSpec)

/-- 'netwrightlaw22.GatesMean', WHERE WHAT IT READS IS OF BULK AT MOST 1048576: true; the input reads as it did. -/
def gatesMeanUptoRow : OpenClaim := { program := "ytbpamlphacpkeaa", sum := "857b7ac69a30ab357fcb2cebd33834be593371734991c4c467b6328677006ebb", func := "netwright/netwrightlaw22.GatesMean", spec := "gatesMean", unfollowed := true, recurses := true, plainKeys := false, apart := false, narrowed := true }
def GatesMeanUptoSaid : Prop := gatesMeanUptoRow.holds Try.pinned (OpenSpec.upto gatesMeanSpec)

/-- 'netwrightlaw22.GatesNil', WHERE WHAT IT READS IS OF BULK AT MOST 1048576: true; the input reads as it did. -/
def gatesNilUptoRow : OpenClaim := { program := "ytbpamlphacpkeaa", sum := "857b7ac69a30ab357fcb2cebd33834be593371734991c4c467b6328677006ebb", func := "netwright/netwrightlaw22.GatesNil", spec := "gatesNil", unfollowed := true, recurses := true, plainKeys := false, apart := false, narrowed := true }
def GatesNilUptoSaid : Prop := gatesNilUptoRow.holds Try.pinned (OpenSpec.upto gatesNilSpec)

/-- 'netwrightlaw22.GatesCones', WHERE WHAT IT READS IS OF BULK AT MOST 1048576: true; the input reads as it did. -/
def gatesConesUptoRow : OpenClaim := { program := "ytbpamlphacpkeaa", sum := "857b7ac69a30ab357fcb2cebd33834be593371734991c4c467b6328677006ebb", func := "netwright/netwrightlaw22.GatesCones", spec := "gatesCones", unfollowed := true, recurses := true, plainKeys := false, apart := false, narrowed := true }
def GatesConesUptoSaid : Prop := gatesConesUptoRow.holds Try.pinned (OpenSpec.upto gatesConesSpec)

/-- 'netwrightlaw22.GatesLevels', WHERE WHAT IT READS IS OF BULK AT MOST 1048576: true; the input reads as it did. -/
def gatesLevelsUptoRow : OpenClaim := { program := "ytbpamlphacpkeaa", sum := "857b7ac69a30ab357fcb2cebd33834be593371734991c4c467b6328677006ebb", func := "netwright/netwrightlaw22.GatesLevels", spec := "gatesLevels", unfollowed := true, recurses := true, plainKeys := false, apart := false, narrowed := true }
def GatesLevelsUptoSaid : Prop := gatesLevelsUptoRow.holds Try.pinned (OpenSpec.upto gatesLevelsSpec)

/-- 'netwrightlaw22.GatesShares', WHERE WHAT IT READS IS OF BULK AT MOST 1048576: true; the input reads as it did. -/
def gatesSharesUptoRow : OpenClaim := { program := "ytbpamlphacpkeaa", sum := "857b7ac69a30ab357fcb2cebd33834be593371734991c4c467b6328677006ebb", func := "netwright/netwrightlaw22.GatesShares", spec := "gatesShares", unfollowed := true, recurses := true, plainKeys := false, apart := false, narrowed := true }
def GatesSharesUptoSaid : Prop := gatesSharesUptoRow.holds Try.pinned (OpenSpec.upto gatesSharesSpec)

/-- 'netwrightlaw22.GatesKeep', WHERE WHAT IT READS IS OF BULK AT MOST 1048576: true; the input reads as it did. -/
def gatesKeepUptoRow : OpenClaim := { program := "ytbpamlphacpkeaa", sum := "857b7ac69a30ab357fcb2cebd33834be593371734991c4c467b6328677006ebb", func := "netwright/netwrightlaw22.GatesKeep", spec := "gatesKeep", unfollowed := true, recurses := true, plainKeys := false, apart := false, narrowed := true }
def GatesKeepUptoSaid : Prop := gatesKeepUptoRow.holds Try.pinned (OpenSpec.upto gatesKeepSpec)

/-- 'netwrightlaw22.GatesOwn', WHERE WHAT IT READS IS OF BULK AT MOST 1048576: true; the input reads as it did. -/
def gatesOwnUptoRow : OpenClaim := { program := "ytbpamlphacpkeaa", sum := "857b7ac69a30ab357fcb2cebd33834be593371734991c4c467b6328677006ebb", func := "netwright/netwrightlaw22.GatesOwn", spec := "gatesOwn", unfollowed := true, recurses := true, plainKeys := false, apart := false, narrowed := true }
def GatesOwnUptoSaid : Prop := gatesOwnUptoRow.holds Try.pinned (OpenSpec.upto gatesOwnSpec)

end Rows
end Go.Proofs.Ytbpamlphacpkeaa
