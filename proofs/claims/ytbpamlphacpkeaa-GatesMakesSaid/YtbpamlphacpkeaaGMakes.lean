/- The law 'GatesMakes', of any names and asks. -/
import Derived.Test.YtbpamlphacpkeaaW97
import Derived.Test.YtbpamlphacpkeaaGDec2
set_option linter.unusedVariables false
namespace Go.Proofs.Ytbpamlphacpkeaa
open Go
theorem law_GatesMakes (t : List ByteArray × List ByteArray × List Int) (l : List OpV) (ht : NamesOK t) (hl : l.length ≤ 140737488355328) (hO : ∀ o ∈ l, o.Small) : ACp Try.prog 6 [.agg [.list 1 (t.1.map encS), .list 1 (t.2.1.map encS), .list 1 (t.2.2.map encB)], .list 7 (l.map encO)] (.v (.bool true)) := by
  cases hok : makeOK t.1 t.2.1 t.2.2 with
  | true => exact law_GatesMakes_good t.1 t.2.1 t.2.2 l ht.z1 ht.z2 ht.z3 ht.y1 ht.y2 ht.y3 hl hO hok
  | false => exact law_GatesMakes_bad t.1 t.2.1 t.2.2 l ht.z1 ht.z2 ht.z3 ht.y1 ht.y2 ht.y3 hl hO hok
end Go.Proofs.Ytbpamlphacpkeaa
