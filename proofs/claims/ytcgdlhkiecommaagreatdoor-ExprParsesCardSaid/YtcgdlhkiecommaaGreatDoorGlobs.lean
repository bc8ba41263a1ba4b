/- The library's package variables that chapter 5 reads: a table of blanks, MaxLen, powers of ten. -/
import Derived.WalkKit
import Derived.Lib.Space
import Derived.Lib.ItoaNum
namespace Go.Proofs.YtcgdlhkiecommaaGreatDoor
open Go
def tabObj (k : IntKind) (zs : List Int) (o : Obj) : Prop := ∃ t r, o = .cells (zs.map fun z => Value.int k z).toArray t r
def intObj (o : Obj) : Prop := ∃ cs t r m, o = .cells cs t r ∧ cs[0]? = some (.int .i64 m)
def globs : List (Nat × (Obj → Prop)) := [(0, tabObj .u8 Lib.asciiSpaceTab), (2, intObj), (3, tabObj .u64 Lib.pow10Tab)]
end Go.Proofs.YtcgdlhkiecommaaGreatDoor
