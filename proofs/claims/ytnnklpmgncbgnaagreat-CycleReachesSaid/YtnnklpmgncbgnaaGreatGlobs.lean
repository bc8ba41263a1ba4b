/- No package variable is told. -/
import Derived.WalkKit
namespace Go.Proofs.YtnnklpmgncbgnaaGreat
open Go
def globs : List (Nat × (Obj → Prop)) := []
end Go.Proofs.YtnnklpmgncbgnaaGreat
