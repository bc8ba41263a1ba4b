/- What the laws ask of tokens, strings and faults. -/
import Derived.Test.YtcgdlhkiecommaaGreatDoorLRun
import Derived.Test.YtcgdlhkiecommaaGreatDoorLDec
set_option linter.all false
namespace Go.Proofs.YtcgdlhkiecommaaGreatDoor
open Go
/-! ### Strings -/
/-! ### Faults -/
theorem pl_line {s : Bs} {i : Nat} (h : i < s.length) (hc : (((s.getD i default).toNat : Int) == 10) = true) : place s (i + 1) = ((place s i).1 + 1, 1) := by
  have : (s.getD i default == 10) = true := by rw [← u8_int]; exact hc
  rw [place_succ s i h, if_pos this]
theorem pl_col {s : Bs} {i : Nat} (h : i < s.length) (hc : (((s.getD i default).toNat : Int) == 10) = false) : place s (i + 1) = ((place s i).1, (place s i).2 + 1) := by
  have : (s.getD i default == 10) = false := by rw [← u8_int]; exact hc
  rw [place_succ s i h, if_neg (by rw [this]; decide)]
/-! ### Blanks -/
end Go.Proofs.YtcgdlhkiecommaaGreatDoor
