import Derived.Test.YtcgdlhkiecommaaGreatDoorXRef3
import Derived.Test.YtcgdlhkiecommaaGreatDoorXDec
import Derived.Test.YtcgdlhkiecommaaGreatDoorXTop

import Derived.Test.YtcgdlhkiecommaaGreatDoorShelf
import Derived.Shelf.Strings.BuilderK
import Derived.Lib.FrozenHead2
import Derived.Lib.OthersKept
import Derived.WalkKit
/- What few parts are: how many nodes, how long names, how many tokens; all tokens can be written. -/




set_option linter.all false
namespace Go.Proofs.YtcgdlhkiecommaaGreatDoor
open Go
mutual
def nodes : Ex → Nat
  | .mk _ _ _ _ _ k _ _ _ => nodesL k + 1
def nodesL : List Ex → Nat
  | [] => 0
  | e :: r => nodes e + nodesL r
end
mutual
def smE : Ex → Bool
  | .mk _ s _ b _ k _ _ _ => (decide (s.length ≤ 200000) && decide (b.length ≤ 3000)) && smEs k
def smEs : List Ex → Bool
  | [] => true
  | e :: r => smE e && smEs r
end
theorem smE_of {e : Ex} (h1 : e.name.length ≤ 200000) (h2 : e.bits.length ≤ 3000) (h3 : ∀ k ∈ e.kids, smE k = true) : smE e = true := by
  have hl : ∀ l : List Ex, (∀ k ∈ l, smE k = true) → smEs l = true := by
    intro l
    induction l with
    | nil => intro _; rfl
    | cons a l ih => intro h; rw [smEs, h a (by simp), ih fun k hk => h k (by simp [hk])]; rfl
  cases e with
  | mk o s n b v k t l c =>
    rw [smE, hl k h3]
    have h1 : s.length ≤ 200000 := h1
    have h2 : b.length ≤ 3000 := h2
    rw [decide_eq_true h1, decide_eq_true h2]; rfl
theorem heights_le {l : List Ex} {b : Nat} (h : ∀ k ∈ l, height k + 1 ≤ b) : heights l ≤ b := by
  induction l with
  | nil => exact Nat.zero_le _
  | cons a l ih => have := h a (by simp); have := ih (fun k hk => h k (by simp [hk])); rw [heights]; omega
end Go.Proofs.YtcgdlhkiecommaaGreatDoor
/- Names, as the reference gathers them. -/

namespace Go.Proofs.YtcgdlhkiecommaaGreatDoor
open Go
end Go.Proofs.YtcgdlhkiecommaaGreatDoor
/- What was written is read as it was: words for it, and small facts. -/

namespace Go.Proofs.YtcgdlhkiecommaaGreatDoor
open Go
section
variable {l : List Tk}
end
theorem op_mem {s : Bs} (h : 0 ≤ strengthI s) : s ∈ levelsL.flatten := by
  have lv : ∀ k, k < 4 → (levelL k).contains s = true → s ∈ levelsL.flatten := by
    intro k hk hc
    rw [List.contains_iff_mem] at hc
    refine List.mem_flatten.2 ⟨levelL k, ?_, hc⟩
    have : k = 0 ∨ k = 1 ∨ k = 2 ∨ k = 3 := by omega
    rcases this with rfl | rfl | rfl | rfl <;> simp [levelL, levelsL]
  rw [strengthI] at h
  split at h
  · exact lv 0 (by omega) (by assumption)
  · split at h
    · exact lv 1 (by omega) (by assumption)
    · split at h
      · exact lv 2 (by omega) (by assumption)
      · split at h
        · exact lv 3 (by omega) (by assumption)
        · omega
theorem lev_op {s : Bs} {k : Nat} (h : strengthI s = (k : Int)) : k < 4 ∧ [sOpen].contains s = false ∧ (∀ q, q < 4 → (levelL q).contains s = (q == k)) := by
  have key : (levelsL.flatten.all fun x => !([sOpen].contains x) && (List.range 4).all fun q => (levelL q).contains x == (strengthI x == (q : Int))) = true := by decide +kernel
  have h1 := List.all_eq_true.1 key s (op_mem (by omega))
  rw [Bool.and_eq_true, Bool.not_eq_true', List.all_eq_true] at h1
  refine ⟨by have := str_range s; omega, h1.1, fun q hq => ?_⟩
  have := h1.2 q (List.mem_range.2 hq)
  rw [beq_iff_eq, h] at this
  rw [this, Bool.eq_iff_iff, beq_iff_eq, beq_iff_eq]; omega
end Go.Proofs.YtcgdlhkiecommaaGreatDoor
/- What was written is read as it was: by the kind of the expression. -/

namespace Go.Proofs.YtcgdlhkiecommaaGreatDoor
open Go
section
variable {l : List Tk}
end
end Go.Proofs.YtcgdlhkiecommaaGreatDoor
/- What was written is read as it was: all expressions. -/

namespace Go.Proofs.YtcgdlhkiecommaaGreatDoor
open Go
section
variable {l : List Tk}
theorem binds_not5 {e : Ex} (h : e.op ≠ 5) : bindsP e = 5 := by
  rw [bindsP, show (e.op != 5) = true by simpa using h]; rfl
end
end Go.Proofs.YtcgdlhkiecommaaGreatDoor
/- strings.Builder at this dump: copyCheck and WriteByte. -/





set_option linter.unusedVariables false
namespace Go.Proofs.YtcgdlhkiecommaaGreatDoor
open Go Go.RowKit Go.Shelf
end Go.Proofs.YtcgdlhkiecommaaGreatDoor
