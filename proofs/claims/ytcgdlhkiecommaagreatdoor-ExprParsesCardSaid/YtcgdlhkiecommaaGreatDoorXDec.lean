/- What comes in at the door: values, types, expressions, types as written. -/
import Derived.Test.YtcgdlhkiecommaaGreatDoorLDec
import Derived.Test.YtcgdlhkiecommaaGreatDoorXTop
set_option linter.unusedVariables false
set_option linter.all false
namespace Go.Proofs.YtcgdlhkiecommaaGreatDoor
open Go Go.RowKit
def inTypesX : List TypeId := [9, 3, 5, 97, 26, 63, 65, 22, 27, 25, 32, 30, 28, 35, 33, 37, 31, 46, 44]
theorem closed_inX : closedT Tryz.prog inTypesX = true := by kernel_rfl
def w64 (x : Int) : Bool := decide (-9223372036854775808 ≤ x) && decide (x ≤ 9223372036854775807)
theorem dec_intT {k t : Nat} {cs : List AVal} (ht : Tryz.prog.underlying t = some (.int .i64)) (h : TyV Tryz.prog k t cs) : ∃ x : Int, cs = [.v (.int .i64 x)] ∧ w64 x = true := by
  cases k with
  | zero => exact h.elim
  | succ k =>
    simp only [TyV, ht] at h
    obtain ⟨x, h1, rfl⟩ := h
    refine ⟨x, rfl, ?_⟩
    simp [Lit.wf, IntKind.min, IntKind.max, IntKind.signed, IntKind.bits] at h1
    simp only [w64, Bool.and_eq_true, decide_eq_true_eq]
    omega
theorem dec_num {k : Nat} {cs : List AVal} (h : TyV Tryz.prog k 3 cs) : ∃ x : Int, argOf Tryz.prog 3 cs = .v (.int .i64 x) ∧ w64 x = true := by
  obtain ⟨x, rfl, p⟩ := dec_intT Tryz.underlying3 h
  exact ⟨x, by simp only [argOf, Tryz.underlying3]; rfl, p⟩
end Go.Proofs.YtcgdlhkiecommaaGreatDoor
