/- The door of chapter 5: what the listed package variables hold is what the engine asks. -/
import Derived.Test.YtcgdlhkiecommaaGreatDoorTie
import Derived.Test.YtcgdlhkiecommaaGreatDoorCards
import Derived.Test.YtcgdlhkiecommaaGreatDoorXDec
import Derived.WalkKit
import Derived.ProofKit
import Derived.OpenShut
import Derived.Deep.DeepHandedRow
import Derived.Deep.DeepWitnessRowRef
import Derived.Lib.LaidTab
import Derived.LaidSub
import Derived.LaidMore
import Derived.Stop.LaidErr
import Derived.Shelf.Vars
import Derived.Below
import Derived.SizedLaws
set_option linter.unusedVariables false
set_option maxRecDepth 100000
namespace Go.Proofs.YtcgdlhkiecommaaGreatDoor
open Go Go.RowKit
abbrev laidL : List (String × DataW Unit) := Rows.exprSamesRow.laid
theorem own : ownKnob Tryz.prog.godebug = none := by kernel_rfl
theorem laidOut : laidOutB Tryz.prog = true := by kernel_rfl
theorem gSpace : Tryz.prog.globalNamed "strings.asciiSpace" = some 0 := by kernel_rfl
theorem gPow : Tryz.prog.globalNamed "internal/strconv.uint64pow10" = some 3 := by kernel_rfl
theorem tSpace : (Tryz.prog.globals[0]?).map (·.type) = some 186 := by kernel_rfl
theorem tPow : (Tryz.prog.globals[3]?).map (·.type) = some 226 := by kernel_rfl
theorem cells256 : Tryz.prog.cellsOf 186 = 256 := by kernel_rfl
theorem cells20 : Tryz.prog.cellsOf 226 = 20 := by kernel_rfl
theorem cells64 : Tryz.prog.cellsOf 205 = 1 := by kernel_rfl
theorem dSpace : (Rows.laid_strings_asciiSpace : DataW Unit) = Lib.tabData .u8 Lib.asciiSpaceTab := by kernel_rfl
theorem dPow : (Rows.laid_internal_strconv_uint64pow10 : DataW Unit) = Lib.tabData .u64 Lib.pow10Tab := by kernel_rfl
theorem obj_of_var {W : World} {n : String} {g : Nat} {cs : Array Value} (hg : Tryz.prog.globalNamed n = some g) (h : W.var? Tryz.prog n = some cs) : ∃ t r, W.heap[g]? = some (.cells cs t r) := by
  simp only [World.var?, hg, Option.bind_some] at h
  split at h
  · rename_i c t r e; cases h; exact ⟨t, r, e⟩
  · cases h
theorem glob_door {W : World} (hL : laidMetH Tryz.prog laidL W) (hsh : W.ShapedOpen Tryz.prog) : GlobOK (fun b => b < W.heap.size) W := by
  have h0 : laidMet Tryz.prog laidL W := hL
  have h1 := h0.tail.tail
  have h4 := h1.tail.tail
  have s1 : Lib.TabIs Tryz.prog W "internal/strconv.uint64pow10" .u64 Lib.pow10Tab := Lib.tabIs_of_head gPow tPow Tryz.underlying226 Tryz.underlying205 cells64 cells20 (by rw [← dPow]; exact h1)
  have s2 : Lib.TabIs Tryz.prog W "strings.asciiSpace" .u8 Lib.asciiSpaceTab := Lib.tabIs_of_head gSpace tSpace Tryz.underlying186 Tryz.underlying5 cellsU cells256 (by rw [← dSpace]; exact h4)
  obtain ⟨m, hm⟩ := cell_of_shapedOpen_int (P := Tryz.prog) (g := 2) (t := 3) (zero := #[.int .i64 0]) hsh (of_decide_eq_true (by kernel_rfl)) (by kernel_rfl) rfl (by kernel_rfl) (by kernel_rfl) Tryz.underlying3
  have lt : ∀ {g : Nat} {o : Obj}, W.heap[g]? = some o → g < W.heap.size := fun h => (Array.getElem?_eq_some_iff.1 h).1
  intro g hg
  simp only [globs, List.mem_cons, List.not_mem_nil, or_false] at hg
  rcases hg with rfl | rfl | rfl
  · obtain ⟨t, r, h⟩ := obj_of_var gSpace s2
    exact ⟨lt h, _, h, t, r, rfl⟩
  · have hh := hm
    simp only [World.cell?] at hh
    split at hh
    · rename_i cs t r e
      refine ⟨lt e, _, e, cs, t, r, m, rfl, ?_⟩
      simpa using hh
    · simp at hh
  · obtain ⟨t, r, h⟩ := obj_of_var gPow s1
    exact ⟨lt h, _, h, t, r, rfl⟩
end Go.Proofs.YtcgdlhkiecommaaGreatDoor
