/- Sameness, as the reference asks it. -/
import Derived.Test.YtcgdlhkiecommaaGreatDoorXSame
set_option linter.all false
namespace Go.Proofs.YtcgdlhkiecommaaGreatDoor
open Go
theorem sameV_no {a b : Va} (h : ((((a.kind != b.kind) || (a.n != b.n)) || !(a.bits == b.bits)) || ((a.list.length : Int) != (b.list.length : Int))) = true) : sameV a b = false := by
  rw [sameV_eq, sameVs_all]
  simp only [Bool.or_eq_true, Bool.not_eq_true'] at h
  rcases h with ((h | h) | h) | h
  · have : (a.kind == b.kind) = false := by simpa using h
    rw [this]; rfl
  · have : (a.n == b.n) = false := by simpa using h
    rw [this]; simp
  · rw [h]; simp
  · rw [alls_len h]; simp
theorem sameV_yes {a b : Va} (h : ((((a.kind != b.kind) || (a.n != b.n)) || !(a.bits == b.bits)) || ((a.list.length : Int) != (b.list.length : Int))) = false) : ((a.list.length : Int) != (b.list.length : Int)) = false ∧ sameV a b = allSame sameV a.list b.list := by
  rw [sameV_eq, sameVs_all]
  simp only [Bool.or_eq_false_iff, Bool.not_eq_false', bne_eq_false_iff_eq] at h
  obtain ⟨⟨⟨h1, h2⟩, h3⟩, h4⟩ := h
  refine ⟨bne_eq_false_iff_eq.2 h4, ?_⟩
  rw [h1, h2, h3]; simp
theorem sameT_no {a b : Ty} (h : (((((a.kind != b.kind) || (a.len != b.len)) || (a.name != b.name)) || ((a.names.length : Int) != (b.names.length : Int))) || ((a.elem.length : Int) != (b.elem.length : Int))) = true) : sameT a b = false := by
  rw [sameT_eq, sameTs_all]
  simp only [Bool.or_eq_true] at h
  rcases h with (((h | h) | h) | h) | h
  · have : (a.kind == b.kind) = false := by simpa using h
    rw [this]; rfl
  · have : (a.len == b.len) = false := by simpa using h
    rw [this]; simp
  · have : (a.name == b.name) = false := by simpa using h
    rw [this]; simp
  · rw [leq_len h]; simp
  · rw [alls_len h]; simp
theorem sameT_yes {a b : Ty} (h : (((((a.kind != b.kind) || (a.len != b.len)) || (a.name != b.name)) || ((a.names.length : Int) != (b.names.length : Int))) || ((a.elem.length : Int) != (b.elem.length : Int))) = false) : ((a.names.length : Int) != (b.names.length : Int)) = false ∧ ((a.elem.length : Int) != (b.elem.length : Int)) = false ∧ sameT a b = ((a.names == b.names) && allSame sameT a.elem b.elem) := by
  rw [sameT_eq, sameTs_all]
  simp only [Bool.or_eq_false_iff, bne_eq_false_iff_eq] at h
  obtain ⟨⟨⟨⟨h1, h2⟩, h3⟩, h4⟩, h5⟩ := h
  refine ⟨bne_eq_false_iff_eq.2 h4, bne_eq_false_iff_eq.2 h5, ?_⟩
  rw [h1, h2, h3]; simp
theorem sameE_and (a b : Ex) : (((((((a.op == b.op) && (a.name == b.name)) && (a.n == b.n)) && (a.bits == b.bits)) && sameV a.val b.val) && sameT a.type b.type) && allSame sameE a.kids b.kids) = sameE a b := by
  rw [sameE_eq, sameEs_all]; simp only [Bool.and_assoc]
end Go.Proofs.YtcgdlhkiecommaaGreatDoor
