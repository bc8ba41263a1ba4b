/- The reference's words of chapter 3 in plain Lean; the law's own bounds. -/
import Derived.Test.YtcgdlhkiecommaaGreatDoorLLex
set_option linter.unusedVariables false
set_option linter.unusedSimpArgs false
namespace Go.Proofs.YtcgdlhkiecommaaGreatDoor
open Go
theorem member_yes {l : List Bs} {x : Bs} (i : Nat) (hi : i < l.length) (h : (l.getD i default == x) = true) : l.contains x = true := by
  rw [List.contains_iff_mem]
  rw [beq_iff_eq] at h
  rw [← h]; exact getD_mem hi
theorem member_no {l : List Bs} {x : Bs} (h : ∀ k, k < l.length → (l.getD k default == x) = false) : l.contains x = false := by
  rw [Bool.eq_false_iff]
  intro hc
  obtain ⟨i, hi, e⟩ := List.getElem_of_mem (List.contains_iff_mem.1 hc)
  have := h i hi
  rw [List.getD_eq_getElem?_getD, List.getElem?_eq_getElem hi] at this
  simp only [Option.getD_some, beq_eq_false_iff_ne, ne_eq] at this
  exact this e
def tkey (t : Tk) : Int × Bs × Int := (t.op, t.text, t.n)
def alikeL (a b : List Tk) : Bool := a.map tkey == b.map tkey
theorem alike_len {a b : List Tk} (h : ((a.length : Int) != (b.length : Int)) = true) : alikeL a b = false := by
  rw [bne_iff_ne] at h
  rw [alikeL, beq_eq_false_iff_ne]
  intro e
  have := congrArg List.length e
  rw [List.length_map, List.length_map] at this
  omega
theorem tkey_ne {s t : Tk} : (((s.op != t.op) || !(s.text == t.text)) || (s.n != t.n)) = !(tkey s == tkey t) := by
  rw [Bool.eq_iff_iff]
  simp only [Bool.or_eq_true, bne_iff_ne, Bool.not_eq_true', beq_eq_false_iff_ne, ne_eq, tkey, Prod.mk.injEq]
  by_cases h1 : s.op = t.op <;> by_cases h2 : s.text = t.text <;> by_cases h3 : s.n = t.n <;> simp [h1, h2, h3]
theorem alike_no {a b : List Tk} (i : Nat) (hi : i < a.length) (hj : i < b.length) (h : (((a.getD i default).op != (b.getD i default).op || !((a.getD i default).text == (b.getD i default).text)) || ((a.getD i default).n != (b.getD i default).n)) = true) : alikeL a b = false := by
  rw [tkey_ne, Bool.not_eq_true', beq_eq_false_iff_ne] at h
  rw [alikeL, beq_eq_false_iff_ne]
  intro e
  apply h
  have := congrArg (fun l => l[i]?) e
  simp only [List.getElem?_map, List.getElem?_eq_getElem hi, List.getElem?_eq_getElem hj, Option.map_some, Option.some.injEq] at this
  rw [List.getD_eq_getElem?_getD, List.getD_eq_getElem?_getD, List.getElem?_eq_getElem hi, List.getElem?_eq_getElem hj]
  exact this
theorem alike_yes {a b : List Tk} (hl : ((a.length : Int) != (b.length : Int)) = false) (h : ∀ k, k < a.length → tkey (a.getD k default) = tkey (b.getD k default)) : alikeL a b = true := by
  rw [bne_eq_false_iff_eq] at hl
  rw [alikeL, beq_iff_eq]
  refine List.ext_getElem (by simp; omega) fun i h1 h2 => ?_
  rw [List.length_map] at h1 h2
  have := h i h1
  rw [List.getD_eq_getElem?_getD, List.getD_eq_getElem?_getD, List.getElem?_eq_getElem h1, List.getElem?_eq_getElem h2] at this
  simpa using this
theorem alike_more {a b : List Tk} {i : Nat} (h : ∀ k, k < i → tkey (a.getD k default) = tkey (b.getD k default)) (h1 : (((a.getD i default).op != (b.getD i default).op || !((a.getD i default).text == (b.getD i default).text)) || ((a.getD i default).n != (b.getD i default).n)) = false) : ∀ k, k < i + 1 → tkey (a.getD k default) = tkey (b.getD k default) := by
  intro k hk
  rcases Nat.lt_or_eq_of_le (Nat.le_of_lt_succ hk) with e | e
  · exact h k e
  · subst e
    rw [tkey_ne] at h1
    simpa using h1
/-! ### The law's bound -/
/-! ### The law's own examples -/
end Go.Proofs.YtcgdlhkiecommaaGreatDoor
