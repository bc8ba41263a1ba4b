/- Sameness, as the program asks it. -/
import Derived.Test.YtcgdlhkiecommaaGreatDoorXSize
set_option linter.all false
namespace Go.Proofs.YtcgdlhkiecommaaGreatDoor
open Go
mutual
def szV : Va → Bool
  | .mk _ _ b l => (decide (b.length ≤ 140737488355328) && decide (l.length ≤ 140737488355328)) && szVs l
def szVs : List Va → Bool
  | [] => true
  | e :: r => szV e && szVs r
end
mutual
def szT : Ty → Bool
  | .mk _ _ s n l => (decide (s.length ≤ 140737488355328) && (decide (n.length ≤ 140737488355328) && decide (l.length ≤ 140737488355328))) && szTs l
def szTs : List Ty → Bool
  | [] => true
  | e :: r => szT e && szTs r
end
mutual
def szX : Ex → Bool
  | .mk o s n b v k t l c => ((decide (s.length ≤ 140737488355328) && decide (b.length ≤ 140737488355328)) && (decide (k.length ≤ 140737488355328) && (szV v && szT t))) && szXs k
def szXs : List Ex → Bool
  | [] => true
  | e :: r => szX e && szXs r
end
theorem szV_facts {e : Va} (h : szV e = true) : e.bits.length ≤ 140737488355328 ∧ e.list.length ≤ 140737488355328 ∧ ∀ k ∈ e.list, szV k = true := by
  have hl : ∀ l : List Va, szVs l = true → ∀ k ∈ l, szV k = true := by
    intro l
    induction l with
    | nil => intro _ k hk; cases hk
    | cons a l ih =>
      intro h k hk
      rw [szVs, Bool.and_eq_true] at h
      cases hk with
      | head => exact h.1
      | tail _ hk => exact ih h.2 k hk
  cases e with
  | mk k n b l =>
    rw [szV] at h
    simp only [Bool.and_eq_true, decide_eq_true_eq] at h
    exact ⟨h.1.1, h.1.2, hl l h.2⟩
theorem szT_facts {e : Ty} (h : szT e = true) : e.name.length ≤ 140737488355328 ∧ e.names.length ≤ 140737488355328 ∧ e.elem.length ≤ 140737488355328 ∧ ∀ k ∈ e.elem, szT k = true := by
  have hl : ∀ l : List Ty, szTs l = true → ∀ k ∈ l, szT k = true := by
    intro l
    induction l with
    | nil => intro _ k hk; cases hk
    | cons a l ih =>
      intro h k hk
      rw [szTs, Bool.and_eq_true] at h
      cases hk with
      | head => exact h.1
      | tail _ hk => exact ih h.2 k hk
  cases e with
  | mk k n s ns l =>
    rw [szT] at h
    simp only [Bool.and_eq_true, decide_eq_true_eq] at h
    exact ⟨h.1.1, h.1.2.1, h.1.2.2, hl l h.2⟩
theorem szX_facts {e : Ex} (h : szX e = true) : e.name.length ≤ 140737488355328 ∧ e.bits.length ≤ 140737488355328 ∧ e.kids.length ≤ 140737488355328 ∧ szV e.val = true ∧ szT e.type = true ∧ ∀ k ∈ e.kids, szX k = true := by
  have hl : ∀ l : List Ex, szXs l = true → ∀ k ∈ l, szX k = true := by
    intro l
    induction l with
    | nil => intro _ k hk; cases hk
    | cons a l ih =>
      intro h k hk
      rw [szXs, Bool.and_eq_true] at h
      cases hk with
      | head => exact h.1
      | tail _ hk => exact ih h.2 k hk
  cases e with
  | mk o s n b v k t l c =>
    rw [szX] at h
    simp only [Bool.and_eq_true, decide_eq_true_eq] at h
    exact ⟨h.1.1.1, h.1.1.2, h.1.2.1, h.1.2.2.1, h.1.2.2.2, hl k h.2⟩
section
variable {α : Type} [Inhabited α] [BEq α] [LawfulBEq α] {a b : List α}
theorem leq_len (h : ((a.length : Int) != (b.length : Int)) = true) : (a == b) = false := by
  cases h2 : (a == b) with
  | false => rfl
  | true => rw [beq_iff_eq] at h2; subst h2; simp at h
theorem leq_no (i : Nat) (hi : i < a.length) (hb : i < b.length) (h : (a.getD i default != b.getD i default) = true) : (a == b) = false := by
  cases h2 : (a == b) with
  | false => rfl
  | true => rw [beq_iff_eq] at h2; subst h2; simp at h
theorem leq_yes (hl : ((a.length : Int) != (b.length : Int)) = false) (h : ∀ k, k < a.length → (a.getD k default != b.getD k default) = false) : (a == b) = true := by
  rw [bne_eq_false_iff_eq] at hl
  rw [beq_iff_eq]
  refine List.ext_getElem (by omega) fun k h1 h2 => ?_
  have := h k h1
  rw [List.getD_eq_getElem?_getD, List.getD_eq_getElem?_getD, List.getElem?_eq_getElem h1, List.getElem?_eq_getElem h2, bne_eq_false_iff_eq] at this
  simpa using this
end
section
variable {α : Type} [Inhabited α] {f : α → α → Bool} {a b : List α}
theorem alls_len (h : ((a.length : Int) != (b.length : Int)) = true) : allSame f a b = false := allSame_ne (by intro e; rw [e] at h; simp at h)
theorem alls_no (i : Nat) (hi : i < a.length) (hb : i < b.length) (h : (!(f (a.getD i default) (b.getD i default))) = true) : allSame f a b = false := allSame_no i hi hb (by simpa using h)
theorem alls_yes (hl : ((a.length : Int) != (b.length : Int)) = false) (h : ∀ k, k < a.length → (!(f (a.getD k default) (b.getD k default))) = false) : allSame f a b = true :=
  (allSame_iff (by have := bne_eq_false_iff_eq.1 hl; omega)).2 fun i hi => by simpa using h i hi
end
theorem sameE_no {a b : Ex} (h : (((((((a.op != b.op) || (a.name != b.name)) || (a.n != b.n)) || ((a.kids.length : Int) != (b.kids.length : Int))) || !(a.bits == b.bits)) || !(sameV a.val b.val)) || !(sameT a.type b.type)) = true) : sameE a b = false := by
  rw [sameE_eq, sameEs_all]
  simp only [Bool.or_eq_true, Bool.not_eq_true'] at h
  rcases h with (((((h | h) | h) | h) | h) | h) | h
  · have : (a.op == b.op) = false := by simpa using h
    rw [this]; rfl
  · have : (a.name == b.name) = false := by simpa using h
    rw [this]; cases (a.op == b.op) <;> rfl
  · have : (a.n == b.n) = false := by simpa using h
    rw [this]; cases (a.op == b.op) <;> cases (a.name == b.name) <;> rfl
  · rw [alls_len h]; simp
  · rw [h]; simp
  · rw [h]; simp
  · rw [h]; simp
theorem sameE_yes {a b : Ex} (h : (((((((a.op != b.op) || (a.name != b.name)) || (a.n != b.n)) || ((a.kids.length : Int) != (b.kids.length : Int))) || !(a.bits == b.bits)) || !(sameV a.val b.val)) || !(sameT a.type b.type)) = false) : sameE a b = allSame sameE a.kids b.kids := by
  rw [sameE_eq, sameEs_all]
  simp only [Bool.or_eq_false_iff, Bool.not_eq_false', bne_eq_false_iff_eq] at h
  obtain ⟨⟨⟨⟨⟨⟨h1, h2⟩, h3⟩, h4⟩, h5⟩, h6⟩, h7⟩ := h
  rw [h1, h2, h3, h5, h6, h7]
  simp
end Go.Proofs.YtcgdlhkiecommaaGreatDoor
