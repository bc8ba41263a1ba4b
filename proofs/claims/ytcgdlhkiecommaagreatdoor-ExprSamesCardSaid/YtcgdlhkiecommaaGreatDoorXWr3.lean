/- Where no bits are written, or their text is known. -/
import Derived.Test.YtcgdlhkiecommaaGreatDoorXWr2
set_option linter.all false
namespace Go.Proofs.YtcgdlhkiecommaaGreatDoor
open Go
/-- The text of bits. -/
def BTx (P : Program) (b : List Int) : Prop := ACp P 143 [.list 1 (b.map encB)] (.tuple [.v (.string (str (bitsT b))), .v (.int .i64 0)])
def BT (P : Program) : Prop := ∀ b : List Int, isBits b = true → (∀ x ∈ b, 0 ≤ x) → BTx P b
mutual
def nobE : Ex → Bool
  | .mk o s n b v k t l c => (o != 2 && o != 3) && nobEs k
def nobEs : List Ex → Bool
  | [] => true
  | e :: r => nobE e && nobEs r
end
def BTok (P : Program) (e : Ex) : Prop := nobE e = true ∨ BT P
theorem nobE_facts {e : Ex} (h : nobE e = true) : (e.op == 2) = false ∧ (e.op == 3) = false ∧ ∀ k ∈ e.kids, nobE k = true := by
  have hl : ∀ l : List Ex, nobEs l = true → ∀ k ∈ l, nobE k = true := by
    intro l
    induction l with
    | nil => intro _ k hk; cases hk
    | cons a l ih =>
      intro h k hk
      rw [nobEs, Bool.and_eq_true] at h
      cases hk with
      | head => exact h.1
      | tail _ hk => exact ih h.2 k hk
  cases e with
  | mk o s n b v k t l c =>
    rw [nobE] at h
    simp only [Bool.and_eq_true] at h
    exact ⟨by simpa [Ex.op] using h.1.1, by simpa [Ex.op] using h.1.2, hl k h.2⟩
theorem BTok.kid {P : Program} {e k : Ex} (h : BTok P e) (hk : k ∈ e.kids) : BTok P k := h.elim (fun h => .inl ((nobE_facts h).2.2 k hk)) .inr
theorem BTok.at {P : Program} {e : Ex} (h : BTok P e) (h2 : (e.op == 2) = true ∨ (e.op == 3) = true) (hb : isBits e.bits = true) (hz : ∀ x ∈ e.bits, 0 ≤ x) : BTx P e.bits := by
  rcases h with h | h
  · obtain ⟨h3, h4, _⟩ := nobE_facts h
    rcases h2 with h2 | h2
    · rw [h3] at h2; cases h2
    · rw [h4] at h2; cases h2
  · exact h _ hb hz
end Go.Proofs.YtcgdlhkiecommaaGreatDoor
