/- Tokens that can be written. -/
import Derived.Test.YtcgdlhkiecommaaGreatDoorXSt
set_option linter.all false
namespace Go.Proofs.YtcgdlhkiecommaaGreatDoor
open Go
theorem textP_wr {l : List Tk} (h : (textP l).2 = 0) : l.length ≤ 20000 ∧ ∀ t ∈ l, (wrP t).2 = true := by
  unfold textP at h
  split at h
  · simp at h
  · rename_i h1
    refine ⟨by omega, ?_⟩
    cases ha : l.all (fun t => (wrP t).2) with
    | false => rw [ha] at h; simp at h
    | true => exact List.all_eq_true.1 ha
theorem wr_name {t : Tk} (h : (wrP t).2 = true) (ho : (t.op == 1) = true) : isNameL t.text = true := by
  unfold wrP at h
  rw [beq_iff_eq] at ho
  cases hn : (t.op != 3) && (t.n != 0) with
  | true => rw [hn] at h; simp at h
  | false => rw [hn] at h; simp only [cond_false, ho] at h; exact h
theorem name_noword {s : Bs} (h : isNameL s = true) : isWordL s = false := by
  simp only [isNameL, Bool.and_eq_true, Bool.not_eq_true'] at h
  exact h.2.2.2.2
theorem name_array {l : List Tk} (h : (textP l).2 = 0) (i : Nat) (ho : ((tokAt l i).op == 1) = true) : ((tokAt l i).text == sArray) = false := by
  have hi := op_lt (l := l) (i := i) (k := 1) (by simpa using ho) (by decide)
  have h1 := wr_name ((textP_wr h).2 (tokAt l i) (getD_mem hi)) ho
  have h2 := name_noword h1
  cases h3 : ((tokAt l i).text == sArray) with
  | false => rfl
  | true =>
    rw [beq_iff_eq] at h3
    rw [h3] at h2
    exact absurd h2 (by decide)
end Go.Proofs.YtcgdlhkiecommaaGreatDoor
