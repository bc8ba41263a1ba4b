/- Where tokens stand. -/
import Derived.Test.YtbojpddejdmamaaGreatDoorLLaw
set_option linter.all false
namespace Go.Proofs.YtbojpddejdmamaaGreatDoor
open Go

theorem val_as {P : Program} {o : Oper} {E : Operand → Option AVal} {σ σ' : Store} {a : AVal} (b : AVal) (h : OpTo P o E σ a σ') (e : a = b) : OpTo P o E σ b σ' := e ▸ h
def linesL (s : Bs) : Nat → List Int
  | 0 => [0]
  | i + 1 => if s.getD i default == 10 then linesL s i ++ [(i : Int) + 1] else linesL s i
theorem lines_nl {s : Bs} {i : Nat} (hc : (((s.getD i default).toNat : Int) == 10) = true) : linesL s (i + 1) = linesL s i ++ [(i : Int) + 1] := by
  have : (s.getD i default == 10) = true := by rw [← u8_int]; exact hc
  rw [linesL, if_pos this]
theorem lines_no {s : Bs} {i : Nat} (hc : (((s.getD i default).toNat : Int) == 10) = false) : linesL s (i + 1) = linesL s i := by
  have : (s.getD i default == 10) = false := by rw [← u8_int]; exact hc
  rw [linesL, if_neg (by rw [this]; decide)]
theorem lines_len {s : Bs} : ∀ {i : Nat}, i ≤ s.length → ((linesL s i).length : Int) = (place s i).1
  | 0, _ => rfl
  | i + 1, h => by
    have ih := lines_len (s := s) (i := i) (by omega)
    rw [place_succ s i (by omega), linesL]
    split
    · rw [List.length_append, List.length_singleton]; simp only; omega
    · exact ih
theorem lines_le {s : Bs} : ∀ (i : Nat), (linesL s i).length ≤ i + 1
  | 0 => Nat.le_refl _
  | i + 1 => by
    have ih := lines_le (s := s) i
    rw [linesL]
    split
    · rw [List.length_append, List.length_singleton]; omega
    · omega
theorem lines_last {s : Bs} : ∀ {i : Nat}, i ≤ s.length → (linesL s i).getD ((place s i).1 - 1).toNat default + (place s i).2 - 1 = i
  | 0, _ => rfl
  | i + 1, h => by
    have ih := lines_last (s := s) (i := i) (by omega)
    have hl := lines_len (s := s) (i := i) (by omega)
    have hp := place_ge s i
    rw [place_succ s i (by omega), linesL]
    split
    · have e : ((place s i).1 + 1 - 1).toNat = (linesL s i).length := by omega
      simp only [e, List.getD_eq_getElem?_getD, List.getElem?_append_right (Nat.le_refl _), Nat.sub_self]
      simp
    · simp only; omega
theorem lines_pre {s : Bs} (j : Nat) : ∀ (k q : Nat), q < (linesL s j).length → q < (linesL s (j + k)).length ∧ (linesL s (j + k)).getD q default = (linesL s j).getD q default
  | 0, q, h => ⟨h, rfl⟩
  | k + 1, q, h => by
    obtain ⟨h1, h2⟩ := lines_pre j k q h
    rw [← Nat.add_assoc, linesL]
    split
    · refine ⟨by rw [List.length_append]; omega, ?_⟩
      rw [List.getD_eq_getElem?_getD, List.getElem?_append_left h1, ← List.getD_eq_getElem?_getD, h2]
    · exact ⟨h1, h2⟩
structure PosF (s : Bs) (t : Tk) (p : Nat) : Prop where
  lt : p < s.length
  line1 : 1 ≤ t.line
  line2 : t.line ≤ ((linesL s s.length).length : Int)
  col1 : 1 ≤ t.col
  col2 : t.col ≤ (s.length : Int)
  here : (linesL s s.length).getD (t.line - 1).toNat default + t.col - 1 = (p : Int)
  poss : possT t = true
  src : t.op ≠ 3 → p + (wri t).length ≤ s.length ∧ ((s.drop p).take (p + (wri t).length - p) == wri t) = true
  dig : t.op = 3 → 48 ≤ (s.getD p default).toNat ∧ (s.getD p default).toNat ≤ 57
theorem posF_of {s : Bs} {j : Nat} {op : Int} {t : Bs} {n : Int} {m : Nat} (hlt : j < s.length) (ht : tok (s.drop j) = some (op, t, n, m)) : PosF s ⟨op, t, n, (place s j).1, (place s j).2⟩ j := by
  obtain ⟨h1, h2, h3, h4⟩ := (shape_of ht).src (place s j).1 (place s j).2
  obtain ⟨h5, h6⟩ := tok_len ht
  rw [List.length_drop] at h6
  have hp := place_ge s j
  have hl := lines_len (s := s) (i := j) (by omega)
  have hpre := lines_pre (s := s) j (s.length - j) ((place s j).1 - 1).toNat (by omega)
  rw [show j + (s.length - j) = s.length from by omega] at hpre
  have hlast := lines_last (s := s) (i := j) (by omega)
  refine ⟨hlt, hp.1, ?_, hp.2.1, by show (place s j).2 ≤ _; omega, ?_, h1, fun h => ?_, fun h => ?_⟩
  · show (place s j).1 ≤ _
    omega
  · show (linesL s s.length).getD ((place s j).1 - 1).toNat default + (place s j).2 - 1 = _
    rw [hpre.2]; exact hlast
  · have e := h2 h
    refine ⟨by omega, ?_⟩
    rw [Nat.add_sub_cancel_left, beq_iff_eq]
    have e2 : (wri (⟨op, t, n, (place s j).1, (place s j).2⟩ : Tk)).length = m := by
      rw [← e, List.length_take, List.length_drop]; omega
    rw [e2]; exact e
  · have := (digit_iff _).1 (h3 h)
    rw [getD_drop, Nat.add_zero] at this
    exact this
theorem run_pos {s : Bs} {i : Nat} {l : List (Nat × Tk)} {e : Option Nat} (h : Run s i l e) : ∀ k, k < l.length → i ≤ (l.getD k default).1 ∧ PosF s (l.getD k default).2 (l.getD k default).1 ∧ ∀ q, q < k → (l.getD q default).1 < (l.getD k default).1 := by
  induction h with
  | done => intro k hk; cases hk
  | bad => intro k hk; cases hk
  | step i j op t n m l e hi hj hlt ht h ih =>
    have hn := nextAt_le s i hi
    have hm := (tok_len ht).1
    intro k hk
    cases k with
    | zero => exact ⟨by show i ≤ j; omega, posF_of hlt ht, fun q hq => by omega⟩
    | succ k =>
      rw [List.length_cons] at hk
      obtain ⟨h1, h2, h3⟩ := ih k (by omega)
      simp only [List.getD_cons_succ]
      refine ⟨by omega, h2, fun q hq => ?_⟩
      cases q with
      | zero => show j < _; omega
      | succ q => simp only [List.getD_cons_succ]; exact h3 q (by omega)
def lastP (pos : Nat → Nat) (k : Nat) : Int := if k = 0 then -1 else (pos (k - 1) : Int)
theorem last_succ (pos : Nat → Nat) (k : Nat) : lastP pos (k + 1) = (pos k : Int) := by rw [lastP, if_neg (by omega), Nat.add_sub_cancel]
theorem last_zero (pos : Nat → Nat) : lastP pos 0 = -1 := rfl
theorem places_of {s : Bs} (hs : s.length ≤ 3000) (h : ((lexP s).2.code != 0) = false) : ∃ pos : Nat → Nat, ∀ k, k < (lexP s).1.length → PosF s ((lexP s).1.getD k default) (pos k) ∧ -1 ≤ lastP pos k ∧ lastP pos k < (pos k : Int) := by
  rcases lexP_run hs with ⟨l, hr, e⟩ | ⟨l, j, hr, e⟩
  · refine ⟨fun k => (l.getD k default).1, fun k hk => ?_⟩
    rw [e] at hk ⊢
    simp only [List.length_map] at hk
    obtain ⟨h1, h2, h3⟩ := run_pos hr k hk
    have e2 : (l.map (·.2)).getD k default = (l.getD k default).2 := by
      simp only [List.getD_eq_getElem?_getD, List.getElem?_map, List.getElem?_eq_getElem hk, Option.map_some, Option.getD_some]
    simp only [e2]
    refine ⟨h2, ?_, ?_⟩
    · rw [lastP]; split <;> omega
    · rw [lastP]
      split
      · omega
      · have := h3 (k - 1) (by omega)
        show (((l.getD (k - 1) default).1 : Nat) : Int) < (((l.getD k default).1 : Nat) : Int); omega
  · rw [e] at h; exact absurd h (show ¬ ((10 : Int) != 0) = false by decide)
theorem places_count {s : Bs} (hs : s.length ≤ 3000) (h : ((lexP s).2.code != 0) = false) : (lexP s).1.length ≤ 3000 := (twice_ok hs h).2.1
theorem PosF.no {s : Bs} {t : Tk} {p : Nat} (h : PosF s t p) : ((t.op != 3) && (decide ((p : Int) + ((wri t).length : Int) > (s.length : Int)) || !((s.drop p).take (p + (wri t).length - p) == wri t))) = false := by
  cases h3 : t.op != 3 with
  | false => rfl
  | true =>
    have hn : t.op ≠ 3 := by simpa using h3
    obtain ⟨h1, h2⟩ := h.src hn
    rw [h2, decide_eq_false (by omega)]; rfl
theorem PosF.no2 {s : Bs} {t : Tk} {p : Nat} (h : PosF s t p) : ((t.op == 3) && (decide (((s.getD p default).toNat : Int) < 48) || decide (((s.getD p default).toNat : Int) > 57))) = false := by
  cases h3 : t.op == 3 with
  | false => rfl
  | true =>
    obtain ⟨h1, h2⟩ := h.dig (eq_of_beq h3)
    rw [decide_eq_false (by omega), decide_eq_false (by omega)]; rfl
end Go.Proofs.YtbojpddejdmamaaGreatDoor
