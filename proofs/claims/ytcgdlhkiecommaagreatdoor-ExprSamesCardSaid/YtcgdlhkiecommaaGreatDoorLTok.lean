/- Tokens in the words of the program: runs, quotes, numbers, places. -/
import Derived.Test.YtcgdlhkiecommaaGreatDoorLLib
set_option linter.unusedVariables false
set_option linter.unusedSimpArgs false
namespace Go.Proofs.YtcgdlhkiecommaaGreatDoor
open Go
/-! ### The first of a byte -/
theorem indexByte_eq (c : UInt8) : ∀ l : Bs, Lib.indexByte l c = if l.contains c then ((l.takeWhile (· != c)).length : Int) else -1
  | [] => rfl
  | b :: l => by
    rw [Lib.indexByte, indexByte_eq c l]
    by_cases h : b = c
    · subst h; simp
    · have h1 : (b == c) = false := by simpa using h
      have h2 : (b != c) = true := by simpa using h
      have h3 : (b :: l).contains c = l.contains c := by
        rw [List.contains_cons, show (c == b) = false from by simp only [beq_eq_false_iff_ne, ne_eq]; exact fun e => h e.symm, Bool.false_or]
      rw [h1, h3, List.takeWhile_cons, h2]
      cases hc : l.contains c with
      | true =>
        simp only [if_true, List.length_cons]
        have : ¬ (((l.takeWhile (· != c)).length : Int) = -1) := by omega
        rw [show ((((l.takeWhile (· != c)).length : Int) == -1) = false) from by simp]
        simp
      | false => simp
theorem isBlank_index (c : UInt8) : decide (Lib.indexByte [32, 9, 13, 10] c ≥ 0) = isBlankC c := by
  rw [indexByte_eq, Bool.eq_iff_iff, decide_eq_true_eq, isBlankC]
  split
  · rename_i h
    refine ⟨fun _ => ?_, fun _ => by omega⟩
    simpa [List.contains_cons, Bool.or_assoc] using h
  · rename_i h
    refine ⟨fun h2 => by omega, fun h2 => ?_⟩
    exact absurd (by simpa [List.contains_cons, Bool.or_assoc] using h2) h
theorem isBit_index (c : UInt8) : decide (Lib.indexByte [48, 49, 120, 122] c ≥ 0) = isBitC c := by
  rw [indexByte_eq, Bool.eq_iff_iff, decide_eq_true_eq, isBitC]
  split
  · rename_i h
    refine ⟨fun _ => ?_, fun _ => by omega⟩
    simpa [List.contains_cons, Bool.or_assoc] using h
  · rename_i h
    refine ⟨fun h2 => by omega, fun h2 => ?_⟩
    exact absurd (by simpa [List.contains_cons, Bool.or_assoc] using h2) h
/-! ### Quotes -/
theorem isText_prog (s : Bs) : (decide ((s.length : Int) ≤ 60) && (s.takeWhile isPlainC == s)) = isTextL s := by
  rw [run_eq, isTextL]
  congr 1
  rw [Bool.eq_iff_iff, decide_eq_true_eq, decide_eq_true_eq]; omega
/-! ### Vectors -/
def bitCode (c : UInt8) : Int := Lib.indexByte [48, 49, 120, 122] c
theorem bitCode_le (c : UInt8) : bitCode c ≤ 3 := by
  rw [bitCode, indexByte_eq]
  split
  · rename_i h
    have h2 := List.contains_iff_mem.1 h
    simp only [List.mem_cons, List.not_mem_nil, or_false] at h2
    rcases h2 with rfl | rfl | rfl | rfl <;> decide
  · omega
def parseBits (s : Bs) : List Int := bif isVecL s then (s.map bitCode).reverse else []
def mixR (s : Bs) (i : Nat) : List Int := List.replicate (s.length - i) 0 ++ ((s.take i).map bitCode).reverse
theorem mixR_length (s : Bs) (i : Nat) (h : i ≤ s.length) : (mixR s i).length = s.length := by
  simp [mixR]; omega
theorem mixR_zero (s : Bs) : mixR s 0 = List.replicate s.length 0 := by simp [mixR]
theorem mixR_all (s : Bs) : mixR s s.length = (s.map bitCode).reverse := by simp [mixR]
theorem mixR_step (s : Bs) (i : Nat) (h : i < s.length) : (mixR s i).set (s.length - 1 - i) (bitCode (s.getD i default)) = mixR s (i + 1) := by
  have e1 : s.length - i = (s.length - (i + 1)) + 1 := by omega
  have e2 : s.length - 1 - i = s.length - (i + 1) := by omega
  rw [mixR, mixR, e1, List.replicate_succ', e2, List.append_assoc, List.set_append_right _ _ (by simp), take_snoc s i h]
  simp
theorem isVec_no {s : Bs} (h : (decide ((s.length : Int) < 1) || decide ((s.length : Int) > 64)) = true) : isVecL s = false := by
  rw [isVecL]
  cases s with
  | nil => rfl
  | cons c r =>
    rw [Bool.or_eq_true, decide_eq_true_eq, decide_eq_true_eq] at h
    rw [decide_eq_false (show ¬ (c :: r).length ≤ 64 from by simp only [List.length_cons] at h ⊢; omega)]; rfl
theorem isVec_bad {s : Bs} (i : Nat) (hi : i < s.length) (h : Lib.indexByte [48, 49, 120, 122] (s.getD i default) < 0) : isVecL s = false := by
  have hb : isBitC (s.getD i default) = false := by rw [← isBit_index, decide_eq_false]; omega
  have : s.all isBitC = false := by
    rw [List.all_eq_false]
    refine ⟨s[i], List.getElem_mem hi, ?_⟩
    rw [List.getD_eq_getElem?_getD, List.getElem?_eq_getElem hi] at hb
    rw [show isBitC s[i] = false from hb]; simp
  rw [isVecL, this]; simp
theorem isVec_yes {s : Bs} (h : (decide ((s.length : Int) < 1) || decide ((s.length : Int) > 64)) = false) (ha : ∀ k, k < s.length → isBitC (s.getD k default) = true) : isVecL s = true := by
  rw [Bool.or_eq_false_iff, decide_eq_false_iff_not, decide_eq_false_iff_not] at h
  have e1 : s.isEmpty = false := by cases s with | nil => simp at h | cons => rfl
  rw [isVecL, all_of ha, e1, decide_eq_true (by omega)]; rfl
/-! ### Numbers -/
def decFrom (acc : Nat) (w : Bs) : Nat := w.foldl (fun n c => 10 * n + (c.toNat - 48)) acc
theorem decFrom_ge : ∀ (w : Bs) (acc : Nat), acc ≤ decFrom acc w
  | [], acc => Nat.le_refl _
  | c :: w, acc => by
    have := decFrom_ge w (10 * acc + (c.toNat - 48))
    show acc ≤ decFrom (10 * acc + (c.toNat - 48)) w
    omega
theorem digit_iff (c : UInt8) : isDigitC c = true ↔ 48 ≤ c.toNat ∧ c.toNat ≤ 57 := by
  rw [isDigitC, Bool.and_eq_true, decide_eq_true_eq, decide_eq_true_eq]; omega
/-! ### Tokens, way by way -/
def tokA (s : Bs) : Int × Bs × Int × Nat := (tok s).getD (0, [], 0, 0)
def tokCells (s : Bs) : List AVal := [.v (.int .i64 (tokA s).1), .v (.string (str (tokA s).2.1)), .v (.int .i64 (tokA s).2.2.1), .v (.int .i64 0), .v (.int .i64 0)]
def parseE (s : Bs) : Int := bif isVecL s then 0 else 44
section
variable {s : Bs}
variable (h0 : [98, 34].isPrefixOf s = false)
include h0
theorem tok_word (h1 : isLetterC (s.getD 0 default) = true) (h2 : isWordL (s.takeWhile isPartC) = true) : tokA s = (2, s.takeWhile isPartC, 0, (s.takeWhile isPartC).length) := by
  rw [tokA, tok, h0, if_neg (by simp), if_pos h1, if_pos h2]; rfl
theorem tok_name (h1 : isLetterC (s.getD 0 default) = true) (h2 : isWordL (s.takeWhile isPartC) = false) (h3 : isNameL (s.takeWhile isPartC) = true) : tokA s = (1, s.takeWhile isPartC, 0, (s.takeWhile isPartC).length) := by
  rw [tokA, tok, h0, if_neg (by simp), if_pos h1, h2, if_neg (by simp), if_pos h3]; rfl
theorem tok_noname (h1 : isLetterC (s.getD 0 default) = true) (h2 : isWordL (s.takeWhile isPartC) = false) (h3 : isNameL (s.takeWhile isPartC) = false) : tokA s = (0, [], 0, 0) := by
  rw [tokA, tok, h0, if_neg (by simp), if_pos h1, h2, if_neg (by simp), h3, if_neg (by simp)]; rfl
variable (hl : isLetterC (s.getD 0 default) = false)
include hl
variable (hd : isDigitC (s.getD 0 default) = false)
include hd
variable (hb : (((s.getD 0 default).toNat : Int) == 39) = false)
include hb
variable (hq : (((s.getD 0 default).toNat : Int) == 34) = false)
include hq
theorem tok_last : tokA s = match signsL.find? (fun x => x.isPrefixOf s) with | some x => (7, x, 0, x.length) | none => (0, [], 0, 0) := by
  rw [show (39 : Int) = ((39 : UInt8).toNat : Int) from rfl, u8_int] at hb
  rw [show (34 : Int) = ((34 : UInt8).toNat : Int) from rfl, u8_int] at hq
  rw [tokA, tok, h0, if_neg (by simp), hl, if_neg (by simp), hd, if_neg (by simp), hb, if_neg (by simp), hq, if_neg (by simp)]
  split <;> rename_i h <;> rw [h] <;> rfl
end
theorem find_step {p : Bs → Bool} : ∀ {l : List Bs} {i : Nat}, i < l.length → (∀ k, k < i → p (l.getD k default) = false) → p (l.getD i default) = true → l.find? p = some (l.getD i default)
  | [], i, h, _, _ => by simp at h
  | x :: l, 0, _, _, h1 => by rw [List.find?_cons, show p x = true from h1]; rfl
  | x :: l, i + 1, h, h0, h1 => by
    rw [List.find?_cons, show p x = false from h0 0 (by omega)]
    exact find_step (by simpa using h) (fun k hk => h0 (k + 1) (by omega)) h1
theorem find_more {p : Bs → Bool} {l : List Bs} {i : Nat} (h : ∀ k, k < i → p (l.getD k default) = false) (h1 : p (l.getD i default) = false) : ∀ k, k < i + 1 → p (l.getD k default) = false := by
  intro k hk
  rcases Nat.lt_or_eq_of_le (Nat.le_of_lt_succ hk) with e | e
  · exact h k e
  · subst e; exact h1
theorem find_none {p : Bs → Bool} {l : List Bs} (h : ∀ k, k < l.length → p (l.getD k default) = false) : l.find? p = none := by
  rw [List.find?_eq_none]
  intro x hx
  obtain ⟨i, hi, rfl⟩ := List.getElem_of_mem hx
  have := h i hi
  rw [List.getD_eq_getElem?_getD, List.getElem?_eq_getElem hi] at this
  rw [show p l[i] = false from this]; simp
/-! ### Blanks -/
def lineLen (l : Bs) : Nat := (l.takeWhile (· != 10)).length
theorem lineLen_le (l : Bs) : lineLen l ≤ l.length := takeWhile_len _ _
theorem blk_line : ∀ l : Bs, blk true l = lineLen l + blk false (l.drop (lineLen l))
  | [] => rfl
  | c :: r => by
    rw [blk]
    by_cases h : c = 10
    · subst h
      have e : lineLen (10 :: r) = 0 := rfl
      rw [e, List.drop_zero, Nat.zero_add]
      rfl
    · have h1 : (c != 10) = true := by simpa using h
      have e : lineLen (c :: r) = lineLen r + 1 := by rw [lineLen, List.takeWhile_cons, h1]; rfl
      rw [h1, e, blk_line r, List.drop_succ_cons]; omega
theorem drop_cons (s : Bs) (i : Nat) (h : i < s.length) : s.drop i = s.getD i default :: s.drop (i + 1) := by
  rw [List.getD_eq_getElem?_getD, List.getElem?_eq_getElem h, List.drop_eq_getElem_cons h]; rfl
theorem next_end (s : Bs) (i : Nat) (h : ¬ i < s.length) : nextAt s i = i := by
  rw [nextAt, List.drop_eq_nil_of_le (by omega)]; rfl
theorem next_blank (s : Bs) (i : Nat) (h : i < s.length) (hb : isBlankC (s.getD i default) = true) : nextAt s (i + 1) = nextAt s i := by
  rw [nextAt, nextAt, drop_cons s i h, blk, if_pos hb]; omega
theorem two_prefix {l : Bs} (h : [45, 45].isPrefixOf l = true) : ∃ r, l = 45 :: 45 :: r := by
  rw [List.isPrefixOf_iff_prefix] at h
  obtain ⟨r, hr⟩ := h
  exact ⟨r, hr.symm⟩
theorem next_comment (s : Bs) (i : Nat) (h : [45, 45].isPrefixOf (s.drop i) = true) : nextAt s (i + lineLen (s.drop i)) = nextAt s i ∧ 2 ≤ lineLen (s.drop i) := by
  obtain ⟨r, hr⟩ := two_prefix h
  have e0 : lineLen (45 :: 45 :: r) = lineLen (45 :: r) + 1 := rfl
  have e1 : lineLen (45 :: r) = lineLen r + 1 := rfl
  have e2 : blk false (45 :: 45 :: r) = blk true (45 :: r) + 1 := rfl
  have e3 := blk_line (45 :: r)
  refine ⟨?_, by rw [hr]; omega⟩
  rw [nextAt, nextAt, ← List.drop_drop, hr, e2, e3, e0, List.drop_succ_cons]; omega
theorem next_stop (s : Bs) (i : Nat) (h : i < s.length) (hb : isBlankC (s.getD i default) = false) (hc : [45, 45].isPrefixOf (s.drop i) = false) : nextAt s i = i := by
  rw [drop_cons s i h] at hc
  rw [nextAt, drop_cons s i h, blk, hb, if_neg (by simp), if_neg ?_]
  · rfl
  · intro hx
    rw [Bool.and_eq_true, beq_iff_eq] at hx
    rw [hx.1] at hc
    cases hd : s.drop (i + 1) with
    | nil => rw [hd] at hx; exact absurd hx.2 (by decide)
    | cons d r =>
      rw [hd] at hx hc
      simp only [List.head?_cons, beq_iff_eq, Option.some.injEq] at hx
      rw [hx.2] at hc
      exact absurd hc (by simp [List.isPrefixOf])
/-! ### The scanner -/
end Go.Proofs.YtcgdlhkiecommaaGreatDoor
