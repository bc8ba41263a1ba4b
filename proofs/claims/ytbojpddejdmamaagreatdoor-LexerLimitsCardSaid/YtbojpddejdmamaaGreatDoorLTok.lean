/- Tokens in the words of the program: runs, quotes, numbers, places. -/
import Derived.Test.YtbojpddejdmamaaGreatDoorLLib
set_option linter.unusedVariables false
set_option linter.unusedSimpArgs false
namespace Go.Proofs.YtbojpddejdmamaaGreatDoor
open Go

/-! ### The first of a byte -/
theorem indexByte_eq (c : UInt8) : ∀ l : Bs, Lib.indexByte l c = if l.contains c then ((l.takeWhile (· != c)).length : Int) else -1
  | [] => rfl
  | b :: l => by
    rw [Lib.indexByte, indexByte_eq c l]
    by_cases h : b = c
    · subst h; simp
    · have h1 : (b == c) = false := by simpa using h
      have h2 : (b != c) = true := by simpa using h
      have h3 : (b :: l).contains c = l.contains c := by
        rw [List.contains_cons, show (c == b) = false from by simp only [beq_eq_false_iff_ne, ne_eq]; exact fun e => h e.symm, Bool.false_or]
      rw [h1, h3, List.takeWhile_cons, h2]
      cases hc : l.contains c with
      | true =>
        simp only [if_true, List.length_cons]
        have : ¬ (((l.takeWhile (· != c)).length : Int) = -1) := by omega
        rw [show ((((l.takeWhile (· != c)).length : Int) == -1) = false) from by simp]
        simp
      | false => simp
theorem takeWhile_none {c : UInt8} : ∀ {l : Bs}, l.contains c = false → l.takeWhile (· != c) = l
  | [], _ => rfl
  | b :: l, h => by
    rw [List.contains_cons, Bool.or_eq_false_iff] at h
    have h2 : (b != c) = true := by
      have := h.1
      simp only [beq_eq_false_iff_ne, ne_eq] at this
      simpa using fun e => this e.symm
    rw [List.takeWhile_cons, h2, if_pos rfl, takeWhile_none h.2]
theorem isBlank_index (c : UInt8) : decide (Lib.indexByte [32, 9, 13, 10] c ≥ 0) = isBlankC c := by
  rw [indexByte_eq, Bool.eq_iff_iff, decide_eq_true_eq, isBlankC]
  split
  · rename_i h
    refine ⟨fun _ => ?_, fun _ => by omega⟩
    simpa [List.contains_cons, Bool.or_assoc] using h
  · rename_i h
    refine ⟨fun h2 => by omega, fun h2 => ?_⟩
    exact absurd (by simpa [List.contains_cons, Bool.or_assoc] using h2) h
theorem isBit_index (c : UInt8) : decide (Lib.indexByte [48, 49, 120, 122] c ≥ 0) = isBitC c := by
  rw [indexByte_eq, Bool.eq_iff_iff, decide_eq_true_eq, isBitC]
  split
  · rename_i h
    refine ⟨fun _ => ?_, fun _ => by omega⟩
    simpa [List.contains_cons, Bool.or_assoc] using h
  · rename_i h
    refine ⟨fun h2 => by omega, fun h2 => ?_⟩
    exact absurd (by simpa [List.contains_cons, Bool.or_assoc] using h2) h

/-! ### Quotes -/
def cutQ (s : Bs) : Bs × Bs × Bool := Lib.cut (Lib.trimPrefix s [34]) [34]
def qT (s : Bs) : Bs := (cutQ s).1
def qOK (s : Bs) : Bool := (cutQ s).2.2 && [34].isPrefixOf s
theorem cut_one (l : Bs) (c : UInt8) : Lib.cut l [c] = if l.contains c then (l.takeWhile (· != c), l.drop ((l.takeWhile (· != c)).length + 1), true) else (l, [], false) := by
  rw [Lib.cut, Lib.index_one, indexByte_eq]
  cases h : l.contains c with
  | true =>
    simp only [if_true]
    rw [if_pos (by omega)]
    have e : l.take (l.takeWhile (· != c)).length = l.takeWhile (· != c) := by
      have := List.takeWhile_prefix (fun x => x != c) (l := l)
      exact (List.prefix_iff_eq_take.1 this).symm
    simp only [Int.toNat_natCast, List.length_cons, List.length_nil, e]
  | false => simp
theorem prefix_one (c : UInt8) (s : Bs) : [c].isPrefixOf s = (s.head? == some c) := by
  cases s with
  | nil => rfl
  | cons d r =>
    by_cases h : c = d
    · subst h; simp [List.isPrefixOf]
    · have h1 : (c == d) = false := by simpa using h
      have h2 : (some d == some c) = false := by simp only [beq_eq_false_iff_ne, ne_eq, Option.some.injEq]; exact fun e => h e.symm
      rw [List.head?_cons, h2, List.isPrefixOf, h1]; rfl
theorem cutQ_cons (d : UInt8) (r : Bs) : cutQ (d :: r) = if d = 34 then Lib.cut r [34] else Lib.cut (d :: r) [34] := by
  rw [cutQ, Lib.trimPrefix, Lib.hasPrefix, prefix_one]
  by_cases h : d = 34
  · subst h; rw [if_pos (show ((34 :: r).head? == some 34) = true from rfl), if_pos rfl]; rfl
  · rw [if_neg h, if_neg (by simpa using h)]
theorem qOK_eq (s : Bs) : qOK s = quotedOK s := by
  cases s with
  | nil => rfl
  | cons d r =>
    rw [qOK, quotedOK, prefix_one, cutQ_cons]
    by_cases h : d = 34
    · subst h
      rw [if_pos rfl, cut_one]
      simp only [List.head?_cons, beq_self_eq_true, Bool.and_true, Bool.true_and, List.tail_cons]
      split
      · rename_i hc; exact hc.symm
      · rename_i hc; simpa using hc
    · have e : ((d :: r).head? == some 34) = false := by simpa using h
      rw [e]; simp
theorem qT_eq {s : Bs} (h : qOK s = true) : qT s = quotedT s := by
  rw [qOK_eq, quotedOK, Bool.and_eq_true] at h
  cases s with
  | nil => exact absurd h.1 (by decide)
  | cons d r =>
    have hd : d = 34 := by simpa using h.1
    subst hd
    have h2 : r.contains 34 = true := h.2
    rw [qT, cutQ_cons, if_pos rfl, cut_one, if_pos h2]; rfl

theorem trim_len {s : Bs} {n : Nat} (h : s.length ≤ n) : (Lib.trimPrefix s [34]).length ≤ n := by
  rw [Lib.trimPrefix]
  split
  · rw [List.length_drop]; omega
  · exact h
theorem cutQ_len {s : Bs} {n : Nat} (h : s.length ≤ n) : (qT s).length ≤ n := by
  have := trim_len h
  rw [qT, cutQ, Lib.cut]
  split
  · simp only [List.length_take]; omega
  · exact this
theorem isText_prog (s : Bs) : (decide ((s.length : Int) ≤ 60) && (s.takeWhile isPlainC == s)) = isTextL s := by
  rw [run_eq, isTextL]
  congr 1
  rw [Bool.eq_iff_iff, decide_eq_true_eq, decide_eq_true_eq]; omega

/-! ### Vectors -/
def bitCode (c : UInt8) : Int := Lib.indexByte [48, 49, 120, 122] c
theorem bitCode_le (c : UInt8) : bitCode c ≤ 3 := by
  rw [bitCode, indexByte_eq]
  split
  · rename_i h
    have h2 := List.contains_iff_mem.1 h
    simp only [List.mem_cons, List.not_mem_nil, or_false] at h2
    rcases h2 with rfl | rfl | rfl | rfl <;> decide
  · omega
def parseBits (s : Bs) : List Int := bif isVecL s then (s.map bitCode).reverse else []
def mixR (s : Bs) (i : Nat) : List Int := List.replicate (s.length - i) 0 ++ ((s.take i).map bitCode).reverse
theorem mixR_length (s : Bs) (i : Nat) (h : i ≤ s.length) : (mixR s i).length = s.length := by
  simp [mixR]; omega
theorem mixR_zero (s : Bs) : mixR s 0 = List.replicate s.length 0 := by simp [mixR]
theorem mixR_all (s : Bs) : mixR s s.length = (s.map bitCode).reverse := by simp [mixR]
theorem mixR_step (s : Bs) (i : Nat) (h : i < s.length) : (mixR s i).set (s.length - 1 - i) (bitCode (s.getD i default)) = mixR s (i + 1) := by
  have e1 : s.length - i = (s.length - (i + 1)) + 1 := by omega
  have e2 : s.length - 1 - i = s.length - (i + 1) := by omega
  rw [mixR, mixR, e1, List.replicate_succ', e2, List.append_assoc, List.set_append_right _ _ (by simp), take_snoc s i h]
  simp
theorem isVec_no {s : Bs} (h : (decide ((s.length : Int) < 1) || decide ((s.length : Int) > 64)) = true) : isVecL s = false := by
  rw [isVecL]
  cases s with
  | nil => rfl
  | cons c r =>
    rw [Bool.or_eq_true, decide_eq_true_eq, decide_eq_true_eq] at h
    rw [decide_eq_false (show ¬ (c :: r).length ≤ 64 from by simp only [List.length_cons] at h ⊢; omega)]; rfl
theorem isVec_bad {s : Bs} (i : Nat) (hi : i < s.length) (h : Lib.indexByte [48, 49, 120, 122] (s.getD i default) < 0) : isVecL s = false := by
  have hb : isBitC (s.getD i default) = false := by rw [← isBit_index, decide_eq_false]; omega
  have : s.all isBitC = false := by
    rw [List.all_eq_false]
    refine ⟨s[i], List.getElem_mem hi, ?_⟩
    rw [List.getD_eq_getElem?_getD, List.getElem?_eq_getElem hi] at hb
    rw [show isBitC s[i] = false from hb]; simp
  rw [isVecL, this]; simp
theorem isVec_yes {s : Bs} (h : (decide ((s.length : Int) < 1) || decide ((s.length : Int) > 64)) = false) (ha : ∀ k, k < s.length → isBitC (s.getD k default) = true) : isVecL s = true := by
  rw [Bool.or_eq_false_iff, decide_eq_false_iff_not, decide_eq_false_iff_not] at h
  have e1 : s.isEmpty = false := by cases s with | nil => simp at h | cons => rfl
  rw [isVecL, all_of ha, e1, decide_eq_true (by omega)]; rfl

/-! ### Numbers -/
def decFrom (acc : Nat) (w : Bs) : Nat := w.foldl (fun n c => 10 * n + (c.toNat - 48)) acc
theorem decFrom_ge : ∀ (w : Bs) (acc : Nat), acc ≤ decFrom acc w
  | [], acc => Nat.le_refl _
  | c :: w, acc => by
    have := decFrom_ge w (10 * acc + (c.toNat - 48))
    show acc ≤ decFrom (10 * acc + (c.toNat - 48)) w
    omega
theorem digit_iff (c : UInt8) : isDigitC c = true ↔ 48 ≤ c.toNat ∧ c.toNat ≤ 57 := by
  rw [isDigitC, Bool.and_eq_true, decide_eq_true_eq, decide_eq_true_eq]; omega
theorem parseU_eq : ∀ (w : Bs) (acc : Nat), w.all isDigitC = true → acc ≤ 4294967295 → Lib.parseUintM 4294967295 acc w = if decFrom acc w ≤ 4294967295 then .ok (decFrom acc w) else .range
  | [], acc, _, h => by
    have e : decFrom acc [] = acc := rfl
    rw [e, if_pos h]; rfl
  | c :: w, acc, ha, h => by
    rw [List.all_cons, Bool.and_eq_true] at ha
    have hd := (digit_iff c).1 ha.1
    have e : decFrom acc (c :: w) = decFrom (10 * acc + (c.toNat - 48)) w := rfl
    rw [Lib.parseUintM, if_pos hd, if_neg (by omega), e]
    have hge := decFrom_ge w (10 * acc + (c.toNat - 48))
    by_cases hm : 4294967295 < acc * 10 + (c.toNat - 48)
    · rw [if_pos hm, if_neg (by omega)]
    · rw [if_neg hm, show acc * 10 + (c.toNat - 48) = 10 * acc + (c.toNat - 48) from by omega, parseU_eq w _ ha.2 (by omega)]
theorem parseI_eq {w : Bs} (hne : w ≠ []) (ha : w.all isDigitC = true) : Lib.parseIntB 32 w = if decV w ≤ 2147483647 then .ok (decV w : Nat) else .range := by
  cases w with
  | nil => exact absurd rfl hne
  | cons c r =>
    have hd := (digit_iff c).1 (by rw [List.all_cons, Bool.and_eq_true] at ha; exact ha.1)
    have e := parseU_eq (c :: r) 0 ha (by omega)
    simp only [Lib.parseIntB]
    rw [if_neg (by omega), Lib.parseUintB, if_neg (by simp), show (2 ^ 32 - 1 : Nat) = 4294967295 from rfl, e]
    have e2 : decFrom 0 (c :: r) = decV (c :: r) := rfl
    rw [e2]
    by_cases h : decV (c :: r) ≤ 2147483647
    · rw [if_pos (by omega), if_pos h]
      simp only
      rw [if_neg (by omega), if_neg (by omega), if_neg (by omega)]
    · rw [if_neg h]
      by_cases h2 : decV (c :: r) ≤ 4294967295
      · rw [if_pos h2]
        simp only
        rw [if_pos ⟨by omega, by omega⟩]
      · rw [if_neg h2]
theorem num_eq {w : Bs} (hne : w ≠ []) : (numOK w && (w.takeWhile isDigitC == w)) = (w.all isDigitC && decide (decV w ≤ 2147483647)) := by
  rw [run_eq]
  cases ha : w.all isDigitC with
  | false => simp
  | true =>
    rw [numOK, parseI_eq hne ha]
    by_cases h : decV w ≤ 2147483647
    · rw [if_pos h, decide_eq_true h]
      first | done | rfl
    · rw [if_neg h, decide_eq_false h]
      first | done | rfl
theorem num_val {w : Bs} (hne : w ≠ []) (h : (w.all isDigitC && decide (decV w ≤ 2147483647)) = true) : numK w = (decV w : Nat) := by
  rw [Bool.and_eq_true, decide_eq_true_eq] at h
  rw [numK, parseI_eq hne h.1, if_pos h.2]

/-! ### Tokens, way by way -/
def tokA (s : Bs) : Int × Bs × Int × Nat := (tok s).getD (0, [], 0, 0)
def tokCells (s : Bs) : List AVal := [.v (.int .i64 (tokA s).1), .v (.string (str (tokA s).2.1)), .v (.int .i64 (tokA s).2.2.1), .v (.int .i64 0), .v (.int .i64 0)]
def parseE (s : Bs) : Int := bif isVecL s then 0 else 44
section
variable {s : Bs}
theorem tok_vec (h : [98, 34].isPrefixOf s = true) (h2 : (!(qOK (s.drop 1)) || (parseE (qT (s.drop 1)) != 0)) = false) : tokA s = (5, qT (s.drop 1), 0, (qT (s.drop 1)).length + 3) := by
  rw [Bool.or_eq_false_iff, Bool.not_eq_false'] at h2
  have h3 : isVecL (qT (s.drop 1)) = true := by
    cases hv : isVecL (qT (s.drop 1)) with
    | true => rfl
    | false => rw [parseE, hv] at h2; exact absurd h2.2 (by decide)
  rw [tokA, tok, if_pos h, ← List.drop_one, ← qOK_eq, h2.1, ← qT_eq h2.1, h3]
  rfl
theorem tok_novec (h : [98, 34].isPrefixOf s = true) (h2 : (!(qOK (s.drop 1)) || (parseE (qT (s.drop 1)) != 0)) = true) : tokA s = (0, [], 0, 0) := by
  rw [tokA, tok, if_pos h, ← List.drop_one, ← qOK_eq]
  cases hq : qOK (s.drop 1) with
  | false => rfl
  | true =>
    rw [hq] at h2
    rw [← qT_eq hq]
    cases hv : isVecL (qT (s.drop 1)) with
    | false => rfl
    | true => rw [parseE, hv] at h2; exact absurd h2 (by decide)
variable (h0 : [98, 34].isPrefixOf s = false)
include h0
theorem tok_word (h1 : isLetterC (s.getD 0 default) = true) (h2 : isWordL (s.takeWhile isPartC) = true) : tokA s = (2, s.takeWhile isPartC, 0, (s.takeWhile isPartC).length) := by
  rw [tokA, tok, h0, if_neg (by simp), if_pos h1, if_pos h2]; rfl
theorem tok_name (h1 : isLetterC (s.getD 0 default) = true) (h2 : isWordL (s.takeWhile isPartC) = false) (h3 : isNameL (s.takeWhile isPartC) = true) : tokA s = (1, s.takeWhile isPartC, 0, (s.takeWhile isPartC).length) := by
  rw [tokA, tok, h0, if_neg (by simp), if_pos h1, h2, if_neg (by simp), if_pos h3]; rfl
theorem tok_noname (h1 : isLetterC (s.getD 0 default) = true) (h2 : isWordL (s.takeWhile isPartC) = false) (h3 : isNameL (s.takeWhile isPartC) = false) : tokA s = (0, [], 0, 0) := by
  rw [tokA, tok, h0, if_neg (by simp), if_pos h1, h2, if_neg (by simp), h3, if_neg (by simp)]; rfl
variable (hl : isLetterC (s.getD 0 default) = false)
include hl
theorem run_ne (h1 : isDigitC (s.getD 0 default) = true) : s.takeWhile isPartC ≠ [] := by
  cases s with
  | nil => exact absurd h1 (by decide)
  | cons c r =>
    have : isPartC c = true := by rw [isPartC, show isDigitC c = true from h1]; simp
    rw [List.takeWhile_cons, this]; simp
theorem tok_int (h1 : isDigitC (s.getD 0 default) = true) (h2 : (numOK (s.takeWhile isPartC) && ((s.takeWhile isPartC).takeWhile isDigitC == s.takeWhile isPartC)) = true) : tokA s = (3, [], numK (s.takeWhile isPartC), (s.takeWhile isPartC).length) := by
  have hn := run_ne h0 hl h1
  rw [num_eq hn] at h2
  rw [tokA, tok, h0, if_neg (by simp), hl, if_neg (by simp), if_pos h1, if_pos h2, num_val hn h2]; rfl
theorem tok_noint (h1 : isDigitC (s.getD 0 default) = true) (h2 : (numOK (s.takeWhile isPartC) && ((s.takeWhile isPartC).takeWhile isDigitC == s.takeWhile isPartC)) = false) : tokA s = (0, [], 0, 0) := by
  rw [num_eq (run_ne h0 hl h1)] at h2
  rw [tokA, tok, h0, if_neg (by simp), hl, if_neg (by simp), if_pos h1, h2, if_neg (by simp)]; rfl
variable (hd : isDigitC (s.getD 0 default) = false)
include hd
theorem tok_bit (h1 : (((s.getD 0 default).toNat : Int) == 39) = true) (h2 : ((decide ((s.length : Int) > 2) && (((s.getD 2 default).toNat : Int) == ((s.getD 0 default).toNat : Int))) && decide (Lib.indexByte [48, 49, 120, 122] (s.getD 1 default) ≥ 0)) = true) : tokA s = (4, (s.drop 1).take 1, 0, 3) := by
  rw [show (39 : Int) = ((39 : UInt8).toNat : Int) from rfl, u8_int] at h1
  rw [isBit_index, u8_int, beq_iff_eq.1 h1, Bool.and_eq_true, Bool.and_eq_true, decide_eq_true_eq] at h2
  rw [tokA, tok, h0, if_neg (by simp), hl, if_neg (by simp), hd, if_neg (by simp), if_pos h1, h2.1.2, h2.2, decide_eq_true (by omega)]
  have hlen : 1 < s.length := by omega
  have e : (s.drop 1).take 1 = [s.getD 1 default] := by
    rw [List.getD_eq_getElem?_getD, List.getElem?_eq_getElem hlen, List.drop_eq_getElem_cons hlen]; rfl
  rw [e]; rfl
theorem tok_nobit (h1 : (((s.getD 0 default).toNat : Int) == 39) = true) (h2 : ((decide ((s.length : Int) > 2) && (((s.getD 2 default).toNat : Int) == ((s.getD 0 default).toNat : Int))) && decide (Lib.indexByte [48, 49, 120, 122] (s.getD 1 default) ≥ 0)) = false) : tokA s = (0, [], 0, 0) := by
  rw [show (39 : Int) = ((39 : UInt8).toNat : Int) from rfl, u8_int] at h1
  have hx : (decide (s.length > 2) && (s.getD 2 default == 39 && isBitC (s.getD 1 default))) = false := by
    rw [isBit_index, u8_int, beq_iff_eq.1 h1, Bool.and_assoc] at h2
    rw [← h2]
    congr 1
    rw [Bool.eq_iff_iff, decide_eq_true_eq, decide_eq_true_eq]; omega
  rw [tokA, tok, h0, if_neg (by simp), hl, if_neg (by simp), hd, if_neg (by simp), if_pos h1, hx, if_neg (by simp)]; rfl
variable (hb : (((s.getD 0 default).toNat : Int) == 39) = false)
include hb
theorem tok_text (h1 : (((s.getD 0 default).toNat : Int) == 34) = true) (h2 : (qOK s && isTextL (qT s)) = true) : tokA s = (6, qT s, 0, (qT s).length + 2) := by
  rw [show (39 : Int) = ((39 : UInt8).toNat : Int) from rfl, u8_int] at hb
  rw [show (34 : Int) = ((34 : UInt8).toNat : Int) from rfl, u8_int] at h1
  rw [Bool.and_eq_true] at h2
  rw [tokA, tok, h0, if_neg (by simp), hl, if_neg (by simp), hd, if_neg (by simp), hb, if_neg (by simp), if_pos h1, ← qOK_eq, ← qT_eq h2.1, h2.1, h2.2]; rfl
theorem tok_notext (h1 : (((s.getD 0 default).toNat : Int) == 34) = true) (h2 : (qOK s && isTextL (qT s)) = false) : tokA s = (0, [], 0, 0) := by
  rw [show (39 : Int) = ((39 : UInt8).toNat : Int) from rfl, u8_int] at hb
  rw [show (34 : Int) = ((34 : UInt8).toNat : Int) from rfl, u8_int] at h1
  rw [tokA, tok, h0, if_neg (by simp), hl, if_neg (by simp), hd, if_neg (by simp), hb, if_neg (by simp), if_pos h1, ← qOK_eq]
  cases hq : qOK s with
  | false => rfl
  | true =>
    rw [hq] at h2
    rw [← qT_eq hq, show isTextL (qT s) = false from by simpa using h2]; rfl
variable (hq : (((s.getD 0 default).toNat : Int) == 34) = false)
include hq
theorem tok_last : tokA s = match signsL.find? (fun x => x.isPrefixOf s) with | some x => (7, x, 0, x.length) | none => (0, [], 0, 0) := by
  rw [show (39 : Int) = ((39 : UInt8).toNat : Int) from rfl, u8_int] at hb
  rw [show (34 : Int) = ((34 : UInt8).toNat : Int) from rfl, u8_int] at hq
  rw [tokA, tok, h0, if_neg (by simp), hl, if_neg (by simp), hd, if_neg (by simp), hb, if_neg (by simp), hq, if_neg (by simp)]
  split <;> rename_i h <;> rw [h] <;> rfl
end
theorem find_step {p : Bs → Bool} : ∀ {l : List Bs} {i : Nat}, i < l.length → (∀ k, k < i → p (l.getD k default) = false) → p (l.getD i default) = true → l.find? p = some (l.getD i default)
  | [], i, h, _, _ => by simp at h
  | x :: l, 0, _, _, h1 => by rw [List.find?_cons, show p x = true from h1]; rfl
  | x :: l, i + 1, h, h0, h1 => by
    rw [List.find?_cons, show p x = false from h0 0 (by omega)]
    exact find_step (by simpa using h) (fun k hk => h0 (k + 1) (by omega)) h1
theorem find_more {p : Bs → Bool} {l : List Bs} {i : Nat} (h : ∀ k, k < i → p (l.getD k default) = false) (h1 : p (l.getD i default) = false) : ∀ k, k < i + 1 → p (l.getD k default) = false := by
  intro k hk
  rcases Nat.lt_or_eq_of_le (Nat.le_of_lt_succ hk) with e | e
  · exact h k e
  · subst e; exact h1
theorem find_none {p : Bs → Bool} {l : List Bs} (h : ∀ k, k < l.length → p (l.getD k default) = false) : l.find? p = none := by
  rw [List.find?_eq_none]
  intro x hx
  obtain ⟨i, hi, rfl⟩ := List.getElem_of_mem hx
  have := h i hi
  rw [List.getD_eq_getElem?_getD, List.getElem?_eq_getElem hi] at this
  rw [show p l[i] = false from this]; simp

/-! ### Blanks -/
def lineLen (l : Bs) : Nat := (l.takeWhile (· != 10)).length
theorem line_some {l : Bs} (h : ¬ Lib.indexByte l 10 < 0) : Lib.indexByte l 10 = (lineLen l : Nat) := by
  rw [indexByte_eq] at h ⊢
  split at h
  · rename_i hc; rw [if_pos hc]; rfl
  · omega
theorem line_none {l : Bs} (h : Lib.indexByte l 10 < 0) : l.length = lineLen l := by
  rw [indexByte_eq] at h
  split at h
  · omega
  · rename_i hc
    rw [lineLen, takeWhile_none (by simpa using hc)]
theorem lineLen_le (l : Bs) : lineLen l ≤ l.length := takeWhile_len _ _
theorem blk_line : ∀ l : Bs, blk true l = lineLen l + blk false (l.drop (lineLen l))
  | [] => rfl
  | c :: r => by
    rw [blk]
    by_cases h : c = 10
    · subst h
      have e : lineLen (10 :: r) = 0 := rfl
      rw [e, List.drop_zero, Nat.zero_add]
      rfl
    · have h1 : (c != 10) = true := by simpa using h
      have e : lineLen (c :: r) = lineLen r + 1 := by rw [lineLen, List.takeWhile_cons, h1]; rfl
      rw [h1, e, blk_line r, List.drop_succ_cons]; omega
theorem drop_cons (s : Bs) (i : Nat) (h : i < s.length) : s.drop i = s.getD i default :: s.drop (i + 1) := by
  rw [List.getD_eq_getElem?_getD, List.getElem?_eq_getElem h, List.drop_eq_getElem_cons h]; rfl
theorem next_end (s : Bs) (i : Nat) (h : ¬ i < s.length) : nextAt s i = i := by
  rw [nextAt, List.drop_eq_nil_of_le (by omega)]; rfl
theorem next_blank (s : Bs) (i : Nat) (h : i < s.length) (hb : isBlankC (s.getD i default) = true) : nextAt s (i + 1) = nextAt s i := by
  rw [nextAt, nextAt, drop_cons s i h, blk, if_pos hb]; omega
theorem two_prefix {l : Bs} (h : [45, 45].isPrefixOf l = true) : ∃ r, l = 45 :: 45 :: r := by
  rw [List.isPrefixOf_iff_prefix] at h
  obtain ⟨r, hr⟩ := h
  exact ⟨r, hr.symm⟩
theorem next_comment (s : Bs) (i : Nat) (h : [45, 45].isPrefixOf (s.drop i) = true) : nextAt s (i + lineLen (s.drop i)) = nextAt s i ∧ 2 ≤ lineLen (s.drop i) := by
  obtain ⟨r, hr⟩ := two_prefix h
  have e0 : lineLen (45 :: 45 :: r) = lineLen (45 :: r) + 1 := rfl
  have e1 : lineLen (45 :: r) = lineLen r + 1 := rfl
  have e2 : blk false (45 :: 45 :: r) = blk true (45 :: r) + 1 := rfl
  have e3 := blk_line (45 :: r)
  refine ⟨?_, by rw [hr]; omega⟩
  rw [nextAt, nextAt, ← List.drop_drop, hr, e2, e3, e0, List.drop_succ_cons]; omega
theorem next_stop (s : Bs) (i : Nat) (h : i < s.length) (hb : isBlankC (s.getD i default) = false) (hc : [45, 45].isPrefixOf (s.drop i) = false) : nextAt s i = i := by
  rw [drop_cons s i h] at hc
  rw [nextAt, drop_cons s i h, blk, hb, if_neg (by simp), if_neg ?_]
  · rfl
  · intro hx
    rw [Bool.and_eq_true, beq_iff_eq] at hx
    rw [hx.1] at hc
    cases hd : s.drop (i + 1) with
    | nil => rw [hd] at hx; exact absurd hx.2 (by decide)
    | cons d r =>
      rw [hd] at hx hc
      simp only [List.head?_cons, beq_iff_eq, Option.some.injEq] at hx
      rw [hx.2] at hc
      exact absurd hc (by simp [List.isPrefixOf])

/-! ### The scanner -/
def scanRow (s : Bs) (i : Nat) : List AVal := [.v (.string (str s)), .v (.int .i64 (i : Int)), .v (.int .i64 (place s i).1), .v (.int .i64 (place s i).2)]
theorem scan_line {s : Bs} {i : Nat} (h : i < s.length) (hc : (((s.getD i default).toNat : Int) == 10) = true) : scanRow s (i + 1) = [.v (.string (str s)), .v (.int .i64 ((i : Int) + 1)), .v (.int .i64 ((place s i).1 + 1)), .v (.int .i64 1)] := by
  rw [show (10 : Int) = ((10 : UInt8).toNat : Int) from rfl, u8_int] at hc
  rw [scanRow, place_succ s i h, if_pos hc]; rfl
theorem scan_col {s : Bs} {i : Nat} (h : i < s.length) (hc : (((s.getD i default).toNat : Int) == 10) = false) : scanRow s (i + 1) = [.v (.string (str s)), .v (.int .i64 ((i : Int) + 1)), .v (.int .i64 (place s i).1), .v (.int .i64 ((place s i).2 + 1))] := by
  rw [show (10 : Int) = ((10 : UInt8).toNat : Int) from rfl, u8_int] at hc
  rw [scanRow, place_succ s i h, hc, if_neg (by simp)]; rfl
end Go.Proofs.YtbojpddejdmamaaGreatDoor
