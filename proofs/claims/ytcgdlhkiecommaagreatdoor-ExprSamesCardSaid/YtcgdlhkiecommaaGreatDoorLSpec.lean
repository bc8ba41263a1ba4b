/- Lexing in plain Lean: tokens, blanks, positions. -/
import Derived.Test.YtcgdlhkiecommaaGreatDoorEngStr
import Derived.Lib.IndexMore
import Derived.Lib.Fields
import Derived.Lib.Join
set_option linter.unusedVariables false
set_option linter.unusedSimpArgs false
namespace Go.Proofs.YtcgdlhkiecommaaGreatDoor
open Go
def wordsL : List Bs := [[112, 97, 99, 107, 97, 103, 101], [105, 115], [101, 110, 100], [109, 111, 100, 117, 108, 101], [103, 101, 110, 101, 114, 105, 99], [112, 111, 114, 116], [98, 101, 103, 105, 110], [105, 110], [111, 117, 116], [118, 101, 99], [97, 114, 114, 97, 121], [111, 102], [99, 111, 110, 115, 116], [116, 121, 112, 101], [115, 105, 103, 110, 97, 108], [118, 97, 114], [102, 117, 110, 99, 116, 105, 111, 110], [114, 101, 116, 117, 114, 110], [117, 115, 101], [112, 114, 111, 99, 101, 115, 115], [97, 108, 108], [105, 110, 115, 116], [102, 111, 114], [116, 111], [103, 101, 110, 101, 114, 97, 116, 101], [105, 102], [101, 108, 115, 101], [116, 114, 97, 110, 115, 112, 111, 114, 116], [97, 102, 116, 101, 114], [97, 115, 115, 101, 114, 116], [114, 101, 112, 111, 114, 116], [116, 104, 101, 110], [101, 108, 115, 105, 102], [99, 97, 115, 101], [119, 104, 101, 110], [111, 116, 104, 101, 114, 115], [108, 111, 111, 112], [119, 104, 105, 108, 101], [119, 97, 105, 116], [111, 110], [117, 110, 116, 105, 108], [110, 117, 108, 108], [97, 110, 100], [111, 114], [120, 111, 114], [110, 97, 110, 100], [110, 111, 114], [120, 110, 111, 114], [110, 111, 116], [109, 111, 100], [115, 104, 108], [115, 104, 114], [100, 111, 119, 110, 116, 111]]
def signsL : List Bs := [[58, 61], [60, 61], [61, 62], [62, 61], [47, 61], [61], [60], [62], [43], [45], [42], [47], [38], [40], [41], [58], [59], [44]]
def wordText : Bs := [32, 112, 97, 99, 107, 97, 103, 101, 32, 105, 115, 32, 101, 110, 100, 32, 109, 111, 100, 117, 108, 101, 32, 103, 101, 110, 101, 114, 105, 99, 32, 112, 111, 114, 116, 32, 98, 101, 103, 105, 110, 32, 105, 110, 32, 111, 117, 116, 32, 118, 101, 99, 32, 97, 114, 114, 97, 121, 32, 111, 102, 32, 99, 111, 110, 115, 116, 32, 116, 121, 112, 101, 32, 115, 105, 103, 110, 97, 108, 32, 118, 97, 114, 32, 102, 117, 110, 99, 116, 105, 111, 110, 32, 114, 101, 116, 117, 114, 110, 32, 117, 115, 101, 32, 112, 114, 111, 99, 101, 115, 115, 32, 97, 108, 108, 32, 105, 110, 115, 116, 32, 102, 111, 114, 32, 116, 111, 32, 103, 101, 110, 101, 114, 97, 116, 101, 32, 105, 102, 32, 101, 108, 115, 101, 32, 116, 114, 97, 110, 115, 112, 111, 114, 116, 32, 97, 102, 116, 101, 114, 32, 97, 115, 115, 101, 114, 116, 32, 114, 101, 112, 111, 114, 116, 32, 116, 104, 101, 110, 32, 101, 108, 115, 105, 102, 32, 99, 97, 115, 101, 32, 119, 104, 101, 110, 32, 111, 116, 104, 101, 114, 115, 32, 108, 111, 111, 112, 32, 119, 104, 105, 108, 101, 32, 119, 97, 105, 116, 32, 111, 110, 32, 117, 110, 116, 105, 108, 32, 110, 117, 108, 108, 32, 97, 110, 100, 32, 111, 114, 32, 120, 111, 114, 32, 110, 97, 110, 100, 32, 110, 111, 114, 32, 120, 110, 111, 114, 32, 110, 111, 116, 32, 109, 111, 100, 32, 115, 104, 108, 32, 115, 104, 114, 32, 100, 111, 119, 110, 116, 111, 32]
def signText : Bs := [58, 61, 32, 60, 61, 32, 61, 62, 32, 62, 61, 32, 47, 61, 32, 61, 32, 60, 32, 62, 32, 43, 32, 45, 32, 42, 32, 47, 32, 38, 32, 40, 32, 41, 32, 58, 32, 59, 32, 44]
def isLetterC (c : UInt8) : Bool := (decide ((c.toNat : Int) ≥ 97) && decide ((c.toNat : Int) ≤ 122)) || (decide ((c.toNat : Int) ≥ 65) && decide ((c.toNat : Int) ≤ 90))
def isDigitC (c : UInt8) : Bool := decide ((c.toNat : Int) ≥ 48) && decide ((c.toNat : Int) ≤ 57)
def isPartC (c : UInt8) : Bool := (isLetterC c || isDigitC c) || ((c.toNat : Int) == 95)
def isBlankC (c : UInt8) : Bool := c == 32 || (c == 9 || (c == 13 || c == 10))
def isBitC (c : UInt8) : Bool := c == 48 || (c == 49 || (c == 120 || c == 122))
def isPlainC (c : UInt8) : Bool := (decide ((c.toNat : Int) ≥ 32) && decide ((c.toNat : Int) ≤ 126)) && !((c.toNat : Int) == 34)
def isWordL (s : Bs) : Bool := wordsL.contains s
def isNameL (s : Bs) : Bool := !s.isEmpty && (decide (s.length ≤ 40) && (isLetterC (s.getD 0 default) && (s.all isPartC && !isWordL s)))
def isVecL (s : Bs) : Bool := !s.isEmpty && (decide (s.length ≤ 64) && s.all isBitC)
def isTextL (s : Bs) : Bool := decide (s.length ≤ 60) && s.all isPlainC
def decV (w : Bs) : Nat := w.foldl (fun n c => 10 * n + (c.toNat - 48)) 0
def quotedOK (s : Bs) : Bool := s.head? == some 34 && s.tail.contains 34
def quotedT (s : Bs) : Bs := s.tail.takeWhile (· != 34)
/-- The token at the beginning: kind, text, number, length. -/
def tok (s : Bs) : Option (Int × Bs × Int × Nat) :=
  if [98, 34].isPrefixOf s then
    if quotedOK s.tail && isVecL (quotedT s.tail) then some (5, quotedT s.tail, 0, (quotedT s.tail).length + 3) else none
  else if isLetterC (s.getD 0 default) then
    if isWordL (s.takeWhile isPartC) then some (2, s.takeWhile isPartC, 0, (s.takeWhile isPartC).length)
    else if isNameL (s.takeWhile isPartC) then some (1, s.takeWhile isPartC, 0, (s.takeWhile isPartC).length) else none
  else if isDigitC (s.getD 0 default) then
    if (s.takeWhile isPartC).all isDigitC && decide (decV (s.takeWhile isPartC) ≤ 2147483647) then some (3, [], (decV (s.takeWhile isPartC) : Nat), (s.takeWhile isPartC).length) else none
  else if s.getD 0 default == 39 then
    if decide (s.length > 2) && (s.getD 2 default == 39 && isBitC (s.getD 1 default)) then some (4, [s.getD 1 default], 0, 3) else none
  else if s.getD 0 default == 34 then
    if quotedOK s && isTextL (quotedT s) then some (6, quotedT s, 0, (quotedT s).length + 2) else none
  else match signsL.find? (fun x => x.isPrefixOf s) with
    | some x => some (7, x, 0, x.length)
    | none => none
/-- How many bytes of blanks and comments there are. -/
def blk : Bool → Bs → Nat
  | _, [] => 0
  | true, c :: r => blk (c != 10) r + 1
  | false, c :: r => if isBlankC c then blk false r + 1 else if c == 45 && r.head? == some 45 then blk true r + 1 else 0
/-- Line and column behind some bytes. -/
def adv (p : Int × Int) (s : Bs) : Int × Int := s.foldl (fun q c => if c == 10 then (q.1 + 1, 1) else (q.1, q.2 + 1)) p
structure Tk where
  op : Int
  text : Bs
  n : Int
  line : Int
  col : Int
deriving DecidableEq
instance : Inhabited Tk := ⟨⟨0, [], 0, 0, 0⟩⟩
structure Flt where
  code : Int
  name : Bs
  line : Int
  col : Int
deriving DecidableEq
def okF : Flt := ⟨0, [], 0, 0⟩
def lexF : Nat → Bs → Int × Int → List Tk × Flt
  | 0, _, _ => ([], okF)
  | f + 1, s, p =>
    if s.drop (blk false s) = [] then ([], okF) else
    match tok (s.drop (blk false s)) with
    | none => ([], ⟨10, (s.drop (blk false s)).take 1, (adv p (s.take (blk false s))).1, (adv p (s.take (blk false s))).2⟩)
    | some (op, t, n, m) =>
      (⟨op, t, n, (adv p (s.take (blk false s))).1, (adv p (s.take (blk false s))).2⟩ :: (lexF f ((s.drop (blk false s)).drop m) (adv (adv p (s.take (blk false s))) ((s.drop (blk false s)).take m))).1,
        (lexF f ((s.drop (blk false s)).drop m) (adv (adv p (s.take (blk false s))) ((s.drop (blk false s)).take m))).2)
theorem takeWhile_len (p : UInt8 → Bool) (s : Bs) : (s.takeWhile p).length ≤ s.length := (List.takeWhile_prefix p).length_le
theorem find_len {s : Bs} : ∀ {l : List Bs} {x : Bs}, l.find? (fun x => x.isPrefixOf s) = some x → x ∈ l ∧ x.isPrefixOf s = true := fun h => ⟨List.mem_of_find?_eq_some h, by simpa using List.find?_some h⟩
theorem isPrefixOf_len {x s : Bs} (h : x.isPrefixOf s = true) : x.length ≤ s.length := (List.isPrefixOf_iff_prefix.1 h).length_le
theorem quoted_len {s : Bs} (h : quotedOK s = true) : (quotedT s).length + 2 ≤ s.length := by
  rw [quotedOK, Bool.and_eq_true] at h
  obtain ⟨h1, h2⟩ := h
  cases s with
  | nil => simp at h1
  | cons c r =>
    simp only [List.tail_cons, List.contains_iff_mem] at h2
    simp only [quotedT, List.tail_cons, List.length_cons]
    have : (r.takeWhile (· != 34)).length < r.length := by
      clear h1
      induction r with
      | nil => simp at h2
      | cons d r ih =>
        rw [List.takeWhile_cons]
        cases hd : (d != 34) with
        | false => simp
        | true =>
          rcases List.mem_cons.1 h2 with e | e
          · subst e; simp at hd
          · have := ih e; simp; omega
    omega
/-- A token has a byte, and lies in the string. -/
theorem tok_len {s : Bs} {op : Int} {t : Bs} {n : Int} {m : Nat} (h : tok s = some (op, t, n, m)) : 1 ≤ m ∧ m ≤ s.length := by
  rw [tok] at h
  have hw := takeWhile_len isPartC s
  have hpart : ∀ c, isLetterC c = true → isPartC c = true := fun c hc => by rw [isPartC, hc]; rfl
  have hpart2 : ∀ c, isDigitC c = true → isPartC c = true := fun c hc => by rw [isPartC, hc]; simp
  have hw1 : s ≠ [] → isPartC (s.getD 0 default) = true → 1 ≤ (s.takeWhile isPartC).length := by
    intro hn hp
    cases s with
    | nil => exact absurd rfl hn
    | cons c r =>
      rw [List.takeWhile_cons, show isPartC c = true from hp]
      simp
  have hne : isLetterC (s.getD 0 default) = true ∨ isDigitC (s.getD 0 default) = true → s ≠ [] := by
    rintro h rfl
    revert h; decide
  split at h
  · rename_i h0
    split at h
    · rename_i h1
      rw [Bool.and_eq_true] at h1
      have := quoted_len h1.1
      cases h
      simp only [List.length_tail] at this
      omega
    · cases h
  · split at h
    · rename_i h1
      have := hw1 (hne (.inl h1)) (hpart _ h1)
      split at h
      · cases h; omega
      · split at h
        · cases h; omega
        · cases h
    · split at h
      · rename_i h1
        have := hw1 (hne (.inr h1)) (hpart2 _ h1)
        split at h
        · cases h; omega
        · cases h
      · split at h
        · split at h
          · rename_i h1
            rw [Bool.and_eq_true, decide_eq_true_eq] at h1
            cases h; omega
          · cases h
        · split at h
          · split at h
            · rename_i h1
              rw [Bool.and_eq_true] at h1
              have := quoted_len h1.1
              cases h; omega
            · cases h
          · split at h
            · rename_i x hx
              obtain ⟨h1, h2⟩ := find_len hx
              have h3 := isPrefixOf_len h2
              have h4 : ∀ y ∈ signsL, 1 ≤ y.length := by decide
              have := h4 _ h1
              cases h; omega
            · cases h
theorem lexF_fuel : ∀ (f g : Nat) (s : Bs) (p : Int × Int), s.length < f → s.length < g → lexF f s p = lexF g s p
  | 0, _, s, _, h, _ => by omega
  | _, 0, s, _, _, h => by omega
  | f + 1, g + 1, s, p, h1, h2 => by
    simp only [lexF]
    split
    · rfl
    · cases ht : tok (s.drop (blk false s)) with
      | none => rfl
      | some x =>
        obtain ⟨op, t, n, m⟩ := x
        obtain ⟨h3, h4⟩ := tok_len ht
        simp only
        rw [lexF_fuel f g _ _ (by simp only [List.length_drop] at h4 ⊢; omega) (by simp only [List.length_drop] at h4 ⊢; omega)]
theorem adv_app (p : Int × Int) (a b : Bs) : adv p (a ++ b) = adv (adv p a) b := by simp [adv, List.foldl_append]
/-- Line and column of a byte. -/
def place (s : Bs) (i : Nat) : Int × Int := adv (1, 1) (s.take i)
theorem place_zero (s : Bs) : place s 0 = (1, 1) := rfl
theorem take_cut (s : Bs) (i k : Nat) : s.take (i + k) = s.take i ++ (s.drop i).take k := List.take_add
theorem place_add (s : Bs) (i k : Nat) : place s (i + k) = adv (place s i) ((s.drop i).take k) := by rw [place, take_cut, adv_app]; rfl
theorem take_snoc (s : Bs) (i : Nat) (h : i < s.length) : s.take (i + 1) = s.take i ++ [s.getD i default] := by
  rw [take_cut]
  congr 1
  rw [List.getD_eq_getElem?_getD, List.getElem?_eq_getElem h, List.drop_eq_getElem_cons h]
  rfl
theorem place_succ (s : Bs) (i : Nat) (h : i < s.length) : place s (i + 1) = if s.getD i default == 10 then ((place s i).1 + 1, 1) else ((place s i).1, (place s i).2 + 1) := by
  rw [place, take_snoc s i h, adv_app]
  simp only [adv, List.foldl_cons, List.foldl_nil]
  rfl
theorem place_ge (s : Bs) (i : Nat) : 1 ≤ (place s i).1 ∧ 1 ≤ (place s i).2 ∧ (place s i).1 ≤ (i : Int) + 1 ∧ (place s i).2 ≤ (i : Int) + 1 := by
  induction i with
  | zero => simp [place_zero]
  | succ i ih =>
    by_cases h : i < s.length
    · rw [place_succ s i h]
      split
      · simp only; omega
      · simp only; omega
    · have : place s (i + 1) = place s i := by rw [place, place, List.take_of_length_le (by omega), List.take_of_length_le (by omega)]
      rw [this]; omega
/-- What is lexed from a byte on. -/
def lexFrom (s : Bs) (i : Nat) : List Tk × Flt := lexF (s.length + 1) (s.drop i) (place s i)
def lex (s : Bs) : List Tk × Flt := lexFrom s 0
/-- The next byte that is neither a blank nor in a comment. -/
def nextAt (s : Bs) (i : Nat) : Nat := i + blk false (s.drop i)
theorem blk_le : ∀ (b : Bool) (s : Bs), blk b s ≤ s.length
  | _, [] => by simp [blk]
  | true, c :: r => by simp only [blk, List.length_cons]; have := blk_le (c != 10) r; omega
  | false, c :: r => by
    simp only [blk, List.length_cons]
    split
    · have := blk_le false r; omega
    · split
      · have := blk_le true r; omega
      · omega
theorem nextAt_le (s : Bs) (i : Nat) (h : i ≤ s.length) : i ≤ nextAt s i ∧ nextAt s i ≤ s.length := by
  have := blk_le false (s.drop i)
  simp only [List.length_drop] at this
  rw [nextAt]; omega
theorem lexFrom_end (s : Bs) (i : Nat) (h : i ≤ s.length) (he : ¬ nextAt s i < s.length) : lexFrom s i = ([], okF) := by
  rw [lexFrom, lexF]
  have e : (s.drop i).drop (blk false (s.drop i)) = [] := by
    rw [List.drop_drop, List.drop_eq_nil_iff]
    rw [nextAt] at he; omega
  rw [if_pos e]
theorem lexFrom_none (s : Bs) (i : Nat) (h : i ≤ s.length) (he : nextAt s i < s.length) (ht : tok (s.drop (nextAt s i)) = none) :
    lexFrom s i = ([], ⟨10, (s.drop (nextAt s i)).take 1, (place s (nextAt s i)).1, (place s (nextAt s i)).2⟩) := by
  rw [lexFrom, lexF]
  have e : (s.drop i).drop (blk false (s.drop i)) = s.drop (nextAt s i) := by rw [List.drop_drop]; rfl
  rw [e, if_neg (by rw [List.drop_eq_nil_iff]; omega), ht, nextAt, place_add]
theorem lexFrom_some (s : Bs) (i : Nat) (h : i ≤ s.length) (he : nextAt s i < s.length) {op : Int} {t : Bs} {n : Int} {m : Nat} (ht : tok (s.drop (nextAt s i)) = some (op, t, n, m)) :
    lexFrom s i = (⟨op, t, n, (place s (nextAt s i)).1, (place s (nextAt s i)).2⟩ :: (lexFrom s (nextAt s i + m)).1, (lexFrom s (nextAt s i + m)).2) := by
  obtain ⟨h1, h2⟩ := tok_len ht
  rw [List.length_drop] at h2
  have e : (s.drop i).drop (blk false (s.drop i)) = s.drop (nextAt s i) := by rw [List.drop_drop]; rfl
  have e2 : lexF s.length ((s.drop (nextAt s i)).drop m) (adv (place s (nextAt s i)) ((s.drop (nextAt s i)).take m)) = lexFrom s (nextAt s i + m) := by
    rw [lexFrom, place_add s (nextAt s i) m, List.drop_drop]
    exact lexF_fuel _ _ _ _ (by simp only [List.length_drop]; omega) (by simp only [List.length_drop]; omega)
  rw [← e2]
  conv => lhs; rw [lexFrom, lexF]
  rw [e, if_neg (by rw [List.drop_eq_nil_iff]; omega), ht]
  simp only [nextAt, place_add]
theorem lexF_skip (f : Nat) (s : Bs) (p : Int × Int) (k : Nat) (hk : blk false s = k) (h0 : blk false (s.drop k) = 0) : lexF f (s.drop k) (adv p (s.take k)) = lexF f s p := by
  cases f with
  | zero => rfl
  | succ f =>
    simp only [lexF]
    rw [hk, h0, List.drop_zero, List.take_zero]
    rfl
end Go.Proofs.YtcgdlhkiecommaaGreatDoor
