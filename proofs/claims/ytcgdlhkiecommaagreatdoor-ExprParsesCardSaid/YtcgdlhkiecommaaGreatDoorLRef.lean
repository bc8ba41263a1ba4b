import Derived.Test.YtcgdlhkiecommaaGreatDoorEngStr
import Derived.Lib.IndexMore
import Derived.Lib.Fields
import Derived.Lib.Join
import Derived.Lib.IndexLaws
import Derived.Lib.IndexBytes
import Derived.Test.YtcgdlhkiecommaaGreatDoorShelf
import Derived.Test.YtcgdlhkiecommaaGreatDoorFacts
import Derived.Lib.ParseIntB
/- Lexing in plain Lean: tokens, blanks, positions. -/




set_option linter.unusedVariables false
set_option linter.unusedSimpArgs false
namespace Go.Proofs.YtcgdlhkiecommaaGreatDoor
open Go
def wordsL : List Bs := [[112, 97, 99, 107, 97, 103, 101], [105, 115], [101, 110, 100], [109, 111, 100, 117, 108, 101], [103, 101, 110, 101, 114, 105, 99], [112, 111, 114, 116], [98, 101, 103, 105, 110], [105, 110], [111, 117, 116], [118, 101, 99], [97, 114, 114, 97, 121], [111, 102], [99, 111, 110, 115, 116], [116, 121, 112, 101], [115, 105, 103, 110, 97, 108], [118, 97, 114], [102, 117, 110, 99, 116, 105, 111, 110], [114, 101, 116, 117, 114, 110], [117, 115, 101], [112, 114, 111, 99, 101, 115, 115], [97, 108, 108], [105, 110, 115, 116], [102, 111, 114], [116, 111], [103, 101, 110, 101, 114, 97, 116, 101], [105, 102], [101, 108, 115, 101], [116, 114, 97, 110, 115, 112, 111, 114, 116], [97, 102, 116, 101, 114], [97, 115, 115, 101, 114, 116], [114, 101, 112, 111, 114, 116], [116, 104, 101, 110], [101, 108, 115, 105, 102], [99, 97, 115, 101], [119, 104, 101, 110], [111, 116, 104, 101, 114, 115], [108, 111, 111, 112], [119, 104, 105, 108, 101], [119, 97, 105, 116], [111, 110], [117, 110, 116, 105, 108], [110, 117, 108, 108], [97, 110, 100], [111, 114], [120, 111, 114], [110, 97, 110, 100], [110, 111, 114], [120, 110, 111, 114], [110, 111, 116], [109, 111, 100], [115, 104, 108], [115, 104, 114], [100, 111, 119, 110, 116, 111]]
def signsL : List Bs := [[58, 61], [60, 61], [61, 62], [62, 61], [47, 61], [61], [60], [62], [43], [45], [42], [47], [38], [40], [41], [58], [59], [44]]
def wordText : Bs := [32, 112, 97, 99, 107, 97, 103, 101, 32, 105, 115, 32, 101, 110, 100, 32, 109, 111, 100, 117, 108, 101, 32, 103, 101, 110, 101, 114, 105, 99, 32, 112, 111, 114, 116, 32, 98, 101, 103, 105, 110, 32, 105, 110, 32, 111, 117, 116, 32, 118, 101, 99, 32, 97, 114, 114, 97, 121, 32, 111, 102, 32, 99, 111, 110, 115, 116, 32, 116, 121, 112, 101, 32, 115, 105, 103, 110, 97, 108, 32, 118, 97, 114, 32, 102, 117, 110, 99, 116, 105, 111, 110, 32, 114, 101, 116, 117, 114, 110, 32, 117, 115, 101, 32, 112, 114, 111, 99, 101, 115, 115, 32, 97, 108, 108, 32, 105, 110, 115, 116, 32, 102, 111, 114, 32, 116, 111, 32, 103, 101, 110, 101, 114, 97, 116, 101, 32, 105, 102, 32, 101, 108, 115, 101, 32, 116, 114, 97, 110, 115, 112, 111, 114, 116, 32, 97, 102, 116, 101, 114, 32, 97, 115, 115, 101, 114, 116, 32, 114, 101, 112, 111, 114, 116, 32, 116, 104, 101, 110, 32, 101, 108, 115, 105, 102, 32, 99, 97, 115, 101, 32, 119, 104, 101, 110, 32, 111, 116, 104, 101, 114, 115, 32, 108, 111, 111, 112, 32, 119, 104, 105, 108, 101, 32, 119, 97, 105, 116, 32, 111, 110, 32, 117, 110, 116, 105, 108, 32, 110, 117, 108, 108, 32, 97, 110, 100, 32, 111, 114, 32, 120, 111, 114, 32, 110, 97, 110, 100, 32, 110, 111, 114, 32, 120, 110, 111, 114, 32, 110, 111, 116, 32, 109, 111, 100, 32, 115, 104, 108, 32, 115, 104, 114, 32, 100, 111, 119, 110, 116, 111, 32]
def signText : Bs := [58, 61, 32, 60, 61, 32, 61, 62, 32, 62, 61, 32, 47, 61, 32, 61, 32, 60, 32, 62, 32, 43, 32, 45, 32, 42, 32, 47, 32, 38, 32, 40, 32, 41, 32, 58, 32, 59, 32, 44]
def isLetterC (c : UInt8) : Bool := (decide ((c.toNat : Int) ≥ 97) && decide ((c.toNat : Int) ≤ 122)) || (decide ((c.toNat : Int) ≥ 65) && decide ((c.toNat : Int) ≤ 90))
def isDigitC (c : UInt8) : Bool := decide ((c.toNat : Int) ≥ 48) && decide ((c.toNat : Int) ≤ 57)
def isPartC (c : UInt8) : Bool := (isLetterC c || isDigitC c) || ((c.toNat : Int) == 95)
def isBlankC (c : UInt8) : Bool := c == 32 || (c == 9 || (c == 13 || c == 10))
def isBitC (c : UInt8) : Bool := c == 48 || (c == 49 || (c == 120 || c == 122))
def isPlainC (c : UInt8) : Bool := (decide ((c.toNat : Int) ≥ 32) && decide ((c.toNat : Int) ≤ 126)) && !((c.toNat : Int) == 34)
def isWordL (s : Bs) : Bool := wordsL.contains s
def isNameL (s : Bs) : Bool := !s.isEmpty && (decide (s.length ≤ 40) && (isLetterC (s.getD 0 default) && (s.all isPartC && !isWordL s)))
def isVecL (s : Bs) : Bool := !s.isEmpty && (decide (s.length ≤ 64) && s.all isBitC)
def isTextL (s : Bs) : Bool := decide (s.length ≤ 60) && s.all isPlainC
def decV (w : Bs) : Nat := w.foldl (fun n c => 10 * n + (c.toNat - 48)) 0
def quotedOK (s : Bs) : Bool := s.head? == some 34 && s.tail.contains 34
def quotedT (s : Bs) : Bs := s.tail.takeWhile (· != 34)
def tok (s : Bs) : Option (Int × Bs × Int × Nat) :=
  if [98, 34].isPrefixOf s then
    if quotedOK s.tail && isVecL (quotedT s.tail) then some (5, quotedT s.tail, 0, (quotedT s.tail).length + 3) else none
  else if isLetterC (s.getD 0 default) then
    if isWordL (s.takeWhile isPartC) then some (2, s.takeWhile isPartC, 0, (s.takeWhile isPartC).length)
    else if isNameL (s.takeWhile isPartC) then some (1, s.takeWhile isPartC, 0, (s.takeWhile isPartC).length) else none
  else if isDigitC (s.getD 0 default) then
    if (s.takeWhile isPartC).all isDigitC && decide (decV (s.takeWhile isPartC) ≤ 2147483647) then some (3, [], (decV (s.takeWhile isPartC) : Nat), (s.takeWhile isPartC).length) else none
  else if s.getD 0 default == 39 then
    if decide (s.length > 2) && (s.getD 2 default == 39 && isBitC (s.getD 1 default)) then some (4, [s.getD 1 default], 0, 3) else none
  else if s.getD 0 default == 34 then
    if quotedOK s && isTextL (quotedT s) then some (6, quotedT s, 0, (quotedT s).length + 2) else none
  else match signsL.find? (fun x => x.isPrefixOf s) with
    | some x => some (7, x, 0, x.length)
    | none => none
def blk : Bool → Bs → Nat
  | _, [] => 0
  | true, c :: r => blk (c != 10) r + 1
  | false, c :: r => if isBlankC c then blk false r + 1 else if c == 45 && r.head? == some 45 then blk true r + 1 else 0
def adv (p : Int × Int) (s : Bs) : Int × Int := s.foldl (fun q c => if c == 10 then (q.1 + 1, 1) else (q.1, q.2 + 1)) p
structure Tk where
  op : Int
  text : Bs
  n : Int
  line : Int
  col : Int
deriving DecidableEq
instance : Inhabited Tk := ⟨⟨0, [], 0, 0, 0⟩⟩
structure Flt where
  code : Int
  name : Bs
  line : Int
  col : Int
deriving DecidableEq
def okF : Flt := ⟨0, [], 0, 0⟩
def lexF : Nat → Bs → Int × Int → List Tk × Flt
  | 0, _, _ => ([], okF)
  | f + 1, s, p =>
    if s.drop (blk false s) = [] then ([], okF) else
    match tok (s.drop (blk false s)) with
    | none => ([], ⟨10, (s.drop (blk false s)).take 1, (adv p (s.take (blk false s))).1, (adv p (s.take (blk false s))).2⟩)
    | some (op, t, n, m) =>
      (⟨op, t, n, (adv p (s.take (blk false s))).1, (adv p (s.take (blk false s))).2⟩ :: (lexF f ((s.drop (blk false s)).drop m) (adv (adv p (s.take (blk false s))) ((s.drop (blk false s)).take m))).1,
        (lexF f ((s.drop (blk false s)).drop m) (adv (adv p (s.take (blk false s))) ((s.drop (blk false s)).take m))).2)
theorem takeWhile_len (p : UInt8 → Bool) (s : Bs) : (s.takeWhile p).length ≤ s.length := (List.takeWhile_prefix p).length_le
theorem find_len {s : Bs} : ∀ {l : List Bs} {x : Bs}, l.find? (fun x => x.isPrefixOf s) = some x → x ∈ l ∧ x.isPrefixOf s = true := fun h => ⟨List.mem_of_find?_eq_some h, by simpa using List.find?_some h⟩
theorem isPrefixOf_len {x s : Bs} (h : x.isPrefixOf s = true) : x.length ≤ s.length := (List.isPrefixOf_iff_prefix.1 h).length_le
theorem quoted_len {s : Bs} (h : quotedOK s = true) : (quotedT s).length + 2 ≤ s.length := by
  rw [quotedOK, Bool.and_eq_true] at h
  obtain ⟨h1, h2⟩ := h
  cases s with
  | nil => simp at h1
  | cons c r =>
    simp only [List.tail_cons, List.contains_iff_mem] at h2
    simp only [quotedT, List.tail_cons, List.length_cons]
    have : (r.takeWhile (· != 34)).length < r.length := by
      clear h1
      induction r with
      | nil => simp at h2
      | cons d r ih =>
        rw [List.takeWhile_cons]
        cases hd : (d != 34) with
        | false => simp
        | true =>
          rcases List.mem_cons.1 h2 with e | e
          · subst e; simp at hd
          · have := ih e; simp; omega
    omega
theorem tok_len {s : Bs} {op : Int} {t : Bs} {n : Int} {m : Nat} (h : tok s = some (op, t, n, m)) : 1 ≤ m ∧ m ≤ s.length := by
  rw [tok] at h
  have hw := takeWhile_len isPartC s
  have hpart : ∀ c, isLetterC c = true → isPartC c = true := fun c hc => by rw [isPartC, hc]; rfl
  have hpart2 : ∀ c, isDigitC c = true → isPartC c = true := fun c hc => by rw [isPartC, hc]; simp
  have hw1 : s ≠ [] → isPartC (s.getD 0 default) = true → 1 ≤ (s.takeWhile isPartC).length := by
    intro hn hp
    cases s with
    | nil => exact absurd rfl hn
    | cons c r =>
      rw [List.takeWhile_cons, show isPartC c = true from hp]
      simp
  have hne : isLetterC (s.getD 0 default) = true ∨ isDigitC (s.getD 0 default) = true → s ≠ [] := by
    rintro h rfl
    revert h; decide
  split at h
  · rename_i h0
    split at h
    · rename_i h1
      rw [Bool.and_eq_true] at h1
      have := quoted_len h1.1
      cases h
      simp only [List.length_tail] at this
      omega
    · cases h
  · split at h
    · rename_i h1
      have := hw1 (hne (.inl h1)) (hpart _ h1)
      split at h
      · cases h; omega
      · split at h
        · cases h; omega
        · cases h
    · split at h
      · rename_i h1
        have := hw1 (hne (.inr h1)) (hpart2 _ h1)
        split at h
        · cases h; omega
        · cases h
      · split at h
        · split at h
          · rename_i h1
            rw [Bool.and_eq_true, decide_eq_true_eq] at h1
            cases h; omega
          · cases h
        · split at h
          · split at h
            · rename_i h1
              rw [Bool.and_eq_true] at h1
              have := quoted_len h1.1
              cases h; omega
            · cases h
          · split at h
            · rename_i x hx
              obtain ⟨h1, h2⟩ := find_len hx
              have h3 := isPrefixOf_len h2
              have h4 : ∀ y ∈ signsL, 1 ≤ y.length := by decide
              have := h4 _ h1
              cases h; omega
            · cases h
theorem lexF_fuel : ∀ (f g : Nat) (s : Bs) (p : Int × Int), s.length < f → s.length < g → lexF f s p = lexF g s p
  | 0, _, s, _, h, _ => by omega
  | _, 0, s, _, _, h => by omega
  | f + 1, g + 1, s, p, h1, h2 => by
    simp only [lexF]
    split
    · rfl
    · cases ht : tok (s.drop (blk false s)) with
      | none => rfl
      | some x =>
        obtain ⟨op, t, n, m⟩ := x
        obtain ⟨h3, h4⟩ := tok_len ht
        simp only
        rw [lexF_fuel f g _ _ (by simp only [List.length_drop] at h4 ⊢; omega) (by simp only [List.length_drop] at h4 ⊢; omega)]
theorem adv_app (p : Int × Int) (a b : Bs) : adv p (a ++ b) = adv (adv p a) b := by simp [adv, List.foldl_append]
def place (s : Bs) (i : Nat) : Int × Int := adv (1, 1) (s.take i)
theorem place_zero (s : Bs) : place s 0 = (1, 1) := rfl
theorem take_cut (s : Bs) (i k : Nat) : s.take (i + k) = s.take i ++ (s.drop i).take k := List.take_add
theorem place_add (s : Bs) (i k : Nat) : place s (i + k) = adv (place s i) ((s.drop i).take k) := by rw [place, take_cut, adv_app]; rfl
theorem take_snoc (s : Bs) (i : Nat) (h : i < s.length) : s.take (i + 1) = s.take i ++ [s.getD i default] := by
  rw [take_cut]
  congr 1
  rw [List.getD_eq_getElem?_getD, List.getElem?_eq_getElem h, List.drop_eq_getElem_cons h]
  rfl
theorem place_succ (s : Bs) (i : Nat) (h : i < s.length) : place s (i + 1) = if s.getD i default == 10 then ((place s i).1 + 1, 1) else ((place s i).1, (place s i).2 + 1) := by
  rw [place, take_snoc s i h, adv_app]
  simp only [adv, List.foldl_cons, List.foldl_nil]
  rfl
theorem place_ge (s : Bs) (i : Nat) : 1 ≤ (place s i).1 ∧ 1 ≤ (place s i).2 ∧ (place s i).1 ≤ (i : Int) + 1 ∧ (place s i).2 ≤ (i : Int) + 1 := by
  induction i with
  | zero => simp [place_zero]
  | succ i ih =>
    by_cases h : i < s.length
    · rw [place_succ s i h]
      split
      · simp only; omega
      · simp only; omega
    · have : place s (i + 1) = place s i := by rw [place, place, List.take_of_length_le (by omega), List.take_of_length_le (by omega)]
      rw [this]; omega
def lexFrom (s : Bs) (i : Nat) : List Tk × Flt := lexF (s.length + 1) (s.drop i) (place s i)
def lex (s : Bs) : List Tk × Flt := lexFrom s 0
def nextAt (s : Bs) (i : Nat) : Nat := i + blk false (s.drop i)
theorem blk_le : ∀ (b : Bool) (s : Bs), blk b s ≤ s.length
  | _, [] => by simp [blk]
  | true, c :: r => by simp only [blk, List.length_cons]; have := blk_le (c != 10) r; omega
  | false, c :: r => by
    simp only [blk, List.length_cons]
    split
    · have := blk_le false r; omega
    · split
      · have := blk_le true r; omega
      · omega
theorem nextAt_le (s : Bs) (i : Nat) (h : i ≤ s.length) : i ≤ nextAt s i ∧ nextAt s i ≤ s.length := by
  have := blk_le false (s.drop i)
  simp only [List.length_drop] at this
  rw [nextAt]; omega
theorem lexFrom_end (s : Bs) (i : Nat) (h : i ≤ s.length) (he : ¬ nextAt s i < s.length) : lexFrom s i = ([], okF) := by
  rw [lexFrom, lexF]
  have e : (s.drop i).drop (blk false (s.drop i)) = [] := by
    rw [List.drop_drop, List.drop_eq_nil_iff]
    rw [nextAt] at he; omega
  rw [if_pos e]
theorem lexFrom_none (s : Bs) (i : Nat) (h : i ≤ s.length) (he : nextAt s i < s.length) (ht : tok (s.drop (nextAt s i)) = none) :
    lexFrom s i = ([], ⟨10, (s.drop (nextAt s i)).take 1, (place s (nextAt s i)).1, (place s (nextAt s i)).2⟩) := by
  rw [lexFrom, lexF]
  have e : (s.drop i).drop (blk false (s.drop i)) = s.drop (nextAt s i) := by rw [List.drop_drop]; rfl
  rw [e, if_neg (by rw [List.drop_eq_nil_iff]; omega), ht, nextAt, place_add]
theorem lexFrom_some (s : Bs) (i : Nat) (h : i ≤ s.length) (he : nextAt s i < s.length) {op : Int} {t : Bs} {n : Int} {m : Nat} (ht : tok (s.drop (nextAt s i)) = some (op, t, n, m)) :
    lexFrom s i = (⟨op, t, n, (place s (nextAt s i)).1, (place s (nextAt s i)).2⟩ :: (lexFrom s (nextAt s i + m)).1, (lexFrom s (nextAt s i + m)).2) := by
  obtain ⟨h1, h2⟩ := tok_len ht
  rw [List.length_drop] at h2
  have e : (s.drop i).drop (blk false (s.drop i)) = s.drop (nextAt s i) := by rw [List.drop_drop]; rfl
  have e2 : lexF s.length ((s.drop (nextAt s i)).drop m) (adv (place s (nextAt s i)) ((s.drop (nextAt s i)).take m)) = lexFrom s (nextAt s i + m) := by
    rw [lexFrom, place_add s (nextAt s i) m, List.drop_drop]
    exact lexF_fuel _ _ _ _ (by simp only [List.length_drop]; omega) (by simp only [List.length_drop]; omega)
  rw [← e2]
  conv => lhs; rw [lexFrom, lexF]
  rw [e, if_neg (by rw [List.drop_eq_nil_iff]; omega), ht]
  simp only [nextAt, place_add]
theorem lexF_skip (f : Nat) (s : Bs) (p : Int × Int) (k : Nat) (hk : blk false s = k) (h0 : blk false (s.drop k) = 0) : lexF f (s.drop k) (adv p (s.take k)) = lexF f s p := by
  cases f with
  | zero => rfl
  | succ f =>
    simp only [lexF]
    rw [hk, h0, List.drop_zero, List.take_zero]
    rfl
end Go.Proofs.YtcgdlhkiecommaaGreatDoor
/- Names, words and runs of bytes in plain Lean. -/



namespace Go.Proofs.YtcgdlhkiecommaaGreatDoor
open Go
theorem u8_int (c d : UInt8) : ((c.toNat : Int) == (d.toNat : Int)) = (c == d) := by
  rw [Bool.eq_iff_iff, beq_iff_eq, beq_iff_eq]
  constructor
  · intro h; exact UInt8.toNat_inj.1 (by omega)
  · rintro rfl; rfl
theorem isBitC_int (c : UInt8) : ((((c.toNat : Int) == 48) || ((c.toNat : Int) == 49)) || ((c.toNat : Int) == 120) || ((c.toNat : Int) == 122)) = isBitC c := by
  rw [isBitC, show (48 : Int) = ((48 : UInt8).toNat : Int) from rfl, show (49 : Int) = ((49 : UInt8).toNat : Int) from rfl, show (120 : Int) = ((120 : UInt8).toNat : Int) from rfl, show (122 : Int) = ((122 : UInt8).toNat : Int) from rfl, u8_int, u8_int, u8_int, u8_int]
  simp only [Bool.or_assoc]
def ofK (c : UInt8) (k : Int) : Bool := bif k == 0 then isDigitC c else bif k == 1 then isPartC c else bif k == 2 then isBitC c else bif k == 3 then isPlainC c else ((c.toNat : Int) != 10)
theorem getD_drop {s : Bs} {i q : Nat} : (s.drop i).getD q default = s.getD (i + q) default := by
  rw [List.getD_eq_getElem?_getD, List.getElem?_drop, ← List.getD_eq_getElem?_getD]
theorem toNat_add2 (i j : Nat) : ((i : Int) + (j : Int)).toNat = i + j := by omega
theorem run_step {p : UInt8 → Bool} {s : Bs} {i : Nat} (h : ∀ k, k < i → p (s.getD k default) = true) (h1 : p (s.getD i default) = true) : ∀ k, k < i + 1 → p (s.getD k default) = true := by
  intro k hk
  rcases Nat.lt_or_eq_of_le (Nat.le_of_lt_succ hk) with e | e
  · exact h k e
  · subst e; exact h1
theorem run_take {p : UInt8 → Bool} : ∀ {s : Bs} {i : Nat}, (∀ k, k < i → p (s.getD k default) = true) → i ≤ s.length → (i = s.length ∨ p (s.getD i default) = false) → s.take i = s.takeWhile p
  | [], i, _, hi, _ => by
    have : i = 0 := by simpa using hi
    subst this; rfl
  | c :: s, 0, _, _, he => by
    rcases he with e | e
    · simp at e
    · rw [List.takeWhile_cons, show p c = false from e]; rfl
  | c :: s, i + 1, h, hi, he => by
    have h0 : p c = true := h 0 (Nat.zero_lt_succ _)
    rw [List.takeWhile_cons, h0, if_pos rfl, List.take_succ_cons]
    rw [run_take (s := s) (i := i) (fun k hk => h (k + 1) (by omega)) (by simpa using hi) (by rcases he with e | e; exact .inl (by simpa using e); exact .inr e)]
theorem run_take3 {p : UInt8 → Bool} {s : Bs} {i : Nat} (h : ∀ k, k < i → p (s.getD k default) = true) (hi : i ≤ s.length) (he : i = s.length ∨ p (s.getD i default) = false) : i = (s.takeWhile p).length := by
  rw [← run_take h hi he, List.length_take]; omega
theorem run_all {p : UInt8 → Bool} : ∀ {s : Bs}, decide ((s.takeWhile p).length = s.length) = s.all p
  | [] => rfl
  | c :: s => by
    rw [List.takeWhile_cons, List.all_cons]
    cases h : p c with
    | true => simp only [if_true, List.length_cons, Bool.true_and, ← run_all (s := s)]; simp
    | false => simp
theorem run_eq {p : UInt8 → Bool} : ∀ {s : Bs}, (s.takeWhile p == s) = s.all p
  | [] => rfl
  | c :: s => by
    rw [List.takeWhile_cons, List.all_cons]
    cases h : p c with
    | true =>
      simp only [if_true, Bool.true_and, ← run_eq (s := s)]
      rw [Bool.eq_iff_iff]; simp
    | false => simp [List.nil_beq_eq]
theorem lib_contains (s p : Bs) : Lib.contains s p = true ↔ ∃ a b, s = a ++ p ++ b := by
  rw [Lib.contains, decide_eq_true_eq]
  rcases Lib.index_spec s p with ⟨h1, h2⟩ | ⟨i, h1, h2, h3, _⟩
  · rw [h1]
    refine ⟨fun h => by omega, fun ⟨a, b, e⟩ => ?_⟩
    have := h2 a.length (by subst e; simp)
    rw [Lib.occAt] at this
    subst e
    rw [List.append_assoc, List.drop_left] at this
    have h4 : p.isPrefixOf (p ++ b) = true := List.isPrefixOf_iff_prefix.2 (List.prefix_append _ _)
    rw [h4] at this; cases this
  · rw [h1]
    refine ⟨fun _ => ?_, fun _ => by omega⟩
    rw [Lib.occAt, List.isPrefixOf_iff_prefix] at h3
    obtain ⟨b, hb⟩ := h3
    exact ⟨s.take i, b, by rw [List.append_assoc, hb, List.take_append_drop]⟩
theorem app_sp : ∀ {u v x y : Bs}, (32 : UInt8) ∉ u → (32 : UInt8) ∉ v → u ++ 32 :: x = v ++ 32 :: y → u = v
  | [], [], _, _, _, _, _ => rfl
  | [], d :: v, _, _, _, hv, h => by simp at h; exact absurd (by rw [h.1]; simp) hv
  | c :: u, [], _, _, hu, _, h => by simp at h; exact absurd (by rw [h.1]; simp) hu
  | c :: u, d :: v, _, _, hu, hv, h => by
    simp only [List.cons_append, List.cons.injEq] at h
    rw [h.1, app_sp (fun hm => hu (List.mem_cons_of_mem _ hm)) (fun hm => hv (List.mem_cons_of_mem _ hm)) h.2]
theorem app_sp2 : ∀ {w a x r : Bs}, (32 : UInt8) ∉ w → w ++ 32 :: x = a ++ 32 :: r → ∃ a2, a = w ++ a2 ∧ 32 :: x = a2 ++ 32 :: r
  | [], a, _, _, _, h => ⟨a, rfl, h⟩
  | c :: w, [], _, _, hw, h => by simp at h; exact absurd (by rw [h.1]; simp) hw
  | c :: w, d :: a, _, _, hw, h => by
    simp only [List.cons_append, List.cons.injEq] at h
    obtain ⟨a2, rfl, e⟩ := app_sp2 (fun hm => hw (List.mem_cons_of_mem _ hm)) h.2
    exact ⟨a2, by rw [h.1]; rfl, e⟩
theorem words_tail (ws : List Bs) : ∃ x, (ws.map (fun w => 32 :: w)).flatten ++ [32] = (32 : UInt8) :: x := by
  cases ws with
  | nil => exact ⟨[], rfl⟩
  | cons w ws => exact ⟨_, rfl⟩
theorem mem_words : ∀ {ws : List Bs}, (∀ w ∈ ws, (32 : UInt8) ∉ w) → ∀ {s : Bs}, (32 : UInt8) ∉ s → ((∃ a b, (ws.map (fun w => (32 : UInt8) :: w)).flatten ++ [32] = a ++ (32 :: (s ++ [32])) ++ b) ↔ s ∈ ws)
  | [], _, s, _ => by
    constructor
    · rintro ⟨a, b, h⟩
      have := congrArg List.length h
      simp at this
      omega
    · intro h; cases h
  | w :: ws, hw, s, hs => by
    have ih := mem_words (ws := ws) (fun x hx => hw x (List.mem_cons_of_mem _ hx)) hs
    have hw0 := hw w (by simp)
    obtain ⟨x, hx⟩ := words_tail ws
    constructor
    · rintro ⟨a, b, h⟩
      simp only [List.map_cons, List.flatten_cons, List.append_assoc, List.cons_append, hx] at h
      cases a with
      | nil =>
        simp only [List.nil_append, List.cons.injEq, true_and] at h
        rw [app_sp hs hw0 h.symm]; simp
      | cons d a =>
        simp only [List.cons_append, List.cons.injEq] at h
        obtain ⟨a2, rfl, e⟩ := app_sp2 hw0 h.2
        refine List.mem_cons_of_mem _ (ih.1 ⟨a2, b, ?_⟩)
        rw [hx, e]; simp
    · intro h
      rcases List.mem_cons.1 h with rfl | h
      · refine ⟨[], x, ?_⟩
        simp only [List.map_cons, List.flatten_cons, List.append_assoc, List.cons_append, hx]
        simp
      · obtain ⟨a, b, e⟩ := ih.2 h
        refine ⟨32 :: w ++ a, b, ?_⟩
        simp only [List.map_cons, List.flatten_cons, List.append_assoc, List.cons_append]
        simp only [List.append_assoc, List.cons_append] at e
        rw [e]
theorem wordText_eq : wordText = (wordsL.map (fun w => (32 : UInt8) :: w)).flatten ++ [32] := by decide +kernel
theorem words_no : ∀ w ∈ wordsL, (32 : UInt8) ∉ w := by decide +kernel
theorem words_ne : wordsL.contains [] = false := by decide +kernel
theorem isWord_prog (s : Bs) : ((!(s == []) && !(Lib.contains s [32])) && Lib.contains wordText (([32] ++ s) ++ [32])) = isWordL s := by
  rw [isWordL]
  by_cases h0 : s = []
  · subst h0; rw [words_ne]; rfl
  · by_cases h : (32 : UInt8) ∈ s
    · have h1 : Lib.contains s [32] = true := (lib_contains _ _).2 (by
        obtain ⟨a, b, e⟩ := List.append_of_mem h
        exact ⟨a, b, by rw [e]; simp⟩)
      have h2 : wordsL.contains s = false := by
        rw [Bool.eq_false_iff]
        intro hc
        exact words_no s (List.contains_iff_mem.1 hc) h
      rw [h1, h2]; simp
    · have h1 : Lib.contains s [32] = false := by
        rw [Bool.eq_false_iff]
        intro hc
        obtain ⟨a, b, e⟩ := (lib_contains _ _).1 hc
        exact h (by rw [e]; simp)
      have h2 : (s == []) = false := by simpa using h0
      rw [h1, h2, Bool.eq_iff_iff]
      simp only [Bool.not_false, Bool.true_and]
      rw [lib_contains, wordText_eq, List.contains_iff_mem, ← mem_words words_no h]
      simp
theorem str_pos {s : Bs} {b : Bool} (h : ((s == []) || b) = false) : 0 < s.length := by
  cases s with
  | nil => cases h
  | cons => simp
theorem isName_no {s : Bs} (h : ((((s == []) || decide ((s.length : Int) > 40)) || !isLetterC (s.getD 0 default)) || isWordL s) = true) : isNameL s = false := by
  rw [isNameL]
  cases s with
  | nil => rfl
  | cons c r =>
    simp only [Bool.or_eq_true, decide_eq_true_eq, Bool.not_eq_true'] at h
    rcases h with ((h | h) | h) | h
    · simp at h
    · have : decide ((c :: r).length ≤ 40) = false := decide_eq_false (by omega)
      rw [this]; simp
    · rw [h]; simp
    · rw [h]; simp
theorem isName_part {s : Bs} (i : Nat) (hi : i < s.length) (h : isPartC (s.getD i default) = false) : isNameL s = false := by
  have : s.all isPartC = false := by
    rw [List.all_eq_false]
    refine ⟨s[i], List.getElem_mem hi, ?_⟩
    rw [List.getD_eq_getElem?_getD, List.getElem?_eq_getElem hi] at h
    rw [show isPartC s[i] = false from h]; simp
  rw [isNameL, this]; simp
theorem all_of {p : UInt8 → Bool} {s : Bs} (h : ∀ k, k < s.length → p (s.getD k default) = true) : s.all p = true := by
  rw [List.all_eq_true]
  intro x hx
  obtain ⟨i, hi, rfl⟩ := List.getElem_of_mem hx
  have := h i hi
  rwa [List.getD_eq_getElem?_getD, List.getElem?_eq_getElem hi] at this
theorem isName_yes {s : Bs} (h : ((((s == []) || decide ((s.length : Int) > 40)) || !isLetterC (s.getD 0 default)) || isWordL s) = false) (ha : ∀ k, k < s.length → isPartC (s.getD k default) = true) : isNameL s = true := by
  simp only [Bool.or_eq_false_iff, decide_eq_false_iff_not, Bool.not_eq_false'] at h
  obtain ⟨⟨⟨h1, h2⟩, h3⟩, h4⟩ := h
  have e1 : s.isEmpty = false := by cases s with | nil => simp at h1 | cons => rfl
  rw [isNameL, all_of ha, h3, h4, e1, decide_eq_true (by omega)]; rfl
theorem ofK_1 : (fun c => ofK c 1) = isPartC := rfl
theorem ofK_2 : (fun c => ofK c 2) = isBitC := rfl
theorem ofK_3 : (fun c => ofK c 3) = isPlainC := rfl
theorem int_eq_nat (a b : Nat) : ((a : Int) == (b : Int)) = decide (a = b) := by
  rw [Bool.eq_iff_iff, beq_iff_eq, decide_eq_true_eq]; omega
theorem isName_ref (s : Bs) : ((((decide ((s.length : Int) ≥ 1) && decide ((s.length : Int) ≤ 40)) && isLetterC (s.getD 0 default)) && ((((s.drop 0).takeWhile (fun c => ofK c 1)).length : Int) == (s.length : Int))) && !isWordL s) = isNameL s := by
  rw [List.drop_zero, ofK_1, int_eq_nat, run_all, isNameL]
  cases s with
  | nil => rfl
  | cons c r =>
    have e1 : decide (((c :: r).length : Int) ≥ 1) = true := decide_eq_true (by simp only [List.length_cons]; omega)
    have e2 : decide (((c :: r).length : Int) ≤ 40) = decide ((c :: r).length ≤ 40) := by
      rw [Bool.eq_iff_iff, decide_eq_true_eq, decide_eq_true_eq]; omega
    rw [e1, e2]
    simp only [List.isEmpty_cons, Bool.not_false, Bool.true_and, Bool.and_assoc]
end Go.Proofs.YtcgdlhkiecommaaGreatDoor
/- The library's functions that chapter 3 calls, told as the engine tells calls. -/




namespace Go.Proofs.YtcgdlhkiecommaaGreatDoor
open Go Go.RowKit
def encBs (s : Bs) : List AVal := [.v (.string (str s))]
theorem glob_max {ok : Nat → Prop} {w : World} (h : GlobOK ok w) : ∃ m, w.cell? ⟨2, 0, none⟩ = some (.int .i64 m) := by
  obtain ⟨_, o, h1, cs, t, r, m, rfl, h2⟩ := h (2, intObj) (by simp [globs])
  exact ⟨m, by simp only [World.cell?, h1, h2]; rfl⟩
theorem glob_space {ok : Nat → Prop} {w : World} (h : GlobOK ok w) : Lib.TabIs Tryz.prog w "strings.asciiSpace" .u8 Lib.asciiSpaceTab := by
  obtain ⟨_, o, h1, t, r, rfl⟩ := h (0, tabObj .u8 Lib.asciiSpaceTab) (by simp [globs])
  have e : Tryz.prog.globalNamed "strings.asciiSpace" = some 0 := by kernel_rfl
  simp only [Lib.TabIs, World.var?, e, Option.bind_some, h1]
theorem glob_pow {ok : Nat → Prop} {w : World} (h : GlobOK ok w) : Lib.TabIs Tryz.prog w "internal/strconv.uint64pow10" .u64 Lib.pow10Tab := by
  obtain ⟨_, o, h1, t, r, rfl⟩ := h (3, tabObj .u64 Lib.pow10Tab) (by simp [globs])
  have e : Tryz.prog.globalNamed "internal/strconv.uint64pow10" = some 3 := by kernel_rfl
  simp only [Lib.TabIs, World.var?, e, Option.bind_some, h1]
theorem below_grow (w : World) (k : Nat) (os : Array Obj) : Below w.heap.size w (Go.Sort.grow (w.drewN k) os) :=
  ⟨rfl, rfl, rfl, by simp [Go.Sort.grow, World.drewN], fun i hi => by
    simp only [Go.Sort.grow, World.drewN]
    rw [Array.getElem?_append_left hi]⟩
theorem repc_v {ok : Nat → Prop} {w : World} {x v : Value} (h : RepC ok w (.v x) v) : v = x := by cases h; rfl
theorem q_indexByte (s : Bs) (c : UInt8) : ACp Tryz.prog 183 [.v (.string (str s)), .v (.int .u8 (c.toNat : Int))] (.v (.int .i64 (Lib.indexByte s c))) :=
  acp_below (vs := [.string (str s), .int .u8 (c.toNat : Int)]) rfl fun ok w hg => (shelf_strings_IndexByte (str s) c.toNat w).mono fun e w' ⟨h1, h2⟩ => by
    subst h2
    refine ⟨?_, Below.refl _ _⟩
    rw [h1]
    have e1 : ((c.toNat : Int)).toNat.toUInt8 = c := by simp
    rw [e1]; rfl
theorem q_contains (s p : Bs) (hs : s.length ≤ 4294967280) : ACp Tryz.prog 152 [.v (.string (str s)), .v (.string (str p))] (.v (.bool (Lib.contains s p))) :=
  acp_below (vs := [.string (str s), .string (str p)]) rfl fun ok w hg => by
    obtain ⟨m, hm⟩ := glob_max hg
    refine (shelf_strings_Contains (str s) (str p) m w (by rw [str_size]; omega) hm).mono fun e w' ⟨h1, h2⟩ => ?_
    subst h2; exact ⟨h1, Below.refl _ _⟩
theorem q_itoa (n : Int) (h0 : -9223372036854775808 ≤ n) (h1 : n ≤ 9223372036854775807) : ACp Tryz.prog 151 [.v (.int .i64 n)] (.v (.string (str (Lib.itoa n)))) :=
  acp_below (vs := [.int .i64 n]) rfl fun ok w hg => (shelf_strconv_Itoa n h0 h1 w (glob_pow hg)).mono fun e w' ⟨h1, k, os, h2⟩ => by
    subst h2; exact ⟨h1, below_grow w k os⟩
theorem acp_new {f : FuncId} {avs : List AVal} {a : AVal} (h : ∀ ok L w vs, All2 (Rep ok L w) avs vs → (∀ b, ok b → b < w.heap.size) → GlobOK ok w → Calls Tryz.prog f vs.toArray w fun e w' => ∃ v, e = .returned v ∧ Below w.heap.size w w' ∧ ∃ ok2 : Nat → Prop, (∀ b, ok2 b → w.heap.size ≤ b ∧ b < w'.heap.size) ∧ Rep (fun b => ok b ∨ ok2 b) L w' a v) : ACp Tryz.prog f avs a := by
  intro σ ok L w vs hs hvs
  refine (h ok L w vs hvs (fun b hb => (hs.okd b hb).1) hs.glob).mono ?_
  rintro e w' ⟨v, rfl, hb, ok2, h2, hr⟩
  obtain ⟨he, hs'⟩ := sim_below hs hb ok2 h2
  exact ⟨.ret a, σ, _, L, ⟨rfl, rfl⟩, he, hs', hr⟩
theorem strs_form {ok : Nat → Prop} {w : World} {l : List Bs} {v : Value} (h : RepC ok w (.list 1 (l.map encBs)) v) : ∃ a c, v = .slice a l.length c ∧ l.length ≤ c ∧ (l = [] ∨ ∃ b o, a = some ⟨b, o, none⟩ ∧ ok b ∧ ∀ (j : Nat) x, l[j]? = some x → w.cell? ⟨b, o + j, none⟩ = some (.string (str x))) := by
  obtain ⟨a, c, rfl, h1, h2⟩ := h.list_form
  refine ⟨a, c, by simp, by simpa using h1, ?_⟩
  rcases h2 with e | ⟨b, o, vs, rfl, hb, _, h3, h4, _⟩
  · exact .inl (by simpa using e)
  · refine .inr ⟨b, o, rfl, hb, fun j x hx => ?_⟩
    have hx2 : (l.map encBs)[j]? = some (encBs x) := by rw [List.getElem?_map, hx]; rfl
    have := h3 j _ 0 (.v (.string (str x))) hx2 rfl
    have h5 := h4 j _ 0 (.v (.string (str x))) hx2 rfl
    rw [repc_v h5] at this
    simpa using this
theorem list_strs {ok : Nat → Prop} {w : World} {l : List Bs} {b : Nat} {et : TypeId} (hb : ok b) (h : w.heap[b]? = some (.cells (l.map fun x => Value.string (str x)).toArray et (0, 0))) : RepC ok w (.list 1 (l.map encBs)) (.slice (some ⟨b, 0, none⟩) l.length l.length) := by
  have key := RepC.list (ok := ok) (w := w) 1 (l.map encBs) b 0 l.length (fun i _ => ((l[i]?).map fun x => Value.string (str x)).getD undef) hb (by simp) (fun e he => by obtain ⟨x, _, rfl⟩ := List.mem_map.1 he; rfl)
    (fun i e j av hi hj => by
      rw [List.getElem?_map, Option.map_eq_some_iff] at hi
      obtain ⟨x, hx, rfl⟩ := hi
      match j, hj with
      | 0, hj =>
        simp only [World.cell?, h, Nat.zero_add, Nat.mul_one, Nat.add_zero, hx, Option.map_some, Option.getD_some]
        simp [hx])
    (fun i e j av hi hj => by
      rw [List.getElem?_map, Option.map_eq_some_iff] at hi
      obtain ⟨x, hx, rfl⟩ := hi
      simp only [hx, Option.map_some, Option.getD_some]; rfl)
    (fun i e j av hi hj => by
      rw [List.getElem?_map, Option.map_eq_some_iff] at hi
      obtain ⟨x, hx, rfl⟩ := hi
      match j, hj with
      | 0, hj =>
        simp only [encBs, List.getElem?_cons_zero, Option.some.injEq] at hj
        subst hj
        simp only [hx, Option.map_some, Option.getD_some]
        exact RepC.v _)
  simpa using key
theorem fields_signs : Lib.fields signText = signsL := by decide +kernel
theorem q_fields : ACp Tryz.prog 155 [.v (.string (str signText))] (.list 1 (signsL.map encBs)) :=
  acp_new fun ok L w vs hvs _ hg => by
    match vs, hvs with
    | [v1], ⟨a1, _⟩ =>
      rw [rep_bool a1]
      have hasc : ∀ (j : Nat) (b : UInt8), (str signText).data.toList[j]? = some b → b.toNat < 128 := fun j b hb => by
        have : ∀ b ∈ signText, b.toNat < 128 := by decide +kernel
        exact this b (List.mem_of_getElem? hb)
      refine (shelf_strings_Fields (str signText) w (by decide +kernel) hasc (glob_space hg)).mono fun e w' ⟨h1, h2⟩ => ?_
      subst h2
      have e1 : (str signText).data.toList = signText := rfl
      rw [e1, fields_signs] at h1
      refine ⟨_, h1, Below.alloc (Below.refl _ _) (Nat.le_refl _) _, fun b => b = w.heap.size, fun b hb => ⟨Nat.le_of_eq hb.symm, by subst hb; simp⟩, ?_⟩
      rw [e1, fields_signs]
      exact list_strs (ok := fun b => ok b ∨ b = w.heap.size) (.inr rfl) (heap_alloc_new w _)
theorem q_member (l : List Bs) (x : Bs) (hl : l.length ≤ 1000000) : ACp Tryz.prog 61 [.list 1 (l.map encBs), .v (.string (str x))] (.v (.bool (l.contains x))) :=
  acp_new fun ok L w vs hvs _ hg => by
    match vs, hvs with
    | [v1, v2], ⟨a1, a2, _⟩ =>
      rw [rep_bool a2]
      obtain ⟨a, c, rfl, hc, h⟩ := strs_form (show RepC ok w _ v1 from a1)
      rcases h with rfl | ⟨b, o, rfl, hb, hcell⟩
      · refine (shelf_slices_Contains_string_empty a c (str x) w).mono fun e w' ⟨h1, h2⟩ => ?_
        subst h2
        exact ⟨_, h1, Below.refl _ _, fun _ => False, fun _ h => h.elim, RepC.v _⟩
      · refine (shelf_slices_Contains_string b o l.length c (l.map str) (str x) w (by simp) (by omega) (fun j hj => ?_)).mono fun e w' ⟨h1, h2⟩ => ?_
        · rw [List.length_map] at hj
          rw [hcell j l[j] (List.getElem?_eq_getElem hj), List.getD_eq_getElem?_getD, List.getElem?_map, List.getElem?_eq_getElem hj]
          rfl
        · subst h2
          refine ⟨_, h1, Below.refl _ _, fun _ => False, fun _ h => h.elim, ?_⟩
          have e : Lib.containsS ((l.map str).take l.length) (str x) = l.contains x := by
            rw [Bool.eq_iff_iff, Lib.containsS_iff, List.take_of_length_le (by simp), List.contains_iff_mem, List.mem_map]
            constructor
            · rintro ⟨y, hy, e⟩; rw [← str_inj e]; exact hy
            · intro h; exact ⟨x, h, rfl⟩
          rw [e]; exact RepC.v _
theorem join_map (l : List Bs) : (l.map str).map (fun s : ByteArray => s.data.toList) = l := by
  rw [List.map_map]; exact (List.map_congr_left (fun x _ => rfl)).trans (List.map_id l)
theorem q_join (l : List Bs) (p : Bs) (hl : l.length ≤ 1000000) (hj : (Lib.join l p).length ≤ 140737488355328) : ACp Tryz.prog 103 [.list 1 (l.map encBs), .v (.string (str p))] (.v (.string (str (Lib.join l p)))) :=
  acp_new fun ok L w vs hvs hok hg => by
    match vs, hvs with
    | [v1, v2], ⟨a1, a2, _⟩ =>
      rw [rep_bool a2]
      obtain ⟨a, c, rfl, hc, h⟩ := strs_form (show RepC ok w _ v1 from a1)
      rcases h with rfl | ⟨b, o, rfl, hb, hcell⟩
      · refine (shelf_strings_Join_none a c (str p) w).mono fun e w' ⟨h1, h2⟩ => ?_
        subst h2
        exact ⟨_, h1, Below.refl _ _, fun _ => False, fun _ h => h.elim, RepC.v _⟩
      · have hx := shelf_strings_Join b o c (l.map str) (str p) w (fun j x hx => by
          rw [List.getElem?_map, Option.map_eq_some_iff] at hx
          obtain ⟨y, hy, rfl⟩ := hx
          exact hcell j y hy) (hok b hb) (by simp; omega) (by simpa using hc) (by rw [join_map]; exact hj)
        rw [List.length_map] at hx
        refine hx.mono fun e w' ⟨h1, h2⟩ => ?_
        rw [join_map] at h1
        exact ⟨_, h1, h2, fun _ => False, fun _ h => h.elim, RepC.v _⟩
end Go.Proofs.YtcgdlhkiecommaaGreatDoor
/- Tokens in the words of the program: runs, quotes, numbers, places. -/

namespace Go.Proofs.YtcgdlhkiecommaaGreatDoor
open Go
theorem indexByte_eq (c : UInt8) : ∀ l : Bs, Lib.indexByte l c = if l.contains c then ((l.takeWhile (· != c)).length : Int) else -1
  | [] => rfl
  | b :: l => by
    rw [Lib.indexByte, indexByte_eq c l]
    by_cases h : b = c
    · subst h; simp
    · have h1 : (b == c) = false := by simpa using h
      have h2 : (b != c) = true := by simpa using h
      have h3 : (b :: l).contains c = l.contains c := by
        rw [List.contains_cons, show (c == b) = false from by simp only [beq_eq_false_iff_ne, ne_eq]; exact fun e => h e.symm, Bool.false_or]
      rw [h1, h3, List.takeWhile_cons, h2]
      cases hc : l.contains c with
      | true =>
        simp only [if_true, List.length_cons]
        have : ¬ (((l.takeWhile (· != c)).length : Int) = -1) := by omega
        rw [show ((((l.takeWhile (· != c)).length : Int) == -1) = false) from by simp]
        simp
      | false => simp
theorem isBlank_index (c : UInt8) : decide (Lib.indexByte [32, 9, 13, 10] c ≥ 0) = isBlankC c := by
  rw [indexByte_eq, Bool.eq_iff_iff, decide_eq_true_eq, isBlankC]
  split
  · rename_i h
    refine ⟨fun _ => ?_, fun _ => by omega⟩
    simpa [List.contains_cons, Bool.or_assoc] using h
  · rename_i h
    refine ⟨fun h2 => by omega, fun h2 => ?_⟩
    exact absurd (by simpa [List.contains_cons, Bool.or_assoc] using h2) h
theorem isBit_index (c : UInt8) : decide (Lib.indexByte [48, 49, 120, 122] c ≥ 0) = isBitC c := by
  rw [indexByte_eq, Bool.eq_iff_iff, decide_eq_true_eq, isBitC]
  split
  · rename_i h
    refine ⟨fun _ => ?_, fun _ => by omega⟩
    simpa [List.contains_cons, Bool.or_assoc] using h
  · rename_i h
    refine ⟨fun h2 => by omega, fun h2 => ?_⟩
    exact absurd (by simpa [List.contains_cons, Bool.or_assoc] using h2) h
theorem isText_prog (s : Bs) : (decide ((s.length : Int) ≤ 60) && (s.takeWhile isPlainC == s)) = isTextL s := by
  rw [run_eq, isTextL]
  congr 1
  rw [Bool.eq_iff_iff, decide_eq_true_eq, decide_eq_true_eq]; omega
def bitCode (c : UInt8) : Int := Lib.indexByte [48, 49, 120, 122] c
theorem bitCode_le (c : UInt8) : bitCode c ≤ 3 := by
  rw [bitCode, indexByte_eq]
  split
  · rename_i h
    have h2 := List.contains_iff_mem.1 h
    simp only [List.mem_cons, List.not_mem_nil, or_false] at h2
    rcases h2 with rfl | rfl | rfl | rfl <;> decide
  · omega
def parseBits (s : Bs) : List Int := bif isVecL s then (s.map bitCode).reverse else []
def mixR (s : Bs) (i : Nat) : List Int := List.replicate (s.length - i) 0 ++ ((s.take i).map bitCode).reverse
theorem mixR_length (s : Bs) (i : Nat) (h : i ≤ s.length) : (mixR s i).length = s.length := by
  simp [mixR]; omega
theorem mixR_zero (s : Bs) : mixR s 0 = List.replicate s.length 0 := by simp [mixR]
theorem mixR_all (s : Bs) : mixR s s.length = (s.map bitCode).reverse := by simp [mixR]
theorem mixR_step (s : Bs) (i : Nat) (h : i < s.length) : (mixR s i).set (s.length - 1 - i) (bitCode (s.getD i default)) = mixR s (i + 1) := by
  have e1 : s.length - i = (s.length - (i + 1)) + 1 := by omega
  have e2 : s.length - 1 - i = s.length - (i + 1) := by omega
  rw [mixR, mixR, e1, List.replicate_succ', e2, List.append_assoc, List.set_append_right _ _ (by simp), take_snoc s i h]
  simp
theorem isVec_no {s : Bs} (h : (decide ((s.length : Int) < 1) || decide ((s.length : Int) > 64)) = true) : isVecL s = false := by
  rw [isVecL]
  cases s with
  | nil => rfl
  | cons c r =>
    rw [Bool.or_eq_true, decide_eq_true_eq, decide_eq_true_eq] at h
    rw [decide_eq_false (show ¬ (c :: r).length ≤ 64 from by simp only [List.length_cons] at h ⊢; omega)]; rfl
theorem isVec_bad {s : Bs} (i : Nat) (hi : i < s.length) (h : Lib.indexByte [48, 49, 120, 122] (s.getD i default) < 0) : isVecL s = false := by
  have hb : isBitC (s.getD i default) = false := by rw [← isBit_index, decide_eq_false]; omega
  have : s.all isBitC = false := by
    rw [List.all_eq_false]
    refine ⟨s[i], List.getElem_mem hi, ?_⟩
    rw [List.getD_eq_getElem?_getD, List.getElem?_eq_getElem hi] at hb
    rw [show isBitC s[i] = false from hb]; simp
  rw [isVecL, this]; simp
theorem isVec_yes {s : Bs} (h : (decide ((s.length : Int) < 1) || decide ((s.length : Int) > 64)) = false) (ha : ∀ k, k < s.length → isBitC (s.getD k default) = true) : isVecL s = true := by
  rw [Bool.or_eq_false_iff, decide_eq_false_iff_not, decide_eq_false_iff_not] at h
  have e1 : s.isEmpty = false := by cases s with | nil => simp at h | cons => rfl
  rw [isVecL, all_of ha, e1, decide_eq_true (by omega)]; rfl
def decFrom (acc : Nat) (w : Bs) : Nat := w.foldl (fun n c => 10 * n + (c.toNat - 48)) acc
theorem decFrom_ge : ∀ (w : Bs) (acc : Nat), acc ≤ decFrom acc w
  | [], acc => Nat.le_refl _
  | c :: w, acc => by
    have := decFrom_ge w (10 * acc + (c.toNat - 48))
    show acc ≤ decFrom (10 * acc + (c.toNat - 48)) w
    omega
theorem digit_iff (c : UInt8) : isDigitC c = true ↔ 48 ≤ c.toNat ∧ c.toNat ≤ 57 := by
  rw [isDigitC, Bool.and_eq_true, decide_eq_true_eq, decide_eq_true_eq]; omega
def tokA (s : Bs) : Int × Bs × Int × Nat := (tok s).getD (0, [], 0, 0)
def tokCells (s : Bs) : List AVal := [.v (.int .i64 (tokA s).1), .v (.string (str (tokA s).2.1)), .v (.int .i64 (tokA s).2.2.1), .v (.int .i64 0), .v (.int .i64 0)]
def parseE (s : Bs) : Int := bif isVecL s then 0 else 44
section
variable {s : Bs}
variable (h0 : [98, 34].isPrefixOf s = false)
include h0
theorem tok_word (h1 : isLetterC (s.getD 0 default) = true) (h2 : isWordL (s.takeWhile isPartC) = true) : tokA s = (2, s.takeWhile isPartC, 0, (s.takeWhile isPartC).length) := by
  rw [tokA, tok, h0, if_neg (by simp), if_pos h1, if_pos h2]; rfl
theorem tok_name (h1 : isLetterC (s.getD 0 default) = true) (h2 : isWordL (s.takeWhile isPartC) = false) (h3 : isNameL (s.takeWhile isPartC) = true) : tokA s = (1, s.takeWhile isPartC, 0, (s.takeWhile isPartC).length) := by
  rw [tokA, tok, h0, if_neg (by simp), if_pos h1, h2, if_neg (by simp), if_pos h3]; rfl
theorem tok_noname (h1 : isLetterC (s.getD 0 default) = true) (h2 : isWordL (s.takeWhile isPartC) = false) (h3 : isNameL (s.takeWhile isPartC) = false) : tokA s = (0, [], 0, 0) := by
  rw [tokA, tok, h0, if_neg (by simp), if_pos h1, h2, if_neg (by simp), h3, if_neg (by simp)]; rfl
variable (hl : isLetterC (s.getD 0 default) = false)
include hl
variable (hd : isDigitC (s.getD 0 default) = false)
include hd
variable (hb : (((s.getD 0 default).toNat : Int) == 39) = false)
include hb
variable (hq : (((s.getD 0 default).toNat : Int) == 34) = false)
include hq
theorem tok_last : tokA s = match signsL.find? (fun x => x.isPrefixOf s) with | some x => (7, x, 0, x.length) | none => (0, [], 0, 0) := by
  rw [show (39 : Int) = ((39 : UInt8).toNat : Int) from rfl, u8_int] at hb
  rw [show (34 : Int) = ((34 : UInt8).toNat : Int) from rfl, u8_int] at hq
  rw [tokA, tok, h0, if_neg (by simp), hl, if_neg (by simp), hd, if_neg (by simp), hb, if_neg (by simp), hq, if_neg (by simp)]
  split <;> rename_i h <;> first | (rw [h]; done) | (rw [h]; rfl) | rfl
end
theorem find_step {p : Bs → Bool} : ∀ {l : List Bs} {i : Nat}, i < l.length → (∀ k, k < i → p (l.getD k default) = false) → p (l.getD i default) = true → l.find? p = some (l.getD i default)
  | [], i, h, _, _ => by simp at h
  | x :: l, 0, _, _, h1 => by rw [List.find?_cons, show p x = true from h1]; rfl
  | x :: l, i + 1, h, h0, h1 => by
    rw [List.find?_cons, show p x = false from h0 0 (by omega)]
    exact find_step (by simpa using h) (fun k hk => h0 (k + 1) (by omega)) h1
theorem find_more {p : Bs → Bool} {l : List Bs} {i : Nat} (h : ∀ k, k < i → p (l.getD k default) = false) (h1 : p (l.getD i default) = false) : ∀ k, k < i + 1 → p (l.getD k default) = false := by
  intro k hk
  rcases Nat.lt_or_eq_of_le (Nat.le_of_lt_succ hk) with e | e
  · exact h k e
  · subst e; exact h1
theorem find_none {p : Bs → Bool} {l : List Bs} (h : ∀ k, k < l.length → p (l.getD k default) = false) : l.find? p = none := by
  rw [List.find?_eq_none]
  intro x hx
  obtain ⟨i, hi, rfl⟩ := List.getElem_of_mem hx
  have := h i hi
  rw [List.getD_eq_getElem?_getD, List.getElem?_eq_getElem hi] at this
  rw [show p l[i] = false from this]; simp
def lineLen (l : Bs) : Nat := (l.takeWhile (· != 10)).length
theorem lineLen_le (l : Bs) : lineLen l ≤ l.length := takeWhile_len _ _
theorem blk_line : ∀ l : Bs, blk true l = lineLen l + blk false (l.drop (lineLen l))
  | [] => rfl
  | c :: r => by
    rw [blk]
    by_cases h : c = 10
    · subst h
      have e : lineLen (10 :: r) = 0 := rfl
      rw [e, List.drop_zero, Nat.zero_add]
      rfl
    · have h1 : (c != 10) = true := by simpa using h
      have e : lineLen (c :: r) = lineLen r + 1 := by rw [lineLen, List.takeWhile_cons, h1]; rfl
      rw [h1, e, blk_line r, List.drop_succ_cons]; omega
theorem drop_cons (s : Bs) (i : Nat) (h : i < s.length) : s.drop i = s.getD i default :: s.drop (i + 1) := by
  rw [List.getD_eq_getElem?_getD, List.getElem?_eq_getElem h, List.drop_eq_getElem_cons h]; rfl
theorem next_end (s : Bs) (i : Nat) (h : ¬ i < s.length) : nextAt s i = i := by
  rw [nextAt, List.drop_eq_nil_of_le (by omega)]; rfl
theorem next_blank (s : Bs) (i : Nat) (h : i < s.length) (hb : isBlankC (s.getD i default) = true) : nextAt s (i + 1) = nextAt s i := by
  rw [nextAt, nextAt, drop_cons s i h, blk, if_pos hb]; omega
theorem two_prefix {l : Bs} (h : [45, 45].isPrefixOf l = true) : ∃ r, l = 45 :: 45 :: r := by
  rw [List.isPrefixOf_iff_prefix] at h
  obtain ⟨r, hr⟩ := h
  exact ⟨r, hr.symm⟩
theorem next_comment (s : Bs) (i : Nat) (h : [45, 45].isPrefixOf (s.drop i) = true) : nextAt s (i + lineLen (s.drop i)) = nextAt s i ∧ 2 ≤ lineLen (s.drop i) := by
  obtain ⟨r, hr⟩ := two_prefix h
  have e0 : lineLen (45 :: 45 :: r) = lineLen (45 :: r) + 1 := rfl
  have e1 : lineLen (45 :: r) = lineLen r + 1 := rfl
  have e2 : blk false (45 :: 45 :: r) = blk true (45 :: r) + 1 := rfl
  have e3 := blk_line (45 :: r)
  refine ⟨?_, by rw [hr]; omega⟩
  rw [nextAt, nextAt, ← List.drop_drop, hr, e2, e3, e0, List.drop_succ_cons]; omega
theorem next_stop (s : Bs) (i : Nat) (h : i < s.length) (hb : isBlankC (s.getD i default) = false) (hc : [45, 45].isPrefixOf (s.drop i) = false) : nextAt s i = i := by
  rw [drop_cons s i h] at hc
  rw [nextAt, drop_cons s i h, blk, hb, if_neg (by simp), if_neg ?_]
  · rfl
  · intro hx
    rw [Bool.and_eq_true, beq_iff_eq] at hx
    rw [hx.1] at hc
    cases hd : s.drop (i + 1) with
    | nil => rw [hd] at hx; exact absurd hx.2 (by decide)
    | cons d r =>
      rw [hd] at hx hc
      simp only [List.head?_cons, beq_iff_eq, Option.some.injEq] at hx
      rw [hx.2] at hc
      exact absurd hc (by simp [List.isPrefixOf])
end Go.Proofs.YtcgdlhkiecommaaGreatDoor
/- Lexing from a place on, round by round; writing tokens. -/

namespace Go.Proofs.YtcgdlhkiecommaaGreatDoor
open Go
def encK (t : Tk) : List AVal := [.v (.int .i64 t.op), .v (.string (str t.text)), .v (.int .i64 t.n), .v (.int .i64 t.line), .v (.int .i64 t.col)]
def encF (f : Flt) : List AVal := [.v (.int .i64 f.code), .v (.string (str f.name)), .v (.int .i64 f.line), .v (.int .i64 f.col)]
def mkTk (s : Bs) (i : Nat) : Tk := ⟨(tokA (s.drop i)).1, (tokA (s.drop i)).2.1, (tokA (s.drop i)).2.2.1, (place s i).1, (place s i).2⟩
def badF (s : Bs) (i : Nat) : Flt := ⟨10, (s.drop i).take 1, (place s i).1, (place s i).2⟩
def lexP (s : Bs) : List Tk × Flt := if 20000 < s.length then ([], ⟨3, [], 0, 0⟩) else if (lex s).2.code = 0 then ((lex s).1, okF) else ([], (lex s).2)
theorem blk_idem : ∀ (b : Bool) (l : Bs), blk false (l.drop (blk b l)) = 0
  | _, [] => by simp [blk]
  | true, c :: r => by rw [blk, List.drop_succ_cons]; exact blk_idem _ r
  | false, c :: r => by
    by_cases h : isBlankC c = true
    · rw [show blk false (c :: r) = blk false r + 1 from by rw [blk, if_pos h], List.drop_succ_cons]; exact blk_idem _ r
    · by_cases h2 : (c == 45 && r.head? == some 45) = true
      · rw [show blk false (c :: r) = blk true r + 1 from by rw [blk, if_neg h, if_pos h2], List.drop_succ_cons]; exact blk_idem _ r
      · have e : blk false (c :: r) = 0 := by rw [blk, if_neg h, if_neg h2]
        rw [e, List.drop_zero, e]
theorem next_idem (s : Bs) (i : Nat) : nextAt s (nextAt s i) = nextAt s i := by
  have := blk_idem false (s.drop i)
  rw [List.drop_drop] at this
  rw [nextAt, nextAt, this]; rfl
theorem lexFrom_next (s : Bs) (i : Nat) (h : i ≤ s.length) : lexFrom s (nextAt s i) = lexFrom s i := by
  have := lexF_skip (s.length + 1) (s.drop i) (place s i) (blk false (s.drop i)) rfl (blk_idem false (s.drop i))
  rw [List.drop_drop, ← place_add] at this
  exact this
theorem tokA_zero {l : Bs} (h : ((((tokA l).2.2.2 : Nat) : Int) == 0) = true) : tok l = none := by
  cases ht : tok l with
  | none => rfl
  | some x =>
    obtain ⟨op, t, n, m⟩ := x
    have := (tok_len ht).1
    have e : tokA l = (op, t, n, m) := by rw [tokA, ht]; rfl
    rw [e, beq_iff_eq] at h
    simp only at h
    omega
theorem tokA_some {l : Bs} (h : ((((tokA l).2.2.2 : Nat) : Int) == 0) = false) : tok l = some (tokA l) ∧ 1 ≤ (tokA l).2.2.2 ∧ (tokA l).2.2.2 ≤ l.length := by
  cases ht : tok l with
  | none => rw [tokA, ht] at h; exact absurd h (by decide)
  | some x =>
    obtain ⟨op, t, n, m⟩ := x
    have e : tokA l = (op, t, n, m) := by rw [tokA, ht]; rfl
    rw [e]
    exact ⟨rfl, tok_len ht⟩
theorem round_bad {s : Bs} {i : Nat} (h : i < s.length) (hn : nextAt s i = i) (ht : ((((tokA (s.drop i)).2.2.2 : Nat) : Int) == 0) = true) : lexFrom s i = ([], badF s i) := by
  have := lexFrom_none s i (by omega) (by rw [hn]; exact h) (by rw [hn]; exact tokA_zero ht)
  rw [hn] at this; exact this
theorem round_ok {s : Bs} {i : Nat} (h : i < s.length) (hn : nextAt s i = i) (ht : ((((tokA (s.drop i)).2.2.2 : Nat) : Int) == 0) = false) :
    lexFrom s i = (mkTk s i :: (lexFrom s (nextAt s (i + (tokA (s.drop i)).2.2.2))).1, (lexFrom s (nextAt s (i + (tokA (s.drop i)).2.2.2))).2) := by
  rcases hA : tokA (s.drop i) with ⟨op, t, n, m⟩
  obtain ⟨h1, h2, h3⟩ := tokA_some ht
  rw [hA] at h1 h2 h3
  rw [List.length_drop] at h3
  have := lexFrom_some s i (by omega) (by rw [hn]; exact h) (by rw [hn]; exact h1)
  rw [hn] at this
  have e := lexFrom_next s (i + m) (by simp only at h3; omega)
  rw [this, ← e]
  simp only [mkTk, hA]
theorem lex_start (s : Bs) : lex s = lexFrom s (nextAt s 0) := (lexFrom_next s 0 (Nat.zero_le _)).symm
theorem lexP_long {s : Bs} (h : decide ((s.length : Int) > 20000) = true) : lexP s = ([], ⟨3, [], 0, 0⟩) := by
  rw [decide_eq_true_eq] at h
  rw [lexP, if_pos (by omega)]
theorem lex_more {s : Bs} {acc : List Tk} {i j : Nat} {t : Tk} (hl : lex s = (acc ++ (lexFrom s i).1, (lexFrom s i).2)) (h : lexFrom s i = (t :: (lexFrom s j).1, (lexFrom s j).2)) : lex s = ((acc ++ [t]) ++ (lexFrom s j).1, (lexFrom s j).2) := by
  rw [hl, h]; simp
def wrP (t : Tk) : Bs × Bool :=
  bif (t.op != 3) && (t.n != 0) then ([], false) else
  bif t.op == 1 then (t.text, isNameL t.text) else
  bif t.op == 2 then (t.text, isWordL t.text) else
  bif t.op == 3 then (Lib.itoa t.n, ((t.text == []) && decide (t.n ≥ 0)) && decide (t.n ≤ 2147483647)) else
  bif t.op == 4 then (([39] ++ t.text) ++ [39], ((t.text.length : Int) == 1) && Lib.contains [48, 49, 120, 122] t.text) else
  bif t.op == 5 then (([98, 34] ++ t.text) ++ [34], parseE t.text == 0) else
  bif t.op == 6 then (([34] ++ t.text) ++ [34], isTextL t.text) else
  bif t.op == 7 then (t.text, signsL.contains t.text) else ([], false)
structure OKT (t : Tk) : Prop where
  len : t.text.length ≤ 140737488355328
  n0 : -9223372036854775808 ≤ t.n
  n1 : t.n ≤ 9223372036854775807
def OKTs (l : List Tk) : Prop := ∀ t ∈ l, OKT t
theorem OKTs.at {l : List Tk} (h : OKTs l) (i : Nat) (hi : i < l.length) : OKT (l.getD i default) := h _ (getD_mem hi)
def textP (l : List Tk) : Bs × Int := if 20000 < l.length then ([], 2) else bif l.all (fun t => (wrP t).2) then (Lib.join (l.map fun t => (wrP t).1) [32], 0) else ([], 2)
theorem textP_long {l : List Tk} (h : decide ((l.length : Int) > 20000) = true) : textP l = ([], 2) := by
  rw [decide_eq_true_eq] at h; rw [textP, if_pos (by omega)]
theorem textP_bad {l : List Tk} (h : decide ((l.length : Int) > 20000) = false) (i : Nat) (hi : i < l.length) (hb : (wrP (l.getD i default)).2 = false) : textP l = ([], 2) := by
  rw [decide_eq_false_iff_not] at h
  have : l.all (fun t => (wrP t).2) = false := by
    rw [List.all_eq_false]
    exact ⟨_, getD_mem hi, by rw [hb]; simp⟩
  rw [textP, if_neg (by omega), this]; rfl
theorem textP_ok {l : List Tk} (h : decide ((l.length : Int) > 20000) = false) (ha : ∀ k, k < l.length → (wrP (l.getD k default)).2 = true) : textP l = (Lib.join (l.map fun t => (wrP t).1) [32], 0) := by
  rw [decide_eq_false_iff_not] at h
  have : l.all (fun t => (wrP t).2) = true := by
    rw [List.all_eq_true]
    intro t ht
    obtain ⟨i, hi, rfl⟩ := List.getElem_of_mem ht
    have := ha i hi
    rwa [List.getD_eq_getElem?_getD, List.getElem?_eq_getElem hi] at this
  rw [textP, if_neg (by omega), this]; rfl
theorem all_more {p : Tk → Bool} {l : List Tk} {i : Nat} (h : ∀ k, k < i → p (l.getD k default) = true) (h1 : p (l.getD i default) = true) : ∀ k, k < i + 1 → p (l.getD k default) = true := by
  intro k hk
  rcases Nat.lt_or_eq_of_le (Nat.le_of_lt_succ hk) with e | e
  · exact h k e
  · subst e; exact h1
theorem take_more {α β : Type} [Inhabited α] (f : α → β) (l : List α) (i : Nat) (h : i < l.length) : (l.take (i + 1)).map f = (l.take i).map f ++ [f (l.getD i default)] := by
  rw [List.take_add_one, List.map_append, List.getElem?_eq_getElem h, List.getD_eq_getElem?_getD, List.getElem?_eq_getElem h]; rfl
theorem decDigits_len : ∀ (k n : Nat), n < 10 ^ (k + 1) → (Lib.decDigits n).length ≤ k + 1
  | k, n, h => by
    rw [Lib.decDigits]
    split
    · simp
    · rename_i h10
      cases k with
      | zero => omega
      | succ k =>
        have := decDigits_len k (n / 10) (by rw [Nat.div_lt_iff_lt_mul (by decide)]; rw [Nat.pow_succ] at h; exact h)
        rw [List.length_append, List.length_singleton]; omega
theorem join_len : ∀ {l : List Bs} {n : Nat}, (∀ x ∈ l, x.length ≤ n) → (Lib.join l [32]).length ≤ l.length * (n + 1)
  | [], _, _ => by simp [Lib.join]
  | [x], n, h => by
    rw [Lib.join_one]
    have := h x (by simp)
    simp only [List.length_cons, List.length_nil]; omega
  | x :: y :: l, n, h => by
    have ih := join_len (l := y :: l) (n := n) (fun z hz => h z (List.mem_cons_of_mem _ hz))
    have hx := h x (by simp)
    have e : Lib.join (x :: y :: l) [32] = x ++ [32] ++ Lib.join (y :: l) [32] := by simp [Lib.join, List.intercalate]
    have e2 : (x :: y :: l).length * (n + 1) = (y :: l).length * (n + 1) + (n + 1) := by rw [List.length_cons, Nat.succ_mul]
    rw [e, List.length_append, List.length_append, e2]
    generalize (y :: l).length * (n + 1) = K at ih ⊢
    simp only [List.length_cons, List.length_nil]
    omega
theorem badF_cut (s : Bs) (i : Nat) : badF s i = ⟨10, (s.drop i).take (i + 1 - i), (place s i).1, (place s i).2⟩ := by rw [badF, Nat.add_sub_cancel_left]
theorem lexP_clo (s : Bs) : (AVal.tuple [.list 5 ((lexP s).1.map encK), .agg (encF (lexP s).2)]).clo = true := rfl
end Go.Proofs.YtcgdlhkiecommaaGreatDoor
/- The reference's words of chapter 3 in plain Lean; the law's own bounds. -/

namespace Go.Proofs.YtcgdlhkiecommaaGreatDoor
open Go
theorem member_yes {l : List Bs} {x : Bs} (i : Nat) (hi : i < l.length) (h : (l.getD i default == x) = true) : l.contains x = true := by
  rw [List.contains_iff_mem]
  rw [beq_iff_eq] at h
  rw [← h]; exact getD_mem hi
theorem member_no {l : List Bs} {x : Bs} (h : ∀ k, k < l.length → (l.getD k default == x) = false) : l.contains x = false := by
  rw [Bool.eq_false_iff]
  intro hc
  obtain ⟨i, hi, e⟩ := List.getElem_of_mem (List.contains_iff_mem.1 hc)
  have := h i hi
  rw [List.getD_eq_getElem?_getD, List.getElem?_eq_getElem hi] at this
  simp only [Option.getD_some, beq_eq_false_iff_ne, ne_eq] at this
  exact this e
def possT (t : Tk) : Bool :=
  bif t.op == 1 then (t.n == 0) && isNameL t.text else
  bif t.op == 2 then (t.n == 0) && isWordL t.text else
  bif t.op == 3 then ((t.text == []) && decide (t.n ≥ 0)) && decide (t.n ≤ 2147483647) else
  bif t.op == 4 then ((t.n == 0) && ((t.text.length : Int) == 1)) && isBitC (t.text.getD 0 default) else
  bif t.op == 5 then (((t.n == 0) && decide ((t.text.length : Int) ≥ 1)) && decide ((t.text.length : Int) ≤ 64)) && ((((t.text.drop 0).takeWhile (fun c => ofK c 2)).length : Int) == (t.text.length : Int)) else
  bif t.op == 6 then ((t.n == 0) && decide ((t.text.length : Int) ≤ 60)) && ((((t.text.drop 0).takeWhile (fun c => ofK c 3)).length : Int) == (t.text.length : Int)) else
  bif t.op == 7 then (t.n == 0) && signsL.contains t.text else false
def wri (t : Tk) : Bs :=
  bif t.op == 3 then Lib.itoa t.n else
  bif t.op == 4 then ([39] ++ t.text) ++ [39] else
  bif t.op == 5 then ([98, 34] ++ t.text) ++ [34] else
  bif t.op == 6 then ([34] ++ t.text) ++ [34] else t.text
theorem digit_u8 (m : Nat) : IntKind.u8.wrap (48 + (m : Int) % 10) = ((UInt8.ofNat (48 + m % 10)).toNat : Int) := by
  rw [wrap_u8 (by omega) (by omega)]
  have : (UInt8.ofNat (48 + m % 10)).toNat = 48 + m % 10 := by rw [UInt8.toNat_ofNat']; omega
  rw [this]; omega
def digTo (m : Nat) (acc : Bs) : Bs := if m = 0 then acc else Lib.decDigits m ++ acc
theorem digTo_step {m : Nat} (h : 0 < m) (acc : Bs) : digTo (m / 10) ([UInt8.ofNat (48 + m % 10)] ++ acc) = digTo m acc := by
  rw [digTo, digTo, if_neg (by omega : ¬ m = 0)]
  by_cases h10 : m < 10
  · rw [if_pos (by omega), Lib.decDigits, dif_pos h10, Nat.mod_eq_of_lt h10]
  · rw [if_neg (by omega)]
    conv => rhs; rw [Lib.decDigits, dif_neg h10]
    rw [List.append_assoc]
theorem digTo_first (n : Nat) : digTo (n / 10) [UInt8.ofNat (48 + n % 10)] = Lib.decDigits n := by
  by_cases h : n = 0
  · subst h; rw [digTo, if_pos rfl, Lib.decDigits, dif_pos (by decide)]
  · have := digTo_step (Nat.pos_of_ne_zero h) []
    rw [List.append_nil] at this
    rw [this, digTo, if_neg h, List.append_nil]
theorem digTo_acc (m : Nat) (acc : Bs) : acc.length ≤ (digTo m acc).length := by
  rw [digTo]; split
  · omega
  · rw [List.length_append]; omega
theorem digTo_acc_le {n m : Nat} {acc : Bs} (h : digTo m acc = Lib.decDigits n) (hn : n ≤ 9223372036854775807) : acc.length ≤ 20 := by
  have h1 := digTo_acc m acc
  rw [h] at h1
  have e : (10 : Nat) ^ (19 + 1) = 100000000000000000000 := by decide
  have h2 := decDigits_len 19 n (by rw [e]; omega)
  omega
def tkey (t : Tk) : Int × Bs × Int := (t.op, t.text, t.n)
def alikeL (a b : List Tk) : Bool := a.map tkey == b.map tkey
theorem alike_len {a b : List Tk} (h : ((a.length : Int) != (b.length : Int)) = true) : alikeL a b = false := by
  rw [bne_iff_ne] at h
  rw [alikeL, beq_eq_false_iff_ne]
  intro e
  have := congrArg List.length e
  rw [List.length_map, List.length_map] at this
  omega
theorem tkey_ne {s t : Tk} : (((s.op != t.op) || !(s.text == t.text)) || (s.n != t.n)) = !(tkey s == tkey t) := by
  rw [Bool.eq_iff_iff]
  simp only [Bool.or_eq_true, bne_iff_ne, Bool.not_eq_true', beq_eq_false_iff_ne, ne_eq, tkey, Prod.mk.injEq]
  by_cases h1 : s.op = t.op <;> by_cases h2 : s.text = t.text <;> by_cases h3 : s.n = t.n <;> simp [h1, h2, h3]
theorem alike_no {a b : List Tk} (i : Nat) (hi : i < a.length) (hj : i < b.length) (h : (((a.getD i default).op != (b.getD i default).op || !((a.getD i default).text == (b.getD i default).text)) || ((a.getD i default).n != (b.getD i default).n)) = true) : alikeL a b = false := by
  rw [tkey_ne, Bool.not_eq_true', beq_eq_false_iff_ne] at h
  rw [alikeL, beq_eq_false_iff_ne]
  intro e
  apply h
  have := congrArg (fun l => l[i]?) e
  simp only [List.getElem?_map, List.getElem?_eq_getElem hi, List.getElem?_eq_getElem hj, Option.map_some, Option.some.injEq] at this
  rw [List.getD_eq_getElem?_getD, List.getD_eq_getElem?_getD, List.getElem?_eq_getElem hi, List.getElem?_eq_getElem hj]
  exact this
theorem alike_yes {a b : List Tk} (hl : ((a.length : Int) != (b.length : Int)) = false) (h : ∀ k, k < a.length → tkey (a.getD k default) = tkey (b.getD k default)) : alikeL a b = true := by
  rw [bne_eq_false_iff_eq] at hl
  rw [alikeL, beq_iff_eq]
  refine List.ext_getElem (by simp; omega) fun i h1 h2 => ?_
  rw [List.length_map] at h1 h2
  have := h i h1
  rw [List.getD_eq_getElem?_getD, List.getD_eq_getElem?_getD, List.getElem?_eq_getElem h1, List.getElem?_eq_getElem h2] at this
  simpa using this
theorem alike_more {a b : List Tk} {i : Nat} (h : ∀ k, k < i → tkey (a.getD k default) = tkey (b.getD k default)) (h1 : (((a.getD i default).op != (b.getD i default).op || !((a.getD i default).text == (b.getD i default).text)) || ((a.getD i default).n != (b.getD i default).n)) = false) : ∀ k, k < i + 1 → tkey (a.getD k default) = tkey (b.getD k default) := by
  intro k hk
  rcases Nat.lt_or_eq_of_le (Nat.le_of_lt_succ hk) with e | e
  · exact h k e
  · subst e
    rw [tkey_ne] at h1
    simpa using h1
def sumT (s : Bs) (l : List Tk) : Nat → Nat
  | 0 => s.length
  | i + 1 => sumT s l i + min (l.getD i default).text.length 5000
theorem sumT_le (s : Bs) (l : List Tk) : ∀ i, sumT s l i ≤ s.length + i * 5000
  | 0 => by simp [sumT]
  | i + 1 => by have := sumT_le s l i; simp only [sumT]; omega
end Go.Proofs.YtcgdlhkiecommaaGreatDoor
