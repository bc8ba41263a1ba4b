/- Tokens by themselves: their shapes; what follows a token; how a token is written. -/
import Derived.Test.YtcgdlhkiecommaaGreatDoorLRef
set_option linter.all false
namespace Go.Proofs.YtcgdlhkiecommaaGreatDoor
open Go
theorem tw_app {p : UInt8 → Bool} {w r : Bs} (hw : ∀ c ∈ w, p c = true) (hr : ∀ c, r.head? = some c → p c = false) : (w ++ r).takeWhile p = w := by
  rw [List.takeWhile_append_of_pos hw]
  cases r with
  | nil => simp
  | cons d r => rw [List.takeWhile_cons, hr d rfl]; simp
theorem tw_head {p : UInt8 → Bool} : ∀ {s : Bs} {c : UInt8}, (s.drop (s.takeWhile p).length).head? = some c → p c = false
  | [], c, h => by simp at h
  | d :: s, c, h => by
    rw [List.takeWhile_cons] at h
    cases hd : p d with
    | true => rw [hd] at h; exact tw_head (s := s) (by simpa using h)
    | false => rw [hd] at h; simp at h; subst h; exact hd
theorem tw_split : ∀ {r : Bs}, r.contains 34 = true → ∃ q, r = r.takeWhile (· != 34) ++ 34 :: q
  | [], h => by simp at h
  | d :: r, h => by
    by_cases hd : d = 34
    · subst hd; exact ⟨r, by simp⟩
    · have h1 : (d != 34) = true := by simpa using hd
      have h2 : r.contains 34 = true := by
        rw [List.contains_cons, Bool.or_eq_true] at h
        rcases h with e | e
        · exact absurd (by simpa using e : (34 : UInt8) = d).symm hd
        · exact e
      obtain ⟨q, hq⟩ := tw_split h2
      exact ⟨q, by rw [List.takeWhile_cons, h1, if_pos rfl, List.cons_append, ← hq]⟩
theorem quoted_split {s : Bs} (h : quotedOK s = true) : ∃ q, s = 34 :: (quotedT s ++ 34 :: q) := by
  rw [quotedOK, Bool.and_eq_true] at h
  cases s with
  | nil => exact absurd h.1 (by decide)
  | cons c r =>
    have : c = 34 := by simpa using h.1
    subst this
    obtain ⟨q, hq⟩ := tw_split h.2
    exact ⟨q, by rw [quotedT, List.tail_cons]; rw [List.tail_cons] at hq; rw [← hq]⟩
theorem quoted_of {u q : Bs} (h : ∀ c ∈ u, (c != 34) = true) : quotedOK (34 :: (u ++ 34 :: q)) = true ∧ quotedT (34 :: (u ++ 34 :: q)) = u := by
  refine ⟨by simp [quotedOK], ?_⟩
  rw [quotedT, List.tail_cons]
  exact tw_app h (by intro c hc; simp at hc; subst hc; decide)
theorem bit_part (c : UInt8) (h : isBitC c = true) : c ≠ 34 ∧ c ≠ 10 ∧ c ≠ 39 := by
  refine ⟨?_, ?_, ?_⟩ <;> (rintro rfl; revert h; decide)
theorem plain_part (c : UInt8) (h : isPlainC c = true) : c ≠ 34 ∧ c ≠ 10 := by
  refine ⟨?_, ?_⟩ <;> (rintro rfl; revert h; decide)
theorem vec_facts {u : Bs} (h : isVecL u = true) : 1 ≤ u.length ∧ u.length ≤ 64 ∧ ∀ c ∈ u, isBitC c = true := by
  rw [isVecL, Bool.and_eq_true, Bool.and_eq_true, decide_eq_true_eq, List.all_eq_true] at h
  refine ⟨?_, h.2⟩
  cases u with
  | nil => exact absurd h.1 (by decide)
  | cons => simp
theorem text_facts {u : Bs} (h : isTextL u = true) : u.length ≤ 60 ∧ ∀ c ∈ u, isPlainC c = true := by
  rw [isTextL, Bool.and_eq_true, decide_eq_true_eq, List.all_eq_true] at h; exact h
theorem name_facts {w : Bs} (h : isNameL w = true) : w ≠ [] ∧ w.length ≤ 40 ∧ isLetterC (w.getD 0 default) = true ∧ (∀ c ∈ w, isPartC c = true) ∧ isWordL w = false := by
  rw [isNameL, Bool.and_eq_true, Bool.and_eq_true, Bool.and_eq_true, Bool.and_eq_true, decide_eq_true_eq, List.all_eq_true] at h
  obtain ⟨h1, h2, h3, h4, h5⟩ := h
  refine ⟨?_, h2, h3, h4, by simpa using h5⟩
  rintro rfl; revert h1; decide
theorem word_all : ∀ w ∈ wordsL, w ≠ [] ∧ w.length ≤ 40 ∧ isLetterC (w.getD 0 default) = true ∧ (∀ c ∈ w, isPartC c = true) := by decide +kernel
theorem word_facts {w : Bs} (h : isWordL w = true) : w ≠ [] ∧ w.length ≤ 40 ∧ isLetterC (w.getD 0 default) = true ∧ (∀ c ∈ w, isPartC c = true) := word_all w (List.contains_iff_mem.1 h)
theorem sign_all : ∀ x ∈ signsL, x ≠ [] ∧ x.length ≤ 2 ∧ isLetterC (x.getD 0 default) = false ∧ isDigitC (x.getD 0 default) = false ∧ (x.getD 0 default == 39) = false ∧ (x.getD 0 default == 34) = false ∧ (x.getD 0 default == 98) = false ∧ (∀ c ∈ x, c ≠ 10) := by decide +kernel
theorem getD_app {w q : Bs} (h : w ≠ []) : (w ++ q).getD 0 default = w.getD 0 default := by
  cases w with
  | nil => exact absurd rfl h
  | cons => rfl
theorem pre_two (s : Bs) : [98, 34].isPrefixOf s = (s.getD 0 default == 98 && s.tail.head? == some 34) := by
  match s with
  | [] => rfl
  | [a] =>
    show (98 == a && false) = (a == 98 && false)
    rw [Bool.and_false, Bool.and_false]
  | a :: b :: r =>
    show (98 == a && (34 == b && true)) = (a == 98 && (b == 34))
    rw [Bool.and_true, BEq.comm (a := (98 : UInt8)), BEq.comm (a := (34 : UInt8))]
/-- The shapes of a token. -/
inductive Shape (s : Bs) : Int → Bs → Int → Nat → Prop
  | vec (u q : Bs) (hs : s = 98 :: 34 :: (u ++ 34 :: q)) (hv : isVecL u = true) : Shape s 5 u 0 (u.length + 3)
  | word (w q : Bs) (hs : s = w ++ q) (hq : ∀ c, q.head? = some c → isPartC c = false) (hb : [98, 34].isPrefixOf s = false) (hw : isWordL w = true) : Shape s 2 w 0 w.length
  | name (w q : Bs) (hs : s = w ++ q) (hq : ∀ c, q.head? = some c → isPartC c = false) (hb : [98, 34].isPrefixOf s = false) (hw : isNameL w = true) : Shape s 1 w 0 w.length
  | int (w q : Bs) (hs : s = w ++ q) (hq : ∀ c, q.head? = some c → isPartC c = false) (hn : w ≠ []) (hd : w.all isDigitC = true) (hv : decV w ≤ 2147483647) : Shape s 3 [] (decV w : Nat) w.length
  | bit (c : UInt8) (q : Bs) (hs : s = 39 :: c :: 39 :: q) (hc : isBitC c = true) : Shape s 4 [c] 0 3
  | text (u q : Bs) (hs : s = 34 :: (u ++ 34 :: q)) (hv : isTextL u = true) : Shape s 6 u 0 (u.length + 2)
  | sign (x q : Bs) (hs : s = x ++ q) (hf : signsL.find? (fun x => x.isPrefixOf s) = some x) : Shape s 7 x 0 x.length
theorem tw_parts (s : Bs) : s = s.takeWhile isPartC ++ s.drop (s.takeWhile isPartC).length := by
  have e := List.prefix_iff_eq_take.1 (List.takeWhile_prefix isPartC (l := s))
  exact (List.take_append_drop (s.takeWhile isPartC).length s).symm.trans (by rw [← e])
theorem of_shape {s : Bs} {op : Int} {t : Bs} {n : Int} {m : Nat} (h : Shape s op t n m) : tok s = some (op, t, n, m) := by
  cases h with
  | vec _ q hs hv =>
    subst hs
    obtain ⟨h1, h2⟩ := quoted_of (u := t) (q := q) (fun c hc => by have := (bit_part c ((vec_facts hv).2.2 c hc)).1; simpa using this)
    rw [tok, if_pos (by rfl), show (98 :: 34 :: (t ++ 34 :: q)).tail = 34 :: (t ++ 34 :: q) from rfl, h1, h2, hv]; rfl
  | word _ q hs hq hb hw =>
    obtain ⟨h1, _, h2, h3⟩ := word_facts hw
    have e : s.takeWhile isPartC = t := by rw [hs]; exact tw_app h3 hq
    have e2 : s.getD 0 default = t.getD 0 default := by rw [hs]; exact getD_app h1
    rw [tok, if_neg (by rw [hb]; decide), if_pos (by rw [e2]; exact h2), e, if_pos hw]
  | name _ q hs hq hb hw =>
    obtain ⟨h1, _, h2, h3, h4⟩ := name_facts hw
    have e : s.takeWhile isPartC = t := by rw [hs]; exact tw_app h3 hq
    have e2 : s.getD 0 default = t.getD 0 default := by rw [hs]; exact getD_app h1
    rw [tok, if_neg (by rw [hb]; decide), if_pos (by rw [e2]; exact h2), e, if_neg (by rw [h4]; decide), if_pos hw]
  | int w q hs hq hn hd hv =>
    have h3 : ∀ c ∈ w, isPartC c = true := fun c hc => by rw [isPartC, List.all_eq_true.1 hd c hc]; simp
    have e : s.takeWhile isPartC = w := by rw [hs]; exact tw_app h3 hq
    have e2 : s.getD 0 default = w.getD 0 default := by rw [hs]; exact getD_app hn
    have h4 : isDigitC (w.getD 0 default) = true := by
      cases w with
      | nil => exact absurd rfl hn
      | cons a w => exact List.all_eq_true.1 hd a (by simp)
    have h5 : (w.getD 0 default == 98) = false ∧ isLetterC (w.getD 0 default) = false := by
      have := (digit_iff _).1 h4
      generalize w.getD 0 default = c at this ⊢
      refine ⟨?_, ?_⟩
      · rw [beq_eq_false_iff_ne]; rintro rfl; revert this; decide
      · rw [isLetterC]; simp only [Bool.or_eq_false_iff, Bool.and_eq_false_iff, decide_eq_false_iff_not]; omega
    rw [tok, if_neg (by rw [pre_two, e2, h5.1]; simp), e2, if_neg (by rw [h5.2]; decide), if_pos h4, e, if_pos (by rw [hd]; simpa using hv)]
  | bit c q hs hc =>
    subst hs
    rw [tok, if_neg (by rw [pre_two]; simp), if_neg (by show ¬ isLetterC 39 = true; decide), if_neg (by show ¬ isDigitC 39 = true; decide), if_pos (by rfl), if_pos (by rw [show (39 :: c :: 39 :: q).getD 1 default = c from rfl, hc]; simp)]; rfl
  | text _ q hs hv =>
    subst hs
    obtain ⟨h1, h2⟩ := quoted_of (u := t) (q := q) (fun c hc => by have := (plain_part c ((text_facts hv).2 c hc)).1; simpa using this)
    rw [tok, if_neg (by rw [pre_two]; simp), if_neg (by show ¬ isLetterC 34 = true; decide), if_neg (by show ¬ isDigitC 34 = true; decide), if_neg (by show ¬ ((34 : UInt8) == 39) = true; decide), if_pos (by rfl), h1, h2, hv]; rfl
  | sign _ q hs hf =>
    obtain ⟨h1, h2⟩ := find_len hf
    obtain ⟨a1, a2, a3, a4, a5, a6, a7, _⟩ := sign_all _ h1
    have e2 : s.getD 0 default = t.getD 0 default := by rw [hs]; exact getD_app a1
    rw [tok, if_neg (by rw [pre_two, e2, a7]; simp), e2, if_neg (by rw [a3]; decide), if_neg (by rw [a4]; decide), if_neg (by rw [a5]; decide), if_neg (by rw [a6]; decide), hf]
/-! ### What follows -/
/-! ### Digits -/
theorem decV_snoc (w : Bs) (c : UInt8) : decV (w ++ [c]) = 10 * decV w + (c.toNat - 48) := by simp [decV, List.foldl_append]
/-! ### Tokens with gaps -/
/-! ### What Text returns -/
/-! ### Runs -/
inductive Run (s : Bs) : Nat → List (Nat × Tk) → Option Nat → Prop
  | done (i : Nat) (hi : i ≤ s.length) (h : nextAt s i = s.length) : Run s i [] none
  | bad (i j : Nat) (hi : i ≤ s.length) (hj : nextAt s i = j) (hlt : j < s.length) (ht : tok (s.drop j) = none) : Run s i [] (some j)
  | step (i j : Nat) (op : Int) (t : Bs) (n : Int) (m : Nat) (l : List (Nat × Tk)) (e : Option Nat) (hi : i ≤ s.length) (hj : nextAt s i = j) (hlt : j < s.length) (ht : tok (s.drop j) = some (op, t, n, m)) (h : Run s (j + m) l e) :
      Run s i ((j, ⟨op, t, n, (place s j).1, (place s j).2⟩) :: l) e
def endF (s : Bs) : Option Nat → Flt
  | none => okF
  | some j => badF s j
theorem run_ex (s : Bs) : ∀ (k i : Nat), i ≤ s.length → s.length - i ≤ k → ∃ l e, Run s i l e ∧ lexFrom s i = (l.map (·.2), endF s e) := by
  intro k
  induction k with
  | zero =>
    intro i hi hk
    have hn := nextAt_le s i hi
    exact ⟨[], none, .done i hi (by omega), by rw [lexFrom_end s i hi (by omega)]; rfl⟩
  | succ k ih =>
    intro i hi hk
    have hn := nextAt_le s i hi
    by_cases hlt : nextAt s i < s.length
    · cases ht : tok (s.drop (nextAt s i)) with
      | none => exact ⟨[], some (nextAt s i), .bad i _ hi rfl hlt ht, by rw [lexFrom_none s i hi hlt ht]; rfl⟩
      | some x =>
        obtain ⟨op, t, n, m⟩ := x
        obtain ⟨h1, h2⟩ := tok_len ht
        rw [List.length_drop] at h2
        obtain ⟨l, e, h3, h4⟩ := ih (nextAt s i + m) (by omega) (by omega)
        exact ⟨_, e, .step i _ op t n m l e hi rfl hlt ht h3, by rw [lexFrom_some s i hi hlt ht, h4]; rfl⟩
    · exact ⟨[], none, .done i hi (by omega), by rw [lexFrom_end s i hi hlt]; rfl⟩
/-! ### What is cut off -/
/-! ### What comes more -/
end Go.Proofs.YtcgdlhkiecommaaGreatDoor
