import Derived.Test.YtcgdlhkiecommaaGreatDoorLRef
import Derived.Laws.StructEq
import Derived.Test.YtcgdlhkiecommaaGreatDoorLDec
import Derived.Test.YtcgdlhkiecommaaGreatDoorEngNest
/- Tokens by themselves: their shapes; what follows a token; how a token is written. -/

set_option linter.all false
namespace Go.Proofs.YtcgdlhkiecommaaGreatDoor
open Go
theorem tw_app {p : UInt8 → Bool} {w r : Bs} (hw : ∀ c ∈ w, p c = true) (hr : ∀ c, r.head? = some c → p c = false) : (w ++ r).takeWhile p = w := by
  rw [List.takeWhile_append_of_pos hw]
  cases r with
  | nil => simp
  | cons d r => rw [List.takeWhile_cons, hr d rfl]; simp
theorem tw_head {p : UInt8 → Bool} : ∀ {s : Bs} {c : UInt8}, (s.drop (s.takeWhile p).length).head? = some c → p c = false
  | [], c, h => by simp at h
  | d :: s, c, h => by
    rw [List.takeWhile_cons] at h
    cases hd : p d with
    | true => rw [hd] at h; exact tw_head (s := s) (by simpa using h)
    | false => rw [hd] at h; simp at h; subst h; exact hd
theorem tw_split : ∀ {r : Bs}, r.contains 34 = true → ∃ q, r = r.takeWhile (· != 34) ++ 34 :: q
  | [], h => by simp at h
  | d :: r, h => by
    by_cases hd : d = 34
    · subst hd; exact ⟨r, by simp⟩
    · have h1 : (d != 34) = true := by simpa using hd
      have h2 : r.contains 34 = true := by
        rw [List.contains_cons, Bool.or_eq_true] at h
        rcases h with e | e
        · exact absurd (by simpa using e : (34 : UInt8) = d).symm hd
        · exact e
      obtain ⟨q, hq⟩ := tw_split h2
      exact ⟨q, by rw [List.takeWhile_cons, h1, if_pos rfl, List.cons_append, ← hq]⟩
theorem quoted_split {s : Bs} (h : quotedOK s = true) : ∃ q, s = 34 :: (quotedT s ++ 34 :: q) := by
  rw [quotedOK, Bool.and_eq_true] at h
  cases s with
  | nil => exact absurd h.1 (by decide)
  | cons c r =>
    have : c = 34 := by simpa using h.1
    subst this
    obtain ⟨q, hq⟩ := tw_split h.2
    exact ⟨q, by rw [quotedT, List.tail_cons]; rw [List.tail_cons] at hq; rw [← hq]⟩
theorem quoted_of {u q : Bs} (h : ∀ c ∈ u, (c != 34) = true) : quotedOK (34 :: (u ++ 34 :: q)) = true ∧ quotedT (34 :: (u ++ 34 :: q)) = u := by
  refine ⟨by simp [quotedOK], ?_⟩
  rw [quotedT, List.tail_cons]
  exact tw_app h (by intro c hc; simp at hc; subst hc; decide)
theorem bit_part (c : UInt8) (h : isBitC c = true) : c ≠ 34 ∧ c ≠ 10 ∧ c ≠ 39 := by
  refine ⟨?_, ?_, ?_⟩ <;> (rintro rfl; revert h; decide)
theorem plain_part (c : UInt8) (h : isPlainC c = true) : c ≠ 34 ∧ c ≠ 10 := by
  refine ⟨?_, ?_⟩ <;> (rintro rfl; revert h; decide)
theorem vec_facts {u : Bs} (h : isVecL u = true) : 1 ≤ u.length ∧ u.length ≤ 64 ∧ ∀ c ∈ u, isBitC c = true := by
  rw [isVecL, Bool.and_eq_true, Bool.and_eq_true, decide_eq_true_eq, List.all_eq_true] at h
  refine ⟨?_, h.2⟩
  cases u with
  | nil => exact absurd h.1 (by decide)
  | cons => simp
theorem text_facts {u : Bs} (h : isTextL u = true) : u.length ≤ 60 ∧ ∀ c ∈ u, isPlainC c = true := by
  rw [isTextL, Bool.and_eq_true, decide_eq_true_eq, List.all_eq_true] at h; exact h
theorem name_facts {w : Bs} (h : isNameL w = true) : w ≠ [] ∧ w.length ≤ 40 ∧ isLetterC (w.getD 0 default) = true ∧ (∀ c ∈ w, isPartC c = true) ∧ isWordL w = false := by
  rw [isNameL, Bool.and_eq_true, Bool.and_eq_true, Bool.and_eq_true, Bool.and_eq_true, decide_eq_true_eq, List.all_eq_true] at h
  obtain ⟨h1, h2, h3, h4, h5⟩ := h
  refine ⟨?_, h2, h3, h4, by simpa using h5⟩
  rintro rfl; revert h1; decide
theorem word_all : ∀ w ∈ wordsL, w ≠ [] ∧ w.length ≤ 40 ∧ isLetterC (w.getD 0 default) = true ∧ (∀ c ∈ w, isPartC c = true) := by decide +kernel
theorem word_facts {w : Bs} (h : isWordL w = true) : w ≠ [] ∧ w.length ≤ 40 ∧ isLetterC (w.getD 0 default) = true ∧ (∀ c ∈ w, isPartC c = true) := word_all w (List.contains_iff_mem.1 h)
theorem sign_all : ∀ x ∈ signsL, x ≠ [] ∧ x.length ≤ 2 ∧ isLetterC (x.getD 0 default) = false ∧ isDigitC (x.getD 0 default) = false ∧ (x.getD 0 default == 39) = false ∧ (x.getD 0 default == 34) = false ∧ (x.getD 0 default == 98) = false ∧ (∀ c ∈ x, c ≠ 10) := by decide +kernel
theorem getD_app {w q : Bs} (h : w ≠ []) : (w ++ q).getD 0 default = w.getD 0 default := by
  cases w with
  | nil => exact absurd rfl h
  | cons => rfl
theorem pre_two (s : Bs) : [98, 34].isPrefixOf s = (s.getD 0 default == 98 && s.tail.head? == some 34) := by
  match s with
  | [] => rfl
  | [a] =>
    show (98 == a && false) = (a == 98 && false)
    rw [Bool.and_false, Bool.and_false]
  | a :: b :: r =>
    show (98 == a && (34 == b && true)) = (a == 98 && (b == 34))
    rw [Bool.and_true, BEq.comm (a := (98 : UInt8)), BEq.comm (a := (34 : UInt8))]
inductive Shape (s : Bs) : Int → Bs → Int → Nat → Prop
  | vec (u q : Bs) (hs : s = 98 :: 34 :: (u ++ 34 :: q)) (hv : isVecL u = true) : Shape s 5 u 0 (u.length + 3)
  | word (w q : Bs) (hs : s = w ++ q) (hq : ∀ c, q.head? = some c → isPartC c = false) (hb : [98, 34].isPrefixOf s = false) (hw : isWordL w = true) : Shape s 2 w 0 w.length
  | name (w q : Bs) (hs : s = w ++ q) (hq : ∀ c, q.head? = some c → isPartC c = false) (hb : [98, 34].isPrefixOf s = false) (hw : isNameL w = true) : Shape s 1 w 0 w.length
  | int (w q : Bs) (hs : s = w ++ q) (hq : ∀ c, q.head? = some c → isPartC c = false) (hn : w ≠ []) (hd : w.all isDigitC = true) (hv : decV w ≤ 2147483647) : Shape s 3 [] (decV w : Nat) w.length
  | bit (c : UInt8) (q : Bs) (hs : s = 39 :: c :: 39 :: q) (hc : isBitC c = true) : Shape s 4 [c] 0 3
  | text (u q : Bs) (hs : s = 34 :: (u ++ 34 :: q)) (hv : isTextL u = true) : Shape s 6 u 0 (u.length + 2)
  | sign (x q : Bs) (hs : s = x ++ q) (hf : signsL.find? (fun x => x.isPrefixOf s) = some x) : Shape s 7 x 0 x.length
theorem tw_parts (s : Bs) : s = s.takeWhile isPartC ++ s.drop (s.takeWhile isPartC).length := by
  have e := List.prefix_iff_eq_take.1 (List.takeWhile_prefix isPartC (l := s))
  exact (List.take_append_drop (s.takeWhile isPartC).length s).symm.trans (by rw [← e])
theorem of_shape {s : Bs} {op : Int} {t : Bs} {n : Int} {m : Nat} (h : Shape s op t n m) : tok s = some (op, t, n, m) := by
  cases h with
  | vec _ q hs hv =>
    subst hs
    obtain ⟨h1, h2⟩ := quoted_of (u := t) (q := q) (fun c hc => by have := (bit_part c ((vec_facts hv).2.2 c hc)).1; simpa using this)
    rw [tok, if_pos (by rfl), show (98 :: 34 :: (t ++ 34 :: q)).tail = 34 :: (t ++ 34 :: q) from rfl, h1, h2, hv]; rfl
  | word _ q hs hq hb hw =>
    obtain ⟨h1, _, h2, h3⟩ := word_facts hw
    have e : s.takeWhile isPartC = t := by rw [hs]; exact tw_app h3 hq
    have e2 : s.getD 0 default = t.getD 0 default := by rw [hs]; exact getD_app h1
    rw [tok, if_neg (by rw [hb]; decide), if_pos (by rw [e2]; exact h2), e, if_pos hw]
  | name _ q hs hq hb hw =>
    obtain ⟨h1, _, h2, h3, h4⟩ := name_facts hw
    have e : s.takeWhile isPartC = t := by rw [hs]; exact tw_app h3 hq
    have e2 : s.getD 0 default = t.getD 0 default := by rw [hs]; exact getD_app h1
    rw [tok, if_neg (by rw [hb]; decide), if_pos (by rw [e2]; exact h2), e, if_neg (by rw [h4]; decide), if_pos hw]
  | int w q hs hq hn hd hv =>
    have h3 : ∀ c ∈ w, isPartC c = true := fun c hc => by rw [isPartC, List.all_eq_true.1 hd c hc]; simp
    have e : s.takeWhile isPartC = w := by rw [hs]; exact tw_app h3 hq
    have e2 : s.getD 0 default = w.getD 0 default := by rw [hs]; exact getD_app hn
    have h4 : isDigitC (w.getD 0 default) = true := by
      cases w with
      | nil => exact absurd rfl hn
      | cons a w => exact List.all_eq_true.1 hd a (by simp)
    have h5 : (w.getD 0 default == 98) = false ∧ isLetterC (w.getD 0 default) = false := by
      have := (digit_iff _).1 h4
      generalize w.getD 0 default = c at this ⊢
      refine ⟨?_, ?_⟩
      · rw [beq_eq_false_iff_ne]; rintro rfl; revert this; decide
      · rw [isLetterC]; simp only [Bool.or_eq_false_iff, Bool.and_eq_false_iff, decide_eq_false_iff_not]; omega
    rw [tok, if_neg (by rw [pre_two, e2, h5.1]; simp), e2, if_neg (by rw [h5.2]; decide), if_pos h4, e, if_pos (by rw [hd]; simpa using hv)]
  | bit c q hs hc =>
    subst hs
    rw [tok, if_neg (by rw [pre_two]; simp), if_neg (by show ¬ isLetterC 39 = true; decide), if_neg (by show ¬ isDigitC 39 = true; decide), if_pos (by rfl), if_pos (by rw [show (39 :: c :: 39 :: q).getD 1 default = c from rfl, hc]; simp)]; rfl
  | text _ q hs hv =>
    subst hs
    obtain ⟨h1, h2⟩ := quoted_of (u := t) (q := q) (fun c hc => by have := (plain_part c ((text_facts hv).2 c hc)).1; simpa using this)
    rw [tok, if_neg (by rw [pre_two]; simp), if_neg (by show ¬ isLetterC 34 = true; decide), if_neg (by show ¬ isDigitC 34 = true; decide), if_neg (by show ¬ ((34 : UInt8) == 39) = true; decide), if_pos (by rfl), h1, h2, hv]; rfl
  | sign _ q hs hf =>
    obtain ⟨h1, h2⟩ := find_len hf
    obtain ⟨a1, a2, a3, a4, a5, a6, a7, _⟩ := sign_all _ h1
    have e2 : s.getD 0 default = t.getD 0 default := by rw [hs]; exact getD_app a1
    rw [tok, if_neg (by rw [pre_two, e2, a7]; simp), e2, if_neg (by rw [a3]; decide), if_neg (by rw [a4]; decide), if_neg (by rw [a5]; decide), if_neg (by rw [a6]; decide), hf]
theorem find_congr {p q : Bs → Bool} : ∀ {l : List Bs}, (∀ x ∈ l, p x = q x) → l.find? p = l.find? q
  | [], _ => rfl
  | x :: l, h => by rw [List.find?_cons, List.find?_cons, h x (by simp), find_congr (fun y hy => h y (List.mem_cons_of_mem _ hy))]
theorem sign_two (s : Bs) : signsL.find? (fun x => x.isPrefixOf s) = signsL.find? (fun x => x.isPrefixOf (s.take 2)) := by
  refine find_congr fun x hx => ?_
  have := (sign_all x hx).2.1
  rw [Bool.eq_iff_iff, List.isPrefixOf_iff_prefix, List.isPrefixOf_iff_prefix, List.prefix_take_iff]
  exact ⟨fun h => ⟨h, this⟩, fun h => h.1⟩
theorem sign_end : ∀ x ∈ signsL, signsL.find? (fun y => y.isPrefixOf ((x ++ []).take 2)) = some x ∧ signsL.find? (fun y => y.isPrefixOf ((x ++ [32]).take 2)) = some x ∧ signsL.find? (fun y => y.isPrefixOf ((x ++ [10]).take 2)) = some x := by decide +kernel
theorem vec_ref (u : Bs) : ((decide ((u.length : Int) ≥ 1) && decide ((u.length : Int) ≤ 64)) && ((((u.drop 0).takeWhile (fun c => ofK c 2)).length : Int) == (u.length : Int))) = isVecL u := by
  rw [List.drop_zero, ofK_2, int_eq_nat, run_all, isVecL, Bool.and_assoc]
  cases u with
  | nil => rfl
  | cons a u =>
    congr 1
    · simp only [List.length_cons, List.isEmpty_cons, Bool.not_false, decide_eq_true_eq]; omega
    · congr 1
      rw [Bool.eq_iff_iff, decide_eq_true_eq, decide_eq_true_eq]; omega
theorem text_ref (u : Bs) : (decide ((u.length : Int) ≤ 60) && ((((u.drop 0).takeWhile (fun c => ofK c 3)).length : Int) == (u.length : Int))) = isTextL u := by
  rw [List.drop_zero, ofK_3, int_eq_nat, run_all, isTextL]
  congr 1
  rw [Bool.eq_iff_iff, decide_eq_true_eq, decide_eq_true_eq]; omega
theorem one_len {u : Bs} (h : ((u.length : Int) == 1) = true) : ∃ c, u = [c] := by
  rw [beq_iff_eq] at h
  match u, h with
  | [c], _ => exact ⟨c, rfl⟩
  | [], h => simp at h
  | a :: b :: u, h => simp only [List.length_cons] at h; omega
theorem poss_cases {t : Tk} (h : possT t = true) :
    (t.op = 1 ∧ t.n = 0 ∧ isNameL t.text = true) ∨ (t.op = 2 ∧ t.n = 0 ∧ isWordL t.text = true) ∨ (t.op = 3 ∧ t.text = [] ∧ 0 ≤ t.n ∧ t.n ≤ 2147483647) ∨ (t.op = 4 ∧ t.n = 0 ∧ ∃ c, t.text = [c] ∧ isBitC c = true) ∨
    (t.op = 5 ∧ t.n = 0 ∧ isVecL t.text = true) ∨ (t.op = 6 ∧ t.n = 0 ∧ isTextL t.text = true) ∨ (t.op = 7 ∧ t.n = 0 ∧ t.text ∈ signsL) := by
  rw [possT] at h
  cases e1 : t.op == 1 with
  | true => rw [e1, cond_true, Bool.and_eq_true, beq_iff_eq] at h; exact .inl ⟨eq_of_beq e1, h⟩
  | false =>
  rw [e1, cond_false] at h
  cases e2 : t.op == 2 with
  | true => rw [e2, cond_true, Bool.and_eq_true, beq_iff_eq] at h; exact .inr (.inl ⟨eq_of_beq e2, h⟩)
  | false =>
  rw [e2, cond_false] at h
  cases e3 : t.op == 3 with
  | true => rw [e3, cond_true, Bool.and_eq_true, Bool.and_eq_true, beq_iff_eq, decide_eq_true_eq, decide_eq_true_eq] at h; exact .inr (.inr (.inl ⟨eq_of_beq e3, h.1.1, h.1.2, h.2⟩))
  | false =>
  rw [e3, cond_false] at h
  cases e4 : t.op == 4 with
  | true =>
    rw [e4, cond_true, Bool.and_eq_true, Bool.and_eq_true, beq_iff_eq] at h
    obtain ⟨c, hc⟩ := one_len h.1.2
    refine .inr (.inr (.inr (.inl ⟨eq_of_beq e4, h.1.1, c, hc, ?_⟩)))
    have := h.2; rw [hc] at this; exact this
  | false =>
  rw [e4, cond_false] at h
  cases e5 : t.op == 5 with
  | true =>
    rw [e5, cond_true, Bool.and_assoc, Bool.and_assoc, Bool.and_eq_true, ← Bool.and_assoc, vec_ref, beq_iff_eq] at h
    exact .inr (.inr (.inr (.inr (.inl ⟨eq_of_beq e5, h⟩))))
  | false =>
  rw [e5, cond_false] at h
  cases e6 : t.op == 6 with
  | true =>
    rw [e6, cond_true, Bool.and_assoc, Bool.and_eq_true, text_ref, beq_iff_eq] at h
    exact .inr (.inr (.inr (.inr (.inr (.inl ⟨eq_of_beq e6, h⟩)))))
  | false =>
  rw [e6, cond_false] at h
  cases e7 : t.op == 7 with
  | true => rw [e7, cond_true, Bool.and_eq_true, beq_iff_eq, List.contains_iff_mem] at h; exact .inr (.inr (.inr (.inr (.inr (.inr ⟨eq_of_beq e7, h⟩)))))
  | false => rw [e7, cond_false] at h; cases h
theorem contains_one (l : Bs) (c : UInt8) : Lib.contains l [c] = l.contains c := by
  rw [Bool.eq_iff_iff, lib_contains, List.contains_iff_mem]
  constructor
  · rintro ⟨a, b, rfl⟩; simp
  · intro h
    obtain ⟨a, b, rfl⟩ := List.append_of_mem h
    exact ⟨a, b, by simp⟩
theorem wr_poss (t : Tk) : (wrP t).2 = possT t := by
  rw [wrP, possT]
  cases hn : t.n == 0 with
  | true =>
    rw [show ((t.op != 3) && (t.n != 0)) = false from by rw [bne, bne, hn]; simp, cond_false]
    cases e1 : t.op == 1 with
    | true => rfl
    | false =>
    cases e2 : t.op == 2 with
    | true => rfl
    | false =>
    cases e3 : t.op == 3 with
    | true => rfl
    | false =>
    cases e4 : t.op == 4 with
    | true =>
      show (((t.text.length : Int) == 1) && Lib.contains [48, 49, 120, 122] t.text) = ((true && ((t.text.length : Int) == 1)) && isBitC (t.text.getD 0 default))
      rw [Bool.true_and]
      cases hl : ((t.text.length : Int) == 1) with
      | false => rfl
      | true =>
        obtain ⟨c, hc⟩ := one_len hl
        rw [hc, contains_one, Bool.true_and, Bool.true_and]
        show _ = isBitC c
        rw [isBitC, List.contains_cons, List.contains_cons, List.contains_cons, List.contains_cons]; simp
    | false =>
    cases e5 : t.op == 5 with
    | true =>
      show (parseE t.text == 0) = (((true && decide ((t.text.length : Int) ≥ 1)) && decide ((t.text.length : Int) ≤ 64)) && ((((t.text.drop 0).takeWhile (fun c => ofK c 2)).length : Int) == (t.text.length : Int)))
      rw [Bool.true_and, vec_ref, parseE]
      cases isVecL t.text <;> rfl
    | false =>
    cases e6 : t.op == 6 with
    | true =>
      show isTextL t.text = ((true && decide ((t.text.length : Int) ≤ 60)) && ((((t.text.drop 0).takeWhile (fun c => ofK c 3)).length : Int) == (t.text.length : Int)))
      rw [Bool.true_and, text_ref]
    | false =>
    cases e7 : t.op == 7 with
    | true => rfl
    | false => rfl
  | false =>
    cases e3 : t.op == 3 with
    | false =>
      rw [show ((t.op != 3) && (t.n != 0)) = true from by rw [bne, bne, hn, e3]; rfl]
      cases e1 : t.op == 1 <;> cases e2 : t.op == 2 <;> cases e4 : t.op == 4 <;> cases e5 : t.op == 5 <;> cases e6 : t.op == 6 <;> cases e7 : t.op == 7 <;> rfl
    | true =>
      have e : t.op = 3 := eq_of_beq e3
      rw [e]; rfl
theorem wr_wri {t : Tk} (h : possT t = true) : (wrP t).1 = wri t := by
  have hp := poss_cases h
  rw [wrP, wri]
  rcases hp with ⟨e, h⟩ | ⟨e, h⟩ | ⟨e, h⟩ | ⟨e, h⟩ | ⟨e, h⟩ | ⟨e, h⟩ | ⟨e, h⟩ <;> rw [e] <;> (try rw [h.1]) <;> rfl
theorem decV_snoc (w : Bs) (c : UInt8) : decV (w ++ [c]) = 10 * decV w + (c.toNat - 48) := by simp [decV, List.foldl_append]
theorem digit_nat (k : Nat) (h : k < 10) : (UInt8.ofNat (48 + k)).toNat = 48 + k := by rw [UInt8.toNat_ofNat']; omega
theorem dec_digits (n : Nat) : (Lib.decDigits n).all isDigitC = true ∧ decV (Lib.decDigits n) = n ∧ Lib.decDigits n ≠ [] := by
  induction n using Nat.strongRecOn with
  | ind n ih =>
    rw [Lib.decDigits]
    split
    · rename_i h
      have h1 := digit_nat n h
      refine ⟨?_, ?_, by simp⟩
      · rw [List.all_cons, List.all_nil, Bool.and_true, digit_iff, h1]; omega
      · show 10 * 0 + ((UInt8.ofNat (48 + n)).toNat - 48) = n
        rw [h1]; omega
    · rename_i h
      obtain ⟨i1, i2, i3⟩ := ih (n / 10) (by omega)
      have h1 := digit_nat (n % 10) (by omega)
      refine ⟨?_, ?_, by simp⟩
      · rw [List.all_append, i1, Bool.true_and, List.all_cons, List.all_nil, Bool.and_true, digit_iff, h1]; omega
      · rw [decV_snoc, i2, h1]; omega
theorem itoa_nat (k : Nat) : Lib.itoa (k : Int) = Lib.decDigits k := by rw [Lib.itoa, if_neg (by omega), Int.toNat_natCast]
theorem pre_no {w : Bs} (hw : ∀ c ∈ w, isPartC c = true) : [98, 34].isPrefixOf w = false := by
  rw [pre_two]
  match w, hw with
  | [], _ => rfl
  | [a], _ => simp
  | a :: b :: w, hw =>
    have := hw b (by simp)
    have h34 : (some b == some (34 : UInt8)) = false := by
      rw [beq_eq_false_iff_ne]; intro e; cases e; revert this; decide
    simp only [List.tail_cons, List.head?_cons, h34, Bool.and_false]
theorem wri_shape {t : Tk} (h : possT t = true) : Shape (wri t) t.op t.text t.n (wri t).length := by
  rcases poss_cases h with ⟨e, h⟩ | ⟨e, h⟩ | ⟨e, h⟩ | ⟨e, h⟩ | ⟨e, h⟩ | ⟨e, h⟩ | ⟨e, h⟩
  · rw [show wri t = t.text from by rw [wri, e]; rfl, e, h.1]
    exact .name t.text [] (by simp) (by intro c hc; cases hc) (pre_no (name_facts h.2).2.2.2.1) h.2
  · rw [show wri t = t.text from by rw [wri, e]; rfl, e, h.1]
    exact .word t.text [] (by simp) (by intro c hc; cases hc) (pre_no (word_facts h.2).2.2.2) h.2
  · obtain ⟨h1, h2, h3⟩ := h
    obtain ⟨k, hk⟩ := Int.eq_ofNat_of_zero_le h2
    obtain ⟨d1, d2, d3⟩ := dec_digits k
    rw [show wri t = Lib.decDigits k from by rw [wri, e, hk, ← itoa_nat]; rfl, e, h1, hk]
    have := Shape.int (s := Lib.decDigits k) (Lib.decDigits k) [] (by simp) (by intro c hc; cases hc) d3 d1 (by omega)
    rw [d2] at this
    exact this
  · obtain ⟨h1, c, h2, h3⟩ := h
    rw [show wri t = [39, c, 39] from by rw [wri, e, h2]; rfl, e, h1, h2]
    exact .bit c [] rfl h3
  · rw [show wri t = 98 :: 34 :: (t.text ++ 34 :: []) from by rw [wri, e]; rfl, e, h.1]
    have := Shape.vec (s := 98 :: 34 :: (t.text ++ 34 :: [])) t.text [] rfl h.2
    simpa using this
  · rw [show wri t = 34 :: (t.text ++ 34 :: []) from by rw [wri, e]; rfl, e, h.1]
    have := Shape.text (s := 34 :: (t.text ++ 34 :: [])) t.text [] rfl h.2
    simpa using this
  · rw [show wri t = t.text from by rw [wri, e]; rfl, e, h.1]
    have h1 := (sign_end _ h.2).1
    rw [List.append_nil, ← sign_two] at h1
    exact .sign t.text [] (by simp) h1
theorem poss_small {t : Tk} (h : possT t = true) : t.text.length ≤ 64 ∧ 0 ≤ t.n ∧ t.n ≤ 2147483647 ∧ (wri t).length ≤ t.text.length + 10 ∧ 1 ≤ (wri t).length := by
  have hs := tok_len (of_shape (wri_shape h))
  refine (and_assoc.1 (and_assoc.1 (and_assoc.1 ⟨?_, hs.1⟩)))
  rcases poss_cases h with ⟨e, h⟩ | ⟨e, h⟩ | ⟨e, h⟩ | ⟨e, h⟩ | ⟨e, h⟩ | ⟨e, h⟩ | ⟨e, h⟩
  · have := (name_facts h.2).2.1
    rw [show wri t = t.text from by rw [wri, e]; rfl]; omega
  · have := (word_facts h.2).2.1
    rw [show wri t = t.text from by rw [wri, e]; rfl]; omega
  · obtain ⟨h1, h2, h3⟩ := h
    obtain ⟨k, hk⟩ := Int.eq_ofNat_of_zero_le h2
    have := decDigits_len 9 k (by show k < 10000000000; omega)
    rw [show wri t = Lib.decDigits k from by rw [wri, e, hk, ← itoa_nat]; rfl, h1]
    simp only [List.length_nil]; omega
  · obtain ⟨h1, c, h2, h3⟩ := h
    rw [show wri t = [39, c, 39] from by rw [wri, e, h2]; rfl, h2]
    simp only [List.length_cons, List.length_nil]; omega
  · have := (vec_facts h.2).2.1
    rw [show wri t = 98 :: 34 :: (t.text ++ [34]) from by rw [wri, e]; rfl]
    simp only [List.length_cons, List.length_append, List.length_nil]; omega
  · have := (text_facts h.2).1
    rw [show wri t = 34 :: (t.text ++ [34]) from by rw [wri, e]; rfl]
    simp only [List.length_cons, List.length_append, List.length_nil]; omega
  · have := (sign_all _ h.2).2.1
    rw [show wri t = t.text from by rw [wri, e]; rfl]; omega
theorem text_len {l : List Tk} (ha : ∀ k, k < l.length → (wrP (l.getD k default)).2 = true) (hl : l.length ≤ 20000) : (Lib.join (l.map fun t => (wrP t).1) [32]).length ≤ 140737488355328 := by
  have := join_len (l := l.map fun t => (wrP t).1) (n := 100) (fun x hx => by
    obtain ⟨t, ht, rfl⟩ := List.mem_map.1 hx
    obtain ⟨i, hi, rfl⟩ := List.getElem_of_mem ht
    have h1 := ha i hi
    rw [List.getD_eq_getElem?_getD, List.getElem?_eq_getElem hi, Option.getD_some, wr_poss] at h1
    have h2 := poss_small h1
    rw [wr_wri h1]; omega)
  rw [List.length_map] at this
  have h2 := Nat.mul_le_mul_right (100 + 1) hl
  omega
inductive Run (s : Bs) : Nat → List (Nat × Tk) → Option Nat → Prop
  | done (i : Nat) (hi : i ≤ s.length) (h : nextAt s i = s.length) : Run s i [] none
  | bad (i j : Nat) (hi : i ≤ s.length) (hj : nextAt s i = j) (hlt : j < s.length) (ht : tok (s.drop j) = none) : Run s i [] (some j)
  | step (i j : Nat) (op : Int) (t : Bs) (n : Int) (m : Nat) (l : List (Nat × Tk)) (e : Option Nat) (hi : i ≤ s.length) (hj : nextAt s i = j) (hlt : j < s.length) (ht : tok (s.drop j) = some (op, t, n, m)) (h : Run s (j + m) l e) :
      Run s i ((j, ⟨op, t, n, (place s j).1, (place s j).2⟩) :: l) e
def endF (s : Bs) : Option Nat → Flt
  | none => okF
  | some j => badF s j
theorem run_ex (s : Bs) : ∀ (k i : Nat), i ≤ s.length → s.length - i ≤ k → ∃ l e, Run s i l e ∧ lexFrom s i = (l.map (·.2), endF s e) := by
  intro k
  induction k with
  | zero =>
    intro i hi hk
    have hn := nextAt_le s i hi
    exact ⟨[], none, .done i hi (by omega), by rw [lexFrom_end s i hi (by omega)]; rfl⟩
  | succ k ih =>
    intro i hi hk
    have hn := nextAt_le s i hi
    by_cases hlt : nextAt s i < s.length
    · cases ht : tok (s.drop (nextAt s i)) with
      | none => exact ⟨[], some (nextAt s i), .bad i _ hi rfl hlt ht, by rw [lexFrom_none s i hi hlt ht]; rfl⟩
      | some x =>
        obtain ⟨op, t, n, m⟩ := x
        obtain ⟨h1, h2⟩ := tok_len ht
        rw [List.length_drop] at h2
        obtain ⟨l, e, h3, h4⟩ := ih (nextAt s i + m) (by omega) (by omega)
        exact ⟨_, e, .step i _ op t n m l e hi rfl hlt ht h3, by rw [lexFrom_some s i hi hlt ht, h4]; rfl⟩
    · exact ⟨[], none, .done i hi (by omega), by rw [lexFrom_end s i hi hlt]; rfl⟩
end Go.Proofs.YtcgdlhkiecommaaGreatDoor
/- Faults that are the same, or are not. -/


namespace Go.Proofs.YtcgdlhkiecommaaGreatDoor
open Go
theorem flt_run (f g : Flt) (w : World) : (Op.equal 40 (.agg #[.int .i64 f.code, .string (str f.name), .int .i64 f.line, .int .i64 f.col]) (.agg #[.int .i64 g.code, .string (str g.name), .int .i64 g.line, .int .i64 g.col])).run Tryz.prog w = .ok (decide (f = g)) w := by
  have hS : Tryz.prog.underlying 40 = some (.struct (Tryz.prog.fieldsOf 40)) := by kernel_rfl
  have hp : Tryz.prog.stoodInHeld 40 = false := by kernel_rfl
  have p : ∀ (e : TypeId) (xs : Array Value) (i : Nat) (v : Value) (w : World), Tryz.prog.plainKey e = true → xs[i]? = some v → (part e xs i).run Tryz.prog w = .ok v w := fun e xs i v w he hx => run_part_plain w he hx
  have k1 : Tryz.prog.plainKey 38 = true := by kernel_rfl
  have k2 : Tryz.prog.plainKey 9 = true := by kernel_rfl
  have k3 : Tryz.prog.plainKey 3 = true := by kernel_rfl
  have q1 : ∀ (a b : Int) (w : World), (Op.equalIn 9999 38 (.int .i64 a) (.int .i64 b)).run Tryz.prog w = .ok (a == b) w := fun a b w => run_equalIn_int w 9998 _ _ _ a b Tryz.underlying38
  have q3 : ∀ (a b : Int) (w : World), (Op.equalIn 9999 3 (.int .i64 a) (.int .i64 b)).run Tryz.prog w = .ok (a == b) w := fun a b w => run_equalIn_int w 9998 _ _ _ a b Tryz.underlying3
  have q2 : ∀ (a b : Bs) (w : World), (Op.equalIn 9999 9 (.string (str a)) (.string (str b))).run Tryz.prog w = .ok (a == b) w := fun a b w => by
    rw [run_equalIn_string w 9998 _ _ _ Tryz.underlying9, str_toList, str_toList]
  have r0 : ∀ (a : Int) (b : Bs) (c d : Int) (w : World), (part 38 #[.int .i64 a, .string (str b), .int .i64 c, .int .i64 d] 0).run Tryz.prog w = .ok (.int .i64 a) w := fun a b c d w => p _ _ 0 _ w k1 rfl
  have r1 : ∀ (a : Int) (b : Bs) (c d : Int) (w : World), (part 9 #[.int .i64 a, .string (str b), .int .i64 c, .int .i64 d] 1).run Tryz.prog w = .ok (.string (str b)) w := fun a b c d w => p _ _ 1 _ w k2 rfl
  have r2 : ∀ (a : Int) (b : Bs) (c d : Int) (w : World), (part 3 #[.int .i64 a, .string (str b), .int .i64 c, .int .i64 d] 2).run Tryz.prog w = .ok (.int .i64 c) w := fun a b c d w => p _ _ 2 _ w k3 rfl
  have r3 : ∀ (a : Int) (b : Bs) (c d : Int) (w : World), (part 3 #[.int .i64 a, .string (str b), .int .i64 c, .int .i64 d] 3).run Tryz.prog w = .ok (.int .i64 d) w := fun a b c d w => p _ _ 3 _ w k3 rfl
  show (Op.equalIn (9999 + 1) 40 _ _).run Tryz.prog w = _
  rw [run_equalIn_struct w 9999 _ _ _ hS hp]
  simp only [Program.fieldsOf, Tryz.underlying40]
  obtain ⟨a, b, c, d⟩ := f
  obtain ⟨a', b', c', d'⟩ := g
  simp only [Op.eqFields, Sem.run_bind, Sem.run_ite, r0, r1, r2, r3, Result.andThen_ok, q1, q2, q3, Sem.run_pure, Flt.mk.injEq]
  by_cases h1 : a = a' <;> by_cases h2 : b = b' <;> by_cases h3 : c = c' <;> by_cases h4 : d = d' <;> simp [h1, h2, h3, h4]
end Go.Proofs.YtcgdlhkiecommaaGreatDoor
/- What the laws ask of tokens, strings and faults. -/


namespace Go.Proofs.YtcgdlhkiecommaaGreatDoor
open Go
theorem pl_line {s : Bs} {i : Nat} (h : i < s.length) (hc : (((s.getD i default).toNat : Int) == 10) = true) : place s (i + 1) = ((place s i).1 + 1, 1) := by
  have : (s.getD i default == 10) = true := by rw [← u8_int]; exact hc
  rw [place_succ s i h, if_pos this]
theorem pl_col {s : Bs} {i : Nat} (h : i < s.length) (hc : (((s.getD i default).toNat : Int) == 10) = false) : place s (i + 1) = ((place s i).1, (place s i).2 + 1) := by
  have : (s.getD i default == 10) = false := by rw [← u8_int]; exact hc
  rw [place_succ s i h, if_neg (by rw [this]; decide)]
end Go.Proofs.YtcgdlhkiecommaaGreatDoor
/- Where tokens stand. -/

namespace Go.Proofs.YtcgdlhkiecommaaGreatDoor
open Go
theorem val_as {P : Program} {o : Oper} {E : Operand → Option AVal} {σ σ' : Store} {a : AVal} (b : AVal) (h : OpTo P o E σ a σ') (e : a = b) : OpTo P o E σ b σ' := e ▸ h
end Go.Proofs.YtcgdlhkiecommaaGreatDoor
/- The reference's tokens: numbers, quotes, one token. -/

namespace Go.Proofs.YtcgdlhkiecommaaGreatDoor
open Go
theorem isBlankC_int (c : UInt8) : (((((c.toNat : Int) == 32) || ((c.toNat : Int) == 9)) || ((c.toNat : Int) == 13)) || ((c.toNat : Int) == 10)) = isBlankC c := by
  rw [isBlankC, ← u8_int c 32, ← u8_int c 9, ← u8_int c 13, ← u8_int c 10, Bool.or_assoc, Bool.or_assoc]; rfl
theorem tw_mem {p : UInt8 → Bool} : ∀ {l : Bs} {c : UInt8}, c ∈ l.takeWhile p → p c = true
  | [], c, h => by simp at h
  | d :: l, c, h => by
    rw [List.takeWhile_cons] at h
    cases hd : p d with
    | false => rw [hd] at h; simp at h
    | true =>
      rw [hd, if_pos rfl, List.mem_cons] at h
      rcases h with rfl | h
      · exact hd
      · exact tw_mem h
def numR (s : Bs) : Int := if decV s ≤ 2147483647 then (decV s : Int) else -1
theorem decV_take {s : Bs} {i : Nat} (h : i < s.length) : decV (s.take (i + 1)) = 10 * decV (s.take i) + ((s.getD i default).toNat - 48) := by
  rw [take_snoc s i h, decV_snoc]
theorem decI_take {s : Bs} {i : Nat} (h : i < s.length) (hd : 48 ≤ (s.getD i default).toNat) : (10 : Int) * (decV (s.take i) : Int) + (((s.getD i default).toNat : Int) - 48) = (decV (s.take (i + 1)) : Int) := by
  rw [decV_take h]; omega
theorem decV_app (a b : Bs) : decV a ≤ decV (a ++ b) := by
  have : decV (a ++ b) = decFrom (decV a) b := by simp [decV, decFrom, List.foldl_append]
  rw [this]; exact decFrom_ge b _
theorem decV_mono (s : Bs) (i : Nat) : decV (s.take i) ≤ decV s := by
  have := decV_app (s.take i) (s.drop i)
  rwa [List.take_append_drop] at this
theorem digit_at {s : Bs} (hd : s.all isDigitC = true) {i : Nat} (h : i < s.length) : 48 ≤ (s.getD i default).toNat ∧ (s.getD i default).toNat ≤ 57 := by
  rw [← digit_iff]
  exact List.all_eq_true.1 hd _ (getD_mem h)
theorem num_big {s : Bs} {i : Nat} (h : i < s.length) (hd : s.all isDigitC = true) (hb : decide ((10 : Int) * (decV (s.take i) : Int) + (((s.getD i default).toNat : Int) - 48) > 2147483647) = true) : numR s = -1 := by
  rw [decI_take h (digit_at hd h).1, decide_eq_true_eq] at hb
  have := decV_mono s (i + 1)
  rw [numR, if_neg (by omega)]
theorem num_fits {s : Bs} (h : decV (s.take s.length) ≤ 2147483647) : ((decV (s.take s.length) : Nat) : Int) = numR s := by
  rw [List.take_length] at h ⊢
  rw [numR, if_pos h]
def quoN (s : Bs) (j : Nat) (k : Int) : Nat := ((s.drop (j + 1)).takeWhile (ofK · k)).length
def quoI (s : Bs) (j : Nat) (k lo hi : Int) : Int :=
  bif decide ((j : Int) ≥ (s.length : Int)) || (((s.getD j default).toNat : Int) != 34) then -1 else
  bif ((decide ((quoN s j k : Int) < lo) || decide ((quoN s j k : Int) > hi)) || decide (((j : Int) + 1) + (quoN s j k : Int) ≥ (s.length : Int))) || (((s.getD (((j : Int) + 1) + (quoN s j k : Int)).toNat default).toNat : Int) != 34) then -1 else (quoN s j k : Int)
theorem drop_one {s : Bs} {j : Nat} {c : UInt8} {r : Bs} (h : s.drop j = c :: r) : s.drop (j + 1) = r ∧ j < s.length ∧ s.getD j default = c := by
  have h1 : s.drop (j + 1) = (s.drop j).drop 1 := by rw [List.drop_drop]
  have h2 := congrArg List.length h
  rw [List.length_drop, List.length_cons] at h2
  refine ⟨by rw [h1, h]; rfl, by omega, ?_⟩
  have := getD_drop (s := s) (i := j) (q := 0)
  rw [h, Nat.add_zero] at this
  exact this.symm
theorem quo_of {s : Bs} {j : Nat} {k lo hi : Int} {u q : Bs} (hd : s.drop j = 34 :: (u ++ 34 :: q)) (hk : ofK 34 k = false) (hu : ∀ c ∈ u, ofK c k = true) (h1 : lo ≤ u.length) (h2 : (u.length : Int) ≤ hi) : quoI s j k lo hi = u.length := by
  obtain ⟨e1, e2, e3⟩ := drop_one hd
  have hn : quoN s j k = u.length := by
    rw [quoN, e1, tw_app hu (by intro c hc; simp at hc; subst hc; exact hk)]
  have hl := congrArg List.length e1
  rw [List.length_drop, List.length_append, List.length_cons] at hl
  have e4 : s.getD (j + 1 + u.length) default = 34 := by
    rw [← getD_drop, e1, List.getD_eq_getElem?_getD, List.getElem?_append_right (Nat.le_refl _), Nat.sub_self]; rfl
  have b1 : (decide ((j : Int) ≥ (s.length : Int)) || (((s.getD j default).toNat : Int) != 34)) = false := by
    rw [e3, decide_eq_false (by omega)]; rfl
  have e5 : (((j : Int) + 1) + (u.length : Int)).toNat = j + 1 + u.length := by omega
  rw [quoI, b1, cond_false, hn, e5, e4, decide_eq_false (by omega), decide_eq_false (by omega), decide_eq_false (by omega)]; rfl
theorem quo_inv {s : Bs} {j : Nat} {k lo hi : Int} (h : decide (quoI s j k lo hi ≥ 0) = true) : ∃ u q, s.drop j = 34 :: (u ++ 34 :: q) ∧ (∀ c ∈ u, ofK c k = true) ∧ lo ≤ u.length ∧ (u.length : Int) ≤ hi ∧ quoI s j k lo hi = u.length := by
  rw [decide_eq_true_eq] at h
  cases b1 : (decide ((j : Int) ≥ (s.length : Int)) || (((s.getD j default).toNat : Int) != 34)) with
  | true => rw [quoI, b1, cond_true] at h; omega
  | false =>
    rw [quoI, b1, cond_false] at h
    rw [quoI, b1, cond_false]
    cases b2 : (((decide ((quoN s j k : Int) < lo) || decide ((quoN s j k : Int) > hi)) || decide (((j : Int) + 1) + (quoN s j k : Int) ≥ (s.length : Int))) || (((s.getD (((j : Int) + 1) + (quoN s j k : Int)).toNat default).toNat : Int) != 34)) with
    | true => rw [b2, cond_true] at h; omega
    | false =>
      rw [cond_false]
      simp only [Bool.or_eq_false_iff, decide_eq_false_iff_not, bne_eq_false_iff_eq] at b1 b2
      obtain ⟨b1, b3⟩ := b1
      obtain ⟨⟨⟨c1, c2⟩, c3⟩, c4⟩ := b2
      have e5 : (((j : Int) + 1) + (quoN s j k : Int)).toNat = j + 1 + quoN s j k := by omega
      rw [e5] at c4
      have t1 : s.getD j default = 34 := UInt8.toNat_inj.1 (by show _ = 34; omega)
      have t2 : s.getD (j + 1 + quoN s j k) default = 34 := UInt8.toNat_inj.1 (by show _ = 34; omega)
      have d1 : s.drop j = 34 :: s.drop (j + 1) := by rw [drop_cons s j (by omega), t1]
      have d2 : s.drop (j + 1 + quoN s j k) = 34 :: s.drop (j + 1 + quoN s j k + 1) := by rw [drop_cons s _ (by omega), t2]
      have d3 : s.drop (j + 1) = (s.drop (j + 1)).takeWhile (ofK · k) ++ 34 :: s.drop (j + 1 + quoN s j k + 1) := by
        have e := List.prefix_iff_eq_take.1 (List.takeWhile_prefix (ofK · k) (l := s.drop (j + 1)))
        conv => lhs; rw [← List.take_append_drop (quoN s j k) (s.drop (j + 1)), List.drop_drop, d2]
        rw [quoN, ← e]
      refine ⟨_, _, by rw [d1]; exact congrArg _ d3, fun c hc => tw_mem hc, ?_, ?_, rfl⟩
      · show lo ≤ (quoN s j k : Int); omega
      · show (quoN s j k : Int) ≤ hi; omega
theorem b46 {s : Bs} {i : Nat} (h : i < s.length) : (((((s.drop i).getD 0 default).toNat : Int) == 98) && decide ((i : Int) + 1 < (s.length : Int)) && (((s.getD ((i : Int) + 1).toNat default).toNat : Int) == 34)) = [98, 34].isPrefixOf (s.drop i) := by
  have e : ((i : Int) + 1).toNat = i + 1 := by omega
  have hd := drop_cons s i h
  rw [pre_two, e, hd]
  show ((((s.getD i default).toNat : Int) == 98) && _ && _) = (s.getD i default == 98 && (s.drop (i + 1)).head? == some 34)
  rw [← u8_int (s.getD i default) 98, Bool.and_assoc]
  congr 1
  by_cases h2 : i + 1 < s.length
  · rw [decide_eq_true (by omega), drop_cons s (i + 1) h2, List.head?_cons, Bool.true_and]
    show _ = (s.getD (i + 1) default == 34)
    rw [← u8_int]; rfl
  · rw [decide_eq_false (by omega), List.drop_eq_nil_iff.2 (by omega)]; rfl
theorem run_cut {d : Bs} {p : UInt8 → Bool} {i : Nat} : d.take (i + (d.takeWhile p).length - i) = d.takeWhile p := by
  rw [Nat.add_sub_cancel_left]
  exact (List.prefix_iff_eq_take.1 (List.takeWhile_prefix p)).symm
theorem vec_of {u : Bs} (h : ∀ c ∈ u, ofK c 2 = true) (h1 : (1 : Int) ≤ u.length) (h2 : (u.length : Int) ≤ 64) : isVecL u = true := by
  rw [isVecL, Bool.and_eq_true, Bool.and_eq_true, decide_eq_true_eq, List.all_eq_true]
  refine ⟨?_, by omega, h⟩
  cases u with
  | nil => simp at h1
  | cons => rfl
theorem text_of {u : Bs} (h : ∀ c ∈ u, ofK c 3 = true) (h2 : (u.length : Int) ≤ 60) : isTextL u = true := by
  rw [isTextL, Bool.and_eq_true, decide_eq_true_eq, List.all_eq_true]
  exact ⟨by omega, h⟩
theorem tokA_of {d : Bs} {op : Int} {t : Bs} {n : Int} {m : Nat} (h : Shape d op t n m) : tokA d = (op, t, n, m) := by rw [tokA, of_shape h]; rfl
theorem tokA_no {d : Bs} (h : tok d = none) : tokA d = (0, [], 0, 0) := by rw [tokA, h]; rfl
section
variable {s : Bs} {i : Nat}
theorem rt_vec (h0 : [98, 34].isPrefixOf (s.drop i) = true) (h : decide (quoI s (i + 1) 2 1 64 ≥ 0) = true) : ∃ n : Nat, quoI s (i + 1) 2 1 64 = n ∧ i + 2 + n ≤ s.length ∧ tokA (s.drop i) = (5, (s.drop (i + 2)).take (i + 2 + n - (i + 2)), 0, n + 3) := by
  obtain ⟨u, q, hd, hu, h1, h2, h3⟩ := quo_inv h
  obtain ⟨r, hr⟩ := List.isPrefixOf_iff_prefix.1 h0
  have hr2 : s.drop i = 98 :: 34 :: r := hr.symm
  have e1 := (drop_one hr2).1
  have e2 := (drop_one hd).1
  have hl := congrArg List.length e2
  rw [List.length_drop, List.length_append, List.length_cons] at hl
  rw [e1] at hd
  refine ⟨u.length, h3, by have := (drop_one (j := i + 1) (by rw [e1, hd])).2.1; omega, ?_⟩
  have := Shape.vec (s := s.drop i) u q (by rw [hr2, hd]) (vec_of hu h1 h2)
  rw [tokA_of this, show i + 1 + 1 = i + 2 from rfl] at *
  rw [e2, Nat.add_sub_cancel_left, List.take_left]
theorem rt_novec (h0 : [98, 34].isPrefixOf (s.drop i) = true) (h : decide (quoI s (i + 1) 2 1 64 ≥ 0) = false) : tokA (s.drop i) = (0, [], 0, 0) := by
  refine tokA_no ?_
  cases ht : tok (s.drop i) with
  | none => rfl
  | some x =>
    exfalso
    rw [tok, if_pos h0] at ht
    split at ht
    · rename_i hc
      rw [Bool.and_eq_true] at hc
      obtain ⟨q, hq⟩ := quoted_split hc.1
      obtain ⟨v1, v2, v3⟩ := vec_facts hc.2
      have e : s.drop (i + 1) = (s.drop i).tail := by rw [List.tail_drop]
      have := quo_of (s := s) (j := i + 1) (k := 2) (lo := 1) (hi := 64) (by rw [e]; exact hq) (by decide) v3 (by omega) (by omega)
      rw [this, decide_eq_false_iff_not] at h
      omega
    · cases ht
variable (h0 : [98, 34].isPrefixOf (s.drop i) = false) (hl : isLetterC ((s.drop i).getD 0 default) = false)
include h0 hl
theorem rt_int (h1 : isDigitC ((s.drop i).getD 0 default) = true) : tok (s.drop i) = if ((s.drop i).takeWhile isPartC).all isDigitC && decide (decV ((s.drop i).takeWhile isPartC) ≤ 2147483647) then some ((3 : Int), ([] : Bs), ((decV ((s.drop i).takeWhile isPartC) : Nat) : Int), ((s.drop i).takeWhile isPartC).length) else none := by
  rw [tok, if_neg (by rw [h0]; decide), if_neg (by rw [hl]; decide), if_pos h1]
variable (hd : isDigitC ((s.drop i).getD 0 default) = false)
include hd
theorem rt_39 (h : ((((s.drop i).getD 0 default).toNat : Int) == 39) = true) : tok (s.drop i) = if decide ((s.drop i).length > 2) && ((s.drop i).getD 2 default == 39 && isBitC ((s.drop i).getD 1 default)) then some (4, [(s.drop i).getD 1 default], 0, 3) else none := by
  rw [tok, if_neg (by rw [h0]; decide), if_neg (by rw [hl]; decide), if_neg (by rw [hd]; decide), if_pos (by rw [← u8_int]; exact h)]
theorem rt_34 (h9 : ((((s.drop i).getD 0 default).toNat : Int) == 39) = false) (h : ((((s.drop i).getD 0 default).toNat : Int) == 34) = true) : tok (s.drop i) = if quotedOK (s.drop i) && isTextL (quotedT (s.drop i)) then some (6, quotedT (s.drop i), 0, (quotedT (s.drop i)).length + 2) else none := by
  have e : ((s.drop i).getD 0 default == 39) = false := by rw [← u8_int]; exact h9
  rw [tok, if_neg (by rw [h0]; decide), if_neg (by rw [hl]; decide), if_neg (by rw [hd]; decide), if_neg (by rw [e]; decide), if_pos (by rw [← u8_int]; exact h)]
theorem rt_text (h9 : ((((s.drop i).getD 0 default).toNat : Int) == 39) = false) (h4 : ((((s.drop i).getD 0 default).toNat : Int) == 34) = true) (h : decide (quoI s i 3 0 60 ≥ 0) = true) : ∃ n : Nat, quoI s i 3 0 60 = n ∧ i + 1 + n ≤ s.length ∧ tokA (s.drop i) = (6, (s.drop (i + 1)).take (i + 1 + n - (i + 1)), 0, n + 2) := by
  obtain ⟨u, q, hq, hu, h1, h2, h3⟩ := quo_inv h
  obtain ⟨e2, e3, _⟩ := drop_one hq
  have hl := congrArg List.length e2
  rw [List.length_drop, List.length_append, List.length_cons] at hl
  refine ⟨u.length, h3, by omega, ?_⟩
  rw [tokA_of (Shape.text (s := s.drop i) u q hq (text_of hu h2)), e2, Nat.add_sub_cancel_left, List.take_left]
theorem rt_notext (h9 : ((((s.drop i).getD 0 default).toNat : Int) == 39) = false) (h4 : ((((s.drop i).getD 0 default).toNat : Int) == 34) = true) (h : decide (quoI s i 3 0 60 ≥ 0) = false) : tokA (s.drop i) = (0, [], 0, 0) := by
  refine tokA_no ?_
  rw [rt_34 h0 hl hd h9 h4, if_neg]
  intro hc
  rw [Bool.and_eq_true] at hc
  obtain ⟨q, hq⟩ := quoted_split hc.1
  obtain ⟨v1, v2⟩ := text_facts hc.2
  have := quo_of (s := s) (j := i) (k := 3) (lo := 0) (hi := 60) hq (by decide) v2 (by omega) (by omega)
  rw [this, decide_eq_false_iff_not] at h
  omega
theorem bit_cond (hi : i < s.length) : ((decide ((i : Int) + 2 < (s.length : Int)) && isBitC (s.getD ((i : Int) + 1).toNat default)) && (((s.getD ((i : Int) + 2).toNat default).toNat : Int) == 39)) = (decide ((s.drop i).length > 2) && ((s.drop i).getD 2 default == 39 && isBitC ((s.drop i).getD 1 default))) := by
  rw [show ((i : Int) + 1).toNat = i + 1 from by omega, show ((i : Int) + 2).toNat = i + 2 from by omega, getD_drop, getD_drop, List.length_drop, ← u8_int (s.getD (i + 2) default) 39, Bool.and_assoc]
  congr 1
  · rw [Bool.eq_iff_iff, decide_eq_true_eq, decide_eq_true_eq]; omega
  · rw [Bool.and_comm]; rfl
theorem rt_bit (hi : i < s.length) (h : ((((s.drop i).getD 0 default).toNat : Int) == 39) = true) (hc : ((decide ((i : Int) + 2 < (s.length : Int)) && isBitC (s.getD ((i : Int) + 1).toNat default)) && (((s.getD ((i : Int) + 2).toNat default).toNat : Int) == 39)) = true) : i + 2 < s.length ∧ tokA (s.drop i) = (4, (s.drop (i + 1)).take (i + 2 - (i + 1)), 0, 3) := by
  have hlt : i + 2 < s.length := by
    rw [Bool.and_eq_true, Bool.and_eq_true, decide_eq_true_eq] at hc; omega
  refine ⟨hlt, ?_⟩
  rw [bit_cond h0 hl hd hi] at hc
  rw [tokA, rt_39 h0 hl hd h, if_pos hc, drop_cons s (i + 1) (by omega), show i + 2 - (i + 1) = 1 from by omega, getD_drop]; rfl
theorem rt_nobit (hi : i < s.length) (h : ((((s.drop i).getD 0 default).toNat : Int) == 39) = true) (hc : ((decide ((i : Int) + 2 < (s.length : Int)) && isBitC (s.getD ((i : Int) + 1).toNat default)) && (((s.getD ((i : Int) + 2).toNat default).toNat : Int) == 39)) = false) : tokA (s.drop i) = (0, [], 0, 0) := by
  rw [bit_cond h0 hl hd hi] at hc
  rw [tokA, rt_39 h0 hl hd h, if_neg (by rw [hc]; decide)]; rfl
end
theorem digit_tw {d : Bs} : (d.takeWhile isDigitC).all isDigitC = true := by
  rw [List.all_eq_true]; intro c hc; exact tw_mem hc
theorem digit_part {d : Bs} (h : ((d.takeWhile isPartC).length : Int) = ((d.takeWhile isDigitC).length : Int)) : d.takeWhile isPartC = d.takeWhile isDigitC := by
  have e1 := List.prefix_iff_eq_take.1 (List.takeWhile_prefix isPartC (l := d))
  have e2 := List.prefix_iff_eq_take.1 (List.takeWhile_prefix isDigitC (l := d))
  rw [e1, e2, show (d.takeWhile isPartC).length = (d.takeWhile isDigitC).length from by omega]
theorem digit_all {d : Bs} (h : (d.takeWhile isPartC).all isDigitC = true) : d.takeWhile isDigitC = d.takeWhile isPartC := by
  have hp : ∀ c, isPartC c = false → isDigitC c = false := by
    intro c hc
    rw [isPartC, Bool.or_eq_false_iff, Bool.or_eq_false_iff] at hc; exact hc.1.2
  conv => lhs; rw [tw_parts d]
  exact tw_app (fun c hc => List.all_eq_true.1 h c hc) (fun c hc => hp c (tw_head hc))
theorem int_cond {d : Bs} : (decide (numR (d.takeWhile isDigitC) ≥ 0) && (((d.takeWhile isPartC).length : Int) == ((d.takeWhile isDigitC).length : Int))) = ((d.takeWhile isPartC).all isDigitC && decide (decV (d.takeWhile isPartC) ≤ 2147483647)) := by
  rw [Bool.eq_iff_iff, Bool.and_eq_true, Bool.and_eq_true, decide_eq_true_eq, decide_eq_true_eq, beq_iff_eq]
  constructor
  · rintro ⟨h1, h2⟩
    have e := digit_part h2
    rw [e]
    refine ⟨digit_tw, ?_⟩
    rw [numR] at h1
    split at h1
    · assumption
    · omega
  · rintro ⟨h1, h2⟩
    have e := digit_all h1
    rw [e]
    refine ⟨?_, rfl⟩
    rw [numR, if_pos h2]; omega
theorem rt_int_yes {s : Bs} {i : Nat} (h0 : [98, 34].isPrefixOf (s.drop i) = false) (hl : isLetterC ((s.drop i).getD 0 default) = false) (h1 : isDigitC ((s.drop i).getD 0 default) = true)
    (h : (decide (numR ((s.drop i).takeWhile isDigitC) ≥ 0) && ((((s.drop i).takeWhile isPartC).length : Int) == (((s.drop i).takeWhile isDigitC).length : Int))) = true) : tokA (s.drop i) = (3, [], numR ((s.drop i).takeWhile isDigitC), ((s.drop i).takeWhile isDigitC).length) := by
  have h2 := h
  rw [int_cond] at h2
  rw [tokA, rt_int h0 hl h1, if_pos h2]
  have e := digit_all (Bool.and_eq_true_iff.1 h2).1
  rw [e, numR, if_pos (of_decide_eq_true (Bool.and_eq_true_iff.1 h2).2)]; rfl
theorem rt_int_no {s : Bs} {i : Nat} (h0 : [98, 34].isPrefixOf (s.drop i) = false) (hl : isLetterC ((s.drop i).getD 0 default) = false) (h1 : isDigitC ((s.drop i).getD 0 default) = true)
    (h : (decide (numR ((s.drop i).takeWhile isDigitC) ≥ 0) && ((((s.drop i).takeWhile isPartC).length : Int) == (((s.drop i).takeWhile isDigitC).length : Int))) = false) : tokA (s.drop i) = (0, [], 0, 0) := by
  rw [int_cond] at h
  rw [tokA, rt_int h0 hl h1, if_neg (by rw [h]; decide)]; rfl
theorem sign_cond {s x : Bs} {i : Nat} (hi : i ≤ s.length) : (decide ((i : Int) + (x.length : Int) ≤ (s.length : Int)) && ((s.drop i).take (i + x.length - i) == x)) = x.isPrefixOf (s.drop i) := by
  rw [Nat.add_sub_cancel_left, Bool.eq_iff_iff, Bool.and_eq_true, decide_eq_true_eq, beq_iff_eq, List.isPrefixOf_iff_prefix, List.prefix_iff_eq_take]
  constructor
  · rintro ⟨_, h⟩; exact h.symm
  · intro h
    refine ⟨?_, h.symm⟩
    have := congrArg List.length h
    rw [List.length_take, List.length_drop] at this; omega
theorem com_cond {s : Bs} {j : Nat} (h : j < s.length) : (((((s.getD j default).toNat : Int) == 45) && decide ((j : Int) + 1 < (s.length : Int))) && (((s.getD ((j : Int) + 1).toNat default).toNat : Int) == 45)) = [45, 45].isPrefixOf (s.drop j) := by
  rw [show ((j : Int) + 1).toNat = j + 1 from by omega, drop_cons s j h, Bool.and_assoc, show (((s.getD j default).toNat : Int) == 45) = (s.getD j default == 45) from u8_int _ 45, show (((s.getD (j + 1) default).toNat : Int) == 45) = (s.getD (j + 1) default == 45) from u8_int _ 45]
  by_cases h2 : j + 1 < s.length
  · rw [decide_eq_true (by omega), drop_cons s (j + 1) h2, Bool.true_and]
    show _ = ((45 : UInt8) == s.getD j default && ((45 : UInt8) == s.getD (j + 1) default && true))
    rw [Bool.and_true, BEq.comm (a := (45 : UInt8)), BEq.comm (a := (45 : UInt8))]
  · rw [decide_eq_false (by omega), List.drop_eq_nil_iff.2 (by omega)]
    show _ = ((45 : UInt8) == s.getD j default && false)
    simp
theorem run_line (l : Bs) : (l.takeWhile (ofK · 4)).length = lineLen l := by
  rw [lineLen]
  congr 2
  funext c
  show ((c.toNat : Int) != 10) = (c != 10)
  rw [bne, bne, show ((c.toNat : Int) == 10) = (c == 10) from u8_int c 10]
theorem most_bad {s : Bs} {acc : List Tk} {i : Nat} (hl : lex s = (acc ++ (lexFrom s i).1, (lexFrom s i).2)) (hb : lexFrom s i = ([], badF s i)) : lex s = (acc, badF s i) := by
  rw [hl, hb, List.append_nil]
theorem most_ok {s : Bs} {acc : List Tk} {i : Nat} (hl : lex s = (acc ++ (lexFrom s i).1, (lexFrom s i).2)) (hi : i ≤ s.length) (he : ¬ i < s.length) : lex s = (acc, okF) := by
  rw [lexFrom_end s i hi (by rw [next_end s i he]; exact he)] at hl
  rw [hl, List.append_nil]
theorem lex_code {s : Bs} (h : ((lex s).2.code != 0) = false) : (lex s).2 = okF := by
  obtain ⟨l, e, h1, h2⟩ := run_ex s s.length 0 (Nat.zero_le _) (by omega)
  have e1 : lex s = (l.map (·.2), endF s e) := h2
  rw [e1] at h ⊢
  cases e with
  | none => rfl
  | some j => exact absurd h (show ¬ ((10 : Int) != 0) = false by decide)
theorem lexP_no {s : Bs} (hl : decide ((s.length : Int) > 20000) = false) (h : ((lex s).2.code != 0) = true) : lexP s = ([], (lex s).2) := by
  rw [decide_eq_false_iff_not] at hl
  rw [lexP, if_neg (by omega), if_neg (by simpa using h)]
theorem lexP_yes {s : Bs} (hl : decide ((s.length : Int) > 20000) = false) (h : ((lex s).2.code != 0) = false) : lexP s = ((lex s).1, (lex s).2) := by
  rw [decide_eq_false_iff_not] at hl
  rw [lexP, if_neg (by omega), if_pos (by simpa using h), lex_code h]
theorem lex_clo (s : Bs) : (AVal.tuple [.list 5 ((lex s).1.map encK), .agg (encF (lex s).2)]).clo = true := rfl
theorem alike_self (l : List Tk) : alikeL l l = true := by rw [alikeL, beq_self_eq_true]
end Go.Proofs.YtcgdlhkiecommaaGreatDoor
/- Trees: values, types, expressions, types as written; how they lie in memory. -/

set_option linter.unusedVariables false
namespace Go.Proofs.YtcgdlhkiecommaaGreatDoor
open Go
inductive Va where
  | mk (kind n : Int) (bits : List Int) (list : List Va)
inductive Ty where
  | mk (kind len : Int) (name : Bs) (names : List Bs) (elem : List Ty)
inductive Ex where
  | mk (op : Int) (name : Bs) (n : Int) (bits : List Int) (val : Va) (kids : List Ex) (type : Ty) (line col : Int)
inductive Tr where
  | mk (name : Bs) (len : List Ex) (elem : List Tr) (line col : Int)
def Va.kind : Va → Int | .mk k _ _ _ => k
def Va.n : Va → Int | .mk _ n _ _ => n
def Va.bits : Va → List Int | .mk _ _ b _ => b
def Va.list : Va → List Va | .mk _ _ _ l => l
def Ty.kind : Ty → Int | .mk k _ _ _ _ => k
def Ty.len : Ty → Int | .mk _ l _ _ _ => l
def Ty.name : Ty → Bs | .mk _ _ s _ _ => s
def Ty.names : Ty → List Bs | .mk _ _ _ l _ => l
def Ty.elem : Ty → List Ty | .mk _ _ _ _ l => l
def Ex.op : Ex → Int | .mk o _ _ _ _ _ _ _ _ => o
def Ex.name : Ex → Bs | .mk _ s _ _ _ _ _ _ _ => s
def Ex.n : Ex → Int | .mk _ _ n _ _ _ _ _ _ => n
def Ex.bits : Ex → List Int | .mk _ _ _ b _ _ _ _ _ => b
def Ex.val : Ex → Va | .mk _ _ _ _ v _ _ _ _ => v
def Ex.kids : Ex → List Ex | .mk _ _ _ _ _ k _ _ _ => k
def Ex.type : Ex → Ty | .mk _ _ _ _ _ _ t _ _ => t
def Ex.line : Ex → Int | .mk _ _ _ _ _ _ _ l _ => l
def Ex.col : Ex → Int | .mk _ _ _ _ _ _ _ _ c => c
def Tr.name : Tr → Bs | .mk s _ _ _ _ => s
def Tr.len : Tr → List Ex | .mk _ l _ _ _ => l
def Tr.elem : Tr → List Tr | .mk _ _ l _ _ => l
def Tr.line : Tr → Int | .mk _ _ _ l _ => l
def Tr.col : Tr → Int | .mk _ _ _ _ c => c
def va0 : Va := .mk 0 0 [] []
def ty0 : Ty := .mk 0 0 [] [] []
def ex0 : Ex := .mk 0 [] 0 [] va0 [] ty0 0 0
def tr0 : Tr := .mk [] [] [] 0 0
instance : Inhabited Va := ⟨va0⟩
instance : Inhabited Ty := ⟨ty0⟩
instance : Inhabited Ex := ⟨ex0⟩
instance : Inhabited Tr := ⟨tr0⟩
mutual
def encVa : Va → List AVal
  | .mk k n b l => [.v (.int .i64 k), .v (.int .i64 n), .list 1 (b.map encB), .list 4 (encVas l)]
def encVas : List Va → List (List AVal)
  | [] => []
  | v :: r => encVa v :: encVas r
end
mutual
def encTy : Ty → List AVal
  | .mk k l s ns e => [.v (.int .i64 k), .v (.int .i64 l), .v (.string (str s)), .list 1 (ns.map encBs), .list 5 (encTys e)]
def encTys : List Ty → List (List AVal)
  | [] => []
  | v :: r => encTy v :: encTys r
end
mutual
def encE : Ex → List AVal
  | .mk o s n b v k t l c => [.v (.int .i64 o), .v (.string (str s)), .v (.int .i64 n), .list 1 (b.map encB)] ++ encVa v ++ [.list 16 (encEs k)] ++ encTy t ++ [.v (.int .i64 l), .v (.int .i64 c)]
def encEs : List Ex → List (List AVal)
  | [] => []
  | v :: r => encE v :: encEs r
end
mutual
def encR : Tr → List AVal
  | .mk s l e i c => [.v (.string (str s)), .list 16 (l.map encE), .list 5 (encRs e), .v (.int .i64 i), .v (.int .i64 c)]
def encRs : List Tr → List (List AVal)
  | [] => []
  | v :: r => encR v :: encRs r
end
theorem encVas_map (l : List Va) : encVas l = l.map encVa := by
  induction l with
  | nil => simp [encVas]
  | cons a l ih => simp [encVas, ih]
theorem encTys_map (l : List Ty) : encTys l = l.map encTy := by
  induction l with
  | nil => simp [encTys]
  | cons a l ih => simp [encTys, ih]
theorem encEs_map (l : List Ex) : encEs l = l.map encE := by
  induction l with
  | nil => simp [encEs]
  | cons a l ih => simp [encEs, ih]
theorem encRs_map (l : List Tr) : encRs l = l.map encR := by
  induction l with
  | nil => simp [encRs]
  | cons a l ih => simp [encRs, ih]
def cellsV (v : Va) : List AVal := [.v (.int .i64 v.kind), .v (.int .i64 v.n), .list 1 (v.bits.map encB), .list 4 (v.list.map encVa)]
def cellsT (t : Ty) : List AVal := [.v (.int .i64 t.kind), .v (.int .i64 t.len), .v (.string (str t.name)), .list 1 (t.names.map encBs), .list 5 (t.elem.map encTy)]
def cellsE (e : Ex) : List AVal := [.v (.int .i64 e.op), .v (.string (str e.name)), .v (.int .i64 e.n), .list 1 (e.bits.map encB), .v (.int .i64 e.val.kind), .v (.int .i64 e.val.n), .list 1 (e.val.bits.map encB), .list 4 (e.val.list.map encVa), .list 16 (e.kids.map encE), .v (.int .i64 e.type.kind), .v (.int .i64 e.type.len), .v (.string (str e.type.name)), .list 1 (e.type.names.map encBs), .list 5 (e.type.elem.map encTy), .v (.int .i64 e.line), .v (.int .i64 e.col)]
def cellsR (r : Tr) : List AVal := [.v (.string (str r.name)), .list 16 (r.len.map encE), .list 5 (r.elem.map encR), .v (.int .i64 r.line), .v (.int .i64 r.col)]
theorem encVa_cells (v : Va) : encVa v = cellsV v := by
  cases v; simp [encVa, cellsV, encVas_map, Va.kind, Va.n, Va.bits, Va.list]
theorem encTy_cells (t : Ty) : encTy t = cellsT t := by
  cases t; simp [encTy, cellsT, encTys_map, Ty.kind, Ty.len, Ty.name, Ty.names, Ty.elem]
theorem encE_cells (e : Ex) : encE e = cellsE e := by
  cases e; simp [encE, cellsE, encVa_cells, encTy_cells, cellsV, cellsT, encEs_map, Ex.op, Ex.name, Ex.n, Ex.bits, Ex.val, Ex.kids, Ex.type, Ex.line, Ex.col]
theorem encR_cells (r : Tr) : encR r = cellsR r := by
  cases r; simp [encR, cellsR, encRs_map, Tr.name, Tr.len, Tr.elem, Tr.line, Tr.col]
theorem encE_fun : encE = cellsE := funext encE_cells
theorem encR_fun : encR = cellsR := funext encR_cells
theorem encE_clo (e : Ex) : (encE e).all AVal.clo1 = true := by rw [encE_cells]; rfl
theorem kids1 (a : Ex) : [cellsE a] = [a].map encE := by rw [encE_fun]; rfl
theorem kids2 (a b : Ex) : [cellsE a, cellsE b] = [a, b].map encE := by rw [encE_fun]; rfl
theorem kids3 (a b c : Ex) : [cellsE a, cellsE b, cellsE c] = [a, b, c].map encE := by rw [encE_fun]; rfl
end Go.Proofs.YtcgdlhkiecommaaGreatDoor
/- Reading in plain Lean: rows of operators, factors, what stands in brackets, targets, types. -/

namespace Go.Proofs.YtcgdlhkiecommaaGreatDoor
open Go
inductive Rd (α : Type) where
  | bad (f : Flt)
  | ok (a : α) (at' : Nat)
def levelsL : List (List Bs) := [[[97, 110, 100], [111, 114], [120, 111, 114], [110, 97, 110, 100], [110, 111, 114], [120, 110, 111, 114]], [[61], [47, 61], [60], [60, 61], [62], [62, 61]], [[43], [45], [38]], [[42], [47], [109, 111, 100], [115, 104, 108], [115, 104, 114]]]
def levelL (k : Nat) : List Bs := levelsL.getD k []
def sOpen : Bs := [40]
def sShut : Bs := [41]
def sComma : Bs := [44]
def sDownto : Bs := [100, 111, 119, 110, 116, 111]
def sNot : Bs := [110, 111, 116]
def sMinus : Bs := [45]
def sVec : Bs := [118, 101, 99]
def sArray : Bs := [97, 114, 114, 97, 121]
def sOf : Bs := [111, 102]
def eofF : Flt := ⟨12, [], 0, 0⟩
def textT (t : Tk) : Bs := if t.op == 3 then Lib.itoa t.n else t.text
def mkE (op : Int) (name : Bs) (n : Int) (bits : List Int) (kids : List Ex) (t : Tk) : Ex := .mk op name n bits va0 kids ty0 t.line t.col
section
variable (l : List Tk)
def tokAt (i : Nat) : Tk := l.getD i default
def fltAt (code : Int) (i : Nat) : Flt := if l.length ≤ i then eofF else ⟨code, textT (tokAt l i), (tokAt l i).line, (tokAt l i).col⟩
def isAt (texts : List Bs) (i : Nat) : Bool := ((tokAt l i).op == 2 || (tokAt l i).op == 7) && texts.contains (tokAt l i).text
def wantP (text : Bs) (i : Nat) : Rd Unit := if isAt l [text] i then .ok () (i + 1) else .bad (fltAt l 11 i)
def intoP (d : Nat) (i : Nat) : Rd Unit := if d = 0 then .bad (fltAt l 23 i) else .ok () (i + 1)
def kindP (k : Int) (i : Nat) : Rd Tk := if (tokAt l i).op == k then .ok (tokAt l i) (i + 1) else .bad (fltAt l 11 i)
def openP (d : Nat) (i : Nat) : Rd Unit := if isAt l [sOpen] i then intoP l d i else .bad (fltAt l 11 i)
def rowLoop (nxt : Nat → Rd Ex) (k : Nat) : Nat → Ex → Nat → Rd Ex
  | 0, left, i => .ok left i
  | f + 1, left, i =>
    if isAt l (levelL k) i then
      match nxt (i + 1) with
      | .bad g => .bad g
      | .ok e j => if k = 1 then .ok (mkE 5 (tokAt l i).text 0 [] [left, e] (tokAt l i)) j else rowLoop nxt k f (mkE 5 (tokAt l i).text 0 [] [left, e] (tokAt l i)) j
    else .ok left i
def rowP (fac : Nat → Rd Ex) : Nat → Nat → Rd Ex
  | 0, i => fac i
  | m + 1, i =>
    match rowP fac m i with
    | .bad g => .bad g
    | .ok e j => rowLoop l (rowP fac m) (3 - m) (l.length - j) e j
def sliceP (inner : Nat → Rd Ex) (e high : Ex) (t : Tk) (j : Nat) : Rd Ex :=
  match wantP l sDownto j with
  | .bad g => .bad g
  | .ok _ j1 =>
    match inner j1 with
    | .bad g => .bad g
    | .ok low k =>
      match wantP l sShut k with
      | .bad g => .bad g
      | .ok _ m => .ok (mkE 7 [] 0 [] [e, high, low] t) m
def argsP (inner : Nat → Rd Ex) : Nat → List Ex → Nat → Rd (List Ex)
  | 0, kids, j => if isAt l [sComma] j then .bad (fltAt l 11 j) else .ok kids j
  | f + 1, kids, j =>
    if isAt l [sComma] j then
      match inner (j + 1) with
      | .bad g => .bad g
      | .ok e k => argsP inner f (kids ++ [e]) k
    else .ok kids j
def namedP (d : Nat) (inner : Nat → Rd Ex) (i : Nat) : Rd Ex :=
  if (tokAt l i).op == 1 then
    if isAt l [sOpen] (i + 1) then
      match openP l d (i + 1) with
      | .bad g => .bad g
      | .ok _ i2 =>
        match inner i2 with
        | .bad g => .bad g
        | .ok first j =>
          if isAt l [sDownto] j then sliceP l inner (mkE 4 (tokAt l i).text 0 [] [] (tokAt l i)) first (tokAt l (i + 1)) j
          else
            match argsP l inner 19 [first] j with
            | .bad g => .bad g
            | .ok kids k =>
              match wantP l sShut k with
              | .bad g => .bad g
              | .ok _ m => .ok (mkE 5 (tokAt l i).text 0 [] kids (tokAt l i)) m
    else .ok (mkE 4 (tokAt l i).text 0 [] [] (tokAt l i)) (i + 1)
  else .bad (fltAt l 11 i)
def partE (e first : Ex) (t : Tk) : Ex := if e.op == 4 then .mk 5 e.name 0 [] va0 [first] ty0 e.line e.col else mkE 6 [] 0 [] [e, first] t
def partP (d : Nat) (inner : Nat → Rd Ex) (e : Ex) (i : Nat) : Rd Ex :=
  match openP l d i with
  | .bad g => .bad g
  | .ok _ i2 =>
    match inner i2 with
    | .bad g => .bad g
    | .ok first j =>
      if isAt l [sDownto] j then sliceP l inner e first (tokAt l i) j
      else
        match wantP l sShut j with
        | .bad g => .bad g
        | .ok _ m => .ok (partE e first (tokAt l i)) m
def partsP (d : Nat) (inner : Nat → Rd Ex) : Nat → Ex → Nat → Rd Ex
  | 0, e, i => .ok e i
  | f + 1, e, i =>
    if isAt l [sOpen] i then
      match partP l d inner e i with
      | .bad g => .bad g
      | .ok e2 j => partsP d inner f e2 j
    else .ok e i
def primP (d : Nat) (inner : Nat → Rd Ex) (i : Nat) : Rd Ex :=
  if (tokAt l i).op == 3 then partsP l d inner (l.length - (i + 1)) (mkE 1 [] (tokAt l i).n [] [] (tokAt l i)) (i + 1)
  else if (tokAt l i).op == 4 then partsP l d inner (l.length - (i + 1)) (mkE 2 [] 0 (parseBits (tokAt l i).text) [] (tokAt l i)) (i + 1)
  else if (tokAt l i).op == 5 then partsP l d inner (l.length - (i + 1)) (mkE 3 [] 0 (parseBits (tokAt l i).text) [] (tokAt l i)) (i + 1)
  else if (tokAt l i).op == 1 then
    match namedP l d inner i with
    | .bad g => .bad g
    | .ok e j => partsP l d inner (l.length - j) e j
  else
    match openP l d i with
    | .bad g => .bad g
    | .ok _ i2 =>
      match inner i2 with
      | .bad g => .bad g
      | .ok e j =>
        match wantP l sShut j with
        | .bad g => .bad g
        | .ok _ m => partsP l d inner (l.length - m) e m
def facP (d : Nat) (sub : Nat → Rd Ex) (i : Nat) : Rd Ex :=
  if isAt l [sNot, sMinus] i then
    match intoP l d i with
    | .bad g => .bad g
    | .ok _ i1 =>
      match sub i1 with
      | .bad g => .bad g
      | .ok e j => .ok (mkE 5 (tokAt l i).text 0 [] [e] (tokAt l i)) j
  else primP l d (rowP l sub 4) i
def factor : Nat → Nat → Rd Ex
  | 0 => facP l 0 (fun _ => .bad eofF)
  | d + 1 => facP l (d + 1) (factor d)
def rowD (d m i : Nat) : Rd Ex := rowP l (factor l d) m i
def innerD : Nat → Nat → Rd Ex
  | 0 => rowP l (fun _ => .bad eofF) 4
  | d + 1 => rowP l (factor l d) 4
def targetP (i : Nat) : Rd Ex :=
  if (tokAt l i).op == 1 then partsP l 40 (innerD l 40) (l.length - (i + 1)) (mkE 4 (tokAt l i).text 0 [] [] (tokAt l i)) (i + 1)
  else .bad (fltAt l 11 i)
def typeF (sub : Nat → Rd Tr) (i : Nat) : Rd Tr :=
  if isAt l [sVec, sArray] i then
    match openP l 40 (i + 1) with
    | .bad g => .bad g
    | .ok _ i2 =>
      match innerD l 40 i2 with
      | .bad g => .bad g
      | .ok e j =>
        match wantP l sShut j with
        | .bad g => .bad g
        | .ok _ m =>
          if (tokAt l i).text == sArray then
            match wantP l sOf m with
            | .bad g => .bad g
            | .ok _ m1 =>
              if isAt l [sArray] m1 then .bad (fltAt l 11 m1)
              else match sub m1 with
                | .bad g => .bad g
                | .ok r k => .ok (.mk (tokAt l i).text [e] [r] (tokAt l i).line (tokAt l i).col) k
          else .ok (.mk (tokAt l i).text [e] [] (tokAt l i).line (tokAt l i).col) m
  else if (tokAt l i).op == 1 then .ok (.mk (tokAt l i).text [] [] (tokAt l i).line (tokAt l i).col) (i + 1)
  else .bad (fltAt l 11 i)
def type0 (i : Nat) : Rd Tr := typeF l (fun _ => .bad eofF) i
def typeP (i : Nat) : Rd Tr := typeF l (type0 l) i
theorem facP_factor (d : Nat) : factor l d = facP l d (match d with | 0 => fun _ => .bad eofF | e + 1 => factor l e) := by cases d <;> rfl
theorem innerD_eq (d : Nat) : innerD l d = rowP l (match d with | 0 => fun _ => .bad eofF | e + 1 => factor l e) 4 := by cases d <;> rfl
theorem factor_not (d i : Nat) (h : isAt l [sNot, sMinus] i = false) : factor l d i = primP l d (innerD l d) i := by
  rw [facP_factor, innerD_eq, facP, if_neg (by rw [h]; exact Bool.false_ne_true)]
def Rd.gt {α : Type} (r : Rd α) (i : Nat) (n : Nat) : Prop := ∀ a j, r = .ok a j → i < j ∧ j ≤ n
end
section
variable {l : List Tk}
theorem tokAt_out {i : Nat} (h : l.length ≤ i) : tokAt l i = default := by
  simp [tokAt, List.getD_eq_getElem?_getD, List.getElem?_eq_none h]
theorem isAt_lt {texts : List Bs} {i : Nat} (h : isAt l texts i = true) : i < l.length := by
  rcases Nat.lt_or_ge i l.length with h1 | h1
  · exact h1
  · rw [isAt, tokAt_out h1] at h
    simp [show (default : Tk) = ⟨0, [], 0, 0, 0⟩ from rfl] at h
theorem op_lt {i : Nat} {k : Int} (h : (tokAt l i).op = k) (hk : k ≠ 0) : i < l.length := by
  rcases Nat.lt_or_ge i l.length with h1 | h1
  · exact h1
  · rw [tokAt_out h1, show (default : Tk) = ⟨0, [], 0, 0, 0⟩ from rfl] at h
    exact absurd h.symm hk
theorem want_gt {s : Bs} {i : Nat} : (wantP l s i).gt i l.length := by
  intro a j h
  unfold wantP at h
  split at h
  · rename_i h1
    have := isAt_lt h1
    cases h; omega
  · cases h
theorem into_gt {d i : Nat} (h1 : i < l.length) : (intoP l d i).gt i l.length := by
  intro a j h
  unfold intoP at h
  split at h
  · cases h
  · cases h; omega
theorem open_gt {d i : Nat} : (openP l d i).gt i l.length := by
  intro a j h
  unfold openP at h
  split at h
  · rename_i h1
    exact into_gt (isAt_lt h1) a j h
  · cases h
theorem rowLoop_ge {nxt : Nat → Rd Ex} (hn : ∀ i, (nxt i).gt i l.length) {k f : Nat} {e : Ex} {i : Nat} (hi : i ≤ l.length) : ∀ a j, rowLoop l nxt k f e i = .ok a j → i ≤ j ∧ j ≤ l.length := by
  induction f generalizing e i with
  | zero => intro a j h; rw [rowLoop] at h; cases h; omega
  | succ f ih =>
    intro a j h
    rw [rowLoop] at h
    split at h
    · split at h
      · cases h
      · rename_i e2 j2 h2
        have := hn _ _ _ h2
        split at h
        · cases h; omega
        · have := ih this.2 a j h; omega
    · cases h; omega
theorem row_gt {fac : Nat → Rd Ex} (hf : ∀ i, (fac i).gt i l.length) (m : Nat) : ∀ i, (rowP l fac m i).gt i l.length := by
  induction m with
  | zero => exact hf
  | succ m ih =>
    intro i a j h
    rw [rowP] at h
    split at h
    · cases h
    · rename_i e2 j2 h2
      have h3 := ih _ _ _ h2
      have := rowLoop_ge ih h3.2 a j h
      omega
theorem slice_gt {inner : Nat → Rd Ex} (hf : ∀ i, (inner i).gt i l.length) {e h : Ex} {t : Tk} {i : Nat} : (sliceP l inner e h t i).gt i l.length := by
  intro a j h
  unfold sliceP at h
  split at h
  · cases h
  · rename_i h2
    have h3 := want_gt _ _ h2
    split at h
    · cases h
    · rename_i h4
      have h5 := hf _ _ _ h4
      split at h
      · cases h
      · rename_i h6
        have h7 := want_gt _ _ h6
        cases h; omega
theorem args_ge {inner : Nat → Rd Ex} (hf : ∀ i, (inner i).gt i l.length) {f : Nat} {kids : List Ex} {i : Nat} (hi : i ≤ l.length) : ∀ a j, argsP l inner f kids i = .ok a j → i ≤ j ∧ j ≤ l.length := by
  induction f generalizing kids i with
  | zero =>
    intro a j h; rw [argsP] at h
    split at h
    · cases h
    · cases h; omega
  | succ f ih =>
    intro a j h
    rw [argsP] at h
    split at h
    · split at h
      · cases h
      · rename_i e2 j2 h2
        have := hf _ _ _ h2
        have := ih this.2 a j h
        omega
    · cases h; omega
theorem named_gt {d : Nat} {inner : Nat → Rd Ex} (hf : ∀ i, (inner i).gt i l.length) {i : Nat} : (namedP l d inner i).gt i l.length := by
  intro a j h
  unfold namedP at h
  split at h
  · rename_i h0
    have hi := op_lt (l := l) (i := i) (k := 1) (by simpa using h0) (by decide)
    split at h
    · split at h
      · cases h
      · rename_i h2
        have h3 := open_gt _ _ h2
        split at h
        · cases h
        · rename_i h4
          have h5 := hf _ _ _ h4
          split at h
          · have := slice_gt hf _ _ h; omega
          · split at h
            · cases h
            · rename_i h6
              have h7 := args_ge hf h5.2 _ _ h6
              split at h
              · cases h
              · rename_i h8
                have h9 := want_gt _ _ h8
                cases h; omega
    · cases h; omega
  · cases h
theorem part_gt {d : Nat} {inner : Nat → Rd Ex} (hf : ∀ i, (inner i).gt i l.length) {e : Ex} {i : Nat} : (partP l d inner e i).gt i l.length := by
  intro a j h
  unfold partP at h
  split at h
  · cases h
  · rename_i h2
    have h3 := open_gt _ _ h2
    split at h
    · cases h
    · rename_i h4
      have h5 := hf _ _ _ h4
      split at h
      · have := slice_gt hf _ _ h; omega
      · split at h
        · cases h
        · rename_i h6
          have h7 := want_gt _ _ h6
          cases h; omega
theorem parts_ge {d : Nat} {inner : Nat → Rd Ex} (hf : ∀ i, (inner i).gt i l.length) {f : Nat} {e : Ex} {i : Nat} (hi : i ≤ l.length) : ∀ a j, partsP l d inner f e i = .ok a j → i ≤ j ∧ j ≤ l.length := by
  induction f generalizing e i with
  | zero => intro a j h; rw [partsP] at h; cases h; omega
  | succ f ih =>
    intro a j h
    rw [partsP] at h
    split at h
    · split at h
      · cases h
      · rename_i e2 j2 h2
        have := part_gt hf _ _ h2
        have := ih this.2 a j h
        omega
    · cases h; omega
theorem prim_gt {d : Nat} {inner : Nat → Rd Ex} (hf : ∀ i, (inner i).gt i l.length) {i : Nat} : (primP l d inner i).gt i l.length := by
  intro a j h
  unfold primP at h
  split at h
  · rename_i h0
    have hi := op_lt (l := l) (i := i) (k := 3) (by simpa using h0) (by decide)
    have := parts_ge hf (by omega) _ _ h; omega
  · split at h
    · rename_i h0
      have hi := op_lt (l := l) (i := i) (k := 4) (by simpa using h0) (by decide)
      have := parts_ge hf (by omega) _ _ h; omega
    · split at h
      · rename_i h0
        have hi := op_lt (l := l) (i := i) (k := 5) (by simpa using h0) (by decide)
        have := parts_ge hf (by omega) _ _ h; omega
      · split at h
        · split at h
          · cases h
          · rename_i h2
            have h3 := named_gt hf _ _ h2
            have := parts_ge hf h3.2 _ _ h; omega
        · split at h
          · cases h
          · rename_i h2
            have h3 := open_gt _ _ h2
            split at h
            · cases h
            · rename_i h4
              have h5 := hf _ _ _ h4
              split at h
              · cases h
              · rename_i h6
                have h7 := want_gt _ _ h6
                have := parts_ge hf h7.2 _ _ h; omega
theorem fac_gt {d : Nat} {sub : Nat → Rd Ex} (hf : ∀ i, (sub i).gt i l.length) (i : Nat) : (facP l d sub i).gt i l.length := by
  intro a j h
  unfold facP at h
  split at h
  · rename_i h0
    split at h
    · cases h
    · rename_i h2
      have h3 := into_gt (isAt_lt h0) _ _ h2
      split at h
      · cases h
      · rename_i h4
        have h5 := hf _ _ _ h4
        cases h; omega
  · exact prim_gt (row_gt hf 4) _ _ h
theorem bad_gt {α : Type} {g : Flt} {i n : Nat} : (Rd.bad (α := α) g).gt i n := by intro a j h; cases h
theorem factor_gt (d : Nat) : ∀ i, (factor l d i).gt i l.length := by
  induction d with
  | zero => exact fac_gt (fun _ => bad_gt)
  | succ d ih => exact fac_gt ih
theorem innerD_gt (d : Nat) : ∀ i, (innerD l d i).gt i l.length := by
  cases d with
  | zero => exact row_gt (fun _ => bad_gt) 4
  | succ d => exact row_gt (factor_gt d) 4
end
end Go.Proofs.YtcgdlhkiecommaaGreatDoor
/- Writing in plain Lean: shapes, tokens, depth, sameness, names, parts. -/

namespace Go.Proofs.YtcgdlhkiecommaaGreatDoor
open Go
theorem Ex.sz_kid {e k : Ex} (h : k ∈ e.kids) : SizeOf.sizeOf k < SizeOf.sizeOf e := by
  cases e
  have := List.sizeOf_lt_of_mem h
  simp only [Ex.kids] at this
  simp only [Ex.mk.sizeOf_spec]
  omega
theorem Ex.ind {p : Ex → Prop} (h : ∀ e, (∀ k ∈ e.kids, p k) → p e) (e : Ex) : p e :=
  h e (fun k hk => Ex.ind h k)
termination_by SizeOf.sizeOf e
decreasing_by exact Ex.sz_kid hk
theorem Va.sz_kid {e k : Va} (h : k ∈ e.list) : SizeOf.sizeOf k < SizeOf.sizeOf e := by
  cases e
  have := List.sizeOf_lt_of_mem h
  simp only [Va.list] at this
  simp only [Va.mk.sizeOf_spec]
  omega
theorem Va.ind {p : Va → Prop} (h : ∀ e, (∀ k ∈ e.list, p k) → p e) (e : Va) : p e :=
  h e (fun k hk => Va.ind h k)
termination_by SizeOf.sizeOf e
decreasing_by exact Va.sz_kid hk
theorem Ty.sz_kid {e k : Ty} (h : k ∈ e.elem) : SizeOf.sizeOf k < SizeOf.sizeOf e := by
  cases e
  have := List.sizeOf_lt_of_mem h
  simp only [Ty.elem] at this
  simp only [Ty.mk.sizeOf_spec]
  omega
theorem Ty.ind {p : Ty → Prop} (h : ∀ e, (∀ k ∈ e.elem, p k) → p e) (e : Ty) : p e :=
  h e (fun k hk => Ty.ind h k)
termination_by SizeOf.sizeOf e
decreasing_by exact Ty.sz_kid hk
theorem Tr.sz_kid {e k : Tr} (h : k ∈ e.elem) : SizeOf.sizeOf k < SizeOf.sizeOf e := by
  cases e
  have := List.sizeOf_lt_of_mem h
  simp only [Tr.elem] at this
  simp only [Tr.mk.sizeOf_spec]
  omega
theorem Tr.ind {p : Tr → Prop} (h : ∀ e, (∀ k ∈ e.elem, p k) → p e) (e : Tr) : p e :=
  h e (fun k hk => Tr.ind h k)
termination_by SizeOf.sizeOf e
decreasing_by exact Tr.sz_kid hk
mutual
def sameV : Va → Va → Bool
  | .mk k n b l, w => k == w.kind && (n == w.n && (b == w.bits && sameVs l w.list))
def sameVs : List Va → List Va → Bool
  | [], [] => true
  | v :: r, w :: s => sameV v w && sameVs r s
  | _, _ => false
end
mutual
def sameT : Ty → Ty → Bool
  | .mk k l s ns e, u => k == u.kind && (l == u.len && (s == u.name && (ns == u.names && sameTs e u.elem)))
def sameTs : List Ty → List Ty → Bool
  | [], [] => true
  | v :: r, w :: s => sameT v w && sameTs r s
  | _, _ => false
end
mutual
def sameE : Ex → Ex → Bool
  | .mk o s n b v k t _ _, u => o == u.op && (s == u.name && (n == u.n && (b == u.bits && (sameV v u.val && (sameT t u.type && sameEs k u.kids)))))
def sameEs : List Ex → List Ex → Bool
  | [], [] => true
  | v :: r, w :: s => sameE v w && sameEs r s
  | _, _ => false
end
theorem sameV_eq (v w : Va) : sameV v w = (v.kind == w.kind && (v.n == w.n && (v.bits == w.bits && sameVs v.list w.list))) := by cases v; rfl
theorem sameT_eq (t u : Ty) : sameT t u = (t.kind == u.kind && (t.len == u.len && (t.name == u.name && (t.names == u.names && sameTs t.elem u.elem)))) := by cases t; rfl
theorem sameE_eq (a b : Ex) : sameE a b = (a.op == b.op && (a.name == b.name && (a.n == b.n && (a.bits == b.bits && (sameV a.val b.val && (sameT a.type b.type && sameEs a.kids b.kids)))))) := by cases a; rfl
def allSame {α : Type} (f : α → α → Bool) : List α → List α → Bool
  | [], [] => true
  | v :: r, w :: s => f v w && allSame f r s
  | _, _ => false
theorem sameVs_all : sameVs = allSame sameV := by
  funext a
  induction a with
  | nil => funext b; cases b <;> simp [sameVs, allSame]
  | cons x a ih => funext b; cases b <;> simp [sameVs, allSame, ih]
theorem sameTs_all : sameTs = allSame sameT := by
  funext a
  induction a with
  | nil => funext b; cases b <;> simp [sameTs, allSame]
  | cons x a ih => funext b; cases b <;> simp [sameTs, allSame, ih]
theorem sameEs_all : sameEs = allSame sameE := by
  funext a
  induction a with
  | nil => funext b; cases b <;> simp [sameEs, allSame]
  | cons x a ih => funext b; cases b <;> simp [sameEs, allSame, ih]
section
variable {α : Type} [Inhabited α] {f : α → α → Bool}
theorem allSame_len {a b : List α} (h : allSame f a b = true) : a.length = b.length := by
  induction a generalizing b with
  | nil => cases b <;> simp_all [allSame]
  | cons x a ih =>
    cases b with
    | nil => simp [allSame] at h
    | cons y b => simp only [allSame, Bool.and_eq_true] at h; simp [ih h.2]
theorem allSame_iff {a b : List α} (hl : a.length = b.length) : allSame f a b = true ↔ ∀ i, i < a.length → f (a.getD i default) (b.getD i default) = true := by
  induction a generalizing b with
  | nil => cases b <;> simp_all [allSame]
  | cons x a ih =>
    cases b with
    | nil => simp at hl
    | cons y b =>
      simp only [allSame, Bool.and_eq_true, ih (by simpa using hl : a.length = b.length)]
      constructor
      · rintro ⟨h1, h2⟩ i hi
        cases i with
        | zero => simpa using h1
        | succ i => simpa using h2 i (by simpa using hi)
      · intro h
        exact ⟨by simpa using h 0 (by simp), fun i hi => by simpa using h (i + 1) (by simpa using hi)⟩
theorem allSame_ne {a b : List α} (hl : a.length ≠ b.length) : allSame f a b = false := by
  cases h : allSame f a b with
  | false => rfl
  | true => exact absurd (allSame_len h) hl
theorem allSame_no {a b : List α} (i : Nat) (hi : i < a.length) (hb : i < b.length) (h : f (a.getD i default) (b.getD i default) = false) : allSame f a b = false := by
  cases h2 : allSame f a b with
  | false => rfl
  | true => rw [(allSame_iff (allSame_len h2)).1 h2 i hi] at h; cases h
theorem allSame_self {a : List α} (h : ∀ x ∈ a, f x x = true) : allSame f a a = true := by
  induction a with
  | nil => rfl
  | cons x a ih => simp only [allSame, Bool.and_eq_true]; exact ⟨h x (by simp), ih fun y hy => h y (by simp [hy])⟩
end
theorem sameV_self (v : Va) : sameV v v = true := by
  induction v using Va.ind with
  | h v ih => rw [sameV_eq, sameVs_all, allSame_self ih]; simp
theorem sameT_self (v : Ty) : sameT v v = true := by
  induction v using Ty.ind with
  | h v ih => rw [sameT_eq, sameTs_all, allSame_self ih]; simp
theorem sameE_self (v : Ex) : sameE v v = true := by
  induction v using Ex.ind with
  | h v ih => rw [sameE_eq, sameEs_all, allSame_self ih, sameV_self, sameT_self]; simp
end Go.Proofs.YtcgdlhkiecommaaGreatDoor
/- The reader in memory, and what a call on it leaves. -/


namespace Go.Proofs.YtcgdlhkiecommaaGreatDoor
open Go
theorem reL_nil : All2 ReL [] [] := trivial
theorem reL_cons {a b : AVal} {xs ys : List AVal} (h : ReL a b) (t : All2 ReL xs ys) : All2 ReL (a :: xs) (b :: ys) := ⟨h, t⟩
def rdr (l : List Tk) (i d : Nat) : List AVal := [.list 5 (l.map encK), .v (.int .i64 (i : Int)), .v (.int .i64 12), .v (.string (str [])), .v (.int .i64 0), .v (.int .i64 0), .v (.int .i64 (40 - (d : Int)))]
abbrev rd (v0 : Nat) (l : List Tk) (i d : Nat) (τ : Store) : Store := (0, v0, .row 7 [rdr l i d]) :: τ
def encSL (l : List Bs) : List AVal := [.list 1 (l.map encBs)]
def zeroE : List AVal := [.v (.int .i64 0), .v (.string (str [])), .v (.int .i64 0), .v (.slice none 0 0), .v (.int .i64 0), .v (.int .i64 0), .v (.slice none 0 0), .v (.slice none 0 0), .v (.slice none 0 0), .v (.int .i64 0), .v (.int .i64 0), .v (.string (str [])), .v (.slice none 0 0), .v (.slice none 0 0), .v (.int .i64 0), .v (.int .i64 0)]
def zeroR : List AVal := [.v (.string (str [])), .v (.slice none 0 0), .v (.slice none 0 0), .v (.int .i64 0), .v (.int .i64 0)]
def faultI (g : Flt) : AVal := .v (.iface 40 (.agg #[.int .i64 g.code, .string (str g.name), .int .i64 g.line, .int .i64 g.col]))
def k0 (i : Nat) : Bool := Nat.beq i 0
section
variable {α : Type}
def RdT (v0 : Nat) (l : List Tk) (d : Nat) (enc : α → AVal) (x : Rd α) (τ : Store) (r : AEnd) (σ' : Store) : Prop :=
  (∃ g i' d', x = .bad g ∧ r = .pan (faultI g) ∧ σ' = rd v0 l i' d' τ) ∨ (∃ a j, x = .ok a j ∧ r = .ret (enc a) ∧ σ' = rd v0 l j d τ)
def RdK (v0 : Nat) (l : List Tk) (d : Nat) (enc : α → AVal) (x : Rd α) (r : AEnd) (σ' : Store) : Prop :=
  (∃ g i' d', x = .bad g ∧ r = .pan (faultI g) ∧ σ'.keep k0 = rd v0 l i' d' []) ∨ (∃ a j, x = .ok a j ∧ r = .ret (enc a) ∧ σ'.keep k0 = rd v0 l j d [])
theorem rd_lift {P : Program} {n : FuncId} {extra : List AVal} {v0 i d d' : Nat} {l : List Tk} {enc : α → AVal} {x : Rd α} (hx : extra.map (AVal.rn (tab [0])) = extra) (henc : ∀ a, (enc a).rn (tab [0]) = enc a)
    (h : AC P n (.ptr 0 v0 0 0 :: extra) (rd v0 l i d []) (RdK v0 l d' enc x)) (τ : Store) (hb : (rd v0 l i d τ).below 1000 = true) : AC P n (.ptr 0 v0 0 0 :: extra) (rd v0 l i d τ) (RdT v0 l d' enc x τ) := by
  have hf : Store.free [0] (rd v0 l i d []) (rd v0 l i d τ) = true := by simp [Store.free, Store.get, List.range_succ]
  have hm : Store.match (tab [0]) (rd v0 l i d τ) (rd v0 l i d []) := ⟨rfl, trivial⟩
  have := ac_at (σ := rd v0 l i d τ) [0] rfl (ac_keep k0 h) hm hf hb (by
    rintro r σ' ⟨σ1, h1, rfl⟩ j hj
    rcases h1 with ⟨g, i', d2, _, _, e2⟩ | ⟨a, j2, _, _, e2⟩ <;>
    · rw [e2] at hj
      revert hj
      simp only [Store.get]
      cases Nat.beq 0 j <;> simp)
  rw [List.map_cons, hx] at this
  refine ac_mono this ?_
  rintro r σ' ⟨r0, σ0, ⟨σ1, h1, rfl⟩, rfl, rfl⟩
  rcases h1 with ⟨g, i', d2, e1, rfl, e2⟩ | ⟨a, j2, e1, rfl, e2⟩
  · rw [e2]; exact .inl ⟨g, i', d2, e1, rfl, rfl⟩
  · rw [e2]; exact .inr ⟨a, j2, e1, by simp only [AEnd.rn, henc], rfl⟩
theorem rd_look {P : Program} {n : FuncId} {extra : List AVal} {v0 i d : Nat} {l : List Tk} {b : AVal} (hx : extra.map (AVal.rn (tab [0])) = extra) (hb2 : b.rn (tab [0]) = b)
    (h : AC P n (.ptr 0 v0 0 0 :: extra) (rd v0 l i d []) (fun r σ' => r = .ret b ∧ σ'.keep k0 = rd v0 l i d [])) {σ : Store} (h1 : σ.get 0 = some (v0, .row 7 [rdr l i d])) (hb : σ.below 1000 = true) : AC P n (.ptr 0 v0 0 0 :: extra) σ (fun r σ' => r = .ret b ∧ σ' = σ) := by
  have hk : AC P n (.ptr 0 v0 0 0 :: extra) (rd v0 l i d []) (fun r σ' => r = .ret b ∧ σ' = rd v0 l i d []) := ac_mono (ac_keep k0 h) (by
    rintro r σ' ⟨σ1, ⟨h2, h3⟩, rfl⟩
    exact ⟨h2, h3⟩)
  have := ac_ro [0] rfl hk (⟨h1, trivial⟩ : Store.match (tab [0]) σ (rd v0 l i d [])) (by simp [Store.free, Store.get, List.range_succ]) hb
  rw [List.map_cons, hx, hb2] at this
  exact this
end
theorem keep_keep (q : Nat → Bool) (σ : Store) : (σ.keep q).keep q = σ.keep q := by
  induction σ with
  | nil => rfl
  | cons p r ih =>
    obtain ⟨i, y⟩ := p
    cases hq : q i with
    | true => simp [Store.keep, hq, ih]
    | false => simp [Store.keep, hq, ih]
theorem rdk_bad {α : Type} {v0 : Nat} {l : List Tk} {d i' d' : Nat} {enc : α → AVal} {x : Rd α} {g : Flt} {σ' : Store} (h : x = .bad g) (hs : σ'.keep k0 = rd v0 l i' d' []) : RdK v0 l d enc x (.pan (faultI g)) σ' := .inl ⟨g, i', d', h, rfl, hs⟩
theorem rdk_ok {α : Type} {v0 : Nat} {l : List Tk} {d : Nat} {enc : α → AVal} {x : Rd α} {σ' : Store} (a : α) (j : Nat) (h : x = .ok a j) (hs : σ'.keep k0 = rd v0 l j d []) : RdK v0 l d enc x (.ret (enc a)) σ' := .inr ⟨a, j, h, rfl, hs⟩
abbrev encX (e : Ex) : AVal := .agg (cellsE e)
abbrev encRr (r : Tr) : AVal := .agg (cellsR r)
theorem elem1 (a : Tr) : [cellsR a] = [a].map encR := by rw [encR_fun]; rfl
abbrev encUnit (_ : Unit) : AVal := .tuple []
def RdF (v0 : Nat) (l : List Tk) (d : Nat) (x : Rd Ex) (r : AEnd) (σ' : Store) : Prop :=
  (∃ g i' d', x = .bad g ∧ r = .pan (faultI g) ∧ σ'.keep k0 = rd v0 l i' d' []) ∨ (∃ e j, x = .ok e j ∧ ∃ a, r = .ret a ∧ FrzT σ' k0 a (encX e) ∧ σ'.keep k0 = rd v0 l j d [])
theorem rdf_bad {v0 : Nat} {l : List Tk} {d i' d' : Nat} {x : Rd Ex} {g : Flt} {σ' : Store} (h : x = .bad g) (hs : σ'.keep k0 = rd v0 l i' d' []) : RdF v0 l d x (.pan (faultI g)) σ' := .inl ⟨g, i', d', h, rfl, hs⟩
theorem rdf_ok {v0 : Nat} {l : List Tk} {d : Nat} {x : Rd Ex} {σ' : Store} {a : AVal} (e : Ex) (j : Nat) (h : x = .ok e j) (hf : FrzT σ' k0 a (encX e)) (hs : σ'.keep k0 = rd v0 l j d []) : RdF v0 l d x (.ret a) σ' := .inr ⟨e, j, h, a, rfl, hf, hs⟩
theorem ac_rdf {P : Program} {f : FuncId} {avs : List AVal} {σ : Store} {v0 : Nat} {l : List Tk} {d : Nat} {x : Rd Ex} (h : AC P f avs σ (RdF v0 l d x)) : AC P f avs σ (RdK v0 l d encX x) := by
  intro ok L w vs hs hv
  refine (h ok L w vs hs hv).mono ?_
  rintro e w' ⟨r, σ1, ok', L', hr, he, hs', hx⟩
  obtain ⟨ok2, L2, he2, hs2, hk, _⟩ := freeze_core hs' k0
  have kk := keep_keep k0 σ1
  rcases hr with ⟨g, i', d', h1, rfl, h2⟩ | ⟨e2, j, h1, a, rfl, hf, h2⟩
  · refine ⟨.pan (faultI g), _, ok2, L2, .inl ⟨g, i', d', h1, rfl, by rw [kk, h2]⟩, he.trans he2, hs2, ?_⟩
    cases e with
    | panicked chain => obtain ⟨v, e1, e3⟩ := hx; exact ⟨v, e1, e3.evo hs' he2⟩
    | _ => exact hx.elim
  · refine ⟨.ret (encX e2), _, ok2, L2, .inr ⟨e2, j, h1, rfl, by rw [kk, h2]⟩, he.trans he2, hs2, ?_⟩
    cases e with
    | returned v => exact frzT_rep hs' he2 hk hf (show Rep ok' L' w' a v from hx)
    | _ => exact hx.elim
theorem retd_pan2 {P : Program} {fn : Func} {R : AEnd → Store → Prop} {g : FuncId} {avs : List AVal} {a : AVal} {R1 : Store → Prop} {env : Env} {σ σ0 : Store} {D : ADefs} (hi : Into P g) (h1 : ACDp P g avs a σ0 R1) (hs : σ = σ0) (hD : D = [(g, avs)]) (h2 : ∀ σ', R1 σ' → ∃ r, ResOK P fn env σ' r ∧ R (.ret r) σ') : RetPostD P fn R (.panic a) env σ D := by
  subst hs; subst hD; exact ⟨hi, R1, h1, h2⟩
theorem rd_call {α : Type} {P : Program} {n : FuncId} {v0 i d d' : Nat} {l : List Tk} {enc : α → AVal} {x : Rd α} (c : Nat) (hc : c < 1000) (henc : ∀ a, (enc a).rn (tab [c]) = enc a)
    (h : AC P n [.ptr 0 v0 0 0] (rd v0 l i d []) (RdK v0 l d' enc x)) {σ : Store} (h1 : σ.get c = some (v0, .row 7 [rdr l i d])) (hb : σ.below 1000 = true) :
    AC P n [.ptr c v0 0 0] σ (fun r σ' => (∃ g i' d2, x = .bad g ∧ r = .pan (faultI g) ∧ σ' = σ.put c v0 (.row 7 [rdr l i' d2])) ∨ (∃ a j, x = .ok a j ∧ r = .ret (enc a) ∧ σ' = σ.put c v0 (.row 7 [rdr l j d']))) := by
  have ht : tabOK [c] = true := by simp [tabOK, hc]
  have hf : Store.free [c] (rd v0 l i d []) σ = true := by simp [Store.free, Store.get, List.range_succ]
  have hm : Store.match (tab [c]) σ (rd v0 l i d []) := ⟨h1, trivial⟩
  have := ac_at (σ := σ) [c] ht (ac_keep k0 h) hm hf hb (by
    rintro r σ' ⟨σ1, h1, rfl⟩ j hj
    rcases h1 with ⟨g, i', d2, _, _, e2⟩ | ⟨a, j2, _, _, e2⟩ <;>
    · rw [e2] at hj
      revert hj
      simp only [Store.get]
      cases Nat.beq 0 j <;> simp)
  refine ac_mono this ?_
  rintro r σ' ⟨r0, σ0, ⟨σ1, h1, rfl⟩, rfl, rfl⟩
  rcases h1 with ⟨g, i', d2, e1, rfl, e2⟩ | ⟨a, j2, e1, rfl, e2⟩
  · rw [e2]; exact .inl ⟨g, i', d2, e1, rfl, rfl⟩
  · rw [e2]; exact .inr ⟨a, j2, e1, by simp only [AEnd.rn, henc], rfl⟩
def readP {α : Type} (z : α) (l : List Tk) (p : Int) (x : Nat → Rd α) : α × Int × Flt :=
  if ((textP l).2 != 0 || decide (p < 0)) || decide (p > (l.length : Int)) then (z, 0, ⟨2, [], 0, 0⟩)
  else match x p.toNat with
    | .bad g => (z, 0, g)
    | .ok e j => (e, (j : Int), okF)
def encP {α : Type} (enc : α → AVal) (r : α × Int × Flt) : AVal := .tuple [enc r.1, .v (.int .i64 r.2.1), .agg (encF r.2.2)]
theorem readP_arg {α : Type} {z : α} {l : List Tk} {p : Int} {x : Nat → Rd α} (h : (((textP l).2 != 0 || decide (p < 0)) || decide (p > (l.length : Int))) = true) : readP z l p x = (z, 0, ⟨2, [], 0, 0⟩) := if_pos h
theorem readP_bad {α : Type} {z : α} {l : List Tk} {i : Nat} {x : Nat → Rd α} {g : Flt} (h : (((textP l).2 != 0 || decide ((i : Int) < 0)) || decide ((i : Int) > (l.length : Int))) = false) (h1 : x i = .bad g) : readP z l i x = (z, 0, g) := by
  rw [readP, h, if_neg Bool.false_ne_true, Int.toNat_natCast, h1]
theorem readP_ok {α : Type} {z : α} {l : List Tk} {i : Nat} {x : Nat → Rd α} {e : α} {j : Nat} (h : (((textP l).2 != 0 || decide ((i : Int) < 0)) || decide ((i : Int) > (l.length : Int))) = false) (h1 : x i = .ok e j) : readP z l i x = (e, (j : Int), okF) := by
  rw [readP, h, if_neg Bool.false_ne_true, Int.toNat_natCast, h1]
theorem res_cell_tmp_cell {P : Program} {fn : Func} {t ty t' ty' u : Nat} {td td' : TypeDesc} {inf inf' : TypeInfo} {id ver sz id' ver' sz' : Nat} {els els' : List (List AVal)} {el el' : List AVal} {a b c : AVal} {env : Env} {σ : Store} (h : fn.results = #[.cell t ty, .tmp u, .cell t' ty']) (hu : P.underlying ty = some td) (hi : P.info? ty = some inf) (hu' : P.underlying ty' = some td') (hi' : P.info? ty' = some inf') (ht : env.get t = some (.ptr id ver 0 0)) (hid : σ.get id = some (ver, .row sz els)) (hel : els[0]? = some el)
    (ha : asOne (TypeDesc.isAggB td) inf.size (el.drop 0) = some a) (hb : env.get u = some b) (ht' : env.get t' = some (.ptr id' ver' 0 0)) (hid' : σ.get id' = some (ver', .row sz' els')) (hel' : els'[0]? = some el') (hc : asOne (TypeDesc.isAggB td') inf'.size (el'.drop 0) = some c) (hfa : a.flat = true) (hfb : b.flat = true) (hfc : c.flat = true) : ResOK P fn env σ (.tuple [a, b, c]) := by
  intro ok L w tmps hs hr
  obtain ⟨p, p1, p2⟩ := hr t _ ht
  obtain ⟨q, q1, q2⟩ := hr u _ hb
  obtain ⟨p', p1', p2'⟩ := hr t' _ ht'
  obtain ⟨ad, rfl, v, hv, hrep⟩ := load_core hu hi hid hel ha hs (show RepL ok L w (.ptr id ver 0 0) p from p2)
  obtain ⟨ad', rfl, v', hv', hrep'⟩ := load_core hu' hi' hid' hel' hc hs (show RepL ok L w (.ptr id' ver' 0 0) p' from p2')
  refine ⟨.tuple #[v, q, v'], ?_, [v, q, v'], rfl, repA_of hrep hfa, repA_of q2 hfb, repA_of hrep' hfc, trivial⟩
  simp [results, h, p1, q1, p1', asAddr, hv, hv']
theorem res_head {P : Program} {fn : Func} {env : Env} {σ : Store} {a b : AVal} {cs : List AVal} (h : ResOK P fn env σ (.tuple (a :: cs))) (hl : ReA a b) (hf : a.flat = true) (hg : b.flat = true) : ResOK P fn env σ (.tuple (b :: cs)) := by
  intro ok L w tmps hs hr
  obtain ⟨v, h1, vs, h2, h3⟩ := h ok L w tmps hs hr
  match vs, h3 with
  | x :: y, ⟨g1, g2⟩ => exact ⟨v, h1, x :: y, h2, repA_of (hl.rep (rep_of g1 hf)) hg, g2⟩
section
variable {l : List Tk}
theorem tokAt_ok (hl : OKTs l) (i : Nat) : OKT (tokAt l i) := by
  rcases Nat.lt_or_ge i l.length with h | h
  · exact hl.at i h
  · rw [tokAt_out h]
    exact ⟨by decide, by decide, by decide⟩
theorem fltAt_end {i : Nat} (code : Int) (h : l.length ≤ i) : fltAt l code i = eofF := if_pos h
theorem fltAt_in {i : Nat} (code : Int) (h : i < l.length) : fltAt l code i = ⟨code, textT (tokAt l i), (tokAt l i).line, (tokAt l i).col⟩ := if_neg (by omega)
theorem into_ok {d i j : Nat} {u : Unit} (h : intoP l d i = .ok u j) : d ≠ 0 ∧ j = i + 1 := by
  unfold intoP at h
  split at h
  · cases h
  · cases h; exact ⟨by assumption, rfl⟩
theorem open_ok {d i j : Nat} {u : Unit} (h : openP l d i = .ok u j) : d ≠ 0 ∧ j = i + 1 ∧ isAt l [sOpen] i = true := by
  unfold openP at h
  split at h
  · exact ⟨(into_ok h).1, (into_ok h).2, by assumption⟩
  · cases h
theorem want_ok {s : Bs} {i j : Nat} {u : Unit} (h : wantP l s i = .ok u j) : j = i + 1 ∧ isAt l [s] i = true := by
  unfold wantP at h
  split at h
  · cases h; exact ⟨rfl, by assumption⟩
  · cases h
theorem kind_ok {k : Int} {i j : Nat} {a : Tk} (h : kindP l k i = .ok a j) : a = tokAt l i ∧ j = i + 1 ∧ ((tokAt l i).op == k) = true := by
  unfold kindP at h
  split at h
  · cases h; exact ⟨rfl, rfl, by assumption⟩
  · cases h
theorem kind_bad {k : Int} {i : Nat} {g : Flt} (h : kindP l k i = .bad g) : ((tokAt l i).op == k) = false ∧ g = fltAt l 11 i := by
  unfold kindP at h
  split at h
  · cases h
  · rename_i h1; cases h; exact ⟨by simpa using h1, rfl⟩
theorem rd_deep {d : Nat} (h : d ≠ 0) : (40 - (d : Int) + 1) = 40 - ((d - 1 : Nat) : Int) := by omega
theorem rd_back {d : Nat} (h : d ≠ 0) : (40 - ((d - 1 : Nat) : Int) - 1) = 40 - (d : Int) := by omega
theorem level_len (k : Nat) : (levelL k).length ≤ 1000000 := by
  unfold levelL
  rcases k with _ | _ | _ | _ | k <;> first | decide | (simp [levelsL])
theorem prim_lt {i : Nat} (h : ((tokAt l i).op == 3) = true ∨ ((tokAt l i).op == 4) = true ∨ ((tokAt l i).op == 5) = true) : i < l.length := by
  rcases h with h | h | h
  · exact op_lt (k := 3) (by simpa using h) (by decide)
  · exact op_lt (k := 4) (by simpa using h) (by decide)
  · exact op_lt (k := 5) (by simpa using h) (by decide)
theorem isAt_array {i : Nat} (h : isAt l [sVec, sArray] i = true) (h2 : ((tokAt l i).text == sArray) = true) : isAt l [sArray] i = true := by
  unfold isAt at *
  rw [Bool.and_eq_true] at *
  refine ⟨h.1, ?_⟩
  rw [beq_iff_eq] at h2
  rw [h2]
  decide
theorem row_pos {fac : Nat → Rd Ex} {m i : Nat} (h : m ≠ 0) : rowP l fac m i = match rowP l fac (m - 1) i with | .bad g => .bad g | .ok e j => rowLoop l (rowP l fac (m - 1)) (3 - (m - 1)) (l.length - j) e j := by
  cases m with
  | zero => exact absurd rfl h
  | succ m => rfl
theorem row_bad {fac : Nat → Rd Ex} {m i : Nat} {g : Flt} (h : m ≠ 0) (h1 : rowP l fac (m - 1) i = .bad g) : rowP l fac m i = .bad g := by rw [row_pos h, h1]
theorem row_ok {fac : Nat → Rd Ex} {m i j k : Nat} {e : Ex} (h : m ≠ 0) (hk : k + m = 4) (h1 : rowP l fac (m - 1) i = .ok e j) : rowLoop l (rowP l fac (m - 1)) k (l.length - j) e j = rowP l fac m i := by
  rw [row_pos h, h1, show 3 - (m - 1) = k from by omega]
theorem rowLoop_fuel {nxt : Nat → Rd Ex} (hn : ∀ i, (nxt i).gt i l.length) {k : Nat} : ∀ (n f g : Nat) (e : Ex) (j : Nat), l.length - j ≤ n → l.length - j ≤ f → l.length - j ≤ g → rowLoop l nxt k f e j = rowLoop l nxt k g e j := by
  intro n
  induction n with
  | zero =>
    intro f g e j h _ _
    have hat : isAt l (levelL k) j = false := by
      cases hat : isAt l (levelL k) j with
      | false => rfl
      | true => have := isAt_lt hat; omega
    have : ∀ f, rowLoop l nxt k f e j = .ok e j := by intro f; cases f <;> simp [rowLoop, hat]
    rw [this, this]
  | succ n ih =>
    intro f g e j h hf hg
    cases hat : isAt l (levelL k) j with
    | false =>
      have : ∀ f, rowLoop l nxt k f e j = .ok e j := by intro f; cases f <;> simp [rowLoop, hat]
      rw [this, this]
    | true =>
      have hlt := isAt_lt hat
      obtain ⟨f, rfl⟩ : ∃ q, f = q + 1 := ⟨f - 1, by omega⟩
      obtain ⟨g, rfl⟩ : ∃ q, g = q + 1 := ⟨g - 1, by omega⟩
      rw [rowLoop, rowLoop, hat]
      simp only [if_true]
      cases hx : nxt (j + 1) with
      | bad g => rfl
      | ok e2 j2 =>
        have h2 := hn _ _ _ hx
        simp only
        split
        · rfl
        · exact ih _ _ _ j2 (by omega) (by omega) (by omega)
theorem loop_stop {nxt : Nat → Rd Ex} {k f j : Nat} {e : Ex} (h : isAt l (levelL k) j = false) : rowLoop l nxt k f e j = .ok e j := by cases f <;> simp [rowLoop, h]
theorem loop_bad {nxt : Nat → Rd Ex} {k j : Nat} {e : Ex} {g : Flt} (h : isAt l (levelL k) j = true) (h1 : nxt (j + 1) = .bad g) : rowLoop l nxt k (l.length - j) e j = .bad g := by
  have := isAt_lt h
  rw [show l.length - j = (l.length - j - 1) + 1 from by omega, rowLoop, h, if_pos rfl, h1]
theorem loop_one {nxt : Nat → Rd Ex} {k j j2 : Nat} {e e2 : Ex} (h : isAt l (levelL k) j = true) (h1 : nxt (j + 1) = .ok e2 j2) (hk : k = 1) : rowLoop l nxt k (l.length - j) e j = .ok (mkE 5 (tokAt l j).text 0 [] [e, e2] (tokAt l j)) j2 := by
  have := isAt_lt h
  rw [show l.length - j = (l.length - j - 1) + 1 from by omega, rowLoop, h, if_pos rfl, h1]
  simp only [hk, if_true]
theorem loop_step {nxt : Nat → Rd Ex} (hn : ∀ i, (nxt i).gt i l.length) {k j j2 : Nat} {e e2 : Ex} (h : isAt l (levelL k) j = true) (h1 : nxt (j + 1) = .ok e2 j2) (hk : k ≠ 1) : rowLoop l nxt k (l.length - j2) (mkE 5 (tokAt l j).text 0 [] [e, e2] (tokAt l j)) j2 = rowLoop l nxt k (l.length - j) e j := by
  have := isAt_lt h
  have h3 := hn _ _ _ h1
  rw [show l.length - j = (l.length - j - 1) + 1 from by omega, rowLoop, h, if_pos rfl, h1]
  simp only [hk, if_false]
  exact rowLoop_fuel hn _ _ _ _ _ (Nat.le_refl _) (Nat.le_refl _) (by omega)
theorem parts_fuel {inner : Nat → Rd Ex} (hn : ∀ i, (inner i).gt i l.length) {d : Nat} : ∀ (n f g : Nat) (e : Ex) (j : Nat), l.length - j ≤ n → l.length - j ≤ f → l.length - j ≤ g → partsP l d inner f e j = partsP l d inner g e j := by
  intro n
  induction n with
  | zero =>
    intro f g e j h _ _
    have hat : isAt l [sOpen] j = false := by
      cases hat : isAt l [sOpen] j with
      | false => rfl
      | true => have := isAt_lt hat; omega
    have : ∀ f, partsP l d inner f e j = .ok e j := by intro f; cases f <;> simp [partsP, hat]
    rw [this, this]
  | succ n ih =>
    intro f g e j h hf hg
    cases hat : isAt l [sOpen] j with
    | false =>
      have : ∀ f, partsP l d inner f e j = .ok e j := by intro f; cases f <;> simp [partsP, hat]
      rw [this, this]
    | true =>
      have hlt := isAt_lt hat
      obtain ⟨f, rfl⟩ : ∃ q, f = q + 1 := ⟨f - 1, by omega⟩
      obtain ⟨g, rfl⟩ : ∃ q, g = q + 1 := ⟨g - 1, by omega⟩
      rw [partsP, partsP, hat]
      simp only [if_true]
      cases hx : partP l d inner e j with
      | bad g => rfl
      | ok e2 j2 =>
        have h2 := part_gt hn _ _ hx
        simp only
        exact ih _ _ _ j2 (by omega) (by omega) (by omega)
theorem parts_stop {inner : Nat → Rd Ex} {d f j : Nat} {e : Ex} (h : isAt l [sOpen] j = false) : partsP l d inner f e j = .ok e j := by cases f <;> simp [partsP, h]
theorem parts_bad {inner : Nat → Rd Ex} {d j : Nat} {e : Ex} {g : Flt} (h : isAt l [sOpen] j = true) (h1 : partP l d inner e j = .bad g) : partsP l d inner (l.length - j) e j = .bad g := by
  have := isAt_lt h
  rw [show l.length - j = (l.length - j - 1) + 1 from by omega, partsP, h, if_pos rfl, h1]
theorem parts_step {inner : Nat → Rd Ex} (hn : ∀ i, (inner i).gt i l.length) {d j j2 : Nat} {e e2 : Ex} (h : isAt l [sOpen] j = true) (h1 : partP l d inner e j = .ok e2 j2) : partsP l d inner (l.length - j2) e2 j2 = partsP l d inner (l.length - j) e j := by
  have := isAt_lt h
  have h3 := part_gt hn _ _ h1
  rw [show l.length - j = (l.length - j - 1) + 1 from by omega, partsP, h, if_pos rfl, h1]
  simp only
  exact parts_fuel hn _ _ _ _ _ (Nat.le_refl _) (Nat.le_refl _) (by omega)
theorem args_stop {inner : Nat → Rd Ex} {f j : Nat} {kids : List Ex} (h : isAt l [sComma] j = false) : argsP l inner f kids j = .ok kids j := by cases f <;> simp [argsP, h]
theorem args_full {inner : Nat → Rd Ex} {j : Nat} {kids : List Ex} (h : isAt l [sComma] j = true) (hk : kids.length = 20) : argsP l inner (20 - kids.length) kids j = .bad (fltAt l 11 j) := by
  rw [hk]; simp [argsP, h]
theorem args_bad {inner : Nat → Rd Ex} {j : Nat} {kids : List Ex} {g : Flt} (h : isAt l [sComma] j = true) (hk : kids.length < 20) (h1 : inner (j + 1) = .bad g) : argsP l inner (20 - kids.length) kids j = .bad g := by
  rw [show 20 - kids.length = (20 - kids.length - 1) + 1 from by omega, argsP, h, if_pos rfl, h1]
theorem args_step {inner : Nat → Rd Ex} {j j2 : Nat} {kids : List Ex} {e : Ex} (h : isAt l [sComma] j = true) (hk : kids.length < 20) (h1 : inner (j + 1) = .ok e j2) : argsP l inner (20 - (kids ++ [e]).length) (kids ++ [e]) j2 = argsP l inner (20 - kids.length) kids j := by
  rw [show 20 - kids.length = (20 - kids.length - 1) + 1 from by omega, argsP, h, if_pos rfl, h1]
  simp only [List.length_append, List.length_singleton]
  rw [show 20 - (kids.length + 1) = 20 - kids.length - 1 from by omega]
theorem factor_pos {d i : Nat} (h : isAt l [sNot, sMinus] i = true) (hd : d ≠ 0) : factor l d i = match factor l (d - 1) (i + 1) with | .bad g => .bad g | .ok e j => .ok (mkE 5 (tokAt l i).text 0 [] [e] (tokAt l i)) j := by
  cases d with
  | zero => exact absurd rfl hd
  | succ d => rw [factor, facP, if_pos h, intoP, if_neg (Nat.succ_ne_zero d)]; rfl
theorem fac_into {d i : Nat} {g : Flt} (h : isAt l [sNot, sMinus] i = true) (h1 : intoP l d i = .bad g) : factor l d i = .bad g := by
  rw [facP_factor, facP, if_pos h, h1]
theorem fac_bad {d i : Nat} {g : Flt} (h : isAt l [sNot, sMinus] i = true) (hd : d ≠ 0) (h1 : factor l (d - 1) (i + 1) = .bad g) : factor l d i = .bad g := by rw [factor_pos h hd, h1]
theorem fac_ok {d i j : Nat} {e : Ex} (h : isAt l [sNot, sMinus] i = true) (hd : d ≠ 0) (h1 : factor l (d - 1) (i + 1) = .ok e j) : factor l d i = .ok (mkE 5 (tokAt l i).text 0 [] [e] (tokAt l i)) j := by rw [factor_pos h hd, h1]
theorem want_yes {s : Bs} {i : Nat} (h : isAt l [s] i = true) : wantP l s i = .ok () (i + 1) := if_pos h
theorem innerD_pos {d : Nat} (h : d ≠ 0) : innerD l d = rowD l (d - 1) 4 := by
  cases d with
  | zero => exact absurd rfl h
  | succ d => rfl
end
end Go.Proofs.YtcgdlhkiecommaaGreatDoor
/- Tokens that can be written. -/

namespace Go.Proofs.YtcgdlhkiecommaaGreatDoor
open Go
theorem textP_wr {l : List Tk} (h : (textP l).2 = 0) : l.length ≤ 20000 ∧ ∀ t ∈ l, (wrP t).2 = true := by
  unfold textP at h
  split at h
  · simp at h
  · rename_i h1
    refine ⟨by omega, ?_⟩
    cases ha : l.all (fun t => (wrP t).2) with
    | false => rw [ha] at h; simp at h
    | true => exact List.all_eq_true.1 ha
theorem wr_name {t : Tk} (h : (wrP t).2 = true) (ho : (t.op == 1) = true) : isNameL t.text = true := by
  unfold wrP at h
  rw [beq_iff_eq] at ho
  cases hn : (t.op != 3) && (t.n != 0) with
  | true => rw [hn] at h; simp at h
  | false => rw [hn] at h; simp only [cond_false, ho] at h; exact h
theorem name_noword {s : Bs} (h : isNameL s = true) : isWordL s = false := by
  simp only [isNameL, Bool.and_eq_true, Bool.not_eq_true'] at h
  exact h.2.2.2.2
theorem name_array {l : List Tk} (h : (textP l).2 = 0) (i : Nat) (ho : ((tokAt l i).op == 1) = true) : ((tokAt l i).text == sArray) = false := by
  have hi := op_lt (l := l) (i := i) (k := 1) (by simpa using ho) (by decide)
  have h1 := wr_name ((textP_wr h).2 (tokAt l i) (getD_mem hi)) ho
  have h2 := name_noword h1
  cases h3 : ((tokAt l i).text == sArray) with
  | false => rfl
  | true =>
    rw [beq_iff_eq] at h3
    rw [h3] at h2
    exact absurd h2 (by decide)
end Go.Proofs.YtcgdlhkiecommaaGreatDoor
/- Writing in plain Lean: shapes, strengths, tokens, depth, names, parts. -/

namespace Go.Proofs.YtcgdlhkiecommaaGreatDoor
open Go
def noneV (v : Va) : Bool := ((v.kind == 0 && v.n == 0) && ((v.bits.length : Int) == 0)) && ((v.list.length : Int) == 0)
def untyped (t : Ty) : Bool := (((t.kind == 0 && t.len == 0) && t.name == []) && ((t.names.length : Int) == 0)) && ((t.elem.length : Int) == 0)
def strengthI (s : Bs) : Int := if (levelL 0).contains s then 0 else if (levelL 1).contains s then 1 else if (levelL 2).contains s then 2 else if (levelL 3).contains s then 3 else -1
def isBits (b : List Int) : Bool := (decide ((b.length : Int) ≥ 1) && decide ((b.length : Int) ≤ 64)) && !(b.any fun x => !(decide (x ≤ 3)))
def oneOp (e : Ex) : Bool := ((e.kids.length : Int) == 1) && (e.name == sNot || e.name == sMinus)
def shapeP (e : Ex) : Bool :=
  bif (!noneV e.val || !untyped e.type) || (e.op != 1 && e.n != 0) then false else
  bif e.op == 1 then (((!(e.name != []) && ((e.bits.length : Int) == 0)) && ((e.kids.length : Int) == 0)) && decide (e.n ≥ 0)) && decide (e.n ≤ 2147483647) else
  bif e.op == 2 then ((!(e.name != []) && ((e.bits.length : Int) == 1)) && ((e.kids.length : Int) == 0)) && isBits e.bits else
  bif e.op == 3 then (!(e.name != []) && ((e.kids.length : Int) == 0)) && isBits e.bits else
  bif e.op == 4 then (((e.bits.length : Int) == 0) && ((e.kids.length : Int) == 0)) && isNameL e.name else
  bif e.op == 5 then (bif decide ((e.bits.length : Int) > 0) then false else (oneOp e || (((e.kids.length : Int) == 2) && decide (strengthI e.name ≥ 0))) || ((decide ((e.kids.length : Int) ≥ 1) && decide ((e.kids.length : Int) ≤ 20)) && isNameL e.name)) else
  bif e.op == 6 then ((!(e.name != []) && ((e.bits.length : Int) == 0)) && ((e.kids.length : Int) == 2)) && ((e.kids.getD 0 default).op != 4) else
  bif e.op == 7 then (!(e.name != []) && ((e.bits.length : Int) == 0)) && ((e.kids.length : Int) == 3) else false
mutual
def shapesP : Ex → Nat → Bool
  | .mk o s n b v k t l c, d => (decide ((d : Int) ≤ 20000) && shapeP (.mk o s n b v k t l c)) && !(shapesPs k (d + 1))
def shapesPs : List Ex → Nat → Bool
  | [], _ => false
  | e :: r, d => !(shapesP e d) || shapesPs r d
end
theorem shapesP_eq (e : Ex) (d : Nat) : shapesP e d = ((decide ((d : Int) ≤ 20000) && shapeP e) && !(e.kids.any fun k => !(shapesP k (d + 1)))) := by
  have h : ∀ l : List Ex, shapesPs l (d + 1) = l.any fun k => !(shapesP k (d + 1)) := by
    intro l
    induction l with
    | nil => simp [shapesPs]
    | cons a l ih => simp [shapesPs, ih]
  rw [← h]
  cases e; rfl
mutual
def formP : Ex → Bool
  | .mk o s n b v k t l c => shapeP (.mk o s n b v k t l c) && formPs k
def formPs : List Ex → Bool
  | [] => true
  | e :: r => formP e && formPs r
end
mutual
def height : Ex → Nat
  | .mk _ _ _ _ _ k _ _ _ => heights k
def heights : List Ex → Nat
  | [] => 0
  | e :: r => max (height e + 1) (heights r)
end
theorem formP_eq (e : Ex) : formP e = (shapeP e && formPs e.kids) := by cases e; rfl
theorem formPs_all (l : List Ex) : formPs l = l.all formP := by
  induction l with
  | nil => simp [formPs]
  | cons a l ih => simp [formPs, ih]
theorem height_eq (e : Ex) : height e = heights e.kids := by cases e; rfl
def bindsP (e : Ex) : Int := bif e.op != 5 || isNameL e.name then 5 else bif (e.kids.length : Int) == 1 then 4 else strengthI e.name
def tkS (s : Bs) : Tk := ⟨if isWordL s then 2 else 7, s, 0, 0, 0⟩
def tkN (s : Bs) : Tk := ⟨1, s, 0, 0, 0⟩
def bitC (x : Int) : UInt8 := ([48, 49, 120, 122] : Bs).getD x.toNat default
def bitsT (b : List Int) : Bs := (b.map bitC).reverse
def inBr (t : List Tk) : List Tk := tkS sOpen :: (t ++ [tkS sShut])
def kidT (kids : List Ex) (ts : List (List Tk)) (i : Nat) (least : Int) : List Tk := if bindsP (kids.getD i default) < least then inBr (ts.getD i []) else ts.getD i []
def sepT (s : Bs) : List (List Tk) → List Tk
  | [] => []
  | [t] => t
  | t :: r => t ++ (tkS s :: sepT s r)
def leftP (k : Int) : Int := bif k == 1 then k + 1 else k
def toksOf (e : Ex) (ts : List (List Tk)) : List Tk :=
  bif e.op == 1 then [⟨3, [], e.n, 0, 0⟩] else
  bif e.op == 2 then [⟨4, bitsT e.bits, 0, 0, 0⟩] else
  bif e.op == 3 then [⟨5, bitsT e.bits, 0, 0, 0⟩] else
  bif e.op == 4 then [tkN e.name] else
  bif e.op == 6 then kidT e.kids ts 0 5 ++ inBr (ts.getD 1 []) else
  bif e.op == 7 then kidT e.kids ts 0 5 ++ inBr (sepT sDownto (ts.drop 1)) else
  bif bindsP e == 5 then tkN e.name :: inBr (sepT sComma ts) else
  bif bindsP e == 4 then tkS e.name :: kidT e.kids ts 0 4 else
  kidT e.kids ts 0 (leftP (bindsP e)) ++ (tkS e.name :: kidT e.kids ts 1 (bindsP e + 1))
def kidD (kids : List Ex) (ds : List Nat) (i : Nat) (least : Int) : Nat := if bindsP (kids.getD i default) < least then ds.getD i 0 + 1 else ds.getD i 0
def maxL : List Nat → Nat
  | [] => 0
  | a :: r => max a (maxL r)
def depOf (e : Ex) (ds : List Nat) : Nat :=
  bif e.op == 1 then 0 else bif e.op == 2 then 0 else bif e.op == 3 then 0 else bif e.op == 4 then 0 else
  bif e.op == 6 then max (kidD e.kids ds 0 5) (ds.getD 1 0 + 1) else
  bif e.op == 7 then max (kidD e.kids ds 0 5) (maxL (ds.drop 1) + 1) else
  bif bindsP e == 5 then maxL ds + 1 else
  bif bindsP e == 4 then kidD e.kids ds 0 4 + 1 else
  max (kidD e.kids ds 0 (leftP (bindsP e))) (kidD e.kids ds 1 (bindsP e + 1))
mutual
def toks : Ex → List Tk
  | .mk o s n b v k t l c => toksOf (.mk o s n b v k t l c) (toksL k)
def toksL : List Ex → List (List Tk)
  | [] => []
  | e :: r => toks e :: toksL r
end
mutual
def dep : Ex → Nat
  | .mk o s n b v k t l c => depOf (.mk o s n b v k t l c) (depL k)
def depL : List Ex → List Nat
  | [] => []
  | e :: r => dep e :: depL r
end
theorem toksL_map (l : List Ex) : toksL l = l.map toks := by
  induction l with
  | nil => simp [toksL]
  | cons a l ih => simp [toksL, ih]
theorem depL_map (l : List Ex) : depL l = l.map dep := by
  induction l with
  | nil => simp [depL]
  | cons a l ih => simp [depL, ih]
theorem toks_eq (e : Ex) : toks e = toksOf e (e.kids.map toks) := by rw [← toksL_map]; cases e; rfl
theorem dep_eq (e : Ex) : dep e = depOf e (e.kids.map dep) := by rw [← depL_map]; cases e; rfl
def validP (e : Ex) : Bool := shapesP e 0 && decide (((dep e : Nat) : Int) ≤ 40)
mutual
def toksR : Tr → List Tk
  | .mk s l e i c => bif (l.length : Int) == 0 then [tkN s] else tkS s :: (inBr (sepT [] (l.map toks)) ++ toksRs e)
def toksRs : List Tr → List Tk
  | [] => []
  | r :: t => tkS sOf :: (toksR r ++ toksRs t)
end
theorem toksR_eq (r : Tr) : toksR r = bif (r.len.length : Int) == 0 then [tkN r.name] else tkS r.name :: (inBr (sepT [] (r.len.map toks)) ++ toksRs r.elem) := by cases r; rfl
theorem toksRs_snoc (l : List Tr) (x : Tr) : toksRs (l ++ [x]) = toksRs l ++ (tkS sOf :: toksR x) := by
  induction l with
  | nil => simp [toksRs]
  | cons a l ih => simp only [List.cons_append, toksRs, ih, List.append_assoc]
mutual
def depR : Tr → Nat
  | .mk s l e i c => bif (l.length : Int) == 0 then 0 else max (maxL (l.map dep) + 1) (depRs e)
def depRs : List Tr → Nat
  | [] => 0
  | r :: t => max (depR r) (depRs t)
end
theorem depR_eq (r : Tr) : depR r = bif (r.len.length : Int) == 0 then 0 else max (maxL (r.len.map dep) + 1) (depRs r.elem) := by cases r; rfl
theorem depRs_snoc (l : List Tr) (x : Tr) : depRs (l ++ [x]) = max (depRs l) (depR x) := by
  induction l with
  | nil => simp [depRs]
  | cons a l ih => simp only [List.cons_append, depRs, ih]; omega
def okR (r : Tr) : Bool := decide (((depR r : Nat) : Int) ≤ 40)
mutual
def validR : Tr → Bool
  | .mk s l e i c =>
    bif s == sVec then ((((l.length : Int) == 1) && ((e.length : Int) == 0)) && validP (l.getD 0 default)) && okR (.mk s l e i c) else
    bif s == sArray then (((((l.length : Int) == 1) && ((e.length : Int) == 1)) && validP (l.getD 0 default)) && ((e.getD 0 default).name != sArray)) && validRs e && okR (.mk s l e i c) else
    (isNameL s && ((l.length : Int) == 0)) && ((e.length : Int) == 0)
def validRs : List Tr → Bool
  | [] => true
  | r :: _ => validR r
end
theorem validR_eq (r : Tr) : validR r =
    bif r.name == sVec then ((((r.len.length : Int) == 1) && ((r.elem.length : Int) == 0)) && validP (r.len.getD 0 default)) && okR r else
    bif r.name == sArray then (((((r.len.length : Int) == 1) && ((r.elem.length : Int) == 1)) && validP (r.len.getD 0 default)) && ((r.elem.getD 0 default).name != sArray)) && validRs r.elem && okR r else
    (isNameL r.name && ((r.len.length : Int) == 0)) && ((r.elem.length : Int) == 0) := by cases r; rfl
theorem validRs_eq {l : List Tr} (h : 0 < l.length) : validRs l = validR (l.getD 0 default) := by
  cases l with
  | nil => simp at h
  | cons a l => rfl
def addName (out : List Bs) (t : Tk) : List Bs := if t.op == 1 && !(out.contains t.text) then out ++ [t.text] else out
def namesT (l : List Tk) : List Bs := l.foldl addName []
def targE (e : Ex) : Bool := e.op == 4 || ((e.op == 5 && ((e.kids.length : Int) == 1)) && isNameL e.name)
mutual
def isTargP : Ex → Bool
  | .mk o s n b v k t l c => bif (o == 6 || o == 7) then isTargH k else targE (.mk o s n b v k t l c)
def isTargH : List Ex → Bool
  | [] => false
  | e :: _ => isTargP e
end
theorem isTargP_eq (e : Ex) : isTargP e = bif (e.op == 6 || e.op == 7) then isTargH e.kids else targE e := by cases e; rfl
theorem isTargH_eq {l : List Ex} (h : 0 < l.length) : isTargH l = isTargP (l.getD 0 default) := by
  cases l with
  | nil => simp at h
  | cons a l => rfl
theorem str_more {s : Bs} {i : Nat} (h : ∀ k, k < i → (levelL k).contains s = false) (h1 : (levelL i).contains s = false) : ∀ k, k < i + 1 → (levelL k).contains s = false := by
  intro k hk
  rcases Nat.lt_or_ge k i with h2 | h2
  · exact h k h2
  · rw [show k = i by omega]; exact h1
theorem str_found {s : Bs} (i : Nat) (hi : i < 4) (h : ∀ k, k < i → (levelL k).contains s = false) (h1 : (levelL i).contains s = true) : strengthI s = (i : Int) := by
  unfold strengthI
  rcases i with _ | _ | _ | _ | i
  · rw [if_pos h1]; rfl
  · rw [if_neg (by rw [h 0 (by omega)]; exact Bool.false_ne_true), if_pos h1]; rfl
  · rw [if_neg (by rw [h 0 (by omega)]; exact Bool.false_ne_true), if_neg (by rw [h 1 (by omega)]; exact Bool.false_ne_true), if_pos h1]; rfl
  · rw [if_neg (by rw [h 0 (by omega)]; exact Bool.false_ne_true), if_neg (by rw [h 1 (by omega)]; exact Bool.false_ne_true), if_neg (by rw [h 2 (by omega)]; exact Bool.false_ne_true), if_pos h1]; rfl
  · omega
theorem str_none {s : Bs} (h : ∀ k, k < 4 → (levelL k).contains s = false) : strengthI s = -1 := by
  unfold strengthI
  rw [if_neg (by rw [h 0 (by omega)]; exact Bool.false_ne_true), if_neg (by rw [h 1 (by omega)]; exact Bool.false_ne_true), if_neg (by rw [h 2 (by omega)]; exact Bool.false_ne_true), if_neg (by rw [h 3 (by omega)]; exact Bool.false_ne_true)]
theorem str_range (s : Bs) : -1 ≤ strengthI s ∧ strengthI s ≤ 3 := by
  unfold strengthI
  repeat' split
  all_goals omega
theorem binds_range (e : Ex) : -1 ≤ bindsP e ∧ bindsP e ≤ 5 := by
  have := str_range e.name
  unfold bindsP
  cases (e.op != 5 || isNameL e.name) <;> cases (((e.kids.length : Int) == 1)) <;> simp <;> omega
theorem findIdx_at {α : Type} [Inhabited α] {p : α → Bool} {l : List α} (i : Nat) (hi : i < l.length) (h : ∀ k, k < i → p (l.getD k default) = false) (h1 : p (l.getD i default) = true) : l.findIdx p = i := by
  have e : ∀ k (hk : k < l.length), l.getD k default = l[k] := fun k hk => by rw [List.getD_eq_getElem?_getD, List.getElem?_eq_getElem hk]; rfl
  refine (List.findIdx_eq hi).2 ⟨by rw [← e i hi]; exact h1, fun j hj => by rw [← e j (by omega)]; exact h j hj⟩
theorem idx_more {p : Nat → Bool} {i : Nat} (h : ∀ k, k < i → p k = false) (h1 : p i = false) : ∀ k, k < i + 1 → p k = false := by
  intro k hk
  rcases Nat.lt_or_ge k i with h2 | h2
  · exact h k h2
  · rw [show k = i by omega]; exact h1
theorem any_found {α : Type} [Inhabited α] {p : α → Bool} {l : List α} (i : Nat) (hi : i < l.length) (h : p (l.getD i default) = true) : l.any p = true := by
  rw [List.any_eq_true]; exact ⟨_, getD_mem hi, h⟩
theorem any_none {α : Type} [Inhabited α] {p : α → Bool} {l : List α} (h : ∀ k, k < l.length → p (l.getD k default) = false) : l.any p = false := by
  rw [List.any_eq_false]
  intro x hx
  obtain ⟨k, hk, rfl⟩ := List.getElem_of_mem hx
  have := h k hk
  rw [List.getD_eq_getElem?_getD, List.getElem?_eq_getElem hk] at this
  simpa using this
end Go.Proofs.YtcgdlhkiecommaaGreatDoor
/- Trees of a size that memory holds; closures that look at one cell. -/

namespace Go.Proofs.YtcgdlhkiecommaaGreatDoor
open Go
mutual
def szE : Ex → Bool
  | .mk o s n b v k t l c => ((decide (s.length ≤ 1000000000) && decide (b.length ≤ 1000000000)) && (decide (k.length ≤ 1000000000) && b.all fun x => decide (0 ≤ x))) && szEs k
def szEs : List Ex → Bool
  | [] => true
  | e :: r => szE e && szEs r
end
theorem szE_facts {e : Ex} (h : szE e = true) : e.name.length ≤ 1000000000 ∧ e.bits.length ≤ 1000000000 ∧ e.kids.length ≤ 1000000000 ∧ (∀ x ∈ e.bits, 0 ≤ x) ∧ ∀ k ∈ e.kids, szE k = true := by
  have hl : ∀ l : List Ex, szEs l = true → ∀ k ∈ l, szE k = true := by
    intro l
    induction l with
    | nil => intro _ k hk; cases hk
    | cons a l ih =>
      intro h k hk
      rw [szEs, Bool.and_eq_true] at h
      cases hk with
      | head => exact h.1
      | tail _ hk => exact ih h.2 k hk
  cases e with
  | mk o s n b v k t l c =>
    rw [szE] at h
    simp only [Bool.and_eq_true, decide_eq_true_eq, List.all_eq_true] at h
    exact ⟨h.1.1.1, h.1.1.2, h.1.2.1, h.1.2.2, hl k h.2⟩
theorem one_look {P : Program} {n : FuncId} {bvs : List AVal} {v0 : Nat} {o : AObj} {b : AVal} (c : Nat) (hc : c < 1000) (ho : o.rn (tab [c]) = o) (hb2 : b.rn (tab [c]) = b)
    (h : AC P n bvs [(0, v0, o)] (fun r σ' => r = .ret b ∧ σ'.keep k0 = [(0, v0, o)])) {σ : Store} (h1 : σ.get c = some (v0, o)) (hb : σ.below 1000 = true) : AC P n (bvs.map (AVal.rn (tab [c]))) σ (fun r σ' => r = .ret b ∧ σ' = σ) := by
  have hk : AC P n bvs [(0, v0, o)] (fun r σ' => r = .ret b ∧ σ' = [(0, v0, o)]) := ac_mono (ac_keep k0 h) (by
    rintro r σ' ⟨σ1, ⟨h2, h3⟩, rfl⟩
    exact ⟨h2, h3⟩)
  have ht : tabOK [c] = true := by simp [tabOK, hc]
  have := ac_ro [c] ht hk (⟨by rw [show tab [c] 0 = c from rfl, ho]; exact h1, trivial⟩ : Store.match (tab [c]) σ [(0, v0, o)]) (by simp [Store.free, Store.get, List.range_succ]) hb
  rw [hb2] at this
  exact this
end Go.Proofs.YtcgdlhkiecommaaGreatDoor
/- Sameness, as the program asks it. -/

namespace Go.Proofs.YtcgdlhkiecommaaGreatDoor
open Go
mutual
def szV : Va → Bool
  | .mk _ _ b l => (decide (b.length ≤ 140737488355328) && decide (l.length ≤ 140737488355328)) && szVs l
def szVs : List Va → Bool
  | [] => true
  | e :: r => szV e && szVs r
end
mutual
def szT : Ty → Bool
  | .mk _ _ s n l => (decide (s.length ≤ 140737488355328) && (decide (n.length ≤ 140737488355328) && decide (l.length ≤ 140737488355328))) && szTs l
def szTs : List Ty → Bool
  | [] => true
  | e :: r => szT e && szTs r
end
mutual
def szX : Ex → Bool
  | .mk o s n b v k t l c => ((decide (s.length ≤ 140737488355328) && decide (b.length ≤ 140737488355328)) && (decide (k.length ≤ 140737488355328) && (szV v && szT t))) && szXs k
def szXs : List Ex → Bool
  | [] => true
  | e :: r => szX e && szXs r
end
theorem szV_facts {e : Va} (h : szV e = true) : e.bits.length ≤ 140737488355328 ∧ e.list.length ≤ 140737488355328 ∧ ∀ k ∈ e.list, szV k = true := by
  have hl : ∀ l : List Va, szVs l = true → ∀ k ∈ l, szV k = true := by
    intro l
    induction l with
    | nil => intro _ k hk; cases hk
    | cons a l ih =>
      intro h k hk
      rw [szVs, Bool.and_eq_true] at h
      cases hk with
      | head => exact h.1
      | tail _ hk => exact ih h.2 k hk
  cases e with
  | mk k n b l =>
    rw [szV] at h
    simp only [Bool.and_eq_true, decide_eq_true_eq] at h
    exact ⟨h.1.1, h.1.2, hl l h.2⟩
theorem szT_facts {e : Ty} (h : szT e = true) : e.name.length ≤ 140737488355328 ∧ e.names.length ≤ 140737488355328 ∧ e.elem.length ≤ 140737488355328 ∧ ∀ k ∈ e.elem, szT k = true := by
  have hl : ∀ l : List Ty, szTs l = true → ∀ k ∈ l, szT k = true := by
    intro l
    induction l with
    | nil => intro _ k hk; cases hk
    | cons a l ih =>
      intro h k hk
      rw [szTs, Bool.and_eq_true] at h
      cases hk with
      | head => exact h.1
      | tail _ hk => exact ih h.2 k hk
  cases e with
  | mk k n s ns l =>
    rw [szT] at h
    simp only [Bool.and_eq_true, decide_eq_true_eq] at h
    exact ⟨h.1.1, h.1.2.1, h.1.2.2, hl l h.2⟩
theorem szX_facts {e : Ex} (h : szX e = true) : e.name.length ≤ 140737488355328 ∧ e.bits.length ≤ 140737488355328 ∧ e.kids.length ≤ 140737488355328 ∧ szV e.val = true ∧ szT e.type = true ∧ ∀ k ∈ e.kids, szX k = true := by
  have hl : ∀ l : List Ex, szXs l = true → ∀ k ∈ l, szX k = true := by
    intro l
    induction l with
    | nil => intro _ k hk; cases hk
    | cons a l ih =>
      intro h k hk
      rw [szXs, Bool.and_eq_true] at h
      cases hk with
      | head => exact h.1
      | tail _ hk => exact ih h.2 k hk
  cases e with
  | mk o s n b v k t l c =>
    rw [szX] at h
    simp only [Bool.and_eq_true, decide_eq_true_eq] at h
    exact ⟨h.1.1.1, h.1.1.2, h.1.2.1, h.1.2.2.1, h.1.2.2.2, hl k h.2⟩
section
variable {α : Type} [Inhabited α] [BEq α] [LawfulBEq α] {a b : List α}
theorem leq_len (h : ((a.length : Int) != (b.length : Int)) = true) : (a == b) = false := by
  cases h2 : (a == b) with
  | false => rfl
  | true => rw [beq_iff_eq] at h2; subst h2; simp at h
theorem leq_no (i : Nat) (hi : i < a.length) (hb : i < b.length) (h : (a.getD i default != b.getD i default) = true) : (a == b) = false := by
  cases h2 : (a == b) with
  | false => rfl
  | true => rw [beq_iff_eq] at h2; subst h2; simp at h
theorem leq_yes (hl : ((a.length : Int) != (b.length : Int)) = false) (h : ∀ k, k < a.length → (a.getD k default != b.getD k default) = false) : (a == b) = true := by
  rw [bne_eq_false_iff_eq] at hl
  rw [beq_iff_eq]
  refine List.ext_getElem (by omega) fun k h1 h2 => ?_
  have := h k h1
  rw [List.getD_eq_getElem?_getD, List.getD_eq_getElem?_getD, List.getElem?_eq_getElem h1, List.getElem?_eq_getElem h2, bne_eq_false_iff_eq] at this
  simpa using this
end
section
variable {α : Type} [Inhabited α] {f : α → α → Bool} {a b : List α}
theorem alls_len (h : ((a.length : Int) != (b.length : Int)) = true) : allSame f a b = false := allSame_ne (by intro e; rw [e] at h; simp at h)
theorem alls_no (i : Nat) (hi : i < a.length) (hb : i < b.length) (h : (!(f (a.getD i default) (b.getD i default))) = true) : allSame f a b = false := allSame_no i hi hb (by simpa using h)
theorem alls_yes (hl : ((a.length : Int) != (b.length : Int)) = false) (h : ∀ k, k < a.length → (!(f (a.getD k default) (b.getD k default))) = false) : allSame f a b = true :=
  (allSame_iff (by have := bne_eq_false_iff_eq.1 hl; omega)).2 fun i hi => by simpa using h i hi
end
theorem sameE_no {a b : Ex} (h : (((((((a.op != b.op) || (a.name != b.name)) || (a.n != b.n)) || ((a.kids.length : Int) != (b.kids.length : Int))) || !(a.bits == b.bits)) || !(sameV a.val b.val)) || !(sameT a.type b.type)) = true) : sameE a b = false := by
  rw [sameE_eq, sameEs_all]
  simp only [Bool.or_eq_true, Bool.not_eq_true'] at h
  rcases h with (((((h | h) | h) | h) | h) | h) | h
  · have : (a.op == b.op) = false := by simpa using h
    rw [this]; rfl
  · have : (a.name == b.name) = false := by simpa using h
    rw [this]; cases (a.op == b.op) <;> rfl
  · have : (a.n == b.n) = false := by simpa using h
    rw [this]; cases (a.op == b.op) <;> cases (a.name == b.name) <;> rfl
  · rw [alls_len h]; simp
  · rw [h]; simp
  · rw [h]; simp
  · rw [h]; simp
theorem sameE_yes {a b : Ex} (h : (((((((a.op != b.op) || (a.name != b.name)) || (a.n != b.n)) || ((a.kids.length : Int) != (b.kids.length : Int))) || !(a.bits == b.bits)) || !(sameV a.val b.val)) || !(sameT a.type b.type)) = false) : sameE a b = allSame sameE a.kids b.kids := by
  rw [sameE_eq, sameEs_all]
  simp only [Bool.or_eq_false_iff, Bool.not_eq_false', bne_eq_false_iff_eq] at h
  obtain ⟨⟨⟨⟨⟨⟨h1, h2⟩, h3⟩, h4⟩, h5⟩, h6⟩, h7⟩ := h
  rw [h1, h2, h3, h5, h6, h7]
  simp
end Go.Proofs.YtcgdlhkiecommaaGreatDoor
/- The writer in memory, and what a call on it leaves. -/

namespace Go.Proofs.YtcgdlhkiecommaaGreatDoor
open Go
abbrev wr (v0 v1 : Nat) (out : List Tk) (d m : Int) (τ : Store) : Store := (0, v0, .row 3 [[.slice 1 v1 0 out.length, .v (.int .i64 d), .v (.int .i64 m)]]) :: (1, v1, .row 5 (out.map encK)) :: τ
def k01 (i : Nat) : Bool := Nat.beq i 0 || Nat.beq i 1
def WrT (v0 : Nat) (out : List Tk) (d m : Int) (τ : Store) (r : AEnd) (σ' : Store) : Prop := ∃ v1, r = .ret (.tuple []) ∧ σ' = wr v0 v1 out d m τ
def WrK (v0 : Nat) (out : List Tk) (d m : Int) (r : AEnd) (σ' : Store) : Prop := ∃ v1, r = .ret (.tuple []) ∧ σ'.keep k01 = wr v0 v1 out d m []
theorem encK_rn (l : List Tk) (ρ : Nat → Nat) : (l.map encK).map (List.map (AVal.rn1 ρ)) = l.map encK := by
  rw [List.map_map]; exact List.map_congr_left fun t _ => rfl
theorem wr_below {v0 v1 : Nat} {out : List Tk} {d m : Int} {τ : Store} (h : τ.below 1000 = true) : (wr v0 v1 out d m τ).below 1000 = true := by
  simp [wr, Store.below, h]
theorem wr_lift {P : Program} {n : FuncId} {extra : List AVal} {v0 v1 : Nat} {out out' : List Tk} {d m d' m' : Int} (hx : extra.map (AVal.rn (tab [0, 1])) = extra)
    (h : AC P n (.ptr 0 v0 0 0 :: extra) (wr v0 v1 out d m []) (WrK v0 out' d' m')) (τ : Store) (hb : (wr v0 v1 out d m τ).below 1000 = true) : AC P n (.ptr 0 v0 0 0 :: extra) (wr v0 v1 out d m τ) (WrT v0 out' d' m' τ) := by
  have hf : Store.free [0, 1] (wr v0 v1 out d m []) (wr v0 v1 out d m τ) = true := by simp [Store.free, Store.get, List.range_succ]
  have hrow : ∀ (out : List Tk) (v1 : Nat), (AObj.row 5 (out.map encK)).rn (tab [0, 1]) = .row 5 (out.map encK) := fun out v1 => by
    simp only [AObj.rn, encK_rn]
  have hm : Store.match (tab [0, 1]) (wr v0 v1 out d m τ) (wr v0 v1 out d m []) := ⟨rfl, by rw [hrow out v1]; rfl, trivial⟩
  have := ac_at (σ := wr v0 v1 out d m τ) [0, 1] rfl (ac_keep k01 h) hm hf hb (by
    rintro r σ' ⟨σ1, ⟨v1', _, e2⟩, rfl⟩ j hj
    rw [e2] at hj
    revert hj
    simp only [Store.get]
    cases Nat.beq 0 j <;> cases Nat.beq 1 j <;> simp)
  rw [List.map_cons, hx] at this
  refine ac_mono this ?_
  rintro r σ' ⟨r0, σ0, ⟨σ1, ⟨v1', rfl, e2⟩, rfl⟩, rfl, rfl⟩
  refine ⟨v1', rfl, ?_⟩
  rw [e2]
  simp only [Store.putAll, hrow out' v1']
  rfl
def kidTk (e : Ex) (least : Int) : List Tk := if bindsP e < least then inBr (toks e) else toks e
def kidDp (e : Ex) (least : Int) : Nat := if bindsP e < least then dep e + 1 else dep e
theorem take_getD {α : Type} (z : α) (ts : List α) (i : Nat) (hi : i < ts.length) : ts.take (i + 1) = ts.take i ++ [ts.getD i z] := by
  rw [List.take_succ, List.getD_eq_getElem?_getD, List.getElem?_eq_getElem hi]; rfl
theorem sep_snoc (s : Bs) (ts : List (List Tk)) (x : List Tk) (h : ts ≠ []) : sepT s (ts ++ [x]) = sepT s ts ++ (tkS s :: x) := by
  induction ts with
  | nil => exact absurd rfl h
  | cons a r ih =>
    cases r with
    | nil => rfl
    | cons b r => simp only [List.cons_append, sepT] at ih ⊢; rw [ih (by simp)]; simp
theorem sep_pos (s : Bs) (ts : List (List Tk)) (i : Nat) (hi : i < ts.length) (h0 : 0 < i) : sepT s (ts.take (i + 1)) = sepT s (ts.take i) ++ (tkS s :: ts.getD i []) := by
  rw [take_getD [] ts i hi]
  exact sep_snoc s _ _ (by intro e; have := congrArg List.length e; rw [List.length_take, List.length_nil] at this; omega)
theorem sep_zero (s : Bs) (ts : List (List Tk)) (hi : 0 < ts.length) : sepT s (ts.take (0 + 1)) = ts.getD 0 [] := by
  rw [take_getD [] ts 0 hi]; rfl
theorem maxL_snoc (ds : List Nat) (x : Nat) : maxL (ds ++ [x]) = max (maxL ds) x := by
  induction ds with
  | nil => simp [maxL]
  | cons a r ih => simp only [List.cons_append, maxL, ih]; omega
theorem maxL_take (ds : List Nat) (i : Nat) (hi : i < ds.length) : maxL (ds.take (i + 1)) = max (maxL (ds.take i)) (ds.getD i 0) := by
  rw [take_getD 0 ds i hi, maxL_snoc]
theorem maxL_le {ds : List Nat} {i : Nat} (hi : i < ds.length) : ds.getD i 0 ≤ maxL ds := by
  induction ds generalizing i with
  | nil => simp at hi
  | cons a r ih =>
    cases i with
    | zero => simp [maxL]; omega
    | succ i => have := ih (i := i) (by simpa using hi); simp only [List.getD_cons_succ, maxL]; omega
theorem maxL_take_le (ds : List Nat) (i : Nat) : maxL (ds.take i) ≤ maxL ds := by
  induction ds generalizing i with
  | nil => simp [maxL]
  | cons a r ih => cases i <;> simp only [List.take_zero, List.take_succ_cons, maxL] <;> first | omega | (have := ih (by assumption); omega)
theorem sep_len (s : Bs) (ts : List (List Tk)) (i : Nat) (hi : i ≤ ts.length) : (sepT s (ts.take i)).length ≤ (sepT s ts).length := by
  induction ts generalizing i with
  | nil => simp
  | cons a r ih =>
    cases i with
    | zero => simp [sepT]
    | succ i =>
      rw [List.take_succ_cons]
      cases r with
      | nil => simp
      | cons b r =>
        cases i with
        | zero => simp [sepT]
        | succ i =>
          have := ih (i + 1) (by simpa using hi)
          rw [List.take_succ_cons] at this ⊢
          simp only [sepT, List.length_append, List.length_cons] at this ⊢
          omega
theorem getD_map_toks (l : List Ex) (i : Nat) (hi : i < l.length) : (l.map toks).getD i [] = toks (l.getD i default) := by
  rw [List.getD_eq_getElem?_getD, List.getD_eq_getElem?_getD, List.getElem?_map, List.getElem?_eq_getElem hi]; rfl
theorem getD_map_dep (l : List Ex) (i : Nat) (hi : i < l.length) : (l.map dep).getD i 0 = dep (l.getD i default) := by
  rw [List.getD_eq_getElem?_getD, List.getD_eq_getElem?_getD, List.getElem?_map, List.getElem?_eq_getElem hi]; rfl
theorem wr_start {v0 v1 : Nat} {out : List Tk} {d m : Int} {τ : Store} (s : Bs) (l : List Ex) (h : d ≤ m) : wr v0 v1 out d m τ = wr v0 v1 (out ++ sepT s ((l.map toks).take 0)) d (max m (d + (maxL ((l.map dep).take 0) : Nat))) τ := by
  have e : max m (d + (maxL ((l.map dep).take 0) : Nat)) = m := by simp only [List.take_zero, maxL]; omega
  rw [e, List.take_zero]
  simp [sepT]
theorem wr_pos {v0 v1 : Nat} {out : List Tk} {d m : Int} {τ : Store} (s : Bs) (l : List Ex) (i : Nat) (hi : i < l.length) (h0 : 0 < i) :
    wr v0 v1 (((out ++ sepT s ((l.map toks).take i)) ++ [tkS s]) ++ toks (l.getD i default)) d (max (max m (d + (maxL ((l.map dep).take i) : Nat))) (d + (dep (l.getD i default) : Nat))) τ = wr v0 v1 (out ++ sepT s ((l.map toks).take (i + 1))) d (max m (d + (maxL ((l.map dep).take (i + 1)) : Nat))) τ := by
  rw [sep_pos s _ i (by simpa using hi) h0, maxL_take _ i (by simpa using hi), getD_map_toks l i hi, getD_map_dep l i hi]
  have e : max (max m (d + (maxL ((l.map dep).take i) : Nat))) (d + (dep (l.getD i default) : Nat)) = max m (d + (max (maxL ((l.map dep).take i)) (dep (l.getD i default)) : Nat)) := by omega
  rw [e]
  simp
theorem wr_zero {v0 v1 : Nat} {out : List Tk} {d m : Int} {τ : Store} (s : Bs) (l : List Ex) (i : Nat) (hi : i < l.length) (h0 : ¬ 0 < i) :
    wr v0 v1 ((out ++ sepT s ((l.map toks).take i)) ++ toks (l.getD i default)) d (max (max m (d + (maxL ((l.map dep).take i) : Nat))) (d + (dep (l.getD i default) : Nat))) τ = wr v0 v1 (out ++ sepT s ((l.map toks).take (i + 1))) d (max m (d + (maxL ((l.map dep).take (i + 1)) : Nat))) τ := by
  obtain rfl : i = 0 := by omega
  rw [sep_zero s _ (by simpa using hi), maxL_take _ 0 (by simpa using hi), getD_map_toks l 0 hi, getD_map_dep l 0 hi]
  have e : max (max m (d + (maxL ((l.map dep).take 0) : Nat))) (d + (dep (l.getD 0 default) : Nat)) = max m (d + (max (maxL ((l.map dep).take 0)) (dep (l.getD 0 default)) : Nat)) := by omega
  rw [e]
  simp [sepT]
def WX (P : Program) (e : Ex) : Prop := ∀ (v0 v1 : Nat) (out : List Tk) (d m : Int) (τ : Store), (wr v0 v1 out d m τ).below 1000 = true → 0 ≤ d → d ≤ m → m ≤ 1000000000 → out.length + (toks e).length ≤ 1000000000 → d + (dep e : Nat) ≤ 1000000000 →
  AC P 101 [.ptr 0 v0 0 0, encX e] (wr v0 v1 out d m τ) (WrT v0 (out ++ toks e) d (max m (d + (dep e : Nat))) τ)
end Go.Proofs.YtcgdlhkiecommaaGreatDoor
/- What is written of an expression, by its kind. -/

namespace Go.Proofs.YtcgdlhkiecommaaGreatDoor
open Go
section
variable {e : Ex}
theorem wr_eq {v0 v1 : Nat} {o1 o2 : List Tk} {d m1 m2 : Int} {τ : Store} (ho : o1 = o2) (hm : m1 = m2) : wr v0 v1 o1 d m1 τ = wr v0 v1 o2 d m2 τ := by rw [ho, hm]
theorem row_bounds {out : List Tk} {s : Bs} {l : List Ex} {i : Nat} (hi : i < l.length) (h : out.length + (sepT s (l.map toks)).length ≤ 1000000000) :
    (out ++ sepT s ((l.map toks).take i)).length ≤ 1000000000 ∧ (0 < i → ((out ++ sepT s ((l.map toks).take i)) ++ [tkS s]).length + (toks (l.getD i default)).length ≤ 1000000000) ∧ (¬ 0 < i → (out ++ sepT s ((l.map toks).take i)).length + (toks (l.getD i default)).length ≤ 1000000000) := by
  have h1 := sep_len s (l.map toks) i (by simp; omega)
  have h2 := sep_len s (l.map toks) (i + 1) (by simp; omega)
  refine ⟨by rw [List.length_append]; omega, fun h0 => ?_, fun h0 => ?_⟩
  · rw [sep_pos s _ i (by simpa using hi) h0, getD_map_toks l i hi] at h2
    simp only [List.length_append, List.length_cons, List.length_nil] at h2 ⊢
    omega
  · obtain rfl : i = 0 := by omega
    rw [sep_zero s _ (by simpa using hi), getD_map_toks l 0 hi] at h2
    simp only [List.length_append, List.take_zero, sepT, List.length_nil] at h2 ⊢
    omega
theorem dep_bound {l : List Ex} {i : Nat} (hi : i < l.length) : dep (l.getD i default) ≤ maxL (l.map dep) := by
  rw [← getD_map_dep l i hi]; exact maxL_le (by simpa using hi)
theorem kidT_eq {i : Nat} (hi : i < e.kids.length) (n : Int) : kidT e.kids (e.kids.map toks) i n = kidTk (e.kids.getD i default) n := by
  rw [kidT, kidTk, getD_map_toks _ _ hi]
theorem kidD_eq {i : Nat} (hi : i < e.kids.length) (n : Int) : kidD e.kids (e.kids.map dep) i n = kidDp (e.kids.getD i default) n := by
  rw [kidD, kidDp, getD_map_dep _ _ hi]
theorem toks_int (h1 : (e.op == 1) = true) : toks e = [⟨3, [], e.n, 0, 0⟩] ∧ dep e = 0 := by
  rw [toks_eq, dep_eq, toksOf, depOf, h1]; exact ⟨rfl, rfl⟩
theorem toks_bit (h1 : (e.op == 1) = false) (h2 : (e.op == 2) = true) : toks e = [⟨4, bitsT e.bits, 0, 0, 0⟩] ∧ dep e = 0 := by
  rw [toks_eq, dep_eq, toksOf, depOf, h1, h2]; exact ⟨rfl, rfl⟩
theorem toks_vec (h1 : (e.op == 1) = false) (h2 : (e.op == 2) = false) (h3 : (e.op == 3) = true) : toks e = [⟨5, bitsT e.bits, 0, 0, 0⟩] ∧ dep e = 0 := by
  rw [toks_eq, dep_eq, toksOf, depOf, h1, h2, h3]; exact ⟨rfl, rfl⟩
theorem toks_name (h1 : (e.op == 1) = false) (h2 : (e.op == 2) = false) (h3 : (e.op == 3) = false) (h4 : (e.op == 4) = true) : toks e = [tkN e.name] ∧ dep e = 0 := by
  rw [toks_eq, dep_eq, toksOf, depOf, h1, h2, h3, h4]; exact ⟨rfl, rfl⟩
theorem toks_index (h1 : (e.op == 1) = false) (h2 : (e.op == 2) = false) (h3 : (e.op == 3) = false) (h4 : (e.op == 4) = false) (h6 : (e.op == 6) = true) (hk : e.kids.length = 2) :
    toks e = kidTk (e.kids.getD 0 default) 5 ++ inBr (toks (e.kids.getD 1 default)) ∧ dep e = max (kidDp (e.kids.getD 0 default) 5) (dep (e.kids.getD 1 default) + 1) := by
  rw [toks_eq, dep_eq, toksOf, depOf, h1, h2, h3, h4, h6, kidT_eq (by omega), kidD_eq (by omega), getD_map_toks _ _ (by omega), getD_map_dep _ _ (by omega)]; exact ⟨rfl, rfl⟩
theorem toks_slice (h1 : (e.op == 1) = false) (h2 : (e.op == 2) = false) (h3 : (e.op == 3) = false) (h4 : (e.op == 4) = false) (h6 : (e.op == 6) = false) (h7 : (e.op == 7) = true) (hk : e.kids.length = 3) :
    toks e = kidTk (e.kids.getD 0 default) 5 ++ inBr (sepT sDownto ((e.kids.drop 1).map toks)) ∧ dep e = max (kidDp (e.kids.getD 0 default) 5) (maxL ((e.kids.drop 1).map dep) + 1) := by
  rw [toks_eq, dep_eq, toksOf, depOf, h1, h2, h3, h4, h6, h7, kidT_eq (by omega), kidD_eq (by omega), List.map_drop, List.map_drop]; exact ⟨rfl, rfl⟩
theorem toks_call (h1 : (e.op == 1) = false) (h2 : (e.op == 2) = false) (h3 : (e.op == 3) = false) (h4 : (e.op == 4) = false) (h6 : (e.op == 6) = false) (h7 : (e.op == 7) = false) (hb : (bindsP e == 5) = true) :
    toks e = tkN e.name :: inBr (sepT sComma (e.kids.map toks)) ∧ dep e = maxL (e.kids.map dep) + 1 := by
  rw [toks_eq, dep_eq, toksOf, depOf, h1, h2, h3, h4, h6, h7, hb]; exact ⟨rfl, rfl⟩
theorem toks_one (h1 : (e.op == 1) = false) (h2 : (e.op == 2) = false) (h3 : (e.op == 3) = false) (h4 : (e.op == 4) = false) (h6 : (e.op == 6) = false) (h7 : (e.op == 7) = false) (hb : (bindsP e == 5) = false) (hb4 : (bindsP e == 4) = true) (hk : e.kids.length = 1) :
    toks e = tkS e.name :: kidTk (e.kids.getD 0 default) 4 ∧ dep e = kidDp (e.kids.getD 0 default) 4 + 1 := by
  rw [toks_eq, dep_eq, toksOf, depOf, h1, h2, h3, h4, h6, h7, hb, hb4, kidT_eq (i := 0) (by omega) 4, kidD_eq (i := 0) (by omega) 4]; exact ⟨rfl, rfl⟩
theorem toks_two (h1 : (e.op == 1) = false) (h2 : (e.op == 2) = false) (h3 : (e.op == 3) = false) (h4 : (e.op == 4) = false) (h6 : (e.op == 6) = false) (h7 : (e.op == 7) = false) (hb : (bindsP e == 5) = false) (hb4 : (bindsP e == 4) = false) (hk : e.kids.length = 2) :
    toks e = kidTk (e.kids.getD 0 default) (leftP (bindsP e)) ++ (tkS e.name :: kidTk (e.kids.getD 1 default) (bindsP e + 1)) ∧ dep e = max (kidDp (e.kids.getD 0 default) (leftP (bindsP e))) (kidDp (e.kids.getD 1 default) (bindsP e + 1)) := by
  rw [toks_eq, dep_eq, toksOf, depOf, h1, h2, h3, h4, h6, h7, hb, hb4, kidT_eq (i := 0) (by omega) (leftP (bindsP e)), kidD_eq (i := 0) (by omega) (leftP (bindsP e)), kidT_eq (i := 1) (by omega) (bindsP e + 1), kidD_eq (i := 1) (by omega) (bindsP e + 1)]; exact ⟨rfl, rfl⟩
theorem shape_bits (h : shapeP e = true) (h1 : (e.op == 1) = false) (h2 : (e.op == 2) = true ∨ ((e.op == 2) = false ∧ (e.op == 3) = true)) : isBits e.bits = true := by
  rw [shapeP, h1] at h
  cases hc : ((!noneV e.val || !untyped e.type) || (e.op != 1 && e.n != 0)) with
  | true => rw [hc] at h; simp at h
  | false =>
    rw [hc] at h
    rcases h2 with h2 | ⟨h2, h3⟩
    · rw [h2] at h; simp only [cond_true, cond_false, Bool.and_eq_true] at h; exact h.2
    · rw [h2, h3] at h; simp only [cond_true, cond_false, Bool.and_eq_true] at h; exact h.2
theorem shape_index (h : shapeP e = true) (h1 : (e.op == 1) = false) (h2 : (e.op == 2) = false) (h3 : (e.op == 3) = false) (h4 : (e.op == 4) = false) (h6 : (e.op == 6) = true) : e.kids.length = 2 := by
  rw [shapeP, h1, h2, h3, h4, h6, show (e.op == 5) = false by rw [beq_iff_eq] at h6; rw [h6]; decide] at h
  cases hc : ((!noneV e.val || !untyped e.type) || (e.op != 1 && e.n != 0)) with
  | true => rw [hc] at h; simp at h
  | false =>
    rw [hc] at h
    simp only [cond_true, cond_false, Bool.and_eq_true, beq_iff_eq] at h
    omega
theorem shape_slice (h : shapeP e = true) (h1 : (e.op == 1) = false) (h2 : (e.op == 2) = false) (h3 : (e.op == 3) = false) (h4 : (e.op == 4) = false) (h6 : (e.op == 6) = false) (h7 : (e.op == 7) = true) : e.kids.length = 3 := by
  rw [shapeP, h1, h2, h3, h4, h6, h7, show (e.op == 5) = false by rw [beq_iff_eq] at h7; rw [h7]; decide] at h
  cases hc : ((!noneV e.val || !untyped e.type) || (e.op != 1 && e.n != 0)) with
  | true => rw [hc] at h; simp at h
  | false =>
    rw [hc] at h
    simp only [cond_true, cond_false, Bool.and_eq_true, beq_iff_eq] at h
    omega
theorem shape_call (h : shapeP e = true) (h1 : (e.op == 1) = false) (h2 : (e.op == 2) = false) (h3 : (e.op == 3) = false) (h4 : (e.op == 4) = false) (h6 : (e.op == 6) = false) (h7 : (e.op == 7) = false) :
    (e.op == 5) = true ∧ ((oneOp e = true ∨ (((e.kids.length : Int) == 2) && decide (strengthI e.name ≥ 0)) = true) ∨ ((decide ((e.kids.length : Int) ≥ 1) && decide ((e.kids.length : Int) ≤ 20)) && isNameL e.name) = true) := by
  rw [shapeP, h1, h2, h3, h4, h6, h7] at h
  cases hc : ((!noneV e.val || !untyped e.type) || (e.op != 1 && e.n != 0)) with
  | true => rw [hc] at h; simp at h
  | false =>
    rw [hc] at h
    cases h5 : (e.op == 5) with
    | false => rw [h5] at h; simp at h
    | true =>
      rw [h5] at h
      cases hb : decide ((e.bits.length : Int) > 0) with
      | true => rw [hb] at h; simp at h
      | false =>
        rw [hb] at h
        simp only [cond_true, cond_false, Bool.or_eq_true] at h
        exact ⟨rfl, h⟩
theorem shape_one (h : shapeP e = true) (h1 : (e.op == 1) = false) (h2 : (e.op == 2) = false) (h3 : (e.op == 3) = false) (h4 : (e.op == 4) = false) (h6 : (e.op == 6) = false) (h7 : (e.op == 7) = false) (hb : (bindsP e == 5) = false) (hb4 : (bindsP e == 4) = true) : e.kids.length = 1 := by
  have := str_range e.name
  unfold bindsP at hb hb4
  cases hc : (e.op != 5 || isNameL e.name) with
  | true => rw [hc] at hb; simp at hb
  | false =>
    rw [hc] at hb4
    cases hk : ((e.kids.length : Int) == 1) with
    | true => rw [beq_iff_eq] at hk; omega
    | false =>
      rw [hk] at hb4
      simp only [cond_false, beq_iff_eq] at hb4
      omega
theorem shape_two (h : shapeP e = true) (h1 : (e.op == 1) = false) (h2 : (e.op == 2) = false) (h3 : (e.op == 3) = false) (h4 : (e.op == 4) = false) (h6 : (e.op == 6) = false) (h7 : (e.op == 7) = false) (hb : (bindsP e == 5) = false) (hb4 : (bindsP e == 4) = false) : e.kids.length = 2 := by
  obtain ⟨h5, hs⟩ := shape_call h h1 h2 h3 h4 h6 h7
  unfold bindsP at hb hb4
  cases hc : (e.op != 5 || isNameL e.name) with
  | true => rw [hc] at hb; simp at hb
  | false =>
    rw [hc] at hb4
    cases hk : ((e.kids.length : Int) == 1) with
    | true => rw [hk] at hb4; simp at hb4
    | false =>
      rw [Bool.or_eq_false_iff] at hc
      rcases hs with (hs | hs) | hs
      · rw [oneOp, hk] at hs; simp at hs
      · rw [Bool.and_eq_true, beq_iff_eq] at hs; omega
      · rw [hc.2] at hs; simp at hs
end
end Go.Proofs.YtcgdlhkiecommaaGreatDoor
/- Where no bits are written, or their text is known. -/

namespace Go.Proofs.YtcgdlhkiecommaaGreatDoor
open Go
def BTx (P : Program) (b : List Int) : Prop := ACp P 143 [.list 1 (b.map encB)] (.tuple [.v (.string (str (bitsT b))), .v (.int .i64 0)])
def BT (P : Program) : Prop := ∀ b : List Int, isBits b = true → (∀ x ∈ b, 0 ≤ x) → BTx P b
mutual
def nobE : Ex → Bool
  | .mk o s n b v k t l c => (o != 2 && o != 3) && nobEs k
def nobEs : List Ex → Bool
  | [] => true
  | e :: r => nobE e && nobEs r
end
def BTok (P : Program) (e : Ex) : Prop := nobE e = true ∨ BT P
theorem nobE_facts {e : Ex} (h : nobE e = true) : (e.op == 2) = false ∧ (e.op == 3) = false ∧ ∀ k ∈ e.kids, nobE k = true := by
  have hl : ∀ l : List Ex, nobEs l = true → ∀ k ∈ l, nobE k = true := by
    intro l
    induction l with
    | nil => intro _ k hk; cases hk
    | cons a l ih =>
      intro h k hk
      rw [nobEs, Bool.and_eq_true] at h
      cases hk with
      | head => exact h.1
      | tail _ hk => exact ih h.2 k hk
  cases e with
  | mk o s n b v k t l c =>
    rw [nobE] at h
    simp only [Bool.and_eq_true] at h
    exact ⟨by simpa [Ex.op] using h.1.1, by simpa [Ex.op] using h.1.2, hl k h.2⟩
theorem BTok.kid {P : Program} {e k : Ex} (h : BTok P e) (hk : k ∈ e.kids) : BTok P k := h.elim (fun h => .inl ((nobE_facts h).2.2 k hk)) .inr
theorem BTok.at {P : Program} {e : Ex} (h : BTok P e) (h2 : (e.op == 2) = true ∨ (e.op == 3) = true) (hb : isBits e.bits = true) (hz : ∀ x ∈ e.bits, 0 ≤ x) : BTx P e.bits := by
  rcases h with h | h
  · obtain ⟨h3, h4, _⟩ := nobE_facts h
    rcases h2 with h2 | h2
    · rw [h3] at h2; cases h2
    · rw [h4] at h2; cases h2
  · exact h _ hb hz
end Go.Proofs.YtcgdlhkiecommaaGreatDoor
/- Writing as a whole: types, texts, what is valid. -/

namespace Go.Proofs.YtcgdlhkiecommaaGreatDoor
open Go
theorem wr_call {P : Program} {n : FuncId} {a : AVal} {v0 v1 : Nat} {out out' : List Tk} {d m d' m' : Int} (p q : Nat) (ht : tabOK [p, q] = true) (ha : a.rn (tab [p, q]) = a)
    (h : AC P n [.ptr 0 v0 0 0, a] (wr v0 v1 out d m []) (WrT v0 out' d' m' [])) {σ : Store} (h0 : σ.get p = some (v0, .row 3 [[.slice q v1 0 out.length, .v (.int .i64 d), .v (.int .i64 m)]])) (h1 : σ.get q = some (v1, .row 5 (out.map encK))) (hb : σ.below 1000 = true) :
    AC P n [.ptr p v0 0 0, a] σ (fun r σ' => ∃ v1', r = .ret (.tuple []) ∧ σ' = (σ.put q v1' (.row 5 (out'.map encK))).put p v0 (.row 3 [[.slice q v1' 0 out'.length, .v (.int .i64 d'), .v (.int .i64 m')]])) := by
  have hf : Store.free [p, q] (wr v0 v1 out d m []) σ = true := by simp [Store.free, Store.get, List.range_succ]
  have hrow : ∀ (out : List Tk), (AObj.row 5 (out.map encK)).rn (tab [p, q]) = .row 5 (out.map encK) := fun out => by
    simp only [AObj.rn, encK_rn]
  have hm : Store.match (tab [p, q]) σ (wr v0 v1 out d m []) := ⟨h0, by rw [hrow out]; exact h1, trivial⟩
  have := ac_at (σ := σ) [p, q] ht h hm hf hb (by
    rintro r σ' ⟨v1', _, e2⟩ j hj
    rw [e2] at hj
    revert hj
    simp only [Store.get]
    cases Nat.beq 0 j <;> cases Nat.beq 1 j <;> simp)
  rw [show [AVal.ptr 0 v0 0 0, a].map (AVal.rn (tab [p, q])) = [.ptr p v0 0 0, a] from by simp only [List.map_cons, List.map_nil, ha]; rfl] at this
  refine ac_mono this ?_
  rintro r σ' ⟨r0, σ0, ⟨v1', rfl, e2⟩, rfl, rfl⟩
  refine ⟨v1', rfl, ?_⟩
  rw [e2]
  simp only [Store.putAll, hrow out']
  rfl
def WRX (P : Program) (r : Tr) : Prop := ∀ (v0 v1 : Nat) (out : List Tk) (d m : Int) (τ : Store), (wr v0 v1 out d m τ).below 1000 = true → 0 ≤ d → d ≤ m → m ≤ 1000000000 → out.length + (toksR r).length ≤ 1000000000 → d + (depR r : Nat) ≤ 1000000000 →
  AC P 115 [.ptr 0 v0 0 0, .agg (cellsR r)] (wr v0 v1 out d m τ) (WrT v0 (out ++ toksR r) d (max m (d + (depR r : Nat))) τ)
theorem rs_len (l : List Tr) (i : Nat) (hi : i ≤ l.length) : (toksRs (l.take i)).length ≤ (toksRs l).length := by
  induction l generalizing i with
  | nil => simp [toksRs]
  | cons a l ih =>
    cases i with
    | zero => simp [toksRs]
    | succ i => have := ih i (by simpa using hi); simp only [List.take_succ_cons, toksRs, List.length_cons, List.length_append]; omega
theorem rs_dep (l : List Tr) (i : Nat) : depRs (l.take i) ≤ depRs l := by
  induction l generalizing i with
  | nil => simp [depRs]
  | cons a l ih =>
    cases i with
    | zero => simp [depRs]
    | succ i => have := ih i; simp only [List.take_succ_cons, depRs]; omega
theorem rs_take {l : List Tr} {i : Nat} (hi : i < l.length) : toksRs (l.take (i + 1)) = toksRs (l.take i) ++ (tkS sOf :: toksR (l.getD i default)) := by
  rw [take_getD default l i hi, toksRs_snoc]
theorem rsd_take {l : List Tr} {i : Nat} (hi : i < l.length) : depRs (l.take (i + 1)) = max (depRs (l.take i)) (depR (l.getD i default)) := by
  rw [take_getD default l i hi, depRs_snoc]
theorem wr_rs {v0 v1 : Nat} {out : List Tk} {d m : Int} {τ : Store} (l : List Tr) (i : Nat) (hi : i < l.length) :
    wr v0 v1 (((out ++ toksRs (l.take i)) ++ [tkS sOf]) ++ toksR (l.getD i default)) d (max (max m (d + (depRs (l.take i) : Nat))) (d + (depR (l.getD i default) : Nat))) τ = wr v0 v1 (out ++ toksRs (l.take (i + 1))) d (max m (d + (depRs (l.take (i + 1)) : Nat))) τ := by
  rw [rs_take hi, rsd_take hi]
  exact wr_eq (by simp) (by omega)
theorem wr_rs0 {v0 v1 : Nat} {out : List Tk} {d m : Int} {τ : Store} (l : List Tr) (h : d ≤ m) : wr v0 v1 out d m τ = wr v0 v1 (out ++ toksRs (l.take 0)) d (max m (d + (depRs (l.take 0) : Nat))) τ :=
  wr_eq (by simp [toksRs]) (by simp only [List.take_zero, depRs]; omega)
structure OKW (P : Program) (e : Ex) : Prop where
  z : szE e = true
  b : BTok P e
  l : (toks e).length ≤ 1000000000
  d : dep e ≤ 1000000000
end Go.Proofs.YtcgdlhkiecommaaGreatDoor
