/- Tokens by themselves: their shapes; what follows a token; how a token is written. -/
import Derived.Test.YtbojpddejdmamaaGreatDoorLRef
set_option linter.all false
namespace Go.Proofs.YtbojpddejdmamaaGreatDoor
open Go

theorem tw_app {p : UInt8 → Bool} {w r : Bs} (hw : ∀ c ∈ w, p c = true) (hr : ∀ c, r.head? = some c → p c = false) : (w ++ r).takeWhile p = w := by
  rw [List.takeWhile_append_of_pos hw]
  cases r with
  | nil => simp
  | cons d r => rw [List.takeWhile_cons, hr d rfl]; simp
theorem tw_head {p : UInt8 → Bool} : ∀ {s : Bs} {c : UInt8}, (s.drop (s.takeWhile p).length).head? = some c → p c = false
  | [], c, h => by simp at h
  | d :: s, c, h => by
    rw [List.takeWhile_cons] at h
    cases hd : p d with
    | true => rw [hd] at h; exact tw_head (s := s) (by simpa using h)
    | false => rw [hd] at h; simp at h; subst h; exact hd
theorem tw_split : ∀ {r : Bs}, r.contains 34 = true → ∃ q, r = r.takeWhile (· != 34) ++ 34 :: q
  | [], h => by simp at h
  | d :: r, h => by
    by_cases hd : d = 34
    · subst hd; exact ⟨r, by simp⟩
    · have h1 : (d != 34) = true := by simpa using hd
      have h2 : r.contains 34 = true := by
        rw [List.contains_cons, Bool.or_eq_true] at h
        rcases h with e | e
        · exact absurd (by simpa using e : (34 : UInt8) = d).symm hd
        · exact e
      obtain ⟨q, hq⟩ := tw_split h2
      exact ⟨q, by rw [List.takeWhile_cons, h1, if_pos rfl, List.cons_append, ← hq]⟩
theorem quoted_split {s : Bs} (h : quotedOK s = true) : ∃ q, s = 34 :: (quotedT s ++ 34 :: q) := by
  rw [quotedOK, Bool.and_eq_true] at h
  cases s with
  | nil => exact absurd h.1 (by decide)
  | cons c r =>
    have : c = 34 := by simpa using h.1
    subst this
    obtain ⟨q, hq⟩ := tw_split h.2
    exact ⟨q, by rw [quotedT, List.tail_cons]; rw [List.tail_cons] at hq; rw [← hq]⟩
theorem quoted_of {u q : Bs} (h : ∀ c ∈ u, (c != 34) = true) : quotedOK (34 :: (u ++ 34 :: q)) = true ∧ quotedT (34 :: (u ++ 34 :: q)) = u := by
  refine ⟨by simp [quotedOK], ?_⟩
  rw [quotedT, List.tail_cons]
  exact tw_app h (by intro c hc; simp at hc; subst hc; decide)
theorem bit_part (c : UInt8) (h : isBitC c = true) : c ≠ 34 ∧ c ≠ 10 ∧ c ≠ 39 := by
  refine ⟨?_, ?_, ?_⟩ <;> (rintro rfl; revert h; decide)
theorem plain_part (c : UInt8) (h : isPlainC c = true) : c ≠ 34 ∧ c ≠ 10 := by
  refine ⟨?_, ?_⟩ <;> (rintro rfl; revert h; decide)
theorem vec_facts {u : Bs} (h : isVecL u = true) : 1 ≤ u.length ∧ u.length ≤ 64 ∧ ∀ c ∈ u, isBitC c = true := by
  rw [isVecL, Bool.and_eq_true, Bool.and_eq_true, decide_eq_true_eq, List.all_eq_true] at h
  refine ⟨?_, h.2⟩
  cases u with
  | nil => exact absurd h.1 (by decide)
  | cons => simp
theorem text_facts {u : Bs} (h : isTextL u = true) : u.length ≤ 60 ∧ ∀ c ∈ u, isPlainC c = true := by
  rw [isTextL, Bool.and_eq_true, decide_eq_true_eq, List.all_eq_true] at h; exact h
theorem name_facts {w : Bs} (h : isNameL w = true) : w ≠ [] ∧ w.length ≤ 40 ∧ isLetterC (w.getD 0 default) = true ∧ (∀ c ∈ w, isPartC c = true) ∧ isWordL w = false := by
  rw [isNameL, Bool.and_eq_true, Bool.and_eq_true, Bool.and_eq_true, Bool.and_eq_true, decide_eq_true_eq, List.all_eq_true] at h
  obtain ⟨h1, h2, h3, h4, h5⟩ := h
  refine ⟨?_, h2, h3, h4, by simpa using h5⟩
  rintro rfl; revert h1; decide
theorem word_all : ∀ w ∈ wordsL, w ≠ [] ∧ w.length ≤ 40 ∧ isLetterC (w.getD 0 default) = true ∧ (∀ c ∈ w, isPartC c = true) := by decide +kernel
theorem word_facts {w : Bs} (h : isWordL w = true) : w ≠ [] ∧ w.length ≤ 40 ∧ isLetterC (w.getD 0 default) = true ∧ (∀ c ∈ w, isPartC c = true) := word_all w (List.contains_iff_mem.1 h)
theorem sign_all : ∀ x ∈ signsL, x ≠ [] ∧ x.length ≤ 2 ∧ isLetterC (x.getD 0 default) = false ∧ isDigitC (x.getD 0 default) = false ∧ (x.getD 0 default == 39) = false ∧ (x.getD 0 default == 34) = false ∧ (x.getD 0 default == 98) = false ∧ (∀ c ∈ x, c ≠ 10) := by decide +kernel
theorem getD_app {w q : Bs} (h : w ≠ []) : (w ++ q).getD 0 default = w.getD 0 default := by
  cases w with
  | nil => exact absurd rfl h
  | cons => rfl
theorem pre_two (s : Bs) : [98, 34].isPrefixOf s = (s.getD 0 default == 98 && s.tail.head? == some 34) := by
  match s with
  | [] => rfl
  | [a] =>
    show (98 == a && false) = (a == 98 && false)
    rw [Bool.and_false, Bool.and_false]
  | a :: b :: r =>
    show (98 == a && (34 == b && true)) = (a == 98 && (b == 34))
    rw [Bool.and_true, BEq.comm (a := (98 : UInt8)), BEq.comm (a := (34 : UInt8))]

/-- The shapes of a token. -/
inductive Shape (s : Bs) : Int → Bs → Int → Nat → Prop
  | vec (u q : Bs) (hs : s = 98 :: 34 :: (u ++ 34 :: q)) (hv : isVecL u = true) : Shape s 5 u 0 (u.length + 3)
  | word (w q : Bs) (hs : s = w ++ q) (hq : ∀ c, q.head? = some c → isPartC c = false) (hb : [98, 34].isPrefixOf s = false) (hw : isWordL w = true) : Shape s 2 w 0 w.length
  | name (w q : Bs) (hs : s = w ++ q) (hq : ∀ c, q.head? = some c → isPartC c = false) (hb : [98, 34].isPrefixOf s = false) (hw : isNameL w = true) : Shape s 1 w 0 w.length
  | int (w q : Bs) (hs : s = w ++ q) (hq : ∀ c, q.head? = some c → isPartC c = false) (hn : w ≠ []) (hd : w.all isDigitC = true) (hv : decV w ≤ 2147483647) : Shape s 3 [] (decV w : Nat) w.length
  | bit (c : UInt8) (q : Bs) (hs : s = 39 :: c :: 39 :: q) (hc : isBitC c = true) : Shape s 4 [c] 0 3
  | text (u q : Bs) (hs : s = 34 :: (u ++ 34 :: q)) (hv : isTextL u = true) : Shape s 6 u 0 (u.length + 2)
  | sign (x q : Bs) (hs : s = x ++ q) (hf : signsL.find? (fun x => x.isPrefixOf s) = some x) : Shape s 7 x 0 x.length

theorem tw_parts (s : Bs) : s = s.takeWhile isPartC ++ s.drop (s.takeWhile isPartC).length := by
  have e := List.prefix_iff_eq_take.1 (List.takeWhile_prefix isPartC (l := s))
  exact (List.take_append_drop (s.takeWhile isPartC).length s).symm.trans (by rw [← e])
theorem nt {b : Bool} (h : ¬ b = true) : b = false := by cases b <;> simp_all
theorem shape_of {s : Bs} {op : Int} {t : Bs} {n : Int} {m : Nat} (h : tok s = some (op, t, n, m)) : Shape s op t n m := by
  have hsp := tw_parts s
  have hhd : ∀ c, (s.drop (s.takeWhile isPartC).length).head? = some c → isPartC c = false := fun c hc => tw_head hc
  rw [tok] at h
  split at h
  · rename_i h0
    split at h
    · rename_i h1
      rw [Bool.and_eq_true] at h1
      obtain ⟨q, hq⟩ := quoted_split h1.1
      obtain ⟨r, hr⟩ := List.isPrefixOf_iff_prefix.1 h0
      cases h
      refine .vec _ q ?_ h1.2
      rw [← hq, ← hr]; rfl
    · cases h
  · rename_i h0
    have h0' : [98, 34].isPrefixOf s = false := nt h0
    split at h
    · rename_i h1
      split at h
      · rename_i h2; cases h; exact .word _ _ hsp hhd h0' h2
      · split at h
        · rename_i h3; cases h; exact .name _ _ hsp hhd h0' h3
        · cases h
    · split at h
      · rename_i h1
        split at h
        · rename_i h2
          rw [Bool.and_eq_true, decide_eq_true_eq] at h2
          cases h
          exact .int _ _ hsp hhd (run_ne h0' (nt (by assumption)) h1) h2.1 h2.2
        · cases h
      · split at h
        · rename_i h1
          split at h
          · rename_i h2
            rw [Bool.and_eq_true, Bool.and_eq_true, decide_eq_true_eq] at h2
            cases h
            match s, h1, h2 with
            | a :: b :: c :: r, h1, h2 =>
              have ha : a = 39 := by simpa using h1
              have hc : c = 39 := by simpa using h2.2.1
              subst ha; subst hc
              exact .bit b r rfl h2.2.2
            | [], h1, h2 => exact absurd h2.1 (by simp)
            | [a], h1, h2 => exact absurd h2.1 (by simp)
            | [a, b], h1, h2 => exact absurd h2.1 (by simp)
          · cases h
        · split at h
          · split at h
            · rename_i h2
              rw [Bool.and_eq_true] at h2
              obtain ⟨q, hq⟩ := quoted_split h2.1
              cases h
              exact .text _ q hq h2.2
            · cases h
          · split at h
            · rename_i x hx
              obtain ⟨h1, h2⟩ := find_len hx
              obtain ⟨q, hq⟩ := List.isPrefixOf_iff_prefix.1 h2
              cases h
              exact .sign _ q hq.symm hx
            · cases h
theorem of_shape {s : Bs} {op : Int} {t : Bs} {n : Int} {m : Nat} (h : Shape s op t n m) : tok s = some (op, t, n, m) := by
  cases h with
  | vec _ q hs hv =>
    subst hs
    obtain ⟨h1, h2⟩ := quoted_of (u := t) (q := q) (fun c hc => by have := (bit_part c ((vec_facts hv).2.2 c hc)).1; simpa using this)
    rw [tok, if_pos (by rfl), show (98 :: 34 :: (t ++ 34 :: q)).tail = 34 :: (t ++ 34 :: q) from rfl, h1, h2, hv]; rfl
  | word _ q hs hq hb hw =>
    obtain ⟨h1, _, h2, h3⟩ := word_facts hw
    have e : s.takeWhile isPartC = t := by rw [hs]; exact tw_app h3 hq
    have e2 : s.getD 0 default = t.getD 0 default := by rw [hs]; exact getD_app h1
    rw [tok, if_neg (by rw [hb]; decide), if_pos (by rw [e2]; exact h2), e, if_pos hw]
  | name _ q hs hq hb hw =>
    obtain ⟨h1, _, h2, h3, h4⟩ := name_facts hw
    have e : s.takeWhile isPartC = t := by rw [hs]; exact tw_app h3 hq
    have e2 : s.getD 0 default = t.getD 0 default := by rw [hs]; exact getD_app h1
    rw [tok, if_neg (by rw [hb]; decide), if_pos (by rw [e2]; exact h2), e, if_neg (by rw [h4]; decide), if_pos hw]
  | int w q hs hq hn hd hv =>
    have h3 : ∀ c ∈ w, isPartC c = true := fun c hc => by rw [isPartC, List.all_eq_true.1 hd c hc]; simp
    have e : s.takeWhile isPartC = w := by rw [hs]; exact tw_app h3 hq
    have e2 : s.getD 0 default = w.getD 0 default := by rw [hs]; exact getD_app hn
    have h4 : isDigitC (w.getD 0 default) = true := by
      cases w with
      | nil => exact absurd rfl hn
      | cons a w => exact List.all_eq_true.1 hd a (by simp)
    have h5 : (w.getD 0 default == 98) = false ∧ isLetterC (w.getD 0 default) = false := by
      have := (digit_iff _).1 h4
      generalize w.getD 0 default = c at this ⊢
      refine ⟨?_, ?_⟩
      · rw [beq_eq_false_iff_ne]; rintro rfl; revert this; decide
      · rw [isLetterC]; simp only [Bool.or_eq_false_iff, Bool.and_eq_false_iff, decide_eq_false_iff_not]; omega
    rw [tok, if_neg (by rw [pre_two, e2, h5.1]; simp), e2, if_neg (by rw [h5.2]; decide), if_pos h4, e, if_pos (by rw [hd]; simpa using hv)]
  | bit c q hs hc =>
    subst hs
    rw [tok, if_neg (by rw [pre_two]; simp), if_neg (by show ¬ isLetterC 39 = true; decide), if_neg (by show ¬ isDigitC 39 = true; decide), if_pos (by rfl), if_pos (by rw [show (39 :: c :: 39 :: q).getD 1 default = c from rfl, hc]; simp)]; rfl
  | text _ q hs hv =>
    subst hs
    obtain ⟨h1, h2⟩ := quoted_of (u := t) (q := q) (fun c hc => by have := (plain_part c ((text_facts hv).2 c hc)).1; simpa using this)
    rw [tok, if_neg (by rw [pre_two]; simp), if_neg (by show ¬ isLetterC 34 = true; decide), if_neg (by show ¬ isDigitC 34 = true; decide), if_neg (by show ¬ ((34 : UInt8) == 39) = true; decide), if_pos (by rfl), h1, h2, hv]; rfl
  | sign _ q hs hf =>
    obtain ⟨h1, h2⟩ := find_len hf
    obtain ⟨a1, a2, a3, a4, a5, a6, a7, _⟩ := sign_all _ h1
    have e2 : s.getD 0 default = t.getD 0 default := by rw [hs]; exact getD_app a1
    rw [tok, if_neg (by rw [pre_two, e2, a7]; simp), e2, if_neg (by rw [a3]; decide), if_neg (by rw [a4]; decide), if_neg (by rw [a5]; decide), if_neg (by rw [a6]; decide), hf]

/-! ### What follows -/
def Fol (s : Bs) (m : Nat) (r : Bs) : Prop := r = [] ∨ r.head? = some 32 ∨ r.head? = some 10 ∨ r.head? = (s.drop m).head?
theorem fol_part {w q r : Bs} (hq : ∀ c, q.head? = some c → isPartC c = false) (hr : Fol (w ++ q) w.length r) : ∀ c, r.head? = some c → isPartC c = false := by
  intro c hc
  rw [Fol, List.drop_left] at hr
  rcases hr with rfl | e | e | e
  · cases hc
  · rw [e] at hc; cases hc; decide
  · rw [e] at hc; cases hc; decide
  · exact hq c (e.symm.trans hc)
theorem fol_pre {w q r : Bs} (hn : w ≠ []) (hw : ∀ c ∈ w, isPartC c = true) (hb : [98, 34].isPrefixOf (w ++ q) = false) (hr : Fol (w ++ q) w.length r) : [98, 34].isPrefixOf (w ++ r) = false := by
  rw [Fol, List.drop_left] at hr
  rw [pre_two] at hb ⊢
  match w, hn, hw with
  | [], hn, _ => exact absurd rfl hn
  | [a], _, _ =>
    simp only [List.cons_append, List.nil_append, List.tail_cons] at hb ⊢
    rcases hr with rfl | e | e | e
    · simp
    · rw [e]; simp
    · rw [e]; simp
    · rw [e]; exact hb
  | a :: b :: w, _, hw =>
    have := hw b (by simp)
    have h34 : (some b == some (34 : UInt8)) = false := by
      rw [beq_eq_false_iff_ne]; intro e; cases e; revert this; decide
    simp only [List.cons_append, List.tail_cons, List.head?_cons, h34, Bool.and_false]
theorem find_congr {p q : Bs → Bool} : ∀ {l : List Bs}, (∀ x ∈ l, p x = q x) → l.find? p = l.find? q
  | [], _ => rfl
  | x :: l, h => by rw [List.find?_cons, List.find?_cons, h x (by simp), find_congr (fun y hy => h y (List.mem_cons_of_mem _ hy))]
theorem sign_two (s : Bs) : signsL.find? (fun x => x.isPrefixOf s) = signsL.find? (fun x => x.isPrefixOf (s.take 2)) := by
  refine find_congr fun x hx => ?_
  have := (sign_all x hx).2.1
  rw [Bool.eq_iff_iff, List.isPrefixOf_iff_prefix, List.isPrefixOf_iff_prefix, List.prefix_take_iff]
  exact ⟨fun h => ⟨h, this⟩, fun h => h.1⟩
theorem take_two {x : Bs} (h : x ≠ []) (c : UInt8) (r : Bs) : (x ++ c :: r).take 2 = (x ++ [c]).take 2 := by
  match x, h with
  | [], h => exact absurd rfl h
  | [a], _ => rfl
  | a :: b :: x, _ => rfl
theorem sign_end : ∀ x ∈ signsL, signsL.find? (fun y => y.isPrefixOf ((x ++ []).take 2)) = some x ∧ signsL.find? (fun y => y.isPrefixOf ((x ++ [32]).take 2)) = some x ∧ signsL.find? (fun y => y.isPrefixOf ((x ++ [10]).take 2)) = some x := by decide +kernel
theorem fol_sign {x q r : Bs} (hf : signsL.find? (fun y => y.isPrefixOf (x ++ q)) = some x) (hr : Fol (x ++ q) x.length r) : signsL.find? (fun y => y.isPrefixOf (x ++ r)) = some x := by
  have hx := (find_len hf).1
  obtain ⟨e1, e2, e3⟩ := sign_end x hx
  have hn := (sign_all x hx).1
  rw [Fol, List.drop_left] at hr
  rw [sign_two] at hf ⊢
  cases r with
  | nil => exact e1
  | cons c r =>
    rw [take_two hn]
    rcases hr with e | e | e | e
    · cases e
    · cases e; exact e2
    · cases e; exact e3
    · cases q with
      | nil => cases e
      | cons d q => cases e; rw [take_two hn] at hf; exact hf
theorem take_vec (u q : Bs) : (98 :: 34 :: (u ++ 34 :: q)).take (u.length + 3) = 98 :: 34 :: (u ++ [34]) := by
  show 98 :: 34 :: (u ++ 34 :: q).take (u.length + 1) = _
  rw [List.take_length_add_append]; rfl
theorem take_text (u q : Bs) : (34 :: (u ++ 34 :: q)).take (u.length + 2) = 34 :: (u ++ [34]) := by
  show 34 :: (u ++ 34 :: q).take (u.length + 1) = _
  rw [List.take_length_add_append]; rfl
theorem Shape.fol {s : Bs} {op : Int} {t : Bs} {n : Int} {m : Nat} {r : Bs} (h : Shape s op t n m) (hr : Fol s m r) : Shape (s.take m ++ r) op t n m := by
  cases h with
  | vec _ q hs hv => subst hs; rw [take_vec]; exact .vec t r (by simp) hv
  | word _ q hs hq hb hw =>
    subst hs; rw [List.take_left]
    obtain ⟨h1, _, h2, h3⟩ := word_facts hw
    exact .word t r rfl (fol_part hq hr) (fol_pre h1 h3 hb hr) hw
  | name _ q hs hq hb hw =>
    subst hs; rw [List.take_left]
    obtain ⟨h1, _, h2, h3, _⟩ := name_facts hw
    exact .name t r rfl (fol_part hq hr) (fol_pre h1 h3 hb hr) hw
  | int w q hs hq hn hd hv =>
    subst hs; rw [List.take_left]
    exact .int w r rfl (fol_part hq hr) hn hd hv
  | bit c q hs hc => subst hs; exact .bit c r rfl hc
  | text _ q hs hv => subst hs; rw [take_text]; exact .text t r (by simp) hv
  | sign _ q hs hf =>
    subst hs; rw [List.take_left]
    exact .sign t r rfl (fol_sign hf hr)
theorem Shape.no10 {s : Bs} {op : Int} {t : Bs} {n : Int} {m : Nat} (h : Shape s op t n m) : (10 : UInt8) ∉ s.take m := by
  have hp : ∀ c, isPartC c = true → c ≠ 10 := by rintro c hc rfl; revert hc; decide
  cases h with
  | vec _ q hs hv =>
    subst hs; rw [take_vec]
    intro hc; simp at hc
    exact (bit_part _ ((vec_facts hv).2.2 _ hc)).2.1 rfl
  | word _ q hs hq hb hw =>
    subst hs; rw [List.take_left]
    intro hc; exact hp _ ((word_facts hw).2.2.2 _ hc) rfl
  | name _ q hs hq hb hw =>
    subst hs; rw [List.take_left]
    intro hc; exact hp _ ((name_facts hw).2.2.2.1 _ hc) rfl
  | int w q hs hq hn hd hv =>
    subst hs; rw [List.take_left]
    intro hc; have := List.all_eq_true.1 hd _ hc; revert this; decide
  | bit c q hs hc =>
    subst hs
    intro h2
    simp at h2
    exact (bit_part c hc).2.1 h2.symm
  | text _ q hs hv =>
    subst hs; rw [take_text]
    intro hc; simp at hc
    exact (plain_part _ ((text_facts hv).2 _ hc)).2 rfl
  | sign _ q hs hf =>
    subst hs; rw [List.take_left]
    intro hc; exact (sign_all _ (find_len hf).1).2.2.2.2.2.2.2 _ hc rfl
theorem tok_cut {a b : Bs} {op : Int} {t : Bs} {n : Int} {m : Nat} (h : tok (a ++ b) = some (op, t, n, m)) (hm : m ≤ a.length) : tok a = some (op, t, n, m) := by
  have := (shape_of h).fol (r := a.drop m) (by
    by_cases e : a.drop m = []
    · exact .inl e
    · refine .inr (.inr (.inr ?_))
      rw [List.drop_append_of_le_length hm]
      cases hd : a.drop m with
      | nil => exact absurd hd e
      | cons => rfl)
  rw [List.take_append_of_le_length hm, List.take_append_drop] at this
  exact of_shape this
theorem tok_ext (a more : Bs) : tok (a ++ 10 :: more) = tok a := by
  cases h : tok a with
  | some x =>
    obtain ⟨op, t, n, m⟩ := x
    have hm := (tok_len h).2
    have := (shape_of h).fol (r := a.drop m ++ 10 :: more) (by
      cases hd : a.drop m with
      | nil => exact .inr (.inr (.inl rfl))
      | cons c r => exact .inr (.inr (.inr (by rw [hd]; rfl))))
    rw [← List.append_assoc, List.take_append_drop] at this
    exact of_shape this
  | none =>
    cases h2 : tok (a ++ 10 :: more) with
    | none => rfl
    | some x =>
      obtain ⟨op, t, n, m⟩ := x
      by_cases hm : m ≤ a.length
      · rw [tok_cut h2 hm] at h; cases h
      · refine absurd ?_ (shape_of h2).no10
        rw [List.take_append]
        refine List.mem_append_right _ ?_
        obtain ⟨k, hk⟩ : ∃ k, m - a.length = k + 1 := ⟨m - a.length - 1, by omega⟩
        rw [hk]; simp

theorem vec_ref (u : Bs) : ((decide ((u.length : Int) ≥ 1) && decide ((u.length : Int) ≤ 64)) && ((((u.drop 0).takeWhile (fun c => ofK c 2)).length : Int) == (u.length : Int))) = isVecL u := by
  rw [List.drop_zero, ofK_2, int_eq_nat, run_all, isVecL, Bool.and_assoc]
  cases u with
  | nil => rfl
  | cons a u =>
    congr 1
    · simp only [List.length_cons, List.isEmpty_cons, Bool.not_false, decide_eq_true_eq]; omega
    · congr 1
      rw [Bool.eq_iff_iff, decide_eq_true_eq, decide_eq_true_eq]; omega
theorem text_ref (u : Bs) : (decide ((u.length : Int) ≤ 60) && ((((u.drop 0).takeWhile (fun c => ofK c 3)).length : Int) == (u.length : Int))) = isTextL u := by
  rw [List.drop_zero, ofK_3, int_eq_nat, run_all, isTextL]
  congr 1
  rw [Bool.eq_iff_iff, decide_eq_true_eq, decide_eq_true_eq]; omega
theorem one_len {u : Bs} (h : ((u.length : Int) == 1) = true) : ∃ c, u = [c] := by
  rw [beq_iff_eq] at h
  match u, h with
  | [c], _ => exact ⟨c, rfl⟩
  | [], h => simp at h
  | a :: b :: u, h => simp only [List.length_cons] at h; omega
theorem poss_cases {t : Tk} (h : possT t = true) :
    (t.op = 1 ∧ t.n = 0 ∧ isNameL t.text = true) ∨ (t.op = 2 ∧ t.n = 0 ∧ isWordL t.text = true) ∨ (t.op = 3 ∧ t.text = [] ∧ 0 ≤ t.n ∧ t.n ≤ 2147483647) ∨ (t.op = 4 ∧ t.n = 0 ∧ ∃ c, t.text = [c] ∧ isBitC c = true) ∨
    (t.op = 5 ∧ t.n = 0 ∧ isVecL t.text = true) ∨ (t.op = 6 ∧ t.n = 0 ∧ isTextL t.text = true) ∨ (t.op = 7 ∧ t.n = 0 ∧ t.text ∈ signsL) := by
  rw [possT] at h
  cases e1 : t.op == 1 with
  | true => rw [e1, cond_true, Bool.and_eq_true, beq_iff_eq] at h; exact .inl ⟨eq_of_beq e1, h⟩
  | false =>
  rw [e1, cond_false] at h
  cases e2 : t.op == 2 with
  | true => rw [e2, cond_true, Bool.and_eq_true, beq_iff_eq] at h; exact .inr (.inl ⟨eq_of_beq e2, h⟩)
  | false =>
  rw [e2, cond_false] at h
  cases e3 : t.op == 3 with
  | true => rw [e3, cond_true, Bool.and_eq_true, Bool.and_eq_true, beq_iff_eq, decide_eq_true_eq, decide_eq_true_eq] at h; exact .inr (.inr (.inl ⟨eq_of_beq e3, h.1.1, h.1.2, h.2⟩))
  | false =>
  rw [e3, cond_false] at h
  cases e4 : t.op == 4 with
  | true =>
    rw [e4, cond_true, Bool.and_eq_true, Bool.and_eq_true, beq_iff_eq] at h
    obtain ⟨c, hc⟩ := one_len h.1.2
    refine .inr (.inr (.inr (.inl ⟨eq_of_beq e4, h.1.1, c, hc, ?_⟩)))
    have := h.2; rw [hc] at this; exact this
  | false =>
  rw [e4, cond_false] at h
  cases e5 : t.op == 5 with
  | true =>
    rw [e5, cond_true, Bool.and_assoc, Bool.and_assoc, Bool.and_eq_true, ← Bool.and_assoc, vec_ref, beq_iff_eq] at h
    exact .inr (.inr (.inr (.inr (.inl ⟨eq_of_beq e5, h⟩))))
  | false =>
  rw [e5, cond_false] at h
  cases e6 : t.op == 6 with
  | true =>
    rw [e6, cond_true, Bool.and_assoc, Bool.and_eq_true, text_ref, beq_iff_eq] at h
    exact .inr (.inr (.inr (.inr (.inr (.inl ⟨eq_of_beq e6, h⟩)))))
  | false =>
  rw [e6, cond_false] at h
  cases e7 : t.op == 7 with
  | true => rw [e7, cond_true, Bool.and_eq_true, beq_iff_eq, List.contains_iff_mem] at h; exact .inr (.inr (.inr (.inr (.inr (.inr ⟨eq_of_beq e7, h⟩)))))
  | false => rw [e7, cond_false] at h; cases h
theorem poss_of {t : Tk} (h :
    (t.op = 1 ∧ t.n = 0 ∧ isNameL t.text = true) ∨ (t.op = 2 ∧ t.n = 0 ∧ isWordL t.text = true) ∨ (t.op = 3 ∧ t.text = [] ∧ 0 ≤ t.n ∧ t.n ≤ 2147483647) ∨ (t.op = 4 ∧ t.n = 0 ∧ ∃ c, t.text = [c] ∧ isBitC c = true) ∨
    (t.op = 5 ∧ t.n = 0 ∧ isVecL t.text = true) ∨ (t.op = 6 ∧ t.n = 0 ∧ isTextL t.text = true) ∨ (t.op = 7 ∧ t.n = 0 ∧ t.text ∈ signsL)) : possT t = true := by
  rw [possT]
  rcases h with ⟨e, h⟩ | ⟨e, h⟩ | ⟨e, h⟩ | ⟨e, h⟩ | ⟨e, h⟩ | ⟨e, h⟩ | ⟨e, h⟩
  · rw [e, h.1]; exact h.2
  · rw [e, h.1]; exact h.2
  · rw [e, h.1]
    show ((true && decide (t.n ≥ 0)) && decide (t.n ≤ 2147483647)) = true
    rw [Bool.true_and, Bool.and_eq_true, decide_eq_true_eq, decide_eq_true_eq]; exact h.2
  · obtain ⟨h1, c, h2, h3⟩ := h
    rw [e, h1, h2]; exact h3
  · rw [e, h.1]
    have := vec_ref t.text
    rw [h.2] at this
    exact this
  · rw [e, h.1]
    have := text_ref t.text
    rw [h.2] at this
    exact this
  · rw [e, h.1]; exact List.contains_iff_mem.2 h.2
theorem contains_one (l : Bs) (c : UInt8) : Lib.contains l [c] = l.contains c := by
  rw [Bool.eq_iff_iff, lib_contains, List.contains_iff_mem]
  constructor
  · rintro ⟨a, b, rfl⟩; simp
  · intro h
    obtain ⟨a, b, rfl⟩ := List.append_of_mem h
    exact ⟨a, b, by simp⟩
theorem wr_poss (t : Tk) : (wrP t).2 = possT t := by
  rw [wrP, possT]
  cases hn : t.n == 0 with
  | true =>
    rw [show ((t.op != 3) && (t.n != 0)) = false from by rw [bne, bne, hn]; simp, cond_false]
    cases e1 : t.op == 1 with
    | true => rfl
    | false =>
    cases e2 : t.op == 2 with
    | true => rfl
    | false =>
    cases e3 : t.op == 3 with
    | true => rfl
    | false =>
    cases e4 : t.op == 4 with
    | true =>
      show (((t.text.length : Int) == 1) && Lib.contains [48, 49, 120, 122] t.text) = ((true && ((t.text.length : Int) == 1)) && isBitC (t.text.getD 0 default))
      rw [Bool.true_and]
      cases hl : ((t.text.length : Int) == 1) with
      | false => rfl
      | true =>
        obtain ⟨c, hc⟩ := one_len hl
        rw [hc, contains_one, Bool.true_and, Bool.true_and]
        show _ = isBitC c
        rw [isBitC, List.contains_cons, List.contains_cons, List.contains_cons, List.contains_cons]; simp
    | false =>
    cases e5 : t.op == 5 with
    | true =>
      show (parseE t.text == 0) = (((true && decide ((t.text.length : Int) ≥ 1)) && decide ((t.text.length : Int) ≤ 64)) && ((((t.text.drop 0).takeWhile (fun c => ofK c 2)).length : Int) == (t.text.length : Int)))
      rw [Bool.true_and, vec_ref, parseE]
      cases isVecL t.text <;> rfl
    | false =>
    cases e6 : t.op == 6 with
    | true =>
      show isTextL t.text = ((true && decide ((t.text.length : Int) ≤ 60)) && ((((t.text.drop 0).takeWhile (fun c => ofK c 3)).length : Int) == (t.text.length : Int)))
      rw [Bool.true_and, text_ref]
    | false =>
    cases e7 : t.op == 7 with
    | true => rfl
    | false => rfl
  | false =>
    cases e3 : t.op == 3 with
    | false =>
      rw [show ((t.op != 3) && (t.n != 0)) = true from by rw [bne, bne, hn, e3]; rfl]
      cases e1 : t.op == 1 <;> cases e2 : t.op == 2 <;> cases e4 : t.op == 4 <;> cases e5 : t.op == 5 <;> cases e6 : t.op == 6 <;> cases e7 : t.op == 7 <;> rfl
    | true =>
      have e : t.op = 3 := eq_of_beq e3
      rw [e]; rfl
theorem wr_wri {t : Tk} (h : possT t = true) : (wrP t).1 = wri t := by
  have hp := poss_cases h
  rw [wrP, wri]
  rcases hp with ⟨e, h⟩ | ⟨e, h⟩ | ⟨e, h⟩ | ⟨e, h⟩ | ⟨e, h⟩ | ⟨e, h⟩ | ⟨e, h⟩ <;> rw [e] <;> (try rw [h.1]) <;> rfl

/-! ### Digits -/
theorem decV_snoc (w : Bs) (c : UInt8) : decV (w ++ [c]) = 10 * decV w + (c.toNat - 48) := by simp [decV, List.foldl_append]
theorem digit_nat (k : Nat) (h : k < 10) : (UInt8.ofNat (48 + k)).toNat = 48 + k := by rw [UInt8.toNat_ofNat']; omega
theorem dec_digits (n : Nat) : (Lib.decDigits n).all isDigitC = true ∧ decV (Lib.decDigits n) = n ∧ Lib.decDigits n ≠ [] := by
  induction n using Nat.strongRecOn with
  | ind n ih =>
    rw [Lib.decDigits]
    split
    · rename_i h
      have h1 := digit_nat n h
      refine ⟨?_, ?_, by simp⟩
      · rw [List.all_cons, List.all_nil, Bool.and_true, digit_iff, h1]; omega
      · show 10 * 0 + ((UInt8.ofNat (48 + n)).toNat - 48) = n
        rw [h1]; omega
    · rename_i h
      obtain ⟨i1, i2, i3⟩ := ih (n / 10) (by omega)
      have h1 := digit_nat (n % 10) (by omega)
      refine ⟨?_, ?_, by simp⟩
      · rw [List.all_append, i1, Bool.true_and, List.all_cons, List.all_nil, Bool.and_true, digit_iff, h1]; omega
      · rw [decV_snoc, i2, h1]; omega
theorem itoa_nat (k : Nat) : Lib.itoa (k : Int) = Lib.decDigits k := by rw [Lib.itoa, if_neg (by omega), Int.toNat_natCast]
theorem decFrom_lt : ∀ (w : Bs) (acc : Nat), w.all isDigitC = true → decFrom acc w < (acc + 1) * 10 ^ w.length
  | [], acc, _ => by simp [decFrom]
  | c :: w, acc, h => by
    rw [List.all_cons, Bool.and_eq_true, digit_iff] at h
    have := decFrom_lt w (10 * acc + (c.toNat - 48)) h.2
    have e : decFrom acc (c :: w) = decFrom (10 * acc + (c.toNat - 48)) w := rfl
    rw [e]
    refine Nat.lt_of_lt_of_le this ?_
    rw [List.length_cons, Nat.pow_succ, Nat.mul_comm (10 ^ w.length) 10, ← Nat.mul_assoc]
    exact Nat.mul_le_mul_right _ (by omega)
theorem dec_le {w : Bs} (hn : w ≠ []) (hd : w.all isDigitC = true) : (Lib.decDigits (decV w)).length ≤ w.length := by
  have h := decFrom_lt w 0 hd
  have e : decFrom 0 w = decV w := rfl
  rw [e] at h
  cases w with
  | nil => exact absurd rfl hn
  | cons c w => exact decDigits_len w.length _ (by simpa using h)

theorem pre_no {w : Bs} (hw : ∀ c ∈ w, isPartC c = true) : [98, 34].isPrefixOf w = false := by
  rw [pre_two]
  match w, hw with
  | [], _ => rfl
  | [a], _ => simp
  | a :: b :: w, hw =>
    have := hw b (by simp)
    have h34 : (some b == some (34 : UInt8)) = false := by
      rw [beq_eq_false_iff_ne]; intro e; cases e; revert this; decide
    simp only [List.tail_cons, List.head?_cons, h34, Bool.and_false]
theorem wri_shape {t : Tk} (h : possT t = true) : Shape (wri t) t.op t.text t.n (wri t).length := by
  rcases poss_cases h with ⟨e, h⟩ | ⟨e, h⟩ | ⟨e, h⟩ | ⟨e, h⟩ | ⟨e, h⟩ | ⟨e, h⟩ | ⟨e, h⟩
  · rw [show wri t = t.text from by rw [wri, e]; rfl, e, h.1]
    exact .name t.text [] (by simp) (by intro c hc; cases hc) (pre_no (name_facts h.2).2.2.2.1) h.2
  · rw [show wri t = t.text from by rw [wri, e]; rfl, e, h.1]
    exact .word t.text [] (by simp) (by intro c hc; cases hc) (pre_no (word_facts h.2).2.2.2) h.2
  · obtain ⟨h1, h2, h3⟩ := h
    obtain ⟨k, hk⟩ := Int.eq_ofNat_of_zero_le h2
    obtain ⟨d1, d2, d3⟩ := dec_digits k
    rw [show wri t = Lib.decDigits k from by rw [wri, e, hk, ← itoa_nat]; rfl, e, h1, hk]
    have := Shape.int (s := Lib.decDigits k) (Lib.decDigits k) [] (by simp) (by intro c hc; cases hc) d3 d1 (by omega)
    rw [d2] at this
    exact this
  · obtain ⟨h1, c, h2, h3⟩ := h
    rw [show wri t = [39, c, 39] from by rw [wri, e, h2]; rfl, e, h1, h2]
    exact .bit c [] rfl h3
  · rw [show wri t = 98 :: 34 :: (t.text ++ 34 :: []) from by rw [wri, e]; rfl, e, h.1]
    have := Shape.vec (s := 98 :: 34 :: (t.text ++ 34 :: [])) t.text [] rfl h.2
    simpa using this
  · rw [show wri t = 34 :: (t.text ++ 34 :: []) from by rw [wri, e]; rfl, e, h.1]
    have := Shape.text (s := 34 :: (t.text ++ 34 :: [])) t.text [] rfl h.2
    simpa using this
  · rw [show wri t = t.text from by rw [wri, e]; rfl, e, h.1]
    have h1 := (sign_end _ h.2).1
    rw [List.append_nil, ← sign_two] at h1
    exact .sign t.text [] (by simp) h1
theorem Shape.src {s : Bs} {op : Int} {t : Bs} {n : Int} {m : Nat} (h : Shape s op t n m) (l c : Int) :
    possT ⟨op, t, n, l, c⟩ = true ∧ (op ≠ 3 → s.take m = wri ⟨op, t, n, l, c⟩) ∧ (op = 3 → isDigitC (s.getD 0 default) = true) ∧ (wri ⟨op, t, n, l, c⟩).length ≤ m := by
  cases h with
  | vec _ q hs hv => exact ⟨poss_of (.inr (.inr (.inr (.inr (.inl ⟨rfl, rfl, hv⟩))))), fun _ => by rw [hs, take_vec]; rfl, fun h => absurd h (by decide), by show (98 :: 34 :: (t ++ [34])).length ≤ _; simp⟩
  | word _ q hs hq hb hw => exact ⟨poss_of (.inr (.inl ⟨rfl, rfl, hw⟩)), fun _ => by rw [hs, List.take_left]; rfl, fun h => absurd h (by decide), Nat.le_refl _⟩
  | name _ q hs hq hb hw => exact ⟨poss_of (.inl ⟨rfl, rfl, hw⟩), fun _ => by rw [hs, List.take_left]; rfl, fun h => absurd h (by decide), Nat.le_refl _⟩
  | int w q hs hq hn hd hv =>
    refine ⟨poss_of (.inr (.inr (.inl ⟨rfl, rfl, Int.natCast_nonneg _, by show ((decV w : Nat) : Int) ≤ _; omega⟩))), fun h => absurd rfl h, fun _ => ?_, ?_⟩
    · cases w with
      | nil => exact absurd rfl hn
      | cons a w => subst hs; exact List.all_eq_true.1 hd a (by simp)
    · show (Lib.itoa ((decV w : Nat) : Int)).length ≤ _
      rw [itoa_nat]; exact dec_le hn hd
  | bit c q hs hc => exact ⟨poss_of (.inr (.inr (.inr (.inl ⟨rfl, rfl, c, rfl, hc⟩)))), fun _ => by rw [hs]; rfl, fun h => absurd h (by decide), Nat.le_refl _⟩
  | text _ q hs hv => exact ⟨poss_of (.inr (.inr (.inr (.inr (.inr (.inl ⟨rfl, rfl, hv⟩)))))), fun _ => by rw [hs, take_text]; rfl, fun h => absurd h (by decide), by show (34 :: (t ++ [34])).length ≤ _; simp⟩
  | sign _ q hs hf => exact ⟨poss_of (.inr (.inr (.inr (.inr (.inr (.inr ⟨rfl, rfl, (find_len hf).1⟩)))))), fun _ => by rw [hs, List.take_left]; rfl, fun h => absurd h (by decide), Nat.le_refl _⟩
theorem poss_small {t : Tk} (h : possT t = true) : t.text.length ≤ 64 ∧ 0 ≤ t.n ∧ t.n ≤ 2147483647 ∧ (wri t).length ≤ t.text.length + 10 ∧ 1 ≤ (wri t).length := by
  have hs := tok_len (of_shape (wri_shape h))
  refine (and_assoc.1 (and_assoc.1 (and_assoc.1 ⟨?_, hs.1⟩)))
  rcases poss_cases h with ⟨e, h⟩ | ⟨e, h⟩ | ⟨e, h⟩ | ⟨e, h⟩ | ⟨e, h⟩ | ⟨e, h⟩ | ⟨e, h⟩
  · have := (name_facts h.2).2.1
    rw [show wri t = t.text from by rw [wri, e]; rfl]; omega
  · have := (word_facts h.2).2.1
    rw [show wri t = t.text from by rw [wri, e]; rfl]; omega
  · obtain ⟨h1, h2, h3⟩ := h
    obtain ⟨k, hk⟩ := Int.eq_ofNat_of_zero_le h2
    have := decDigits_len 9 k (by show k < 10000000000; omega)
    rw [show wri t = Lib.decDigits k from by rw [wri, e, hk, ← itoa_nat]; rfl, h1]
    simp only [List.length_nil]; omega
  · obtain ⟨h1, c, h2, h3⟩ := h
    rw [show wri t = [39, c, 39] from by rw [wri, e, h2]; rfl, h2]
    simp only [List.length_cons, List.length_nil]; omega
  · have := (vec_facts h.2).2.1
    rw [show wri t = 98 :: 34 :: (t.text ++ [34]) from by rw [wri, e]; rfl]
    simp only [List.length_cons, List.length_append, List.length_nil]; omega
  · have := (text_facts h.2).1
    rw [show wri t = 34 :: (t.text ++ [34]) from by rw [wri, e]; rfl]
    simp only [List.length_cons, List.length_append, List.length_nil]; omega
  · have := (sign_all _ h.2).2.1
    rw [show wri t = t.text from by rw [wri, e]; rfl]; omega
theorem poss_ok {t : Tk} (h : possT t = true) : OKT t := by
  have := poss_small h
  exact ⟨by omega, by omega, by omega⟩

/-! ### Tokens with gaps -/
def joinG : List (Bs × Tk) → Bs → Bs
  | [], e => e
  | x :: l, e => x.1 ++ (wri x.2 ++ joinG l e)
def Sep (s : Bs) : Prop := s = [] ∨ s.head? = some 32
def SkipG (g : Bs) : Prop := ∀ r, blk false (g ++ r) = g.length + blk false r
def OKG : List (Bs × Tk) → Bs → Prop
  | [], e => blk false e = e.length
  | x :: l, e => SkipG x.1 ∧ possT x.2 = true ∧ Sep (joinG l e) ∧ OKG l e
theorem blk_zero {s : Bs} (h1 : isBlankC (s.getD 0 default) = false) (h2 : (s.getD 0 default == 45 && s.tail.head? == some 45) = false) : blk false s = 0 := by
  cases s with
  | nil => rfl
  | cons c r => rw [blk, if_neg (by rw [show isBlankC c = false from h1]; simp), if_neg (by rw [show (c == 45 && r.head? == some 45) = false from h2]; simp)]
theorem letter_head (c : UInt8) (h : isLetterC c = true ∨ isDigitC c = true) : isBlankC c = false ∧ (c == 45) = false := by
  rw [isBlankC]
  refine ⟨?_, ?_⟩
  · simp only [Bool.or_eq_false_iff, beq_eq_false_iff_ne]
    refine ⟨?_, ?_, ?_, ?_⟩ <;> (rintro rfl; revert h; decide)
  · rw [beq_eq_false_iff_ne]; rintro rfl; revert h; decide
theorem sign_blk : ∀ x ∈ signsL, isBlankC (x.getD 0 default) = false ∧ ((x.getD 0 default == 45) = true → x = [45]) := by decide +kernel
theorem wri_blk {t : Tk} (h : possT t = true) {r : Bs} (hr : Sep r) : blk false (wri t ++ r) = 0 := by
  have key : ∀ {w : Bs}, w ≠ [] → (isLetterC (w.getD 0 default) = true ∨ isDigitC (w.getD 0 default) = true) → blk false (w ++ r) = 0 := by
    intro w hn hc
    obtain ⟨h1, h2⟩ := letter_head _ hc
    exact blk_zero (by rw [getD_app hn]; exact h1) (by rw [getD_app hn, h2]; rfl)
  rcases poss_cases h with ⟨e, h⟩ | ⟨e, h⟩ | ⟨e, h⟩ | ⟨e, h⟩ | ⟨e, h⟩ | ⟨e, h⟩ | ⟨e, h⟩
  · rw [show wri t = t.text from by rw [wri, e]; rfl]
    exact key (name_facts h.2).1 (.inl (name_facts h.2).2.2.1)
  · rw [show wri t = t.text from by rw [wri, e]; rfl]
    exact key (word_facts h.2).1 (.inl (word_facts h.2).2.2.1)
  · obtain ⟨h1, h2, h3⟩ := h
    obtain ⟨k, hk⟩ := Int.eq_ofNat_of_zero_le h2
    obtain ⟨d1, d2, d3⟩ := dec_digits k
    rw [show wri t = Lib.decDigits k from by rw [wri, e, hk, ← itoa_nat]; rfl]
    refine key d3 (.inr ?_)
    cases hd : Lib.decDigits k with
    | nil => exact absurd hd d3
    | cons a w => rw [hd] at d1; exact List.all_eq_true.1 d1 a (by simp)
  · obtain ⟨h1, c, h2, h3⟩ := h
    rw [show wri t = [39, c, 39] from by rw [wri, e, h2]; rfl]
    exact blk_zero (by show isBlankC 39 = false; decide) (by show ((39 : UInt8) == 45 && _) = false; rfl)
  · rw [show wri t = 98 :: 34 :: (t.text ++ [34]) from by rw [wri, e]; rfl]
    exact blk_zero (by show isBlankC 98 = false; decide) (by show ((98 : UInt8) == 45 && _) = false; rfl)
  · rw [show wri t = 34 :: (t.text ++ [34]) from by rw [wri, e]; rfl]
    exact blk_zero (by show isBlankC 34 = false; decide) (by show ((34 : UInt8) == 45 && _) = false; rfl)
  · rw [show wri t = t.text from by rw [wri, e]; rfl]
    obtain ⟨h1, h2⟩ := sign_blk _ h.2
    have hn := (sign_all _ h.2).1
    refine blk_zero (by rw [getD_app hn]; exact h1) ?_
    rw [getD_app hn]
    cases h45 : (t.text.getD 0 default == 45) with
    | false => rfl
    | true =>
      rw [h2 h45]
      show (r.head? == some 45) = false
      rcases hr with rfl | e
      · rfl
      · rw [e]; rfl
theorem sep_fol {s r : Bs} {m : Nat} (h : Sep r) : Fol s m r := by
  rcases h with e | e
  · exact .inl e
  · exact .inr (.inl e)
theorem lexG : ∀ (l : List (Bs × Tk)) (e : Bs) (f : Nat) (p : Int × Int), OKG l e → (joinG l e).length < f → (lexF f (joinG l e) p).2 = okF ∧ (lexF f (joinG l e) p).1.map tkey = l.map (fun x => tkey x.2)
  | _, _, 0, _, _, h => by omega
  | [], e, f + 1, p, h, _ => by
    have h : blk false e = e.length := h
    rw [joinG, lexF, h, if_pos (by simp)]; exact ⟨rfl, rfl⟩
  | x :: l, e, f + 1, p, h, hf => by
    obtain ⟨g, t⟩ := x
    obtain ⟨h1, h2, h3, h4⟩ := h
    have h1 : SkipG g := h1
    have h2 : possT t = true := h2
    have h5 := wri_blk h2 h3
    have h6 := (poss_small h2).2.2.2.2
    have e1 : blk false (joinG ((g, t) :: l) e) = g.length := by rw [joinG, h1, h5]; rfl
    have e2 : (joinG ((g, t) :: l) e).drop g.length = wri t ++ joinG l e := by rw [joinG]; exact List.drop_left
    have ht : tok (wri t ++ joinG l e) = some (t.op, t.text, t.n, (wri t).length) := by
      have := (wri_shape h2).fol (r := joinG l e) (sep_fol h3)
      rw [List.take_length] at this
      exact of_shape this
    have e3 : (wri t ++ joinG l e).drop (wri t).length = joinG l e := List.drop_left
    have hlen : (joinG ((g, t) :: l) e).length = g.length + ((wri t).length + (joinG l e).length) := by rw [joinG, List.length_append, List.length_append]
    have hne : wri t ++ joinG l e ≠ [] := by
      intro hc
      have := congrArg List.length hc
      rw [List.length_append, List.length_nil] at this; omega
    rw [lexF, e1, e2, if_neg hne, ht]
    simp only [e3]
    have ih := lexG l e f (adv (adv p ((joinG ((g, t) :: l) e).take g.length)) ((wri t ++ joinG l e).take (wri t).length)) h4 (by omega)
    refine ⟨ih.1, ?_⟩
    rw [List.map_cons, List.map_cons, ih.2]; rfl

/-! ### What Text returns -/
def joinT (l : List Tk) : Bs := Lib.join (l.map wri) [32]
def gapT : List Tk → List (Bs × Tk)
  | [] => []
  | t :: l => ([], t) :: l.map (fun u => ([32], u))
theorem join_gap (l : List Tk) : ∀ t : Tk, joinT (t :: l) = wri t ++ joinG (l.map (fun u => ([32], u))) [] := by
  induction l with
  | nil => intro t; rw [joinT, List.map_cons, List.map_nil, Lib.join_one, List.map_nil, joinG, List.append_nil]
  | cons u l ih =>
    intro t
    have e : joinT (t :: u :: l) = wri t ++ [32] ++ joinT (u :: l) := by simp [joinT, Lib.join, List.intercalate]
    rw [e, ih u, List.map_cons, joinG, List.append_assoc]
theorem join_gapT (l : List Tk) : joinT l = joinG (gapT l) [] := by
  cases l with
  | nil => rfl
  | cons t l => rw [join_gap, gapT, joinG]; rfl
theorem skip_nil : SkipG [] := fun r => by simp
theorem skip_sp {g : Bs} (h : SkipG g) : SkipG (32 :: g) := fun r => by
  rw [List.cons_append, blk, if_pos (by decide), h r, List.length_cons]; omega
theorem okg_sp : ∀ {l : List Tk}, (∀ t ∈ l, possT t = true) → OKG (l.map (fun u => ([32], u))) [] ∧ Sep (joinG (l.map (fun u => ([32], u))) [])
  | [], _ => ⟨rfl, .inl rfl⟩
  | t :: l, h => by
    obtain ⟨h1, h2⟩ := okg_sp (l := l) (fun u hu => h u (List.mem_cons_of_mem _ hu))
    exact ⟨⟨skip_sp skip_nil, h t (by simp), h2, h1⟩, .inr rfl⟩
theorem okg_T {l : List Tk} (h : ∀ t ∈ l, possT t = true) : OKG (gapT l) [] := by
  cases l with
  | nil => rfl
  | cons t l =>
    obtain ⟨h1, h2⟩ := okg_sp (l := l) (fun u hu => h u (List.mem_cons_of_mem _ hu))
    exact ⟨skip_nil, h t (by simp), h2, h1⟩
theorem gapT_keys (l : List Tk) : (gapT l).map (fun x => tkey x.2) = l.map tkey := by
  cases l with
  | nil => rfl
  | cons t l => rw [gapT, List.map_cons, List.map_cons, List.map_map]; rfl
theorem lexG_P {l : List (Bs × Tk)} {e : Bs} (h : OKG l e) (hl : (joinG l e).length ≤ 20000) : (lexP (joinG l e)).2 = okF ∧ (lexP (joinG l e)).1.map tkey = l.map (fun x => tkey x.2) := by
  obtain ⟨h1, h2⟩ := lexG l e ((joinG l e).length + 1) (1, 1) h (by omega)
  have e1 : lex (joinG l e) = lexF ((joinG l e).length + 1) (joinG l e) (1, 1) := rfl
  rw [← e1] at h1 h2
  rw [lexP, if_neg (by omega), h1]
  exact ⟨rfl, h2⟩
theorem textP_T {l : List Tk} (h : ∀ t ∈ l, possT t = true) (hn : l.length ≤ 20000) : textP l = (joinT l, 0) := by
  have e : (l.all fun t => (wrP t).2) = true := by
    rw [List.all_eq_true]; intro t ht; rw [wr_poss]; exact h t ht
  have e2 : (l.map fun t => (wrP t).1) = l.map wri := List.map_congr_left fun t ht => wr_wri (h t ht)
  rw [textP, if_neg (by omega), e, e2]; rfl
theorem textP_no {l : List Tk} {i : Nat} (hi : i < l.length) (h : possT (l.getD i default) = false) (hn : l.length ≤ 20000) : textP l = ([], 2) :=
  textP_bad (by rw [decide_eq_false_iff_not]; omega) i hi (by rw [wr_poss]; exact h)
theorem back_lex {l : List Tk} (h : ∀ t ∈ l, possT t = true) (hl : (joinT l).length ≤ 20000) : (lexP (joinT l)).2 = okF ∧ alikeL l (lexP (joinT l)).1 = true := by
  rw [join_gapT] at hl ⊢
  obtain ⟨h1, h2⟩ := lexG_P (okg_T h) hl
  rw [gapT_keys] at h2
  exact ⟨h1, by rw [alikeL, beq_iff_eq]; exact h2.symm⟩
/-- How long it is. -/
def wtot (l : List Tk) : Nat := (l.map fun t => (wri t).length + 1).sum
theorem joinG_len : ∀ l : List Tk, (joinG (l.map (fun u => ([32], u))) []).length = wtot l
  | [] => rfl
  | t :: l => by
    rw [List.map_cons, joinG, List.length_append, List.length_append, joinG_len l]
    simp only [wtot, List.map_cons, List.sum_cons, List.length_cons, List.length_nil]; omega
theorem joinT_len (l : List Tk) : (joinT l).length ≤ wtot l := by
  cases l with
  | nil => simp [joinT, Lib.join]
  | cons t l =>
    rw [join_gap, List.length_append, joinG_len]
    simp only [wtot, List.map_cons, List.sum_cons]; omega
theorem alike_text {a b : List Tk} (h : alikeL a b = true) : textP b = textP a := by
  rw [alikeL, beq_iff_eq] at h
  have hl : a.length = b.length := by have := congrArg List.length h; simpa using this
  have e : ∀ t : Tk, wrP t = wrP ⟨(tkey t).1, (tkey t).2.1, (tkey t).2.2, 0, 0⟩ := fun t => rfl
  have e1 : (b.map fun t => (wrP t).1) = a.map fun t => (wrP t).1 := by
    have : ∀ l : List Tk, (l.map fun t => (wrP t).1) = (l.map tkey).map fun k => (wrP ⟨k.1, k.2.1, k.2.2, 0, 0⟩).1 := fun l => by rw [List.map_map]; rfl
    rw [this, this, h]
  have e2 : (b.all fun t => (wrP t).2) = a.all fun t => (wrP t).2 := by
    have : ∀ l : List Tk, (l.all fun t => (wrP t).2) = (l.map tkey).all fun k => (wrP ⟨k.1, k.2.1, k.2.2, 0, 0⟩).2 := fun l => by rw [List.all_map]; rfl
    rw [this, this, h]
  rw [textP, textP, e1, e2, hl]

/-! ### Runs -/
inductive Run (s : Bs) : Nat → List (Nat × Tk) → Option Nat → Prop
  | done (i : Nat) (hi : i ≤ s.length) (h : nextAt s i = s.length) : Run s i [] none
  | bad (i j : Nat) (hi : i ≤ s.length) (hj : nextAt s i = j) (hlt : j < s.length) (ht : tok (s.drop j) = none) : Run s i [] (some j)
  | step (i j : Nat) (op : Int) (t : Bs) (n : Int) (m : Nat) (l : List (Nat × Tk)) (e : Option Nat) (hi : i ≤ s.length) (hj : nextAt s i = j) (hlt : j < s.length) (ht : tok (s.drop j) = some (op, t, n, m)) (h : Run s (j + m) l e) :
      Run s i ((j, ⟨op, t, n, (place s j).1, (place s j).2⟩) :: l) e
def endF (s : Bs) : Option Nat → Flt
  | none => okF
  | some j => badF s j
theorem run_ex (s : Bs) : ∀ (k i : Nat), i ≤ s.length → s.length - i ≤ k → ∃ l e, Run s i l e ∧ lexFrom s i = (l.map (·.2), endF s e) := by
  intro k
  induction k with
  | zero =>
    intro i hi hk
    have hn := nextAt_le s i hi
    exact ⟨[], none, .done i hi (by omega), by rw [lexFrom_end s i hi (by omega)]; rfl⟩
  | succ k ih =>
    intro i hi hk
    have hn := nextAt_le s i hi
    by_cases hlt : nextAt s i < s.length
    · cases ht : tok (s.drop (nextAt s i)) with
      | none => exact ⟨[], some (nextAt s i), .bad i _ hi rfl hlt ht, by rw [lexFrom_none s i hi hlt ht]; rfl⟩
      | some x =>
        obtain ⟨op, t, n, m⟩ := x
        obtain ⟨h1, h2⟩ := tok_len ht
        rw [List.length_drop] at h2
        obtain ⟨l, e, h3, h4⟩ := ih (nextAt s i + m) (by omega) (by omega)
        exact ⟨_, e, .step i _ op t n m l e hi rfl hlt ht h3, by rw [lexFrom_some s i hi hlt ht, h4]; rfl⟩
    · exact ⟨[], none, .done i hi (by omega), by rw [lexFrom_end s i hi hlt]; rfl⟩
theorem Run.lo {s : Bs} {i : Nat} {l : List (Nat × Tk)} {e : Option Nat} (h : Run s i l e) : i ≤ s.length ∧ ∀ j, e = some j → i ≤ j ∧ j < s.length := by
  induction h with
  | done i hi h => exact ⟨hi, fun j hj => by cases hj⟩
  | bad i j hi hj hlt ht => exact ⟨hi, fun j' h' => by cases h'; have := nextAt_le s i hi; omega⟩
  | step i j op t n m l e hi hj hlt ht h ih =>
    refine ⟨hi, fun j' h' => ?_⟩
    have := ih.2 j' h'
    have := nextAt_le s i hi
    omega
theorem wtot_run {s : Bs} {i : Nat} {l : List (Nat × Tk)} {e : Option Nat} (h : Run s i l e) : wtot (l.map (·.2)) ≤ 2 * (s.length - i) ∧ l.length ≤ s.length - i ∧ ∀ x ∈ l, possT x.2 = true := by
  induction h with
  | done => exact ⟨by simp [wtot], by simp, fun x hx => by cases hx⟩
  | bad => exact ⟨by simp [wtot], by simp, fun x hx => by cases hx⟩
  | step i j op t n m l e hi hj hlt ht h ih =>
    obtain ⟨h1, h2⟩ := tok_len ht
    rw [List.length_drop] at h2
    obtain ⟨h3, _, _, h4⟩ := (shape_of ht).src (place s j).1 (place s j).2
    have h5 := nextAt_le s i hi
    obtain ⟨i1, i2, i3⟩ := ih
    refine ⟨?_, by rw [List.length_cons]; omega, fun x hx => ?_⟩
    · have e : wtot (((j, (⟨op, t, n, (place s j).1, (place s j).2⟩ : Tk)) :: l).map (·.2)) = ((wri ⟨op, t, n, (place s j).1, (place s j).2⟩).length + 1) + wtot (l.map (·.2)) := by simp [wtot]
      rw [e]; omega
    · rcases List.mem_cons.1 hx with rfl | hx
      · exact h3
      · exact i3 x hx
/-- What Lex returns: all tokens, or the first fault. -/
theorem lexP_run {s : Bs} (hs : s.length ≤ 3000) : (∃ l, Run s 0 l none ∧ lexP s = (l.map (·.2), okF)) ∨ ∃ l j, Run s 0 l (some j) ∧ lexP s = ([], badF s j) := by
  obtain ⟨l, e, h1, h2⟩ := run_ex s s.length 0 (Nat.zero_le _) (by omega)
  have e1 : lex s = (l.map (·.2), endF s e) := h2
  cases e with
  | none => exact .inl ⟨l, h1, by rw [lexP, if_neg (by omega), e1]; rfl⟩
  | some j => exact .inr ⟨l, j, h1, by rw [lexP, if_neg (by omega), e1, if_neg (by simp [endF, badF])]; rfl⟩

/-! ### What is cut off -/
theorem blk_cut : ∀ (b : Bool) (a r : Bs), blk b (a ++ r) ≤ a.length → blk b a = blk b (a ++ r)
  | b, [], r, h => by
    have : blk b r = 0 := by simpa using h
    rw [List.nil_append, this]; cases b <;> rfl
  | true, c :: a, r, h => by
    simp only [List.cons_append, blk, List.length_cons] at h ⊢
    rw [blk_cut _ a r (by omega)]
  | false, c :: a, r, h => by
    by_cases hb : isBlankC c = true
    · simp only [List.cons_append, blk, hb, if_true, List.length_cons] at h ⊢
      rw [blk_cut _ a r (by omega)]
    · rw [List.cons_append] at h ⊢
      rw [blk, if_neg hb] at h
      rw [blk, if_neg hb, blk, if_neg hb]
      cases a with
      | nil =>
        by_cases hc : (c == 45 && r.head? == some 45) = true
        · rw [List.nil_append, if_pos hc] at h
          cases r with
          | nil => simp at hc
          | cons d r => simp only [blk, List.length_cons, List.length_nil] at h; omega
        · rw [List.nil_append, if_neg hc, if_neg (by simp)]
      | cons d a =>
        have e : (d :: a ++ r).head? = (d :: a).head? := rfl
        rw [e] at h ⊢
        split
        · rename_i hc
          rw [if_pos hc, List.length_cons] at h
          rw [blk_cut _ (d :: a) r (by omega)]
        · rfl
theorem drop_split {s : Bs} {i j : Nat} (hj : j ≤ s.length) (hi : i ≤ j) : s.drop i = (s.take j).drop i ++ s.drop j := by
  have h : i ≤ (s.take j).length := by rw [List.length_take]; omega
  rw [← List.drop_append_of_le_length h, List.take_append_drop]
theorem next_cut {s : Bs} {i j : Nat} (hj : j ≤ s.length) (hi : i ≤ j) (h : nextAt s i ≤ j) : nextAt (s.take j) i = nextAt s i := by
  have e := drop_split hj hi
  rw [nextAt, nextAt] at *
  rw [e] at h ⊢
  rw [blk_cut false _ (s.drop j) (by rw [List.length_drop, List.length_take]; omega)]
theorem Run.cut {s : Bs} {i : Nat} {l : List (Nat × Tk)} {e : Option Nat} (h : Run s i l e) : ∀ j, e = some j → (lexFrom (s.take j) i).2 = okF := by
  induction h with
  | done => intro j hj; cases hj
  | bad i j hi hj hlt ht =>
    intro j' h'; cases h'
    have hn := nextAt_le s i hi
    have := next_cut (s := s) (j := j) (by omega) (by omega : i ≤ j) (by omega)
    rw [lexFrom_end (s.take j) i (by rw [List.length_take]; omega) (by rw [this, List.length_take]; omega)]
  | step i j op t n m l e hi hj hlt ht h ih =>
    intro j' h'
    have hlo := h.lo.2 j' h'
    have hn := nextAt_le s i hi
    obtain ⟨h1, h2⟩ := tok_len ht
    have hc := next_cut (s := s) (j := j') (by omega) (by omega : i ≤ j') (by omega)
    have e := drop_split (s := s) (i := j) (j := j') (by omega) (by omega)
    rw [e] at ht
    have ht2 := tok_cut ht (by rw [List.length_drop, List.length_take]; omega)
    have := lexFrom_some (s.take j') i (by rw [List.length_take]; omega) (by rw [hc, List.length_take]; omega) (by rw [hc, hj]; exact ht2)
    rw [this, hc, hj]
    exact ih j' h'
/-! ### What comes more -/
theorem blk_ext : ∀ (b : Bool) (a more : Bs), blk b a < a.length → blk b (a ++ 10 :: more) = blk b a
  | b, [], more, h => by simp at h
  | true, c :: a, more, h => by
    simp only [List.cons_append, blk, List.length_cons] at h ⊢
    rw [blk_ext _ a more (by omega)]
  | false, c :: a, more, h => by
    by_cases hb : isBlankC c = true
    · simp only [List.cons_append, blk, hb, if_true, List.length_cons] at h ⊢
      rw [blk_ext _ a more (by omega)]
    · rw [List.cons_append]
      rw [blk, if_neg hb] at h
      rw [blk, if_neg hb, blk, if_neg hb]
      cases a with
      | nil => rw [List.nil_append, if_neg (by simp), if_neg (by simp)]
      | cons d a =>
        have e : (d :: a ++ 10 :: more).head? = (d :: a).head? := rfl
        rw [e]
        split
        · rename_i hc
          rw [if_pos hc, List.length_cons] at h
          rw [blk_ext _ (d :: a) more (by omega)]
        · rfl
theorem next_ext {s : Bs} {i : Nat} (more : Bs) (hi : i ≤ s.length) (h : nextAt s i < s.length) : nextAt (s ++ 10 :: more) i = nextAt s i := by
  rw [nextAt] at h
  rw [nextAt, nextAt, List.drop_append_of_le_length hi, blk_ext false _ more (by rw [List.length_drop]; omega)]
theorem place_ext {s r : Bs} {j : Nat} (h : j ≤ s.length) : place (s ++ r) j = place s j := by
  rw [place, place, List.take_append_of_le_length h]
theorem Run.ext {s : Bs} {i : Nat} {l : List (Nat × Tk)} {e : Option Nat} (more : Bs) (h : Run s i l e) : ∀ j, e = some j → (lexFrom (s ++ 10 :: more) i).2 = badF s j := by
  induction h with
  | done => intro j hj; cases hj
  | bad i j hi hj hlt ht =>
    intro j' h'; cases h'
    have hn := next_ext more hi (by omega)
    have e : (s ++ 10 :: more).drop j = s.drop j ++ 10 :: more := List.drop_append_of_le_length (by omega)
    rw [lexFrom_none (s ++ 10 :: more) i (by rw [List.length_append]; omega) (by rw [hn, List.length_append]; omega) (by rw [hn, hj, e, tok_ext]; exact ht), hn, hj, e, place_ext (by omega), List.take_append_of_le_length (by rw [List.length_drop]; omega)]
    rfl
  | step i j op t n m l e hi hj hlt ht h ih =>
    intro j' h'
    have hn := next_ext more hi (by omega)
    have e : (s ++ 10 :: more).drop j = s.drop j ++ 10 :: more := List.drop_append_of_le_length (by omega)
    rw [lexFrom_some (s ++ 10 :: more) i (by rw [List.length_append]; omega) (by rw [hn, List.length_append]; omega) (by rw [hn, hj, e, tok_ext]; exact ht), hn, hj]
    exact ih j' h'
end Go.Proofs.YtbojpddejdmamaaGreatDoor
