/- Lexing from a place on, round by round; writing tokens. -/
import Derived.Test.YtcgdlhkiecommaaGreatDoorLTok
set_option linter.unusedVariables false
set_option linter.unusedSimpArgs false
namespace Go.Proofs.YtcgdlhkiecommaaGreatDoor
open Go
def encK (t : Tk) : List AVal := [.v (.int .i64 t.op), .v (.string (str t.text)), .v (.int .i64 t.n), .v (.int .i64 t.line), .v (.int .i64 t.col)]
def encF (f : Flt) : List AVal := [.v (.int .i64 f.code), .v (.string (str f.name)), .v (.int .i64 f.line), .v (.int .i64 f.col)]
def mkTk (s : Bs) (i : Nat) : Tk := ⟨(tokA (s.drop i)).1, (tokA (s.drop i)).2.1, (tokA (s.drop i)).2.2.1, (place s i).1, (place s i).2⟩
def badF (s : Bs) (i : Nat) : Flt := ⟨10, (s.drop i).take 1, (place s i).1, (place s i).2⟩
/-- What Lex returns. -/
def lexP (s : Bs) : List Tk × Flt := if 20000 < s.length then ([], ⟨3, [], 0, 0⟩) else if (lex s).2.code = 0 then ((lex s).1, okF) else ([], (lex s).2)
theorem blk_idem : ∀ (b : Bool) (l : Bs), blk false (l.drop (blk b l)) = 0
  | _, [] => by simp [blk]
  | true, c :: r => by rw [blk, List.drop_succ_cons]; exact blk_idem _ r
  | false, c :: r => by
    by_cases h : isBlankC c = true
    · rw [show blk false (c :: r) = blk false r + 1 from by rw [blk, if_pos h], List.drop_succ_cons]; exact blk_idem _ r
    · by_cases h2 : (c == 45 && r.head? == some 45) = true
      · rw [show blk false (c :: r) = blk true r + 1 from by rw [blk, if_neg h, if_pos h2], List.drop_succ_cons]; exact blk_idem _ r
      · have e : blk false (c :: r) = 0 := by rw [blk, if_neg h, if_neg h2]
        rw [e, List.drop_zero, e]
theorem next_idem (s : Bs) (i : Nat) : nextAt s (nextAt s i) = nextAt s i := by
  have := blk_idem false (s.drop i)
  rw [List.drop_drop] at this
  rw [nextAt, nextAt, this]; rfl
theorem lexFrom_next (s : Bs) (i : Nat) (h : i ≤ s.length) : lexFrom s (nextAt s i) = lexFrom s i := by
  have := lexF_skip (s.length + 1) (s.drop i) (place s i) (blk false (s.drop i)) rfl (blk_idem false (s.drop i))
  rw [List.drop_drop, ← place_add] at this
  exact this
theorem tokA_zero {l : Bs} (h : ((((tokA l).2.2.2 : Nat) : Int) == 0) = true) : tok l = none := by
  cases ht : tok l with
  | none => rfl
  | some x =>
    obtain ⟨op, t, n, m⟩ := x
    have := (tok_len ht).1
    have e : tokA l = (op, t, n, m) := by rw [tokA, ht]; rfl
    rw [e, beq_iff_eq] at h
    simp only at h
    omega
theorem tokA_some {l : Bs} (h : ((((tokA l).2.2.2 : Nat) : Int) == 0) = false) : tok l = some (tokA l) ∧ 1 ≤ (tokA l).2.2.2 ∧ (tokA l).2.2.2 ≤ l.length := by
  cases ht : tok l with
  | none => rw [tokA, ht] at h; exact absurd h (by decide)
  | some x =>
    obtain ⟨op, t, n, m⟩ := x
    have e : tokA l = (op, t, n, m) := by rw [tokA, ht]; rfl
    rw [e]
    exact ⟨rfl, tok_len ht⟩
theorem round_bad {s : Bs} {i : Nat} (h : i < s.length) (hn : nextAt s i = i) (ht : ((((tokA (s.drop i)).2.2.2 : Nat) : Int) == 0) = true) : lexFrom s i = ([], badF s i) := by
  have := lexFrom_none s i (by omega) (by rw [hn]; exact h) (by rw [hn]; exact tokA_zero ht)
  rw [hn] at this; exact this
theorem round_ok {s : Bs} {i : Nat} (h : i < s.length) (hn : nextAt s i = i) (ht : ((((tokA (s.drop i)).2.2.2 : Nat) : Int) == 0) = false) :
    lexFrom s i = (mkTk s i :: (lexFrom s (nextAt s (i + (tokA (s.drop i)).2.2.2))).1, (lexFrom s (nextAt s (i + (tokA (s.drop i)).2.2.2))).2) := by
  rcases hA : tokA (s.drop i) with ⟨op, t, n, m⟩
  obtain ⟨h1, h2, h3⟩ := tokA_some ht
  rw [hA] at h1 h2 h3
  rw [List.length_drop] at h3
  have := lexFrom_some s i (by omega) (by rw [hn]; exact h) (by rw [hn]; exact h1)
  rw [hn] at this
  have e := lexFrom_next s (i + m) (by simp only at h3; omega)
  rw [this, ← e]
  simp only [mkTk, hA]
theorem lex_start (s : Bs) : lex s = lexFrom s (nextAt s 0) := (lexFrom_next s 0 (Nat.zero_le _)).symm
theorem lexP_long {s : Bs} (h : decide ((s.length : Int) > 20000) = true) : lexP s = ([], ⟨3, [], 0, 0⟩) := by
  rw [decide_eq_true_eq] at h
  rw [lexP, if_pos (by omega)]
theorem lex_more {s : Bs} {acc : List Tk} {i j : Nat} {t : Tk} (hl : lex s = (acc ++ (lexFrom s i).1, (lexFrom s i).2)) (h : lexFrom s i = (t :: (lexFrom s j).1, (lexFrom s j).2)) : lex s = ((acc ++ [t]) ++ (lexFrom s j).1, (lexFrom s j).2) := by
  rw [hl, h]; simp
/-! ### Writing -/
def wrP (t : Tk) : Bs × Bool :=
  bif (t.op != 3) && (t.n != 0) then ([], false) else
  bif t.op == 1 then (t.text, isNameL t.text) else
  bif t.op == 2 then (t.text, isWordL t.text) else
  bif t.op == 3 then (Lib.itoa t.n, ((t.text == []) && decide (t.n ≥ 0)) && decide (t.n ≤ 2147483647)) else
  bif t.op == 4 then (([39] ++ t.text) ++ [39], ((t.text.length : Int) == 1) && Lib.contains [48, 49, 120, 122] t.text) else
  bif t.op == 5 then (([98, 34] ++ t.text) ++ [34], parseE t.text == 0) else
  bif t.op == 6 then (([34] ++ t.text) ++ [34], isTextL t.text) else
  bif t.op == 7 then (t.text, signsL.contains t.text) else ([], false)
/-- What is small enough. -/
structure OKT (t : Tk) : Prop where
  len : t.text.length ≤ 1000000
  n0 : -9223372036854775808 ≤ t.n
  n1 : t.n ≤ 9223372036854775807
def OKTs (l : List Tk) : Prop := ∀ t ∈ l, OKT t
theorem OKTs.at {l : List Tk} (h : OKTs l) (i : Nat) (hi : i < l.length) : OKT (l.getD i default) := h _ (getD_mem hi)
def textP (l : List Tk) : Bs × Int := if 20000 < l.length then ([], 2) else bif l.all (fun t => (wrP t).2) then (Lib.join (l.map fun t => (wrP t).1) [32], 0) else ([], 2)
theorem textP_long {l : List Tk} (h : decide ((l.length : Int) > 20000) = true) : textP l = ([], 2) := by
  rw [decide_eq_true_eq] at h; rw [textP, if_pos (by omega)]
theorem textP_bad {l : List Tk} (h : decide ((l.length : Int) > 20000) = false) (i : Nat) (hi : i < l.length) (hb : (wrP (l.getD i default)).2 = false) : textP l = ([], 2) := by
  rw [decide_eq_false_iff_not] at h
  have : l.all (fun t => (wrP t).2) = false := by
    rw [List.all_eq_false]
    exact ⟨_, getD_mem hi, by rw [hb]; simp⟩
  rw [textP, if_neg (by omega), this]; rfl
theorem textP_ok {l : List Tk} (h : decide ((l.length : Int) > 20000) = false) (ha : ∀ k, k < l.length → (wrP (l.getD k default)).2 = true) : textP l = (Lib.join (l.map fun t => (wrP t).1) [32], 0) := by
  rw [decide_eq_false_iff_not] at h
  have : l.all (fun t => (wrP t).2) = true := by
    rw [List.all_eq_true]
    intro t ht
    obtain ⟨i, hi, rfl⟩ := List.getElem_of_mem ht
    have := ha i hi
    rwa [List.getD_eq_getElem?_getD, List.getElem?_eq_getElem hi] at this
  rw [textP, if_neg (by omega), this]; rfl
theorem all_more {p : Tk → Bool} {l : List Tk} {i : Nat} (h : ∀ k, k < i → p (l.getD k default) = true) (h1 : p (l.getD i default) = true) : ∀ k, k < i + 1 → p (l.getD k default) = true := by
  intro k hk
  rcases Nat.lt_or_eq_of_le (Nat.le_of_lt_succ hk) with e | e
  · exact h k e
  · subst e; exact h1
theorem take_more {α β : Type} [Inhabited α] (f : α → β) (l : List α) (i : Nat) (h : i < l.length) : (l.take (i + 1)).map f = (l.take i).map f ++ [f (l.getD i default)] := by
  rw [List.take_add_one, List.map_append, List.getElem?_eq_getElem h, List.getD_eq_getElem?_getD, List.getElem?_eq_getElem h]; rfl
theorem decDigits_len : ∀ (k n : Nat), n < 10 ^ (k + 1) → (Lib.decDigits n).length ≤ k + 1
  | k, n, h => by
    rw [Lib.decDigits]
    split
    · simp
    · rename_i h10
      cases k with
      | zero => omega
      | succ k =>
        have := decDigits_len k (n / 10) (by rw [Nat.div_lt_iff_lt_mul (by decide)]; rw [Nat.pow_succ] at h; exact h)
        rw [List.length_append, List.length_singleton]; omega
theorem itoa_len {n : Int} (h0 : -9223372036854775808 ≤ n) (h1 : n ≤ 9223372036854775807) : (Lib.itoa n).length ≤ 21 := by
  have e : (10 : Nat) ^ (19 + 1) = 100000000000000000000 := by decide
  rw [Lib.itoa]
  split
  · have := decDigits_len 19 n.natAbs (by rw [e]; omega)
    rw [List.length_cons]; omega
  · have := decDigits_len 19 n.toNat (by rw [e]; omega)
    omega
theorem wr_len {t : Tk} (h : OKT t) : (wrP t).1.length ≤ 1000010 := by
  have h1 := h.len
  have h2 := itoa_len h.n0 h.n1
  unfold wrP
  repeat' (first | (rw [Bool.cond_eq_ite]; split) | (simp only [List.length_append, List.length_cons, List.length_nil]; omega))
theorem join_len : ∀ {l : List Bs} {n : Nat}, (∀ x ∈ l, x.length ≤ n) → (Lib.join l [32]).length ≤ l.length * (n + 1)
  | [], _, _ => by simp [Lib.join]
  | [x], n, h => by
    rw [Lib.join_one]
    have := h x (by simp)
    simp only [List.length_cons, List.length_nil]; omega
  | x :: y :: l, n, h => by
    have ih := join_len (l := y :: l) (n := n) (fun z hz => h z (List.mem_cons_of_mem _ hz))
    have hx := h x (by simp)
    have e : Lib.join (x :: y :: l) [32] = x ++ [32] ++ Lib.join (y :: l) [32] := by simp [Lib.join, List.intercalate]
    have e2 : (x :: y :: l).length * (n + 1) = (y :: l).length * (n + 1) + (n + 1) := by rw [List.length_cons, Nat.succ_mul]
    rw [e, List.length_append, List.length_append, e2]
    generalize (y :: l).length * (n + 1) = K at ih ⊢
    simp only [List.length_cons, List.length_nil]
    omega
theorem text_len {l : List Tk} (h : OKTs l) (hl : l.length ≤ 20000) : (Lib.join (l.map fun t => (wrP t).1) [32]).length ≤ 140737488355328 := by
  have := join_len (l := l.map fun t => (wrP t).1) (n := 1000010) (fun x hx => by obtain ⟨t, ht, rfl⟩ := List.mem_map.1 hx; exact wr_len (h t ht))
  rw [List.length_map] at this
  have h2 := Nat.mul_le_mul_right (1000010 + 1) hl
  omega
theorem badF_cut (s : Bs) (i : Nat) : badF s i = ⟨10, (s.drop i).take (i + 1 - i), (place s i).1, (place s i).2⟩ := by rw [badF, Nat.add_sub_cancel_left]
theorem lexP_clo (s : Bs) : (AVal.tuple [.list 5 ((lexP s).1.map encK), .agg (encF (lexP s).2)]).clo = true := rfl
end Go.Proofs.YtcgdlhkiecommaaGreatDoor
