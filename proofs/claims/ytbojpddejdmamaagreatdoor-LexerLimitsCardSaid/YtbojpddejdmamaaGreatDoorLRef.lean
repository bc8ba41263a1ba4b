/- The reference's words of chapter 3 in plain Lean; the law's own bounds. -/
import Derived.Test.YtbojpddejdmamaaGreatDoorLLex
set_option linter.unusedVariables false
set_option linter.unusedSimpArgs false
namespace Go.Proofs.YtbojpddejdmamaaGreatDoor
open Go

theorem member_yes {l : List Bs} {x : Bs} (i : Nat) (hi : i < l.length) (h : (l.getD i default == x) = true) : l.contains x = true := by
  rw [List.contains_iff_mem]
  rw [beq_iff_eq] at h
  rw [← h]; exact getD_mem hi
theorem member_no {l : List Bs} {x : Bs} (h : ∀ k, k < l.length → (l.getD k default == x) = false) : l.contains x = false := by
  rw [Bool.eq_false_iff]
  intro hc
  obtain ⟨i, hi, e⟩ := List.getElem_of_mem (List.contains_iff_mem.1 hc)
  have := h i hi
  rw [List.getD_eq_getElem?_getD, List.getElem?_eq_getElem hi] at this
  simp only [Option.getD_some, beq_eq_false_iff_ne, ne_eq] at this
  exact this e
/-- What the reference says of a token. -/
def possT (t : Tk) : Bool :=
  bif t.op == 1 then (t.n == 0) && isNameL t.text else
  bif t.op == 2 then (t.n == 0) && isWordL t.text else
  bif t.op == 3 then ((t.text == []) && decide (t.n ≥ 0)) && decide (t.n ≤ 2147483647) else
  bif t.op == 4 then ((t.n == 0) && ((t.text.length : Int) == 1)) && isBitC (t.text.getD 0 default) else
  bif t.op == 5 then (((t.n == 0) && decide ((t.text.length : Int) ≥ 1)) && decide ((t.text.length : Int) ≤ 64)) && ((((t.text.drop 0).takeWhile (fun c => ofK c 2)).length : Int) == (t.text.length : Int)) else
  bif t.op == 6 then ((t.n == 0) && decide ((t.text.length : Int) ≤ 60)) && ((((t.text.drop 0).takeWhile (fun c => ofK c 3)).length : Int) == (t.text.length : Int)) else
  bif t.op == 7 then (t.n == 0) && signsL.contains t.text else false
/-- How a token is written. -/
def wri (t : Tk) : Bs :=
  bif t.op == 3 then Lib.itoa t.n else
  bif t.op == 4 then ([39] ++ t.text) ++ [39] else
  bif t.op == 5 then ([98, 34] ++ t.text) ++ [34] else
  bif t.op == 6 then ([34] ++ t.text) ++ [34] else t.text
theorem digit_u8 (m : Nat) : IntKind.u8.wrap (48 + (m : Int) % 10) = ((UInt8.ofNat (48 + m % 10)).toNat : Int) := by
  rw [wrap_u8 (by omega) (by omega)]
  have : (UInt8.ofNat (48 + m % 10)).toNat = 48 + m % 10 := by rw [UInt8.toNat_ofNat']; omega
  rw [this]; omega
/-- Digits in front. -/
def digTo (m : Nat) (acc : Bs) : Bs := if m = 0 then acc else Lib.decDigits m ++ acc
theorem digTo_step {m : Nat} (h : 0 < m) (acc : Bs) : digTo (m / 10) ([UInt8.ofNat (48 + m % 10)] ++ acc) = digTo m acc := by
  rw [digTo, digTo, if_neg (by omega : ¬ m = 0)]
  by_cases h10 : m < 10
  · rw [if_pos (by omega), Lib.decDigits, dif_pos h10, Nat.mod_eq_of_lt h10]
  · rw [if_neg (by omega)]
    conv => rhs; rw [Lib.decDigits, dif_neg h10]
    rw [List.append_assoc]
theorem digTo_first (n : Nat) : digTo (n / 10) [UInt8.ofNat (48 + n % 10)] = Lib.decDigits n := by
  by_cases h : n = 0
  · subst h; rw [digTo, if_pos rfl, Lib.decDigits, dif_pos (by decide)]
  · have := digTo_step (Nat.pos_of_ne_zero h) []
    rw [List.append_nil] at this
    rw [this, digTo, if_neg h, List.append_nil]
theorem digTo_len : ∀ (m : Nat) (acc : Bs), m ≤ 9223372036854775807 → (digTo m acc).length ≤ 20 + acc.length := by
  intro m acc h
  rw [digTo]
  split
  · omega
  · have := decDigits_len 19 m (by have e : (10 : Nat) ^ (19 + 1) = 100000000000000000000 := by decide
                                   rw [e]; omega)
    rw [List.length_append]; omega
theorem digTo_acc (m : Nat) (acc : Bs) : acc.length ≤ (digTo m acc).length := by
  rw [digTo]; split
  · omega
  · rw [List.length_append]; omega
theorem digTo_acc_le {n m : Nat} {acc : Bs} (h : digTo m acc = Lib.decDigits n) (hn : n ≤ 9223372036854775807) : acc.length ≤ 20 := by
  have h1 := digTo_acc m acc
  rw [h] at h1
  have e : (10 : Nat) ^ (19 + 1) = 100000000000000000000 := by decide
  have h2 := decDigits_len 19 n (by rw [e]; omega)
  omega
def tkey (t : Tk) : Int × Bs × Int := (t.op, t.text, t.n)
def alikeL (a b : List Tk) : Bool := a.map tkey == b.map tkey
theorem alike_len {a b : List Tk} (h : ((a.length : Int) != (b.length : Int)) = true) : alikeL a b = false := by
  rw [bne_iff_ne] at h
  rw [alikeL, beq_eq_false_iff_ne]
  intro e
  have := congrArg List.length e
  rw [List.length_map, List.length_map] at this
  omega
theorem tkey_ne {s t : Tk} : (((s.op != t.op) || !(s.text == t.text)) || (s.n != t.n)) = !(tkey s == tkey t) := by
  rw [Bool.eq_iff_iff]
  simp only [Bool.or_eq_true, bne_iff_ne, Bool.not_eq_true', beq_eq_false_iff_ne, ne_eq, tkey, Prod.mk.injEq]
  by_cases h1 : s.op = t.op <;> by_cases h2 : s.text = t.text <;> by_cases h3 : s.n = t.n <;> simp [h1, h2, h3]
theorem alike_no {a b : List Tk} (i : Nat) (hi : i < a.length) (hj : i < b.length) (h : (((a.getD i default).op != (b.getD i default).op || !((a.getD i default).text == (b.getD i default).text)) || ((a.getD i default).n != (b.getD i default).n)) = true) : alikeL a b = false := by
  rw [tkey_ne, Bool.not_eq_true', beq_eq_false_iff_ne] at h
  rw [alikeL, beq_eq_false_iff_ne]
  intro e
  apply h
  have := congrArg (fun l => l[i]?) e
  simp only [List.getElem?_map, List.getElem?_eq_getElem hi, List.getElem?_eq_getElem hj, Option.map_some, Option.some.injEq] at this
  rw [List.getD_eq_getElem?_getD, List.getD_eq_getElem?_getD, List.getElem?_eq_getElem hi, List.getElem?_eq_getElem hj]
  exact this
theorem alike_yes {a b : List Tk} (hl : ((a.length : Int) != (b.length : Int)) = false) (h : ∀ k, k < a.length → tkey (a.getD k default) = tkey (b.getD k default)) : alikeL a b = true := by
  rw [bne_eq_false_iff_eq] at hl
  rw [alikeL, beq_iff_eq]
  refine List.ext_getElem (by simp; omega) fun i h1 h2 => ?_
  rw [List.length_map] at h1 h2
  have := h i h1
  rw [List.getD_eq_getElem?_getD, List.getD_eq_getElem?_getD, List.getElem?_eq_getElem h1, List.getElem?_eq_getElem h2] at this
  simpa using this
theorem alike_more {a b : List Tk} {i : Nat} (h : ∀ k, k < i → tkey (a.getD k default) = tkey (b.getD k default)) (h1 : (((a.getD i default).op != (b.getD i default).op || !((a.getD i default).text == (b.getD i default).text)) || ((a.getD i default).n != (b.getD i default).n)) = false) : ∀ k, k < i + 1 → tkey (a.getD k default) = tkey (b.getD k default) := by
  intro k hk
  rcases Nat.lt_or_eq_of_le (Nat.le_of_lt_succ hk) with e | e
  · exact h k e
  · subst e
    rw [tkey_ne] at h1
    simpa using h1
/-! ### The law's bound -/
def sumT (s : Bs) (l : List Tk) : Nat → Nat
  | 0 => s.length
  | i + 1 => sumT s l i + min (l.getD i default).text.length 5000
def longL (s : Bs) (l : List Tk) : Bool := decide ((sumT s l (min l.length 200) : Int) > 3000) || decide ((l.length : Int) > 200)
theorem sumT_le (s : Bs) (l : List Tk) : ∀ i, sumT s l i ≤ s.length + i * 5000
  | 0 => by simp [sumT]
  | i + 1 => by have := sumT_le s l i; simp only [sumT]; omega
theorem sumT_mono (s : Bs) (l : List Tk) : ∀ {i j : Nat}, i ≤ j → sumT s l i ≤ sumT s l j
  | i, 0, h => by have : i = 0 := by omega
                  subst this; exact Nat.le_refl _
  | i, j + 1, h => by
    rcases Nat.lt_or_eq_of_le h with e | e
    · have := sumT_mono s l (i := i) (j := j) (by omega)
      simp only [sumT]; omega
    · subst e; exact Nat.le_refl _
theorem long_facts {s : Bs} {l : List Tk} (h : longL s l = false) : s.length ≤ 3000 ∧ l.length ≤ 200 ∧ ∀ t ∈ l, t.text.length ≤ 3000 := by
  rw [longL, Bool.or_eq_false_iff, decide_eq_false_iff_not, decide_eq_false_iff_not] at h
  obtain ⟨h1, h2⟩ := h
  have hm : min l.length 200 = l.length := by omega
  rw [hm] at h1
  refine ⟨?_, by omega, fun t ht => ?_⟩
  · have := sumT_mono s l (i := 0) (j := l.length) (by omega)
    simp only [sumT] at this; omega
  · obtain ⟨i, hi, rfl⟩ := List.getElem_of_mem ht
    have := sumT_mono s l (i := i + 1) (j := l.length) (by omega)
    simp only [sumT] at this
    rw [List.getD_eq_getElem?_getD, List.getElem?_eq_getElem hi] at this
    simp only [Option.getD_some] at this
    omega
theorem long_nil (s : Bs) : longL s [] = decide ((s.length : Int) > 3000) := by
  rw [longL]
  simp [sumT]

/-! ### The law's own examples -/
def exTs : List Tk := [⟨1, [97], 0, 0, 0⟩, ⟨3, [], 7, 0, 0⟩, ⟨6, [120, 32, 121], 0, 0, 0⟩]
def exA : List Tk := [⟨1, [113], 0, 1, 1⟩, ⟨7, [60, 61], 0, 1, 3⟩, ⟨5, [49, 48], 0, 1, 6⟩, ⟨7, [38], 0, 1, 12⟩, ⟨4, [49], 0, 1, 14⟩, ⟨7, [59], 0, 1, 17⟩]
theorem exTs_ok : OKTs exTs := by
  intro t ht
  simp only [exTs, List.mem_cons, List.not_mem_nil, or_false] at ht
  rcases ht with rfl | rfl | rfl <;> exact ⟨by decide, by decide, by decide⟩
theorem exA_lex : lexP [113, 32, 60, 61, 32, 98, 34, 49, 48, 34, 32, 38, 32, 39, 49, 39, 59, 32, 45, 45, 32, 115, 111] = (exA, okF) := by decide +kernel
theorem exB_lex : lexP [98, 34, 49] = ([], ⟨10, [98], 1, 1⟩) := by decide +kernel
theorem exC_lex : lexP [97, 10, 32, 49, 50, 97] = ([], ⟨10, [49], 2, 2⟩) := by decide +kernel
theorem itoa_7 : Lib.itoa 7 = [55] := by
  rw [Lib.itoa, if_neg (by decide), show (7 : Int).toNat = 7 from rfl, Lib.decDigits, dif_pos (by decide)]; rfl
theorem exTs_text : textP exTs = ([97, 32, 55, 32, 34, 120, 32, 121, 34], 0) := by
  have h1 : exTs.all (fun t => (wrP t).2) = true := by decide +kernel
  have h2 : (exTs.map fun t => (wrP t).1) = [[97], Lib.itoa 7, [34, 120, 32, 121, 34]] := rfl
  rw [textP, if_neg (by decide), h1, h2, itoa_7]; rfl
theorem ex_name1 : isNameL [65, 95, 49] = true := by decide +kernel
theorem ex_name2 : isNameL [101, 110, 100] = false := by decide +kernel
theorem ex_word1 : isWordL [101, 110, 100] = true := by decide +kernel
theorem ex_word2 : isWordL [101, 110, 100, 115] = false := by decide +kernel
theorem name_word (s : Bs) : (isNameL s && isWordL s) = false := by
  cases h : isWordL s with
  | false => simp
  | true => rw [isNameL, h]; simp
theorem names_end (s : Bs) : ((((isNameL s == isNameL s) && (isWordL s == isWordL s)) && !(isNameL s && isWordL s)) && true) = true := by
  rw [name_word]; simp
theorem sumT_succ (s : Bs) (l : List Tk) (i : Nat) : ((sumT s l (i + 1) : Nat) : Int) = (sumT s l i : Int) + min ((l.getD i default).text.length : Int) 5000 := by
  simp only [sumT]; omega
end Go.Proofs.YtbojpddejdmamaaGreatDoor
