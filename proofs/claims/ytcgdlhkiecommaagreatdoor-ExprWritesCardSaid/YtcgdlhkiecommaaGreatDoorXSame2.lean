import Derived.Test.YtcgdlhkiecommaaGreatDoorXTop


import Derived.Test.YtcgdlhkiecommaaGreatDoorXDec


import Derived.Test.YtcgdlhkiecommaaGreatDoorXBld
import Derived.Test.YtcgdlhkiecommaaGreatDoorLRef
/- How many parts there are: bounds for the walks. -/


set_option linter.all false
namespace Go.Proofs.YtcgdlhkiecommaaGreatDoor
open Go
abbrev loP : Int := -4503599627370496
theorem partsV_eq (v : Va) (n : Int) : partsV v n = partsVs v.list (n - (1 + (v.bits.length : Int))) := by cases v; rfl
theorem partsE_no {e : Ex} {n : Int} {d : Nat} (h : 300 < d) : partsE e n d = -1 := by cases e; rw [partsE, if_pos h]
theorem partsE_eq {e : Ex} {n : Int} {d : Nat} (h : ¬ 300 < d) : partsE e n d = partsEs e.kids (n - (((((1 + (e.bits.length : Int)) + (e.name.length / 50 : Nat)) + e.val.bits.length) + e.val.list.length) + e.type.names.length + e.type.elem.length)) d := by cases e; rw [partsE, if_neg h]; rfl
theorem partsVs_lt {l : List Va} {n : Int} (h : n < 0) : partsVs l n = n := by cases l; rfl; rw [partsVs, if_pos h]
theorem partsEs_lt {l : List Ex} {n : Int} {d : Nat} (h : n < 0) : partsEs l n d = n := by cases l; rfl; rw [partsEs, if_pos h]
theorem partsVs_step {l : List Va} {i : Nat} {n : Int} (hi : i < l.length) (h : ¬ n < 0) : partsVs (l.drop i) n = partsVs (l.drop (i + 1)) (partsV (l.getD i default) n) := by
  rw [List.drop_eq_getElem_cons hi, partsVs, if_neg h, List.getD_eq_getElem?_getD, List.getElem?_eq_getElem hi]; rfl
theorem partsEs_step {l : List Ex} {i : Nat} {n : Int} {d : Nat} (hi : i < l.length) (h : ¬ n < 0) : partsEs (l.drop i) n d = partsEs (l.drop (i + 1)) (partsE (l.getD i default) n (d + 1)) d := by
  rw [List.drop_eq_getElem_cons hi, partsEs, if_neg h, List.getD_eq_getElem?_getD, List.getElem?_eq_getElem hi]; rfl
theorem partsVs_end {l : List Va} {i : Nat} {n : Int} (hi : l.length ≤ i) : partsVs (l.drop i) n = n := by rw [List.drop_eq_nil_of_le hi]; rfl
theorem partsEs_end {l : List Ex} {i : Nat} {n : Int} {d : Nat} (hi : l.length ≤ i) : partsEs (l.drop i) n d = n := by rw [List.drop_eq_nil_of_le hi]; rfl
theorem partsVs_in {l : List Va} (hl : ∀ k ∈ l, ∀ n : Int, 0 ≤ n → loP ≤ partsV k n ∧ partsV k n ≤ n) : ∀ n : Int, loP ≤ n → loP ≤ partsVs l n ∧ partsVs l n ≤ n := by
  induction l with
  | nil => intro n h; exact ⟨h, Int.le_refl _⟩
  | cons a l ih =>
    intro n h
    rw [partsVs]
    by_cases hn : n < 0
    · rw [if_pos hn]; exact ⟨h, Int.le_refl _⟩
    · rw [if_neg hn]
      obtain ⟨h1, h2⟩ := hl a (by simp) n (by omega)
      obtain ⟨h3, h4⟩ := ih (fun k hk => hl k (by simp [hk])) _ h1
      exact ⟨h3, by omega⟩
theorem partsV_in (v : Va) : szV v = true → ∀ n : Int, 0 ≤ n → loP ≤ partsV v n ∧ partsV v n ≤ n := by
  induction v using Va.ind with
  | h v ih =>
    intro hz n hn
    obtain ⟨z1, z2, z3⟩ := szV_facts hz
    rw [partsV_eq]
    obtain ⟨h3, h4⟩ := partsVs_in (l := v.list) (fun k hk => ih k hk (z3 k hk)) (n - (1 + (v.bits.length : Int))) (by show (-4503599627370496 : Int) ≤ _; omega)
    exact ⟨h3, by omega⟩
theorem partsEs_in {l : List Ex} {d : Nat} (hl : ∀ k ∈ l, ∀ n : Int, 0 ≤ n → loP ≤ partsE k n (d + 1) ∧ partsE k n (d + 1) ≤ n) : ∀ n : Int, loP ≤ n → loP ≤ partsEs l n d ∧ partsEs l n d ≤ n := by
  induction l with
  | nil => intro n h; exact ⟨h, Int.le_refl _⟩
  | cons a l ih =>
    intro n h
    rw [partsEs]
    by_cases hn : n < 0
    · rw [if_pos hn]; exact ⟨h, Int.le_refl _⟩
    · rw [if_neg hn]
      obtain ⟨h1, h2⟩ := hl a (by simp) n (by omega)
      obtain ⟨h3, h4⟩ := ih (fun k hk => hl k (by simp [hk])) _ h1
      exact ⟨h3, by omega⟩
theorem partsE_in (e : Ex) : szX e = true → ∀ (n : Int) (d : Nat), 0 ≤ n → loP ≤ partsE e n d ∧ partsE e n d ≤ n := by
  induction e using Ex.ind with
  | h e ih =>
    intro hz n d hn
    obtain ⟨z1, z2, z3, z4, z5, z6⟩ := szX_facts hz
    obtain ⟨w1, w2, -⟩ := szV_facts z4
    obtain ⟨u0, u1, u2, -⟩ := szT_facts z5
    by_cases hd : 300 < d
    · rw [partsE_no hd]; exact ⟨by decide, by omega⟩
    · rw [partsE_eq hd]
      obtain ⟨h3, h4⟩ := partsEs_in (l := e.kids) (d := d) (fun k hk n hn => ih k hk (z6 k hk) n (d + 1) hn) (n - (((((1 + (e.bits.length : Int)) + (e.name.length / 50 : Nat)) + e.val.bits.length) + e.val.list.length) + e.type.names.length + e.type.elem.length)) (by show (-4503599627370496 : Int) ≤ _; omega)
      exact ⟨h3, by omega⟩
mutual
def smallT : Ty → Bool
  | .mk _ _ s ns e => !((decide (300 < (s.length : Int)) || decide (40 < (ns.length : Int))) || decide (3 < (e.length : Int))) && (ns.all (fun x => !decide (100 < (x.length : Int))) && smallTs e)
def smallTs : List Ty → Bool
  | [] => true
  | e :: r => !(decide (2 < (e.elem.length : Int)) || !(smallT e)) && smallTs r
end
def smallV (vs : List Va) : Bool := vs.all (fun v => !decide (partsV v 9000 < 0))
def smallP (t : Ty) (vs : List Va) : Bool := smallT t && smallV vs
def smallK (e : Ty) : Bool := !(decide (2 < (e.elem.length : Int)) || !(smallT e))
theorem smallTs_all (l : List Ty) : smallTs l = l.all smallK := by
  induction l with
  | nil => rfl
  | cons a l ih => rw [smallTs, List.all_cons, ih, smallK]
theorem smallT_eq (t : Ty) : smallT t = (!((decide (300 < (t.name.length : Int)) || decide (40 < (t.names.length : Int))) || decide (3 < (t.elem.length : Int))) && (t.names.all (fun x => !decide (100 < (x.length : Int))) && t.elem.all smallK)) := by cases t; rw [smallT, smallTs_all]; rfl
theorem smallP_nil (t : Ty) : smallP t [] = smallT t := by rw [smallP]; simp [smallV]
theorem all_stop {α : Type} [Inhabited α] {p : α → Bool} {l : List α} (i : Nat) (hi : i < l.length) (h : p (l.getD i default) = false) : l.all p = false := by
  rw [List.all_eq_false]
  refine ⟨l.getD i default, getD_mem hi, by rw [h]; simp⟩
theorem all_thru {α : Type} [Inhabited α] {p : α → Bool} {l : List α} (h : ∀ k, k < l.length → p (l.getD k default) = true) : l.all p = true := by
  rw [List.all_eq_true]
  intro x hx
  obtain ⟨k, hk, rfl⟩ := List.mem_iff_getElem.1 hx
  have := h k hk
  rwa [List.getD_eq_getElem?_getD, List.getElem?_eq_getElem hk] at this
theorem small_no1 {t : Ty} {vs : List Va} (h : ((decide (300 < (t.name.length : Int)) || decide (40 < (t.names.length : Int))) || decide (3 < (t.elem.length : Int))) = true) : smallP t vs = false := by
  rw [smallP, smallT_eq, h]; rfl
theorem small_no2 {t : Ty} {vs : List Va} (i : Nat) (hi : i < t.names.length) (h : decide (100 < ((t.names.getD i default).length : Int)) = true) : smallP t vs = false := by
  rw [smallP, smallT_eq, all_stop i hi (by simp only [h]; rfl)]; simp
theorem small_no3 {t : Ty} {vs : List Va} (i : Nat) (hi : i < t.elem.length) (h : (decide (2 < ((t.elem.getD i default).elem.length : Int)) || !(smallT (t.elem.getD i default))) = true) : smallP t vs = false := by
  rw [smallP, smallT_eq, all_stop (p := smallK) i hi (by rw [smallK, h]; rfl)]; simp
theorem small_no4 {t : Ty} {vs : List Va} (i : Nat) (hi : i < vs.length) (h : decide (partsV (vs.getD i default) 9000 < 0) = true) : smallP t vs = false := by
  rw [smallP, smallV, all_stop i hi (by simp only [h]; rfl)]; simp
theorem small_yes {t : Ty} {vs : List Va} (h1 : ((decide (300 < (t.name.length : Int)) || decide (40 < (t.names.length : Int))) || decide (3 < (t.elem.length : Int))) = false)
    (h2 : ∀ i, i < t.names.length → decide (100 < ((t.names.getD i default).length : Int)) = false)
    (h3 : ∀ i, i < t.elem.length → (decide (2 < ((t.elem.getD i default).elem.length : Int)) || !(smallT (t.elem.getD i default))) = false)
    (h4 : ∀ i, i < vs.length → decide (partsV (vs.getD i default) 9000 < 0) = false) : smallP t vs = true := by
  rw [smallP, smallT_eq, smallV, h1, all_thru (p := fun x : Bs => !decide (100 < (x.length : Int))) (fun i hi => by simp only [h2 i hi]; rfl), all_thru (p := smallK) (fun i hi => by rw [smallK, h3 i hi]; rfl), all_thru (p := fun v => !decide (partsV v 9000 < 0)) (fun i hi => by simp only [h4 i hi]; rfl)]
  rfl
def fewP : List Ex → Int → Bool
  | [], _ => true
  | e :: r, n => if (decide (partsE e n 0 < 0) || !(smallP e.type [e.val])) = true then false else fewP r (partsE e n 0)
theorem fewP_stop {l : List Ex} {i : Nat} {n : Int} (hi : i < l.length) (h : (decide (partsE (l.getD i default) n 0 < 0) || !(smallP (l.getD i default).type [(l.getD i default).val])) = true) : fewP (l.drop i) n = false := by
  rw [List.drop_eq_getElem_cons hi, fewP]
  rw [List.getD_eq_getElem?_getD, List.getElem?_eq_getElem hi, Option.getD_some] at h
  rw [if_pos h]
theorem fewP_step {l : List Ex} {i : Nat} {n : Int} (hi : i < l.length) (h : (decide (partsE (l.getD i default) n 0 < 0) || !(smallP (l.getD i default).type [(l.getD i default).val])) = false) : fewP (l.drop i) n = fewP (l.drop (i + 1)) (partsE (l.getD i default) n 0) := by
  rw [List.drop_eq_getElem_cons hi, fewP]
  rw [List.getD_eq_getElem?_getD, List.getElem?_eq_getElem hi, Option.getD_some] at h ⊢
  rw [if_neg (by rw [h]; decide)]
theorem fewP_end {l : List Ex} {i : Nat} {n : Int} (hi : l.length ≤ i) : fewP (l.drop i) n = true := by rw [List.drop_eq_nil_of_le hi]; rfl
theorem vals1 (a : Va) : [cellsV a] = [a].map encVa := by rw [List.map_cons, encVa_cells]; rfl
theorem few_ge {e : Ex} {n : Int} (h : (decide (partsE e n 0 < 0) || !(smallP e.type [e.val])) = false) : ¬ partsE e n 0 < 0 := by
  intro h2; rw [decide_eq_true h2] at h; cases h
end Go.Proofs.YtcgdlhkiecommaaGreatDoor
/- The reference's words for what is written. -/


namespace Go.Proofs.YtcgdlhkiecommaaGreatDoor
open Go
def strR (s : Bs) : Int := strengthI s + 1
theorem cont_cons (a : Bs) (l : List Bs) (s : Bs) : (a :: l).contains s = (s == a || l.contains s) := List.contains_cons
theorem strR_eq (s : Bs) : strR s =
    if (s == [97, 110, 100] || (s == [111, 114] || (s == [120, 111, 114] || (s == [110, 97, 110, 100] || (s == [110, 111, 114] || s == [120, 110, 111, 114]))))) = true then 1 else
    if (s == [61] || (s == [47, 61] || (s == [60] || (s == [60, 61] || (s == [62] || s == [62, 61]))))) = true then 2 else
    if (s == [43] || (s == [45] || s == [38])) = true then 3 else
    if (s == [42] || (s == [47] || (s == [109, 111, 100] || (s == [115, 104, 108] || s == [115, 104, 114])))) = true then 4 else 0 := by
  rw [strR, strengthI]
  have e0 : levelL 0 = [[97, 110, 100], [111, 114], [120, 111, 114], [110, 97, 110, 100], [110, 111, 114], [120, 110, 111, 114]] := rfl
  have e1 : levelL 1 = [[61], [47, 61], [60], [60, 61], [62], [62, 61]] := rfl
  have e2 : levelL 2 = [[43], [45], [38]] := rfl
  have e3 : levelL 3 = [[42], [47], [109, 111, 100], [115, 104, 108], [115, 104, 114]] := rfl
  rw [e0, e1, e2, e3]
  simp only [cont_cons, List.contains_nil, Bool.or_false]
  repeat' split
  all_goals rfl
def levelR (e : Ex) : Int := bindsP e + 1
def leastR (e : Ex) (i : Int) : Int :=
  bif e.op == 6 || e.op == 7 then (bif i == 0 then 6 else 1) else
  bif e.op != 5 || isNameL e.name then 1 else
  bif (e.kids.length : Int) == 1 then 5 else
  bif i == 1 || strR e.name == 2 then strR e.name + 1 else strR e.name
def bareR (e : Ex) : Bool := untyped e.type && noneV e.val
def operR (s : Bs) (k : Int) : Bool := ((k == 2) && decide (strR s > 0)) || ((k == 1) && (s == sNot || s == sMinus))
theorem levelR_6 {e : Ex} (h : (e.op != 5 || isNameL e.name) = true) : levelR e = 6 := by rw [levelR, bindsP, h]; rfl
theorem levelR_5 {e : Ex} (h : (e.op != 5 || isNameL e.name) = false) (h2 : ((e.kids.length : Int) == 1) = true) : levelR e = 5 := by rw [levelR, bindsP, h, h2]; rfl
theorem levelR_s {e : Ex} (h : (e.op != 5 || isNameL e.name) = false) (h2 : ((e.kids.length : Int) == 1) = false) : levelR e = strR e.name := by rw [levelR, bindsP, h, h2]; rfl
theorem strR_range (s : Bs) : 0 ≤ strR s ∧ strR s ≤ 4 := by have := str_range s; unfold strR; omega
theorem bit_eq {x : Int} (hx : 0 ≤ x) : (((x == 0 || x == 1) || x == 2) || x == 3) = decide (x ≤ 3) := by
  rw [Bool.eq_iff_iff]; simp only [Bool.or_eq_true, beq_iff_eq, decide_eq_true_eq]; omega
theorem isBits_no {b : List Int} (i : Nat) (hi : i < b.length) (h : (!(decide (b.getD i default ≤ 3))) = true) : isBits b = false := by
  rw [isBits, any_found (p := fun x => !(decide (x ≤ 3))) i hi h]; simp
theorem isBits_yes {b : List Int} (h : ∀ k, k < b.length → (!(decide (b.getD k default ≤ 3))) = false) : isBits b = (decide ((b.length : Int) ≥ 1) && decide ((b.length : Int) ≤ 64)) := by
  rw [isBits, any_none (p := fun x => !(decide (x ≤ 3))) h]; simp
theorem bits_le {b : List Int} (h : isBits b = true) : ∀ x ∈ b, x ≤ 3 := by
  intro x hx
  simp only [isBits, Bool.and_eq_true, Bool.not_eq_true', List.any_eq_false] at h
  have := h.2 x hx
  simpa using this
theorem bits_len {b : List Int} (h : isBits b = true) : 1 ≤ b.length ∧ b.length ≤ 64 := by
  simp only [isBits, Bool.and_eq_true, decide_eq_true_eq] at h
  omega
theorem bitsT_take {b : List Int} {i : Nat} (hi : i < b.length) : bitsT (b.take (i + 1)) = [bitC (b.getD i default)] ++ bitsT (b.take i) := by
  rw [take_getD default b i hi]; simp [bitsT]
theorem cut_bit {x : Int} (h0 : 0 ≤ x) (h3 : x ≤ 3) : (([48, 49, 120, 122] : Bs).drop x.toNat).take (x.toNat + 1 - x.toNat) = [bitC x] := by
  have : x = 0 ∨ x = 1 ∨ x = 2 ∨ x = 3 := by omega
  rcases this with rfl | rfl | rfl | rfl <;> rfl
theorem bitsT_len (b : List Int) : (bitsT b).length = b.length := by simp [bitsT]
def headR (e : Ex) : Bool := ((!(bareR e) || ((e.op != 1) && (e.n != 0))) || (((e.op != 4) && (e.op != 5)) && (e.name != []))) || (((e.op != 2) && (e.op != 3)) && decide ((e.bits.length : Int) > 0))
def tailR (e : Ex) : Bool :=
  bif e.op == 1 then (decide (e.n ≥ 0) && decide (e.n ≤ 2147483647)) && ((e.kids.length : Int) == 0) else
  bif e.op == 2 then (((e.bits.length : Int) == 1) && isBits e.bits) && ((e.kids.length : Int) == 0) else
  bif e.op == 3 then isBits e.bits && ((e.kids.length : Int) == 0) else
  bif e.op == 4 then isNameL e.name && ((e.kids.length : Int) == 0) else
  bif e.op == 5 then operR e.name (e.kids.length : Int) || ((isNameL e.name && decide ((e.kids.length : Int) ≥ 1)) && decide ((e.kids.length : Int) ≤ 20)) else
  bif e.op == 6 then ((e.kids.length : Int) == 2) && ((e.kids.getD 0 default).op != 4) else
  bif e.op == 7 then (e.kids.length : Int) == 3 else false
theorem strR_pos (s : Bs) : decide (strR s > 0) = decide (strengthI s ≥ 0) := by
  rw [Bool.eq_iff_iff, decide_eq_true_eq, decide_eq_true_eq]; unfold strR; omega
theorem shape_head (e : Ex) : shapeP e = (!(headR e) && tailR e) := by
  rw [shapeP, headR, tailR, bareR, operR, strR_pos, oneOp]
  cases h0 : noneV e.val <;> cases h00 : untyped e.type <;> try (simp; done)
  have hlen : ((e.bits.length : Int) == 0) = !(decide ((e.bits.length : Int) > 0)) := by
    rw [Bool.eq_iff_iff]; simp
  by_cases h1 : e.op = 1
  · rw [h1, hlen]
    generalize decide ((e.bits.length : Int) > 0) = B; generalize ((e.kids.length : Int) == 0) = K; generalize (e.name != []) = N; generalize decide (e.n ≥ 0) = A; generalize decide (e.n ≤ 2147483647) = C
    cases B <;> cases K <;> cases N <;> cases A <;> cases C <;> rfl
  have e1 : (e.op == 1) = false := by simpa using h1
  have e1' : (e.op != 1) = true := by simpa using h1
  rw [e1, e1']
  cases hn : (e.n != 0)
  case true => simp
  by_cases h2 : e.op = 2
  · rw [h2]; cases hn : (e.name != []) <;> cases isBits e.bits <;> cases ((e.bits.length : Int) == 1) <;> cases ((e.kids.length : Int) == 0) <;> simp
  have e2 : (e.op == 2) = false := by simpa using h2
  have e2' : (e.op != 2) = true := by simpa using h2
  rw [e2, e2']
  by_cases h3 : e.op = 3
  · rw [h3]; cases hn : (e.name != []) <;> simp [Bool.and_comm]
  have e3 : (e.op == 3) = false := by simpa using h3
  have e3' : (e.op != 3) = true := by simpa using h3
  rw [e3, e3', hlen]
  by_cases h4 : e.op = 4
  · rw [h4]; cases decide ((e.bits.length : Int) > 0) <;> simp [Bool.and_comm]
  have e4 : (e.op == 4) = false := by simpa using h4
  have e4' : (e.op != 4) = true := by simpa using h4
  rw [e4, e4']
  by_cases h5 : e.op = 5
  · rw [h5]
    cases decide ((e.bits.length : Int) > 0) <;> simp
    cases ((e.kids.length : Int) == 1) <;> cases (e.name == sNot || e.name == sMinus) <;> cases ((e.kids.length : Int) == 2) <;> cases decide (0 ≤ strengthI e.name) <;> cases isNameL e.name <;> simp
  have e5 : (e.op == 5) = false := by simpa using h5
  have e5' : (e.op != 5) = true := by simpa using h5
  rw [e5, e5']
  cases hnm : (e.name != []) <;> cases decide ((e.bits.length : Int) > 0) <;> simp
theorem formH (e : Ex) : formP e = (!(headR e) && (e.kids.all formP && tailR e)) := by
  rw [formP_eq, shape_head, formPs_all]
  cases headR e <;> cases tailR e <;> cases e.kids.all formP <;> rfl
theorem formH_no {e : Ex} (h : headR e = true) : formP e = false := by rw [formH, h]; rfl
theorem formH_kid {e : Ex} (i : Nat) (hi : i < e.kids.length) (h : (!(formP (e.kids.getD i default))) = true) : formP e = false := by
  rw [formH, all_stop (p := formP) i hi (by simpa using h)]; simp
theorem formH_yes {e : Ex} (h : headR e = false) (h2 : ∀ k, k < e.kids.length → (!(formP (e.kids.getD k default))) = false) : formP e = tailR e := by
  rw [formH, h, all_thru (p := formP) (fun k hk => by simpa using h2 k hk)]; rfl
def nestR (e : Ex) (i : Nat) : Bool := ((e.op == 6 || e.op == 7) && decide ((i : Int) > 0)) || ((e.op == 5) && (isNameL e.name || ((e.kids.length : Int) == 1)))
def addR (e : Ex) (i n : Nat) (k : Ex) : Nat := n + (if decide (levelR k < leastR e (i : Int)) = true then 1 else 0) + (if nestR e i = true then 1 else 0)
def mostR (e : Ex) (ds : List Nat) : Nat → Nat
  | 0 => 0
  | i + 1 => max (mostR e ds i) (addR e i (ds.getD i 0) (e.kids.getD i default))
mutual
def depQ : Ex → Nat
  | .mk o s n b v k t l c => mostR (.mk o s n b v k t l c) (depQL k) k.length
def depQL : List Ex → List Nat
  | [] => []
  | e :: r => depQ e :: depQL r
end
theorem depQL_map (l : List Ex) : depQL l = l.map depQ := by
  induction l with
  | nil => simp [depQL]
  | cons a l ih => simp [depQL, ih]
theorem depQ_eq (e : Ex) : depQ e = mostR e (e.kids.map depQ) e.kids.length := by rw [← depQL_map]; cases e; rfl
theorem mostR_mono (e : Ex) (ds : List Nat) {i j : Nat} (h : i ≤ j) : mostR e ds i ≤ mostR e ds j := by
  induction j with
  | zero => have : i = 0 := by omega
            subst this; exact Nat.le_refl _
  | succ j ih =>
    rcases Nat.lt_or_ge j i with h1 | h1
    · have : i = j + 1 := by omega
      subst this; exact Nat.le_refl _
    · exact Nat.le_trans (ih h1) (Nat.le_max_left _ _)
theorem kid_depQ {e : Ex} {i : Nat} (hi : i < e.kids.length) : depQ (e.kids.getD i default) ≤ depQ e := by
  rw [depQ_eq e]
  refine Nat.le_trans ?_ (mostR_mono e (e.kids.map depQ) (show i + 1 ≤ e.kids.length from hi))
  rw [mostR]
  have : (e.kids.map depQ).getD i 0 = depQ (e.kids.getD i default) := by simp [List.getD_eq_getElem?_getD, List.getElem?_eq_getElem hi]
  rw [this, addR]; omega
theorem most_step {e : Ex} {i : Nat} (hi : i < e.kids.length) {a b : Nat} (ha : a = if decide (levelR (e.kids.getD i default) < leastR e (i : Int)) = true then 1 else 0) (hb : b = if nestR e i = true then 1 else 0) :
    max ((mostR e (e.kids.map depQ) i : Nat) : Int) (((depQ (e.kids.getD i default) : Nat) : Int) + (a : Int) + (b : Int)) = ((mostR e (e.kids.map depQ) (i + 1) : Nat) : Int) := by
  have e1 : (e.kids.map depQ).getD i 0 = depQ (e.kids.getD i default) := by simp [List.getD_eq_getElem?_getD, List.getElem?_eq_getElem hi]
  rw [mostR, e1, addR, ← ha, ← hb]; omega
theorem most_00 {e : Ex} {i : Nat} (hi : i < e.kids.length) (h1 : decide (levelR (e.kids.getD i default) < leastR e (i : Int)) = false) (h2 : nestR e i = false) :
    max ((mostR e (e.kids.map depQ) i : Nat) : Int) ((depQ (e.kids.getD i default) : Nat) : Int) = ((mostR e (e.kids.map depQ) (i + 1) : Nat) : Int) := by
  rw [← most_step hi (a := 0) (b := 0) (by rw [h1]; rfl) (by rw [h2]; rfl)]; simp
theorem most_01 {e : Ex} {i : Nat} (hi : i < e.kids.length) (h1 : decide (levelR (e.kids.getD i default) < leastR e (i : Int)) = false) (h2 : nestR e i = true) :
    max ((mostR e (e.kids.map depQ) i : Nat) : Int) (((depQ (e.kids.getD i default) : Nat) : Int) + 1) = ((mostR e (e.kids.map depQ) (i + 1) : Nat) : Int) := by
  rw [← most_step hi (a := 0) (b := 1) (by rw [h1]; rfl) (by rw [h2]; rfl)]; simp
theorem most_10 {e : Ex} {i : Nat} (hi : i < e.kids.length) (h1 : decide (levelR (e.kids.getD i default) < leastR e (i : Int)) = true) (h2 : nestR e i = false) :
    max ((mostR e (e.kids.map depQ) i : Nat) : Int) (((depQ (e.kids.getD i default) : Nat) : Int) + 1) = ((mostR e (e.kids.map depQ) (i + 1) : Nat) : Int) := by
  rw [← most_step hi (a := 1) (b := 0) (by rw [h1]; rfl) (by rw [h2]; rfl)]; simp
theorem most_11 {e : Ex} {i : Nat} (hi : i < e.kids.length) (h1 : decide (levelR (e.kids.getD i default) < leastR e (i : Int)) = true) (h2 : nestR e i = true) :
    max ((mostR e (e.kids.map depQ) i : Nat) : Int) ((((depQ (e.kids.getD i default) : Nat) : Int) + 1) + 1) = ((mostR e (e.kids.map depQ) (i + 1) : Nat) : Int) := by
  rw [← most_step hi (a := 1) (b := 1) (by rw [h1]; rfl) (by rw [h2]; rfl)]; simp
def validQ (e : Ex) : Bool := formP e && decide (((depQ e : Nat) : Int) ≤ 40)
theorem form_kid {e : Ex} (h : formP e = true) : ∀ k ∈ e.kids, formP k = true := by
  rw [formP_eq, Bool.and_eq_true, formPs_all, List.all_eq_true] at h
  exact h.2
theorem form_shape {e : Ex} (h : formP e = true) : shapeP e = true := by
  rw [formP_eq, Bool.and_eq_true] at h; exact h.1
theorem targR_4 {e : Ex} (h : (e.op == 4) = true) : isTargP e = true := by
  rw [isTargP_eq, targE, h]; rw [beq_iff_eq] at h; rw [h]; rfl
theorem targR_5 {e : Ex} (h4 : (e.op == 4) = false) (h : (e.op == 5) = true) : isTargP e = (isNameL e.name && ((e.kids.length : Int) == 1)) := by
  rw [isTargP_eq, targE, h4, h]; rw [beq_iff_eq] at h; rw [h]
  simp [Bool.and_comm]
theorem targR_67 {e : Ex} (h : (e.op == 6 || e.op == 7) = true) (hk : 0 < e.kids.length) : isTargP e = isTargP (e.kids.getD 0 default) := by
  rw [isTargP_eq, h, isTargH_eq hk]; rfl
theorem targR_no {e : Ex} (h4 : (e.op == 4) = false) (h5 : (e.op == 5) = false) (h6 : (e.op == 6) = false) (h7 : (e.op == 7) = false) : isTargP e = false := by
  rw [isTargP_eq, targE, h4, h5, h6, h7]; rfl
theorem form_op {e : Ex} (h : formP e = true) : tailR e = true := by
  rw [formH, Bool.and_eq_true, Bool.and_eq_true] at h; exact h.2.2
theorem form_kids67 {e : Ex} (h : formP e = true) (h2 : (e.op == 6 || e.op == 7) = true) : 0 < e.kids.length := by
  have ht := form_op h
  rw [tailR] at ht
  rcases Bool.or_eq_true_iff.1 h2 with h2 | h2
  · rw [h2] at ht; rw [beq_iff_eq] at h2; rw [h2] at ht
    simp only [show ((6 : Int) == 1) = false from rfl, show ((6 : Int) == 2) = false from rfl, show ((6 : Int) == 3) = false from rfl, show ((6 : Int) == 4) = false from rfl, show ((6 : Int) == 5) = false from rfl, cond_true, cond_false, Bool.and_eq_true, beq_iff_eq] at ht
    omega
  · rw [h2] at ht; rw [beq_iff_eq] at h2; rw [h2] at ht
    simp only [show ((7 : Int) == 1) = false from rfl, show ((7 : Int) == 2) = false from rfl, show ((7 : Int) == 3) = false from rfl, show ((7 : Int) == 4) = false from rfl, show ((7 : Int) == 5) = false from rfl, show ((7 : Int) == 6) = false from rfl, cond_true, cond_false, beq_iff_eq] at ht
    omega
theorem validQ_form {e : Ex} (h : validQ e = true) : formP e = true := by rw [validQ, Bool.and_eq_true] at h; exact h.1
theorem shapes_form (e : Ex) : ∀ d, height e + d ≤ 20000 → shapesP e d = formP e := by
  induction e using Ex.ind with
  | h e ih =>
    intro d hd
    rw [shapesP_eq, formP_eq, formPs_all, decide_eq_true (by omega), Bool.true_and]
    cases shapeP e with
    | false => rfl
    | true =>
      rw [Bool.true_and, Bool.true_and, Bool.eq_iff_iff, Bool.not_eq_true', List.any_eq_false, List.all_eq_true]
      rw [height_eq] at hd
      constructor
      · intro h k hk
        have := h k hk
        rw [ih k hk (d + 1) (by have := heights_mem hk; omega)] at this
        simpa using this
      · intro h k hk
        rw [ih k hk (d + 1) (by have := heights_mem hk; omega), h k hk]; simp
theorem binds_nn {k : Ex} (h : formP k = true) : 0 ≤ bindsP k := by
  have hs := form_shape h
  have ht := form_op h
  have := str_range k.name
  rw [bindsP]
  cases hc : (k.op != 5 || isNameL k.name) with
  | true => simp
  | false =>
    cases hk : ((k.kids.length : Int) == 1) with
    | true => simp
    | false =>
      rw [Bool.or_eq_false_iff] at hc
      obtain ⟨h5, hn⟩ := hc
      have h5' : k.op = 5 := by simpa using h5
      rw [tailR, h5', operR, hk, hn, strR_pos] at ht
      simp only [show ((5 : Int) == 1) = false from rfl, show ((5 : Int) == 2) = false from rfl, show ((5 : Int) == 3) = false from rfl, show ((5 : Int) == 4) = false from rfl, show ((5 : Int) == 5) = true from rfl, cond_true, cond_false, Bool.false_and, Bool.or_false, Bool.and_eq_true, decide_eq_true_eq] at ht
      simp only [cond_false]; exact ht.2
end Go.Proofs.YtcgdlhkiecommaaGreatDoor
/- What the reference writes is what the program writes. -/

namespace Go.Proofs.YtcgdlhkiecommaaGreatDoor
open Go
def lowP (e : Ex) (i : Nat) : Int :=
  bif e.op == 6 || e.op == 7 then (bif (i : Int) == 0 then 5 else 0) else
  bif bindsP e == 5 then 0 else bif bindsP e == 4 then 4 else bif (i : Int) == 1 then bindsP e + 1 else leftP (bindsP e)
theorem least_low (e : Ex) (i : Nat) : leastR e (i : Int) = lowP e i + 1 := by
  rw [leastR, lowP]
  cases h67 : (e.op == 6 || e.op == 7) with
  | true => simp only [cond_true]; cases ((i : Int) == 0) <;> rfl
  | false =>
    have hr := str_range e.name
    simp only [cond_false]
    cases hc : (e.op != 5 || isNameL e.name) with
    | true => rw [show bindsP e = 5 by rw [bindsP, hc]; rfl]; rfl
    | false =>
      simp only [cond_false]
      cases hk : ((e.kids.length : Int) == 1) with
      | true => rw [show bindsP e = 4 by rw [bindsP, hc, hk]; rfl]; rfl
      | false =>
        simp only [cond_false]
        have hb : bindsP e = strengthI e.name := by rw [bindsP, hc, hk]; rfl
        rw [hb, show (strengthI e.name == 5) = false by simp; omega, show (strengthI e.name == 4) = false by simp; omega]
        simp only [cond_false]
        rw [leftP, strR]
        cases h1 : ((i : Int) == 1) with
        | true => simp
        | false =>
          by_cases h2 : strengthI e.name = 1
          · rw [h2]; rfl
          · rw [show (strengthI e.name + 1 == 2) = false by simp; omega, show (strengthI e.name == 1) = false by simp; omega]; rfl
theorem lt_low (e k : Ex) (i : Nat) : (levelR k < leastR e (i : Int)) = (bindsP k < lowP e i) := by
  rw [least_low, levelR]; exact propext ⟨fun h => by omega, fun h => by omega⟩
def kidQ (e : Ex) (i : Nat) : List Tk := kidTk (e.kids.getD i default) (lowP e i)
theorem addR_low (e k : Ex) (i : Nat) : addR e i (dep k) k = kidDp k (lowP e i) + (if nestR e i = true then 1 else 0) := by
  have e1 : decide (levelR k < leastR e (i : Int)) = decide (bindsP k < lowP e i) := by rw [Bool.eq_iff_iff, decide_eq_true_eq, decide_eq_true_eq, lt_low]
  rw [addR, e1, kidDp]
  by_cases h : bindsP k < lowP e i <;> simp [h]
theorem tight {k : Ex} (h : formP k = true) : kidTk k 0 = toks k ∧ kidDp k 0 = dep k := by
  have := binds_nn h
  rw [kidTk, kidDp, if_neg (by omega), if_neg (by omega)]; exact ⟨rfl, rfl⟩
inductive Kind (e : Ex) : Prop where
  | one (h : e.op = 1 ∨ e.op = 2 ∨ e.op = 3 ∨ e.op = 4) (hk : e.kids = [])
  | index (h : e.op = 6) (hk : e.kids.length = 2)
  | slice (h : e.op = 7) (hk : e.kids.length = 3)
  | call (h : e.op = 5) (hn : isNameL e.name = true) (hk : 1 ≤ e.kids.length)
  | unary (h : e.op = 5) (hn : isNameL e.name = false) (hk : e.kids.length = 1) (hs : e.name = sNot ∨ e.name = sMinus)
  | binary (h : e.op = 5) (hn : isNameL e.name = false) (hk : e.kids.length = 2) (hs : 0 ≤ strengthI e.name)
theorem kind_of {e : Ex} (h : formP e = true) : Kind e := by
  have ht := form_op h
  rw [tailR] at ht
  by_cases h1 : e.op = 1
  · rw [h1] at ht; exact .one (.inl h1) (by have : (e.kids.length : Int) = 0 := by simpa using ((Bool.and_eq_true _ _).mp ht).2
                                            exact List.length_eq_zero_iff.1 (by omega))
  by_cases h2 : e.op = 2
  · rw [h2] at ht; exact .one (.inr (.inl h2)) (by have : (e.kids.length : Int) = 0 := by simpa using ((Bool.and_eq_true _ _).mp ht).2
                                                   exact List.length_eq_zero_iff.1 (by omega))
  by_cases h3 : e.op = 3
  · rw [h3] at ht; exact .one (.inr (.inr (.inl h3))) (by have : (e.kids.length : Int) = 0 := by simpa using ((Bool.and_eq_true _ _).mp ht).2
                                                          exact List.length_eq_zero_iff.1 (by omega))
  by_cases h4 : e.op = 4
  · rw [h4] at ht; exact .one (.inr (.inr (.inr h4))) (by have : (e.kids.length : Int) = 0 := by simpa using ((Bool.and_eq_true _ _).mp ht).2
                                                          exact List.length_eq_zero_iff.1 (by omega))
  by_cases h5 : e.op = 5
  · rw [h5] at ht
    simp only [show ((5 : Int) == 1) = false from rfl, show ((5 : Int) == 2) = false from rfl, show ((5 : Int) == 3) = false from rfl, show ((5 : Int) == 4) = false from rfl, show ((5 : Int) == 5) = true from rfl, cond_true, cond_false] at ht
    rw [operR, strR_pos] at ht
    cases hn : isNameL e.name with
    | true =>
      refine .call h5 hn ?_
      rw [hn] at ht
      simp only [Bool.or_eq_true, Bool.and_eq_true, decide_eq_true_eq, beq_iff_eq] at ht
      omega
    | false =>
      rw [hn] at ht
      simp only [Bool.or_eq_true, Bool.and_eq_true, decide_eq_true_eq, beq_iff_eq, Bool.false_eq_true, false_and, or_false] at ht
      rcases ht with ⟨g1, g2⟩ | ⟨g1, g2⟩
      · exact .binary h5 hn (by omega) g2
      · exact .unary h5 hn (by omega) g2
  by_cases h6 : e.op = 6
  · rw [h6] at ht
    simp only [show ((6 : Int) == 1) = false from rfl, show ((6 : Int) == 2) = false from rfl, show ((6 : Int) == 3) = false from rfl, show ((6 : Int) == 4) = false from rfl, show ((6 : Int) == 5) = false from rfl, show ((6 : Int) == 6) = true from rfl, cond_true, cond_false, Bool.and_eq_true, beq_iff_eq] at ht
    exact .index h6 (by omega)
  by_cases h7 : e.op = 7
  · rw [h7] at ht
    simp only [show ((7 : Int) == 1) = false from rfl, show ((7 : Int) == 2) = false from rfl, show ((7 : Int) == 3) = false from rfl, show ((7 : Int) == 4) = false from rfl, show ((7 : Int) == 5) = false from rfl, show ((7 : Int) == 6) = false from rfl, show ((7 : Int) == 7) = true from rfl, cond_true, cond_false, beq_iff_eq] at ht
    exact .slice h7 (by omega)
  · simp [h1, h2, h3, h4, h5, h6, h7] at ht
theorem binds_call {e : Ex} (h : e.op = 5) (hn : isNameL e.name = true) : bindsP e = 5 := by rw [bindsP, hn]; simp
theorem binds_unary {e : Ex} (h : e.op = 5) (hn : isNameL e.name = false) (hk : e.kids.length = 1) : bindsP e = 4 := by rw [bindsP, hn, h, hk]; rfl
theorem binds_binary {e : Ex} (h : e.op = 5) (hn : isNameL e.name = false) (hk : e.kids.length = 2) : bindsP e = strengthI e.name := by rw [bindsP, hn, h, hk]; rfl
theorem ops5 {e : Ex} (h : e.op = 5) : (e.op == 1) = false ∧ (e.op == 2) = false ∧ (e.op == 3) = false ∧ (e.op == 4) = false ∧ (e.op == 6) = false ∧ (e.op == 7) = false := by rw [h]; decide
theorem ops6 {e : Ex} (h : e.op = 6) : (e.op == 1) = false ∧ (e.op == 2) = false ∧ (e.op == 3) = false ∧ (e.op == 4) = false ∧ (e.op == 6) = true := by rw [h]; decide
theorem ops7 {e : Ex} (h : e.op = 7) : (e.op == 1) = false ∧ (e.op == 2) = false ∧ (e.op == 3) = false ∧ (e.op == 4) = false ∧ (e.op == 6) = false ∧ (e.op == 7) = true := by rw [h]; decide
theorem most_call (e : Ex) (ds : List Nat) (n : Nat) (hn : n ≤ ds.length) (h : ∀ i, i < n → addR e i (ds.getD i 0) (e.kids.getD i default) = ds.getD i 0 + 1) : mostR e ds n = if n = 0 then 0 else maxL (ds.take n) + 1 := by
  induction n with
  | zero => rfl
  | succ n ih =>
    rw [mostR, ih (by omega) (fun i hi => h i (by omega)), h n (by omega), if_neg (show ¬ n + 1 = 0 by omega)]
    have e1 : maxL (ds.take (n + 1)) = max (maxL (ds.take n)) (ds.getD n 0) := by
      rw [take_getD 0 ds n (by omega)]
      have : ∀ l : List Nat, ∀ x, maxL (l ++ [x]) = max (maxL l) x := by
        intro l x
        induction l with
        | nil => simp [maxL]
        | cons a l ih => simp only [List.cons_append, maxL, ih]; omega
      exact this _ _
    rw [e1]
    by_cases h0 : n = 0
    · subst h0; simp [maxL]
    · rw [if_neg h0]; omega
theorem depQ_dep (e : Ex) : formP e = true → depQ e = dep e := by
  induction e using Ex.ind with
  | h e ih =>
    intro h
    have hmap : e.kids.map depQ = e.kids.map dep := List.map_congr_left (fun k hk => ih k hk (form_kid h k hk))
    have hfk : ∀ i, i < e.kids.length → formP (e.kids.getD i default) = true := fun i hi => form_kid h _ (getD_mem hi)
    rw [depQ_eq, hmap]
    have hd : ∀ i, i < e.kids.length → (e.kids.map dep).getD i 0 = dep (e.kids.getD i default) := fun i hi => getD_map_dep _ _ hi
    rcases kind_of h with ⟨h1, hk⟩ | ⟨h1, hk⟩ | ⟨h1, hk⟩ | ⟨h1, hn, hk⟩ | ⟨h1, hn, hk, hs⟩ | ⟨h1, hn, hk, hs⟩
    · rw [hk, dep_eq, depOf]
      rcases h1 with h1 | h1 | h1 | h1 <;> rw [h1] <;> rfl
    · obtain ⟨o1, o2, o3, o4, o6⟩ := ops6 h1
      rw [(toks_index o1 o2 o3 o4 o6 hk).2, hk, mostR, mostR, mostR, hd 0 (by omega), hd 1 (by omega), addR_low, addR_low]
      rw [show lowP e 0 = 5 by rw [lowP, h1]; rfl, show lowP e 1 = 0 by rw [lowP, h1]; rfl, show nestR e 0 = false by rw [nestR, h1]; rfl, show nestR e 1 = true by rw [nestR, h1]; rfl, (tight (hfk 1 (by omega))).2]
      simp
    · obtain ⟨o1, o2, o3, o4, o6, o7⟩ := ops7 h1
      rw [(toks_slice o1 o2 o3 o4 o6 o7 hk).2, hk, mostR, mostR, mostR, mostR, hd 0 (by omega), hd 1 (by omega), hd 2 (by omega), addR_low, addR_low, addR_low]
      rw [show lowP e 0 = 5 by rw [lowP, h1]; rfl, show lowP e 1 = 0 by rw [lowP, h1]; rfl, show lowP e 2 = 0 by rw [lowP, h1]; rfl, show nestR e 0 = false by rw [nestR, h1]; rfl, show nestR e 1 = true by rw [nestR, h1]; rfl, show nestR e 2 = true by rw [nestR, h1]; rfl, (tight (hfk 1 (by omega))).2, (tight (hfk 2 (by omega))).2]
      match hkk : e.kids, hk with
      | [a, b, c], _ => simp [maxL] <;> omega
    · obtain ⟨o1, o2, o3, o4, o6, o7⟩ := ops5 h1
      rw [(toks_call o1 o2 o3 o4 o6 o7 (by rw [binds_call h1 hn]; rfl)).2, most_call e _ _ (by simp) (fun i hi => by
        rw [hd i hi, addR_low, show lowP e i = 0 by rw [lowP, h1, binds_call h1 hn]; rfl, (tight (hfk i hi)).2, show nestR e i = true by rw [nestR, h1, hn]; simp]; rfl), if_neg (by omega), List.take_of_length_le (by simp)]
    · obtain ⟨o1, o2, o3, o4, o6, o7⟩ := ops5 h1
      have hb := binds_unary h1 hn hk
      rw [(toks_one o1 o2 o3 o4 o6 o7 (by rw [hb]; rfl) (by rw [hb]; rfl) hk).2, hk, mostR, mostR, hd 0 (by omega), addR_low, show lowP e 0 = 4 by rw [lowP, h1, hb]; rfl, show nestR e 0 = true by rw [nestR, h1, hn, hk]; rfl]
      simp
    · obtain ⟨o1, o2, o3, o4, o6, o7⟩ := ops5 h1
      have hb := binds_binary h1 hn hk
      have hr := str_range e.name
      rw [(toks_two o1 o2 o3 o4 o6 o7 (by rw [hb]; simp; omega) (by rw [hb]; simp; omega) hk).2, hk, mostR, mostR, mostR, hd 0 (by omega), hd 1 (by omega), addR_low, addR_low]
      rw [show lowP e 0 = leftP (bindsP e) by rw [lowP, h1, hb, show (strengthI e.name == 5) = false by simp; omega, show (strengthI e.name == 4) = false by simp; omega]; rfl,
        show lowP e 1 = bindsP e + 1 by rw [lowP, h1, hb, show (strengthI e.name == 5) = false by simp; omega, show (strengthI e.name == 4) = false by simp; omega]; rfl,
        show nestR e 0 = false by rw [nestR, h1, hn, hk]; rfl, show nestR e 1 = false by rw [nestR, h1, hn, hk]; rfl]
      simp
theorem validQ_P (e : Ex) (h : height e ≤ 20000) : validQ e = validP e := by
  rw [validQ, validP, shapes_form e 0 (by omega)]
  cases hf : formP e with
  | false => rfl
  | true => rw [depQ_dep e hf]
end Go.Proofs.YtcgdlhkiecommaaGreatDoor
/- Tokens in new memory; how they are put together. -/

namespace Go.Proofs.YtcgdlhkiecommaaGreatDoor
open Go
section
variable {P : Program} {n : Nat} {Q : APost} {env env0 : Env} {σ σ' : Store} {ops : Array Oper} {steps : List Stp} {rem : List Nat}
theorem next_call {e : Nat} {f : Operand} {args : Array Operand} {ts : Array TypeId} {fa : AVal} {g : FuncId} {caps : List AVal} {avs : List AVal} {R : AEnd → Store → Prop} {d : Option Tmp} {ty : TypeId} {pos : String} {after : Array Edge} (hin : Into P g)
    (hf : aval env f = some fa) (hc : calleeOf fa = some (g, caps)) (ha : avals (aval env) args.toList = some avs) (h : AC P g (avs ++ caps) σ R)
    (k : ∀ r σ', R r σ' → ∃ a, r = .ret a ∧ Loose P ops e σ' steps ∧ AFl P n ops Q env0 (⟨e, a, env, true⟩ :: steps.map (fixS ops e)) rem (env.putd d a) σ') : Next P n ops Q env0 steps e ⟨d, .call { callee := .value f, args := args, argTypes := ts }, ty, pos, after, none⟩ rem env σ := fun ok L w act hs hr K hK => by
    obtain ⟨vs, hrun, hv⟩ := call_run (E := aval env) (d := d) (ty := ty) (pos := pos) (after := after) (guard := none) (ts := ts) hin hr hf hc ha
    unfold Oper.wp
    rw [hrun]
    refine (h ok L w vs hs hv).mono ?_
    rintro x w' ⟨r, σ', ok', L', hR, he, hs', hx⟩
    obtain ⟨a, rfl, k1, k2⟩ := k _ _ hR
    cases x with
    | returned v => exact hK _ _ _ _ _ _ k1 k2 he hs' hx
    | _ => exact hx.elim
end
theorem own_at {P : Program} {f : FuncId} {args : List AVal} {sz : Nat} {els : List (List AVal)} {m : Nat} (p : Nat) (ht : tabOK [p] = true) (ha : args.map (AVal.rn (tab [p])) = args) (he : (AObj.row sz els).rn (tab [p]) = .row sz els)
    (h : AC P f args [] (fun r σ' => ∃ ver, r = .ret (.slice 0 ver 0 m) ∧ σ' = [(0, ver, .row sz els)])) {σ : Store} (hf : σ.get p = none) (hb : σ.below 1000 = true) :
    AC P f args σ (fun r σ' => ∃ ver, r = .ret (.slice p ver 0 m) ∧ σ' = σ.put p ver (.row sz els)) := by
  have := ac_at (σ := σ) [p] ht h trivial (by simp [Store.free, Store.get, tab, hf]) hb (by intro r σ' _ j _; rfl)
  rw [ha] at this
  refine ac_mono this ?_
  rintro r σ' ⟨r0, σ0, ⟨ver, rfl, rfl⟩, rfl, rfl⟩
  refine ⟨ver, rfl, ?_⟩
  simp only [Store.putAll, he]
  rfl
def TKN (P : Program) (f : FuncId) (args : List AVal) (l : List Tk) : Prop := AC P f args [] (fun r σ' => ∃ ver, r = .ret (.slice 0 ver 0 l.length) ∧ σ' = [(0, ver, .row 5 (l.map encK))])
theorem tkn_at {P : Program} {f : FuncId} {args : List AVal} {l : List Tk} (p : Nat) (ht : tabOK [p] = true) (ha : args.map (AVal.rn (tab [p])) = args) (h : TKN P f args l) {σ : Store} (hf : σ.get p = none) (hb : σ.below 1000 = true) :
    AC P f args σ (fun r σ' => ∃ ver, r = .ret (.slice p ver 0 l.length) ∧ σ' = σ.put p ver (.row 5 (l.map encK))) :=
  own_at p ht ha (by simp only [AObj.rn, encK_rn]) h hf hb
theorem tkn_of {P : Program} {f : FuncId} {args : List AVal} {l : List Tk} (h : AC P f args [] (fun r σ' => ∃ ver, r = .ret (.slice 0 ver 0 l.length) ∧ σ'.keep (fun i => i == 0) = [(0, ver, .row 5 (l.map encK))])) : TKN P f args l :=
  ac_mono (ac_keep (fun i => i == 0) h) (by rintro r σ' ⟨σ1, ⟨ver, e1, e2⟩, e3⟩; exact ⟨ver, e1, e3.trans e2⟩)
def tkO : Tk := ⟨7, sOpen, 0, 0, 0⟩
def tkC : Tk := ⟨7, sShut, 0, 0, 0⟩
def tkK : Tk := ⟨7, sComma, 0, 0, 0⟩
theorem tkO_eq : tkS sOpen = tkO := by rw [tkS, tkO, show isWordL sOpen = false from by decide +kernel]; rfl
theorem tkC_eq : tkS sShut = tkC := by rw [tkS, tkC, show isWordL sShut = false from by decide +kernel]; rfl
theorem tkK_eq : tkS sComma = tkK := by rw [tkS, tkK, show isWordL sComma = false from by decide +kernel]; rfl
theorem inBr_eq (t : List Tk) : inBr t = ([tkO] ++ t) ++ [tkC] := by rw [inBr, tkO_eq, tkC_eq]; simp
theorem kidQ_yes {e : Ex} {i : Nat} (h : decide (levelR (e.kids.getD i default) < leastR e (i : Int)) = true) : ([tkO] ++ toks (e.kids.getD i default)) ++ [tkC] = kidQ e i := by
  rw [decide_eq_true_eq, lt_low] at h
  rw [kidQ, kidTk, if_pos h, inBr_eq]
theorem kidQ_no {e : Ex} {i : Nat} (h : decide (levelR (e.kids.getD i default) < leastR e (i : Int)) = false) : toks (e.kids.getD i default) = kidQ e i := by
  rw [decide_eq_false_iff_not, lt_low] at h
  rw [kidQ, kidTk, if_neg h]
theorem tokQ_index {e : Ex} (h : formP e = true) (h1 : e.op = 6) (hk : e.kids.length = 2) : ((kidQ e 0 ++ [tkO]) ++ kidQ e 1) ++ [tkC] = toks e := by
  obtain ⟨o1, o2, o3, o4, o6⟩ := ops6 h1
  rw [(toks_index o1 o2 o3 o4 o6 hk).1, kidQ, kidQ, show lowP e 0 = 5 by rw [lowP, h1]; rfl, show lowP e 1 = 0 by rw [lowP, h1]; rfl, (tight (form_kid h _ (getD_mem (by omega)))).1, inBr_eq]
  simp
theorem tokQ_slice {e : Ex} (h : formP e = true) (h1 : e.op = 7) (hk : e.kids.length = 3) : ((((kidQ e 0 ++ [tkO]) ++ kidQ e 1) ++ [tkS sDownto]) ++ kidQ e 2) ++ [tkC] = toks e := by
  obtain ⟨o1, o2, o3, o4, o6, o7⟩ := ops7 h1
  rw [(toks_slice o1 o2 o3 o4 o6 o7 hk).1, kidQ, kidQ, kidQ, show lowP e 0 = 5 by rw [lowP, h1]; rfl, show lowP e 1 = 0 by rw [lowP, h1]; rfl, show lowP e 2 = 0 by rw [lowP, h1]; rfl, (tight (form_kid h _ (getD_mem (i := 1) (by omega)))).1, (tight (form_kid h _ (getD_mem (i := 2) (by omega)))).1, inBr_eq]
  match hkk : e.kids, hk with
  | [a, b, c], _ => simp [sepT]
theorem tokQ_unary {e : Ex} (h1 : e.op = 5) (hn : isNameL e.name = false) (hk : e.kids.length = 1) : [tkS e.name] ++ kidQ e 0 = toks e := by
  obtain ⟨o1, o2, o3, o4, o6, o7⟩ := ops5 h1
  have hb := binds_unary h1 hn hk
  rw [(toks_one o1 o2 o3 o4 o6 o7 (by rw [hb]; rfl) (by rw [hb]; rfl) hk).1, kidQ, show lowP e 0 = 4 by rw [lowP, h1, hb]; rfl]
  rfl
theorem tokQ_binary {e : Ex} (h1 : e.op = 5) (hn : isNameL e.name = false) (hk : e.kids.length = 2) : (kidQ e 0 ++ [tkS e.name]) ++ kidQ e 1 = toks e := by
  obtain ⟨o1, o2, o3, o4, o6, o7⟩ := ops5 h1
  have hb := binds_binary h1 hn hk
  have hr := str_range e.name
  rw [(toks_two o1 o2 o3 o4 o6 o7 (by rw [hb]; simp; omega) (by rw [hb]; simp; omega) hk).1, kidQ, kidQ,
    show lowP e 0 = leftP (bindsP e) by rw [lowP, h1, hb, show (strengthI e.name == 5) = false by simp; omega, show (strengthI e.name == 4) = false by simp; omega]; rfl,
    show lowP e 1 = bindsP e + 1 by rw [lowP, h1, hb, show (strengthI e.name == 5) = false by simp; omega, show (strengthI e.name == 4) = false by simp; omega]; rfl]
  simp
def callQ (e : Ex) : Nat → List Tk
  | 0 => [tkN e.name]
  | i + 1 => (callQ e i ++ [⟨7, if i = 0 then sOpen else sComma, 0, 0, 0⟩]) ++ kidQ e i
theorem callQ_eq {e : Ex} (h : formP e = true) (h1 : e.op = 5) (hn : isNameL e.name = true) (i : Nat) (hi : i < e.kids.length) : callQ e (i + 1) = tkN e.name :: (tkO :: sepT sComma ((e.kids.map toks).take (i + 1))) := by
  have hq : ∀ i, i < e.kids.length → kidQ e i = toks (e.kids.getD i default) := fun i hi => by
    rw [kidQ, show lowP e i = 0 by rw [lowP, h1, binds_call h1 hn]; rfl, (tight (form_kid h _ (getD_mem hi))).1]
  induction i with
  | zero =>
    rw [callQ, callQ, hq 0 hi, sep_zero _ _ (by simpa using hi), getD_map_toks _ _ hi, if_pos rfl]; rfl
  | succ i ih =>
    rw [callQ, ih (by omega), hq _ hi, sep_pos sComma _ (i + 1) (by simpa using hi) (by omega), getD_map_toks _ _ hi, if_neg (by omega), tkK_eq, tkK]
    simp
theorem tokQ_call {e : Ex} (h : formP e = true) (h1 : e.op = 5) (hn : isNameL e.name = true) (hk : 1 ≤ e.kids.length) : callQ e e.kids.length ++ [tkC] = toks e := by
  obtain ⟨o1, o2, o3, o4, o6, o7⟩ := ops5 h1
  obtain ⟨n, hn2⟩ : ∃ n, e.kids.length = n + 1 := ⟨e.kids.length - 1, by omega⟩
  rw [hn2, callQ_eq h h1 hn n (by omega), (toks_call o1 o2 o3 o4 o6 o7 (by rw [binds_call h1 hn]; rfl)).1, inBr_eq, List.take_of_length_le (by simp; omega)]
  simp
theorem kidQ_len (e : Ex) (i : Nat) : (toks (e.kids.getD i default)).length ≤ (kidQ e i).length := by
  rw [kidQ, kidTk]
  split
  · rw [inBr_eq]; simp only [List.length_append]; omega
  · exact Nat.le_refl _
theorem callQ_len {e : Ex} (i j : Nat) (h : i ≤ j) : (callQ e i).length ≤ (callQ e j).length := by
  induction j with
  | zero => have : i = 0 := by omega
            subst this; exact Nat.le_refl _
  | succ j ih =>
    rcases Nat.lt_or_ge j i with h1 | h1
    · have : i = j + 1 := by omega
      subst this; exact Nat.le_refl _
    · have := ih h1
      rw [callQ]; simp only [List.length_append]; omega
theorem form_bits2 {e : Ex} (h : formP e = true) (h2 : (e.op == 2) = true) : isBits e.bits = true := by
  have ht := form_op h
  rw [tailR, h2] at ht; rw [beq_iff_eq] at h2; rw [h2] at ht
  simp only [show ((2 : Int) == 1) = false from rfl, cond_true, cond_false, Bool.and_eq_true] at ht
  exact ht.1.2
theorem form_bits3 {e : Ex} (h : formP e = true) (h2 : (e.op == 3) = true) : isBits e.bits = true := by
  have ht := form_op h
  rw [tailR, h2] at ht; rw [beq_iff_eq] at h2; rw [h2] at ht
  simp only [show ((3 : Int) == 1) = false from rfl, show ((3 : Int) == 2) = false from rfl, cond_true, cond_false, Bool.and_eq_true] at ht
  exact ht.1
theorem kids_6 {e : Ex} (h : formP e = true) (h2 : (e.op == 6) = true) : e.kids.length = 2 := by
  rw [beq_iff_eq] at h2
  rcases kind_of h with ⟨h1, hk⟩ | ⟨h1, hk⟩ | ⟨h1, hk⟩ | ⟨h1, hn, hk⟩ | ⟨h1, hn, hk, hs⟩ | ⟨h1, hn, hk, hs⟩ <;> first | exact hk | omega
theorem kids_7 {e : Ex} (h : formP e = true) (h2 : (e.op == 7) = true) : e.kids.length = 3 := by
  rw [beq_iff_eq] at h2
  rcases kind_of h with ⟨h1, hk⟩ | ⟨h1, hk⟩ | ⟨h1, hk⟩ | ⟨h1, hn, hk⟩ | ⟨h1, hn, hk, hs⟩ | ⟨h1, hn, hk, hs⟩ <;> first | exact hk | omega
theorem op_5 {e : Ex} (h : formP e = true) (h1 : (e.op == 1) = false) (h2 : (e.op == 2) = false) (h3 : (e.op == 3) = false) (h4 : (e.op == 4) = false) (h6 : (e.op == 6) = false) (h7 : (e.op == 7) = false) : e.op = 5 := by
  simp only [beq_eq_false_iff_ne, ne_eq] at h1 h2 h3 h4 h6 h7
  rcases kind_of h with ⟨g1, hk⟩ | ⟨g1, hk⟩ | ⟨g1, hk⟩ | ⟨g1, hn, hk⟩ | ⟨g1, hn, hk, hs⟩ | ⟨g1, hn, hk, hs⟩ <;> first | exact g1 | omega
theorem kids_call {e : Ex} (h : formP e = true) (h5 : e.op = 5) (hn : isNameL e.name = true) : 1 ≤ e.kids.length := by
  rcases kind_of h with ⟨g1, hk⟩ | ⟨g1, hk⟩ | ⟨g1, hk⟩ | ⟨g1, hn2, hk⟩ | ⟨g1, hn2, hk, hs⟩ | ⟨g1, hn2, hk, hs⟩ <;> omega
theorem kids_two {e : Ex} (h : formP e = true) (h5 : e.op = 5) (hn : isNameL e.name = false) (hk1 : ((e.kids.length : Int) == 1) = false) : e.kids.length = 2 := by
  have hk1 : e.kids.length ≠ 1 := by intro e1; rw [e1] at hk1; cases hk1
  rcases kind_of h with ⟨g1, hk⟩ | ⟨g1, hk⟩ | ⟨g1, hk⟩ | ⟨g1, hn2, hk⟩ | ⟨g1, hn2, hk, hs⟩ | ⟨g1, hn2, hk, hs⟩
  · omega
  · omega
  · omega
  · rw [hn] at hn2; cases hn2
  · omega
  · exact hk
end Go.Proofs.YtcgdlhkiecommaaGreatDoor
/- What few parts are: how many nodes, how long names, how many tokens; all tokens can be written. -/




namespace Go.Proofs.YtcgdlhkiecommaaGreatDoor
open Go
mutual
def nodes : Ex → Nat
  | .mk _ _ _ _ _ k _ _ _ => nodesL k + 1
def nodesL : List Ex → Nat
  | [] => 0
  | e :: r => nodes e + nodesL r
end
theorem nodes_eq (e : Ex) : nodes e = nodesL e.kids + 1 := by cases e; rfl
theorem nodes_len (l : List Ex) : l.length ≤ nodesL l := by
  induction l with
  | nil => exact Nat.le_refl _
  | cons a l ih => have := nodes_eq a; simp only [nodesL, List.length_cons]; omega
mutual
def smE : Ex → Bool
  | .mk _ s _ b _ k _ _ _ => (decide (s.length ≤ 200000) && decide (b.length ≤ 3000)) && smEs k
def smEs : List Ex → Bool
  | [] => true
  | e :: r => smE e && smEs r
end
theorem smE_facts {e : Ex} (h : smE e = true) : e.name.length ≤ 200000 ∧ e.bits.length ≤ 3000 ∧ ∀ k ∈ e.kids, smE k = true := by
  have hl : ∀ l : List Ex, smEs l = true → ∀ k ∈ l, smE k = true := by
    intro l
    induction l with
    | nil => intro _ k hk; cases hk
    | cons a l ih =>
      intro h k hk
      rw [smEs, Bool.and_eq_true] at h
      cases hk with
      | head => exact h.1
      | tail _ hk => exact ih h.2 k hk
  cases e with
  | mk o s n b v k t l c =>
    rw [smE] at h
    simp only [Bool.and_eq_true, decide_eq_true_eq] at h
    exact ⟨h.1.1, h.1.2, hl k h.2⟩
theorem smE_of {e : Ex} (h1 : e.name.length ≤ 200000) (h2 : e.bits.length ≤ 3000) (h3 : ∀ k ∈ e.kids, smE k = true) : smE e = true := by
  have hl : ∀ l : List Ex, (∀ k ∈ l, smE k = true) → smEs l = true := by
    intro l
    induction l with
    | nil => intro _; rfl
    | cons a l ih => intro h; rw [smEs, h a (by simp), ih fun k hk => h k (by simp [hk])]; rfl
  cases e with
  | mk o s n b v k t l c =>
    rw [smE, hl k h3]
    have h1 : s.length ≤ 200000 := h1
    have h2 : b.length ≤ 3000 := h2
    rw [decide_eq_true h1, decide_eq_true h2]; rfl
theorem partsEs_few {l : List Ex} {d : Nat} (hl : ∀ k ∈ l, ∀ n : Int, 0 ≤ n → n ≤ 3000 → 0 ≤ partsE k n (d + 1) → partsE k n (d + 1) + nodes k ≤ n ∧ smE k = true ∧ height k + (d + 1) ≤ 300) :
    ∀ n : Int, n ≤ 3000 → 0 ≤ partsEs l n d → partsEs l n d + nodesL l ≤ n ∧ (∀ k ∈ l, smE k = true ∧ height k + (d + 1) ≤ 300) := by
  induction l with
  | nil => intro n _ h; exact ⟨by simp [partsEs, nodesL], fun k hk => by cases hk⟩
  | cons a l ih =>
    intro n hn h
    rw [partsEs] at h ⊢
    by_cases h0 : n < 0
    · rw [if_pos h0] at h; omega
    · rw [if_neg h0] at h ⊢
      have hp : 0 ≤ partsE a n (d + 1) := by
        rcases Int.lt_or_le (partsE a n (d + 1)) 0 with h1 | h1
        · rw [partsEs_lt h1] at h; exact h
        · exact h1
      obtain ⟨g1, g2, g3⟩ := hl a (by simp) n (by omega) hn hp
      obtain ⟨g4, g5⟩ := ih (fun k hk => hl k (by simp [hk])) _ (by omega) h
      refine ⟨by simp only [nodesL]; omega, fun k hk => ?_⟩
      rcases List.mem_cons.1 hk with rfl | hk
      · exact ⟨g2, g3⟩
      · exact g5 k hk
theorem heights_le {l : List Ex} {b : Nat} (h : ∀ k ∈ l, height k + 1 ≤ b) : heights l ≤ b := by
  induction l with
  | nil => exact Nat.zero_le _
  | cons a l ih => have := h a (by simp); have := ih (fun k hk => h k (by simp [hk])); rw [heights]; omega
theorem partsE_few (e : Ex) : ∀ (n : Int) (d : Nat), 0 ≤ n → n ≤ 3000 → 0 ≤ partsE e n d → partsE e n d + nodes e ≤ n ∧ smE e = true ∧ height e + d ≤ 300 := by
  induction e using Ex.ind with
  | h e ih =>
    intro n d h0 hn h
    by_cases hd : 300 < d
    · rw [partsE_no hd] at h; omega
    · rw [partsE_eq hd] at h ⊢
      have hs : 0 ≤ n - (((((1 + (e.bits.length : Int)) + (e.name.length / 50 : Nat)) + e.val.bits.length) + e.val.list.length) + e.type.names.length + e.type.elem.length) := by
        rcases Int.lt_or_le (n - (((((1 + (e.bits.length : Int)) + (e.name.length / 50 : Nat)) + e.val.bits.length) + e.val.list.length) + e.type.names.length + e.type.elem.length)) 0 with h1 | h1
        · rw [partsEs_lt h1] at h; exact h
        · exact h1
      obtain ⟨g1, g2⟩ := partsEs_few (l := e.kids) (d := d) (fun k hk n h0 hn h => ih k hk n (d + 1) h0 hn h) _ (by omega) h
      refine ⟨by rw [nodes_eq]; omega, smE_of (by omega) (by omega) (fun k hk => (g2 k hk).1), ?_⟩
      rw [height_eq]
      have := heights_le (l := e.kids) (b := 300 - d) (fun k hk => by have := (g2 k hk).2; omega)
      omega
theorem few_one {e : Ex} (h : fewP [e] 3000 = true) : nodes e ≤ 3000 ∧ smE e = true ∧ height e ≤ 300 := by
  rw [fewP] at h
  split at h
  · cases h
  · rename_i h2
    have hp : 0 ≤ partsE e 3000 0 := by
      rcases Int.lt_or_le (partsE e 3000 0) 0 with h3 | h3
      · rw [decide_eq_true h3] at h2; simp at h2
      · exact h3
    obtain ⟨g1, g2, g3⟩ := partsE_few e 3000 0 (by omega) (by omega) hp
    exact ⟨by omega, g2, by omega⟩
theorem szE_few (e : Ex) : smE e = true → nuE e = true → nodes e ≤ 3000 → szE e = true := by
  have hl : ∀ l : List Ex, (∀ k ∈ l, szE k = true) → szEs l = true := by
    intro l
    induction l with
    | nil => intro _; rfl
    | cons a l ih => intro h; rw [szEs, h a (by simp), ih fun k hk => h k (by simp [hk])]; rfl
  have hn : ∀ l : List Ex, nuEs l = true → ∀ k ∈ l, nuE k = true := by
    intro l
    induction l with
    | nil => intro _ k hk; cases hk
    | cons a l ih =>
      intro h k hk
      rw [nuEs, Bool.and_eq_true] at h
      cases hk with
      | head => exact h.1
      | tail _ hk => exact ih h.2 k hk
  have hm : ∀ (l : List Ex) (k : Ex), k ∈ l → nodes k ≤ nodesL l := by
    intro l
    induction l with
    | nil => intro k hk; cases hk
    | cons a l ih =>
      intro k hk
      rw [nodesL]
      cases hk with
      | head => omega
      | tail _ hk => have := ih k hk; omega
  induction e using Ex.ind with
  | h e ih =>
    intro h1 h2 h3
    obtain ⟨g1, g2, g3⟩ := smE_facts h1
    rw [nodes_eq] at h3
    have g4 := nodes_len e.kids
    cases e with
    | mk o s n b v k t l c =>
      rw [nuE] at h2
      simp only [Bool.and_eq_true] at h2
      rw [szE, hl k (fun x hx => ih x hx (g3 x hx) (hn k h2.2 x hx) (by have := hm k x hx; simp only [Ex.kids] at h3; omega))]
      simp only [Ex.name, Ex.bits, Ex.kids] at g1 g2 g4 h3
      rw [decide_eq_true (by omega), decide_eq_true (by omega), decide_eq_true (by omega)]
      have hb : b.all (fun x => decide (0 ≤ x)) = true := by
        rw [List.all_eq_true]
        intro x hx
        have := List.all_eq_true.1 h2.1.1.2.2 x hx
        rw [wB, Bool.and_eq_true] at this
        exact this.1
      rw [hb]; rfl
structure OKk (t : Tk) : Prop where
  poss : possT t = true
  text : t.text.length ≤ 200000
  int : t.op = 3 → 0 ≤ t.n
  n0 : -9223372036854775808 ≤ t.n
  n1 : t.n ≤ 9223372036854775807
theorem tw_all {p : UInt8 → Bool} (l : Bs) (h : ∀ c ∈ l, p c = true) : l.takeWhile p = l := by
  induction l with
  | nil => rfl
  | cons a l ih => rw [List.takeWhile_cons, h a (by simp), if_pos rfl, ih fun c hc => h c (by simp [hc])]
theorem bitC_bit {x : Int} (h0 : 0 ≤ x) (h3 : x ≤ 3) : isBitC (bitC x) = true := by
  have : x = 0 ∨ x = 1 ∨ x = 2 ∨ x = 3 := by omega
  rcases this with rfl | rfl | rfl | rfl <;> decide
theorem tkS_ok {s : Bs} (h : (isWordL s || signsL.contains s) = true) (hl : s.length ≤ 200000) : OKk (tkS s) := by
  rw [tkS]
  cases hw : isWordL s with
  | true => exact ⟨by rw [possT]; simp [hw], hl, (by intro h; cases h), by simp, by simp⟩
  | false =>
    rw [hw, Bool.false_or, List.contains_iff_mem] at h
    exact ⟨by rw [possT]; simp [h], hl, (by intro h; cases h), by simp, by simp⟩
theorem ops_ok {s : Bs} (h : 0 ≤ strengthI s) : (isWordL s || signsL.contains s) = true ∧ s.length ≤ 200000 := by
  have key : ∀ x ∈ levelsL.flatten, (isWordL x || signsL.contains x) = true ∧ x.length ≤ 200000 := by
    have : (levelsL.flatten.all fun x => (isWordL x || signsL.contains x) && decide (x.length ≤ 200000)) = true := by decide +kernel
    intro x hx
    have := List.all_eq_true.1 this x hx
    rw [Bool.and_eq_true, decide_eq_true_eq] at this
    exact this
  refine key s ?_
  have lv : ∀ k, k < 4 → (levelL k).contains s = true → s ∈ levelsL.flatten := by
    intro k hk hc
    rw [List.contains_iff_mem] at hc
    refine List.mem_flatten.2 ⟨levelL k, ?_, hc⟩
    have : k = 0 ∨ k = 1 ∨ k = 2 ∨ k = 3 := by omega
    rcases this with rfl | rfl | rfl | rfl <;> simp [levelL, levelsL]
  rw [strengthI] at h
  split at h
  · exact lv 0 (by omega) (by assumption)
  · split at h
    · exact lv 1 (by omega) (by assumption)
    · split at h
      · exact lv 2 (by omega) (by assumption)
      · split at h
        · exact lv 3 (by omega) (by assumption)
        · omega
theorem inBr_all {p : Tk → Prop} {t : List Tk} (hO : p tkO) (hC : p tkC) (h : ∀ x ∈ t, p x) : ∀ x ∈ inBr t, p x := by
  rw [inBr_eq]
  intro x hx
  simp only [List.mem_append, List.mem_singleton] at hx
  rcases hx with (rfl | hx) | rfl
  · exact hO
  · exact h x hx
  · exact hC
theorem kidTk_all {p : Tk → Prop} {k : Ex} {n : Int} (hO : p tkO) (hC : p tkC) (h : ∀ x ∈ toks k, p x) : ∀ x ∈ kidTk k n, p x := by
  rw [kidTk]; split
  · exact inBr_all hO hC h
  · exact h
theorem sepT_all {p : Tk → Prop} {s : Bs} {ts : List (List Tk)} (hs : p (tkS s)) (h : ∀ t ∈ ts, ∀ x ∈ t, p x) : ∀ x ∈ sepT s ts, p x := by
  induction ts with
  | nil => intro x hx; cases hx
  | cons a r ih =>
    cases r with
    | nil => exact h a (by simp)
    | cons b r =>
      intro x hx
      rw [sepT] at hx
      simp only [List.mem_append, List.mem_cons] at hx
      rcases hx with hx | rfl | hx
      · exact h a (by simp) x hx
      · exact hs
      · exact ih (fun t ht => h t (by simp [List.mem_cons] at ht ⊢; right; exact ht)) x hx
      · intro h2; cases h2
theorem tkO_ok : OKk tkO := tkO_eq ▸ tkS_ok (by decide +kernel) (by decide)
theorem tkC_ok : OKk tkC := tkC_eq ▸ tkS_ok (by decide +kernel) (by decide)
theorem toks_ok (e : Ex) : formP e = true → szE e = true → smE e = true → ∀ t ∈ toks e, OKk t := by
  induction e using Ex.ind with
  | h e ih =>
    intro hf hz hm
    obtain ⟨z1, z2, z3, z4, z5⟩ := szE_facts hz
    obtain ⟨m1, m2, m3⟩ := smE_facts hm
    have hk : ∀ i, i < e.kids.length → ∀ t ∈ toks (e.kids.getD i default), OKk t := fun i hi => ih _ (getD_mem hi) (form_kid hf _ (getD_mem hi)) (z5 _ (getD_mem hi)) (m3 _ (getD_mem hi))
    have ht := form_op hf
    rw [tailR] at ht
    rcases kind_of hf with ⟨h1, hk0⟩ | ⟨h1, hk0⟩ | ⟨h1, hk0⟩ | ⟨h1, hn, hk0⟩ | ⟨h1, hn, hk0, hs⟩ | ⟨h1, hn, hk0, hs⟩
    · rcases h1 with h1 | h1 | h1 | h1
      · rw [h1] at ht
        simp only [show ((1 : Int) == 1) = true from rfl, cond_true, Bool.and_eq_true, decide_eq_true_eq] at ht
        rw [(toks_int (by rw [h1]; rfl)).1]
        intro t htm
        obtain rfl := List.mem_singleton.1 htm
        exact ⟨by rw [possT]; simp [ht.1.1, ht.1.2], Nat.zero_le _, fun _ => ht.1.1, by show _ ≤ e.n; omega, by show e.n ≤ _; omega⟩
      · have hb := form_bits2 hf (by rw [h1]; rfl)
        rw [h1] at ht
        simp only [show ((2 : Int) == 1) = false from rfl, show ((2 : Int) == 2) = true from rfl, cond_true, cond_false, Bool.and_eq_true, beq_iff_eq] at ht
        have hl : e.bits.length = 1 := by omega
        rw [(toks_bit (by rw [h1]; rfl) (by rw [h1]; rfl)).1]
        intro t htm
        obtain rfl := List.mem_singleton.1 htm
        obtain ⟨x, hx⟩ : ∃ x, e.bits = [x] := List.length_eq_one_iff.1 hl
        have hb4 := bitC_bit (z4 x (by rw [hx]; simp)) (bits_le hb x (by rw [hx]; simp))
        refine ⟨?_, by rw [bitsT_len]; omega, (by intro h; cases h), by simp, by simp⟩
        rw [possT, hx]
        simp [bitsT, hb4]
      · have hb := form_bits3 hf (by rw [h1]; rfl)
        have hlen := bits_len hb
        rw [(toks_vec (by rw [h1]; rfl) (by rw [h1]; rfl) (by rw [h1]; rfl)).1]
        intro t htm
        obtain rfl := List.mem_singleton.1 htm
        have hall : ∀ c ∈ bitsT e.bits, ofK c 2 = true := by
          intro c hc
          rw [bitsT, List.mem_reverse, List.mem_map] at hc
          obtain ⟨x, hx, rfl⟩ := hc
          have := bitC_bit (z4 x hx) (bits_le hb x hx)
          rw [show ofK (bitC x) 2 = isBitC (bitC x) from rfl]; exact this
        refine ⟨?_, by rw [bitsT_len]; omega, (by intro h; cases h), by simp, by simp⟩
        rw [possT]
        simp only [List.drop_zero]
        rw [tw_all _ hall, bitsT_len]
        simp; omega
      · rw [h1] at ht
        simp only [show ((4 : Int) == 1) = false from rfl, show ((4 : Int) == 2) = false from rfl, show ((4 : Int) == 3) = false from rfl, show ((4 : Int) == 4) = true from rfl, cond_true, cond_false, Bool.and_eq_true] at ht
        rw [(toks_name (by rw [h1]; rfl) (by rw [h1]; rfl) (by rw [h1]; rfl) (by rw [h1]; rfl)).1]
        intro t htm
        obtain rfl := List.mem_singleton.1 htm
        exact ⟨by rw [possT]; simp [tkN, ht.1], m1, (by intro h; cases h), by simp [tkN], by simp [tkN]⟩
    · obtain ⟨o1, o2, o3, o4, o6⟩ := ops6 h1
      rw [(toks_index o1 o2 o3 o4 o6 hk0).1]
      intro t htm
      rcases List.mem_append.1 htm with htm | htm
      · exact kidTk_all tkO_ok tkC_ok (hk 0 (by omega)) t htm
      · exact inBr_all tkO_ok tkC_ok (hk 1 (by omega)) t htm
    · obtain ⟨o1, o2, o3, o4, o6, o7⟩ := ops7 h1
      rw [(toks_slice o1 o2 o3 o4 o6 o7 hk0).1]
      intro t htm
      rcases List.mem_append.1 htm with htm | htm
      · exact kidTk_all tkO_ok tkC_ok (hk 0 (by omega)) t htm
      · refine inBr_all tkO_ok tkC_ok (sepT_all (tkS_ok (by decide +kernel) (by decide)) ?_) t htm
        intro l hl x hx
        obtain ⟨k, hk1, rfl⟩ := List.mem_map.1 hl
        have hkm := List.mem_of_mem_drop hk1
        exact ih k hkm (form_kid hf k hkm) (z5 k hkm) (m3 k hkm) x hx
    · obtain ⟨o1, o2, o3, o4, o6, o7⟩ := ops5 h1
      rw [(toks_call o1 o2 o3 o4 o6 o7 (by rw [binds_call h1 hn]; rfl)).1]
      intro t htm
      rcases List.mem_cons.1 htm with rfl | htm
      · exact ⟨by rw [possT]; simp [tkN, hn], m1, (by intro h; cases h), by simp [tkN], by simp [tkN]⟩
      · refine inBr_all tkO_ok tkC_ok (sepT_all (tkS_ok (by decide +kernel) (by decide)) ?_) t htm
        intro l hl x hx
        obtain ⟨k, hkm, rfl⟩ := List.mem_map.1 hl
        exact ih k hkm (form_kid hf k hkm) (z5 k hkm) (m3 k hkm) x hx
    · obtain ⟨o1, o2, o3, o4, o6, o7⟩ := ops5 h1
      have hb := binds_unary h1 hn hk0
      rw [(toks_one o1 o2 o3 o4 o6 o7 (by rw [hb]; rfl) (by rw [hb]; rfl) hk0).1]
      intro t htm
      rcases List.mem_cons.1 htm with rfl | htm
      · rcases hs with hs | hs <;> rw [hs] <;> exact tkS_ok (by decide +kernel) (by decide)
      · exact kidTk_all tkO_ok tkC_ok (hk 0 (by omega)) t htm
    · obtain ⟨o1, o2, o3, o4, o6, o7⟩ := ops5 h1
      have hb := binds_binary h1 hn hk0
      have hr := str_range e.name
      rw [(toks_two o1 o2 o3 o4 o6 o7 (by rw [hb]; simp; omega) (by rw [hb]; simp; omega) hk0).1]
      intro t htm
      rcases List.mem_append.1 htm with htm | htm
      · exact kidTk_all tkO_ok tkC_ok (hk 0 (by omega)) t htm
      · rcases List.mem_cons.1 htm with rfl | htm
        · obtain ⟨w1, w2⟩ := ops_ok hs
          exact tkS_ok w1 w2
        · exact kidTk_all tkO_ok tkC_ok (hk 1 (by omega)) t htm
theorem OKk.okt {t : Tk} (h : OKk t) : OKT t := ⟨Nat.le_trans h.text (by decide), h.n0, h.n1⟩
def tokQ (e : Ex) : List Tk := bif validQ e then toks e else []
def textQ (e : Ex) : Bs × Int := bif validQ e then (joinT (toks e), 0) else ([], 2)
theorem tokQ_len (e : Ex) : (tokQ e).length ≤ (toks e).length := by rw [tokQ]; cases validQ e <;> simp
end Go.Proofs.YtcgdlhkiecommaaGreatDoor
/- Names, as the reference gathers them. -/

namespace Go.Proofs.YtcgdlhkiecommaaGreatDoor
open Go
theorem bnot_t {b : Bool} (h : (!b) = true) : b = false := by cases b <;> simp_all
theorem bnot_f {b : Bool} (h : (!b) = false) : b = true := by cases b <;> simp_all
theorem encBs_rn (l : List Bs) (ρ : Nat → Nat) : (l.map encBs).map (List.map (AVal.rn1 ρ)) = l.map encBs := by
  rw [List.map_map]; exact List.map_congr_left (fun x _ => rfl)
def isNm (e : Ex) : Bool := (e.op == 4) || ((e.op == 5) && isNameL e.name)
def addN (out : List Bs) (e : Ex) : List Bs := bif isNm e && !(out.contains e.name) then out ++ [e.name] else out
mutual
def namesQ : List Bs → Ex → List Bs
  | out, .mk o s n b v k t l c => namesQs (addN out (.mk o s n b v k t l c)) k
def namesQs : List Bs → List Ex → List Bs
  | out, [] => out
  | out, e :: r => namesQs (namesQ out e) r
end
theorem namesQs_fold (l : List Ex) : ∀ out, namesQs out l = l.foldl namesQ out := by
  induction l with
  | nil => intro out; rfl
  | cons a l ih => intro out; rw [namesQs, ih]; rfl
theorem namesQ_eq (out : List Bs) (e : Ex) : namesQ out e = e.kids.foldl namesQ (addN out e) := by rw [← namesQs_fold]; cases e; rfl
def outAt (out : List Bs) (e : Ex) (i : Nat) : List Bs := (e.kids.take i).foldl namesQ (addN out e)
theorem outAt_zero (out : List Bs) (e : Ex) : outAt out e 0 = addN out e := rfl
theorem outAt_end (out : List Bs) (e : Ex) : outAt out e e.kids.length = namesQ out e := by rw [outAt, List.take_length, namesQ_eq]
theorem outAt_step {out : List Bs} {e : Ex} {i : Nat} (hi : i < e.kids.length) : outAt out e (i + 1) = namesQ (outAt out e i) (e.kids.getD i default) := by
  rw [outAt, take_getD default _ _ hi, List.foldl_append]; rfl
theorem addN_len (out : List Bs) (e : Ex) : out.length ≤ (addN out e).length := by
  rw [addN]; cases (isNm e && !(out.contains e.name)) <;> simp
theorem namesQ_len (e : Ex) : ∀ out, out.length ≤ (namesQ out e).length := by
  induction e using Ex.ind with
  | h e ih =>
    intro out
    have key : ∀ (l : List Ex), (∀ k ∈ l, ∀ out : List Bs, out.length ≤ (namesQ out k).length) → ∀ out : List Bs, out.length ≤ (l.foldl namesQ out).length := by
      intro l
      induction l with
      | nil => intro _ out; exact Nat.le_refl _
      | cons a l ihl => intro h out; exact Nat.le_trans (h a (by simp) out) (ihl (fun k hk => h k (by simp [hk])) _)
    rw [namesQ_eq]
    exact Nat.le_trans (addN_len out e) (key _ ih _)
theorem outAt_le {out : List Bs} {e : Ex} {i : Nat} (hi : i ≤ e.kids.length) : (outAt out e i).length ≤ (namesQ out e).length := by
  have key : ∀ j, (outAt out e i).length ≤ (outAt out e (i + j)).length ∨ e.kids.length < i + j := by
    intro j
    induction j with
    | zero => exact .inl (Nat.le_refl _)
    | succ j ih =>
      rcases ih with ih | ih
      · rcases Nat.lt_or_ge (i + j) e.kids.length with h | h
        · left
          rw [← Nat.add_assoc, outAt_step h]
          exact Nat.le_trans ih (namesQ_len _ _)
        · right; omega
      · right; omega
  rcases key (e.kids.length - i) with h | h
  · rw [show i + (e.kids.length - i) = e.kids.length by omega, outAt_end] at h; exact h
  · omega
theorem cont_take {out : List Bs} {i : Nat} {s : Bs} (hi : i < out.length) : ((out.take (i + 1)).contains s) = ((out.take i).contains s || (out.getD i default == s)) := by
  rw [take_getD default _ _ hi, List.contains_eq_any_beq, List.contains_eq_any_beq, List.any_append]
  simp only [List.any_cons, List.any_nil, Bool.or_false]
  rw [BEq.comm (a := s)]
theorem addN_no {out : List Bs} {e : Ex} (h : isNm e = false) : addN out e = out := by rw [addN, h]; rfl
theorem addN_in {out : List Bs} {e : Ex} (h : isNm e = true) (h2 : out.contains e.name = true) : addN out e = out := by rw [addN, h, h2]; rfl
theorem addN_new {out : List Bs} {e : Ex} (h : isNm e = true) (h2 : out.contains e.name = false) : addN out e = out ++ [e.name] := by rw [addN, h, h2]; rfl
def NMD (P : Program) (f : FuncId) (out : List Bs) (e : Ex) : Prop := ∀ v, AC P f [.slice 0 v 0 out.length, .agg (cellsE e)] [(0, v, .row 1 (out.map encBs))] (fun r σ' => ∃ ver, r = .ret (.slice 0 ver 0 (namesQ out e).length) ∧ σ' = [(0, ver, .row 1 ((namesQ out e).map encBs))])
theorem nmd_at {P : Program} {f : FuncId} {out : List Bs} {e : Ex} {v : Nat} (h : NMD P f out e) {σ : Store} (h0 : σ.get 0 = some (v, .row 1 (out.map encBs))) (hb : σ.below 1000 = true) :
    AC P f [.slice 0 v 0 out.length, .agg (cellsE e)] σ (fun r σ' => ∃ ver, r = .ret (.slice 0 ver 0 (namesQ out e).length) ∧ σ' = σ.put 0 ver (.row 1 ((namesQ out e).map encBs))) := by
  have := ac_at (σ := σ) [0] (by decide) (h v) ⟨by rw [show (AObj.row 1 (out.map encBs)).rn (tab [0]) = .row 1 (out.map encBs) by simp only [AObj.rn, encBs_rn]]; exact h0, trivial⟩ (by simp [Store.free, Store.get]) hb (by
    rintro r σ' ⟨ver, _, e2⟩ j hj
    rw [e2] at hj
    revert hj
    simp only [Store.get]
    cases Nat.beq 0 j <;> simp)
  refine ac_mono this ?_
  rintro r σ' ⟨r0, σ0, ⟨ver, rfl, rfl⟩, rfl, rfl⟩
  refine ⟨ver, rfl, ?_⟩
  simp only [Store.putAll, show (AObj.row 1 ((namesQ out e).map encBs)).rn (tab [0]) = .row 1 ((namesQ out e).map encBs) by simp only [AObj.rn, encBs_rn]]
  rfl
theorem fold_inBr (t : List Tk) (out : List Bs) : (inBr t).foldl addName out = t.foldl addName out := by
  rw [inBr_eq, List.foldl_append, List.foldl_append]; rfl
theorem fold_tkS (s : Bs) (out : List Bs) : addName out (tkS s) = out := by
  rw [addName, tkS]; cases isWordL s <;> rfl
theorem fold_kidTk (k : Ex) (n : Int) (out : List Bs) : (kidTk k n).foldl addName out = (toks k).foldl addName out := by
  rw [kidTk]; split
  · rw [fold_inBr]
  · rfl
theorem fold_sepT (s : Bs) (l : List Ex) (out : List Bs) : (sepT s (l.map toks)).foldl addName out = l.foldl (fun o k => (toks k).foldl addName o) out := by
  induction l generalizing out with
  | nil => rfl
  | cons a r ih =>
    cases r with
    | nil => rfl
    | cons b r =>
      show ((toks a) ++ (tkS s :: sepT s ((b :: r).map toks))).foldl addName out = _
      rw [List.foldl_append, List.foldl_cons, fold_tkS, ih]; rfl
theorem names_toks (e : Ex) : formP e = true → ∀ out, namesQ out e = (toks e).foldl addName out := by
  induction e using Ex.ind with
  | h e ih =>
    intro hf out
    have hk : ∀ i, i < e.kids.length → ∀ o, namesQ o (e.kids.getD i default) = (toks (e.kids.getD i default)).foldl addName o := fun i hi => ih _ (getD_mem hi) (form_kid hf _ (getD_mem hi))
    rw [namesQ_eq]
    rcases kind_of hf with ⟨h1, hk0⟩ | ⟨h1, hk0⟩ | ⟨h1, hk0⟩ | ⟨h1, hn, hk0⟩ | ⟨h1, hn, hk0, hs⟩ | ⟨h1, hn, hk0, hs⟩
    · rw [hk0]
      rcases h1 with h1 | h1 | h1 | h1
      · rw [(toks_int (by rw [h1]; rfl)).1, addN_no (by rw [isNm, h1]; rfl)]; rfl
      · rw [(toks_bit (by rw [h1]; rfl) (by rw [h1]; rfl)).1, addN_no (by rw [isNm, h1]; rfl)]; rfl
      · rw [(toks_vec (by rw [h1]; rfl) (by rw [h1]; rfl) (by rw [h1]; rfl)).1, addN_no (by rw [isNm, h1]; rfl)]; rfl
      · rw [(toks_name (by rw [h1]; rfl) (by rw [h1]; rfl) (by rw [h1]; rfl) (by rw [h1]; rfl)).1]
        simp only [List.foldl_nil, List.foldl_cons]
        rw [addN, addName, isNm, h1]
        show _ = if (true && !(out.contains e.name)) = true then _ else _
        cases out.contains e.name <;> rfl
    · obtain ⟨o1, o2, o3, o4, o6⟩ := ops6 h1
      rw [(toks_index o1 o2 o3 o4 o6 hk0).1, addN_no (by rw [isNm, h1]; rfl), List.foldl_append, fold_kidTk, fold_inBr, ← hk 0 (by omega), ← hk 1 (by omega)]
      match hkk : e.kids, hk0 with
      | [a, b], _ => rfl
    · obtain ⟨o1, o2, o3, o4, o6, o7⟩ := ops7 h1
      rw [(toks_slice o1 o2 o3 o4 o6 o7 hk0).1, addN_no (by rw [isNm, h1]; rfl), List.foldl_append, fold_kidTk, fold_inBr, fold_sepT, ← hk 0 (by omega)]
      match hkk : e.kids, hk0 with
      | [a, b, c], _ =>
        have h1 := hk 1 (by rw [hkk]; simp)
        have h2 := hk 2 (by rw [hkk]; simp)
        rw [hkk] at h1 h2
        simp only [List.foldl_cons, List.foldl_nil, List.drop_succ_cons, List.drop_zero]
        rw [show ([a, b, c] : List Ex).getD 0 default = a from rfl]
        rw [show ([a, b, c] : List Ex).getD 1 default = b from rfl] at h1
        rw [show ([a, b, c] : List Ex).getD 2 default = c from rfl] at h2
        rw [h1, h2]
    · obtain ⟨o1, o2, o3, o4, o6, o7⟩ := ops5 h1
      rw [(toks_call o1 o2 o3 o4 o6 o7 (by rw [binds_call h1 hn]; rfl)).1, List.foldl_cons, fold_inBr, fold_sepT]
      have e1 : addN out e = addName out (tkN e.name) := by
        rw [addN, addName, isNm, h1, hn]
        show _ = if (true && !(out.contains e.name)) = true then _ else _
        cases out.contains e.name <;> rfl
      rw [e1]
      have key : ∀ (l : List Ex), (∀ k ∈ l, ∀ o, namesQ o k = (toks k).foldl addName o) → ∀ o, l.foldl namesQ o = l.foldl (fun o k => (toks k).foldl addName o) o := by
        intro l
        induction l with
        | nil => intro _ o; rfl
        | cons a l ihl => intro h o; rw [List.foldl_cons, List.foldl_cons, h a (by simp), ihl (fun k hk => h k (by simp [hk]))]
      exact key _ (fun k hk => ih k hk (form_kid hf k hk)) _
    · obtain ⟨o1, o2, o3, o4, o6, o7⟩ := ops5 h1
      have hb := binds_unary h1 hn hk0
      rw [(toks_one o1 o2 o3 o4 o6 o7 (by rw [hb]; rfl) (by rw [hb]; rfl) hk0).1, List.foldl_cons, fold_tkS, fold_kidTk, addN_no (by rw [isNm, h1, hn]; rfl), ← hk 0 (by omega)]
      match hkk : e.kids, hk0 with
      | [a], _ => rfl
    · obtain ⟨o1, o2, o3, o4, o6, o7⟩ := ops5 h1
      have hb := binds_binary h1 hn hk0
      have hr := str_range e.name
      rw [(toks_two o1 o2 o3 o4 o6 o7 (by rw [hb]; simp; omega) (by rw [hb]; simp; omega) hk0).1, addN_no (by rw [isNm, h1, hn]; rfl), List.foldl_append, List.foldl_cons, fold_tkS, fold_kidTk, fold_kidTk, ← hk 0 (by omega), ← hk 1 (by omega)]
      match hkk : e.kids, hk0 with
      | [a, b], _ => rfl
end Go.Proofs.YtcgdlhkiecommaaGreatDoor
/- What few parts are, for what is written: tokens, depth, names; the reference's answers are the program's. -/


namespace Go.Proofs.YtcgdlhkiecommaaGreatDoor
open Go
def sumL : List Nat → Nat
  | [] => 0
  | a :: r => a + sumL r
theorem inBr_len (t : List Tk) : (inBr t).length = t.length + 2 := by simp [inBr]
theorem kidT_len (ks : List Ex) (ts : List (List Tk)) (i : Nat) (n : Int) : (kidT ks ts i n).length ≤ (ts.getD i []).length + 2 := by
  rw [kidT]; split
  · rw [inBr_len]; omega
  · omega
theorem sepT_len (s : Bs) (ts : List (List Tk)) : (sepT s ts).length ≤ sumL (ts.map fun t => t.length + 1) := by
  induction ts with
  | nil => simp [sepT]
  | cons a r ih =>
    cases r with
    | nil => simp [sepT, sumL]
    | cons b r => simp only [sepT, List.length_append, List.length_cons, List.map_cons, sumL] at ih ⊢; omega
theorem toksOf_len (e : Ex) (ts : List (List Tk)) : (toksOf e ts).length + 1 ≤ sumL (ts.map fun t => t.length + 1) + 6 := by
  have h0 : (ts.getD 0 []).length ≤ sumL (ts.map fun t => t.length + 1) ∧ (ts.getD 0 []).length + (ts.getD 1 []).length ≤ sumL (ts.map fun t => t.length + 1) ∧ (ts.getD 0 []).length + 1 + sumL ((ts.drop 1).map fun t => t.length + 1) ≤ sumL (ts.map fun t => t.length + 1) + 1 := by
    match ts with
    | [] => simp [sumL]
    | [a] => simp [sumL]
    | a :: b :: r => simp [sumL]; omega
  have k0 := fun n => kidT_len e.kids ts 0 n
  have k1 := fun n => kidT_len e.kids ts 1 n
  have s1 := sepT_len sDownto (ts.drop 1)
  have s2 := sepT_len sComma ts
  have h2 : (ts.getD 0 []).length + 2 + 1 + ((ts.getD 1 []).length + 2) + 1 ≤ sumL (ts.map fun t => t.length + 1) + 6 := by omega
  unfold toksOf
  cases e.op == 1 <;> cases e.op == 2 <;> cases e.op == 3 <;> cases e.op == 4 <;> cases e.op == 6 <;> cases e.op == 7 <;> cases bindsP e == 5 <;> cases bindsP e == 4 <;>
    simp only [cond_true, cond_false, List.length_append, List.length_cons, List.length_nil, inBr_len] <;>
    first | omega | (have := k0 5; omega) | (have := k0 4; omega) | (have := k0 (leftP (bindsP e)); have := k1 (bindsP e + 1); omega)
theorem toks_len (e : Ex) : (toks e).length + 1 ≤ 6 * nodes e := by
  induction e using Ex.ind with
  | h e ih =>
    have hs : ∀ l : List Ex, (∀ k ∈ l, (toks k).length + 1 ≤ 6 * nodes k) → sumL ((l.map toks).map fun t => t.length + 1) ≤ 6 * nodesL l := by
      intro l
      induction l with
      | nil => intro _; exact Nat.le_refl _
      | cons a l ih => intro h; have := h a (by simp); have := ih fun k hk => h k (by simp [hk]); simp only [List.map_cons, sumL, nodesL]; omega
    rw [toks_eq, nodes_eq]
    have := toksOf_len e (e.kids.map toks)
    have := hs e.kids ih
    omega
theorem getD_maxL (ds : List Nat) (i : Nat) : ds.getD i 0 ≤ maxL ds := by
  rcases Nat.lt_or_ge i ds.length with h | h
  · exact maxL_le h
  · rw [List.getD_eq_getElem?_getD, List.getElem?_eq_none h]; exact Nat.zero_le _
theorem maxL_drop (ds : List Nat) : maxL (ds.drop 1) ≤ maxL ds := by cases ds <;> simp [maxL]; omega
theorem depOf_le (e : Ex) (ds : List Nat) : depOf e ds ≤ maxL ds + 2 := by
  have k := fun i n => (show kidD e.kids ds i n ≤ maxL ds + 1 by rw [kidD]; have := getD_maxL ds i; split <;> omega)
  have g := getD_maxL ds 1
  have m := maxL_drop ds
  unfold depOf
  cases e.op == 1 <;> cases e.op == 2 <;> cases e.op == 3 <;> cases e.op == 4 <;> cases e.op == 6 <;> cases e.op == 7 <;> cases bindsP e == 5 <;> cases bindsP e == 4 <;>
    simp only [cond_true, cond_false] <;>
    first | omega | (have := k 0 5; omega) | (have := k 0 4; omega) | (have := k 0 (leftP (bindsP e)); have := k 1 (bindsP e + 1); omega)
theorem dep_le (e : Ex) : dep e ≤ 2 * height e + 2 := by
  induction e using Ex.ind with
  | h e ih =>
    have hs : ∀ l : List Ex, (∀ k ∈ l, dep k ≤ 2 * height k + 2) → maxL (l.map dep) ≤ 2 * heights l := by
      intro l
      induction l with
      | nil => intro _; exact Nat.le_refl _
      | cons a l ih => intro h; have := h a (by simp); have := ih fun k hk => h k (by simp [hk]); simp only [List.map_cons, maxL, heights]; omega
    have h1 := hs e.kids ih
    have h2 := depOf_le e (e.kids.map dep)
    rw [← dep_eq] at h2
    rw [height_eq]; omega
theorem depQ_le (e : Ex) : depQ e ≤ 2 * height e := by
  induction e using Ex.ind with
  | h e ih =>
    rw [depQ_eq, height_eq]
    have : ∀ n, n ≤ e.kids.length → mostR e (e.kids.map depQ) n ≤ 2 * heights e.kids := by
      intro n
      induction n with
      | zero => intro _; exact Nat.zero_le _
      | succ n ihn =>
        intro hn
        have h1 := ihn (by omega)
        have hm : e.kids.getD n default ∈ e.kids := getD_mem (by omega)
        have h2 := ih _ hm
        have h3 := heights_mem hm
        have h4 : (e.kids.map depQ).getD n 0 = depQ (e.kids.getD n default) := by
          rw [List.getD_eq_getElem?_getD, List.getD_eq_getElem?_getD, List.getElem?_map, List.getElem?_eq_getElem (show n < e.kids.length by omega)]; rfl
        rw [mostR, h4, addR]
        split <;> split <;> omega
    exact this _ (Nat.le_refl _)
theorem toksOf_all {p : Tk → Prop} {e : Ex} {ts : List (List Tk)} (hO : p tkO) (hC : p tkC) (hn : ∀ o, p ⟨o, e.name, 0, 0, 0⟩) (hi : p ⟨3, [], e.n, 0, 0⟩) (hb : ∀ o, p ⟨o, bitsT e.bits, 0, 0, 0⟩) (hs : ∀ s : Bs, s.length ≤ 6 → p (tkS s)) (h : ∀ t ∈ ts, ∀ x ∈ t, p x) : ∀ x ∈ toksOf e ts, p x := by
  have hg : ∀ i, ∀ x ∈ ts.getD i [], p x := by
    intro i x hx
    rcases Nat.lt_or_ge i ts.length with h1 | h1
    · exact h _ (by rw [List.getD_eq_getElem?_getD, List.getElem?_eq_getElem h1]; exact List.getElem_mem h1) x hx
    · rw [List.getD_eq_getElem?_getD, List.getElem?_eq_none h1] at hx; cases hx
  have hk : ∀ i n, ∀ x ∈ kidT e.kids ts i n, p x := by
    intro i n x hx
    rw [kidT] at hx
    split at hx
    · exact inBr_all hO hC (hg i) x hx
    · exact hg i x hx
  have hS : p (tkS e.name) := by rw [tkS]; exact hn _
  have one : ∀ {t : Tk}, p t → ∀ x ∈ [t], p x := fun h x hx => by rw [List.mem_singleton.1 hx]; exact h
  have app : ∀ {a b : List Tk}, (∀ x ∈ a, p x) → (∀ x ∈ b, p x) → ∀ x ∈ a ++ b, p x := fun h1 h2 x hx => (List.mem_append.1 hx).elim (h1 x) (h2 x)
  have con : ∀ {t : Tk} {b : List Tk}, p t → (∀ x ∈ b, p x) → ∀ x ∈ t :: b, p x := fun h1 h2 x hx => (List.mem_cons.1 hx).elim (fun e => e ▸ h1) (h2 x)
  unfold toksOf
  cases e.op == 1
  case true => exact one hi
  cases e.op == 2
  case true => exact one (hb _)
  cases e.op == 3
  case true => exact one (hb _)
  cases e.op == 4
  case true => exact one (hn _)
  cases e.op == 6
  case true => exact app (hk _ _) (inBr_all hO hC (hg 1))
  cases e.op == 7
  case true => exact app (hk _ _) (inBr_all hO hC (sepT_all (hs _ (by decide)) fun t ht => h t (List.mem_of_mem_drop ht)))
  cases bindsP e == 5
  case true => exact con (hn _) (inBr_all hO hC (sepT_all (hs _ (by decide)) h))
  cases bindsP e == 4
  case true => exact con hS (hk _ _)
  exact app (hk _ _) (con hS (hk _ _))
theorem nuE_facts {e : Ex} (h : nuE e = true) : (-9223372036854775808 ≤ e.n ∧ e.n ≤ 9223372036854775807) ∧ ∀ k ∈ e.kids, nuE k = true := by
  have hn : ∀ l : List Ex, nuEs l = true → ∀ k ∈ l, nuE k = true := by
    intro l
    induction l with
    | nil => intro _ k hk; cases hk
    | cons a l ih =>
      intro h k hk
      rw [nuEs, Bool.and_eq_true] at h
      cases hk with
      | head => exact h.1
      | tail _ hk => exact ih h.2 k hk
  cases e with
  | mk o s n b v k t l c =>
    rw [nuE] at h
    simp only [Bool.and_eq_true] at h
    have h1 := h.1.1.2.1
    rw [w64, Bool.and_eq_true, decide_eq_true_eq, decide_eq_true_eq] at h1
    exact ⟨h1, hn k h.2⟩
theorem okt0 {o : Int} {s : Bs} (h : s.length ≤ 1000000) : OKT ⟨o, s, 0, 0, 0⟩ := ⟨Nat.le_trans h (by decide), (by decide : (-9223372036854775808 : Int) ≤ 0), (by decide : (0 : Int) ≤ 9223372036854775807)⟩
theorem toks_small (e : Ex) : smE e = true → nuE e = true → OKTs (toks e) := by
  induction e using Ex.ind with
  | h e ih =>
    intro hm hn
    obtain ⟨m1, m2, m3⟩ := smE_facts hm
    obtain ⟨n1, n2⟩ := nuE_facts hn
    rw [toks_eq]
    refine toksOf_all (p := OKT) ⟨by decide, by decide, by decide⟩ ⟨by decide, by decide, by decide⟩ (fun o => okt0 (by omega)) ⟨(by decide : (0 : Nat) ≤ 140737488355328), n1.1, n1.2⟩ (fun o => okt0 (by rw [bitsT_len]; omega)) (fun s hs => by rw [tkS]; exact okt0 (by omega)) (fun t ht x hx => ?_)
    obtain ⟨k, hk, rfl⟩ := List.mem_map.1 ht
    exact ih k hk (m3 k hk) (n2 k hk) x hx
theorem namesQ_le (e : Ex) : ∀ out, (namesQ out e).length ≤ out.length + nodes e := by
  induction e using Ex.ind with
  | h e ih =>
    intro out
    have key : ∀ (l : List Ex), (∀ k ∈ l, ∀ out : List Bs, (namesQ out k).length ≤ out.length + nodes k) → ∀ out : List Bs, (l.foldl namesQ out).length ≤ out.length + nodesL l := by
      intro l
      induction l with
      | nil => intro _ out; exact Nat.le_refl _
      | cons a l ihl => intro h out; have h1 := h a (by simp) out; have h2 := ihl (fun k hk => h k (by simp [hk])) (namesQ out a); rw [List.foldl_cons, nodesL]; omega
    rw [namesQ_eq, nodes_eq]
    have h1 := key _ ih (addN out e)
    have h2 : (addN out e).length ≤ out.length + 1 := by rw [addN]; cases (isNm e && !(out.contains e.name)) <;> simp
    omega
theorem namesE_len (e : Ex) : (namesE e).1.length ≤ (toks e).length := by
  rw [namesE]; cases validP e
  · exact Nat.zero_le _
  · exact namesT_len _
def namesRQ (e : Ex) : List Bs × Int := bif validQ e then (namesQ [] e, 0) else ([], 2)
structure WF (P : Program) (e : Ex) : Prop where
  z : szE e = true
  m : smE e = true
  nd : nodes e ≤ 3000
  ht : height e ≤ 300
  tl : (toks e).length ≤ 18000
  dp : dep e ≤ 602
  dq : depQ e ≤ 600
  w : OKW P e
  tk : OKTs (toks e)
  v : validQ e = validP e
  tx : textQ e = textE e
  nm : namesRQ e = namesE e
  nl : (namesQ [] e).length ≤ 3000
theorem wf_of {P : Program} {e : Ex} (hb : BT P) (h : fewP [e] 3000 = true) (hn : nuE e = true) : WF P e := by
  obtain ⟨h1, h2, h3⟩ := few_one h
  have hz := szE_few e h2 hn h1
  have t1 := toks_len e
  have d1 := dep_le e
  have d2 := depQ_le e
  have n1 := namesQ_le e []
  have hv := validQ_P e (by omega)
  refine ⟨hz, h2, h1, h3, by omega, by omega, by omega, ⟨hz, .inr hb, by omega, by omega⟩, toks_small e h2 hn, hv, ?_, ?_, by simpa using Nat.le_trans n1 (by simpa using h1)⟩
  · rw [textQ, textE, hv]
    cases hvp : validP e with
    | false => rfl
    | true =>
      have hf := validQ_form (hv.trans hvp)
      exact (textP_T (fun t ht => (toks_ok e hf hz h2 t ht).poss) (by omega)).symm
  · rw [namesRQ, namesE, hv]
    cases hvp : validP e with
    | false => rfl
    | true =>
      have hf := validQ_form (hv.trans hvp)
      show (namesQ [] e, (0 : Int)) = (namesT (toks e), 0)
      rw [names_toks e hf []]; rfl
end Go.Proofs.YtcgdlhkiecommaaGreatDoor
/- One byte is sought in a string of any length. -/


namespace Go.Proofs.YtcgdlhkiecommaaGreatDoor
open Go Go.RowKit
theorem q_lindexByte (s : Bs) (c : UInt8) : ACp Tryz.prog 201 [.v (.string (str s)), .v (.int .u8 (c.toNat : Int))] (.v (.int .i64 (Lib.indexByte s c))) :=
  acp_below (vs := [.string (str s), .int .u8 (c.toNat : Int)]) rfl fun ok w hg => (shelf_stringslite_IndexByte (str s) c.toNat w).mono fun e w' ⟨h1, h2⟩ => by
    subst h2
    refine ⟨?_, Below.refl _ _⟩
    rw [h1]
    have e1 : ((c.toNat : Int)).toNat.toUInt8 = c := by simp
    rw [e1]; rfl
theorem index_self {s : Bs} {c : UInt8} (h : ((([c] : Bs).length : Int) == 0 || ([c] == s)) = true) : (0 : Int) = Lib.indexByte s c := by
  have h1 : [c] = s := by simpa using h
  rw [← h1, indexByte_eq]; simp
theorem contains_index (s : Bs) (c : UInt8) : decide (Lib.indexByte s c ≥ 0) = Lib.contains s [c] := by
  rw [contains_one, indexByte_eq]
  cases s.contains c <;> simp
end Go.Proofs.YtcgdlhkiecommaaGreatDoor
/- Sameness, as the reference asks it. -/

namespace Go.Proofs.YtcgdlhkiecommaaGreatDoor
open Go
end Go.Proofs.YtcgdlhkiecommaaGreatDoor
