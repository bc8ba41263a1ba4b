/- How many parts there are: bounds for the walks. -/
import Derived.Test.YtcgdlhkiecommaaGreatDoorXShape
import Derived.Test.YtcgdlhkiecommaaGreatDoorXSame
set_option linter.all false
namespace Go.Proofs.YtcgdlhkiecommaaGreatDoor
open Go
abbrev loP : Int := -4503599627370496
theorem partsV_eq (v : Va) (n : Int) : partsV v n = partsVs v.list (n - (1 + (v.bits.length : Int))) := by cases v; rfl
theorem partsE_no {e : Ex} {n : Int} {d : Nat} (h : 300 < d) : partsE e n d = -1 := by cases e; rw [partsE, if_pos h]
theorem partsE_eq {e : Ex} {n : Int} {d : Nat} (h : ¬ 300 < d) : partsE e n d = partsEs e.kids (n - (((((1 + (e.bits.length : Int)) + (e.name.length / 50 : Nat)) + e.val.bits.length) + e.val.list.length) + e.type.names.length + e.type.elem.length)) d := by cases e; rw [partsE, if_neg h]; rfl
theorem partsVs_lt {l : List Va} {n : Int} (h : n < 0) : partsVs l n = n := by cases l; rfl; rw [partsVs, if_pos h]
theorem partsEs_lt {l : List Ex} {n : Int} {d : Nat} (h : n < 0) : partsEs l n d = n := by cases l; rfl; rw [partsEs, if_pos h]
theorem partsVs_step {l : List Va} {i : Nat} {n : Int} (hi : i < l.length) (h : ¬ n < 0) : partsVs (l.drop i) n = partsVs (l.drop (i + 1)) (partsV (l.getD i default) n) := by
  rw [List.drop_eq_getElem_cons hi, partsVs, if_neg h, List.getD_eq_getElem?_getD, List.getElem?_eq_getElem hi]; rfl
theorem partsEs_step {l : List Ex} {i : Nat} {n : Int} {d : Nat} (hi : i < l.length) (h : ¬ n < 0) : partsEs (l.drop i) n d = partsEs (l.drop (i + 1)) (partsE (l.getD i default) n (d + 1)) d := by
  rw [List.drop_eq_getElem_cons hi, partsEs, if_neg h, List.getD_eq_getElem?_getD, List.getElem?_eq_getElem hi]; rfl
theorem partsVs_end {l : List Va} {i : Nat} {n : Int} (hi : l.length ≤ i) : partsVs (l.drop i) n = n := by rw [List.drop_eq_nil_of_le hi]; rfl
theorem partsEs_end {l : List Ex} {i : Nat} {n : Int} {d : Nat} (hi : l.length ≤ i) : partsEs (l.drop i) n d = n := by rw [List.drop_eq_nil_of_le hi]; rfl
theorem partsVs_in {l : List Va} (hl : ∀ k ∈ l, ∀ n : Int, 0 ≤ n → loP ≤ partsV k n ∧ partsV k n ≤ n) : ∀ n : Int, loP ≤ n → loP ≤ partsVs l n ∧ partsVs l n ≤ n := by
  induction l with
  | nil => intro n h; exact ⟨h, Int.le_refl _⟩
  | cons a l ih =>
    intro n h
    rw [partsVs]
    by_cases hn : n < 0
    · rw [if_pos hn]; exact ⟨h, Int.le_refl _⟩
    · rw [if_neg hn]
      obtain ⟨h1, h2⟩ := hl a (by simp) n (by omega)
      obtain ⟨h3, h4⟩ := ih (fun k hk => hl k (by simp [hk])) _ h1
      exact ⟨h3, by omega⟩
theorem partsV_in (v : Va) : szV v = true → ∀ n : Int, 0 ≤ n → loP ≤ partsV v n ∧ partsV v n ≤ n := by
  induction v using Va.ind with
  | h v ih =>
    intro hz n hn
    obtain ⟨z1, z2, z3⟩ := szV_facts hz
    rw [partsV_eq]
    obtain ⟨h3, h4⟩ := partsVs_in (l := v.list) (fun k hk => ih k hk (z3 k hk)) (n - (1 + (v.bits.length : Int))) (by show (-4503599627370496 : Int) ≤ _; omega)
    exact ⟨h3, by omega⟩
theorem partsEs_in {l : List Ex} {d : Nat} (hl : ∀ k ∈ l, ∀ n : Int, 0 ≤ n → loP ≤ partsE k n (d + 1) ∧ partsE k n (d + 1) ≤ n) : ∀ n : Int, loP ≤ n → loP ≤ partsEs l n d ∧ partsEs l n d ≤ n := by
  induction l with
  | nil => intro n h; exact ⟨h, Int.le_refl _⟩
  | cons a l ih =>
    intro n h
    rw [partsEs]
    by_cases hn : n < 0
    · rw [if_pos hn]; exact ⟨h, Int.le_refl _⟩
    · rw [if_neg hn]
      obtain ⟨h1, h2⟩ := hl a (by simp) n (by omega)
      obtain ⟨h3, h4⟩ := ih (fun k hk => hl k (by simp [hk])) _ h1
      exact ⟨h3, by omega⟩
theorem partsE_in (e : Ex) : szX e = true → ∀ (n : Int) (d : Nat), 0 ≤ n → loP ≤ partsE e n d ∧ partsE e n d ≤ n := by
  induction e using Ex.ind with
  | h e ih =>
    intro hz n d hn
    obtain ⟨z1, z2, z3, z4, z5, z6⟩ := szX_facts hz
    obtain ⟨w1, w2, -⟩ := szV_facts z4
    obtain ⟨u0, u1, u2, -⟩ := szT_facts z5
    by_cases hd : 300 < d
    · rw [partsE_no hd]; exact ⟨by decide, by omega⟩
    · rw [partsE_eq hd]
      obtain ⟨h3, h4⟩ := partsEs_in (l := e.kids) (d := d) (fun k hk n hn => ih k hk (z6 k hk) n (d + 1) hn) (n - (((((1 + (e.bits.length : Int)) + (e.name.length / 50 : Nat)) + e.val.bits.length) + e.val.list.length) + e.type.names.length + e.type.elem.length)) (by show (-4503599627370496 : Int) ≤ _; omega)
      exact ⟨h3, by omega⟩
/-! ### Small types and values -/
mutual
def smallT : Ty → Bool
  | .mk _ _ s ns e => !((decide (300 < (s.length : Int)) || decide (40 < (ns.length : Int))) || decide (3 < (e.length : Int))) && (ns.all (fun x => !decide (100 < (x.length : Int))) && smallTs e)
def smallTs : List Ty → Bool
  | [] => true
  | e :: r => !(decide (2 < (e.elem.length : Int)) || !(smallT e)) && smallTs r
end
def smallV (vs : List Va) : Bool := vs.all (fun v => !decide (partsV v 9000 < 0))
def smallP (t : Ty) (vs : List Va) : Bool := smallT t && smallV vs
def smallK (e : Ty) : Bool := !(decide (2 < (e.elem.length : Int)) || !(smallT e))
theorem smallTs_all (l : List Ty) : smallTs l = l.all smallK := by
  induction l with
  | nil => rfl
  | cons a l ih => rw [smallTs, List.all_cons, ih, smallK]
theorem smallT_eq (t : Ty) : smallT t = (!((decide (300 < (t.name.length : Int)) || decide (40 < (t.names.length : Int))) || decide (3 < (t.elem.length : Int))) && (t.names.all (fun x => !decide (100 < (x.length : Int))) && t.elem.all smallK)) := by cases t; rw [smallT, smallTs_all]; rfl
theorem smallP_nil (t : Ty) : smallP t [] = smallT t := by rw [smallP]; simp [smallV]
theorem all_stop {α : Type} [Inhabited α] {p : α → Bool} {l : List α} (i : Nat) (hi : i < l.length) (h : p (l.getD i default) = false) : l.all p = false := by
  rw [List.all_eq_false]
  refine ⟨l.getD i default, getD_mem hi, by rw [h]; simp⟩
theorem all_thru {α : Type} [Inhabited α] {p : α → Bool} {l : List α} (h : ∀ k, k < l.length → p (l.getD k default) = true) : l.all p = true := by
  rw [List.all_eq_true]
  intro x hx
  obtain ⟨k, hk, rfl⟩ := List.mem_iff_getElem.1 hx
  have := h k hk
  rwa [List.getD_eq_getElem?_getD, List.getElem?_eq_getElem hk] at this
theorem small_no1 {t : Ty} {vs : List Va} (h : ((decide (300 < (t.name.length : Int)) || decide (40 < (t.names.length : Int))) || decide (3 < (t.elem.length : Int))) = true) : smallP t vs = false := by
  rw [smallP, smallT_eq, h]; rfl
theorem small_no2 {t : Ty} {vs : List Va} (i : Nat) (hi : i < t.names.length) (h : decide (100 < ((t.names.getD i default).length : Int)) = true) : smallP t vs = false := by
  rw [smallP, smallT_eq, all_stop i hi (by simp only [h]; rfl)]; simp
theorem small_no3 {t : Ty} {vs : List Va} (i : Nat) (hi : i < t.elem.length) (h : (decide (2 < ((t.elem.getD i default).elem.length : Int)) || !(smallT (t.elem.getD i default))) = true) : smallP t vs = false := by
  rw [smallP, smallT_eq, all_stop (p := smallK) i hi (by rw [smallK, h]; rfl)]; simp
theorem small_no4 {t : Ty} {vs : List Va} (i : Nat) (hi : i < vs.length) (h : decide (partsV (vs.getD i default) 9000 < 0) = true) : smallP t vs = false := by
  rw [smallP, smallV, all_stop i hi (by simp only [h]; rfl)]; simp
theorem small_yes {t : Ty} {vs : List Va} (h1 : ((decide (300 < (t.name.length : Int)) || decide (40 < (t.names.length : Int))) || decide (3 < (t.elem.length : Int))) = false)
    (h2 : ∀ i, i < t.names.length → decide (100 < ((t.names.getD i default).length : Int)) = false)
    (h3 : ∀ i, i < t.elem.length → (decide (2 < ((t.elem.getD i default).elem.length : Int)) || !(smallT (t.elem.getD i default))) = false)
    (h4 : ∀ i, i < vs.length → decide (partsV (vs.getD i default) 9000 < 0) = false) : smallP t vs = true := by
  rw [smallP, smallT_eq, smallV, h1, all_thru (p := fun x : Bs => !decide (100 < (x.length : Int))) (fun i hi => by simp only [h2 i hi]; rfl), all_thru (p := smallK) (fun i hi => by rw [smallK, h3 i hi]; rfl), all_thru (p := fun v => !decide (partsV v 9000 < 0)) (fun i hi => by simp only [h4 i hi]; rfl)]
  rfl
/-! ### Few expressions -/
def fewP : List Ex → Int → Bool
  | [], _ => true
  | e :: r, n => if (decide (partsE e n 0 < 0) || !(smallP e.type [e.val])) = true then false else fewP r (partsE e n 0)
theorem fewP_stop {l : List Ex} {i : Nat} {n : Int} (hi : i < l.length) (h : (decide (partsE (l.getD i default) n 0 < 0) || !(smallP (l.getD i default).type [(l.getD i default).val])) = true) : fewP (l.drop i) n = false := by
  rw [List.drop_eq_getElem_cons hi, fewP]
  rw [List.getD_eq_getElem?_getD, List.getElem?_eq_getElem hi, Option.getD_some] at h
  rw [if_pos h]
theorem fewP_step {l : List Ex} {i : Nat} {n : Int} (hi : i < l.length) (h : (decide (partsE (l.getD i default) n 0 < 0) || !(smallP (l.getD i default).type [(l.getD i default).val])) = false) : fewP (l.drop i) n = fewP (l.drop (i + 1)) (partsE (l.getD i default) n 0) := by
  rw [List.drop_eq_getElem_cons hi, fewP]
  rw [List.getD_eq_getElem?_getD, List.getElem?_eq_getElem hi, Option.getD_some] at h ⊢
  rw [if_neg (by rw [h]; decide)]
theorem fewP_end {l : List Ex} {i : Nat} {n : Int} (hi : l.length ≤ i) : fewP (l.drop i) n = true := by rw [List.drop_eq_nil_of_le hi]; rfl
theorem vals1 (a : Va) : [cellsV a] = [a].map encVa := by rw [List.map_cons, encVa_cells]; rfl
theorem few_ge {e : Ex} {n : Int} (h : (decide (partsE e n 0 < 0) || !(smallP e.type [e.val])) = false) : ¬ partsE e n 0 < 0 := by
  intro h2; rw [decide_eq_true h2] at h; cases h
end Go.Proofs.YtcgdlhkiecommaaGreatDoor
