/- Texts, targets, names. -/
import Derived.Test.YtcgdlhkiecommaaGreatDoorXTop
set_option linter.all false
namespace Go.Proofs.YtcgdlhkiecommaaGreatDoor
open Go
def textE (e : Ex) : Bs × Int := bif validP e then textP (toks e) else ([], 2)
def textR (r : Tr) : Bs × Int := bif validR r then textP (toksR r) else ([], 2)
def namesE (e : Ex) : List Bs × Int := bif validP e then (namesT (toks e), 0) else ([], 2)
theorem targ_kid {c : Ex} {n : Nat} (hn : shapesP c n = true) (h : (c.op == 6 || c.op == 7) = true) : 0 < c.kids.length ∧ (∃ m, shapesP (c.kids.getD 0 default) m = true) ∧ isTargP (c.kids.getD 0 default) = isTargP c := by
  rw [shapesP_eq] at hn
  simp only [Bool.and_eq_true, Bool.not_eq_true'] at hn
  have hk : 0 < c.kids.length := by
    rcases Bool.or_eq_true_iff.1 h with h | h <;> rw [beq_iff_eq] at h
    · have := shape_index hn.1.2 (by rw [h]; rfl) (by rw [h]; rfl) (by rw [h]; rfl) (by rw [h]; rfl) (by rw [h]; rfl); omega
    · have := shape_slice hn.1.2 (by rw [h]; rfl) (by rw [h]; rfl) (by rw [h]; rfl) (by rw [h]; rfl) (by rw [h]; rfl) (by rw [h]; rfl); omega
  refine ⟨hk, ⟨n + 1, ?_⟩, ?_⟩
  · have := List.any_eq_false.1 hn.2 _ (getD_mem hk)
    simpa using this
  · rw [isTargP_eq c, h, cond_true, isTargH_eq hk]
theorem targ_end {c : Ex} (h : (c.op == 6 || c.op == 7) = false) : isTargP c = targE c := by rw [isTargP_eq, h]; rfl
/-! ### Types that can be written -/
mutual
def shR : Tr → Prop
  | .mk s l e i c => (∀ x ∈ l, ∃ n, shapesP x n = true) ∧ shRs e
def shRs : List Tr → Prop
  | [] => True
  | r :: t => shR r ∧ shRs t
end
theorem shRs_mem {l : List Tr} (h : shRs l) : ∀ r ∈ l, shR r := by
  induction l with
  | nil => intro r hr; cases hr
  | cons a l ih =>
    intro r hr
    cases hr with
    | head => exact h.1
    | tail _ hr => exact ih h.2 r hr
theorem shR_facts {r : Tr} (h : shR r) : (∀ x ∈ r.len, ∃ n, shapesP x n = true) ∧ ∀ u ∈ r.elem, shR u := by
  cases r
  exact ⟨h.1, shRs_mem h.2⟩
theorem shR_of {r : Tr} (h1 : ∀ x ∈ r.len, ∃ n, shapesP x n = true) (h2 : ∀ u ∈ r.elem, shR u) : shR r := by
  have hl : ∀ l : List Tr, (∀ u ∈ l, shR u) → shRs l := by
    intro l
    induction l with
    | nil => intro _; trivial
    | cons a l ih => exact fun h => ⟨h a (by simp), ih fun u hu => h u (by simp [hu])⟩
  cases r
  exact ⟨h1, hl _ h2⟩
theorem one_mem {α : Type} [Inhabited α] {l : List α} (h : l.length = 1) {x : α} (hx : x ∈ l) : x = l.getD 0 default := by
  match l, h with
  | [a], _ => simpa using hx
theorem valid_sh {e : Ex} (h : validP e = true) : ∃ n, shapesP e n = true := by
  rw [validP, Bool.and_eq_true] at h; exact ⟨0, h.1⟩
theorem validR_sh (r : Tr) : validR r = true → shR r := by
  induction r using Tr.ind with
  | h r ih =>
    intro h
    rw [validR_eq] at h
    cases h1 : (r.name == sVec) with
    | true =>
      rw [h1, cond_true] at h
      simp only [Bool.and_eq_true, beq_iff_eq] at h
      obtain ⟨⟨⟨h2, h3⟩, h4⟩, _⟩ := h
      exact shR_of (fun x hx => by rw [one_mem (by omega) hx]; exact valid_sh h4) (fun u hu => by
        have := List.length_pos_of_mem hu; omega)
    | false =>
      cases h2 : (r.name == sArray) with
      | true =>
        rw [h1, h2, cond_false, cond_true] at h
        simp only [Bool.and_eq_true, beq_iff_eq] at h
        obtain ⟨⟨⟨⟨⟨h2, h3⟩, h4⟩, _⟩, h5⟩, _⟩ := h
        rw [validRs_eq (by omega)] at h5
        exact shR_of (fun x hx => by rw [one_mem (by omega) hx]; exact valid_sh h4) (fun u hu => by have e := one_mem (by omega) hu; rw [e]; exact ih _ (e ▸ hu) h5)
      | false =>
        rw [h1, h2, cond_false, cond_false] at h
        simp only [Bool.and_eq_true, beq_iff_eq] at h
        obtain ⟨⟨_, h3⟩, h4⟩ := h
        exact shR_of (fun x hx => by have := List.length_pos_of_mem hx; omega) (fun u hu => by have := List.length_pos_of_mem hu; omega)
mutual
def OKR (P : Program) : Tr → Prop
  | .mk s l e i c => (s.length ≤ 1000000000 ∧ l.length ≤ 1000000000 ∧ e.length ≤ 1000000000 ∧ (∀ x ∈ l, OKW P x) ∧ (toksR (.mk s l e i c)).length ≤ 1000000000 ∧ depR (.mk s l e i c) ≤ 1000000000) ∧ OKRs P e
def OKRs (P : Program) : List Tr → Prop
  | [] => True
  | r :: t => OKR P r ∧ OKRs P t
end
theorem OKRs_mem {P : Program} {l : List Tr} (h : OKRs P l) : ∀ r ∈ l, OKR P r := by
  induction l with
  | nil => intro r hr; cases hr
  | cons a l ih =>
    intro r hr
    cases hr with
    | head => exact h.1
    | tail _ hr => exact ih h.2 r hr
theorem OKR_facts {P : Program} {r : Tr} (h : OKR P r) : r.name.length ≤ 1000000000 ∧ r.len.length ≤ 1000000000 ∧ r.elem.length ≤ 1000000000 ∧ (∀ x ∈ r.len, OKW P x) ∧ (toksR r).length ≤ 1000000000 ∧ depR r ≤ 1000000000 ∧ ∀ u ∈ r.elem, OKR P u := by
  cases r
  exact ⟨h.1.1, h.1.2.1, h.1.2.2.1, h.1.2.2.2.1, h.1.2.2.2.2.1, h.1.2.2.2.2.2, OKRs_mem h.2⟩
theorem sh_vec {r : Tr} (h : ((((r.len.length : Int) == 1) && ((r.elem.length : Int) == 0)) && validP (r.len.getD 0 default)) = true) : shR r := by
  simp only [Bool.and_eq_true, beq_iff_eq] at h
  obtain ⟨⟨h2, h3⟩, h4⟩ := h
  exact shR_of (fun x hx => by rw [one_mem (by omega) hx]; exact valid_sh h4) (fun u hu => by have := List.length_pos_of_mem hu; omega)
theorem sh_arr {r : Tr} (h : (((((((r.len.length : Int) == 1) && ((r.elem.length : Int) == 1)) && validP (r.len.getD 0 default)) && ((r.elem.getD 0 default).name != sArray))) && validR (r.elem.getD 0 default)) = true) : shR r := by
  simp only [Bool.and_eq_true, beq_iff_eq] at h
  obtain ⟨⟨⟨⟨h2, h3⟩, h4⟩, _⟩, h5⟩ := h
  exact shR_of (fun x hx => by rw [one_mem (by omega) hx]; exact valid_sh h4) (fun u hu => by rw [one_mem (by omega) hu]; exact validR_sh _ h5)
theorem validR_arr {r : Tr} (h1 : (r.name == sVec) = false) (h2 : (r.name == sArray) = true) : validR r = ((((((((r.len.length : Int) == 1) && ((r.elem.length : Int) == 1)) && validP (r.len.getD 0 default)) && ((r.elem.getD 0 default).name != sArray))) && validR (r.elem.getD 0 default)) && okR r) := by
  rw [validR_eq, h1, h2, cond_false, cond_true]
  cases h3 : ((r.elem.length : Int) == 1) with
  | false => simp
  | true => rw [beq_iff_eq] at h3; rw [validRs_eq (by omega)]
/-! ### Names -/
theorem namesT_snoc (l : List Tk) (x : Tk) : namesT (l ++ [x]) = addName (namesT l) x := by simp [namesT]
theorem namesT_len (l : List Tk) : (namesT l).length ≤ l.length := by
  have h : ∀ (l : List Tk) (out : List Bs), (l.foldl addName out).length ≤ out.length + l.length := by
    intro l
    induction l with
    | nil => intro out; simp
    | cons a l ih =>
      intro out
      rw [List.foldl_cons]
      have h1 := ih (addName out a)
      have h2 : (addName out a).length ≤ out.length + 1 := by unfold addName; split <;> simp
      simp only [List.length_cons]
      omega
  simpa [namesT] using h l []
theorem names_add {l : List Tk} {i : Nat} (hi : i < l.length) (h : ((l.getD i default).op == 1 && !((namesT (l.take i)).contains (l.getD i default).text)) = true) : namesT (l.take (i + 1)) = namesT (l.take i) ++ [(l.getD i default).text] := by
  rw [take_getD default l i hi, namesT_snoc, addName, if_pos h]
theorem names_skip {l : List Tk} {i : Nat} (hi : i < l.length) (h : ((l.getD i default).op == 1 && !((namesT (l.take i)).contains (l.getD i default).text)) = false) : namesT (l.take (i + 1)) = namesT (l.take i) := by
  rw [take_getD default l i hi, namesT_snoc, addName, if_neg (by rw [h]; exact Bool.false_ne_true)]
end Go.Proofs.YtcgdlhkiecommaaGreatDoor
