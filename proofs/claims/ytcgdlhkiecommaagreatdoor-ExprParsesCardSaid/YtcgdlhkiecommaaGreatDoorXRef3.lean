import Derived.Test.YtcgdlhkiecommaaGreatDoorXTop
import Derived.KernelRfl



/- Texts, targets, names. -/

set_option linter.all false
namespace Go.Proofs.YtcgdlhkiecommaaGreatDoor
open Go
def textE (e : Ex) : Bs × Int := bif validP e then textP (toks e) else ([], 2)
def textR (r : Tr) : Bs × Int := bif validR r then textP (toksR r) else ([], 2)
def namesE (e : Ex) : List Bs × Int := bif validP e then (namesT (toks e), 0) else ([], 2)
theorem targ_kid {c : Ex} {n : Nat} (hn : shapesP c n = true) (h : (c.op == 6 || c.op == 7) = true) : 0 < c.kids.length ∧ (∃ m, shapesP (c.kids.getD 0 default) m = true) ∧ isTargP (c.kids.getD 0 default) = isTargP c := by
  rw [shapesP_eq] at hn
  simp only [Bool.and_eq_true, Bool.not_eq_true'] at hn
  have hk : 0 < c.kids.length := by
    rcases Bool.or_eq_true_iff.1 h with h | h <;> rw [beq_iff_eq] at h
    · have := shape_index hn.1.2 (by rw [h]; rfl) (by rw [h]; rfl) (by rw [h]; rfl) (by rw [h]; rfl) (by rw [h]; rfl); omega
    · have := shape_slice hn.1.2 (by rw [h]; rfl) (by rw [h]; rfl) (by rw [h]; rfl) (by rw [h]; rfl) (by rw [h]; rfl) (by rw [h]; rfl); omega
  refine ⟨hk, ⟨n + 1, ?_⟩, ?_⟩
  · have := List.any_eq_false.1 hn.2 _ (getD_mem hk)
    simpa using this
  · rw [isTargP_eq c, h, cond_true, isTargH_eq hk]
theorem targ_end {c : Ex} (h : (c.op == 6 || c.op == 7) = false) : isTargP c = targE c := by rw [isTargP_eq, h]; rfl
mutual
def shR : Tr → Prop
  | .mk s l e i c => (∀ x ∈ l, ∃ n, shapesP x n = true) ∧ shRs e
def shRs : List Tr → Prop
  | [] => True
  | r :: t => shR r ∧ shRs t
end
theorem shRs_mem {l : List Tr} (h : shRs l) : ∀ r ∈ l, shR r := by
  induction l with
  | nil => intro r hr; cases hr
  | cons a l ih =>
    intro r hr
    cases hr with
    | head => exact h.1
    | tail _ hr => exact ih h.2 r hr
theorem shR_facts {r : Tr} (h : shR r) : (∀ x ∈ r.len, ∃ n, shapesP x n = true) ∧ ∀ u ∈ r.elem, shR u := by
  cases r
  exact ⟨h.1, shRs_mem h.2⟩
theorem shR_of {r : Tr} (h1 : ∀ x ∈ r.len, ∃ n, shapesP x n = true) (h2 : ∀ u ∈ r.elem, shR u) : shR r := by
  have hl : ∀ l : List Tr, (∀ u ∈ l, shR u) → shRs l := by
    intro l
    induction l with
    | nil => intro _; trivial
    | cons a l ih => exact fun h => ⟨h a (by simp), ih fun u hu => h u (by simp [hu])⟩
  cases r
  exact ⟨h1, hl _ h2⟩
theorem one_mem {α : Type} [Inhabited α] {l : List α} (h : l.length = 1) {x : α} (hx : x ∈ l) : x = l.getD 0 default := by
  match l, h with
  | [a], _ => simpa using hx
theorem valid_sh {e : Ex} (h : validP e = true) : ∃ n, shapesP e n = true := by
  rw [validP, Bool.and_eq_true] at h; exact ⟨0, h.1⟩
theorem validR_sh (r : Tr) : validR r = true → shR r := by
  induction r using Tr.ind with
  | h r ih =>
    intro h
    rw [validR_eq] at h
    cases h1 : (r.name == sVec) with
    | true =>
      rw [h1, cond_true] at h
      simp only [Bool.and_eq_true, beq_iff_eq] at h
      obtain ⟨⟨⟨h2, h3⟩, h4⟩, _⟩ := h
      exact shR_of (fun x hx => by rw [one_mem (by omega) hx]; exact valid_sh h4) (fun u hu => by
        have := List.length_pos_of_mem hu; omega)
    | false =>
      cases h2 : (r.name == sArray) with
      | true =>
        rw [h1, h2, cond_false, cond_true] at h
        simp only [Bool.and_eq_true, beq_iff_eq] at h
        obtain ⟨⟨⟨⟨⟨h2, h3⟩, h4⟩, _⟩, h5⟩, _⟩ := h
        rw [validRs_eq (by omega)] at h5
        exact shR_of (fun x hx => by rw [one_mem (by omega) hx]; exact valid_sh h4) (fun u hu => by have e := one_mem (by omega) hu; rw [e]; exact ih _ (e ▸ hu) h5)
      | false =>
        rw [h1, h2, cond_false, cond_false] at h
        simp only [Bool.and_eq_true, beq_iff_eq] at h
        obtain ⟨⟨_, h3⟩, h4⟩ := h
        exact shR_of (fun x hx => by have := List.length_pos_of_mem hx; omega) (fun u hu => by have := List.length_pos_of_mem hu; omega)
mutual
def OKR (P : Program) : Tr → Prop
  | .mk s l e i c => (s.length ≤ 1000000000 ∧ l.length ≤ 1000000000 ∧ e.length ≤ 1000000000 ∧ (∀ x ∈ l, OKW P x) ∧ (toksR (.mk s l e i c)).length ≤ 1000000000 ∧ depR (.mk s l e i c) ≤ 1000000000) ∧ OKRs P e
def OKRs (P : Program) : List Tr → Prop
  | [] => True
  | r :: t => OKR P r ∧ OKRs P t
end
theorem OKRs_mem {P : Program} {l : List Tr} (h : OKRs P l) : ∀ r ∈ l, OKR P r := by
  induction l with
  | nil => intro r hr; cases hr
  | cons a l ih =>
    intro r hr
    cases hr with
    | head => exact h.1
    | tail _ hr => exact ih h.2 r hr
theorem OKR_facts {P : Program} {r : Tr} (h : OKR P r) : r.name.length ≤ 1000000000 ∧ r.len.length ≤ 1000000000 ∧ r.elem.length ≤ 1000000000 ∧ (∀ x ∈ r.len, OKW P x) ∧ (toksR r).length ≤ 1000000000 ∧ depR r ≤ 1000000000 ∧ ∀ u ∈ r.elem, OKR P u := by
  cases r
  exact ⟨h.1.1, h.1.2.1, h.1.2.2.1, h.1.2.2.2.1, h.1.2.2.2.2.1, h.1.2.2.2.2.2, OKRs_mem h.2⟩
theorem sh_vec {r : Tr} (h : ((((r.len.length : Int) == 1) && ((r.elem.length : Int) == 0)) && validP (r.len.getD 0 default)) = true) : shR r := by
  simp only [Bool.and_eq_true, beq_iff_eq] at h
  obtain ⟨⟨h2, h3⟩, h4⟩ := h
  exact shR_of (fun x hx => by rw [one_mem (by omega) hx]; exact valid_sh h4) (fun u hu => by have := List.length_pos_of_mem hu; omega)
theorem sh_arr {r : Tr} (h : (((((((r.len.length : Int) == 1) && ((r.elem.length : Int) == 1)) && validP (r.len.getD 0 default)) && ((r.elem.getD 0 default).name != sArray))) && validR (r.elem.getD 0 default)) = true) : shR r := by
  simp only [Bool.and_eq_true, beq_iff_eq] at h
  obtain ⟨⟨⟨⟨h2, h3⟩, h4⟩, _⟩, h5⟩ := h
  exact shR_of (fun x hx => by rw [one_mem (by omega) hx]; exact valid_sh h4) (fun u hu => by rw [one_mem (by omega) hu]; exact validR_sh _ h5)
theorem validR_arr {r : Tr} (h1 : (r.name == sVec) = false) (h2 : (r.name == sArray) = true) : validR r = ((((((((r.len.length : Int) == 1) && ((r.elem.length : Int) == 1)) && validP (r.len.getD 0 default)) && ((r.elem.getD 0 default).name != sArray))) && validR (r.elem.getD 0 default)) && okR r) := by
  rw [validR_eq, h1, h2, cond_false, cond_true]
  cases h3 : ((r.elem.length : Int) == 1) with
  | false => simp
  | true => rw [beq_iff_eq] at h3; rw [validRs_eq (by omega)]
theorem namesT_snoc (l : List Tk) (x : Tk) : namesT (l ++ [x]) = addName (namesT l) x := by simp [namesT]
theorem namesT_len (l : List Tk) : (namesT l).length ≤ l.length := by
  have h : ∀ (l : List Tk) (out : List Bs), (l.foldl addName out).length ≤ out.length + l.length := by
    intro l
    induction l with
    | nil => intro out; simp
    | cons a l ih =>
      intro out
      rw [List.foldl_cons]
      have h1 := ih (addName out a)
      have h2 : (addName out a).length ≤ out.length + 1 := by unfold addName; split <;> simp
      simp only [List.length_cons]
      omega
  simpa [namesT] using h l []
theorem names_add {l : List Tk} {i : Nat} (hi : i < l.length) (h : ((l.getD i default).op == 1 && !((namesT (l.take i)).contains (l.getD i default).text)) = true) : namesT (l.take (i + 1)) = namesT (l.take i) ++ [(l.getD i default).text] := by
  rw [take_getD default l i hi, namesT_snoc, addName, if_pos h]
theorem names_skip {l : List Tk} {i : Nat} (hi : i < l.length) (h : ((l.getD i default).op == 1 && !((namesT (l.take i)).contains (l.getD i default).text)) = false) : namesT (l.take (i + 1)) = namesT (l.take i) := by
  rw [take_getD default l i hi, namesT_snoc, addName, if_neg (by rw [h]; exact Bool.false_ne_true)]
end Go.Proofs.YtcgdlhkiecommaaGreatDoor
/- The law's own fixed calls, computed. -/


set_option maxRecDepth 100000
namespace Go.Proofs.YtcgdlhkiecommaaGreatDoor
open Go
def exS1 : Bs := [97, 32, 45, 32, 40, 32, 98, 32, 45, 32, 99, 32, 41, 32, 61, 32, 49]
def exS2 : Bs := [97, 32, 61, 32, 98, 32, 61, 32, 99]
def exS3 : Bs := [97, 32, 43, 32, 59]
def exS4 : Bs := [115, 32, 40, 32, 55, 32, 100, 111, 119, 110, 116, 111, 32, 52, 32, 41, 32, 60, 61, 32, 120]
def exS5 : Bs := [97, 114, 114, 97, 121, 32, 40, 32, 50, 32, 41, 32, 111, 102, 32, 118, 101, 99, 32, 40, 32, 110, 32, 41]
def okTB (t : Tk) : Bool := decide (t.text.length ≤ 1000000) && (decide (-9223372036854775808 ≤ t.n) && decide (t.n ≤ 9223372036854775807))
theorem okts_of {l : List Tk} (h : l.all okTB = true) : OKTs l := by
  intro t ht
  have := List.all_eq_true.1 h t ht
  simp only [okTB, Bool.and_eq_true, decide_eq_true_eq] at this
  exact ⟨Nat.le_trans this.1 (by decide), this.2.1, this.2.2⟩
def rdE (l : List Tk) : Nat → Rd Ex := fun i => rowD l 40 4 i
def rdG (l : List Tk) : Nat → Rd Ex := fun i => targetP l i
def rdR (l : List Tk) : Nat → Rd Tr := fun i => typeP l i
theorem ex_words1 : (lexP exS1).1.all okTB = true ∧ (lexP exS1).1.length = 9 := ⟨by kernel_rfl, by kernel_rfl⟩
theorem ex_words2 : (lexP exS2).1.all okTB = true ∧ (lexP exS2).1.length = 5 := ⟨by kernel_rfl, by kernel_rfl⟩
theorem ex_words3 : (lexP exS3).1.all okTB = true ∧ (lexP exS3).1.length = 3 := ⟨by kernel_rfl, by kernel_rfl⟩
theorem ex_words4 : (lexP exS4).1.all okTB = true ∧ (lexP exS4).1.length = 8 := ⟨by kernel_rfl, by kernel_rfl⟩
theorem ex_words5 : (lexP exS5).1.all okTB = true ∧ (lexP exS5).1.length = 9 := ⟨by kernel_rfl, by kernel_rfl⟩
theorem ex1 : ∃ E : Ex, readP ex0 (lexP exS1).1 0 (rdE (lexP exS1).1) = (E, 9, okF) ∧ (E.op == 5) = true ∧ (E.name == [61]) = true ∧ (E.col == 15) = true ∧ E.kids.length = 2 ∧ szE E = true ∧ nobE E = true ∧ szX E = true ∧ (toks E).length = 9 ∧ dep E = 1 ∧ (toks E).all okTB = true ∧ textE E = (exS1, 0) ∧ namesE E = ([[97], [98], [99]], 0) ∧ validP E = true ∧ isTargP E = false :=
  ⟨(readP ex0 (lexP exS1).1 0 (rdE (lexP exS1).1)).1, by kernel_rfl, by kernel_rfl, by kernel_rfl, by kernel_rfl, by kernel_rfl, by kernel_rfl, by kernel_rfl, by kernel_rfl, by kernel_rfl, by kernel_rfl, by kernel_rfl, by kernel_rfl, by kernel_rfl, by kernel_rfl, by kernel_rfl⟩
theorem ex2 : ∃ E : Ex, readP ex0 (lexP exS2).1 0 (rdE (lexP exS2).1) = (E, 3, okF) := ⟨(readP ex0 (lexP exS2).1 0 (rdE (lexP exS2).1)).1, by kernel_rfl⟩
theorem ex3 : ∃ E : Ex, readP ex0 (lexP exS3).1 0 (rdE (lexP exS3).1) = (E, 0, ⟨11, [59], 1, 5⟩) := ⟨(readP ex0 (lexP exS3).1 0 (rdE (lexP exS3).1)).1, by kernel_rfl⟩
theorem ex4 : ∃ E : Ex, readP ex0 (lexP exS4).1 0 (rdG (lexP exS4).1) = (E, 6, okF) ∧ (E.op == 7) = true ∧ E.kids.length = 3 ∧ szE E = true ∧ nobE E = true ∧ (toks E).length = 6 ∧ dep E = 1 ∧ validP E = true ∧ isTargP E = true :=
  ⟨(readP ex0 (lexP exS4).1 0 (rdG (lexP exS4).1)).1, by kernel_rfl, by kernel_rfl, by kernel_rfl, by kernel_rfl, by kernel_rfl, by kernel_rfl, by kernel_rfl, by kernel_rfl, by kernel_rfl⟩
theorem ex5 : ∃ A B : Ex, ∃ i j i2 j2 : Int, readP tr0 (lexP exS5).1 0 (rdR (lexP exS5).1) = (Tr.mk sArray [A] [Tr.mk sVec [B] [] i2 j2] i j, 9, okF) ∧ szE A = true ∧ nobE A = true ∧ (toks A).length = 1 ∧ dep A = 0 ∧ szE B = true ∧ nobE B = true ∧ (toks B).length = 1 ∧ dep B = 0 ∧ (toksR (Tr.mk sArray [A] [Tr.mk sVec [B] [] i2 j2] i j)).all okTB = true ∧ textR (Tr.mk sArray [A] [Tr.mk sVec [B] [] i2 j2] i j) = (exS5, 0) ∧ validR (Tr.mk sArray [A] [Tr.mk sVec [B] [] i2 j2] i j) = true :=
  ⟨((readP tr0 (lexP exS5).1 0 (rdR (lexP exS5).1)).1.len.getD 0 default), (((readP tr0 (lexP exS5).1 0 (rdR (lexP exS5).1)).1.elem.getD 0 default).len.getD 0 default), 1, 1, 1, 16, by kernel_rfl, by kernel_rfl, by kernel_rfl, by kernel_rfl, by kernel_rfl, by kernel_rfl, by kernel_rfl, by kernel_rfl, by kernel_rfl, by kernel_rfl, by kernel_rfl, by kernel_rfl⟩
theorem okw_of {P : Program} {e : Ex} {n d : Nat} (h1 : szE e = true) (h2 : nobE e = true) (h3 : (toks e).length = n) (h4 : dep e = d) (hn : n ≤ 1000000000) (hd : d ≤ 1000000000) : OKW P e := ⟨h1, .inl h2, by omega, by omega⟩
theorem ok5 {P : Program} {A B : Ex} {i j i2 j2 : Int} (a1 : szE A = true) (a2 : nobE A = true) (a3 : (toks A).length = 1) (a4 : dep A = 0) (b1 : szE B = true) (b2 : nobE B = true) (b3 : (toks B).length = 1) (b4 : dep B = 0) : OKR P (Tr.mk sArray [A] [Tr.mk sVec [B] [] i2 j2] i j) := by
  refine ⟨⟨by decide, by simp, by simp, ?_, ?_, ?_⟩, ⟨⟨by decide, by simp, by simp, ?_, ?_, ?_⟩, trivial⟩, trivial⟩
  · intro x hx; rw [List.mem_singleton.1 hx]; exact okw_of a1 a2 a3 a4 (by omega) (by omega)
  · simp [toksR, toksRs, inBr, sepT, a3, b3]
  · simp [depR, depRs, maxL, a4, b4]
  · intro x hx; rw [List.mem_singleton.1 hx]; exact okw_of b1 b2 b3 b4 (by omega) (by omega)
  · simp [toksR, toksRs, inBr, sepT, a3, b3]
  · simp [depR, depRs, maxL, a4, b4]
theorem ex6 (P : Program) : ∃ R : Tr, readP tr0 (lexP exS5).1 0 (rdR (lexP exS5).1) = (R, 9, okF) ∧ OKR P R ∧ (toksR R).all okTB = true ∧ textR R = (exS5, 0) ∧ validR R = true := by
  obtain ⟨A, B, i, j, i2, j2, p5, a1, a2, a3, a4, b1, b2, b3, b4, r1, r2, r3⟩ := ex5
  exact ⟨_, p5, ok5 a1 a2 a3 a4 b1 b2 b3 b4, r1, r2, r3⟩
end Go.Proofs.YtcgdlhkiecommaaGreatDoor
/- How many parts there are: bounds for the walks. -/


namespace Go.Proofs.YtcgdlhkiecommaaGreatDoor
open Go
end Go.Proofs.YtcgdlhkiecommaaGreatDoor
/- The reference's words for what is written. -/


namespace Go.Proofs.YtcgdlhkiecommaaGreatDoor
open Go
def strR (s : Bs) : Int := strengthI s + 1
theorem cont_cons (a : Bs) (l : List Bs) (s : Bs) : (a :: l).contains s = (s == a || l.contains s) := List.contains_cons
theorem strR_eq (s : Bs) : strR s =
    if (s == [97, 110, 100] || (s == [111, 114] || (s == [120, 111, 114] || (s == [110, 97, 110, 100] || (s == [110, 111, 114] || s == [120, 110, 111, 114]))))) = true then 1 else
    if (s == [61] || (s == [47, 61] || (s == [60] || (s == [60, 61] || (s == [62] || s == [62, 61]))))) = true then 2 else
    if (s == [43] || (s == [45] || s == [38])) = true then 3 else
    if (s == [42] || (s == [47] || (s == [109, 111, 100] || (s == [115, 104, 108] || s == [115, 104, 114])))) = true then 4 else 0 := by
  rw [strR, strengthI]
  have e0 : levelL 0 = [[97, 110, 100], [111, 114], [120, 111, 114], [110, 97, 110, 100], [110, 111, 114], [120, 110, 111, 114]] := rfl
  have e1 : levelL 1 = [[61], [47, 61], [60], [60, 61], [62], [62, 61]] := rfl
  have e2 : levelL 2 = [[43], [45], [38]] := rfl
  have e3 : levelL 3 = [[42], [47], [109, 111, 100], [115, 104, 108], [115, 104, 114]] := rfl
  rw [e0, e1, e2, e3]
  simp only [cont_cons, List.contains_nil, Bool.or_false]
  repeat' split
  all_goals rfl
def bareR (e : Ex) : Bool := untyped e.type && noneV e.val
def operR (s : Bs) (k : Int) : Bool := ((k == 2) && decide (strR s > 0)) || ((k == 1) && (s == sNot || s == sMinus))
def headR (e : Ex) : Bool := ((!(bareR e) || ((e.op != 1) && (e.n != 0))) || (((e.op != 4) && (e.op != 5)) && (e.name != []))) || (((e.op != 2) && (e.op != 3)) && decide ((e.bits.length : Int) > 0))
def tailR (e : Ex) : Bool :=
  bif e.op == 1 then (decide (e.n ≥ 0) && decide (e.n ≤ 2147483647)) && ((e.kids.length : Int) == 0) else
  bif e.op == 2 then (((e.bits.length : Int) == 1) && isBits e.bits) && ((e.kids.length : Int) == 0) else
  bif e.op == 3 then isBits e.bits && ((e.kids.length : Int) == 0) else
  bif e.op == 4 then isNameL e.name && ((e.kids.length : Int) == 0) else
  bif e.op == 5 then operR e.name (e.kids.length : Int) || ((isNameL e.name && decide ((e.kids.length : Int) ≥ 1)) && decide ((e.kids.length : Int) ≤ 20)) else
  bif e.op == 6 then ((e.kids.length : Int) == 2) && ((e.kids.getD 0 default).op != 4) else
  bif e.op == 7 then (e.kids.length : Int) == 3 else false
theorem strR_pos (s : Bs) : decide (strR s > 0) = decide (strengthI s ≥ 0) := by
  rw [Bool.eq_iff_iff, decide_eq_true_eq, decide_eq_true_eq]; unfold strR; omega
theorem shape_head (e : Ex) : shapeP e = (!(headR e) && tailR e) := by
  rw [shapeP, headR, tailR, bareR, operR, strR_pos, oneOp]
  cases h0 : noneV e.val <;> cases h00 : untyped e.type <;> try (simp; done)
  have hlen : ((e.bits.length : Int) == 0) = !(decide ((e.bits.length : Int) > 0)) := by
    rw [Bool.eq_iff_iff]; simp
  by_cases h1 : e.op = 1
  · rw [h1, hlen]
    generalize decide ((e.bits.length : Int) > 0) = B; generalize ((e.kids.length : Int) == 0) = K; generalize (e.name != []) = N; generalize decide (e.n ≥ 0) = A; generalize decide (e.n ≤ 2147483647) = C
    cases B <;> cases K <;> cases N <;> cases A <;> cases C <;> rfl
  have e1 : (e.op == 1) = false := by simpa using h1
  have e1' : (e.op != 1) = true := by simpa using h1
  rw [e1, e1']
  cases hn : (e.n != 0)
  case true => simp
  by_cases h2 : e.op = 2
  · rw [h2]; cases hn : (e.name != []) <;> cases isBits e.bits <;> cases ((e.bits.length : Int) == 1) <;> cases ((e.kids.length : Int) == 0) <;> simp
  have e2 : (e.op == 2) = false := by simpa using h2
  have e2' : (e.op != 2) = true := by simpa using h2
  rw [e2, e2']
  by_cases h3 : e.op = 3
  · rw [h3]; cases hn : (e.name != []) <;> simp [Bool.and_comm]
  have e3 : (e.op == 3) = false := by simpa using h3
  have e3' : (e.op != 3) = true := by simpa using h3
  rw [e3, e3', hlen]
  by_cases h4 : e.op = 4
  · rw [h4]; cases decide ((e.bits.length : Int) > 0) <;> simp [Bool.and_comm]
  have e4 : (e.op == 4) = false := by simpa using h4
  have e4' : (e.op != 4) = true := by simpa using h4
  rw [e4, e4']
  by_cases h5 : e.op = 5
  · rw [h5]
    cases decide ((e.bits.length : Int) > 0) <;> simp
    cases ((e.kids.length : Int) == 1) <;> cases (e.name == sNot || e.name == sMinus) <;> cases ((e.kids.length : Int) == 2) <;> cases decide (0 ≤ strengthI e.name) <;> cases isNameL e.name <;> simp
  have e5 : (e.op == 5) = false := by simpa using h5
  have e5' : (e.op != 5) = true := by simpa using h5
  rw [e5, e5']
  cases hnm : (e.name != []) <;> cases decide ((e.bits.length : Int) > 0) <;> simp
theorem formH (e : Ex) : formP e = (!(headR e) && (e.kids.all formP && tailR e)) := by
  rw [formP_eq, shape_head, formPs_all]
  cases headR e <;> cases tailR e <;> cases e.kids.all formP <;> rfl
theorem form_kid {e : Ex} (h : formP e = true) : ∀ k ∈ e.kids, formP k = true := by
  rw [formP_eq, Bool.and_eq_true, formPs_all, List.all_eq_true] at h
  exact h.2
theorem form_shape {e : Ex} (h : formP e = true) : shapeP e = true := by
  rw [formP_eq, Bool.and_eq_true] at h; exact h.1
theorem form_op {e : Ex} (h : formP e = true) : tailR e = true := by
  rw [formH, Bool.and_eq_true, Bool.and_eq_true] at h; exact h.2.2
theorem binds_nn {k : Ex} (h : formP k = true) : 0 ≤ bindsP k := by
  have hs := form_shape h
  have ht := form_op h
  have := str_range k.name
  rw [bindsP]
  cases hc : (k.op != 5 || isNameL k.name) with
  | true => simp
  | false =>
    cases hk : ((k.kids.length : Int) == 1) with
    | true => simp
    | false =>
      rw [Bool.or_eq_false_iff] at hc
      obtain ⟨h5, hn⟩ := hc
      have h5' : k.op = 5 := by simpa using h5
      rw [tailR, h5', operR, hk, hn, strR_pos] at ht
      simp only [show ((5 : Int) == 1) = false from rfl, show ((5 : Int) == 2) = false from rfl, show ((5 : Int) == 3) = false from rfl, show ((5 : Int) == 4) = false from rfl, show ((5 : Int) == 5) = true from rfl, cond_true, cond_false, Bool.false_and, Bool.or_false, Bool.and_eq_true, decide_eq_true_eq] at ht
      simp only [cond_false]; exact ht.2
end Go.Proofs.YtcgdlhkiecommaaGreatDoor
/- What the reference writes is what the program writes. -/

namespace Go.Proofs.YtcgdlhkiecommaaGreatDoor
open Go
theorem tight {k : Ex} (h : formP k = true) : kidTk k 0 = toks k ∧ kidDp k 0 = dep k := by
  have := binds_nn h
  rw [kidTk, kidDp, if_neg (by omega), if_neg (by omega)]; exact ⟨rfl, rfl⟩
theorem binds_call {e : Ex} (h : e.op = 5) (hn : isNameL e.name = true) : bindsP e = 5 := by rw [bindsP, hn]; simp
theorem binds_unary {e : Ex} (h : e.op = 5) (hn : isNameL e.name = false) (hk : e.kids.length = 1) : bindsP e = 4 := by rw [bindsP, hn, h, hk]; rfl
theorem binds_binary {e : Ex} (h : e.op = 5) (hn : isNameL e.name = false) (hk : e.kids.length = 2) : bindsP e = strengthI e.name := by rw [bindsP, hn, h, hk]; rfl
end Go.Proofs.YtcgdlhkiecommaaGreatDoor
/- Tokens in new memory; how they are put together. -/

namespace Go.Proofs.YtcgdlhkiecommaaGreatDoor
open Go
section
variable {P : Program} {n : Nat} {Q : APost} {env env0 : Env} {σ σ' : Store} {ops : Array Oper} {steps : List Stp} {rem : List Nat}
end
end Go.Proofs.YtcgdlhkiecommaaGreatDoor
