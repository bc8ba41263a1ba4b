import Derived.Test.YtcgdlhkiecommaaGreatDoorXTop
import Derived.KernelRfl
import Derived.Test.YtcgdlhkiecommaaGreatDoorShelf
import Derived.Shelf.Strings.BuilderK
import Derived.Lib.FrozenHead2
import Derived.Lib.OthersKept
import Derived.WalkKit
/- Texts, targets, names. -/

set_option linter.all false
namespace Go.Proofs.YtcgdlhkiecommaaGreatDoor
open Go
def textE (e : Ex) : Bs × Int := bif validP e then textP (toks e) else ([], 2)
def textR (r : Tr) : Bs × Int := bif validR r then textP (toksR r) else ([], 2)
def namesE (e : Ex) : List Bs × Int := bif validP e then (namesT (toks e), 0) else ([], 2)
theorem targ_kid {c : Ex} {n : Nat} (hn : shapesP c n = true) (h : (c.op == 6 || c.op == 7) = true) : 0 < c.kids.length ∧ (∃ m, shapesP (c.kids.getD 0 default) m = true) ∧ isTargP (c.kids.getD 0 default) = isTargP c := by
  rw [shapesP_eq] at hn
  simp only [Bool.and_eq_true, Bool.not_eq_true'] at hn
  have hk : 0 < c.kids.length := by
    rcases Bool.or_eq_true_iff.1 h with h | h <;> rw [beq_iff_eq] at h
    · have := shape_index hn.1.2 (by rw [h]; rfl) (by rw [h]; rfl) (by rw [h]; rfl) (by rw [h]; rfl) (by rw [h]; rfl); omega
    · have := shape_slice hn.1.2 (by rw [h]; rfl) (by rw [h]; rfl) (by rw [h]; rfl) (by rw [h]; rfl) (by rw [h]; rfl) (by rw [h]; rfl); omega
  refine ⟨hk, ⟨n + 1, ?_⟩, ?_⟩
  · have := List.any_eq_false.1 hn.2 _ (getD_mem hk)
    simpa using this
  · rw [isTargP_eq c, h, cond_true, isTargH_eq hk]
theorem targ_end {c : Ex} (h : (c.op == 6 || c.op == 7) = false) : isTargP c = targE c := by rw [isTargP_eq, h]; rfl
mutual
def shR : Tr → Prop
  | .mk s l e i c => (∀ x ∈ l, ∃ n, shapesP x n = true) ∧ shRs e
def shRs : List Tr → Prop
  | [] => True
  | r :: t => shR r ∧ shRs t
end
theorem shRs_mem {l : List Tr} (h : shRs l) : ∀ r ∈ l, shR r := by
  induction l with
  | nil => intro r hr; cases hr
  | cons a l ih =>
    intro r hr
    cases hr with
    | head => exact h.1
    | tail _ hr => exact ih h.2 r hr
theorem shR_facts {r : Tr} (h : shR r) : (∀ x ∈ r.len, ∃ n, shapesP x n = true) ∧ ∀ u ∈ r.elem, shR u := by
  cases r
  exact ⟨h.1, shRs_mem h.2⟩
theorem shR_of {r : Tr} (h1 : ∀ x ∈ r.len, ∃ n, shapesP x n = true) (h2 : ∀ u ∈ r.elem, shR u) : shR r := by
  have hl : ∀ l : List Tr, (∀ u ∈ l, shR u) → shRs l := by
    intro l
    induction l with
    | nil => intro _; trivial
    | cons a l ih => exact fun h => ⟨h a (by simp), ih fun u hu => h u (by simp [hu])⟩
  cases r
  exact ⟨h1, hl _ h2⟩
theorem one_mem {α : Type} [Inhabited α] {l : List α} (h : l.length = 1) {x : α} (hx : x ∈ l) : x = l.getD 0 default := by
  match l, h with
  | [a], _ => simpa using hx
theorem valid_sh {e : Ex} (h : validP e = true) : ∃ n, shapesP e n = true := by
  rw [validP, Bool.and_eq_true] at h; exact ⟨0, h.1⟩
theorem validR_sh (r : Tr) : validR r = true → shR r := by
  induction r using Tr.ind with
  | h r ih =>
    intro h
    rw [validR_eq] at h
    cases h1 : (r.name == sVec) with
    | true =>
      rw [h1, cond_true] at h
      simp only [Bool.and_eq_true, beq_iff_eq] at h
      obtain ⟨⟨⟨h2, h3⟩, h4⟩, _⟩ := h
      exact shR_of (fun x hx => by rw [one_mem (by omega) hx]; exact valid_sh h4) (fun u hu => by
        have := List.length_pos_of_mem hu; omega)
    | false =>
      cases h2 : (r.name == sArray) with
      | true =>
        rw [h1, h2, cond_false, cond_true] at h
        simp only [Bool.and_eq_true, beq_iff_eq] at h
        obtain ⟨⟨⟨⟨⟨h2, h3⟩, h4⟩, _⟩, h5⟩, _⟩ := h
        rw [validRs_eq (by omega)] at h5
        exact shR_of (fun x hx => by rw [one_mem (by omega) hx]; exact valid_sh h4) (fun u hu => by have e := one_mem (by omega) hu; rw [e]; exact ih _ (e ▸ hu) h5)
      | false =>
        rw [h1, h2, cond_false, cond_false] at h
        simp only [Bool.and_eq_true, beq_iff_eq] at h
        obtain ⟨⟨_, h3⟩, h4⟩ := h
        exact shR_of (fun x hx => by have := List.length_pos_of_mem hx; omega) (fun u hu => by have := List.length_pos_of_mem hu; omega)
mutual
def OKR (P : Program) : Tr → Prop
  | .mk s l e i c => (s.length ≤ 1000000000 ∧ l.length ≤ 1000000000 ∧ e.length ≤ 1000000000 ∧ (∀ x ∈ l, OKW P x) ∧ (toksR (.mk s l e i c)).length ≤ 1000000000 ∧ depR (.mk s l e i c) ≤ 1000000000) ∧ OKRs P e
def OKRs (P : Program) : List Tr → Prop
  | [] => True
  | r :: t => OKR P r ∧ OKRs P t
end
theorem OKRs_mem {P : Program} {l : List Tr} (h : OKRs P l) : ∀ r ∈ l, OKR P r := by
  induction l with
  | nil => intro r hr; cases hr
  | cons a l ih =>
    intro r hr
    cases hr with
    | head => exact h.1
    | tail _ hr => exact ih h.2 r hr
theorem OKR_facts {P : Program} {r : Tr} (h : OKR P r) : r.name.length ≤ 1000000000 ∧ r.len.length ≤ 1000000000 ∧ r.elem.length ≤ 1000000000 ∧ (∀ x ∈ r.len, OKW P x) ∧ (toksR r).length ≤ 1000000000 ∧ depR r ≤ 1000000000 ∧ ∀ u ∈ r.elem, OKR P u := by
  cases r
  exact ⟨h.1.1, h.1.2.1, h.1.2.2.1, h.1.2.2.2.1, h.1.2.2.2.2.1, h.1.2.2.2.2.2, OKRs_mem h.2⟩
theorem sh_vec {r : Tr} (h : ((((r.len.length : Int) == 1) && ((r.elem.length : Int) == 0)) && validP (r.len.getD 0 default)) = true) : shR r := by
  simp only [Bool.and_eq_true, beq_iff_eq] at h
  obtain ⟨⟨h2, h3⟩, h4⟩ := h
  exact shR_of (fun x hx => by rw [one_mem (by omega) hx]; exact valid_sh h4) (fun u hu => by have := List.length_pos_of_mem hu; omega)
theorem sh_arr {r : Tr} (h : (((((((r.len.length : Int) == 1) && ((r.elem.length : Int) == 1)) && validP (r.len.getD 0 default)) && ((r.elem.getD 0 default).name != sArray))) && validR (r.elem.getD 0 default)) = true) : shR r := by
  simp only [Bool.and_eq_true, beq_iff_eq] at h
  obtain ⟨⟨⟨⟨h2, h3⟩, h4⟩, _⟩, h5⟩ := h
  exact shR_of (fun x hx => by rw [one_mem (by omega) hx]; exact valid_sh h4) (fun u hu => by rw [one_mem (by omega) hu]; exact validR_sh _ h5)
theorem validR_arr {r : Tr} (h1 : (r.name == sVec) = false) (h2 : (r.name == sArray) = true) : validR r = ((((((((r.len.length : Int) == 1) && ((r.elem.length : Int) == 1)) && validP (r.len.getD 0 default)) && ((r.elem.getD 0 default).name != sArray))) && validR (r.elem.getD 0 default)) && okR r) := by
  rw [validR_eq, h1, h2, cond_false, cond_true]
  cases h3 : ((r.elem.length : Int) == 1) with
  | false => simp
  | true => rw [beq_iff_eq] at h3; rw [validRs_eq (by omega)]
theorem namesT_snoc (l : List Tk) (x : Tk) : namesT (l ++ [x]) = addName (namesT l) x := by simp [namesT]
theorem namesT_len (l : List Tk) : (namesT l).length ≤ l.length := by
  have h : ∀ (l : List Tk) (out : List Bs), (l.foldl addName out).length ≤ out.length + l.length := by
    intro l
    induction l with
    | nil => intro out; simp
    | cons a l ih =>
      intro out
      rw [List.foldl_cons]
      have h1 := ih (addName out a)
      have h2 : (addName out a).length ≤ out.length + 1 := by unfold addName; split <;> simp
      simp only [List.length_cons]
      omega
  simpa [namesT] using h l []
theorem names_add {l : List Tk} {i : Nat} (hi : i < l.length) (h : ((l.getD i default).op == 1 && !((namesT (l.take i)).contains (l.getD i default).text)) = true) : namesT (l.take (i + 1)) = namesT (l.take i) ++ [(l.getD i default).text] := by
  rw [take_getD default l i hi, namesT_snoc, addName, if_pos h]
theorem names_skip {l : List Tk} {i : Nat} (hi : i < l.length) (h : ((l.getD i default).op == 1 && !((namesT (l.take i)).contains (l.getD i default).text)) = false) : namesT (l.take (i + 1)) = namesT (l.take i) := by
  rw [take_getD default l i hi, namesT_snoc, addName, if_neg (by rw [h]; exact Bool.false_ne_true)]
end Go.Proofs.YtcgdlhkiecommaaGreatDoor
/- The law's own fixed calls, computed. -/


set_option maxRecDepth 100000
namespace Go.Proofs.YtcgdlhkiecommaaGreatDoor
open Go
def exS1 : Bs := [97, 32, 45, 32, 40, 32, 98, 32, 45, 32, 99, 32, 41, 32, 61, 32, 49]
def exS2 : Bs := [97, 32, 61, 32, 98, 32, 61, 32, 99]
def exS3 : Bs := [97, 32, 43, 32, 59]
def exS4 : Bs := [115, 32, 40, 32, 55, 32, 100, 111, 119, 110, 116, 111, 32, 52, 32, 41, 32, 60, 61, 32, 120]
def exS5 : Bs := [97, 114, 114, 97, 121, 32, 40, 32, 50, 32, 41, 32, 111, 102, 32, 118, 101, 99, 32, 40, 32, 110, 32, 41]
def okTB (t : Tk) : Bool := decide (t.text.length ≤ 1000000) && (decide (-9223372036854775808 ≤ t.n) && decide (t.n ≤ 9223372036854775807))
theorem okts_of {l : List Tk} (h : l.all okTB = true) : OKTs l := by
  intro t ht
  have := List.all_eq_true.1 h t ht
  simp only [okTB, Bool.and_eq_true, decide_eq_true_eq] at this
  exact ⟨Nat.le_trans this.1 (by decide), this.2.1, this.2.2⟩
def rdE (l : List Tk) : Nat → Rd Ex := fun i => rowD l 40 4 i
def rdG (l : List Tk) : Nat → Rd Ex := fun i => targetP l i
def rdR (l : List Tk) : Nat → Rd Tr := fun i => typeP l i
theorem ex_words1 : (lexP exS1).1.all okTB = true ∧ (lexP exS1).1.length = 9 := ⟨by kernel_rfl, by kernel_rfl⟩
theorem ex_words2 : (lexP exS2).1.all okTB = true ∧ (lexP exS2).1.length = 5 := ⟨by kernel_rfl, by kernel_rfl⟩
theorem ex_words3 : (lexP exS3).1.all okTB = true ∧ (lexP exS3).1.length = 3 := ⟨by kernel_rfl, by kernel_rfl⟩
theorem ex_words4 : (lexP exS4).1.all okTB = true ∧ (lexP exS4).1.length = 8 := ⟨by kernel_rfl, by kernel_rfl⟩
theorem ex_words5 : (lexP exS5).1.all okTB = true ∧ (lexP exS5).1.length = 9 := ⟨by kernel_rfl, by kernel_rfl⟩
theorem ex1 : ∃ E : Ex, readP ex0 (lexP exS1).1 0 (rdE (lexP exS1).1) = (E, 9, okF) ∧ (E.op == 5) = true ∧ (E.name == [61]) = true ∧ (E.col == 15) = true ∧ E.kids.length = 2 ∧ szE E = true ∧ nobE E = true ∧ szX E = true ∧ (toks E).length = 9 ∧ dep E = 1 ∧ (toks E).all okTB = true ∧ textE E = (exS1, 0) ∧ namesE E = ([[97], [98], [99]], 0) ∧ validP E = true ∧ isTargP E = false :=
  ⟨(readP ex0 (lexP exS1).1 0 (rdE (lexP exS1).1)).1, by kernel_rfl, by kernel_rfl, by kernel_rfl, by kernel_rfl, by kernel_rfl, by kernel_rfl, by kernel_rfl, by kernel_rfl, by kernel_rfl, by kernel_rfl, by kernel_rfl, by kernel_rfl, by kernel_rfl, by kernel_rfl, by kernel_rfl⟩
theorem ex2 : ∃ E : Ex, readP ex0 (lexP exS2).1 0 (rdE (lexP exS2).1) = (E, 3, okF) := ⟨(readP ex0 (lexP exS2).1 0 (rdE (lexP exS2).1)).1, by kernel_rfl⟩
theorem ex3 : ∃ E : Ex, readP ex0 (lexP exS3).1 0 (rdE (lexP exS3).1) = (E, 0, ⟨11, [59], 1, 5⟩) := ⟨(readP ex0 (lexP exS3).1 0 (rdE (lexP exS3).1)).1, by kernel_rfl⟩
theorem ex4 : ∃ E : Ex, readP ex0 (lexP exS4).1 0 (rdG (lexP exS4).1) = (E, 6, okF) ∧ (E.op == 7) = true ∧ E.kids.length = 3 ∧ szE E = true ∧ nobE E = true ∧ (toks E).length = 6 ∧ dep E = 1 ∧ validP E = true ∧ isTargP E = true :=
  ⟨(readP ex0 (lexP exS4).1 0 (rdG (lexP exS4).1)).1, by kernel_rfl, by kernel_rfl, by kernel_rfl, by kernel_rfl, by kernel_rfl, by kernel_rfl, by kernel_rfl, by kernel_rfl, by kernel_rfl⟩
theorem ex5 : ∃ A B : Ex, ∃ i j i2 j2 : Int, readP tr0 (lexP exS5).1 0 (rdR (lexP exS5).1) = (Tr.mk sArray [A] [Tr.mk sVec [B] [] i2 j2] i j, 9, okF) ∧ szE A = true ∧ nobE A = true ∧ (toks A).length = 1 ∧ dep A = 0 ∧ szE B = true ∧ nobE B = true ∧ (toks B).length = 1 ∧ dep B = 0 ∧ (toksR (Tr.mk sArray [A] [Tr.mk sVec [B] [] i2 j2] i j)).all okTB = true ∧ textR (Tr.mk sArray [A] [Tr.mk sVec [B] [] i2 j2] i j) = (exS5, 0) ∧ validR (Tr.mk sArray [A] [Tr.mk sVec [B] [] i2 j2] i j) = true :=
  ⟨((readP tr0 (lexP exS5).1 0 (rdR (lexP exS5).1)).1.len.getD 0 default), (((readP tr0 (lexP exS5).1 0 (rdR (lexP exS5).1)).1.elem.getD 0 default).len.getD 0 default), 1, 1, 1, 16, by kernel_rfl, by kernel_rfl, by kernel_rfl, by kernel_rfl, by kernel_rfl, by kernel_rfl, by kernel_rfl, by kernel_rfl, by kernel_rfl, by kernel_rfl, by kernel_rfl, by kernel_rfl⟩
theorem okw_of {P : Program} {e : Ex} {n d : Nat} (h1 : szE e = true) (h2 : nobE e = true) (h3 : (toks e).length = n) (h4 : dep e = d) (hn : n ≤ 1000000000) (hd : d ≤ 1000000000) : OKW P e := ⟨h1, .inl h2, by omega, by omega⟩
theorem ok5 {P : Program} {A B : Ex} {i j i2 j2 : Int} (a1 : szE A = true) (a2 : nobE A = true) (a3 : (toks A).length = 1) (a4 : dep A = 0) (b1 : szE B = true) (b2 : nobE B = true) (b3 : (toks B).length = 1) (b4 : dep B = 0) : OKR P (Tr.mk sArray [A] [Tr.mk sVec [B] [] i2 j2] i j) := by
  refine ⟨⟨by decide, by simp, by simp, ?_, ?_, ?_⟩, ⟨⟨by decide, by simp, by simp, ?_, ?_, ?_⟩, trivial⟩, trivial⟩
  · intro x hx; rw [List.mem_singleton.1 hx]; exact okw_of a1 a2 a3 a4 (by omega) (by omega)
  · simp [toksR, toksRs, inBr, sepT, a3, b3]
  · simp [depR, depRs, maxL, a4, b4]
  · intro x hx; rw [List.mem_singleton.1 hx]; exact okw_of b1 b2 b3 b4 (by omega) (by omega)
  · simp [toksR, toksRs, inBr, sepT, a3, b3]
  · simp [depR, depRs, maxL, a4, b4]
theorem ex6 (P : Program) : ∃ R : Tr, readP tr0 (lexP exS5).1 0 (rdR (lexP exS5).1) = (R, 9, okF) ∧ OKR P R ∧ (toksR R).all okTB = true ∧ textR R = (exS5, 0) ∧ validR R = true := by
  obtain ⟨A, B, i, j, i2, j2, p5, a1, a2, a3, a4, b1, b2, b3, b4, r1, r2, r3⟩ := ex5
  exact ⟨_, p5, ok5 a1 a2 a3 a4 b1 b2 b3 b4, r1, r2, r3⟩
end Go.Proofs.YtcgdlhkiecommaaGreatDoor
/- strings.Builder at this dump: copyCheck and WriteByte. -/





set_option linter.unusedVariables false
namespace Go.Proofs.YtcgdlhkiecommaaGreatDoor
open Go Go.RowKit Go.Shelf
theorem sizeBld : (Tryz.prog.info? 163).map (·.size) = some 2 := by kernel_rfl
theorem liesBld : liesAt Tryz.prog Tryz.prog.depth 163 (2 / Tryz.prog.cellsOf 163) 0 163 1 = true := by kernel_rfl
theorem infoByteB : (Tryz.prog.info? 5).map (fun i => (i.zero, i.size, i.bytes)) = some (some (.int .u8 0), 1, 1) := by kernel_rfl
theorem neB5 : (163 : Nat) ≠ 5 := by decide
set_option maxHeartbeats 1000000 in
set_option maxRecDepth 100000 in
theorem bld_copy_used (b : Nat) (w : World) (h0 : w.cell? ⟨b, 0, none⟩ = some (.pointer (some ⟨b, 0, none⟩))) :
    Calls Tryz.prog 188 #[.pointer (some ⟨b, 0, none⟩)] w fun e w' => e = .returned (.tuple #[]) ∧ w' = w := by
  obtain ⟨j, hj, _⟩ := Option.map_eq_some_iff.1 sizeBld
  go_enter Tryz.func188, Tryz.ntmps188
  go_wp2
  rw [Lib.run_neq_ptr_same w _ Tryz.underlying160 hj]
  go_wp2
  go_end0
  exact ⟨rfl, rfl⟩
set_option maxHeartbeats 1000000 in
set_option maxRecDepth 100000 in
theorem bld_copy_fresh (b : Nat) (w : World) (h0 : w.cell? ⟨b, 0, none⟩ = some (.pointer none)) (hsh : w.shape? b = some (163, 2)) (hfz : w.frozen? ⟨b, 0, none⟩ = false) :
    Calls Tryz.prog 188 #[.pointer (some ⟨b, 0, none⟩)] w fun e w' => e = .returned (.tuple #[]) ∧ w' = w.setCell ⟨b, 0, none⟩ (.pointer (some ⟨b, 0, none⟩)) := by
  obtain ⟨j, hj, hjs⟩ := Option.map_eq_some_iff.1 sizeBld
  go_enter Tryz.func188, Tryz.ntmps188
  go_wp2
  rw [Lib.run_to_unsafe w ⟨b, 0, none⟩ Tryz.underlying160 Tryz.underlying200 hj (by rw [hjs]; decide) hsh (Nat.zero_lt_succ 1)]
  simp only [Result.andThen]
  rw [Oper.upon_value]
  go_wp2
  rw [run_callFunc_extern Tryz.func203 (by kernel_rfl) (by kernel_rfl) (by kernel_rfl) (e := Extern.AbiNoEscape.same) (by kernel_rfl)]
  rw [Lib.run_noEscape]
  simp only [Result.andThen]
  rw [Oper.upon_value]
  go_wp2
  rw [Lib.run_from_unsafe w ⟨b, 0, none⟩ Tryz.underlying200 Tryz.underlying160 hj hsh liesBld]
  simp only [Result.andThen]
  rw [Oper.upon_value]
  go_wp2
  go_end0
  exact ⟨rfl, rfl⟩
theorem bld_copy (B b : Nat) (bs : List Value) (w : World) (h : Lib.IsBuilderF 163 5 B b bs w) :
    Calls Tryz.prog 188 #[.pointer (some ⟨b, 0, none⟩)] w fun e w' => e = .returned (.tuple #[]) ∧ (Lib.BuilderAtF 163 5 B b (.pointer (some ⟨b, 0, none⟩)) bs w' ∧ Below B w w' ∧ Lib.OthersKept 5 (some b) w w') := by
  rcases h with h | h
  · refine (bld_copy_fresh b w h.cell0 h.shape h.frozen0).mono ?_
    rintro e w' ⟨rfl, rfl⟩
    exact ⟨rfl, h.used _, (Below.refl B w).setCell (p := ⟨b, 0, none⟩) h.1 _, (Lib.OthersKept.refl _ _ w).setCell ⟨b, 0, none⟩ rfl _⟩
  · refine (bld_copy_used b w h.cell0).mono ?_
    rintro e w' ⟨rfl, rfl⟩
    exact ⟨rfl, h, Below.refl B _, Lib.OthersKept.refl _ _ _⟩
theorem enters_copy : ∀ args w, (callFunc 188 args).run Tryz.prog w = .ok (.enter 188 args) w := enters_of Tryz.func188 (by kernel_rfl) rfl
set_option maxHeartbeats 2000000 in
set_option maxRecDepth 100000 in
theorem bld_writeByte (B b : Nat) (bs : List Value) (c : Int) (w : World) (h : Lib.IsBuilderF 163 5 B b bs w) (hlen : bs.length + 1 ≤ 140737488355328) (hBw : B ≤ w.heap.size) :
    Calls Tryz.prog 179 #[.pointer (some ⟨b, 0, none⟩), .int .u8 c] w fun e w' => e = .returned .nilIface ∧ (Lib.BuilderAtF 163 5 B b (.pointer (some ⟨b, 0, none⟩)) (bs ++ [.int .u8 c]) w' ∧ Below B w w' ∧ Lib.OthersKept 5 (some b) w w') := by
  obtain ⟨i0, hi, hz0, hz1, hz2⟩ := info_parts infoByteB
  have e240 := enters_copy
  go_enter Tryz.func179, Tryz.ntmps179
  go_wp2_with (go_at_fn 188; refine (bld_copy B b bs _ h).mono ?_)
  rintro e w1 ⟨rfl, h1, hb1, hk1⟩
  obtain ⟨hB, v, hbk, hown, hne⟩ := h1
  have c0 : w1.cell? ⟨b, 0, none⟩ = some (.pointer (some ⟨b, 0, none⟩)) := by rw [Lib.cell_of_heap hbk]; rfl
  have c1 : w1.cell? ⟨b, 1, none⟩ = some v := by rw [Lib.cell_of_heap hbk]; rfl
  go_wp2_with (at_builtin; refine wpList_append_ownF _ rfl _ _ 161 rfl B 5 i0 (.int .u8 0) 1 1 Tryz.underlying161 hi hz0 hz1 hz2 rfl (by decide) _ _ _ rfl (hown.alloc _) ⟨w1.heap.size, 0, none⟩ 1 1 [.int .u8 c] rfl rfl ?c1 ?c2 ?c3 ?c4 ?c5 ?_)
  case c1 =>
    intro j u hj
    match j, hj with
    | 0, hj => simp at hj; subst hj; simp [Addr.add]
  case c2 => intro u hu; simp at hu; subst hu; rfl
  case c3 => unfold maxLen; omega
  case c4 => omega
  case c5 => have := hb1.size; simp; omega
  intro v' w2 hown' hgrow _
  have hlt : b < w1.heap.size := by
    rcases Nat.lt_or_ge b w1.heap.size with h' | h'
    · exact h'
    · simp [Array.getElem?_eq_none h'] at hbk
  have hb2 : w2.heap[b]? = some (.cells #[.pointer (some ⟨b, 0, none⟩), v] 163 (0, 0)) := by
    rw [hgrow.block b (by simp; omega) (fun e => hne e.symm), Lib.alloc_old w1 _ b hlt]
    exact hbk
  have d0 : w2.cell? ⟨b, 0, none⟩ = some (.pointer (some ⟨b, 0, none⟩)) := by rw [Lib.cell_of_heap hb2]; rfl
  have d1 : w2.cell? ⟨b, 1, none⟩ = some v := by rw [Lib.cell_of_heap hb2]; rfl
  have f1 : w2.frozen? ⟨b, 1, none⟩ = false := Lib.frozen_of_heap hb2 1
  obtain ⟨g, cap, rfl⟩ : ∃ g cap, v' = .slice (some ⟨g, 0, none⟩) (bs.length + 1) cap := by
    rcases hown'.2 with ⟨_, h0⟩ | ⟨g, cap, cur, fz, hv, _⟩
    · omega
    · exact ⟨g, cap, hv⟩
  go_wp2
  go_ret
  refine ⟨rfl, ?_, ?_, ((hk1.alloc _).grown hgrow (Lib.ownsRowF_kind (hown.alloc _))).setCell ⟨b, 1, none⟩ rfl _⟩
  · exact Lib.BuilderAtF.put (T := 163) (e := 5) hB hb2 (bs' := bs ++ [.int .u8 c]) (by simpa using hown') neB5
  · exact ((hb1.alloc (by have := hb1.size; omega) _).grown hgrow (by have := hb1.size; simp; omega) (fun k hk => (hown.lt k hk).1)).setCell (p := ⟨b, 1, none⟩) hB _
end Go.Proofs.YtcgdlhkiecommaaGreatDoor
