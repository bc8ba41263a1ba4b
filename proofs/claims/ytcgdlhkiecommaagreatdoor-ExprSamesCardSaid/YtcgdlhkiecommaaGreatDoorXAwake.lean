/- The law's own fixed calls, computed. -/
import Derived.Test.YtcgdlhkiecommaaGreatDoorXTop2
import Derived.KernelRfl
set_option linter.all false
set_option maxRecDepth 100000
namespace Go.Proofs.YtcgdlhkiecommaaGreatDoor
open Go
def exS1 : Bs := [97, 32, 45, 32, 40, 32, 98, 32, 45, 32, 99, 32, 41, 32, 61, 32, 49]
def exS2 : Bs := [97, 32, 61, 32, 98, 32, 61, 32, 99]
def exS3 : Bs := [97, 32, 43, 32, 59]
def exS4 : Bs := [115, 32, 40, 32, 55, 32, 100, 111, 119, 110, 116, 111, 32, 52, 32, 41, 32, 60, 61, 32, 120]
def exS5 : Bs := [97, 114, 114, 97, 121, 32, 40, 32, 50, 32, 41, 32, 111, 102, 32, 118, 101, 99, 32, 40, 32, 110, 32, 41]
def okTB (t : Tk) : Bool := decide (t.text.length ≤ 1000000) && (decide (-9223372036854775808 ≤ t.n) && decide (t.n ≤ 9223372036854775807))
theorem okts_of {l : List Tk} (h : l.all okTB = true) : OKTs l := by
  intro t ht
  have := List.all_eq_true.1 h t ht
  simp only [okTB, Bool.and_eq_true, decide_eq_true_eq] at this
  exact ⟨this.1, this.2.1, this.2.2⟩
def rdE (l : List Tk) : Nat → Rd Ex := fun i => rowD l 40 4 i
def rdG (l : List Tk) : Nat → Rd Ex := fun i => targetP l i
def rdR (l : List Tk) : Nat → Rd Tr := fun i => typeP l i
theorem ex_words1 : (lexP exS1).1.all okTB = true ∧ (lexP exS1).1.length = 9 := ⟨by kernel_rfl, by kernel_rfl⟩
theorem ex_words2 : (lexP exS2).1.all okTB = true ∧ (lexP exS2).1.length = 5 := ⟨by kernel_rfl, by kernel_rfl⟩
theorem ex_words3 : (lexP exS3).1.all okTB = true ∧ (lexP exS3).1.length = 3 := ⟨by kernel_rfl, by kernel_rfl⟩
theorem ex_words4 : (lexP exS4).1.all okTB = true ∧ (lexP exS4).1.length = 8 := ⟨by kernel_rfl, by kernel_rfl⟩
theorem ex_words5 : (lexP exS5).1.all okTB = true ∧ (lexP exS5).1.length = 9 := ⟨by kernel_rfl, by kernel_rfl⟩
theorem ex1 : ∃ E : Ex, readP ex0 (lexP exS1).1 0 (rdE (lexP exS1).1) = (E, 9, okF) ∧ (E.op == 5) = true ∧ (E.name == [61]) = true ∧ (E.col == 15) = true ∧ E.kids.length = 2 ∧ szE E = true ∧ nobE E = true ∧ szX E = true ∧ (toks E).length = 9 ∧ dep E = 1 ∧ (toks E).all okTB = true ∧ textE E = (exS1, 0) ∧ namesE E = ([[97], [98], [99]], 0) ∧ validP E = true ∧ isTargP E = false :=
  ⟨(readP ex0 (lexP exS1).1 0 (rdE (lexP exS1).1)).1, by kernel_rfl, by kernel_rfl, by kernel_rfl, by kernel_rfl, by kernel_rfl, by kernel_rfl, by kernel_rfl, by kernel_rfl, by kernel_rfl, by kernel_rfl, by kernel_rfl, by kernel_rfl, by kernel_rfl, by kernel_rfl, by kernel_rfl⟩
theorem ex2 : ∃ E : Ex, readP ex0 (lexP exS2).1 0 (rdE (lexP exS2).1) = (E, 3, okF) := ⟨(readP ex0 (lexP exS2).1 0 (rdE (lexP exS2).1)).1, by kernel_rfl⟩
theorem ex3 : ∃ E : Ex, readP ex0 (lexP exS3).1 0 (rdE (lexP exS3).1) = (E, 0, ⟨11, [59], 1, 5⟩) := ⟨(readP ex0 (lexP exS3).1 0 (rdE (lexP exS3).1)).1, by kernel_rfl⟩
theorem ex4 : ∃ E : Ex, readP ex0 (lexP exS4).1 0 (rdG (lexP exS4).1) = (E, 6, okF) ∧ (E.op == 7) = true ∧ E.kids.length = 3 ∧ szE E = true ∧ nobE E = true ∧ (toks E).length = 6 ∧ dep E = 1 ∧ validP E = true ∧ isTargP E = true :=
  ⟨(readP ex0 (lexP exS4).1 0 (rdG (lexP exS4).1)).1, by kernel_rfl, by kernel_rfl, by kernel_rfl, by kernel_rfl, by kernel_rfl, by kernel_rfl, by kernel_rfl, by kernel_rfl, by kernel_rfl⟩
theorem ex5 : ∃ A B : Ex, ∃ i j i2 j2 : Int, readP tr0 (lexP exS5).1 0 (rdR (lexP exS5).1) = (Tr.mk sArray [A] [Tr.mk sVec [B] [] i2 j2] i j, 9, okF) ∧ szE A = true ∧ nobE A = true ∧ (toks A).length = 1 ∧ dep A = 0 ∧ szE B = true ∧ nobE B = true ∧ (toks B).length = 1 ∧ dep B = 0 ∧ (toksR (Tr.mk sArray [A] [Tr.mk sVec [B] [] i2 j2] i j)).all okTB = true ∧ textR (Tr.mk sArray [A] [Tr.mk sVec [B] [] i2 j2] i j) = (exS5, 0) ∧ validR (Tr.mk sArray [A] [Tr.mk sVec [B] [] i2 j2] i j) = true :=
  ⟨((readP tr0 (lexP exS5).1 0 (rdR (lexP exS5).1)).1.len.getD 0 default), (((readP tr0 (lexP exS5).1 0 (rdR (lexP exS5).1)).1.elem.getD 0 default).len.getD 0 default), 1, 1, 1, 16, by kernel_rfl, by kernel_rfl, by kernel_rfl, by kernel_rfl, by kernel_rfl, by kernel_rfl, by kernel_rfl, by kernel_rfl, by kernel_rfl, by kernel_rfl, by kernel_rfl, by kernel_rfl⟩
theorem okw_of {P : Program} {e : Ex} {n d : Nat} (h1 : szE e = true) (h2 : nobE e = true) (h3 : (toks e).length = n) (h4 : dep e = d) (hn : n ≤ 1000000000) (hd : d ≤ 1000000000) : OKW P e := ⟨h1, .inl h2, by omega, by omega⟩
theorem ok5 {P : Program} {A B : Ex} {i j i2 j2 : Int} (a1 : szE A = true) (a2 : nobE A = true) (a3 : (toks A).length = 1) (a4 : dep A = 0) (b1 : szE B = true) (b2 : nobE B = true) (b3 : (toks B).length = 1) (b4 : dep B = 0) : OKR P (Tr.mk sArray [A] [Tr.mk sVec [B] [] i2 j2] i j) := by
  refine ⟨⟨by decide, by simp, by simp, ?_, ?_, ?_⟩, ⟨⟨by decide, by simp, by simp, ?_, ?_, ?_⟩, trivial⟩, trivial⟩
  · intro x hx; rw [List.mem_singleton.1 hx]; exact okw_of a1 a2 a3 a4 (by omega) (by omega)
  · simp [toksR, toksRs, inBr, sepT, a3, b3]
  · simp [depR, depRs, maxL, a4, b4]
  · intro x hx; rw [List.mem_singleton.1 hx]; exact okw_of b1 b2 b3 b4 (by omega) (by omega)
  · simp [toksR, toksRs, inBr, sepT, a3, b3]
  · simp [depR, depRs, maxL, a4, b4]
theorem ex6 (P : Program) : ∃ R : Tr, readP tr0 (lexP exS5).1 0 (rdR (lexP exS5).1) = (R, 9, okF) ∧ OKR P R ∧ (toksR R).all okTB = true ∧ textR R = (exS5, 0) ∧ validR R = true := by
  obtain ⟨A, B, i, j, i2, j2, p5, a1, a2, a3, a4, b1, b2, b3, b4, r1, r2, r3⟩ := ex5
  exact ⟨_, p5, ok5 a1 a2 a3 a4 b1 b2 b3 b4, r1, r2, r3⟩
end Go.Proofs.YtcgdlhkiecommaaGreatDoor
