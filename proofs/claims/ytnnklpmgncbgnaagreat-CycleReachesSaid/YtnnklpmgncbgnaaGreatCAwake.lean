/- The law's own test of the program, computed. -/
import Derived.Test.YtnnklpmgncbgnaaGreatCRound
import Derived.Test.YtnnklpmgncbgnaaGreatGAwake
set_option linter.unusedVariables false
set_option linter.unusedSimpArgs false
namespace Go.Proofs.YtnnklpmgncbgnaaGreat
open Go

def sQ : ByteArray := ByteArray.mk #[113]
def toggleN : Net := ⟨[sA], [(sQ, 0, 11)], [(2, 5), (3, 4), (7, 9)], [(sQ, 4)]⟩
theorem okNames_a : okNames [sA] = true := by
  rw [okNames, Bool.and_eq_true]
  refine ⟨by decide, ?_⟩
  show (true && nameAt [sA] 0) = true
  rw [nameAt_beq]
  decide
theorem okNames_q : okNames [sQ] = true := by
  rw [okNames, Bool.and_eq_true]
  refine ⟨by decide, ?_⟩
  show (true && nameAt [sQ] 0) = true
  rw [nameAt_beq]
  decide
theorem toggle_valid : toggleN.valid = true := by
  refine Net.valid_all ?_ (by decide) (by decide) (by decide)
  show (((okNames [sA] && okNames [sQ]) && okNames [sQ]) && _) = true
  rw [okNames_a, okNames_q]
  decide
theorem toggle_small : toggleN.Small := by
  refine ⟨?_, ?_, ?_, ?_, ?_, ?_, ?_, ?_, ?_, ?_, ?_⟩ <;> decide
theorem toggle_eval {a q : Int} (ha : a = 0 ∨ a = 1) (hq : q = 0 ∨ q = 1) : toggleN.eval [a] [q] = ([q], [if a = q then 0 else 1], 0) := by
  have hb : toggleN.bad [a] [q] = false := Net.not_bad_of toggle_valid (bit01_ok rfl (by intro x hx; simp at hx; subst hx; exact ha)) (bit01_ok rfl (by intro x hx; simp at hx; subst hx; exact hq))
  rw [Net.eval_ok hb]
  rcases ha with rfl | rfl <;> rcases hq with rfl | rfl <;> rfl
theorem toggle_run {ins : List (List Int)} (hl : ins.length ≤ 1000) (h : allTo (insAt toggleN ins) ins.length = true) : toggleN.run toggleN.firsts ins = (toggleN.outsAt toggleN.firsts ins ins.length, toggleN.stateAt toggleN.firsts ins ins.length, 0) :=
  Net.run_ok (Net.runHead_eq.2 ⟨toggle_valid, hl, by decide⟩) h
theorem t00 : toggleN.eval [0] [0] = ([0], [0], 0) := toggle_eval (.inl rfl) (.inl rfl)
theorem t01 : toggleN.eval [0] [1] = ([1], [1], 0) := toggle_eval (.inl rfl) (.inr rfl)
theorem t10 : toggleN.eval [1] [0] = ([0], [1], 0) := toggle_eval (.inr rfl) (.inl rfl)
theorem t11 : toggleN.eval [1] [1] = ([1], [0], 0) := toggle_eval (.inr rfl) (.inr rfl)
theorem toggle_firsts : toggleN.firsts = [0] := rfl
theorem run110 : toggleN.run toggleN.firsts [[1], [1], [0]] = ([[0], [1], [0]], [0], 0) := by
  rw [toggle_run (by decide) (by decide)]
  have s1 : toggleN.stateAt toggleN.firsts [[1], [1], [0]] 1 = [1] := by show (toggleN.eval [1] [0]).2.1 = _; rw [t10]
  have s2 : toggleN.stateAt toggleN.firsts [[1], [1], [0]] 2 = [0] := by show (toggleN.eval [1] (toggleN.stateAt toggleN.firsts [[1], [1], [0]] 1)).2.1 = _; rw [s1, t11]
  have s3 : toggleN.stateAt toggleN.firsts [[1], [1], [0]] 3 = [0] := by show (toggleN.eval [0] (toggleN.stateAt toggleN.firsts [[1], [1], [0]] 2)).2.1 = _; rw [s2, t00]
  have o : toggleN.outsAt toggleN.firsts [[1], [1], [0]] 3 = [(toggleN.eval [1] [0]).1, (toggleN.eval [1] (toggleN.stateAt toggleN.firsts [[1], [1], [0]] 1)).1, (toggleN.eval [0] (toggleN.stateAt toggleN.firsts [[1], [1], [0]] 2)).1] := rfl
  show (toggleN.outsAt toggleN.firsts [[1], [1], [0]] 3, toggleN.stateAt toggleN.firsts [[1], [1], [0]] 3, (0 : Int)) = _
  rw [o, s1, s2, s3, t10, t11, t00]
theorem run1 : toggleN.run toggleN.firsts [[1]] = ([[0]], [1], 0) := by
  rw [toggle_run (by decide) (by decide)]
  have s1 : toggleN.stateAt toggleN.firsts [[1]] 1 = [1] := by show (toggleN.eval [1] [0]).2.1 = _; rw [t10]
  have o : toggleN.outsAt toggleN.firsts [[1]] 1 = [(toggleN.eval [1] [0]).1] := rfl
  show (toggleN.outsAt toggleN.firsts [[1]] 1, toggleN.stateAt toggleN.firsts [[1]] 1, (0 : Int)) = _
  rw [o, s1, t10]
theorem run_e : toggleN.run toggleN.firsts [[]] = ([], [], 2) := Net.run_ins 0 (by decide) (by decide)
theorem toggle_smallB : toggleN.small = true := by decide
theorem toggle_fit : toggleN.fitE = 0 := by rw [Net.fitE, if_pos toggle_valid, if_pos toggle_smallB]
theorem toggle_bfs : toggleN.bfs = [(0, (-1, 0)), (1, (0, 1))] := by decide +kernel
theorem sortI_sorted {l : List Int} (h : l.Pairwise (fun x y => decide (x ≤ y) = true)) : sortI l = l := by
  have tr : ∀ a b c : Int, decide (a ≤ b) = true → decide (b ≤ c) = true → decide (a ≤ c) = true := by
    intro a b c h1 h2; simp at *; omega
  have to : ∀ a b : Int, (decide (a ≤ b) || decide (b ≤ a)) = true := by intro a b; simp; omega
  exact List.Perm.eq_of_pairwise (le := fun x y : Int => decide (x ≤ y) = true) (fun a b _ _ h1 h2 => by simp at h1 h2; omega) (List.pairwise_mergeSort tr to l) h (List.mergeSort_perm l _)
theorem toggle_reach : toggleN.reach = ([0, 1], 0) := by
  have e : toggleN.keysI = [0, 1] := by rw [Net.keysI, toggle_bfs]; rfl
  rw [Net.reach, if_pos toggle_fit, e, sortI_sorted (by decide)]
theorem toggle_way : toggleN.way 1 = ([[1]], 0) := by
  rw [Net.way, if_pos toggle_fit, if_neg (by decide)]
  have h1 : (kFind (1 : Int).toNat toggleN.bfs).isSome = true := by rw [toggle_bfs]; rfl
  have h2 : posOf toggleN.bfs (1 : Int).toNat = 1 := by rw [toggle_bfs]; rfl
  have h3 : toggleN.wayP 1 = [[1]] := by
    unfold Net.wayP
    simp only [Net.wayF, toggle_bfs]
    rfl
  rw [if_pos h1, h2, h3]
  rfl
theorem toggle_round : toggleN.round [1] = (0, 2, 0) := by
  have s0 : toggleN.rst [1] 0 = [0] := rfl
  have s1 : toggleN.rst [1] 1 = [1] := by show (toggleN.eval [1] (toggleN.rst [1] 0)).2.1 = _; rw [s0, t10]
  have s2 : toggleN.rst [1] 2 = [0] := by show (toggleN.eval [1] (toggleN.rst [1] 1)).2.1 = _; rw [s1, t11]
  have n0 : toggleN.rnum [1] 0 = 0 := by rw [Net.rnum, s0]; rfl
  have n1 : toggleN.rnum [1] 1 = 1 := by rw [Net.rnum, s1]; rfl
  have n2 : toggleN.rnum [1] 2 = 0 := by rw [Net.rnum, s2]; rfl
  have e0 : toggleN.rents [1] 0 = [] := rfl
  have e1 : toggleN.rents [1] 1 = [(0, 0)] := by rw [Net.rents_succ, n0, e0]; rfl
  have e2 : toggleN.rents [1] 2 = [(0, 0), (1, 1)] := by rw [Net.rents_succ, n1, e1]; rfl
  have h0 : toggleN.rhit [1] 0 = false := by rw [Net.rhit, e0]; rfl
  have h1 : toggleN.rhit [1] 1 = false := by rw [Net.rhit, e1, n1]; rfl
  have h2 : toggleN.rhit [1] 2 = true := by rw [Net.rhit, e2, n2]; rfl
  have hk : toggleN.roundK [1] = 2 := by
    rw [Net.roundK, firstTo_some (k := 2) (by decide) (firstTo_succ (firstTo_succ rfl h0) h1) h2]; rfl
  have ho : toggleN.roundOK [1] = true := by
    rw [Net.roundOK, toggle_valid]; decide
  rw [Net.round, if_pos ho, if_pos toggle_smallB, Net.roundA, hk, e2, n2]
  rfl
theorem toggle_many : toggleN.many [[3], [1]] = ([[0], [3]], 0) := by
  have ho : toggleN.manyOK [[3], [1]] = true := by
    rw [Net.manyOK, toggle_valid]; decide
  rw [Net.many, if_pos ho]
  decide +kernel
theorem ins110 : Ins [[1], [1], [0]] := ⟨by decide, fun l hl => by
  have : l = [1] ∨ l = [0] := by simpa using hl
  rcases this with rfl | rfl <;> exact ⟨by decide, by decide⟩⟩
theorem ins010 : Ins [[0], [1], [0]] := ⟨by decide, fun l hl => by
  simp only [List.mem_cons, List.not_mem_nil, or_false] at hl
  rcases hl with rfl | rfl | rfl <;> exact ⟨by decide, by decide⟩⟩
theorem ins1 : Ins [[1]] := ⟨by decide, by intro l hl; simp at hl; subst hl; exact ⟨by decide, by decide⟩⟩
theorem ins_e : Ins [[]] := ⟨by decide, by intro l hl; simp at hl; subst hl; exact ⟨by decide, by decide⟩⟩
theorem insu31 : InsU [[3], [1]] := ⟨by decide, fun l hl => by
  have : l = [3] ∨ l = [1] := by simpa using hl
  rcases this with rfl | rfl
  · exact ⟨by decide, fun x hx => by simp at hx; subst hx; decide⟩
  · exact ⟨by decide, fun x hx => by simp at hx; subst hx; decide⟩⟩
theorem bytes1 : Bytes [1] := ⟨by decide, by decide⟩
end Go.Proofs.YtnnklpmgncbgnaaGreat
