/- What the law 'GatesKnown' asks of values: bits drawn, some of them told later, what covers what. -/
import Derived.Test.YtnnklpmgncbgnaaGreatGAwake
set_option linter.unusedVariables false
set_option linter.unusedSimpArgs false
namespace Go.Proofs.YtnnklpmgncbgnaaGreat
open Go

section
variable {P : Program} {n : Nat} {Q : APost} {env : Env} {σ : Store} {ops : Array Oper}
/-- A temporary's value, said otherwise. -/
theorem aw_as {c : Code} (t : Nat) {a : AVal} (b : AVal) (h : env.get t = some a) (e : a = b) (k : AW P n c Q ((t, b) :: env) σ) : AW P n c Q env σ := by
  subst e
  refine aw_weaken _ (fun u x hu => ?_) k
  rw [Env.get_cons] at hu
  split at hu
  · rename_i e; subst e; cases hu; exact h
  · exact hu
end

def bitVal (l : List Int) (i : Nat) (x : Bool) : Int :=
  if l.length = 0 then 0 else
  if (x && l.getD ((i : Int) % (l.length : Int)).toNat default % 3 == 2) then 2 else l.getD ((i : Int) % (l.length : Int)).toNat default % 2
theorem bitVal_nil {l : List Int} {i : Nat} {x : Bool} (h : l.length = 0) : bitVal l i x = 0 := by rw [bitVal, if_pos h]
theorem bitVal_two {l : List Int} {i : Nat} {x : Bool} (h : 0 < l.length) (h2 : (x && l.getD ((i : Int) % (l.length : Int)).toNat default % 3 == 2) = true) : bitVal l i x = 2 := by rw [bitVal, if_neg (by omega), if_pos h2]
theorem bitVal_bit {l : List Int} {i : Nat} {x : Bool} (h : 0 < l.length) (h2 : (x && l.getD ((i : Int) % (l.length : Int)).toNat default % 3 == 2) = false) : bitVal l i x = l.getD ((i : Int) % (l.length : Int)).toNat default % 2 := by rw [bitVal, if_neg (by omega), if_neg (by rw [h2]; decide)]
def bitsOf (l : List Int) (m : Nat) (x : Bool) : List Int := (List.range m).map fun i => bitVal l i x
theorem bitsOf_succ (l : List Int) (i : Nat) (x : Bool) : bitsOf l (i + 1) x = bitsOf l i x ++ [bitVal l i x] := by simp [bitsOf, List.range_succ]
theorem bitsOf_length (l : List Int) (m : Nat) (x : Bool) : (bitsOf l m x).length = m := by simp [bitsOf]
theorem mod_lt {l : List Int} (i : Nat) (h : 0 < l.length) : 0 ≤ (i : Int) % (l.length : Int) ∧ ((i : Int) % (l.length : Int)).toNat < l.length := by
  have h1 := Int.emod_nonneg (i : Int) (b := (l.length : Int)) (by omega)
  have h2 := Int.emod_lt_of_pos (i : Int) (b := (l.length : Int)) (by omega)
  omega
theorem bitVal_bit3 (l : List Int) (i : Nat) (x : Bool) : isBit (bitVal l i x) := by
  unfold bitVal isBit
  split
  · omega
  · split
    · omega
    · omega
theorem bitsOf_bit (l : List Int) (m : Nat) (x : Bool) : ∀ y ∈ bitsOf l m x, isBit y := by
  intro y hy
  obtain ⟨i, _, rfl⟩ := List.mem_map.1 hy
  exact bitVal_bit3 _ _ _

/-- One bit, told later. -/
def moreVal (turn : Int) (i : Nat) (b : Int) : Int := if (b == 2 && decide (((i : Int) + turn) % 3 > 0)) then ((i : Int) + turn / 3) % 2 else b
def moreOf (l : List Int) (turn : Int) : List Int := l.mapIdx fun i b => moreVal turn i b
/-- The first i of them told. -/
def moreTo (l : List Int) (turn : Int) (i : Nat) : List Int := (moreOf l turn).take i ++ l.drop i
theorem moreTo_length (l : List Int) (turn : Int) (i : Nat) : (moreTo l turn i).length = l.length := by
  simp [moreTo, moreOf]; omega
def coversB (l m : List Int) : Bool := (l.length : Int) == m.length && allTo (fun i => !(l.getD i default != 2 && l.getD i default != m.getD i default)) l.length
theorem moreTo_step (l : List Int) (turn : Int) (i : Nat) (hi : i < l.length) : moreTo l turn (i + 1) = (moreTo l turn i).set i (moreVal turn i (l.getD i default)) := by
  have hl : (moreOf l turn).length = l.length := by simp [moreOf]
  have hg : (moreOf l turn).getD i default = moreVal turn i (l.getD i default) := by
    rw [List.getD_eq_getElem?_getD, List.getD_eq_getElem?_getD, moreOf, List.getElem?_mapIdx, List.getElem?_eq_getElem hi]
    rfl
  unfold moreTo
  rw [take_succ_getD _ i (by omega), hg, List.set_append_right _ _ (by simp; omega)]
  have e : i - ((moreOf l turn).take i).length = 0 := by simp; omega
  rw [e, List.append_assoc]
  congr 1
  rw [List.drop_eq_getElem_cons hi]
  rfl
theorem moreTo_get (l : List Int) (turn : Int) (i : Nat) (hi : i < l.length) : (moreTo l turn i).getD (0 + (i : Int).toNat) default = l.getD i default := by
  have hl : (moreOf l turn).length = l.length := by simp [moreOf]
  have e : 0 + (i : Int).toNat = i := by omega
  rw [e, moreTo, List.getD_eq_getElem?_getD, List.getD_eq_getElem?_getD, List.getElem?_append_right (by simp; omega)]
  have e2 : i - ((moreOf l turn).take i).length = 0 := by simp; omega
  rw [e2, List.getElem?_drop]
  rfl
theorem moreTo_tell {l : List Int} {turn : Int} {i : Nat} (hi : i < l.length) (h : ((moreTo l turn i).getD (0 + (i : Int).toNat) default == 2 && decide (((i : Int) + turn) % 3 > 0)) = true) : moreTo l turn (i + 1) = (moreTo l turn i).set (0 + (i : Int).toNat) (((i : Int) + turn / 3) % 2) := by
  rw [moreTo_get l turn i hi] at h
  rw [moreTo_step l turn i hi, moreVal, if_pos h]
  congr 1
  omega
theorem moreTo_keep {l : List Int} {turn : Int} {i : Nat} (hi : i < l.length) (h : ((moreTo l turn i).getD (0 + (i : Int).toNat) default == 2 && decide (((i : Int) + turn) % 3 > 0)) = false) : moreTo l turn (i + 1) = moreTo l turn i := by
  have hg := moreTo_get l turn i hi
  rw [hg] at h
  rw [moreTo_step l turn i hi, moreVal, if_neg (by rw [h]; decide), ← hg]
  have e : 0 + (i : Int).toNat = i := by omega
  rw [e, List.getD_eq_getElem?_getD, List.getElem?_eq_getElem (by rw [moreTo_length]; exact hi)]
  exact List.set_getElem_self _
end Go.Proofs.YtnnklpmgncbgnaaGreat
