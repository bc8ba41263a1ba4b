/- Nets whose first values are known; tests of all of a list. -/
import Derived.Test.YtnnklpmgncbgnaaGreatCRun
set_option linter.unusedVariables false
set_option linter.unusedSimpArgs false
namespace Go.Proofs.YtnnklpmgncbgnaaGreat
open Go

def bit1At (l : List Int) (i : Nat) : Bool := decide (l.getD i default > 1)
def firstX (l : List Int) : Int := match firstTo (bit1At l) l.length with | some k => k | none => -1
def regBad (l : List (ByteArray × Int × Int)) (i : Nat) : Bool := decide ((l.getD i default).2.1 > 1)
def firstR (l : List (ByteArray × Int × Int)) : Int := match firstTo (regBad l) l.length with | some k => k | none => -1
def Net.known (n : Net) : Bool := !decide (firstR n.regs ≥ 0)
def Net.small (n : Net) : Bool := (n.known && decide ((n.ins.length : Int) ≤ 10)) && decide ((n.regs.length : Int) ≤ 12)
theorem firstBad_none {l : List Int} : decide (firstBad l ≥ 0) = !allTo (fun k => !bitAt l k) l.length := by
  unfold firstBad
  cases h : firstTo (bitAt l) l.length with
  | none => rw [firstTo_none.1 h]; rfl
  | some k =>
    cases h2 : allTo (fun k => !bitAt l k) l.length with
    | true => rw [firstTo_none.2 h2] at h; cases h
    | false => simp
theorem runHead_or {n : Net} {st : List Int} {ins : List (List Int)} : (((!n.valid || decide ((ins.length : Int) > 1000)) || ((st.length : Int) != n.regs.length)) || decide (firstBad st ≥ 0)) = !n.runHead st ins := by
  rw [Net.runHead, bitsOK]
  have e1 : decide ((ins.length : Int) > 1000) = !decide ((ins.length : Int) ≤ 1000) := by
    by_cases h : (ins.length : Int) ≤ 1000
    · rw [decide_eq_true h, decide_eq_false (by omega)]; rfl
    · rw [decide_eq_false h, decide_eq_true (by omega)]; rfl
  have e2 : ((st.length : Int) != n.regs.length) = !((st.length : Int) == n.regs.length) := rfl
  rw [e1, e2]
  generalize decide ((ins.length : Int) ≤ 1000) = b
  generalize ((st.length : Int) == n.regs.length) = c
  generalize decide (firstBad st ≥ 0) = d
  cases n.valid <;> cases b <;> cases c <;> cases d <;> rfl
theorem bitsOK_or {l : List Int} {m : Int} : (((l.length : Int) != m) || decide (firstBad l ≥ 0)) = !bitsOK l m := by
  rw [bitsOK]
  have e2 : ((l.length : Int) != m) = !((l.length : Int) == m) := rfl
  rw [e2]
  generalize ((l.length : Int) == m) = c
  generalize decide (firstBad l ≥ 0) = d
  cases c <;> cases d <;> rfl
theorem runHead_or2 {n : Net} {st : List Int} {ins : List (List Int)} : ((!n.valid || decide ((ins.length : Int) > 1000)) || !bitsOK st n.regs.length) = !n.runHead st ins := by
  rw [← runHead_or, ← bitsOK_or, Bool.or_assoc]
  simp only [Bool.or_assoc]
theorem known_ne {b : Int} : known b = !((b != 0 && b != 1) && b != 2) := by
  unfold known
  have e0 : (b != 0) = !(b == 0) := rfl
  have e1 : (b != 1) = !(b == 1) := rfl
  have e2 : (b != 2) = !(b == 2) := rfl
  rw [e0, e1, e2]
  cases b == 0 <;> cases b == 1 <;> cases b == 2 <;> rfl
theorem Net.firsts_bytes {n : Net} (hn : n.Small) : Bytes n.firsts := by
  refine ⟨by have := hn.regsL; simp only [Net.firsts, List.length_map]; omega, fun x hx => ?_⟩
  obtain ⟨r, hr, rfl⟩ := List.mem_map.1 hx
  exact hn.bytes r hr
theorem sameL_len {a b : List (List Int)} (h : ((a.length : Int) != b.length) = true) : sameL a b = false := by
  rw [sameL]
  have e : ((a.length : Int) == b.length) = false := by simpa using h
  rw [e]; rfl
theorem sameL_at {a b : List (List Int)} (i : Nat) (hi : i < a.length) (h : sameBits (a.getD i default) (b.getD i default) = false) : sameL a b = false := by
  rw [sameL, allTo_false i hi h, Bool.and_false]
end Go.Proofs.YtnnklpmgncbgnaaGreat
