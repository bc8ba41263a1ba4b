/- The law's own test of the program, computed. -/
import Derived.Test.YtnnklpmgncbgnaaGreatGMaker
set_option linter.unusedVariables false
set_option linter.unusedSimpArgs false
namespace Go.Proofs.YtnnklpmgncbgnaaGreat
open Go

def sA : ByteArray := ByteArray.mk #[97]
def sB : ByteArray := ByteArray.mk #[98]
def sO : ByteArray := ByteArray.mk #[111]
def W0 : MS := MS.start [sA, sB]
def W1 : MS := (W0.and 2 5).2
def W2 : MS := (W1.and 5 2).2
def W3 : MS := (W2.and 2 3).2
def W4 : MS := (W3.or 2 4).2
def W5 : MS := (W4.and 2 12).2
def outs5 : List (ByteArray × Int) := [(sO, 9)]

theorem nameAt_beq (l : List ByteArray) (i : Nat) : nameAt l i = (okName (l.getD i default) && allTo (fun k => !(l.getD k default == l.getD i default)) i) := by
  rw [nameAt]
  congr 1
  exact allTo_congr fun k _ => by rw [Go.beq_toListBytes]
theorem okNames_ab : okNames [sA, sB] = true := by
  rw [okNames, Bool.and_eq_true]
  refine ⟨by decide, ?_⟩
  show ((true && nameAt [sA, sB] 0) && nameAt [sA, sB] 1) = true
  rw [nameAt_beq, nameAt_beq]
  decide
theorem okNames_nil : okNames [] = true := by decide
theorem okNames_o : okNames [sO] = true := by
  rw [okNames, Bool.and_eq_true]
  refine ⟨by decide, ?_⟩
  show (true && nameAt [sO] 0) = true
  rw [nameAt_beq]
  decide
theorem valid_ab : ((MS.start [sA, sB]).made []).valid = true := by
  refine Net.valid_all ?_ (by decide) (by decide) (by decide)
  show (((okNames [sA, sB] && okNames []) && okNames []) && _) = true
  rw [okNames_ab, okNames_nil]
  decide
theorem small_ab : ((MS.start [sA, sB]).made []).Small := by
  refine ⟨?_, ?_, ?_, ?_, ?_, ?_, ?_, ?_, ?_, ?_, ?_⟩ <;> decide
theorem w0_ok : W0.OK := by refine ⟨?_, ?_, ?_, ?_⟩ <;> decide
theorem w1_ok : W1.OK := MS.and_ok w0_ok _ _
theorem w2_ok : W2.OK := MS.and_ok w1_ok _ _
theorem w3_ok : W3.OK := MS.and_ok w2_ok _ _
theorem v1 : (W0.and 2 5).1 = (6, 0) := by decide
theorem v2 : (W1.and 5 2).1 = (6, 0) := by decide
theorem v3 : (W2.and 2 3).1 = (0, 0) := by decide
theorem v4 : (W3.or 2 4).1 = (9, 0) := by decide
theorem v5 : (W4.and 2 12).1.2 = 2 := by decide
theorem w4_ok : W4.OK := by refine ⟨?_, ?_, ?_, ?_⟩ <;> decide
theorem w5_ok : W5.OK := MS.and_ok w4_ok _ _
theorem w5_regs : W5.regs = [] := by decide
theorem w5_eq : W5.made outs5 = ⟨[sA, sB], [], [(2, 5), (3, 5)], outs5⟩ := rfl
theorem valid5 : (W5.made outs5).valid = true := by
  refine Net.valid_all ?_ (by decide) (by decide) (by decide)
  show (((okNames [sA, sB] && okNames []) && okNames [sO]) && _) = true
  rw [okNames_ab, okNames_nil, okNames_o]
  decide
theorem small5 : (W5.made outs5).Small := by
  refine ⟨?_, ?_, ?_, ?_, ?_, ?_, ?_, ?_, ?_, ?_, ?_⟩ <;> decide
theorem net5 : W5.net0 outs5 = (W5.made outs5, 0) := by rw [MS.net0, if_pos valid5]
theorem bad5 : (W5.made outs5).bad [0, 1] [] = false := by
  rw [Net.bad, valid5]; decide
theorem eval5 : (W5.made outs5).eval [0, 1] [] = ([1], [], 0) := by
  rw [Net.eval_ok bad5]; decide

theorem sameBits_refl (l : List Int) : sameBits l l = true := by
  rw [sameBits, show allTo (fun i => (l.getD i default) == (l.getD i default)) l.length = true from allTo_iff.2 (fun k _ => beq_self_eq_true _)]
  simp
theorem Net.eval_len1 {n : Net} (hn : n.Small) (ins regs : List Int) : (n.eval ins regs).1.length ≤ 140737488355328 := by
  have := hn.outsL
  cases h : n.bad ins regs
  · rw [Net.eval_ok h]; simp; omega
  · rw [Net.eval_bad h]; simp
theorem Net.eval_len2 {n : Net} (hn : n.Small) (ins regs : List Int) : (n.eval ins regs).2.1.length ≤ 140737488355328 := by
  have := hn.regsL
  cases h : n.bad ins regs
  · rw [Net.eval_ok h]; simp; omega
  · rw [Net.eval_bad h]; simp
theorem Net.all_len {n : Net} (hn : n.Small) {ins regs : List Int} (_ : ins.length ≤ 140737488355328) (_ : regs.length ≤ 140737488355328) (h1 : ins.length ≤ 1000) (h2 : regs.length ≤ 1000) : (n.all ins regs).1.length ≤ 140737488355328 := by
  have := hn.gatesL
  cases h : n.bad ins regs
  · rw [Net.all_ok h]; simp only [Net.valsTo_length]; omega
  · rw [Net.all_bad h]; simp
end Go.Proofs.YtnnklpmgncbgnaaGreat
