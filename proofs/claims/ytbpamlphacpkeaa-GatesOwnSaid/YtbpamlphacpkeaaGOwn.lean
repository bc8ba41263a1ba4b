/- The law's own maker and net, computed. -/
import Derived.Test.YtbpamlphacpkeaaGAwake
import Derived.Test.YtbpamlphacpkeaaGMk
import Derived.Test.YtbpamlphacpkeaaGClean
set_option linter.unusedVariables false
set_option linter.unusedSimpArgs false
namespace Go.Proofs.Ytbpamlphacpkeaa
open Go

def sR : ByteArray := ByteArray.mk #[114]
def outsO : List (ByteArray × Int) := [(sO, 8)]
def MO : MS := MS.make [sA, sB] [sR] [0]
def MO2 : MS := (MO.and 2 4).2
theorem okNames_r : okNames [sR] = true := by
  rw [okNames, Bool.and_eq_true]
  refine ⟨by decide, ?_⟩
  show (true && nameAt [sR] 0) = true
  rw [nameAt_beq]
  decide
theorem mo_valid : (MO.made []).valid = true := by
  refine Net.valid_all ?_ (by decide) (by decide) (by decide)
  show (((okNames [sA, sB] && okNames [sR]) && okNames []) && _) = true
  rw [okNames_ab, okNames_nil, okNames_r]
  decide
theorem mo_ok : makeOK [sA, sB] [sR] [0] = true := by
  show (decide ([sR].length = ([0] : List Int).length) && (MO.made []).valid) = true
  rw [mo_valid]; rfl
theorem mo_small : (MO.made []).Small := by
  refine ⟨?_, ?_, ?_, ?_, ?_, ?_, ?_, ?_, ?_, ?_, ?_⟩ <;> decide
theorem mo_good : MO.Good := MS.make_good mo_valid mo_small
theorem mo2_good : MO2.Good := MS.and_good mo_good _ _
theorem mo2_valid : (MO2.nexts [8] outsO).valid = true := by
  refine Net.valid_all ?_ (by decide) (by decide) (by decide)
  show (((okNames [sA, sB] && okNames [sR]) && okNames [sO]) && _) = true
  rw [okNames_ab, okNames_o, okNames_r]
  decide
theorem mo2_len : ([8] : List Int).length = MO2.regs.length := by decide
theorem mo2_net : MO2.net [8] outsO = (MO2.nexts [8] outsO, 0) := MS.net_ok mo2_len mo2_valid
theorem mo2_small : (MO2.nexts [8] outsO).Small := by
  refine ⟨?_, ?_, ?_, ?_, ?_, ?_, ?_, ?_, ?_, ?_, ?_⟩ <;> decide
theorem few_lens {n : Net} (h : few n = true) : n.ins.length + n.regs.length + n.outs.length ≤ 1600 ∧ n.gates.length ≤ 2000 := by
  unfold few at h
  rw [Bool.and_eq_true, decide_eq_true_eq, decide_eq_true_eq] at h
  omega
theorem share_lens (n : Net) : n.share.1.regs.length ≤ n.regs.length ∧ n.share.1.outs.length ≤ n.outs.length := by
  unfold Net.share
  split
  · simp [laidN]
  · simp [Net.none]
theorem clean_lens (n : Net) : n.clean.1.regs.length ≤ n.regs.length ∧ n.clean.1.outs.length ≤ n.outs.length := by
  unfold Net.clean
  split
  · simp [laidN]
  · simp [Net.none]
theorem share_small_o {n : Net} (hn : n.Small) : n.share.1.Small := by
  unfold Net.share
  split
  · rename_i hv
    obtain ⟨f1, f2, f3, f4, f5, f6, f7⟩ := Net.valid_facts hv
    have hz := Net.share_inv0 hn hv n.gates.length (Nat.le_refl _)
    exact laid_small hn hv hz.bits.good.small (by have := hz.len; omega) hz.range
  · exact none_small
theorem clean_small_o {n : Net} (hn : n.Small) : n.clean.1.Small := by
  unfold Net.clean
  split
  · rename_i hv
    have hc := Net.clean_inv hv n.gates.length (Nat.le_refl _)
    obtain ⟨c1, c2, c3⟩ := hc.ok hn hv (Nat.le_refl _)
    exact laid_small hn hv c2 (by rw [hc.len]; rfl) c3
  · exact none_small
end Go.Proofs.Ytbpamlphacpkeaa
