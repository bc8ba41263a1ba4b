/- 'Share' of the reference: the same run, with registers that keep their own next literals meanwhile. -/
import Derived.Test.YtbpamlphacpkeaaGShare
set_option linter.unusedVariables false
set_option linter.unusedSimpArgs false
namespace Go.Proofs.Ytbpamlphacpkeaa
open Go

/-- The same maker with other inputs and registers, as many. -/
def MS.wr (s : MS) (n : Net) : MS := { s with ins := n.ins, regs := n.regs }
theorem MS.no_wr {s : MS} {n : Net} (h1 : n.ins.length = s.ins.length) (h2 : n.regs.length = s.regs.length) (l : List Int) : (s.wr n).no l = s.no l := by
  have e : (s.wr n).lits = s.lits := by
    show 2 * (((1 + (n.ins.length : Int)) + n.regs.length) + s.gates.length) = 2 * (((1 + (s.ins.length : Int)) + s.regs.length) + s.gates.length)
    rw [h1, h2]
  unfold MS.no MS.litAt
  rw [e]
theorem MS.and_wr {s : MS} {n : Net} (h1 : n.ins.length = s.ins.length) (h2 : n.regs.length = s.regs.length) (a b : Int) : (s.wr n).and a b = ((s.and a b).1, (s.and a b).2.wr n) := by
  have e : (s.wr n).lits = s.lits := by
    show 2 * (((1 + (n.ins.length : Int)) + n.regs.length) + s.gates.length) = 2 * (((1 + (s.ins.length : Int)) + s.regs.length) + s.gates.length)
    rw [h1, h2]
  have et : (s.wr n).th = s.th := rfl
  have eg : (s.wr n).gates = s.gates := rfl
  unfold MS.and
  rw [MS.no_wr h1 h2, et, eg, e]
  split
  · rfl
  · split
    · rfl
    · split
      · rfl
      · split
        · rfl
        · split
          · rfl
          · have : (s.wr n).add (min a b, max a b) = (s.add (min a b, max a b)).wr n := by
              unfold MS.add
              rw [e]; rfl
            rw [this]
theorem MS.wr_good {s : MS} {n : Net} (hn : n.Small) (hs : s.Good) (h1 : n.ins.length = s.ins.length) (h2 : n.regs.length = s.regs.length) : (s.wr n).Good := by
  obtain ⟨⟨a1, a2, a3, a4⟩, b, c⟩ := hs
  refine ⟨⟨by show n.ins.length ≤ 500; omega, by show n.regs.length ≤ 500; omega, a3, a4⟩, ?_, fun p => ?_⟩
  · exact ⟨hn.ins, hn.regs, (by intro p hp; cases hp), hn.insL, hn.regsL, b.gatesL, (by show ([] : List (ByteArray × Int)).length ≤ 8796093022208; simp), hn.bytes, b.gatesI, hn.regsI, (by intro p hp; cases hp)⟩
  · have e : (s.wr n).first = s.first := by
      show 1 + (n.ins.length : Int) + n.regs.length = 1 + (s.ins.length : Int) + s.regs.length
      rw [h1, h2]
    rw [e]
    exact c p
def regsS (made : List Int) (regs : List (ByteArray × Int × Int)) (i : Nat) : List (ByteArray × Int × Int) := (regs.map (sharedR made)).take i ++ regs.drop i
theorem regsS_length (made : List Int) (regs : List (ByteArray × Int × Int)) (i : Nat) : (regsS made regs i).length = regs.length := by
  simp [regsS]; omega
theorem regsS_get (made : List Int) (regs : List (ByteArray × Int × Int)) (i : Nat) (hi : i < regs.length) : (regsS made regs i).getD (0 + (i : Int).toNat) default = regs.getD i default := by
  have e : 0 + (i : Int).toNat = i := by omega
  rw [e, regsS, List.getD_eq_getElem?_getD, List.getD_eq_getElem?_getD, List.getElem?_append_right (by simp; omega)]
  have e2 : i - ((regs.map (sharedR made)).take i).length = 0 := by simp; omega
  rw [e2, List.getElem?_drop]
  rfl
theorem regsS_step (made : List Int) (regs : List (ByteArray × Int × Int)) (i : Nat) (hi : i < regs.length) : regsS made regs (i + 1) = (regsS made regs i).set (0 + (i : Int).toNat) (((regsS made regs i).getD (0 + (i : Int).toNat) default).1, ((regsS made regs i).getD (0 + (i : Int).toNat) default).2.1, nowV made (regs.getD i default).2.2) := by
  rw [regsS_get made regs i hi]
  have e0 : 0 + (i : Int).toNat = i := by omega
  rw [e0]
  have hl : (regs.map (sharedR made)).length = regs.length := by simp
  unfold regsS
  rw [take_succ_getD _ i (by omega), getD_map _ _ _ hi, List.set_append_right _ _ (by simp; omega)]
  have e : i - ((regs.map (sharedR made)).take i).length = 0 := by simp; omega
  rw [e, List.append_assoc]
  congr 1
  rw [List.drop_eq_getElem_cons hi]
  rfl
theorem regsS_all (made : List Int) (regs : List (ByteArray × Int × Int)) : regsS made regs regs.length = regs.map (sharedR made) := by
  rw [regsS, List.drop_length, List.append_nil, List.take_of_length_le (by simp)]
theorem now_le {made : List Int} (h : ∀ x ∈ made, 0 ≤ x ∧ x ≤ 100000) {l : Int} (hl : (l / 2).toNat < made.length) : nowV made l ≤ 9223372036854775807 := by
  have := h _ (getD_mem hl)
  unfold nowV
  rw [Nat.zero_add]
  split
  · rw [flip_eq]; split <;> omega
  · omega
theorem laidN_eq (n : Net) (s : MS) (made : List Int) : laidN n s made = ⟨n.ins, regsS made n.regs n.regs.length, s.gates, (n.outs.take n.outs.length).map (sharedP made)⟩ := by
  rw [regsS_all, List.take_length]; rfl
end Go.Proofs.Ytbpamlphacpkeaa
