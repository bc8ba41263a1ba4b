/- Levels and cones, in plain Lean. -/
import Derived.Test.YtbpamlphacpkeaaGAwake
set_option linter.unusedVariables false
set_option linter.unusedSimpArgs false
namespace Go.Proofs.Ytbpamlphacpkeaa
open Go

def levAt (v : List Int) (g : Int × Int) : Int := 1 + max (v.getD (0 + (g.1 / 2).toNat) default) (v.getD (0 + (g.2 / 2).toNat) default)
def Net.levTo (n : Net) : Nat → List Int
  | 0 => List.replicate n.first.toNat 0
  | i + 1 => n.levTo i ++ [levAt (n.levTo i) (n.gates.getD i default)]
theorem Net.first_nat (n : Net) : n.first.toNat = 1 + n.ins.length + n.regs.length := by unfold Net.first; omega
theorem Net.levTo_length (n : Net) : ∀ i, (n.levTo i).length = 1 + n.ins.length + n.regs.length + i
  | 0 => by simp [Net.levTo, n.first_nat]
  | i + 1 => by simp [Net.levTo, n.levTo_length i]; omega
theorem Net.levTo_range (n : Net) : ∀ i, ∀ k, 0 ≤ (n.levTo i).getD k default ∧ (n.levTo i).getD k default ≤ i
  | 0, k => by
    rw [List.getD_eq_getElem?_getD, Net.levTo, List.getElem?_replicate]
    split <;> simp <;> decide
  | i + 1, k => by
    have ih := n.levTo_range i
    rw [List.getD_eq_getElem?_getD, Net.levTo]
    by_cases hk : k < (n.levTo i).length
    · rw [List.getElem?_append_left hk, ← List.getD_eq_getElem?_getD]
      have := ih k; omega
    · rw [List.getElem?_append_right (by omega)]
      by_cases e : k - (n.levTo i).length = 0
      · rw [e]
        have h1 := ih (0 + ((n.gates.getD i default).1 / 2).toNat)
        have h2 := ih (0 + ((n.gates.getD i default).2 / 2).toNat)
        simp only [List.getElem?_cons_zero, Option.getD_some]
        unfold levAt
        omega
      · rw [List.getElem?_eq_none (by simp; omega)]
        have : (default : Int) = 0 := rfl
        simp only [Option.getD_none]
        omega
def Net.levels (n : Net) : List Int × Int := if n.valid then (n.levTo n.gates.length, 0) else ([], 2)

/-! ### What depends on what -/
def mark (v : List Bool) (lit : Int) : List Bool := v.set (0 + (lit / 2).toNat) true
def marks (v : List Bool) : List Int → List Bool
  | [] => v
  | x :: l => marks (mark v x) l
theorem marks_snoc (v : List Bool) (l : List Int) (x : Int) : marks v (l ++ [x]) = mark (marks v l) x := by
  induction l generalizing v with
  | nil => rfl
  | cons y l ih => exact ih _
def Net.all0 (n : Net) : List Bool := List.replicate (n.first + n.gates.length).toNat false
def Net.marksTo (n : Net) (l : List Int) (i : Nat) : List Bool := marks n.all0 (l.take i)
theorem Net.marksTo_succ (n : Net) (l : List Int) (i : Nat) (hi : i < l.length) : n.marksTo l (i + 1) = mark (n.marksTo l i) (l.getD i default) := by
  rw [Net.marksTo, take_succ_getD l i hi, marks_snoc]; rfl
theorem mark_length (v : List Bool) (x : Int) : (mark v x).length = v.length := by simp [mark]
theorem marks_length (v : List Bool) (l : List Int) : (marks v l).length = v.length := by
  induction l generalizing v with
  | nil => rfl
  | cons y l ih => rw [marks, ih, mark_length]
theorem Net.all0_length (n : Net) : n.all0.length = 1 + n.ins.length + n.regs.length + n.gates.length := by
  rw [Net.all0, List.length_replicate]; unfold Net.first; omega
def Net.useStep (n : Net) (v : List Bool) (i : Nat) : List Bool :=
  if v.getD (0 + (n.first + ((i : Int) - 1)).toNat) default then mark (mark v (n.gates.getD ((i : Int) - 1).toNat default).1) (n.gates.getD ((i : Int) - 1).toNat default).2 else v
/-- Of k gates from the last one on. -/
def Net.useDn (n : Net) (v : List Bool) : Nat → List Bool
  | 0 => v
  | k + 1 => n.useStep (n.useDn v k) (n.gates.length - k)
/-- Gates from number i on are done. -/
def Net.useAt (n : Net) (v : List Bool) (i : Nat) : List Bool := n.useDn v (n.gates.length - i)
theorem Net.useAt_top (n : Net) (v : List Bool) : n.useAt v n.gates.length = v := by rw [Net.useAt, Nat.sub_self]; rfl
theorem Net.useAt_step (n : Net) (v : List Bool) (i : Nat) (h0 : 0 < i) (hi : i ≤ n.gates.length) : n.useAt v (i - 1) = n.useStep (n.useAt v i) i := by
  have e : n.gates.length - (i - 1) = (n.gates.length - i) + 1 := by omega
  rw [Net.useAt, e, Net.useDn]
  have e2 : n.gates.length - (n.gates.length - i) = i := by omega
  rw [e2]; rfl
theorem Net.useStep_length (n : Net) (v : List Bool) (i : Nat) : (n.useStep v i).length = v.length := by
  unfold Net.useStep
  split
  · rw [mark_length, mark_length]
  · rfl
theorem Net.useDn_length (n : Net) (v : List Bool) : ∀ k, (n.useDn v k).length = v.length
  | 0 => rfl
  | k + 1 => by rw [Net.useDn, n.useStep_length, n.useDn_length v k]
theorem Net.useAt_length (n : Net) (v : List Bool) (i : Nat) : (n.useAt v i).length = v.length := n.useDn_length v _
def Net.used (n : Net) (l : List Int) : List Bool := n.useAt (n.marksTo l l.length) 0
theorem Net.marksTo_length (n : Net) (l : List Int) (i : Nat) : (n.marksTo l i).length = 1 + n.ins.length + n.regs.length + n.gates.length := by rw [Net.marksTo, marks_length, n.all0_length]
theorem Net.used_length (n : Net) (l : List Int) : (n.used l).length = 1 + n.ins.length + n.regs.length + n.gates.length := by rw [Net.used, n.useAt_length, n.marksTo_length]
theorem Net.useStep_yes {n : Net} {v : List Bool} {i : Nat} (h : v.getD (0 + (n.first + ((i : Int) - 1)).toNat) default = true) : n.useStep v i = mark (mark v (n.gates.getD ((i : Int) - 1).toNat default).1) (n.gates.getD ((i : Int) - 1).toNat default).2 := by rw [Net.useStep, if_pos h]
theorem Net.useStep_no {n : Net} {v : List Bool} {i : Nat} (h : v.getD (0 + (n.first + ((i : Int) - 1)).toNat) default = false) : n.useStep v i = v := by rw [Net.useStep, if_neg (by rw [h]; decide)]

/-- The numbers of those that are marked. -/
def coneTo (v : List Bool) : Nat → List Int
  | 0 => []
  | i + 1 => if v.getD i default then coneTo v i ++ [(i : Int)] else coneTo v i
theorem coneTo_yes {v : List Bool} {i : Nat} (h : v.getD i default = true) : coneTo v (i + 1) = coneTo v i ++ [(i : Int)] := by rw [coneTo, if_pos h]
theorem coneTo_no {v : List Bool} {i : Nat} (h : v.getD i default = false) : coneTo v (i + 1) = coneTo v i := by rw [coneTo, if_neg (by rw [h]; decide)]
theorem coneTo_length (v : List Bool) : ∀ i, (coneTo v i).length ≤ i
  | 0 => Nat.le_refl _
  | i + 1 => by
    have := coneTo_length v i
    rw [coneTo]; split
    · simp; omega
    · omega
def Net.cone (n : Net) (lit : Int) : List Int × Int :=
  if n.valid && litOK lit (n.first + n.gates.length) then (coneTo (n.used [lit]) (n.used [lit]).length, 0) else ([], 2)
theorem Net.cone_ok {n : Net} {lit : Int} (hv : n.valid = true) (h0 : 0 ≤ lit) (h1 : lit / 2 < n.first + n.gates.length) : n.cone lit = (coneTo (n.used [lit]) (n.used [lit]).length, 0) := by
  rw [Net.cone, if_pos (by rw [hv, litOK, decide_eq_true h0, decide_eq_true h1]; rfl)]
theorem Net.cone_bad {n : Net} {lit : Int} (h : (n.valid && litOK lit (n.first + n.gates.length)) = false) : n.cone lit = ([], 2) := by
  rw [Net.cone, if_neg (by rw [h]; decide)]
theorem Net.nodes_range (n : Net) : 0 ≤ n.nodes.1 ∧ n.nodes.1 ≤ 21001 := by
  unfold Net.nodes
  split
  · rename_i hv
    obtain ⟨f1, f2, f3, f4, _⟩ := Net.valid_facts hv
    simp only; omega
  · simp
theorem Net.nodes_cone {n : Net} {lit : Int} (h : ((n.nodes.2 != 0 || decide (lit < 0)) || decide (lit ≥ 2 * n.nodes.1)) = false) : n.valid = true ∧ 0 ≤ lit ∧ lit < 2 * (1 + n.ins.length + n.regs.length + n.gates.length) := by
  simp only [Bool.or_eq_false_iff, decide_eq_false_iff_not] at h
  obtain ⟨⟨h1, h2⟩, h3⟩ := h
  unfold Net.nodes at h1 h3
  split at h1
  · rename_i hv
    rw [if_pos hv] at h3
    refine ⟨hv, by omega, by simp only at h3; omega⟩
  · simp at h1
theorem Net.nodes_cone_bad {n : Net} {lit : Int} (h : ((n.nodes.2 != 0 || decide (lit < 0)) || decide (lit ≥ 2 * n.nodes.1)) = true) : n.cone lit = ([], 2) := by
  apply Net.cone_bad
  cases hv : n.valid with
  | false => rfl
  | true =>
    simp only [Bool.or_eq_true, decide_eq_true_eq] at h
    unfold Net.nodes at h
    rw [hv] at h
    simp only [if_true] at h
    simp only [Bool.true_and, litOK]
    unfold Net.first
    cases e1 : decide (lit ≥ 0) with
    | false => rfl
    | true =>
      simp only [decide_eq_true_eq] at e1
      simp only [Bool.true_and, decide_eq_false_iff_not]
      rcases h with (h | h) | h
      · simp at h
      · omega
      · omega
theorem Net.cone_ref {n : Net} {lit : Int} (h : (!n.valid || !litOK lit (n.first + n.gates.length)) = false) : n.valid = true ∧ 0 ≤ lit ∧ lit < 2 * (1 + n.ins.length + n.regs.length + n.gates.length) := by
  simp only [Bool.or_eq_false_iff, Bool.not_eq_false', litOK, Bool.and_eq_true, decide_eq_true_eq] at h
  unfold Net.first at h
  exact ⟨h.1, by omega, by omega⟩
theorem Net.cone_bad2 {n : Net} {lit : Int} (h : (!n.valid || !litOK lit (n.first + n.gates.length)) = true) : n.cone lit = ([], 2) := Net.cone_bad (by rw [not_or_not h]; rfl)
theorem Net.cone_yes {n : Net} {lit : Int} (h : n.valid = true ∧ 0 ≤ lit ∧ lit < 2 * (1 + n.ins.length + n.regs.length + n.gates.length)) : n.cone lit = (coneTo (n.used [lit]) (n.used [lit]).length, 0) :=
  Net.cone_ok h.1 h.2.1 (by unfold Net.first; omega)
theorem one_lit {n : Net} {lit : Int} (h : n.valid = true ∧ 0 ≤ lit ∧ lit < 2 * (1 + n.ins.length + n.regs.length + n.gates.length)) : ([lit] : List Int).length ≤ 100000 ∧ ∀ x ∈ [lit], 0 ≤ x ∧ x < 2 * (1 + (n.ins.length : Int) + n.regs.length + n.gates.length) := by
  refine ⟨by simp, fun x hx => ?_⟩
  simp at hx; subst hx; omega
theorem Net.cone_len {n : Net} (hn : n.Small) (lit : Int) : (n.cone lit).1.length ≤ 140737488355328 := by
  have h1 := hn.insL
  have h2 := hn.regsL
  have h3 := hn.gatesL
  have h4 := coneTo_length (n.used [lit]) (n.used [lit]).length
  have h5 := n.used_length [lit]
  unfold Net.cone
  split
  · simp only; omega
  · simp
theorem Net.lev_len {n : Net} (hn : n.Small) : n.levels.1.length ≤ 140737488355328 := by
  have h1 := hn.insL
  have h2 := hn.regsL
  have h3 := hn.gatesL
  have h4 := n.levTo_length n.gates.length
  unfold Net.levels
  split
  · simp only; omega
  · simp
end Go.Proofs.Ytbpamlphacpkeaa
