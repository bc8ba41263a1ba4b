/- More known bits make no known bit another one. -/
import Derived.Test.YtnnklpmgncbgnaaGreatGKnown
set_option linter.unusedVariables false
set_option linter.unusedSimpArgs false
namespace Go.Proofs.YtnnklpmgncbgnaaGreat
open Go

def Le (a b : Int) : Prop := a = 2 ∨ a = b
def Cov (l m : List Int) : Prop := l.length = m.length ∧ ∀ k, Le (l.getD k default) (m.getD k default)
theorem le_not {a b : Int} (h : Le a b) : Le (notB a) (notB b) := by
  rcases h with rfl | rfl
  · exact .inl rfl
  · exact .inr rfl
theorem le_both {a b c d : Int} (ha : isBit a) (hb : isBit b) (hc : isBit c) (hd : isBit d) (h1 : Le a c) (h2 : Le b d) : Le (bothB a b) (bothB c d) := by
  unfold isBit at *
  unfold Le at *
  rcases ha with rfl | rfl | rfl <;> rcases hb with rfl | rfl | rfl <;> rcases hc with rfl | rfl | rfl <;> rcases hd with rfl | rfl | rfl <;> revert h1 h2 <;> decide
theorem cov_of {v w : List Int} (h : Cov v w) (l : Int) : Le (ofB v l) (ofB w l) := by
  have := h.2 (l / 2).toNat
  unfold ofB
  split
  · exact le_not this
  · exact this
theorem cov_append {a b c d : List Int} (h1 : Cov a c) (h2 : Cov b d) : Cov (a ++ b) (c ++ d) := by
  refine ⟨by simp [h1.1, h2.1], fun k => ?_⟩
  by_cases hk : k < a.length
  · have e1 : (a ++ b).getD k default = a.getD k default := by rw [List.getD_eq_getElem?_getD, List.getElem?_append_left hk, ← List.getD_eq_getElem?_getD]
    have e2 : (c ++ d).getD k default = c.getD k default := by rw [List.getD_eq_getElem?_getD, List.getElem?_append_left (by have := h1.1; omega), ← List.getD_eq_getElem?_getD]
    rw [e1, e2]; exact h1.2 k
  · have e1 : (a ++ b).getD k default = b.getD (k - a.length) default := by rw [List.getD_eq_getElem?_getD, List.getElem?_append_right (by omega), ← List.getD_eq_getElem?_getD]
    have e2 : (c ++ d).getD k default = d.getD (k - a.length) default := by rw [List.getD_eq_getElem?_getD, List.getElem?_append_right (by have := h1.1; omega), ← List.getD_eq_getElem?_getD, h1.1]
    rw [e1, e2]; exact h2.2 _
theorem cov_refl (l : List Int) : Cov l l := ⟨rfl, fun _ => .inr rfl⟩
theorem cov_one {a b : Int} (h : Le a b) : Cov [a] [b] := ⟨rfl, fun k => by
  cases k with
  | zero => exact h
  | succ k => exact .inr rfl⟩
theorem Net.vals_cov {n : Net} (hv : n.valid = true) {ins regs ins' regs' : List Int} (l1 : ins.length = n.ins.length) (l2 : regs.length = n.regs.length) (b1 : ∀ x ∈ ins, isBit x) (b2 : ∀ x ∈ regs, isBit x) (b3 : ∀ x ∈ ins', isBit x) (b4 : ∀ x ∈ regs', isBit x)
    (h1 : Cov ins ins') (h2 : Cov regs regs') : ∀ i, i ≤ n.gates.length → Cov (n.valsTo ins regs i) (n.valsTo ins' regs' i)
  | 0, _ => cov_append (cov_append (cov_refl _) h1) h2
  | i + 1, hi => by
    have ih := Net.vals_cov hv l1 l2 b1 b2 b3 b4 h1 h2 i (by omega)
    obtain ⟨_, _, _, _, f5, _, _⟩ := Net.valid_facts hv
    have hg := f5 i (by omega)
    have e1 := n.valsTo_length ins regs i
    have e2 := n.valsTo_length ins' regs' i
    have e3 := h1.1
    have e4 := h2.1
    have v1 := n.valsTo_bit b1 b2 i
    have v2 := n.valsTo_bit b3 b4 i
    refine cov_append ih (cov_one (le_both (ofB_bit v1 (by omega)) (ofB_bit v1 (by omega)) (ofB_bit v2 (by omega)) (ofB_bit v2 (by omega)) (cov_of ih _) (cov_of ih _)))
theorem cov_map {α : Type} (f g : α → Int) : ∀ l : List α, (∀ x, Le (f x) (g x)) → Cov (l.map f) (l.map g)
  | [], _ => cov_refl _
  | x :: l, h => cov_append (a := [f x]) (c := [g x]) (cov_one (h x)) (cov_map f g l h)
theorem cov_covers {l m : List Int} (h : Cov l m) : coversB l m = true := by
  rw [coversB, Bool.and_eq_true]
  refine ⟨by rw [h.1]; simp, allTo_iff.2 fun k _ => ?_⟩
  rcases h.2 k with e | e
  · rw [e]; rfl
  · rw [← e]; simp
theorem moreTo_all (l : List Int) (turn : Int) : moreTo l turn l.length = moreOf l turn := by
  rw [moreTo, List.drop_length, List.append_nil, List.take_of_length_le (by simp [moreOf])]
theorem moreOf_length (l : List Int) (turn : Int) : (moreOf l turn).length = l.length := by simp [moreOf]
theorem moreOf_cov (l : List Int) (turn : Int) : Cov l (moreOf l turn) := by
  refine ⟨(moreOf_length l turn).symm, fun k => ?_⟩
  rw [List.getD_eq_getElem?_getD, List.getD_eq_getElem?_getD, moreOf, List.getElem?_mapIdx]
  cases h : l[k]? with
  | none => exact .inr rfl
  | some b =>
    show Le b (moreVal turn k b)
    unfold moreVal
    split
    · rename_i e
      simp only [Bool.and_eq_true, beq_iff_eq] at e
      exact .inl e.1
    · exact .inr rfl
theorem moreOf_bit {l : List Int} {turn : Int} (h : ∀ x ∈ l, isBit x) : ∀ x ∈ moreOf l turn, isBit x := by
  intro x hx
  rw [moreOf, List.mem_mapIdx] at hx
  obtain ⟨i, hi, rfl⟩ := hx
  unfold moreVal
  split
  · unfold isBit; omega
  · exact h _ (List.getElem_mem hi)
theorem bit_range {l : List Int} (h : ∀ x ∈ l, isBit x) : ∀ x ∈ l, 0 ≤ x ∧ x ≤ 255 := by
  intro x hx
  have := h x hx
  unfold isBit at this
  omega
theorem bits_ok {l : List Int} {m : Nat} (h : l.length = m) (hb : ∀ x ∈ l, isBit x) : bitsOK l m = true := by
  rw [bitsOK_iff]
  refine ⟨h, fun k hk => ?_⟩
  have := hb _ (getD_mem (v := l) hk)
  unfold isBit at this
  omega
theorem Net.bad_ok {n : Net} {ins regs : List Int} (hv : n.valid = true) (l1 : ins.length = n.ins.length) (l2 : regs.length = n.regs.length) (b1 : ∀ x ∈ ins, isBit x) (b2 : ∀ x ∈ regs, isBit x) : n.bad ins regs = false := by
  rw [Net.bad, hv, bits_ok l1 b1, bits_ok l2 b2]; rfl
/-- The law's answer. -/
theorem Net.known_law {n : Net} (hv : n.valid = true) {ins regs : List Int} (turn : Int) (l1 : ins.length = n.ins.length) (l2 : regs.length = n.regs.length) (b1 : ∀ x ∈ ins, isBit x) (b2 : ∀ x ∈ regs, isBit x) :
    (n.eval ins regs).2.2 = 0 ∧ (n.eval (moreTo ins turn ins.length) (moreTo regs turn regs.length)).2.2 = 0 ∧
    coversB (n.eval ins regs).1 (n.eval (moreTo ins turn ins.length) (moreTo regs turn regs.length)).1 = true ∧
    coversB (n.eval ins regs).2.1 (n.eval (moreTo ins turn ins.length) (moreTo regs turn regs.length)).2.1 = true := by
  rw [moreTo_all, moreTo_all]
  have c1 := moreOf_cov ins turn
  have c2 := moreOf_cov regs turn
  have b3 := moreOf_bit (turn := turn) b1
  have b4 := moreOf_bit (turn := turn) b2
  rw [Net.eval_ok (Net.bad_ok hv l1 l2 b1 b2), Net.eval_ok (Net.bad_ok hv (by rw [← c1.1]; exact l1) (by rw [← c2.1]; exact l2) b3 b4)]
  have c := Net.vals_cov hv l1 l2 b1 b2 b3 b4 c1 c2 n.gates.length (Nat.le_refl _)
  exact ⟨rfl, rfl, cov_covers (cov_map _ _ _ fun p => cov_of c _), cov_covers (cov_map _ _ _ fun p => cov_of c _)⟩
end Go.Proofs.YtnnklpmgncbgnaaGreat
