/- Sixty-four runs at once, in plain Lean. -/
import Derived.Test.YtnnklpmgncbgnaaGreatCKnow
import Derived.Test.YtnnklpmgncbgnaaGreatEngV
set_option linter.unusedVariables false
set_option linter.unusedSimpArgs false
namespace Go.Proofs.YtnnklpmgncbgnaaGreat
open Go

def encLU (l : List Nat) : List AVal := [.list 1 (l.map encU)]
def ones64 : Nat := 18446744073709551615
def maskOf (lit : Int) : Nat := if lit % 2 = 1 then ones64 else 0
theorem maskOf_lt (lit : Int) : maskOf lit < 2 ^ 64 := by unfold maskOf ones64; split <;> decide
theorem mask_neg (lit : Int) : IntKind.u64.wrap (0 - lit % 2) = (maskOf lit : Int) := by
  unfold maskOf ones64
  rcases Int.emod_two_eq lit with h | h <;> rw [h]
  · rfl
  · rfl
theorem mask_neg' {x : Int} {lit : Int} (h : x = lit % 2) : IntKind.u64.wrap (0 - x) = (maskOf lit : Int) := by rw [h, mask_neg]
theorem and_one8 {a : Int} (h0 : 0 ≤ a) (h1 : a ≤ 255) : IntKind.u8.wrap (BitVec.ofInt IntKind.u8.bits a &&& BitVec.ofInt IntKind.u8.bits 1).toNat = a % 2 := by
  have h : (BitVec.ofInt 8 a &&& BitVec.ofInt 8 1).toNat = (a % 2).toNat := by
    have e : BitVec.ofInt 8 1 = 1#8 := rfl
    rw [BitVec.toNat_and, e]
    have e1 : (BitVec.ofInt 8 a).toNat = a.toNat := by rw [BitVec.toNat_ofInt]; omega
    rw [e1]
    show a.toNat &&& 1 = _
    rw [Nat.and_one_is_mod]
    omega
  show IntKind.u8.wrap (BitVec.ofInt 8 a &&& BitVec.ofInt 8 1).toNat = a % 2
  rw [h]
  exact (wrap_u8 (by omega) (by omega)).trans (by omega)
/-- The 64 bits of a literal. -/
def wOf (v : List Nat) (lit : Int) : Nat := v.getD (lit / 2).toNat default ^^^ maskOf lit
def W64 (v : List Nat) : Prop := ∀ x ∈ v, x < 2 ^ 64
theorem w64_get {v : List Nat} (h : W64 v) (i : Nat) : v.getD i default < 2 ^ 64 := by
  by_cases hi : i < v.length
  · exact h _ (getD_mem hi)
  · rw [List.getD_eq_getElem?_getD, List.getElem?_eq_none (by omega)]; decide
theorem wOf_lt {v : List Nat} (h : W64 v) (lit : Int) : wOf v lit < 2 ^ 64 := Nat.xor_lt_two_pow (w64_get h _) (maskOf_lt _)
def Net.wideTo (n : Net) (ins st : List Nat) : Nat → List Nat
  | 0 => ([0] ++ ins) ++ st
  | i + 1 => n.wideTo ins st i ++ [wOf (n.wideTo ins st i) (n.gates.getD i default).1 &&& wOf (n.wideTo ins st i) (n.gates.getD i default).2]
theorem Net.wideTo_length (n : Net) (ins st : List Nat) : ∀ i, (n.wideTo ins st i).length = 1 + ins.length + st.length + i
  | 0 => by simp [Net.wideTo]; omega
  | i + 1 => by simp [Net.wideTo, Net.wideTo_length n ins st i]; omega
theorem Net.wideTo_64 (n : Net) {ins st : List Nat} (h1 : W64 ins) (h2 : W64 st) : ∀ i, W64 (n.wideTo ins st i)
  | 0 => by
    intro x hx
    simp only [Net.wideTo, List.mem_append, List.mem_singleton] at hx
    rcases hx with (rfl | hx) | hx
    · decide
    · exact h1 x hx
    · exact h2 x hx
  | i + 1 => by
    intro x hx
    have ih := Net.wideTo_64 n h1 h2 i
    simp only [Net.wideTo, List.mem_append, List.mem_singleton] at hx
    rcases hx with hx | rfl
    · exact ih x hx
    · exact Nat.and_lt_two_pow _ (wOf_lt ih _)
/-- What is asked of what goes in. -/
structure Wide (n : Net) (ins st : List Nat) : Prop where
  v : n.valid = true
  il : ins.length = n.ins.length
  sl : st.length = n.regs.length
  i64 : W64 ins
  s64 : W64 st
/-! ### Many -/
structure InsU (ins : List (List Nat)) : Prop where
  len : ins.length ≤ 5864062014805
  each : ∀ l ∈ ins, l.length ≤ 140737488355328 ∧ W64 l
theorem InsU.at {ins : List (List Nat)} (h : InsU ins) (i : Nat) : (ins.getD i default).length ≤ 140737488355328 ∧ W64 (ins.getD i default) := by
  by_cases hi : i < ins.length
  · exact h.each _ (getD_mem hi)
  · rw [List.getD_eq_getElem?_getD, List.getElem?_eq_none (by omega)]
    exact ⟨by show ([] : List Nat).length ≤ _; decide, by intro x hx; cases hx⟩
def lenBad (n : Net) (ins : List (List Nat)) (i : Nat) : Bool := (((ins.getD i default).length : Int) != n.ins.length)
def firstLen (n : Net) (ins : List (List Nat)) : Int := match firstTo (lenBad n ins) ins.length with | some k => k | none => -1
def Net.manyOK (n : Net) (ins : List (List Nat)) : Bool := ((n.valid && n.known) && decide ((ins.length : Int) ≤ 1000)) && !decide (firstLen n ins ≥ 0)
theorem manyOK_or {n : Net} {ins : List (List Nat)} : (((!n.valid || !n.known) || decide ((ins.length : Int) > 1000)) || decide (firstLen n ins ≥ 0)) = !n.manyOK ins := by
  rw [Net.manyOK]
  have e1 : decide ((ins.length : Int) > 1000) = !decide ((ins.length : Int) ≤ 1000) := by
    by_cases h : (ins.length : Int) ≤ 1000
    · rw [decide_eq_true h, decide_eq_false (by omega)]; rfl
    · rw [decide_eq_false h, decide_eq_true (by omega)]; rfl
  rw [e1]
  generalize decide ((ins.length : Int) ≤ 1000) = b
  generalize decide (firstLen n ins ≥ 0) = d
  cases n.valid <;> cases n.known <;> cases b <;> cases d <;> rfl
theorem firstLen_none {n : Net} {ins : List (List Nat)} : decide (firstLen n ins ≥ 0) = false ↔ ∀ i, i < ins.length → (ins.getD i default).length = n.ins.length := by
  unfold firstLen
  cases h : firstTo (lenBad n ins) ins.length with
  | none =>
    refine ⟨fun _ i hi => ?_, fun _ => rfl⟩
    have := allTo_iff.1 (firstTo_none.1 h) i hi
    rw [Bool.not_eq_true', lenBad, bne_eq_false_iff_eq] at this
    omega
  | some k =>
    refine ⟨fun h2 => by simp at h2, fun h2 => ?_⟩
    have : firstTo (lenBad n ins) ins.length = none := firstTo_none.2 (allTo_iff.2 fun i hi => by rw [lenBad, h2 i hi]; simp)
    rw [this] at h; cases h
theorem Net.manyOK_facts {n : Net} {ins : List (List Nat)} (h : n.manyOK ins = true) : n.valid = true ∧ n.known = true ∧ ins.length ≤ 1000 ∧ ∀ i, i < ins.length → (ins.getD i default).length = n.ins.length := by
  rw [Net.manyOK, Bool.and_eq_true, Bool.and_eq_true, Bool.and_eq_true, decide_eq_true_eq] at h
  obtain ⟨⟨⟨h1, h2⟩, h3⟩, h4⟩ := h
  exact ⟨h1, h2, by omega, firstLen_none.1 (by simpa using h4)⟩
def spreadR (r : ByteArray × Int × Int) : Nat := maskOf r.2.1
def nextW (v : List Nat) (r : ByteArray × Int × Int) : Nat := wOf v r.2.2
def outW (v : List Nat) (p : ByteArray × Int) : Nat := wOf v p.2
def Net.wst (n : Net) (ins : List (List Nat)) : Nat → List Nat
  | 0 => n.regs.map spreadR
  | i + 1 => n.regs.map (nextW (n.wideTo (ins.getD i default) (n.wst ins i) n.gates.length))
def Net.wv (n : Net) (ins : List (List Nat)) (i : Nat) : List Nat := n.wideTo (ins.getD i default) (n.wst ins i) n.gates.length
theorem Net.wst_succ (n : Net) (ins : List (List Nat)) (i : Nat) : n.wst ins (i + 1) = n.regs.map (nextW (n.wv ins i)) := rfl
theorem Net.wst_length (n : Net) (ins : List (List Nat)) (i : Nat) : (n.wst ins i).length = n.regs.length := by cases i <;> simp [Net.wst]
theorem Net.wst_64 (n : Net) {ins : List (List Nat)} (hi : InsU ins) : ∀ i, W64 (n.wst ins i)
  | 0 => by
    intro x hx
    obtain ⟨r, _, rfl⟩ := List.mem_map.1 (show x ∈ n.regs.map spreadR from hx)
    exact maskOf_lt _
  | i + 1 => by
    intro x hx
    obtain ⟨r, _, rfl⟩ := List.mem_map.1 hx
    exact wOf_lt (n.wideTo_64 (hi.at i).2 (n.wst_64 hi i) _) _
def Net.wouts (n : Net) (ins : List (List Nat)) (i : Nat) : List (List Nat) := (List.range i).map fun k => n.outs.map (outW (n.wv ins k))
theorem Net.wouts_succ (n : Net) (ins : List (List Nat)) (i : Nat) : n.wouts ins (i + 1) = n.wouts ins i ++ [n.outs.map (outW (n.wv ins i))] := by simp [Net.wouts, List.range_succ]
theorem Net.wouts_length (n : Net) (ins : List (List Nat)) (i : Nat) : (n.wouts ins i).length = i := by simp [Net.wouts]
def Net.many (n : Net) (ins : List (List Nat)) : List (List Nat) × Int := if n.manyOK ins then (n.wouts ins ins.length, 0) else ([], 2)
theorem Net.wide_at {n : Net} {ins : List (List Nat)} (hi : InsU ins) (h : n.manyOK ins = true) (i : Nat) (hl : i < ins.length) : Wide n (ins.getD i default) (n.wst ins i) := by
  obtain ⟨h1, h2, h3, h4⟩ := Net.manyOK_facts h
  exact ⟨h1, h4 i hl, n.wst_length ins i, (hi.at i).2, n.wst_64 hi i⟩
/-- The first elements are new ones. -/
def mixTo {α : Type} (a b : List α) (i : Nat) : List α := a.take i ++ b.drop i
theorem mixTo_length {α : Type} {a b : List α} (h : a.length = b.length) (i : Nat) : (mixTo a b i).length = b.length := by simp [mixTo]; omega
theorem mixTo_zero {α : Type} (a b : List α) : mixTo a b 0 = b := by simp [mixTo]
theorem mixTo_all {α : Type} {a b : List α} (h : a.length = b.length) : mixTo a b b.length = a := by rw [mixTo, ← h, List.take_length, h, List.drop_length, List.append_nil]
theorem mixTo_step {α : Type} [Inhabited α] {a b : List α} (h : a.length = b.length) (i : Nat) (hi : i < a.length) : mixTo a b (i + 1) = (mixTo a b i).set (0 + (i : Int).toNat) (a.getD i default) := by
  have e0 : 0 + (i : Int).toNat = i := by omega
  rw [e0, mixTo, mixTo, take_succ_getD a i hi, List.set_append_right _ _ (by simp; omega)]
  have e1 : i - (a.take i).length = 0 := by simp; omega
  have e2 : b.drop i = b.getD i default :: b.drop (i + 1) := by
    rw [List.drop_eq_getElem_cons (by omega), List.getD_eq_getElem?_getD, List.getElem?_eq_getElem (by omega)]; rfl
  rw [e1, e2, List.set_cons_zero, List.append_assoc]
  rfl
theorem Net.mix_next (n : Net) (ins : List (List Nat)) (i j : Nat) (hj : j < n.regs.length) : mixTo (n.wst ins (i + 1)) (n.wst ins i) (j + 1) = (mixTo (n.wst ins (i + 1)) (n.wst ins i) j).set (0 + (j : Int).toNat) (nextW (n.wv ins i) (n.regs.getD j default)) := by
  rw [mixTo_step (by rw [n.wst_length, n.wst_length]) j (by rw [n.wst_length]; exact hj)]
  congr 1
  rw [n.wst_succ, getD_map (nextW (n.wv ins i)) n.regs j hj]
theorem mixTo_64 {a b : List Nat} (ha : W64 a) (hb : W64 b) (i : Nat) : W64 (mixTo a b i) := by
  intro x hx
  rcases List.mem_append.1 hx with h | h
  · exact ha x (List.mem_of_mem_take h)
  · exact hb x (List.mem_of_mem_drop h)
end Go.Proofs.YtnnklpmgncbgnaaGreat
