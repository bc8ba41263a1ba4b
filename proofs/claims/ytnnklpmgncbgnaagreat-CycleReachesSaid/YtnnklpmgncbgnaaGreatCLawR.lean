/- Rounds of states under one input, in plain Lean. -/
import Derived.Test.YtnnklpmgncbgnaaGreatCLaw
import Derived.Test.YtnnklpmgncbgnaaGreatCRound
import Derived.Test.YtnnklpmgncbgnaaGreatCReach
set_option linter.unusedVariables false
set_option linter.unusedSimpArgs false
namespace Go.Proofs.YtnnklpmgncbgnaaGreat
open Go

theorem numTo_step {l : List Int} (h : Bit01 l) (i : Nat) : numTo l (i + 1) = (l.getD i default).toNat * 2 ^ i + numTo l i := by
  show numTo l i ||| ((l.getD i default).toNat <<< i) = _
  rw [Nat.or_comm, ← Nat.shiftLeft_add_eq_or_of_lt (numTo_lt h i), Nat.shiftLeft_eq]
theorem numTo_inj {a b : List Int} (ha : Bit01 a) (hb : Bit01 b) : ∀ i, numTo a i = numTo b i → ∀ j, j < i → a.getD j default = b.getD j default
  | 0, _, j, hj => by omega
  | i + 1, h, j, hj => by
    rw [numTo_step ha, numTo_step hb] at h
    have h1 := numTo_lt ha i
    have h2 := numTo_lt hb i
    obtain ⟨p1, p2, p3⟩ := bit01_get ha i
    obtain ⟨q1, q2, q3⟩ := bit01_get hb i
    have key : (a.getD i default).toNat = (b.getD i default).toNat ∧ numTo a i = numTo b i := by
      generalize (a.getD i default).toNat = p at *
      generalize (b.getD i default).toNat = q at *
      have hp : p = 0 ∨ p = 1 := by omega
      have hq : q = 0 ∨ q = 1 := by omega
      rcases hp with rfl | rfl <;> rcases hq with rfl | rfl <;> simp only [Nat.zero_mul, Nat.one_mul, Nat.zero_add] at h <;> omega
    by_cases e : j = i
    · subst e; omega
    · exact numTo_inj ha hb i key.2 j (by omega)
theorem list_ext_getD {a b : List Int} (hl : a.length = b.length) (h : ∀ j, j < a.length → a.getD j default = b.getD j default) : a = b := by
  refine List.ext_getElem hl fun j h1 h2 => ?_
  have := h j h1
  rw [List.getD_eq_getElem?_getD, List.getD_eq_getElem?_getD, List.getElem?_eq_getElem h1, List.getElem?_eq_getElem h2] at this
  exact this
theorem num_inj {a b : List Int} (ha : Bit01 a) (hb : Bit01 b) (hl : a.length = b.length) (h : num a = num b) : a = b := by
  refine list_ext_getD hl fun j hj => numTo_inj ha hb a.length ?_ j hj
  show num a = _
  rw [h, hl]; rfl
theorem firstTo_at {p : Nat → Bool} : ∀ {n k : Nat}, firstTo p n = some k → k < n ∧ p k = true ∧ firstTo p k = Option.none
  | 0, k, h => by cases h
  | n + 1, k, h => by
    simp only [firstTo] at h
    cases h2 : firstTo p n with
    | some m =>
      rw [h2] at h
      cases h
      obtain ⟨h3, h4, h5⟩ := firstTo_at h2
      exact ⟨by omega, h4, h5⟩
    | none =>
      rw [h2] at h
      by_cases hp : p n = true
      · simp only [hp, if_true] at h
        cases h
        exact ⟨by omega, hp, h2⟩
      · simp [hp] at h
/-- What a round is: first and period. -/
theorem Net.round_at {n : Net} (h : n.Ready) {ins : List Int} (l1 : ins.length = n.ins.length) (h1 : Bit01 ins) : ∃ a p : Nat, 1 ≤ p ∧ a + p ≤ n.states ∧ n.rst ins (a + p) = n.rst ins a ∧ n.roundA ins = a ∧ n.roundK ins = a + p := by
  cases hf : firstTo (n.rhit ins) (n.states + 1) with
  | none =>
    have := Net.round_le h l1 h1 hf
    omega
  | some k =>
    obtain ⟨k1, k2, k3⟩ := firstTo_at hf
    have hk : n.roundK ins = k := by rw [Net.roundK, hf]; rfl
    rw [Net.rhit] at k2
    obtain ⟨a, ha⟩ := Option.isSome_iff_exists.1 k2
    have hA : n.roundA ins = a := by rw [Net.roundA, hk, ha]; rfl
    obtain ⟨j, hj, e⟩ := List.mem_map.1 (kFind_some ha)
    rw [List.mem_range] at hj
    simp only [Prod.mk.injEq] at e
    obtain ⟨e1, rfl⟩ := e
    have r1 := Net.rat h l1 h1 j
    have r2 := Net.rat h l1 h1 k
    refine ⟨j, k - j, by omega, by omega, ?_, hA, by omega⟩
    rw [show j + (k - j) = k from by omega]
    exact num_inj r2.b r1.b (by rw [r1.l, r2.l]) e1.symm
theorem Net.round_res {n : Net} (h : n.Ready) (hf : n.small = true) {ins : List Int} (l1 : ins.length = n.ins.length) (h1 : Bit01 ins) (hb : decide (firstX ins ≥ 0) = false) : ∃ a p : Nat, 1 ≤ p ∧ a + p ≤ n.states ∧ n.rst ins (a + p) = n.rst ins a ∧ n.round ins = ((a : Int), (p : Int), 0) := by
  obtain ⟨a, p, q1, q2, q3, q4, q5⟩ := Net.round_at h l1 h1
  refine ⟨a, p, q1, q2, q3, ?_⟩
  have ho : n.roundOK ins = true := by rw [Net.roundOK, h.v, hb, l1]; simp
  rw [Net.round, if_pos ho, if_pos hf, q4, q5]
  congr 1
  congr 1
  omega
theorem Net.rst_period {n : Net} {ins : List Int} {a p : Nat} (h : n.rst ins (a + p) = n.rst ins a) : ∀ m, a ≤ m → n.rst ins (m + p) = n.rst ins m := by
  intro m hm
  obtain ⟨j, rfl⟩ := Nat.exists_eq_add_of_le hm
  clear hm
  induction j with
  | zero => exact h
  | succ j ih =>
    have e : a + (j + 1) + p = (a + j + p) + 1 := by omega
    rw [e]
    show (n.eval ins (n.rst ins (a + j + p))).2.1 = (n.eval ins (n.rst ins (a + j))).2.1
    rw [ih]
theorem replicate_get {α : Type} [Inhabited α] {x : α} {m i : Nat} (h : i < m) : (List.replicate m x).getD i default = x := by
  rw [List.getD_eq_getElem?_getD, List.getElem?_replicate, if_pos h]; rfl
theorem Net.state_rep (n : Net) (x : List Int) (m : Nat) : ∀ i, i ≤ m → n.stateAt n.firsts (List.replicate m x) i = n.rst x i
  | 0, _ => rfl
  | i + 1, h => by
    show (n.eval ((List.replicate m x).getD i default) (n.stateAt n.firsts (List.replicate m x) i)).2.1 = (n.eval x (n.rst x i)).2.1
    rw [replicate_get (by omega), n.state_rep x m i (by omega)]
theorem Net.outs_rep (n : Net) (x : List Int) (m i : Nat) (h : i < m) : (n.outsAt n.firsts (List.replicate m x) m).getD i default = (n.eval x (n.rst x i)).1 := by
  rw [Net.outsAt, range_get _ _ _ h, replicate_get h, n.state_rep x m i (by omega)]
theorem Net.Fits.rep {n : Net} {x : List Int} (hl : x.length = n.ins.length) (hb : ∀ y ∈ x, isBit y) (m : Nat) : n.Fits (List.replicate m x) := by
  intro l h
  obtain ⟨_, rfl⟩ := List.mem_replicate.1 h
  exact ⟨hl, hb⟩
theorem drawn_01 {f : List Int} {m t : Nat} : Bit01 (drawn f m t false) := by
  intro x hx
  obtain ⟨j, _, rfl⟩ := List.mem_map.1 hx
  unfold drawV
  split
  · exact .inl rfl
  · exact Int.emod_two_eq _
theorem firstX_01 {l : List Int} (h : Bit01 l) : decide (firstX l ≥ 0) = false := by
  unfold firstX
  cases h2 : firstTo (bit1At l) l.length with
  | none => rfl
  | some k =>
    obtain ⟨k1, k2, _⟩ := firstTo_at h2
    have := h _ (getD_mem (v := l) k1)
    simp only [bit1At, decide_eq_true_eq] at k2
    omega
/-- The reference's test of the first values. -/
def known4At (n : Net) (i : Nat) : Bool := !((n.regs.getD i default).2.1 != 0 && (n.regs.getD i default).2.1 != 1)
def Net.known4 (n : Net) : Bool := allTo (known4At n) n.regs.length
def Net.lightA (n : Net) : Bool := decide ((n.ins.length : Int) ≤ 3) && decide ((n.regs.length : Int) ≤ 5) && decide ((n.gates.length : Int) ≤ 40)
def Net.light (n : Net) : Bool := n.few [] && (n.lightA || decide ((n.ins.length : Int) > 10) || decide ((n.regs.length : Int) > 12) || !n.known4)
theorem Net.known4_known {n : Net} (h : n.known4 = true) : n.known = true := by
  rw [Net.known, Bool.not_eq_true']
  unfold firstR
  cases h2 : firstTo (regBad n.regs) n.regs.length with
  | none => rfl
  | some k =>
    obtain ⟨k1, k2, _⟩ := firstTo_at h2
    have h3 := allTo_iff.1 h k k1
    simp only [regBad, decide_eq_true_eq] at k2
    simp only [known4At, Bool.not_eq_true', Bool.and_eq_false_iff, bne_eq_false_iff_eq] at h3
    omega
theorem Net.light_facts {n : Net} (h : n.light = true) (h2 : n.known4 = true) (h3 : ¬ (n.ins.length : Int) > 10) (h4 : ¬ (n.regs.length : Int) > 12) : n.few [] = true ∧ n.ins.length ≤ 3 ∧ n.regs.length ≤ 5 ∧ n.gates.length ≤ 40 ∧ n.small = true := by
  rw [Net.light, h2] at h
  simp only [Net.lightA, Bool.and_eq_true, Bool.or_eq_true, decide_eq_true_eq, Bool.not_true] at h
  have hs : n.small = true := by
    rw [Net.small, Net.known4_known h2]
    simp only [Bool.true_and, Bool.and_eq_true, decide_eq_true_eq]
    omega
  have h5 := h.2
  simp only [h3, h4, or_false] at h5
  refine ⟨h.1, ?_, ?_, ?_, hs⟩ <;> (rcases h5 with h5 | h5 <;> first | omega | cases h5)
theorem Net.known4_false {n : Net} (i : Nat) (hi : i < n.regs.length) (h : known4At n i = false) : n.known4 = false := allTo_false i hi h
theorem Net.round_outs {n : Net} {x : List Int} {a p m i : Nat} (h : n.rst x (a + p) = n.rst x a) (hi : a ≤ i) (hm : i + p < m) :
    sameBits ((n.outsAt n.firsts (List.replicate m x) m).getD i default) ((n.outsAt n.firsts (List.replicate m x) m).getD (i + p) default) = true := by
  rw [n.outs_rep x m i (by omega), n.outs_rep x m (i + p) hm, Net.rst_period h i hi]
  exact sameBits_refl _
end Go.Proofs.YtnnklpmgncbgnaaGreat
