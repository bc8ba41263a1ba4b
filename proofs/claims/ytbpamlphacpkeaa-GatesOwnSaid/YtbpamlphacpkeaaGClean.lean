/- What 'Clean' computes, in plain Lean. -/
import Derived.Test.YtbpamlphacpkeaaGShareR
import Derived.Test.YtbpamlphacpkeaaGCone
set_option linter.unusedVariables false
set_option linter.unusedSimpArgs false
namespace Go.Proofs.Ytbpamlphacpkeaa
open Go

def regX (r : ByteArray × Int × Int) : Int := r.2.2
def pinX (p : ByteArray × Int) : Int := p.2
/-- The literals that are wanted. -/
def Net.roots (n : Net) : List Int := n.regs.map regX ++ n.outs.map pinX
theorem Net.roots_length (n : Net) : n.roots.length = n.regs.length + n.outs.length := by simp [Net.roots]
theorem Net.roots_ok {n : Net} (hv : n.valid = true) : ∀ x ∈ n.roots, 0 ≤ x ∧ x < 2 * (1 + (n.ins.length : Int) + n.regs.length + n.gates.length) := by
  obtain ⟨f1, f2, f3, f4, f5, f6, f7⟩ := Net.valid_facts hv
  intro x hx
  rcases List.mem_append.1 hx with hx | hx
  · obtain ⟨r, hr, rfl⟩ := List.mem_map.1 hx
    obtain ⟨k, hk, rfl⟩ := List.getElem_of_mem hr
    have hf := f6 k hk
    rw [List.getD_eq_getElem?_getD, List.getElem?_eq_getElem hk] at hf
    exact ⟨hf.2.1, hf.2.2⟩
  · obtain ⟨r, hr, rfl⟩ := List.mem_map.1 hx
    obtain ⟨k, hk, rfl⟩ := List.getElem_of_mem hr
    have hf := f7 k hk
    rw [List.getD_eq_getElem?_getD, List.getElem?_eq_getElem hk] at hf
    exact ⟨hf.1, hf.2⟩
def Net.kept (n : Net) : List Bool := n.used n.roots
def Net.fst (n : Net) : Nat := 1 + n.ins.length + n.regs.length
/-- The first i nodes stand for themselves. -/
def Net.setEv (n : Net) : Nat → List Int
  | 0 => zeros (n.fst + n.gates.length)
  | i + 1 => (n.setEv i).set (0 + (i : Int).toNat) (2 * (i : Int))
theorem Net.setEv_length (n : Net) : ∀ i, (n.setEv i).length = n.fst + n.gates.length
  | 0 => by rw [Net.setEv, zeros_length]
  | i + 1 => by rw [Net.setEv, List.length_set, n.setEv_length i]
def MS.push (s : MS) (p : Int × Int) : MS := { s with gates := s.gates ++ [p] }
/-- After i gates: the maker, and what stands for each node. -/
def Net.cleanTo (n : Net) : Nat → MS × List Int
  | 0 => (n.begin, n.setEv n.fst)
  | i + 1 =>
    if n.kept.getD (n.fst + i) default then
      ((n.cleanTo i).1.push (nowV ((n.cleanTo i).2.set (0 + (n.fst + i)) (n.cleanTo i).1.lits) (n.gates.getD i default).1, nowV ((n.cleanTo i).2.set (0 + (n.fst + i)) (n.cleanTo i).1.lits) (n.gates.getD i default).2),
       (n.cleanTo i).2.set (0 + (n.fst + i)) (n.cleanTo i).1.lits)
    else n.cleanTo i
theorem Net.cleanTo_yes {n : Net} {i : Nat} (h : n.kept.getD (n.fst + i) default = true) : n.cleanTo (i + 1) = ((n.cleanTo i).1.push (nowV ((n.cleanTo i).2.set (0 + (n.fst + i)) (n.cleanTo i).1.lits) (n.gates.getD i default).1, nowV ((n.cleanTo i).2.set (0 + (n.fst + i)) (n.cleanTo i).1.lits) (n.gates.getD i default).2), (n.cleanTo i).2.set (0 + (n.fst + i)) (n.cleanTo i).1.lits) := by
  rw [Net.cleanTo, if_pos h]
theorem Net.cleanTo_no {n : Net} {i : Nat} (h : n.kept.getD (n.fst + i) default = false) : n.cleanTo (i + 1) = n.cleanTo i := by
  rw [Net.cleanTo, if_neg (by rw [h]; decide)]
def Net.clean (n : Net) : Net × Int := if n.valid then (laidN n (n.cleanTo n.gates.length).1 (n.cleanTo n.gates.length).2, 0) else (Net.none, 2)
/-- After j nodes. -/
def Net.cleanAt (n : Net) (j : Nat) : MS × List Int := if j < n.fst then (n.begin, n.setEv j) else n.cleanTo (j - n.fst)
theorem Net.cleanAt_lo {n : Net} {j : Nat} (h : j < n.fst) : n.cleanAt (j + 1) = (n.begin, (n.cleanAt j).2.set (0 + (j : Int).toNat) (2 * (j : Int))) ∧ (n.cleanAt j).1 = n.begin := by
  have e0 : n.cleanAt j = (n.begin, n.setEv j) := by rw [Net.cleanAt, if_pos h]
  refine ⟨?_, by rw [e0]⟩
  rw [e0]
  unfold Net.cleanAt
  split
  · rfl
  · have : j + 1 = n.fst := by omega
    rw [this, Nat.sub_self, Net.cleanTo, ← this]; rfl
theorem Net.cleanAt_hi {n : Net} {j : Nat} (h : ¬ j < n.fst) : n.cleanAt j = n.cleanTo (j - n.fst) := by rw [Net.cleanAt, if_neg h]
structure CleanInv (n : Net) (i : Nat) (s : MS) (lits : List Int) : Prop where
  same : s.ins = n.ins ∧ s.regs = n.begin.regs
  th : s.th = []
  gates : s.gates.length ≤ i
  len : lits.length = n.fst + n.gates.length
  before : s.before
  range : ∀ k, k < lits.length → 0 ≤ lits.getD k default ∧ lits.getD k default < s.lits
theorem getD_setI (v : List Int) (j k : Nat) (x : Int) : (v.set j x).getD k default = if j = k ∧ k < v.length then x else v.getD k default := by
  rw [List.getD_eq_getElem?_getD, List.getElem?_set]
  by_cases h : j = k
  · subst h
    by_cases h2 : j < v.length
    · simp [h2]
    · simp [h2]
  · simp [h]
theorem Net.setEv_range (n : Net) : ∀ i, i ≤ n.fst → ∀ k, 0 ≤ (n.setEv i).getD k default ∧ (n.setEv i).getD k default < 2 * (n.fst : Int)
  | 0, _, k => by
    have hp : 0 < n.fst := by unfold Net.fst; omega
    rw [Net.setEv, zeros, List.getD_eq_getElem?_getD, List.getElem?_replicate]
    split
    · simp; omega
    · have : (default : Int) = 0 := rfl
      simp only [Option.getD_none]; omega
  | i + 1, hi, k => by
    have ih := n.setEv_range i (by omega) k
    rw [Net.setEv, getD_setI]
    split
    · omega
    · exact ih
theorem Net.clean_inv {n : Net} (hv : n.valid = true) : ∀ i, i ≤ n.gates.length → CleanInv n i (n.cleanTo i).1 (n.cleanTo i).2
  | 0, _ => by
    refine ⟨⟨rfl, rfl⟩, rfl, Nat.le_refl _, n.setEv_length _, fun k hk => absurd hk (by show ¬ k < 0; omega), fun k _ => ?_⟩
    have := n.setEv_range n.fst (Nat.le_refl _) k
    have hb := n.begin_lits
    show 0 ≤ (n.setEv n.fst).getD k default ∧ (n.setEv n.fst).getD k default < n.begin.lits
    unfold Net.fst at this ⊢
    omega
  | i + 1, hi => by
    have ih := Net.clean_inv hv i (by omega)
    obtain ⟨a1, a2, a3, a4, a5, a6⟩ := ih
    by_cases hk : n.kept.getD (n.fst + i) default = true
    · rw [Net.cleanTo_yes hk]
      obtain ⟨f1, f2, f3, f4, f5, _, _⟩ := Net.valid_facts hv
      have hg := f5 i (by omega)
      have hF : n.fst = 1 + n.ins.length + n.regs.length := rfl
      have hfl := MS.first_lits (n.cleanTo i).1
      have hfirst : (n.cleanTo i).1.first = 1 + (n.cleanTo i).1.ins.length + (n.cleanTo i).1.regs.length := rfl
      have hbr := n.begin_regs
      have hnow : ∀ l : Int, 0 ≤ l → l < 2 * (1 + n.ins.length + n.regs.length + i) → 0 ≤ nowV ((n.cleanTo i).2.set (0 + (n.fst + i)) (n.cleanTo i).1.lits) l ∧ nowV ((n.cleanTo i).2.set (0 + (n.fst + i)) (n.cleanTo i).1.lits) l < (n.cleanTo i).1.lits := by
        intro l h0 h1
        have h2 := a6 (l / 2).toNat (by omega)
        have hx : ((n.cleanTo i).2.set (0 + (n.fst + i)) (n.cleanTo i).1.lits).getD (l / 2).toNat default = (n.cleanTo i).2.getD (l / 2).toNat default := by
          rw [getD_setI, if_neg (fun hh => by omega)]
        unfold nowV
        rw [Nat.zero_add (l / 2).toNat, hx]
        split
        · rw [flip_eq]; split <;> omega
        · exact h2
      have g1 := hnow _ hg.1 hg.2.2.1
      have g2 := hnow _ hg.2.1 hg.2.2.2
      generalize hp : (nowV ((n.cleanTo i).2.set (0 + (n.fst + i)) (n.cleanTo i).1.lits) (n.gates.getD i default).1, nowV ((n.cleanTo i).2.set (0 + (n.fst + i)) (n.cleanTo i).1.lits) (n.gates.getD i default).2) = p
      have p1 : p.1 = nowV ((n.cleanTo i).2.set (0 + (n.fst + i)) (n.cleanTo i).1.lits) (n.gates.getD i default).1 := by rw [← hp]
      have p2 : p.2 = nowV ((n.cleanTo i).2.set (0 + (n.fst + i)) (n.cleanTo i).1.lits) (n.gates.getD i default).2 := by rw [← hp]
      have hlen : ((n.cleanTo i).1.push p).gates.length = (n.cleanTo i).1.gates.length + 1 := by show ((n.cleanTo i).1.gates ++ [p]).length = _; simp
      have hl2 : ((n.cleanTo i).1.push p).lits = (n.cleanTo i).1.lits + 2 := by
        have e1 := MS.first_lits ((n.cleanTo i).1.push p)
        have e2 : ((n.cleanTo i).1.push p).first = (n.cleanTo i).1.first := rfl
        omega
      refine ⟨a1, a2, by show ((n.cleanTo i).1.push p).gates.length ≤ i + 1; omega, by show ((n.cleanTo i).2.set _ _).length = _; rw [List.length_set]; exact a4, fun k hk => ?_, fun k hk => ?_⟩
      · have hk : k < ((n.cleanTo i).1.push p).gates.length := hk
        have e2 : ((n.cleanTo i).1.push p).first = (n.cleanTo i).1.first := rfl
        show (0 ≤ (((n.cleanTo i).1.push p).gates.getD k default).1 ∧ (((n.cleanTo i).1.push p).gates.getD k default).1 < 2 * (((n.cleanTo i).1.push p).first + k)) ∧ _
        rw [e2]
        by_cases c : k < (n.cleanTo i).1.gates.length
        · have : ((n.cleanTo i).1.push p).gates.getD k default = (n.cleanTo i).1.gates.getD k default := getD_snoc_l c
          rw [this]; exact a5 k c
        · have ek : k = (n.cleanTo i).1.gates.length := by omega
          subst ek
          have : ((n.cleanTo i).1.push p).gates.getD (n.cleanTo i).1.gates.length default = p := getD_snoc_r
          rw [this, p1, p2]
          omega
      · have hk : k < ((n.cleanTo i).2.set (0 + (n.fst + i)) (n.cleanTo i).1.lits).length := hk
        rw [List.length_set] at hk
        have h6 := a6 k hk
        show 0 ≤ ((n.cleanTo i).2.set (0 + (n.fst + i)) (n.cleanTo i).1.lits).getD k default ∧ ((n.cleanTo i).2.set (0 + (n.fst + i)) (n.cleanTo i).1.lits).getD k default < ((n.cleanTo i).1.push p).lits
        rw [getD_setI]
        split <;> omega
    · rw [Net.cleanTo_no (by simpa using hk)]
      exact ⟨a1, a2, by omega, a4, a5, a6⟩
theorem CleanInv.laid {n : Net} (hv : n.valid = true) {s : MS} {lits : List Int} (h : CleanInv n n.gates.length s lits) : (laidN n s lits).valid = true := by
  have hlen := n.begin_regs
  obtain ⟨f1, f2, f3, f4, _⟩ := Net.valid_facts hv
  have hgl := h.gates
  refine laid_valid hv h.before (by omega) (by rw [h.same.1]) (by rw [h.same.2, hlen]) (by rw [h.len]; rfl) h.range
theorem CleanInv.ok {n : Net} (hn : n.Small) (hv : n.valid = true) {i : Nat} (hi : i ≤ n.gates.length) {s : MS} {lits : List Int} (h : CleanInv n i s lits) : s.OK ∧ (s.made []).Small ∧ ∀ x ∈ lits, 0 ≤ x ∧ x ≤ 100000 := by
  have hlen := n.begin_regs
  obtain ⟨f1, f2, f3, f4, _⟩ := Net.valid_facts hv
  obtain ⟨_, hg⟩ := Net.begin_ok hn hv
  have hsm := hg.small
  obtain ⟨a1, a2, a3, a4, a5, a6⟩ := h
  have e1 : s.ins.length = n.ins.length := by rw [a1.1]
  have e2 : s.regs.length = n.regs.length := by rw [a1.2, hlen]
  have hfl := MS.first_lits s
  have hfirst : s.first = 1 + s.ins.length + s.regs.length := rfl
  refine ⟨⟨by omega, by omega, by omega, fun e he => by rw [a2] at he; cases he⟩, ⟨(by show ∀ x ∈ s.ins, x.size ≤ 140737488355328; rw [a1.1]; exact hn.ins), (by show ∀ x ∈ s.regs, x.1.size ≤ 140737488355328; rw [a1.2]; exact hsm.regs), (by intro p hp; cases hp), (by show s.ins.length ≤ 8796093022208; omega), (by show s.regs.length ≤ 8796093022208; omega), (by show s.gates.length ≤ 8796093022208; omega), (by show ([] : List (ByteArray × Int)).length ≤ 8796093022208; simp), (by show ∀ x ∈ s.regs, 0 ≤ x.2.1 ∧ x.2.1 ≤ 255; rw [a1.2]; exact hsm.bytes), ?_, (by show ∀ x ∈ s.regs, x.2.2 ≤ 9223372036854775807; rw [a1.2]; exact hsm.regsI), (by intro p hp; cases hp)⟩, ?_⟩
  · intro g hg
    obtain ⟨k, hk, rfl⟩ := List.getElem_of_mem (show g ∈ s.gates from hg)
    have := a5 k hk
    rw [List.getD_eq_getElem?_getD, List.getElem?_eq_getElem hk] at this
    simp only [Option.getD_some] at this
    omega
  · intro x hx
    obtain ⟨k, hk, rfl⟩ := List.getElem_of_mem hx
    have := a6 k hk
    rw [List.getD_eq_getElem?_getD, List.getElem?_eq_getElem hk] at this
    simp only [Option.getD_some] at this
    omega
/-! ### By nodes -/
theorem Net.kept_length (n : Net) : n.kept.length = n.fst + n.gates.length := by rw [Net.kept, n.used_length]; rfl
theorem Net.fst_pos (n : Net) : 0 < n.fst := by unfold Net.fst; omega
theorem Net.cleanAt_zero (n : Net) : n.cleanAt 0 = (n.begin, List.replicate ((n.kept.length : Int)).toNat 0) := by
  have e : ((n.kept.length : Int)).toNat = n.fst + n.gates.length := by rw [n.kept_length]; omega
  rw [Net.cleanAt, if_pos n.fst_pos, e]; rfl
theorem Net.cleanAt_low {n : Net} {i : Nat} (h : i < n.fst) : n.cleanAt (i + 1) = ((n.cleanAt i).1, (n.cleanAt i).2.set (0 + (i : Int).toNat) (2 * (i : Int))) := by
  obtain ⟨h1, h2⟩ := Net.cleanAt_lo h
  rw [h1, h2]
theorem Net.cleanAt_yes {n : Net} {i : Nat} (h : ¬ i < n.fst) (hk : n.kept.getD i default = true) : n.cleanAt (i + 1) = ((n.cleanAt i).1.push (nowV ((n.cleanAt i).2.set (0 + (i : Int).toNat) (n.cleanAt i).1.lits) (n.gates.getD ((i : Int) - (n.fst : Int)).toNat default).1, nowV ((n.cleanAt i).2.set (0 + (i : Int).toNat) (n.cleanAt i).1.lits) (n.gates.getD ((i : Int) - (n.fst : Int)).toNat default).2), (n.cleanAt i).2.set (0 + (i : Int).toNat) (n.cleanAt i).1.lits) := by
  have e1 : i + 1 - n.fst = (i - n.fst) + 1 := by omega
  have e2 : n.fst + (i - n.fst) = i := by omega
  have e3 : ((i : Int) - (n.fst : Int)).toNat = i - n.fst := by omega
  have e4 : (i : Int).toNat = i := by omega
  rw [Net.cleanAt_hi (j := i + 1) (by omega), e1, Net.cleanTo_yes (by rw [e2]; exact hk), e2, ← Net.cleanAt_hi h, e3, e4]
theorem Net.cleanAt_no {n : Net} {i : Nat} (h : ¬ i < n.fst) (hk : n.kept.getD i default = false) : n.cleanAt (i + 1) = n.cleanAt i := by
  have e1 : i + 1 - n.fst = (i - n.fst) + 1 := by omega
  have e2 : n.fst + (i - n.fst) = i := by omega
  rw [Net.cleanAt_hi (j := i + 1) (by omega), e1, Net.cleanTo_no (by rw [e2]; exact hk), ← Net.cleanAt_hi h]
theorem Net.cleanAt_end (n : Net) : n.cleanAt n.kept.length = n.cleanTo n.gates.length := by
  rw [n.kept_length, Net.cleanAt_hi (by omega), show n.fst + n.gates.length - n.fst = n.gates.length by omega]
theorem Net.cleanAt_ok {n : Net} (hn : n.Small) (hv : n.valid = true) {i : Nat} (hi : i ≤ n.kept.length) : (n.cleanAt i).1.OK ∧ ((n.cleanAt i).1.made []).Small ∧ (∀ x ∈ (n.cleanAt i).2, 0 ≤ x ∧ x ≤ 100000) ∧ (n.cleanAt i).2.length = n.kept.length := by
  obtain ⟨f1, f2, f3, f4, _⟩ := Net.valid_facts hv
  have hF : n.fst = 1 + n.ins.length + n.regs.length := rfl
  rw [n.kept_length] at hi ⊢
  by_cases h : i < n.fst
  · have e0 : n.cleanAt i = (n.begin, n.setEv i) := by rw [Net.cleanAt, if_pos h]
    rw [e0]
    obtain ⟨_, hg⟩ := Net.begin_ok hn hv
    refine ⟨hg.ok, hg.small, fun x hx => ?_, n.setEv_length i⟩
    obtain ⟨k, hk, rfl⟩ := List.getElem_of_mem hx
    have := n.setEv_range i (by omega) k
    rw [List.getD_eq_getElem?_getD, List.getElem?_eq_getElem hk] at this
    simp only [Option.getD_some] at this
    show 0 ≤ (n.setEv i)[k] ∧ (n.setEv i)[k] ≤ 100000
    omega
  · rw [Net.cleanAt_hi h]
    have hc := Net.clean_inv hv (i - n.fst) (by omega)
    obtain ⟨c1, c2, c3⟩ := hc.ok hn hv (by omega)
    exact ⟨c1, c2, c3, hc.len⟩
theorem set_range {l : List Int} {j : Nat} {x : Int} (h : ∀ y ∈ l, 0 ≤ y ∧ y ≤ 100000) (hx : 0 ≤ x ∧ x ≤ 100000) : ∀ y ∈ l.set j x, 0 ≤ y ∧ y ≤ 100000 := by
  intro y hy
  rcases List.mem_or_eq_of_mem_set hy with hy | rfl
  · exact h y hy
  · exact hx
/-! ### As the reference walks -/
theorem Net.setEv_zero (n : Net) : n.setEv 0 = List.replicate ((n.kept.length : Int)).toNat 0 := by
  have e : ((n.kept.length : Int)).toNat = n.fst + n.gates.length := by rw [n.kept_length]; omega
  rw [e]; rfl
def Net.litsR (n : Net) (i : Nat) : List Int := (n.cleanTo i).2.set (0 + (n.first + (i : Int)).toNat) (2 * (n.first + ((n.cleanTo i).1.gates.length : Int)))
theorem Net.litsR_eq {n : Net} (hv : n.valid = true) {i : Nat} (hi : i ≤ n.gates.length) : n.litsR i = (n.cleanTo i).2.set (0 + (n.fst + i)) (n.cleanTo i).1.lits := by
  have h := Net.clean_inv hv i hi
  have hbr := n.begin_regs
  have e1 : (n.first + (i : Int)).toNat = n.fst + i := by unfold Net.first Net.fst; omega
  have e2 : (n.cleanTo i).1.lits = 2 * (n.first + ((n.cleanTo i).1.gates.length : Int)) := by
    show 2 * (((1 + ((n.cleanTo i).1.ins.length : Int)) + ((n.cleanTo i).1.regs.length : Int)) + _) = _
    rw [h.same.1, h.same.2, hbr]; unfold Net.first; omega
  rw [Net.litsR, e1, e2]
theorem Net.cleanTo_yesR {n : Net} (hv : n.valid = true) {i : Nat} (hi : i ≤ n.gates.length) (h : n.kept.getD (n.first + (i : Int)).toNat default = true) : n.cleanTo (i + 1) = ((n.cleanTo i).1.push (nowV (n.litsR i) (n.gates.getD i default).1, nowV (n.litsR i) (n.gates.getD i default).2), n.litsR i) := by
  have e1 : (n.first + (i : Int)).toNat = n.fst + i := by unfold Net.first Net.fst; omega
  rw [e1] at h
  rw [Net.cleanTo_yes h, Net.litsR_eq hv hi]
theorem Net.cleanTo_noR {n : Net} {i : Nat} (h : n.kept.getD (n.first + (i : Int)).toNat default = false) : n.cleanTo (i + 1) = n.cleanTo i := by
  have e1 : (n.first + (i : Int)).toNat = n.fst + i := by unfold Net.first Net.fst; omega
  rw [e1] at h
  exact Net.cleanTo_no h
theorem outsTo_step2 (made : List Int) (outs : List (ByteArray × Int)) (i : Nat) (hi : i < outs.length) : outsTo made outs (i + 1) = (outsTo made outs i).set (0 + (i : Int).toNat) (((outsTo made outs i).getD (0 + (i : Int).toNat) default).1, nowV made (outs.getD i default).2) := by
  rw [outsTo_step made outs i hi, outsTo_get made outs i hi]
theorem laidN_eq2 (n : Net) (s : MS) (made : List Int) : laidN n s made = ⟨n.ins, regsS made n.regs n.regs.length, s.gates, outsTo made n.outs n.outs.length⟩ := by
  rw [regsS_all, outsTo_all]; rfl
theorem none_small : Net.none.Small := by refine ⟨?_, ?_, ?_, ?_, ?_, ?_, ?_, ?_, ?_, ?_, ?_⟩ <;> decide
theorem laid_small {n : Net} (hn : n.Small) (hv : n.valid = true) {s : MS} {made : List Int} (hs : (s.made []).Small) (hl : made.length = 1 + n.ins.length + n.regs.length + n.gates.length) (hm : ∀ x ∈ made, 0 ≤ x ∧ x ≤ 100000) : (laidN n s made).Small := by
  obtain ⟨f1, f2, f3, f4, f5, f6, f7⟩ := Net.valid_facts hv
  refine ⟨hn.ins, fun r hr => ?_, fun p hp => ?_, hn.insL, ?_, hs.gatesL, ?_, fun r hr => ?_, hs.gatesI, fun r hr => ?_, fun p hp => ?_⟩
  · obtain ⟨x, hx, rfl⟩ := List.mem_map.1 (show r ∈ n.regs.map (sharedR made) from hr)
    exact hn.regs x hx
  · obtain ⟨x, hx, rfl⟩ := List.mem_map.1 (show p ∈ n.outs.map (sharedP made) from hp)
    exact hn.outs x hx
  · show (n.regs.map (sharedR made)).length ≤ 8796093022208
    rw [List.length_map]; exact hn.regsL
  · show (n.outs.map (sharedP made)).length ≤ 8796093022208
    rw [List.length_map]; exact hn.outsL
  · obtain ⟨x, hx, rfl⟩ := List.mem_map.1 (show r ∈ n.regs.map (sharedR made) from hr)
    exact hn.bytes x hx
  · obtain ⟨x, hx, rfl⟩ := List.mem_map.1 (show r ∈ n.regs.map (sharedR made) from hr)
    obtain ⟨k, hk, rfl⟩ := List.getElem_of_mem hx
    have hf := f6 k hk
    rw [List.getD_eq_getElem?_getD, List.getElem?_eq_getElem hk] at hf
    simp only [Option.getD_some] at hf
    exact now_le hm (by omega)
  · obtain ⟨x, hx, rfl⟩ := List.mem_map.1 (show p ∈ n.outs.map (sharedP made) from hp)
    obtain ⟨k, hk, rfl⟩ := List.getElem_of_mem hx
    have hf := f7 k hk
    rw [List.getD_eq_getElem?_getD, List.getElem?_eq_getElem hk] at hf
    simp only [Option.getD_some] at hf
    exact now_le hm (by omega)
end Go.Proofs.Ytbpamlphacpkeaa
