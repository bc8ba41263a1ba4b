/- Runs of nets, clock by clock, in plain Lean. -/
import Derived.Test.YtnnklpmgncbgnaaGreatGMono
set_option linter.unusedVariables false
set_option linter.unusedSimpArgs false
namespace Go.Proofs.YtnnklpmgncbgnaaGreat
open Go

def encL (l : List Int) : List AVal := [.list 1 (l.map encB)]
def initR (r : ByteArray × Int × Int) : Int := r.2.1
/-- The state ahead of the clock i. -/
def Net.stateAt (n : Net) (st : List Int) (ins : List (List Int)) : Nat → List Int
  | 0 => st
  | i + 1 => (n.eval (ins.getD i default) (n.stateAt st ins i)).2.1
def Net.outsAt (n : Net) (st : List Int) (ins : List (List Int)) (i : Nat) : List (List Int) := (List.range i).map fun k => (n.eval (ins.getD k default) (n.stateAt st ins k)).1
theorem Net.outsAt_succ (n : Net) (st : List Int) (ins : List (List Int)) (i : Nat) : n.outsAt st ins (i + 1) = n.outsAt st ins i ++ [(n.eval (ins.getD i default) (n.stateAt st ins i)).1] := by
  simp [Net.outsAt, List.range_succ]
theorem Net.outsAt_length (n : Net) (st : List Int) (ins : List (List Int)) (i : Nat) : (n.outsAt st ins i).length = i := by simp [Net.outsAt]
def insAt (n : Net) (ins : List (List Int)) (i : Nat) : Bool := bitsOK (ins.getD i default) n.ins.length
def insOK (n : Net) (ins : List (List Int)) : Bool := allTo (insAt n ins) ins.length
def Net.runHead (n : Net) (st : List Int) (ins : List (List Int)) : Bool := (n.valid && decide ((ins.length : Int) ≤ 1000)) && bitsOK st n.regs.length
def Net.runOK (n : Net) (st : List Int) (ins : List (List Int)) : Bool := n.runHead st ins && insOK n ins
def Net.run (n : Net) (st : List Int) (ins : List (List Int)) : List (List Int) × List Int × Int := if n.runOK st ins then (n.outsAt st ins ins.length, n.stateAt st ins ins.length, 0) else ([], [], 2)
theorem Net.run_head {n : Net} {st : List Int} {ins : List (List Int)} (h : n.runHead st ins = false) : n.run st ins = ([], [], 2) := by
  rw [Net.run, Net.runOK, h]; rfl
theorem Net.run_ins {n : Net} {st : List Int} {ins : List (List Int)} (i : Nat) (hi : i < ins.length) (h : insAt n ins i = false) : n.run st ins = ([], [], 2) := by
  rw [Net.run, Net.runOK, insOK, allTo_false i hi h, Bool.and_false]; rfl
theorem Net.run_ok {n : Net} {st : List Int} {ins : List (List Int)} (h : n.runHead st ins = true) (h2 : allTo (insAt n ins) ins.length = true) : n.run st ins = (n.outsAt st ins ins.length, n.stateAt st ins ins.length, 0) := by
  rw [Net.run, Net.runOK, insOK, h, h2]; rfl
theorem Net.runHead_eq {n : Net} {st : List Int} {ins : List (List Int)} : n.runHead st ins = true ↔ n.valid = true ∧ ins.length ≤ 1000 ∧ bitsOK st n.regs.length = true := by
  rw [Net.runHead, Bool.and_eq_true, Bool.and_eq_true, decide_eq_true_eq]
  constructor
  · rintro ⟨⟨h1, h2⟩, h3⟩; exact ⟨h1, by omega, h3⟩
  · rintro ⟨h1, h2, h3⟩; exact ⟨⟨h1, by omega⟩, h3⟩

/-- Lists of bytes, as they come in. -/
structure Bytes (l : List Int) : Prop where
  len : l.length ≤ 140737488355328
  rng : ∀ x ∈ l, 0 ≤ x ∧ x ≤ 255
structure Ins (ins : List (List Int)) : Prop where
  len : ins.length ≤ 5864062014805
  each : ∀ l ∈ ins, Bytes l
theorem bytes_default : Bytes (default : List Int) := ⟨by show ([] : List Int).length ≤ _; decide, by intro x hx; cases hx⟩
theorem Ins.at {ins : List (List Int)} (h : Ins ins) (i : Nat) : Bytes (ins.getD i default) := by
  by_cases hi : i < ins.length
  · exact h.each _ (getD_mem hi)
  · rw [List.getD_eq_getElem?_getD, List.getElem?_eq_none (by omega)]
    exact bytes_default
theorem bits_facts {l : List Int} {m : Nat} (hb : ∀ x ∈ l, 0 ≤ x ∧ x ≤ 255) (h : bitsOK l m = true) : l.length = m ∧ ∀ x ∈ l, isBit x := ⟨(bitsOK_iff.1 h).1, bits_bit hb h⟩
theorem bits_of {l : List Int} {m : Nat} (hl : l.length = m) (hb : ∀ x ∈ l, isBit x) : bitsOK l m = true := by
  refine bitsOK_iff.2 ⟨hl, fun k hk => ?_⟩
  rcases hb _ (getD_mem hk) with h | h | h <;> rw [h] <;> decide
theorem bit_bytes {l : List Int} (hb : ∀ x ∈ l, isBit x) : ∀ x ∈ l, 0 ≤ x ∧ x ≤ 255 := by
  intro x hx
  rcases hb x hx with rfl | rfl | rfl <;> decide
theorem Net.not_bad_of {n : Net} {ins regs : List Int} (hv : n.valid = true) (h1 : bitsOK ins n.ins.length = true) (h2 : bitsOK regs n.regs.length = true) : n.bad ins regs = false := by
  rw [Net.bad, hv, h1, h2]; rfl
/-- What one clock leaves. -/
theorem Net.eval_facts {n : Net} {ins regs : List Int} (hb1 : ∀ x ∈ ins, 0 ≤ x ∧ x ≤ 255) (hb2 : ∀ x ∈ regs, 0 ≤ x ∧ x ≤ 255) (h : n.bad ins regs = false) :
    (n.eval ins regs).2.2 = 0 ∧ (n.eval ins regs).1.length = n.outs.length ∧ (n.eval ins regs).2.1.length = n.regs.length ∧ (∀ x ∈ (n.eval ins regs).1, isBit x) ∧ (∀ x ∈ (n.eval ins regs).2.1, isBit x) := by
  obtain ⟨hv, l1, l2⟩ := Net.not_bad h
  obtain ⟨c1, c2⟩ := Net.bad_bits h hb1 hb2
  obtain ⟨f1, f2, f3, f4, f5, f6, f7⟩ := Net.valid_facts hv
  have hl := n.valsTo_length ins regs n.gates.length
  have hvb := n.valsTo_bit c1 c2 n.gates.length
  rw [Net.eval_ok h]
  refine ⟨rfl, by simp, by simp, ?_, ?_⟩
  · intro x hx
    obtain ⟨p, hp, rfl⟩ := List.mem_map.1 hx
    rw [List.take_length] at hp
    obtain ⟨k, hk, rfl⟩ := List.getElem_of_mem hp
    have hf := f7 k hk
    rw [List.getD_eq_getElem?_getD, List.getElem?_eq_getElem hk] at hf
    simp only [Option.getD_some] at hf
    exact ofB_bit hvb (by omega)
  · intro x hx
    obtain ⟨p, hp, rfl⟩ := List.mem_map.1 hx
    rw [List.take_length] at hp
    obtain ⟨k, hk, rfl⟩ := List.getElem_of_mem hp
    have hf := f6 k hk
    rw [List.getD_eq_getElem?_getD, List.getElem?_eq_getElem hk] at hf
    simp only [Option.getD_some] at hf
    exact ofB_bit hvb (by omega)
/-- A run that has begun: all states are states. -/
structure Net.RunAt (n : Net) (st : List Int) (ins : List (List Int)) (i : Nat) : Prop where
  ok : bitsOK (n.stateAt st ins i) n.regs.length = true
  bit : ∀ x ∈ n.stateAt st ins i, isBit x
  len : (n.stateAt st ins i).length = n.regs.length
theorem Net.runAt {n : Net} {st : List Int} {ins : List (List Int)} (hi : Ins ins) (hs : ∀ x ∈ st, 0 ≤ x ∧ x ≤ 255) (hv : n.valid = true) (h0 : bitsOK st n.regs.length = true) (h1 : allTo (insAt n ins) ins.length = true) : ∀ i, i ≤ ins.length → n.RunAt st ins i
  | 0, _ => ⟨h0, (bits_facts hs h0).2, (bits_facts hs h0).1⟩
  | i + 1, h => by
    have ih := Net.runAt hi hs hv h0 h1 i (by omega)
    have h2 := allTo_iff.1 h1 i (by omega)
    obtain ⟨_, _, e3, _, e5⟩ := Net.eval_facts (hi.at i).rng (bit_bytes ih.bit) (Net.not_bad_of hv h2 ih.ok)
    exact ⟨bits_of e3 e5, e5, e3⟩
theorem Net.runAt_bad {n : Net} {st : List Int} {ins : List (List Int)} (hv : n.valid = true) (h1 : allTo (insAt n ins) ins.length = true) {i : Nat} (hi : i < ins.length) (h : n.RunAt st ins i) : n.bad (ins.getD i default) (n.stateAt st ins i) = false :=
  Net.not_bad_of hv (allTo_iff.1 h1 i hi) h.ok
/-- The first values. -/
def Net.firsts (n : Net) : List Int := n.regs.map initR
theorem Net.firsts_ok {n : Net} (hn : n.Small) (hv : n.valid = true) : bitsOK n.firsts n.regs.length = true := by
  obtain ⟨f1, f2, f3, f4, f5, f6, f7⟩ := Net.valid_facts hv
  refine bitsOK_iff.2 ⟨by simp [Net.firsts], fun k hk => ?_⟩
  have hk' : k < n.regs.length := by simpa [Net.firsts] using hk
  have := (f6 k hk').1
  rw [Net.firsts, getD_map initR n.regs k hk']
  exact this
def sameL (a b : List (List Int)) : Bool := (a.length : Int) == b.length && allTo (fun i => sameBits (a.getD i default) (b.getD i default)) a.length
theorem sameL_refl (a : List (List Int)) : sameL a a = true := by
  rw [sameL, Bool.and_eq_true]
  exact ⟨by simp, allTo_iff.2 fun k _ => sameBits_refl _⟩
end Go.Proofs.YtnnklpmgncbgnaaGreat
