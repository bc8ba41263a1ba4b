/- The laws' own words, in plain Lean. -/
import Derived.Test.YtnnklpmgncbgnaaCRun
set_option linter.unusedVariables false
set_option linter.unusedSimpArgs false
namespace Go.Proofs.Ytnnklpmgncbgnaa
open Go

theorem Net.run_Ins {n : Net} (hn : n.Small) {st : List Int} {ins : List (List Int)} (hs : Bytes st) (hi : Ins ins) : Ins (n.run st ins).1 ∧ Bytes (n.run st ins).2.1 := by
  have bn : Bytes ([] : List Int) := ⟨by decide, by intro x hx; cases hx⟩
  have z1 := hn.outsL
  have z2 := hn.regsL
  by_cases h : n.runOK st ins = true
  · rw [Net.run, if_pos h]
    rw [Net.runOK, Bool.and_eq_true] at h
    obtain ⟨hv, hl, h0⟩ := Net.runHead_eq.1 h.1
    have hra := Net.runAt hi hs.rng hv h0 h.2
    refine ⟨⟨?_, ?_⟩, ⟨?_, ?_⟩⟩
    · rw [Net.outsAt_length]; exact hi.len
    · intro l hl
      obtain ⟨k, hk, rfl⟩ := List.mem_map.1 hl
      have hk := List.mem_range.1 hk
      obtain ⟨_, e2, _, e4, _⟩ := Net.eval_facts (hi.at k).rng (bit_bytes (hra k (by omega)).bit) (Net.runAt_bad hv h.2 hk (hra k (by omega)))
      exact ⟨by rw [e2]; omega, bit_bytes e4⟩
    · rw [(hra _ (Nat.le_refl _)).len]; omega
    · exact bit_bytes (hra _ (Nat.le_refl _)).bit
  · rw [Net.run, if_neg h]
    exact ⟨⟨by decide, by intro l hl; cases hl⟩, bn⟩
def Net.fewHead (n : Net) : Bool := decide (((n.ins.length : Int) + n.regs.length + n.outs.length) > 200) || decide ((n.gates.length : Int) > 300)
def fewAt (c : List (List Int)) (i : Nat) : Bool := !decide (((c.getD i default).length : Int) > 250)
def Net.few (n : Net) (c : List (List Int)) : Bool := !n.fewHead && allTo (fewAt c) c.length && (decide ((c.length : Int) ≤ 60) || decide ((c.length : Int) > 1000))
theorem Net.few_head {n : Net} {c : List (List Int)} (h : n.fewHead = true) : n.few c = false := by rw [Net.few, h]; rfl
theorem Net.few_at {n : Net} {c : List (List Int)} (i : Nat) (hi : i < c.length) (h : fewAt c i = false) : n.few c = false := by rw [Net.few, allTo_false i hi h, Bool.and_false]; rfl
theorem Net.few_ok {n : Net} {c : List (List Int)} (h : n.fewHead = false) (h2 : allTo (fewAt c) c.length = true) : n.few c = (decide ((c.length : Int) ≤ 60) || decide ((c.length : Int) > 1000)) := by rw [Net.few, h, h2]; rfl
theorem Net.few_facts {n : Net} {c : List (List Int)} (h : n.few c = true) : n.ins.length + n.regs.length + n.outs.length ≤ 200 ∧ n.gates.length ≤ 300 := by
  have h1 : n.fewHead = false := by
    cases h2 : n.fewHead with
    | false => rfl
    | true => rw [Net.few_head h2] at h; cases h
  rw [Net.fewHead, Bool.or_eq_false_iff, decide_eq_false_iff_not, decide_eq_false_iff_not] at h1
  omega
end Go.Proofs.Ytnnklpmgncbgnaa
