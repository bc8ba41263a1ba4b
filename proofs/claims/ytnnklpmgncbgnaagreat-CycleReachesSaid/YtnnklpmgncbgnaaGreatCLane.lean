/- One lane of a wide run is a run, in plain Lean. -/
import Derived.Test.YtnnklpmgncbgnaaGreatCLaw
import Derived.Test.YtnnklpmgncbgnaaGreatCSearch
import Derived.Test.YtnnklpmgncbgnaaGreatCWide
import Derived.Test.YtnnklpmgncbgnaaGreatCRound
set_option linter.unusedVariables false
set_option linter.unusedSimpArgs false
namespace Go.Proofs.YtnnklpmgncbgnaaGreat
open Go

def laneB (k x : Nat) : Int := if x.testBit k then 1 else 0
def lane (k : Nat) (v : List Nat) : List Int := v.map (laneB k)
theorem laneB_01 (k x : Nat) : laneB k x = 0 ∨ laneB k x = 1 := by unfold laneB; split <;> simp
theorem lane_01 (k : Nat) (v : List Nat) : Bit01 (lane k v) := by
  intro x hx
  obtain ⟨y, _, rfl⟩ := List.mem_map.1 hx
  exact laneB_01 k y
theorem lane_length (k : Nat) (v : List Nat) : (lane k v).length = v.length := by simp [lane]
theorem lane_get (k : Nat) (v : List Nat) (i : Nat) : (lane k v).getD i default = laneB k (v.getD i default) := by
  rw [lane, List.getD_eq_getElem?_getD, List.getD_eq_getElem?_getD, List.getElem?_map]
  cases v[i]? with
  | none => show (0 : Int) = laneB k 0; simp [laneB]
  | some x => rfl
theorem mask_bit {k : Nat} (hk : k < 64) (l : Int) : (maskOf l).testBit k = decide (l % 2 = 1) := by
  unfold maskOf
  by_cases h : l % 2 = 1
  · rw [if_pos h, decide_eq_true h]
    show (2 ^ 64 - 1).testBit k = true
    rw [Nat.testBit_two_pow_sub_one]
    exact decide_eq_true hk
  · rw [if_neg h, decide_eq_false h]
    exact Nat.zero_testBit k
theorem lane_of {k : Nat} (hk : k < 64) (v : List Nat) (l : Int) : ofB (lane k v) l = laneB k (wOf v l) := by
  unfold ofB wOf
  rw [lane_get]
  unfold laneB
  rw [Nat.testBit_xor, mask_bit hk]
  by_cases h : l % 2 = 1
  · rw [if_pos h, decide_eq_true h]
    cases (v.getD (l / 2).toNat default).testBit k <;> rfl
  · rw [if_neg h, decide_eq_false h]
    cases (v.getD (l / 2).toNat default).testBit k <;> rfl
theorem lane_both (k a b : Nat) : bothB (laneB k a) (laneB k b) = laneB k (a &&& b) := by
  unfold laneB
  rw [Nat.testBit_and]
  cases a.testBit k <;> cases b.testBit k <;> rfl
theorem lane_append (k : Nat) (a b : List Nat) : lane k (a ++ b) = lane k a ++ lane k b := by simp [lane]
theorem Net.lane_vals (n : Net) {k : Nat} (hk : k < 64) (ins st : List Nat) : ∀ i, n.valsTo (lane k ins) (lane k st) i = lane k (n.wideTo ins st i)
  | 0 => by
    show ([0] ++ lane k ins) ++ lane k st = lane k (([0] ++ ins) ++ st)
    rw [lane_append, lane_append]
    simp [lane, laneB]
  | i + 1 => by
    show n.valsTo (lane k ins) (lane k st) i ++ [_] = lane k (n.wideTo ins st i ++ [_])
    rw [n.lane_vals hk ins st i, lane_append, lane_of hk, lane_of hk, lane_both]
    rfl
theorem Net.lane_bad {n : Net} {k : Nat} {ins st : List Nat} (h : Wide n ins st) : n.bad (lane k ins) (lane k st) = false :=
  Net.not_bad_of h.v (bit01_ok (by rw [lane_length]; exact h.il) (lane_01 _ _)) (bit01_ok (by rw [lane_length]; exact h.sl) (lane_01 _ _))
theorem Net.lane_eval {n : Net} {k : Nat} (hk : k < 64) {ins st : List Nat} (h : Wide n ins st) : n.eval (lane k ins) (lane k st) = (lane k (n.outs.map (outW (n.wideTo ins st n.gates.length))), lane k (n.regs.map (nextW (n.wideTo ins st n.gates.length))), 0) := by
  rw [Net.eval_ok (Net.lane_bad h), List.take_length, List.take_length, n.lane_vals hk]
  congr 1
  · show n.outs.map _ = (n.outs.map _).map (laneB k)
    rw [List.map_map]
    exact List.map_congr_left fun p _ => lane_of hk _ _
  · congr 1
    show n.regs.map _ = (n.regs.map _).map (laneB k)
    rw [List.map_map]
    exact List.map_congr_left fun p _ => lane_of hk _ _
theorem Net.lane_firsts {n : Net} (hn : n.Small) (hk0 : n.known = true) {k : Nat} (hk : k < 64) (ins : List (List Nat)) : n.firsts = lane k (n.wst ins 0) := by
  have h := (known_iff01 hn).1 hk0
  show n.regs.map initR = (n.regs.map spreadR).map (laneB k)
  rw [List.map_map]
  refine List.map_congr_left fun r hr => ?_
  have h1 := h r.2.1 (List.mem_map.2 ⟨r, hr, rfl⟩)
  show r.2.1 = laneB k (maskOf r.2.1)
  rw [laneB, mask_bit hk]
  rcases h1 with e | e <;> rw [e] <;> rfl
/-- The clocks of one lane. -/
def laneAll (k : Nat) (ins : List (List Nat)) : List (List Int) := ins.map (lane k)
theorem lanes_length (k : Nat) (ins : List (List Nat)) : (laneAll k ins).length = ins.length := by simp [laneAll]
theorem lanes_get (k : Nat) (ins : List (List Nat)) (i : Nat) (hi : i < ins.length) : (laneAll k ins).getD i default = lane k (ins.getD i default) := getD_map (lane k) ins i hi
theorem Net.lane_state {n : Net} (hn : n.Small) {k : Nat} (hk : k < 64) {ins : List (List Nat)} (hi : InsU ins) (h : n.manyOK ins = true) : ∀ i, i ≤ ins.length → n.stateAt n.firsts (laneAll k ins) i = lane k (n.wst ins i)
  | 0, _ => Net.lane_firsts hn (Net.manyOK_facts h).2.1 hk ins
  | i + 1, hl => by
    show (n.eval ((laneAll k ins).getD i default) (n.stateAt n.firsts (laneAll k ins) i)).2.1 = _
    rw [Net.lane_state hn hk hi h i (by omega), lanes_get _ _ _ (by omega), Net.lane_eval hk (Net.wide_at hi h i (by omega))]
    rfl
theorem Net.lane_outs {n : Net} (hn : n.Small) {k : Nat} (hk : k < 64) {ins : List (List Nat)} (hi : InsU ins) (h : n.manyOK ins = true) (i : Nat) (hl : i < ins.length) : (n.outsAt n.firsts (laneAll k ins) ins.length).getD i default = lane k ((n.wouts ins ins.length).getD i default) := by
  rw [Net.outsAt, Net.wouts, range_get _ _ _ hl, range_get _ _ _ hl, Net.lane_state hn hk hi h i (by omega), lanes_get _ _ _ hl, Net.lane_eval hk (Net.wide_at hi h i hl)]
  rfl
theorem Net.lanes_fits {n : Net} {k : Nat} {ins : List (List Nat)} (h : n.manyOK ins = true) : n.Fits (laneAll k ins) := by
  intro l hl
  obtain ⟨v, hv, rfl⟩ := List.mem_map.1 hl
  obtain ⟨i, hi, rfl⟩ := List.getElem_of_mem hv
  refine ⟨?_, bit01_bit (lane_01 _ _)⟩
  have := (Net.manyOK_facts h).2.2.2 i hi
  rw [List.getD_eq_getElem?_getD, List.getElem?_eq_getElem hi] at this
  rw [lane_length]; exact this
/-- A word's bit, as the program tells it. -/
theorem lane_prog {x k : Nat} : (((x >>> k % 2 : Nat) : Int)) = laneB k x := by
  unfold laneB
  rw [Nat.testBit_eq_decide_div_mod_eq, Nat.shiftRight_eq_div_pow]
  by_cases h : x / 2 ^ k % 2 = 1
  · rw [decide_eq_true h, h]; rfl
  · rw [decide_eq_false h, show x / 2 ^ k % 2 = 0 from by omega]; rfl
/-- The law's words. -/
def wordV (f : List Nat) (m i j : Nat) : Nat := if f.length = 0 then 0 else (f.getD ((((i : Int) * (m : Int) + (j : Int)) % (f.length : Int)).toNat) default) * 2 ^ (i % 5) % 2 ^ 64
theorem wordV_nil {f : List Nat} {m i j : Nat} (h : f.length = 0) : wordV f m i j = 0 := by rw [wordV, if_pos h]
theorem wordV_at {f : List Nat} {m i j : Nat} (h : ¬ f.length = 0) : wordV f m i j = (f.getD ((((i : Int) * (m : Int) + (j : Int)) % (f.length : Int)).toNat) default) * 2 ^ (i % 5) % 2 ^ 64 := by rw [wordV, if_neg h]
theorem wordV_lt (f : List Nat) (m i j : Nat) : wordV f m i j < 2 ^ 64 := by
  unfold wordV
  split
  · decide
  · exact Nat.mod_lt _ (by decide)
def wordsTo (f : List Nat) (m i j : Nat) : List Nat := (List.range j).map (wordV f m i)
theorem wordsTo_length (f : List Nat) (m i j : Nat) : (wordsTo f m i j).length = j := by simp [wordsTo]
theorem wordsTo_succ (f : List Nat) (m i j : Nat) : wordsTo f m i (j + 1) = wordsTo f m i j ++ [wordV f m i j] := by simp [wordsTo, List.range_succ]
def laneBitsTo (f : List Nat) (m l i j : Nat) : List Int := (List.range j).map fun k => ((wordV f m i k >>> l % 2 : Nat) : Int)
theorem laneBitsTo_length (f : List Nat) (m l i j : Nat) : (laneBitsTo f m l i j).length = j := by simp [laneBitsTo]
theorem laneBitsTo_succ (f : List Nat) (m l i j : Nat) : laneBitsTo f m l i (j + 1) = laneBitsTo f m l i j ++ [((wordV f m i j >>> l % 2 : Nat) : Int)] := by simp [laneBitsTo, List.range_succ]
def allW (f : List Nat) (m i : Nat) : List (List Nat) := (List.range i).map fun k => wordsTo f m k m
theorem allW_length (f : List Nat) (m i : Nat) : (allW f m i).length = i := by simp [allW]
theorem allW_succ (f : List Nat) (m i : Nat) : allW f m (i + 1) = allW f m i ++ [wordsTo f m i m] := by simp [allW, List.range_succ]
def allB (f : List Nat) (m l i : Nat) : List (List Int) := (List.range i).map fun k => laneBitsTo f m l k m
theorem allB_length (f : List Nat) (m l i : Nat) : (allB f m l i).length = i := by simp [allB]
theorem allB_succ (f : List Nat) (m l i : Nat) : allB f m l (i + 1) = allB f m l i ++ [laneBitsTo f m l i m] := by simp [allB, List.range_succ]
theorem allB_eq (f : List Nat) (m l i : Nat) : allB f m l i = laneAll l (allW f m i) := by
  rw [allB, laneAll, allW, List.map_map]
  refine List.map_congr_left fun k _ => ?_
  show laneBitsTo f m l k m = lane l (wordsTo f m k m)
  rw [laneBitsTo, lane, wordsTo, List.map_map]
  exact List.map_congr_left fun j _ => lane_prog
theorem allW_insu (f : List Nat) {m i : Nat} (hm : m ≤ 1000) (hi : i ≤ 1000) : InsU (allW f m i) := by
  refine ⟨by rw [allW_length]; omega, fun l hl => ?_⟩
  obtain ⟨k, _, rfl⟩ := List.mem_map.1 hl
  refine ⟨by rw [wordsTo_length]; omega, fun x hx => ?_⟩
  obtain ⟨j, _, rfl⟩ := List.mem_map.1 hx
  exact wordV_lt _ _ _ _
theorem Net.allW_ok {n : Net} (hv : n.valid = true) (hk : n.known = true) (f : List Nat) {i : Nat} (hi : i ≤ 1000) : n.manyOK (allW f n.ins.length i) = true := by
  have h1 : decide (firstLen n (allW f n.ins.length i) ≥ 0) = false := firstLen_none.2 fun k hk2 => by
    rw [allW_length] at hk2
    rw [allW, range_get _ _ _ hk2, wordsTo_length]
  rw [Net.manyOK, hv, hk, h1, allW_length, decide_eq_true (by omega)]
  rfl
theorem word_at {f : List Nat} {m i j : Nat} (h : f.length > 0) (hm : m ≤ 1000) (hi : i ≤ 1000) (hj : j < m) :
    0 ≤ ((i : Int) * (m : Int) + (j : Int)) ∧ ((i : Int) * (m : Int) + (j : Int)) ≤ 1001000 ∧ 0 ≤ (i : Int) * (m : Int) ∧ 0 ≤ (((i : Int) * (m : Int) + (j : Int)) % (f.length : Int)) ∧ (((i : Int) * (m : Int) + (j : Int)) % (f.length : Int)) < f.length := by
  have h0 : (i : Int) * (m : Int) ≤ 1000000 := by
    have := Nat.mul_le_mul hi hm
    have e : (i : Int) * (m : Int) = ((i * m : Nat) : Int) := by simp
    rw [e]; omega
  have h1 : 0 ≤ (i : Int) * (m : Int) := by
    have e : (i : Int) * (m : Int) = ((i * m : Nat) : Int) := by simp
    rw [e]; omega
  exact ⟨by omega, by omega, h1, Int.emod_nonneg _ (by omega), Int.emod_lt_of_pos _ (by omega)⟩
theorem shl_u64w {x i : Nat} : IntKind.u64.wrap ((x : Int) * 2 ^ min ((i : Int) % 5).toNat IntKind.u64.bits) = ((x * 2 ^ (i % 5) % 2 ^ 64 : Nat) : Int) := by
  show IntKind.u64.wrap ((x : Int) * 2 ^ min ((i : Int) % 5).toNat 64) = _
  rw [show min ((i : Int) % 5).toNat 64 = i % 5 from by omega]
  have e : ((x * 2 ^ (i % 5) : Nat) : Int) = (x : Int) * 2 ^ (i % 5) := by norm_cast
  rw [← e]
  generalize x * 2 ^ (i % 5) = y
  simp [IntKind.wrap, IntKind.bits, IntKind.signed]
theorem Net.lane_cell {n : Net} (hn : n.Small) {l : Nat} (hl : l < 64) {ins : List (List Nat)} (hi : InsU ins) (h : n.manyOK ins = true) (i : Nat) (hk : i < ins.length) :
    ((n.outsAt n.firsts (laneAll l ins) ins.length).getD i default).length = ((n.wouts ins ins.length).getD i default).length ∧ ∀ j, ((n.outsAt n.firsts (laneAll l ins) ins.length).getD i default).getD j default = ((((n.wouts ins ins.length).getD i default).getD j default >>> l % 2 : Nat) : Int) := by
  rw [Net.lane_outs hn hl hi h i hk]
  exact ⟨lane_length _ _, fun j => by rw [lane_get, lane_prog]⟩
theorem Net.wouts_insu {n : Net} (hn : n.Small) {ins : List (List Nat)} (hi : InsU ins) : ∀ l ∈ n.wouts ins ins.length, l.length ≤ 140737488355328 ∧ W64 l := by
  have z := hn.outsL
  intro l hl
  obtain ⟨k, _, rfl⟩ := List.mem_map.1 hl
  refine ⟨by rw [List.length_map]; omega, fun x hx => ?_⟩
  obtain ⟨p, _, rfl⟩ := List.mem_map.1 hx
  exact wOf_lt (n.wideTo_64 (hi.at k).2 (n.wst_64 hi k) _) _
end Go.Proofs.YtnnklpmgncbgnaaGreat
