/- The laws' own words, in plain Lean. -/
import Derived.Test.YtnnklpmgncbgnaaGreatCRun
set_option linter.unusedVariables false
set_option linter.unusedSimpArgs false
namespace Go.Proofs.YtnnklpmgncbgnaaGreat
open Go

theorem Net.run_Ins {n : Net} (hn : n.Small) {st : List Int} {ins : List (List Int)} (hs : Bytes st) (hi : Ins ins) : Ins (n.run st ins).1 ∧ Bytes (n.run st ins).2.1 := by
  have bn : Bytes ([] : List Int) := ⟨by decide, by intro x hx; cases hx⟩
  have z1 := hn.outsL
  have z2 := hn.regsL
  by_cases h : n.runOK st ins = true
  · rw [Net.run, if_pos h]
    rw [Net.runOK, Bool.and_eq_true] at h
    obtain ⟨hv, hl, h0⟩ := Net.runHead_eq.1 h.1
    have hra := Net.runAt hi hs.rng hv h0 h.2
    refine ⟨⟨?_, ?_⟩, ⟨?_, ?_⟩⟩
    · rw [Net.outsAt_length]; exact hi.len
    · intro l hl
      obtain ⟨k, hk, rfl⟩ := List.mem_map.1 hl
      have hk := List.mem_range.1 hk
      obtain ⟨_, e2, _, e4, _⟩ := Net.eval_facts (hi.at k).rng (bit_bytes (hra k (by omega)).bit) (Net.runAt_bad hv h.2 hk (hra k (by omega)))
      exact ⟨by rw [e2]; omega, bit_bytes e4⟩
    · rw [(hra _ (Nat.le_refl _)).len]; omega
    · exact bit_bytes (hra _ (Nat.le_refl _)).bit
  · rw [Net.run, if_neg h]
    exact ⟨⟨by decide, by intro l hl; cases hl⟩, bn⟩
def Net.fewHead (n : Net) : Bool := decide (((n.ins.length : Int) + n.regs.length + n.outs.length) > 200) || decide ((n.gates.length : Int) > 300)
def fewAt (c : List (List Int)) (i : Nat) : Bool := !decide (((c.getD i default).length : Int) > 250)
def Net.few (n : Net) (c : List (List Int)) : Bool := !n.fewHead && allTo (fewAt c) c.length && (decide ((c.length : Int) ≤ 60) || decide ((c.length : Int) > 1000))
theorem Net.few_head {n : Net} {c : List (List Int)} (h : n.fewHead = true) : n.few c = false := by rw [Net.few, h]; rfl
theorem Net.few_at {n : Net} {c : List (List Int)} (i : Nat) (hi : i < c.length) (h : fewAt c i = false) : n.few c = false := by rw [Net.few, allTo_false i hi h, Bool.and_false]; rfl
theorem Net.few_ok {n : Net} {c : List (List Int)} (h : n.fewHead = false) (h2 : allTo (fewAt c) c.length = true) : n.few c = (decide ((c.length : Int) ≤ 60) || decide ((c.length : Int) > 1000)) := by rw [Net.few, h, h2]; rfl
theorem Net.few_facts {n : Net} {c : List (List Int)} (h : n.few c = true) : n.ins.length + n.regs.length + n.outs.length ≤ 200 ∧ n.gates.length ≤ 300 := by
  have h1 : n.fewHead = false := by
    cases h2 : n.fewHead with
    | false => rfl
    | true => rw [Net.few_head h2] at h; cases h
  rw [Net.fewHead, Bool.or_eq_false_iff, decide_eq_false_iff_not, decide_eq_false_iff_not] at h1
  omega

/-- The k-th value that is drawn. -/
def drawX (f : List Int) (m t i : Nat) : Int := f.getD ((((i : Int) + (m : Int) * (t : Int)) % (f.length : Int)).toNat) default + (t : Int) / 7
def drawV (f : List Int) (m t : Nat) (d : Bool) (i : Nat) : Int := if f.length = 0 then 0 else if d && (drawX f m t i % 5 == 4) then 2 else drawX f m t i % 2
def drawnTo (f : List Int) (m t : Nat) (d : Bool) (i : Nat) : List Int := (List.range i).map (drawV f m t d)
def drawn (f : List Int) (m t : Nat) (d : Bool) : List Int := drawnTo f m t d m
theorem drawnTo_length (f : List Int) (m t : Nat) (d : Bool) (i : Nat) : (drawnTo f m t d i).length = i := by simp [drawnTo]
theorem drawnTo_succ (f : List Int) (m t : Nat) (d : Bool) (i : Nat) : drawnTo f m t d (i + 1) = drawnTo f m t d i ++ [drawV f m t d i] := by simp [drawnTo, List.range_succ]
theorem drawV_nil {f : List Int} {m t : Nat} {d : Bool} {i : Nat} (h : f.length = 0) : drawV f m t d i = 0 := by rw [drawV, if_pos h]
theorem drawV_two {f : List Int} {m t : Nat} {d : Bool} {i : Nat} (h : ¬ f.length = 0) (h2 : (d && (drawX f m t i % 5 == 4)) = true) : drawV f m t d i = 2 := by rw [drawV, if_neg h, if_pos h2]
theorem drawV_bit {f : List Int} {m t : Nat} {d : Bool} {i : Nat} (h : ¬ f.length = 0) (h2 : (d && (drawX f m t i % 5 == 4)) = false) : drawV f m t d i = drawX f m t i % 2 := by rw [drawV, if_neg h, h2]; rfl
theorem drawV_isBit (f : List Int) (m t : Nat) (d : Bool) (i : Nat) : isBit (drawV f m t d i) := by
  unfold drawV
  split
  · exact .inl rfl
  · split
    · exact .inr (.inr rfl)
    · rcases Int.emod_two_eq (drawX f m t i) with h | h <;> rw [h]
      · exact .inl rfl
      · exact .inr (.inl rfl)
def OKB8 (l : List Int) : Prop := l.length ≤ 140737488355328 ∧ ∀ x ∈ l, 0 ≤ x ∧ x ≤ 255
theorem draw_at {f : List Int} {m t i : Nat} (hf : OKB8 f) (h : f.length > 0) (hm : m ≤ 1000) (ht : t ≤ 1000) (hi : i < m) :
    0 ≤ ((i : Int) + (m : Int) * (t : Int)) ∧ ((i : Int) + (m : Int) * (t : Int)) ≤ 1001000 ∧ 0 ≤ (m : Int) * (t : Int) ∧ 0 ≤ (((i : Int) + (m : Int) * (t : Int)) % (f.length : Int)) ∧ (((i : Int) + (m : Int) * (t : Int)) % (f.length : Int)) < f.length ∧ 0 ≤ f.getD ((((i : Int) + (m : Int) * (t : Int)) % (f.length : Int)).toNat) default ∧ f.getD ((((i : Int) + (m : Int) * (t : Int)) % (f.length : Int)).toNat) default ≤ 255 := by
  have h0 : (m : Int) * (t : Int) ≤ 1000000 := by
    have := Nat.mul_le_mul hm ht
    have e : (m : Int) * (t : Int) = ((m * t : Nat) : Int) := by simp
    rw [e]; omega
  have h1 : 0 ≤ (m : Int) * (t : Int) := by
    have e : (m : Int) * (t : Int) = ((m * t : Nat) : Int) := by simp
    rw [e]; omega
  have h2 : 0 ≤ (((i : Int) + (m : Int) * (t : Int)) % (f.length : Int)) := Int.emod_nonneg _ (by omega)
  have h3 : (((i : Int) + (m : Int) * (t : Int)) % (f.length : Int)) < f.length := Int.emod_lt_of_pos _ (by omega)
  have h4 := hf.2 _ (getD_mem (v := f) (i := ((((i : Int) + (m : Int) * (t : Int)) % (f.length : Int)).toNat)) (by omega))
  exact ⟨by omega, by omega, h1, h2, h3, h4.1, h4.2⟩
def Net.clocksTo (n : Net) (f : List Int) (d : Bool) (i : Nat) : List (List Int) := (List.range i).map fun k => drawn f n.ins.length k d
def Net.clocks (n : Net) (f : List Int) (m : Int) (d : Bool) : List (List Int) := n.clocksTo f d m.toNat
theorem Net.clocksTo_length (n : Net) (f : List Int) (d : Bool) (i : Nat) : (n.clocksTo f d i).length = i := by simp [Net.clocksTo]
theorem Net.clocksTo_succ (n : Net) (f : List Int) (d : Bool) (i : Nat) : n.clocksTo f d (i + 1) = n.clocksTo f d i ++ [drawn f n.ins.length i d] := by simp [Net.clocksTo, List.range_succ]
/-- Clocks that a net takes. -/
def Net.Fits (n : Net) (ins : List (List Int)) : Prop := ∀ l ∈ ins, l.length = n.ins.length ∧ ∀ x ∈ l, isBit x
theorem Net.clocks_fits (n : Net) (f : List Int) (m : Int) (d : Bool) : n.Fits (n.clocks f m d) := by
  intro l hl
  obtain ⟨k, _, rfl⟩ := List.mem_map.1 hl
  refine ⟨drawnTo_length _ _ _ _ _, fun x hx => ?_⟩
  obtain ⟨j, _, rfl⟩ := List.mem_map.1 hx
  exact drawV_isBit _ _ _ _ _
theorem Net.clocks_length (n : Net) (f : List Int) (m : Int) (d : Bool) : (n.clocks f m d).length = m.toNat := n.clocksTo_length f d _
theorem Net.Fits.take {n : Net} {ins : List (List Int)} (h : n.Fits ins) (k : Nat) : n.Fits (ins.take k) := fun l hl => h l (List.mem_of_mem_take hl)
theorem Net.Fits.drop {n : Net} {ins : List (List Int)} (h : n.Fits ins) (k : Nat) : n.Fits (ins.drop k) := fun l hl => h l (List.mem_of_mem_drop hl)
theorem Net.Fits.append {n : Net} {a b : List (List Int)} (h : n.Fits a) (h2 : n.Fits b) : n.Fits (a ++ b) := fun l hl => (List.mem_append.1 hl).elim (h l) (h2 l)
theorem Net.Fits.ins {n : Net} (hn : n.Small) {ins : List (List Int)} (h : n.Fits ins) (hl : ins.length ≤ 1000) : Ins ins := by
  have z := hn.insL
  exact ⟨by omega, fun l hl => ⟨by rw [(h l hl).1]; omega, bit_bytes (h l hl).2⟩⟩
theorem Net.Fits.all {n : Net} {ins : List (List Int)} (h : n.Fits ins) : allTo (insAt n ins) ins.length = true :=
  allTo_iff.2 fun k hk => bits_of (h _ (getD_mem hk)).1 (h _ (getD_mem hk)).2
theorem Net.run_fits {n : Net} (hv : n.valid = true) {st : List Int} (h0 : bitsOK st n.regs.length = true) {ins : List (List Int)} (h : n.Fits ins) (hl : ins.length ≤ 1000) : n.run st ins = (n.outsAt st ins ins.length, n.stateAt st ins ins.length, 0) :=
  Net.run_ok (Net.runHead_eq.2 ⟨hv, hl, h0⟩) h.all
theorem Net.stateAt_congr (n : Net) {st : List Int} {a b : List (List Int)} : ∀ i, (∀ j, j < i → a.getD j default = b.getD j default) → n.stateAt st a i = n.stateAt st b i
  | 0, _ => rfl
  | i + 1, h => by
    show (n.eval (a.getD i default) (n.stateAt st a i)).2.1 = (n.eval (b.getD i default) (n.stateAt st b i)).2.1
    rw [h i (by omega), n.stateAt_congr i (fun j hj => h j (by omega))]
theorem Net.outsAt_congr (n : Net) {st : List Int} {a b : List (List Int)} : ∀ i, (∀ j, j < i → a.getD j default = b.getD j default) → n.outsAt st a i = n.outsAt st b i
  | 0, _ => rfl
  | i + 1, h => by
    rw [n.outsAt_succ, n.outsAt_succ, n.outsAt_congr i (fun j hj => h j (by omega)), n.stateAt_congr i (fun j hj => h j (by omega)), h i (by omega)]
theorem getD_drop {α : Type} [Inhabited α] (a : List α) (k i : Nat) : (a.drop k).getD i default = a.getD (k + i) default := by
  rw [List.getD_eq_getElem?_getD, List.getD_eq_getElem?_getD, List.getElem?_drop]
theorem getD_take {α : Type} [Inhabited α] (a : List α) {k i : Nat} (h : i < k) : (a.take k).getD i default = a.getD i default := by
  rw [List.getD_eq_getElem?_getD, List.getD_eq_getElem?_getD, List.getElem?_take, if_pos h]
theorem Net.stateAt_split (n : Net) (st : List Int) (a : List (List Int)) (k : Nat) : ∀ i, n.stateAt st a (k + i) = n.stateAt (n.stateAt st a k) (a.drop k) i
  | 0 => rfl
  | i + 1 => by
    show (n.eval (a.getD (k + i) default) (n.stateAt st a (k + i))).2.1 = (n.eval ((a.drop k).getD i default) (n.stateAt (n.stateAt st a k) (a.drop k) i)).2.1
    rw [getD_drop, n.stateAt_split st a k i]
theorem Net.outsAt_split (n : Net) (st : List Int) (a : List (List Int)) (k : Nat) : ∀ i, n.outsAt st a (k + i) = n.outsAt st a k ++ n.outsAt (n.stateAt st a k) (a.drop k) i
  | 0 => by show n.outsAt st a k = n.outsAt st a k ++ []; rw [List.append_nil]
  | i + 1 => by
    have := n.outsAt_succ st a (k + i)
    rw [← Nat.add_assoc, this, n.outsAt_split st a k i, n.outsAt_succ, List.append_assoc, n.stateAt_split, getD_drop]
theorem Net.outsAt_take (n : Net) (st : List Int) (a : List (List Int)) (k i : Nat) (h : k ≤ i) : (n.outsAt st a i).take k = n.outsAt st a k := by
  obtain ⟨m, rfl⟩ := Nat.exists_eq_add_of_le h
  rw [n.outsAt_split, List.take_append_of_le_length (by rw [n.outsAt_length]; omega), List.take_of_length_le (by rw [n.outsAt_length]; omega)]
theorem Ins.cut {a : List (List Int)} (h : Ins a) (l m : Nat) : Ins ((a.drop l).take m) :=
  ⟨by have := h.len; rw [List.length_take, List.length_drop]; omega, fun x hx => h.each x (List.mem_of_mem_drop (List.mem_of_mem_take hx))⟩
theorem Ins.app {a b : List (List Int)} (h : Ins a) (h2 : Ins b) (hl : a.length + b.length ≤ 5864062014805) : Ins (a ++ b) :=
  ⟨by rw [List.length_append]; exact hl, fun x hx => (List.mem_append.1 hx).elim (h.each x) (h2.each x)⟩
theorem ins_nil : Ins [] := ⟨by decide, by intro l hl; cases hl⟩
theorem Net.early_cut (n : Net) {st : List Int} {a b : List (List Int)} {k : Nat} (hk : k ≤ a.length) (hab : a.length = b.length) :
    sameL (((n.outsAt st a a.length).drop 0).take (k - 0)) (((n.outsAt st (((a.drop 0).take (k - 0)) ++ ((b.drop k).take (b.length - k))) (((a.drop 0).take (k - 0)) ++ ((b.drop k).take (b.length - k))).length).drop 0).take (k - 0)) = true := by
  have hl : (((a.drop 0).take (k - 0)) ++ ((b.drop k).take (b.length - k))).length = a.length := by
    simp only [List.length_append, List.length_take, List.length_drop]; omega
  rw [hl]
  simp only [List.drop_zero, Nat.sub_zero]
  rw [n.outsAt_take st _ k _ hk, n.outsAt_take st _ k _ hk]
  have : n.outsAt st a k = n.outsAt st (a.take k ++ (b.drop k).take (b.length - k)) k := by
    refine n.outsAt_congr k fun j hj => ?_
    rw [List.getD_eq_getElem?_getD, List.getD_eq_getElem?_getD, List.getElem?_append_left (by rw [List.length_take]; omega), List.getElem?_take, if_pos hj]
  rw [this]
  exact sameL_refl _
theorem cut_mod {a : Int} {m : Nat} : ∃ k : Nat, a % ((m : Int) + 1) = (k : Int) ∧ k ≤ m := by
  have h1 : 0 ≤ a % ((m : Int) + 1) := Int.emod_nonneg _ (by omega)
  have h2 : a % ((m : Int) + 1) < (m : Int) + 1 := Int.emod_lt_of_pos _ (by omega)
  exact ⟨(a % ((m : Int) + 1)).toNat, by omega, by omega⟩
end Go.Proofs.YtnnklpmgncbgnaaGreat
