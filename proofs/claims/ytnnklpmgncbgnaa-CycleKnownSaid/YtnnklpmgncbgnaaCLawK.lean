/- What a run that knows more answers, in plain Lean. -/
import Derived.Test.YtnnklpmgncbgnaaCLaw
import Derived.Test.YtnnklpmgncbgnaaCKnow
import Derived.Test.YtnnklpmgncbgnaaCNum
set_option linter.unusedVariables false
set_option linter.unusedSimpArgs false
namespace Go.Proofs.Ytnnklpmgncbgnaa
open Go

def lessV (b k : Int) : Int := if (b == 2 && decide (k % 3 > 0)) then k % 2 else b
theorem lessV_bit {b k : Int} (h : isBit b) : isBit (lessV b k) := by
  unfold lessV
  split
  · rcases Int.emod_two_eq k with e | e <;> rw [e]
    · exact .inl rfl
    · exact .inr (.inl rfl)
  · exact h
theorem lessV_le (b k : Int) : Le b (lessV b k) := by
  unfold lessV
  split
  · rename_i h
    rw [Bool.and_eq_true, beq_iff_eq] at h
    exact .inl h.1
  · exact .inr rfl
theorem lessV_range {b k : Int} (h : 0 ≤ b ∧ b ≤ 255) : 0 ≤ lessV b k ∧ lessV b k ≤ 255 := by
  unfold lessV
  split
  · omega
  · exact h
def lessR (t : Int) (i : Nat) (r : ByteArray × Int × Int) : ByteArray × Int × Int := (r.1, lessV r.2.1 ((i : Int) + t), r.2.2)
def Net.lessRegs (n : Net) (t : Int) : List (ByteArray × Int × Int) := (List.range n.regs.length).map fun i => lessR t i (n.regs.getD i default)
def Net.lessN (n : Net) (t : Int) : Net := ⟨n.ins, n.lessRegs t, n.gates, n.outs⟩
theorem Net.lessRegs_length (n : Net) (t : Int) : (n.lessRegs t).length = n.regs.length := by simp [Net.lessRegs]
theorem range_getD {α : Type} [Inhabited α] (f : Nat → α) (m i : Nat) (hi : i < m) : ((List.range m).map f).getD i default = f i := by
  rw [List.getD_eq_getElem?_getD, List.getElem?_map, List.getElem?_range hi]; rfl
theorem Net.lessRegs_get (n : Net) (t : Int) (i : Nat) (h : i < n.regs.length) : (n.lessRegs t).getD i default = lessR t i (n.regs.getD i default) := range_getD _ _ _ h
theorem range_self {α : Type} [Inhabited α] (l : List α) : (List.range l.length).map (fun i => l.getD i default) = l := by
  refine List.ext_getElem (by simp) fun i h1 h2 => ?_
  simp only [List.getElem_map, List.getElem_range]
  rw [List.getD_eq_getElem?_getD, List.getElem?_eq_getElem h2]; rfl
theorem Net.lessRegs_map {β : Type} (n : Net) (t : Int) (g : ByteArray × Int × Int → β) (h : ∀ i r, g (lessR t i r) = g r) : (n.lessRegs t).map g = n.regs.map g := by
  have e : (n.lessRegs t).map g = (List.range n.regs.length).map (fun i => g (n.regs.getD i default)) := by
    rw [Net.lessRegs, List.map_map]
    exact List.map_congr_left fun i _ => h i _
  rw [e]
  have := congrArg (List.map g) (range_self n.regs)
  rw [List.map_map] at this
  exact this
theorem Net.lessN_small {n : Net} (hn : n.Small) (t : Int) : (n.lessN t).Small := by
  have key : ∀ r ∈ n.lessRegs t, ∃ i, i < n.regs.length ∧ r = lessR t i (n.regs.getD i default) := by
    intro r hr
    obtain ⟨i, hi, rfl⟩ := List.mem_map.1 hr
    exact ⟨i, List.mem_range.1 hi, rfl⟩
  refine ⟨hn.ins, ?_, hn.outs, hn.insL, ?_, hn.gatesL, hn.outsL, ?_, hn.gatesI, ?_, hn.outsI⟩
  · intro r hr; obtain ⟨i, hi, rfl⟩ := key r hr; have := hn.regs (n.regs.getD i default) (getD_mem hi); exact this
  · show (n.lessRegs t).length ≤ _; rw [n.lessRegs_length]; exact hn.regsL
  · intro r hr; obtain ⟨i, hi, rfl⟩ := key r hr; exact lessV_range (hn.bytes _ (getD_mem hi))
  · intro r hr; obtain ⟨i, hi, rfl⟩ := key r hr; have := hn.regsI (n.regs.getD i default) (getD_mem hi); exact this
theorem Net.less_get (n : Net) (t : Int) (i : Nat) (hi : i < n.regs.length) : (mixTo (n.lessRegs t) n.regs i).getD (0 + (i : Int).toNat) default = n.regs.getD i default := mix_get (n.lessRegs_length t) i hi
theorem Net.less_next (n : Net) (t : Int) (i : Nat) (hi : i < n.regs.length) : mixTo (n.lessRegs t) n.regs (i + 1) = (mixTo (n.lessRegs t) n.regs i).set (0 + (i : Int).toNat)
    (((mixTo (n.lessRegs t) n.regs i).getD (0 + (i : Int).toNat) default).1, lessV ((mixTo (n.lessRegs t) n.regs i).getD (0 + (i : Int).toNat) default).2.1 ((i : Int) + t), ((mixTo (n.lessRegs t) n.regs i).getD (0 + (i : Int).toNat) default).2.2) := by
  rw [n.less_get t i hi, mixTo_step (n.lessRegs_length t) i (by rw [n.lessRegs_length]; exact hi), n.lessRegs_get t i hi]
  rfl
theorem Net.less_all (n : Net) (t : Int) : mixTo (n.lessRegs t) n.regs n.regs.length = n.lessRegs t := mixTo_all (n.lessRegs_length t)
theorem bit_of_le {b : Int} (h0 : 0 ≤ b) (h : b ≤ 2) : isBit b := by
  have : b = 0 ∨ b = 1 ∨ b = 2 := by omega
  exact this
theorem bit_le {b : Int} (h : isBit b) : 0 ≤ b ∧ b ≤ 2 := by rcases h with rfl | rfl | rfl <;> decide
theorem Net.lessN_valid {n : Net} (hn : n.Small) (hv : n.valid = true) (t : Int) : (n.lessN t).valid = true := by
  have hv0 := hv
  obtain ⟨f1, f2, f3, f4, f5, f6, f7⟩ := Net.valid_facts hv
  simp only [Net.valid, Bool.and_eq_true] at hv
  obtain ⟨⟨⟨h0, h1⟩, h2⟩, h3⟩ := hv
  have hl : (n.lessN t).regs.length = n.regs.length := n.lessRegs_length t
  have e1 : (n.lessN t).first = n.first := by
    show (1 : Int) + n.ins.length + (n.lessRegs t).length = 1 + n.ins.length + n.regs.length
    rw [n.lessRegs_length]
  have e2 : (n.lessN t).last = n.last := by rw [Net.last, Net.last, e1]; rfl
  refine Net.valid_all ?_ ?_ ?_ ?_
  · rw [← h0]
    show (okNames n.ins && okNames ((n.lessRegs t).map (·.1)) && _ && _) = _
    rw [n.lessRegs_map t (·.1) (fun _ _ => rfl)]
    rfl
  · rw [← h1]
    exact allTo_congr fun k _ => by rw [Net.gateAt, Net.gateAt, e1]; rfl
  · rw [hl]
    refine allTo_iff.2 fun k hk => ?_
    have h4 := allTo_iff.1 h2 k hk
    have hb := bit_le (lessV_bit (k := (k : Int) + t) (bit_of_le (hn.bytes _ (getD_mem hk)).1 (f6 k hk).1))
    have hg : (n.lessN t).regs.getD k default = lessR t k (n.regs.getD k default) := n.lessRegs_get t k hk
    rw [Net.regAt, e2, hg]
    rw [Net.regAt] at h4
    show (!((decide (lessV (n.regs.getD k default).2.1 ((k : Int) + t) > 2) || decide ((n.regs.getD k default).2.2 < 0)) || decide ((n.regs.getD k default).2.2 ≥ n.last))) = true
    rw [Bool.not_eq_true', Bool.or_eq_false_iff, Bool.or_eq_false_iff] at h4 ⊢
    exact ⟨⟨decide_eq_false (by omega), h4.1.2⟩, h4.2⟩
  · rw [← h3]
    exact allTo_congr fun k _ => by rw [Net.outAt, Net.outAt, e2]; rfl
theorem Net.lessN_vals (n : Net) (t : Int) (a s : List Int) : ∀ i, (n.lessN t).valsTo a s i = n.valsTo a s i
  | 0 => rfl
  | i + 1 => by
    show (n.lessN t).valsTo a s i ++ _ = n.valsTo a s i ++ _
    rw [n.lessN_vals t a s i]
    rfl
theorem Net.lessN_eval {n : Net} (hn : n.Small) (hv : n.valid = true) (t : Int) (a s : List Int) : (n.lessN t).eval a s = n.eval a s := by
  have hb : (n.lessN t).bad a s = n.bad a s := by
    rw [Net.bad, Net.bad, hv, Net.lessN_valid hn hv]
    show ((!true || !bitsOK a n.ins.length) || !bitsOK s ((n.lessRegs t).length : Int)) = _
    rw [n.lessRegs_length]
  have hl : (n.lessN t).regs.length = n.regs.length := n.lessRegs_length t
  unfold Net.eval
  rw [hb]
  split
  · rfl
  · congr 1
    · refine List.map_congr_left fun p _ => ?_
      exact congrArg (fun v => ofB v p.2) (n.lessN_vals t a s n.gates.length)
    · congr 1
      rw [List.take_length, List.take_length]
      have e := n.lessRegs_map t (fun r => ofB (n.valsTo a s n.gates.length) r.2.2) (fun _ _ => rfl)
      rw [← e]
      refine List.map_congr_left fun r _ => ?_
      exact congrArg (fun v => ofB v r.2.2) (n.lessN_vals t a s n.gates.length)
theorem Net.lessN_state {n : Net} (hn : n.Small) (hv : n.valid = true) (t : Int) (st : List Int) (ins : List (List Int)) : ∀ i, (n.lessN t).stateAt st ins i = n.stateAt st ins i
  | 0 => rfl
  | i + 1 => by
    show ((n.lessN t).eval _ ((n.lessN t).stateAt st ins i)).2.1 = (n.eval _ (n.stateAt st ins i)).2.1
    rw [Net.lessN_state hn hv t st ins i, Net.lessN_eval hn hv]
theorem Net.lessN_outs {n : Net} (hn : n.Small) (hv : n.valid = true) (t : Int) (st : List Int) (ins : List (List Int)) (i : Nat) : (n.lessN t).outsAt st ins i = n.outsAt st ins i := by
  rw [Net.outsAt, Net.outsAt]
  refine List.map_congr_left fun k _ => ?_
  rw [Net.lessN_state hn hv, Net.lessN_eval hn hv]
/-- Clocks that know more. -/
def lessCTo (l : List Int) (i : Nat) (t : Int) (j : Nat) : List Int := (List.range j).map fun k => lessV (l.getD k default) ((k : Int) + (i : Int) + t)
def lessC (l : List Int) (i : Nat) (t : Int) : List Int := lessCTo l i t l.length
def lessATo (a : List (List Int)) (t : Int) (i : Nat) : List (List Int) := (List.range i).map fun k => lessC (a.getD k default) k t
def lessA (a : List (List Int)) (t : Int) : List (List Int) := lessATo a t a.length
theorem lessCTo_length (l : List Int) (i : Nat) (t : Int) (j : Nat) : (lessCTo l i t j).length = j := by simp [lessCTo]
theorem lessCTo_succ (l : List Int) (i : Nat) (t : Int) (j : Nat) : lessCTo l i t (j + 1) = lessCTo l i t j ++ [lessV (l.getD j default) ((j : Int) + (i : Int) + t)] := by simp [lessCTo, List.range_succ]
theorem lessATo_length (a : List (List Int)) (t : Int) (i : Nat) : (lessATo a t i).length = i := by simp [lessATo]
theorem lessATo_succ (a : List (List Int)) (t : Int) (i : Nat) : lessATo a t (i + 1) = lessATo a t i ++ [lessC (a.getD i default) i t] := by simp [lessATo, List.range_succ]
theorem lessC_cov (l : List Int) (i : Nat) (t : Int) : Cov l (lessC l i t) := by
  refine ⟨(lessCTo_length _ _ _ _).symm, fun k => ?_⟩
  by_cases hk : k < l.length
  · rw [lessC, lessCTo, range_getD _ _ _ hk]; exact lessV_le _ _
  · have hk2 : ¬ k < (lessC l i t).length := by rw [lessC, lessCTo_length]; exact hk
    rw [List.getD_eq_getElem?_getD, List.getD_eq_getElem?_getD, List.getElem?_eq_none (by omega), List.getElem?_eq_none (by omega)]
    exact .inr rfl
theorem Net.lessA_fits {n : Net} {a : List (List Int)} (h : n.Fits a) (t : Int) : n.Fits (lessA a t) := by
  intro l hl
  obtain ⟨k, hk, rfl⟩ := List.mem_map.1 hl
  have hk := List.mem_range.1 hk
  obtain ⟨h1, h2⟩ := h _ (getD_mem hk)
  refine ⟨by rw [lessC, lessCTo_length]; exact h1, fun x hx => ?_⟩
  obtain ⟨j, hj, rfl⟩ := List.mem_map.1 hx
  exact lessV_bit (h2 _ (getD_mem (List.mem_range.1 hj)))
theorem Net.eval_cov {n : Net} (hv : n.valid = true) {ins regs ins' regs' : List Int} (l1 : ins.length = n.ins.length) (l2 : regs.length = n.regs.length) (b1 : ∀ x ∈ ins, isBit x) (b2 : ∀ x ∈ regs, isBit x) (b3 : ∀ x ∈ ins', isBit x) (b4 : ∀ x ∈ regs', isBit x) (c1 : Cov ins ins') (c2 : Cov regs regs') :
    Cov (n.eval ins regs).1 (n.eval ins' regs').1 ∧ Cov (n.eval ins regs).2.1 (n.eval ins' regs').2.1 := by
  rw [Net.eval_ok (Net.bad_ok hv l1 l2 b1 b2), Net.eval_ok (Net.bad_ok hv (by rw [← c1.1]; exact l1) (by rw [← c2.1]; exact l2) b3 b4)]
  have c := Net.vals_cov hv l1 l2 b1 b2 b3 b4 c1 c2 n.gates.length (Nat.le_refl _)
  exact ⟨cov_map _ _ _ fun p => cov_of c _, cov_map _ _ _ fun p => cov_of c _⟩
theorem Net.lessN_firsts (n : Net) (t : Int) : Cov n.firsts (n.lessN t).firsts := by
  refine ⟨by simp [Net.firsts, Net.lessN, Net.lessRegs], fun k => ?_⟩
  by_cases hk : k < n.regs.length
  · have e1 : n.firsts.getD k default = (n.regs.getD k default).2.1 := getD_map initR n.regs k hk
    have e2 : (n.lessN t).firsts.getD k default = ((n.lessRegs t).getD k default).2.1 := getD_map initR (n.lessRegs t) k (by rw [n.lessRegs_length]; exact hk)
    rw [e1, e2, n.lessRegs_get t k hk]
    exact lessV_le _ _
  · rw [List.getD_eq_getElem?_getD, List.getD_eq_getElem?_getD, List.getElem?_eq_none (by simp [Net.firsts]; omega), List.getElem?_eq_none (by simp [Net.firsts, Net.lessN, Net.lessRegs]; omega)]
    exact .inr rfl
theorem Net.step_cov {n : Net} (hn : n.Small) (hv : n.valid = true) {a : List (List Int)} (h : n.Fits a) (hl : a.length ≤ 1000) (t : Int) (i : Nat) (hi : i < a.length) (ih : Cov (n.stateAt n.firsts a i) (n.stateAt (n.lessN t).firsts (lessA a t) i)) :
    Cov (n.eval (a.getD i default) (n.stateAt n.firsts a i)).1 (n.eval ((lessA a t).getD i default) (n.stateAt (n.lessN t).firsts (lessA a t) i)).1 ∧ Cov (n.eval (a.getD i default) (n.stateAt n.firsts a i)).2.1 (n.eval ((lessA a t).getD i default) (n.stateAt (n.lessN t).firsts (lessA a t) i)).2.1 := by
  have fl := Net.lessA_fits h t
  have ll : (lessA a t).length = a.length := lessATo_length _ _ _
  have sl := Net.lessN_small hn t
  have vl := Net.lessN_valid hn hv t
  have r1 := Net.runAt (h.ins hn hl) (Net.firsts_bytes hn).rng hv (Net.firsts_ok hn hv) h.all i (by omega)
  have fl2 : (n.lessN t).Fits (lessA a t) := fl
  have r2 := Net.runAt (fl2.ins sl (by omega)) (Net.firsts_bytes sl).rng vl (Net.firsts_ok sl vl) fl2.all i (by omega)
  have hb2 := r2.bit
  rw [Net.lessN_state hn hv] at hb2
  obtain ⟨g1, g2⟩ := h _ (getD_mem hi)
  obtain ⟨g3, g4⟩ := fl _ (getD_mem (v := lessA a t) (i := i) (by omega))
  have hc : Cov (a.getD i default) ((lessA a t).getD i default) := by
    rw [lessA, lessATo, range_getD _ _ _ hi]; exact lessC_cov _ _ _
  exact Net.eval_cov hv g1 r1.len g2 r1.bit g4 hb2 hc ih
theorem Net.states_cov {n : Net} (hn : n.Small) (hv : n.valid = true) {a : List (List Int)} (h : n.Fits a) (hl : a.length ≤ 1000) (t : Int) : ∀ i, i ≤ a.length → Cov (n.stateAt n.firsts a i) (n.stateAt (n.lessN t).firsts (lessA a t) i)
  | 0, _ => n.lessN_firsts t
  | i + 1, hi => by
    have ih := Net.states_cov hn hv h hl t i (by omega)
    exact (Net.step_cov hn hv h hl t i (by omega) ih).2
theorem Net.outs_cov {n : Net} (hn : n.Small) (hv : n.valid = true) {a : List (List Int)} (h : n.Fits a) (hl : a.length ≤ 1000) (t : Int) (i : Nat) (hi : i < a.length) : Cov ((n.outsAt n.firsts a a.length).getD i default) (((n.lessN t).outsAt (n.lessN t).firsts (lessA a t) a.length).getD i default) := by
  rw [Net.lessN_outs hn hv, Net.outsAt, Net.outsAt, range_getD _ _ _ hi, range_getD _ _ _ hi]
  exact (Net.step_cov hn hv h hl t i hi (Net.states_cov hn hv h hl t i (by omega))).1
theorem cov_at {l m : List Int} (h : Cov l m) (k : Nat) : (l.getD k default != 2 && l.getD k default != m.getD k default) = false := by
  rcases h.2 k with e | e
  · rw [e]; rfl
  · rw [← e]; simp
end Go.Proofs.Ytnnklpmgncbgnaa
