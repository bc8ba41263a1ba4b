/- What 'Share' computes, in plain Lean: the run of a maker over a net's gates. -/
import Derived.Test.YtbpamlphacpkeaaGSem
set_option linter.unusedVariables false
set_option linter.unusedSimpArgs false
namespace Go.Proofs.Ytbpamlphacpkeaa
open Go

/-- What stands for a literal. -/
def nowV (made : List Int) (l : Int) : Int := if l % 2 = 1 then flip (made.getD (0 + (l / 2).toNat) default) else made.getD (0 + (l / 2).toNat) default
def regN (r : ByteArray × Int × Int) : ByteArray := r.1
def regI (r : ByteArray × Int × Int) : Int := r.2.1
/-- The maker that begins with a net's inputs and registers. -/
def Net.begin (n : Net) : MS := MS.make n.ins (n.regs.map regN) (n.regs.map regI)
theorem Net.begin_regs (n : Net) : n.begin.regs.length = n.regs.length := by
  show (regsOf _ _ _).length = _
  rw [regsOf_length, List.length_map]
theorem Net.begin_get (n : Net) (k : Nat) (hk : k < n.regs.length) : n.begin.regs.getD k default = ((n.regs.getD k default).1, (n.regs.getD k default).2.1, 0) := by
  show (regsOf _ _ _).getD k default = _
  unfold regsOf
  rw [getD_map _ _ _ (by simpa using hk)]
  have : (List.range (n.regs.map regN).length).getD k default = k := by
    rw [List.getD_eq_getElem?_getD, List.getElem?_range (by simpa using hk)]; rfl
  rw [this, getD_map _ _ _ hk, getD_map _ _ _ hk]; rfl
theorem map_eq_of_get {α β : Type} [Inhabited α] [Inhabited β] {l : List α} {m : List α} (f g : α → β) (h : l.length = m.length) (hk : ∀ k, k < l.length → f (l.getD k default) = g (m.getD k default)) : l.map f = m.map g := by
  apply List.ext_getElem (by simp [h])
  intro i h1 h2
  have hi : i < l.length := by simpa using h1
  have := hk i hi
  rw [List.getD_eq_getElem?_getD, List.getD_eq_getElem?_getD, List.getElem?_eq_getElem hi, List.getElem?_eq_getElem (by omega)] at this
  simpa using this
theorem Net.begin_ok {n : Net} (hn : n.Small) (hv : n.valid = true) : makeOK n.ins (n.regs.map regN) (n.regs.map regI) = true ∧ n.begin.Good := by
  obtain ⟨f1, f2, f3, f4, f5, f6, f7⟩ := Net.valid_facts hv
  have hl : (n.regs.map regN).length = (n.regs.map regI).length := by simp
  have hlen := n.begin_regs
  have hsm : (n.begin.made []).Small := MS.make_small hn.ins (by
    intro s hs
    obtain ⟨r, hr, rfl⟩ := List.mem_map.1 hs
    exact hn.regs r hr) (by
    intro x hx
    obtain ⟨r, hr, rfl⟩ := List.mem_map.1 hx
    exact hn.bytes r hr) (by omega) (by simp; omega) hl
  have hvb : (n.begin.made []).valid = true := by
    simp only [Net.valid, Net.okHead, Bool.and_eq_true] at hv
    obtain ⟨⟨⟨⟨⟨⟨h1, h2⟩, h3⟩, h4⟩, _⟩, _⟩, _⟩ := hv
    refine Net.valid_all ?_ rfl (allTo_iff.2 fun k hk => ?_) rfl
    · have e : (n.begin.regs.map (·.1)) = n.regs.map (·.1) := map_eq_of_get _ _ hlen (fun k hk => by rw [n.begin_get k (by omega)])
      have e2 : (n.begin.made []).okHead = (((okNames n.ins && okNames (n.begin.regs.map (·.1))) && okNames []) && decide (((0 : Nat) : Int) ≤ 20000)) := rfl
      rw [e2, e, h1, h2]; decide
    · have hk : k < n.begin.regs.length := hk
      have hg := n.begin_get k (by omega)
      have hf := f6 k (by omega)
      unfold Net.regAt
      have e : (n.begin.made []).regs = n.begin.regs := rfl
      rw [e, hg]
      have e2 : (n.begin.made []).last = 2 * ((1 + n.ins.length + n.begin.regs.length) + ((0 : Nat) : Int)) := rfl
      rw [e2]
      simp only [Bool.not_eq_true', Bool.or_eq_false_iff, decide_eq_false_iff_not]
      omega
  refine ⟨?_, MS.make_good hvb hsm⟩
  unfold makeOK
  rw [show ((MS.make n.ins (n.regs.map regN) (n.regs.map regI)).made []).valid = true from hvb, decide_eq_true hl]; rfl
/-- What stands for the first nodes. -/
def evens (i : Nat) : List Int := (List.range i).map fun (k : Nat) => 2 * (k : Int)
theorem evens_succ (i : Nat) : evens (i + 1) = evens i ++ [2 * (i : Int)] := by simp [evens, List.range_succ]
theorem evens_length (i : Nat) : (evens i).length = i := by simp [evens]
theorem evens_get {i k : Nat} (h : k < i) : (evens i).getD k default = 2 * (k : Int) := by
  rw [evens, List.getD_eq_getElem?_getD, List.getElem?_map, List.getElem?_range h]; rfl
/-- After i gates: the maker, and what stands for each node. -/
def Net.shareTo (n : Net) : Nat → MS × List Int
  | 0 => (n.begin, evens (1 + n.ins.length + n.regs.length))
  | i + 1 => (((n.shareTo i).1.and (nowV (n.shareTo i).2 (n.gates.getD i default).1) (nowV (n.shareTo i).2 (n.gates.getD i default).2)).2, (n.shareTo i).2 ++ [((n.shareTo i).1.and (nowV (n.shareTo i).2 (n.gates.getD i default).1) (nowV (n.shareTo i).2 (n.gates.getD i default).2)).1.1])
/-- All bits are 0 or 1. -/
theorem Net.vals_01 (n : Net) {ins regs : List Int} (h1 : ∀ x ∈ ins, x = 0 ∨ x = 1) (h2 : ∀ x ∈ regs, x = 0 ∨ x = 1) (hv : n.valid = true) (l1 : ins.length = n.ins.length) (l2 : regs.length = n.regs.length) : ∀ i, i ≤ n.gates.length → ∀ x ∈ n.valsTo ins regs i, x = 0 ∨ x = 1
  | 0, _, x, hx => by
    simp only [Net.valsTo, List.mem_append, List.mem_singleton] at hx
    rcases hx with (rfl | hx) | hx
    · exact .inl rfl
    · exact h1 x hx
    · exact h2 x hx
  | i + 1, hi, x, hx => by
    simp only [Net.valsTo, List.mem_append, List.mem_singleton] at hx
    rcases hx with hx | rfl
    · exact Net.vals_01 n h1 h2 hv l1 l2 i (by omega) x hx
    · obtain ⟨_, _, _, _, f5, _, _⟩ := Net.valid_facts hv
      have hg := f5 i (by omega)
      have hl := n.valsTo_length ins regs i
      have key : ∀ l : Int, 0 ≤ l → l < 2 * (1 + n.ins.length + n.regs.length + i) → ofB (n.valsTo ins regs i) l = 0 ∨ ofB (n.valsTo ins regs i) l = 1 := by
        intro l h0 h3
        have := Net.vals_01 n h1 h2 hv l1 l2 i (by omega) _ (getD_mem (v := n.valsTo ins regs i) (i := (l / 2).toNat) (by omega))
        unfold ofB notB
        split
        · rcases this with e | e <;> rw [e] <;> decide
        · exact this
      rcases key _ hg.1 hg.2.2.1 with e1 | e1 <;> rcases key _ hg.2.1 hg.2.2.2 with e2 | e2 <;> rw [e1, e2] <;> decide
theorem bit_of {x : Int} (h : x = 0 ∨ x = 1) : x = bitI (x == 1) := by rcases h with e | e <;> rw [e] <;> decide
structure ShareInv (n : Net) (ins regs : List Int) (i : Nat) (s : MS) (made : List Int) : Prop where
  bits : s.Bits ins regs
  gates : s.gates.length ≤ i
  same : s.ins = n.begin.ins ∧ s.regs = n.begin.regs
  len : made.length = 1 + n.ins.length + n.regs.length + i
  means : ∀ k, k < made.length → Means s ins regs (made.getD k default) ((n.valsTo ins regs i).getD k default == 1)
theorem now_means {s : MS} {ins regs : List Int} {n : Net} {made : List Int} {i : Nat} (hm : ∀ k, k < made.length → Means s ins regs (made.getD k default) ((n.valsTo ins regs i).getD k default == 1)) (hb : ∀ x ∈ n.valsTo ins regs i, x = 0 ∨ x = 1) (hl : made.length = (n.valsTo ins regs i).length) {l : Int} (h0 : 0 ≤ l) (h1 : (l / 2).toNat < made.length) : Means s ins regs (nowV made l) (ofB (n.valsTo ins regs i) l == 1) := by
  have hk := hm _ h1
  have hx := hb _ (getD_mem (v := n.valsTo ins regs i) (i := (l / 2).toNat) (by omega))
  unfold nowV ofB
  rw [Nat.zero_add]
  split
  · have := hk.flip
    have e : (notB ((n.valsTo ins regs i).getD (l / 2).toNat default) == 1) = !((n.valsTo ins regs i).getD (l / 2).toNat default == 1) := by
      rcases hx with e | e <;> rw [e] <;> decide
    rw [e]; exact this
  · exact hk
theorem Net.share_inv {n : Net} (hn : n.Small) (hv : n.valid = true) {ins regs : List Int} (h1 : ∀ x ∈ ins, x = 0 ∨ x = 1) (h2 : ∀ x ∈ regs, x = 0 ∨ x = 1) (l1 : ins.length = n.ins.length) (l2 : regs.length = n.regs.length) : ∀ i, i ≤ n.gates.length → ShareInv n ins regs i (n.shareTo i).1 (n.shareTo i).2
  | 0, _ => by
    obtain ⟨_, hg⟩ := Net.begin_ok hn hv
    have hr := n.begin_regs
    have hlits : n.begin.lits = 2 * (1 + n.ins.length + n.regs.length) := by
      show 2 * (((1 + (n.ins.length : Int)) + (n.begin.regs.length : Int)) + ((0 : Nat) : Int)) = _
      rw [hr]; omega
    refine ⟨⟨hg, fun k hk => absurd hk (by show ¬ k < 0; omega), l1, by show regs.length = n.begin.regs.length; rw [hr]; exact l2⟩, Nat.le_refl _, ⟨rfl, rfl⟩, by show (evens _).length = _; rw [evens_length]; omega, fun k hk => ?_⟩
    have hk : k < (evens (1 + n.ins.length + n.regs.length)).length := hk
    rw [evens_length] at hk
    show Means n.begin ins regs ((evens _).getD k default) _
    rw [evens_get (by omega)]
    refine ⟨by omega, by omega, ?_⟩
    have hvv : n.begin.vals ins regs = n.valsTo ins regs 0 := rfl
    unfold ofB
    rw [if_neg (by omega), hvv, show (2 * (k : Int) / 2).toNat = k by omega]
    exact bit_of (Net.vals_01 n h1 h2 hv l1 l2 0 (by omega) _ (getD_mem (by rw [Net.valsTo_length]; omega)))
  | i + 1, hi => by
    have ih := Net.share_inv hn hv h1 h2 l1 l2 i (by omega)
    obtain ⟨a1, a2, a3, a4, a5⟩ := ih
    obtain ⟨f1, f2, f3, f4, f5, _, _⟩ := Net.valid_facts hv
    have hg := f5 i (by omega)
    have hl := n.valsTo_length ins regs i
    have hb := Net.vals_01 n h1 h2 hv l1 l2 i (by omega)
    have m1 := now_means a5 hb (by omega) (l := (n.gates.getD i default).1) hg.1 (by omega)
    have m2 := now_means a5 hb (by omega) (l := (n.gates.getD i default).2) hg.2.1 (by omega)
    obtain ⟨_, e2, e3⟩ := MS.and_means a1 m1 m2 (by omega)
    have hgl := e3.gates
    refine ⟨e3.bits, by show ((n.shareTo i).1.and _ _).2.gates.length ≤ i + 1; omega, ⟨e3.same.1.trans a3.1, e3.same.2.trans a3.2⟩, by show ((n.shareTo i).2 ++ [_]).length = _; rw [List.length_append, List.length_singleton]; omega, fun k hk => ?_⟩
    have hk : k < ((n.shareTo i).2 ++ [((n.shareTo i).1.and (nowV (n.shareTo i).2 (n.gates.getD i default).1) (nowV (n.shareTo i).2 (n.gates.getD i default).2)).1.1]).length := hk
    rw [List.length_append, List.length_singleton] at hk
    show Means _ ins regs (((n.shareTo i).2 ++ [_]).getD k default) ((n.valsTo ins regs i ++ [_]).getD k default == 1)
    by_cases c : k < (n.shareTo i).2.length
    · rw [getD_snoc_l c, getD_snoc_l (by omega)]
      exact e3.means _ _ (a5 k c)
    · have ek : k = (n.shareTo i).2.length := by omega
      subst ek
      have e4 : (n.shareTo i).2.length = (n.valsTo ins regs i).length := by omega
      rw [getD_snoc_r, e4, getD_snoc_r]
      have key : ∀ x y : Int, (x = 0 ∨ x = 1) → (y = 0 ∨ y = 1) → (bothB x y == 1) = ((x == 1) && (y == 1)) := by
        intro x y hx hy
        rcases hx with rfl | rfl <;> rcases hy with rfl | rfl <;> decide
      have k1 : ∀ l : Int, 0 ≤ l → (l / 2).toNat < (n.valsTo ins regs i).length → ofB (n.valsTo ins regs i) l = 0 ∨ ofB (n.valsTo ins regs i) l = 1 := by
        intro l h0 h3
        have := hb _ (getD_mem h3)
        unfold ofB notB
        split
        · rcases this with e | e <;> rw [e] <;> decide
        · exact this
      rw [key _ _ (k1 _ hg.1 (by omega)) (k1 _ hg.2.1 (by omega))]
      exact e2
/-- The net that 'Share' returns. -/
def sharedR (made : List Int) (r : ByteArray × Int × Int) : ByteArray × Int × Int := (r.1, r.2.1, nowV made r.2.2)
def sharedP (made : List Int) (p : ByteArray × Int) : ByteArray × Int := (p.1, nowV made p.2)
def laidN (n : Net) (s : MS) (made : List Int) : Net := ⟨n.ins, n.regs.map (sharedR made), s.gates, n.outs.map (sharedP made)⟩
def Net.share (n : Net) : Net × Int := if n.valid then (laidN n (n.shareTo n.gates.length).1 (n.shareTo n.gates.length).2, 0) else (Net.none, 2)
def nextV (made : List Int) (r : ByteArray × Int × Int) : Int := nowV made r.2.2
def outsTo (made : List Int) (outs : List (ByteArray × Int)) (i : Nat) : List (ByteArray × Int) := (outs.map (sharedP made)).take i ++ outs.drop i
theorem outsTo_length (made : List Int) (outs : List (ByteArray × Int)) (i : Nat) : (outsTo made outs i).length = outs.length := by
  simp [outsTo]; omega
theorem outsTo_get (made : List Int) (outs : List (ByteArray × Int)) (i : Nat) (hi : i < outs.length) : (outsTo made outs i).getD (0 + (i : Int).toNat) default = outs.getD i default := by
  have e : 0 + (i : Int).toNat = i := by omega
  rw [e, outsTo, List.getD_eq_getElem?_getD, List.getD_eq_getElem?_getD, List.getElem?_append_right (by simp; omega)]
  have e2 : i - ((outs.map (sharedP made)).take i).length = 0 := by simp; omega
  rw [e2, List.getElem?_drop]
  rfl
theorem outsTo_step (made : List Int) (outs : List (ByteArray × Int)) (i : Nat) (hi : i < outs.length) : outsTo made outs (i + 1) = (outsTo made outs i).set (0 + (i : Int).toNat) (((outsTo made outs i).getD (0 + (i : Int).toNat) default).1, nowV made ((outsTo made outs i).getD (0 + (i : Int).toNat) default).2) := by
  rw [outsTo_get made outs i hi]
  have e0 : 0 + (i : Int).toNat = i := by omega
  rw [e0]
  have hl : (outs.map (sharedP made)).length = outs.length := by simp
  unfold outsTo
  rw [take_succ_getD _ i (by omega), getD_map _ _ _ hi, List.set_append_right _ _ (by simp; omega)]
  have e : i - ((outs.map (sharedP made)).take i).length = 0 := by simp; omega
  rw [e, List.append_assoc]
  congr 1
  rw [List.drop_eq_getElem_cons hi]
  rfl
theorem outsTo_all (made : List Int) (outs : List (ByteArray × Int)) : outsTo made outs outs.length = outs.map (sharedP made) := by
  rw [outsTo, List.drop_length, List.append_nil, List.take_of_length_le (by simp)]
theorem laid_net {n : Net} {s : MS} {made : List Int} (hr : s.regs = n.begin.regs) (hi : s.ins = n.ins) (hok : (laidN n s made).valid = true) : s.net (n.regs.map (nextV made)) (n.outs.map (sharedP made)) = (laidN n s made, 0) := by
  have hlen := n.begin_regs
  have hl : (n.regs.map (nextV made)).length = s.regs.length := by rw [List.length_map, hr, hlen]
  have e : s.nexts (n.regs.map (nextV made)) (n.outs.map (sharedP made)) = laidN n s made := by
    unfold MS.nexts laidN
    rw [hi]
    congr 1
    unfold nextTo
    rw [hl, List.drop_length, List.append_nil, List.take_of_length_le (by simp), hr]
    apply List.ext_getElem (by simp [hlen])
    intro k h1 h2
    have hk : k < n.regs.length := by simpa using h2
    have hb := n.begin_get k hk
    rw [List.getD_eq_getElem?_getD, List.getElem?_eq_getElem (by omega)] at hb
    simp only [Option.getD_some] at hb
    simp only [List.getElem_mapIdx, List.getElem_map]
    rw [hb]
    unfold nextR
    rw [getD_map _ _ _ hk, List.getD_eq_getElem?_getD, List.getElem?_eq_getElem hk]
    rfl
  rw [MS.net_ok hl (by rw [e]; exact hok), e]
/-- A net that was laid by valid literals is valid. -/
theorem laid_valid {n : Net} (hv : n.valid = true) {s : MS} {made : List Int} (hb : s.before) (hg : s.gates.length ≤ 20000) (hi : s.ins.length = n.ins.length) (hr : s.regs.length = n.regs.length) (hl : made.length = 1 + n.ins.length + n.regs.length + n.gates.length)
    (hm : ∀ k, k < made.length → 0 ≤ made.getD k default ∧ made.getD k default < s.lits) : (laidN n s made).valid = true := by
  obtain ⟨f1, f2, f3, f4, f5, f6, f7⟩ := Net.valid_facts hv
  have hfirst : s.first = 1 + s.ins.length + s.regs.length := rfl
  have hfl := MS.first_lits s
  have hnow : ∀ l : Int, 0 ≤ l → l < 2 * (1 + n.ins.length + n.regs.length + n.gates.length) → 0 ≤ nowV made l ∧ nowV made l < s.lits := by
    intro l h0 h1
    have := hm (l / 2).toNat (by omega)
    unfold nowV
    rw [Nat.zero_add]
    split
    · rw [flip_eq]; split <;> omega
    · exact this
  have hlast : (laidN n s made).last = s.lits := by
    show 2 * ((1 + (n.ins.length : Int) + ((n.regs.map (sharedR made)).length : Int)) + (s.gates.length : Int)) = _
    rw [List.length_map]; omega
  simp only [Net.valid, Net.okHead, Bool.and_eq_true] at hv
  obtain ⟨⟨⟨⟨⟨⟨h1, h2⟩, h3⟩, h4⟩, _⟩, _⟩, _⟩ := hv
  refine Net.valid_all ?_ (allTo_iff.2 fun k hk => ?_) (allTo_iff.2 fun k hk => ?_) (allTo_iff.2 fun k hk => ?_)
  · have e : (laidN n s made).okHead = (((okNames n.ins && okNames ((n.regs.map (sharedR made)).map (·.1))) && okNames ((n.outs.map (sharedP made)).map (·.1))) && decide ((s.gates.length : Int) ≤ 20000)) := rfl
    rw [e, List.map_map, List.map_map]
    have e1 : ((fun x : ByteArray × Int × Int => x.1) ∘ sharedR made) = (·.1) := rfl
    have e2 : ((fun x : ByteArray × Int => x.1) ∘ sharedP made) = (·.1) := rfl
    rw [e1, e2, h1, h2, h3, decide_eq_true (by omega)]; rfl
  · have hk : k < s.gates.length := hk
    obtain ⟨⟨b1, b2⟩, b3, b4⟩ := hb k hk
    rw [gate_lits]
    have e1 : (laidN n s made).first = 1 + n.ins.length + ((n.regs.map (sharedR made)).length : Int) := rfl
    rw [List.length_map] at e1
    have e2 : (laidN n s made).gates = s.gates := rfl
    rw [e2]
    simp only [litOK, Bool.and_eq_true, decide_eq_true_eq]
    omega
  · have hk : k < (n.regs.map (sharedR made)).length := hk
    rw [List.length_map] at hk
    have hf := f6 k hk
    have hnw := hnow _ hf.2.1 hf.2.2
    unfold Net.regAt
    rw [hlast]
    have e : (laidN n s made).regs.getD k default = sharedR made (n.regs.getD k default) := getD_map _ _ _ hk
    rw [e]
    have e3 : (sharedR made (n.regs.getD k default)).2.1 = (n.regs.getD k default).2.1 := rfl
    have e4 : (sharedR made (n.regs.getD k default)).2.2 = nowV made (n.regs.getD k default).2.2 := rfl
    rw [e3, e4]
    simp only [Bool.not_eq_true', Bool.or_eq_false_iff, decide_eq_false_iff_not]
    omega
  · have hk : k < (n.outs.map (sharedP made)).length := hk
    rw [List.length_map] at hk
    have hf := f7 k hk
    have hnw := hnow _ hf.1 hf.2
    unfold Net.outAt
    rw [hlast]
    have e : (laidN n s made).outs.getD k default = sharedP made (n.outs.getD k default) := getD_map _ _ _ hk
    rw [e]
    have e4 : (sharedP made (n.outs.getD k default)).2 = nowV made (n.outs.getD k default).2 := rfl
    rw [e4]
    simp only [Bool.not_eq_true', Bool.or_eq_false_iff, decide_eq_false_iff_not]
    omega
theorem ShareInv.range {n : Net} {ins regs : List Int} {i : Nat} {s : MS} {made : List Int} (h : ShareInv n ins regs i s made) : ∀ x ∈ made, 0 ≤ x ∧ x ≤ 100000 := by
  intro x hx
  obtain ⟨k, hk, rfl⟩ := List.getElem_of_mem hx
  have hm := h.means k hk
  have hl := h.bits.good.ok.lits
  have l1 := hm.lo
  have l2 := hm.hi
  rw [List.getD_eq_getElem?_getD, List.getElem?_eq_getElem hk] at l1 l2
  simp only [Option.getD_some] at l1 l2
  omega
theorem ShareInv.and_ok {n : Net} (hv : n.valid = true) {ins regs : List Int} (h1 : ∀ x ∈ ins, x = 0 ∨ x = 1) (h2 : ∀ x ∈ regs, x = 0 ∨ x = 1) (l1 : ins.length = n.ins.length) (l2 : regs.length = n.regs.length) {i : Nat} (hi : i < n.gates.length) {s : MS} {made : List Int} (h : ShareInv n ins regs i s made) : (s.and (nowV made (n.gates.getD i default).1) (nowV made (n.gates.getD i default).2)).1.2 = 0 := by
  obtain ⟨a1, a2, a3, a4, a5⟩ := h
  obtain ⟨f1, f2, f3, f4, f5, _, _⟩ := Net.valid_facts hv
  have hg := f5 i hi
  have hl := n.valsTo_length ins regs i
  have hb := Net.vals_01 n h1 h2 hv l1 l2 i (by omega)
  have m1 := now_means a5 hb (by omega) (l := (n.gates.getD i default).1) hg.1 (by omega)
  have m2 := now_means a5 hb (by omega) (l := (n.gates.getD i default).2) hg.2.1 (by omega)
  exact (MS.and_means a1 m1 m2 (by omega)).1
theorem ShareInv.laid {n : Net} (hv : n.valid = true) {ins regs : List Int} {s : MS} {made : List Int} (h : ShareInv n ins regs n.gates.length s made) : (laidN n s made).valid = true := by
  have hlen := n.begin_regs
  obtain ⟨f1, f2, f3, f4, _⟩ := Net.valid_facts hv
  have hgl := h.gates
  refine laid_valid hv h.bits.before (by omega) (by rw [h.same.1]; rfl) (by rw [h.same.2, hlen]) h.len (fun k hk => ?_)
  have hm := h.means k hk
  exact ⟨hm.lo, hm.hi⟩
def zeros (m : Nat) : List Int := List.replicate m 0
theorem zeros_length (m : Nat) : (zeros m).length = m := by simp [zeros]
theorem zeros_01 (m : Nat) : ∀ x ∈ zeros m, x = 0 ∨ x = 1 := by
  intro x hx
  rw [zeros, List.mem_replicate] at hx
  exact .inl hx.2
theorem Net.share_inv0 {n : Net} (hn : n.Small) (hv : n.valid = true) (i : Nat) (hi : i ≤ n.gates.length) : ShareInv n (zeros n.ins.length) (zeros n.regs.length) i (n.shareTo i).1 (n.shareTo i).2 :=
  Net.share_inv hn hv (zeros_01 _) (zeros_01 _) (zeros_length _) (zeros_length _) i hi
theorem Net.begin_lits (n : Net) : n.begin.lits = 2 * (1 + n.ins.length + n.regs.length) := by
  show 2 * (((1 + (n.ins.length : Int)) + (n.begin.regs.length : Int)) + ((0 : Nat) : Int)) = _
  rw [n.begin_regs]; omega
theorem keep_no (σ : Store) : (σ.keep fun _ => false) = [] := by
  induction σ with
  | nil => rfl
  | cons p r ih => exact ih
end Go.Proofs.Ytbpamlphacpkeaa
