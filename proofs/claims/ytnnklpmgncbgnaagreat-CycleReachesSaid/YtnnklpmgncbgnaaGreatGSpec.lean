/- What the functions of the gates compute, in plain Lean. -/
import Derived.Test.YtnnklpmgncbgnaaGreatEngO
set_option linter.unusedVariables false
set_option linter.unusedSimpArgs false
namespace Go.Proofs.YtnnklpmgncbgnaaGreat
open Go

/-- A net. -/
structure Net where
  ins : List ByteArray
  regs : List (ByteArray × Int × Int)
  gates : List (Int × Int)
  outs : List (ByteArray × Int)

def encR (r : ByteArray × Int × Int) : List AVal := [.v (.string r.1), .v (.int .u8 r.2.1), .v (.int .i64 r.2.2)]
def encG (g : Int × Int) : List AVal := [.v (.int .i64 g.1), .v (.int .i64 g.2)]
def encP (p : ByteArray × Int) : List AVal := [.v (.string p.1), .v (.int .i64 p.2)]
/-- A net as a value. -/
def encN (n : Net) : AVal := .agg [.list 1 (n.ins.map encS), .list 3 (n.regs.map encR), .list 2 (n.gates.map encG), .list 2 (n.outs.map encP)]

def notB (b : Int) : Int := if 1 < b then 2 else 1 - b
def bothB (a b : Int) : Int := if a = 0 ∨ b = 0 then 0 else if a = 1 ∧ b = 1 then 1 else 2
def ofB (v : List Int) (lit : Int) : Int := if lit % 2 = 1 then notB (v.getD (lit / 2).toNat default) else v.getD (lit / 2).toNat default

/-! ### For all below -/
def allTo (p : Nat → Bool) : Nat → Bool
  | 0 => true
  | n + 1 => allTo p n && p n
theorem allTo_iff {p : Nat → Bool} {n : Nat} : allTo p n = true ↔ ∀ k, k < n → p k = true := by
  induction n with
  | zero => simp [allTo]
  | succ n ih =>
    simp only [allTo, Bool.and_eq_true, ih]
    constructor
    · rintro ⟨h1, h2⟩ k hk
      by_cases e : k = n
      · subst e; exact h2
      · exact h1 k (by omega)
    · intro h; exact ⟨fun k hk => h k (by omega), h n (by omega)⟩
theorem allTo_succ {p : Nat → Bool} {n : Nat} (h : allTo p n = true) (hn : p n = true) : allTo p (n + 1) = true := by simp [allTo, h, hn]
theorem allTo_false {p : Nat → Bool} {n : Nat} (k : Nat) (hk : k < n) (h : p k = false) : allTo p n = false := by
  cases e : allTo p n with
  | false => rfl
  | true => rw [allTo_iff] at e; rw [e k hk] at h; cases h
theorem allTo_congr {p q : Nat → Bool} {n : Nat} (h : ∀ k, k < n → p k = q k) : allTo p n = allTo q n := by
  induction n with
  | zero => rfl
  | succ n ih => simp only [allTo]; rw [ih (fun k hk => h k (by omega)), h n (by omega)]
theorem getD_map {α β : Type} [Inhabited α] [Inhabited β] (f : α → β) (l : List α) (i : Nat) (hi : i < l.length) : (l.map f).getD i default = f (l.getD i default) := by
  rw [List.getD_eq_getElem?_getD, List.getD_eq_getElem?_getD, List.getElem?_map, List.getElem?_eq_getElem hi]
  rfl
theorem take_succ_getD {α : Type} [Inhabited α] (l : List α) (i : Nat) (hi : i < l.length) : l.take (i + 1) = l.take i ++ [l.getD i default] := by
  rw [List.take_add_one, List.getElem?_eq_getElem hi, List.getD_eq_getElem?_getD, List.getElem?_eq_getElem hi]
  rfl

/-! ### Names -/
def okByte (c : UInt8) : Bool := !(decide ((c.toNat : Int) < 33) || decide ((c.toNat : Int) > 126))
def okName (s : ByteArray) : Bool := allTo (fun i => okByte (s.data.toList.getD i default)) s.data.toList.length && (decide ((s.size : Int) ≥ 1) && decide ((s.size : Int) ≤ 100))
def nameAt (l : List ByteArray) (i : Nat) : Bool := okName (l.getD i default) && allTo (fun k => !((l.getD k default).toList == (l.getD i default).toList)) i
def okNames (l : List ByteArray) : Bool := decide ((l.length : Int) ≤ 500) && allTo (nameAt l) l.length

/-! ### Sets kept as maps -/
def setEnts (ks : List Value) : List (Value × AVal) := ks.map fun k => (k, .v (.bool true))
theorem mapFind_set (k : Value) (ks : List Value) : mapFind k (setEnts ks) = match ks.any (keyEq k) with | true => some (.v (.bool true)) | false => none := by
  induction ks with
  | nil => rfl
  | cons x r ih =>
    rw [List.any_cons]
    have e : mapFind k (setEnts (x :: r)) = if keyEq k x then some (.v (.bool true)) else mapFind k (setEnts r) := rfl
    rw [e, ih]
    cases keyEq k x <;> rfl
theorem mapPut_set (k : Value) (ks : List Value) (h : ks.any (keyEq k) = false) : mapPut k (.v (.bool true)) (setEnts ks) = setEnts (ks ++ [k]) := by
  induction ks with
  | nil => rfl
  | cons x r ih =>
    simp only [List.any_cons, Bool.or_eq_false_iff] at h
    simp only [setEnts, List.map_cons, mapPut, List.cons_append, h.1, if_false, Bool.false_eq_true] at ih ⊢
    rw [ih h.2]
section
variable {P : Program} {n : Nat} {Q : APost} {env : Env} {σ σ' : Store} {ops : Array Oper} {rest : List Oper}
variable {E : Operand → Option AVal} {d : Option Tmp} {ty : TypeId} {pos : String} {after : Array Edge} {guard : Option (Nat × Bool)}
theorem op_lookup_set {x y : Operand} {t kt et : TypeId} {K : Value → Prop} {id ver : Nat} {ks : List Value} {ka : AVal} {k : Value} {inf : TypeInfo} (ht : P.underlying t = some (.map kt et)) (law : KeyLaw P kt K) (hi : P.info? et = some inf) (hz : inf.zero = some (.bool false))
    (hx : E x = some (.map id ver)) (hid : σ.get id = some (ver, .map (setEnts ks))) (hy : E y = some ka) (hk : concOf ka = some k) (hK : K k) (hKs : ∀ e ∈ ks, K e) :
    OpTo P ⟨d, .lookup t x y false, ty, pos, after, guard⟩ E σ (.v (.bool (ks.any (keyEq k)))) σ := by
  refine op_lookup ht law hi hz rfl hx hid hy hk hK ?_ ?_ rfl
  · intro e he
    obtain ⟨k', h, rfl⟩ := List.mem_map.1 he
    exact hKs _ h
  · rw [mapFind_set]
    cases ks.any (keyEq k) <;> rfl
theorem op_update_set {x y u : Operand} {t kt et : TypeId} {K : Value → Prop} {id ver : Nat} {ks : List Value} {ka : AVal} {k : Value} (ht : P.underlying t = some (.map kt et)) (law : KeyLaw P kt K)
    (hx : E x = some (.map id ver)) (hid : σ.get id = some (ver, .map (setEnts ks))) (hy : E y = some ka) (hk : concOf ka = some k) (hK : K k) (hKs : ∀ e ∈ ks, K e) (hu : E u = some (.v (.bool true))) (hn : ks.any (keyEq k) = false) :
    OpTo P ⟨d, .mapUpdate t x y u, ty, pos, after, guard⟩ E σ (.v undef) (σ.put id ver (.map (setEnts (ks ++ [k])))) := by
  have := op_mapUpdate (P := P) (E := E) (σ := σ) (d := d) (ty := ty) (pos := pos) (after := after) (guard := guard) ht law hx hid hy hk hK (fun e he => by
    obtain ⟨k', h, rfl⟩ := List.mem_map.1 he
    exact hKs _ h) hu rfl
  rwa [mapPut_set k ks hn] at this
end

theorem okNames_long {l : List ByteArray} (h : 500 < (l.length : Int)) : okNames l = false := by
  rw [okNames, show decide ((l.length : Int) ≤ 500) = false from decide_eq_false (by omega)]; rfl
theorem okNames_at {l : List ByteArray} (i : Nat) (hi : i < l.length) (h : nameAt l i = false) : okNames l = false := by
  rw [okNames, allTo_false i hi h, Bool.and_false]
theorem okNames_all {l : List ByteArray} (h : ¬ 500 < (l.length : Int)) (ha : allTo (nameAt l) l.length = true) : okNames l = true := by
  rw [okNames, ha, decide_eq_true (by omega)]; rfl
theorem any_take {α : Type} [Inhabited α] (nm : α → ByteArray) (l : List α) (x : ByteArray) : ∀ i, i ≤ l.length → (((l.take i).map fun y => Value.string (nm y)).any (keyEq (.string x))) = !allTo (fun k => !((nm (l.getD k default)).toList == x.toList)) i
  | 0, _ => by simp [allTo]
  | i + 1, h => by
    rw [take_succ_getD l i (by omega), List.map_append, List.any_append, any_take nm l x i (by omega)]
    simp only [allTo, List.map_cons, List.map_nil, List.any_cons, List.any_nil, Bool.or_false, Bool.not_and, Bool.not_not]
    congr 1
    show (x == nm (l.getD i default)) = _
    rw [Go.beq_toListBytes]
    generalize x.toList = a
    generalize (nm (l.getD i default)).toList = b
    cases h : a == b
    · symm; rw [beq_eq_false_iff_ne] at h ⊢; exact Ne.symm h
    · symm; rw [beq_iff_eq] at h ⊢; exact h.symm
theorem nameAt_eq {α : Type} [Inhabited α] (nm : α → ByteArray) (l : List α) (i : Nat) (hi : i < l.length) :
    nameAt (l.map nm) i = !(!okName (nm (l.getD i default)) || (((l.take i).map fun y => Value.string (nm y)).any (keyEq (.string (nm (l.getD i default)))))) := by
  rw [any_take nm l _ i (by omega), nameAt, getD_map nm l i hi, Bool.not_or, Bool.not_not, Bool.not_not]
  congr 1
  refine allTo_congr fun k hk => ?_
  rw [getD_map nm l k (by omega)]

/-! ### Valid nets -/
def Net.first (n : Net) : Int := 1 + n.ins.length + n.regs.length
def Net.gateAt (n : Net) (i : Nat) : Bool := !(decide (min (n.gates.getD i default).1 (n.gates.getD i default).2 < 0) || decide (max (n.gates.getD i default).1 (n.gates.getD i default).2 ≥ 2 * (n.first + i)))
def Net.last (n : Net) : Int := 2 * (n.first + n.gates.length)
def Net.regAt (n : Net) (i : Nat) : Bool := !((decide ((n.regs.getD i default).2.1 > 2) || decide ((n.regs.getD i default).2.2 < 0)) || decide ((n.regs.getD i default).2.2 ≥ n.last))
def Net.outAt (n : Net) (i : Nat) : Bool := !(decide ((n.outs.getD i default).2 < 0) || decide ((n.outs.getD i default).2 ≥ n.last))
def Net.okHead (n : Net) : Bool := okNames n.ins && okNames (n.regs.map (·.1)) && okNames (n.outs.map (·.1)) && decide ((n.gates.length : Int) ≤ 20000)
def Net.valid (n : Net) : Bool := n.okHead && allTo n.gateAt n.gates.length && allTo n.regAt n.regs.length && allTo n.outAt n.outs.length
theorem okNames_len {l : List ByteArray} (h : okNames l = true) : l.length ≤ 500 := by
  simp only [okNames, Bool.and_eq_true, decide_eq_true_eq] at h
  omega

/-- What a net from outside keeps to. -/
structure Net.Small (n : Net) : Prop where
  ins : ∀ s ∈ n.ins, s.size ≤ 140737488355328
  regs : ∀ r ∈ n.regs, r.1.size ≤ 140737488355328
  outs : ∀ p ∈ n.outs, p.1.size ≤ 140737488355328
  insL : n.ins.length ≤ 8796093022208
  regsL : n.regs.length ≤ 8796093022208
  gatesL : n.gates.length ≤ 8796093022208
  outsL : n.outs.length ≤ 8796093022208
  bytes : ∀ r ∈ n.regs, 0 ≤ r.2.1 ∧ r.2.1 ≤ 255
  gatesI : ∀ g ∈ n.gates, g.1 ≤ 9223372036854775807 ∧ g.2 ≤ 9223372036854775807
  regsI : ∀ r ∈ n.regs, r.2.2 ≤ 9223372036854775807
  outsI : ∀ p ∈ n.outs, p.2 ≤ 9223372036854775807
theorem okHead_eq (n : Net) : n.okHead = !(((!okNames n.ins || !okNames (n.regs.map Prod.fst)) || !okNames (n.outs.map Prod.fst)) || decide ((n.gates.length : Int) > 20000)) := by
  rw [Net.okHead, Bool.not_or, Bool.not_or, Bool.not_or, Bool.not_not, Bool.not_not, Bool.not_not]
  congr 1
  by_cases h : (n.gates.length : Int) ≤ 20000
  · rw [decide_eq_true h, decide_eq_false (by omega)]; rfl
  · rw [decide_eq_false h, decide_eq_true (by omega)]; rfl
theorem okHead_len {n : Net} (h : n.okHead = true) : n.ins.length ≤ 500 ∧ n.regs.length ≤ 500 ∧ n.outs.length ≤ 500 ∧ n.gates.length ≤ 20000 := by
  simp only [Net.okHead, Bool.and_eq_true, decide_eq_true_eq] at h
  obtain ⟨⟨⟨h1, h2⟩, h3⟩, h4⟩ := h
  have e2 := okNames_len h2
  have e3 := okNames_len h3
  simp at e2 e3
  exact ⟨okNames_len h1, e2, e3, by omega⟩
theorem Net.valid_head {n : Net} (h : n.okHead = false) : n.valid = false := by rw [Net.valid, h]; rfl
theorem Net.valid_gate {n : Net} (i : Nat) (hi : i < n.gates.length) (h : n.gateAt i = false) : n.valid = false := by rw [Net.valid, allTo_false i hi h, Bool.and_false]; rfl
theorem Net.valid_reg {n : Net} (i : Nat) (hi : i < n.regs.length) (h : n.regAt i = false) : n.valid = false := by rw [Net.valid, allTo_false i hi h, Bool.and_false]; rfl
theorem Net.valid_out {n : Net} (i : Nat) (hi : i < n.outs.length) (h : n.outAt i = false) : n.valid = false := by rw [Net.valid, allTo_false i hi h, Bool.and_false]
theorem Net.valid_all {n : Net} (h0 : n.okHead = true) (h1 : allTo n.gateAt n.gates.length = true) (h2 : allTo n.regAt n.regs.length = true) (h3 : allTo n.outAt n.outs.length = true) : n.valid = true := by rw [Net.valid, h0, h1, h2, h3]; rfl

/-! ### Looking for the first -/
def firstTo (p : Nat → Bool) : Nat → Option Nat
  | 0 => none
  | n + 1 => match firstTo p n with | some k => some k | none => if p n then some n else none
theorem firstTo_none {p : Nat → Bool} {n : Nat} : firstTo p n = none ↔ allTo (fun k => !p k) n = true := by
  induction n with
  | zero => simp [firstTo, allTo]
  | succ n ih =>
    simp only [firstTo, allTo, Bool.and_eq_true]
    cases h : firstTo p n with
    | some k => simp only [← ih, h]; simp
    | none =>
      rw [h] at ih
      simp only [true_iff] at ih
      simp [ih]
theorem firstTo_some {p : Nat → Bool} {n k : Nat} (hk : k < n) (h : firstTo p k = none) (hp : p k = true) : firstTo p n = some k := by
  induction n with
  | zero => omega
  | succ n ih =>
    simp only [firstTo]
    by_cases e : k = n
    · subst e; rw [h]; simp [hp]
    · rw [ih (by omega)]
def bitAt (l : List Int) (i : Nat) : Bool := decide (l.getD i default > 2)
def firstBad (l : List Int) : Int := match firstTo (bitAt l) l.length with | some k => k | none => -1
def bitsOK (l : List Int) (m : Int) : Bool := (l.length : Int) == m && !decide (firstBad l ≥ 0)
theorem firstTo_succ {p : Nat → Bool} {n : Nat} (h : firstTo p n = none) (hp : p n = false) : firstTo p (n + 1) = none := by
  simp only [firstTo, h, hp]; rfl
theorem bitsOK_iff {l : List Int} {m : Nat} : bitsOK l m = true ↔ l.length = m ∧ ∀ k, k < l.length → l.getD k default ≤ 2 := by
  unfold bitsOK
  rw [Bool.and_eq_true, beq_iff_eq, Bool.not_eq_true', decide_eq_false_iff_not]
  have : ¬ firstBad l ≥ 0 ↔ firstTo (bitAt l) l.length = none := by
    unfold firstBad
    cases firstTo (bitAt l) l.length with
    | none => simp
    | some k => simp
  rw [this, firstTo_none, allTo_iff]
  constructor
  · rintro ⟨h1, h2⟩
    refine ⟨by omega, fun k hk => ?_⟩
    have := h2 k hk
    simp only [bitAt, Bool.not_eq_true', decide_eq_false_iff_not] at this
    omega
  · rintro ⟨h1, h2⟩
    refine ⟨by omega, fun k hk => ?_⟩
    have := h2 k hk
    simp only [bitAt, Bool.not_eq_true', decide_eq_false_iff_not]
    omega

/-! ### What a net computes -/
def Net.valsTo (n : Net) (ins regs : List Int) : Nat → List Int
  | 0 => ([0] ++ ins) ++ regs
  | i + 1 => n.valsTo ins regs i ++ [bothB (ofB (n.valsTo ins regs i) (n.gates.getD i default).1) (ofB (n.valsTo ins regs i) (n.gates.getD i default).2)]
def Net.bad (n : Net) (ins regs : List Int) : Bool := (!n.valid || !bitsOK ins n.ins.length) || !bitsOK regs n.regs.length
def Net.all (n : Net) (ins regs : List Int) : List Int × Int := if n.bad ins regs then ([], 2) else (n.valsTo ins regs n.gates.length, 0)
def Net.eval (n : Net) (ins regs : List Int) : List Int × List Int × Int :=
  if n.bad ins regs then ([], [], 2) else ((n.outs.take n.outs.length).map (fun p => ofB (n.valsTo ins regs n.gates.length) p.2), (n.regs.take n.regs.length).map (fun r => ofB (n.valsTo ins regs n.gates.length) r.2.2), 0)
theorem Net.all_bad {n : Net} {ins regs : List Int} (h : n.bad ins regs = true) : n.all ins regs = ([], 2) := by rw [Net.all, if_pos h]
theorem Net.all_ok {n : Net} {ins regs : List Int} (h : n.bad ins regs = false) : n.all ins regs = (n.valsTo ins regs n.gates.length, 0) := by rw [Net.all, if_neg (by rw [h]; decide)]
theorem Net.eval_bad {n : Net} {ins regs : List Int} (h : n.bad ins regs = true) : n.eval ins regs = ([], [], 2) := by rw [Net.eval, if_pos h]
theorem Net.eval_ok {n : Net} {ins regs : List Int} (h : n.bad ins regs = false) : n.eval ins regs = ((n.outs.take n.outs.length).map (fun p => ofB (n.valsTo ins regs n.gates.length) p.2), (n.regs.take n.regs.length).map (fun r => ofB (n.valsTo ins regs n.gates.length) r.2.2), 0) := by rw [Net.eval, if_neg (by rw [h]; decide)]
theorem Net.all_err {n : Net} {ins regs : List Int} : (n.all ins regs).2 = 0 ↔ n.bad ins regs = false := by
  cases h : n.bad ins regs
  · simp [Net.all_ok h]
  · simp [Net.all_bad h]
theorem Net.valsTo_length (n : Net) (ins regs : List Int) : ∀ i, (n.valsTo ins regs i).length = 1 + ins.length + regs.length + i
  | 0 => by simp [Net.valsTo]; omega
  | i + 1 => by simp [Net.valsTo, Net.valsTo_length n ins regs i]; omega
theorem bothB_range (a b : Int) : 0 ≤ bothB a b ∧ bothB a b ≤ 255 := by
  unfold bothB; split
  · omega
  · split <;> omega
theorem Net.valsTo_range (n : Net) {ins regs : List Int} (h1 : ∀ x ∈ ins, 0 ≤ x ∧ x ≤ 255) (h2 : ∀ x ∈ regs, 0 ≤ x ∧ x ≤ 255) : ∀ i, ∀ x ∈ n.valsTo ins regs i, 0 ≤ x ∧ x ≤ 255
  | 0 => by
    intro x hx
    simp only [Net.valsTo, List.mem_append, List.mem_singleton] at hx
    rcases hx with (rfl | hx) | hx
    · omega
    · exact h1 x hx
    · exact h2 x hx
  | i + 1 => by
    intro x hx
    simp only [Net.valsTo, List.mem_append, List.mem_singleton] at hx
    rcases hx with hx | rfl
    · exact Net.valsTo_range n h1 h2 i x hx
    · exact bothB_range _ _
theorem Net.not_bad {n : Net} {ins regs : List Int} (h : n.bad ins regs = false) : n.valid = true ∧ ins.length = n.ins.length ∧ regs.length = n.regs.length := by
  simp only [Net.bad, Bool.or_eq_false_iff, Bool.not_eq_false'] at h
  exact ⟨h.1.1, (bitsOK_iff.1 h.1.2).1, (bitsOK_iff.1 h.2).1⟩
/-- What a valid net keeps to. -/
theorem Net.valid_facts {n : Net} (h : n.valid = true) : n.ins.length ≤ 500 ∧ n.regs.length ≤ 500 ∧ n.outs.length ≤ 500 ∧ n.gates.length ≤ 20000 ∧
    (∀ i, i < n.gates.length → 0 ≤ (n.gates.getD i default).1 ∧ 0 ≤ (n.gates.getD i default).2 ∧ (n.gates.getD i default).1 < 2 * (1 + n.ins.length + n.regs.length + i) ∧ (n.gates.getD i default).2 < 2 * (1 + n.ins.length + n.regs.length + i)) ∧
    (∀ i, i < n.regs.length → (n.regs.getD i default).2.1 ≤ 2 ∧ 0 ≤ (n.regs.getD i default).2.2 ∧ (n.regs.getD i default).2.2 < 2 * (1 + n.ins.length + n.regs.length + n.gates.length)) ∧
    (∀ i, i < n.outs.length → 0 ≤ (n.outs.getD i default).2 ∧ (n.outs.getD i default).2 < 2 * (1 + n.ins.length + n.regs.length + n.gates.length)) := by
  simp only [Net.valid, Bool.and_eq_true] at h
  obtain ⟨⟨⟨h0, h1⟩, h2⟩, h3⟩ := h
  obtain ⟨e1, e2, e3, e4⟩ := okHead_len h0
  rw [allTo_iff] at h1 h2 h3
  refine ⟨e1, e2, e3, e4, fun i hi => ?_, fun i hi => ?_, fun i hi => ?_⟩
  · have := h1 i hi
    simp only [Net.gateAt, Bool.not_eq_true', Bool.or_eq_false_iff, decide_eq_false_iff_not] at this
    have k1 : n.first = 1 + n.ins.length + n.regs.length := rfl
    have k2 : n.last = 2 * (n.first + n.gates.length) := rfl
    omega
  · have := h2 i hi
    simp only [Net.regAt, Bool.not_eq_true', Bool.or_eq_false_iff, decide_eq_false_iff_not] at this
    have k1 : n.first = 1 + n.ins.length + n.regs.length := rfl
    have k2 : n.last = 2 * (n.first + n.gates.length) := rfl
    omega
  · have := h3 i hi
    simp only [Net.outAt, Bool.not_eq_true', Bool.or_eq_false_iff, decide_eq_false_iff_not] at this
    have k1 : n.first = 1 + n.ins.length + n.regs.length := rfl
    have k2 : n.last = 2 * (n.first + n.gates.length) := rfl
    omega

/-! ### The reference's words -/
def ofC (c : Int) : Int := if c = 48 then 0 else if c = 49 then 1 else if c = 120 then 2 else if c = 122 then 3 else 0
def ofCok (c : Int) : Bool := c == 48 || c == 49 || c == 120 || c == 122
def known (b : Int) : Bool := (b == 0 || b == 1) || b == 2
def isBit4 (b : Int) : Bool := ((b == 0 || b == 1) || b == 2) || b == 3
def litOK (l node : Int) : Bool := decide (l ≥ 0) && decide (l / 2 < node)
theorem known_iff {b : Int} : known b = true ↔ b = 0 ∨ b = 1 ∨ b = 2 := by
  simp only [known, Bool.or_eq_true, beq_iff_eq]; omega
theorem okName_len {s : ByteArray} (h : (decide ((s.size : Int) < 1) || decide ((s.size : Int) > 100)) = true) : okName s = false := by
  simp only [Bool.or_eq_true, decide_eq_true_eq] at h
  rw [okName]
  rcases h with h | h
  · rw [show decide ((s.size : Int) ≥ 1) = false from decide_eq_false (by omega)]; simp
  · rw [show decide ((s.size : Int) ≤ 100) = false from decide_eq_false (by omega)]; simp
theorem okName_all {s : ByteArray} (h : (decide ((s.size : Int) < 1) || decide ((s.size : Int) > 100)) = false) (ha : allTo (fun i => okByte (s.data.toList.getD i default)) s.data.toList.length = true) : okName s = true := by
  simp only [Bool.or_eq_false_iff, decide_eq_false_iff_not] at h
  rw [okName, ha, show decide ((s.size : Int) ≥ 1) = true from decide_eq_true (by omega), show decide ((s.size : Int) ≤ 100) = true from decide_eq_true (by omega)]; rfl
theorem nameAt_bad {l : List ByteArray} {i : Nat} (h : okName (l.getD i default) = false) : nameAt l i = false := by rw [nameAt, h]; rfl
theorem nameAt_twice {l : List ByteArray} {i : Nat} (k : Nat) (hk : k < i) (h : ((l.getD k default).toList == (l.getD i default).toList) = true) : nameAt l i = false := by
  rw [nameAt, allTo_false k hk (by rw [h]; rfl), Bool.and_false]
theorem nameAt_ok {l : List ByteArray} {i : Nat} (h : okName (l.getD i default) = true) (h2 : allTo (fun k => !((l.getD k default).toList == (l.getD i default).toList)) i = true) : nameAt l i = true := by rw [nameAt, h, h2]; rfl
/-- What the reference says of a gate, of a register, of a name of an output. -/
theorem gate_lits {n : Net} {i : Nat} : n.gateAt i = (litOK (n.gates.getD i default).1 (n.first + i) && litOK (n.gates.getD i default).2 (n.first + i)) := by
  rw [Bool.eq_iff_iff]
  simp only [Net.gateAt, litOK, Bool.not_eq_true', Bool.or_eq_false_iff, decide_eq_false_iff_not, Bool.and_eq_true, decide_eq_true_eq]
  omega
theorem reg_lits {n : Net} {i : Nat} (hb : 0 ≤ (n.regs.getD i default).2.1) : n.regAt i = (known (n.regs.getD i default).2.1 && litOK (n.regs.getD i default).2.2 (n.first + n.gates.length)) := by
  rw [Bool.eq_iff_iff]
  have e : n.last = 2 * (n.first + n.gates.length) := rfl
  simp only [Net.regAt, litOK, known_iff, Bool.not_eq_true', Bool.or_eq_false_iff, decide_eq_false_iff_not, Bool.and_eq_true, decide_eq_true_eq]
  omega
theorem out_lits {n : Net} {i : Nat} : n.outAt i = litOK (n.outs.getD i default).2 (n.first + n.gates.length) := by
  rw [Bool.eq_iff_iff]
  have e : n.last = 2 * (n.first + n.gates.length) := rfl
  simp only [Net.outAt, litOK, Bool.not_eq_true', Bool.or_eq_false_iff, decide_eq_false_iff_not, Bool.and_eq_true, decide_eq_true_eq]
  omega
theorem head_long {n : Net} (h : ((decide ((n.regs.length : Int) > 500) || decide ((n.outs.length : Int) > 500)) || decide ((n.gates.length : Int) > 20000)) = true) : n.valid = false := by
  refine Net.valid_head ?_
  cases hh : n.okHead with
  | false => rfl
  | true =>
    have := okHead_len hh
    simp only [Bool.or_eq_true, decide_eq_true_eq] at h
    omega
theorem head_names {n : Net} (h : ((!okNames n.ins || !okNames (n.regs.map Prod.fst)) || !okNames (n.outs.map Prod.fst)) = true) : n.valid = false := by
  refine Net.valid_head ?_
  rw [okHead_eq, h]; rfl
theorem head_all {n : Net} (h0 : ¬ 20000 < (n.gates.length : Int)) (h : ((!okNames n.ins || !okNames (n.regs.map Prod.fst)) || !okNames (n.outs.map Prod.fst)) = false) : n.okHead = true := by
  rw [okHead_eq, h, decide_eq_false (by omega)]; rfl
theorem bits_known {l : List Int} {m : Nat} (h0 : ∀ x ∈ l, 0 ≤ x ∧ x ≤ 255) (hl : l.length = m) (h : allTo (fun i => known (l.getD i default)) l.length = true) : bitsOK l m = true := by
  rw [bitsOK_iff]
  rw [allTo_iff] at h
  refine ⟨hl, fun k hk => ?_⟩
  have := known_iff.1 (h k hk)
  omega
theorem bits_unknown {l : List Int} {m : Int} (h0 : ∀ x ∈ l, 0 ≤ x ∧ x ≤ 255) (i : Nat) (hi : i < l.length) (h : known (l.getD i default) = false) : bitsOK l m = false := by
  cases e : bitsOK l m with
  | false => rfl
  | true =>
    have hm : (l.length : Int) = m := by
      unfold bitsOK at e
      rw [Bool.and_eq_true, beq_iff_eq] at e
      exact e.1
    subst hm
    have h1 := (bitsOK_iff.1 e).2 i hi
    have h2 := h0 _ (getD_mem hi)
    have : known (l.getD i default) = true := known_iff.2 (by omega)
    rw [this] at h; cases h
theorem bits_length {l : List Int} {m : Int} (h : ((l.length : Int) != m) = true) : bitsOK l m = false := by
  unfold bitsOK
  have : ((l.length : Int) == m) = false := by
    rw [bne_iff_ne] at h
    rw [beq_eq_false_iff_ne]; exact h
  rw [this]; rfl
def isBit (x : Int) : Prop := x = 0 ∨ x = 1 ∨ x = 2
theorem bothB_bit (a b : Int) : isBit (bothB a b) := by
  unfold bothB isBit; split
  · omega
  · split <;> omega
theorem bits_bit {l : List Int} {m : Nat} (h0 : ∀ x ∈ l, 0 ≤ x ∧ x ≤ 255) (h : bitsOK l m = true) : ∀ x ∈ l, isBit x := by
  intro x hx
  obtain ⟨i, hi, rfl⟩ := List.getElem_of_mem hx
  have h1 := (bitsOK_iff.1 h).2 i hi
  have h2 := h0 _ hx
  rw [List.getD_eq_getElem?_getD, List.getElem?_eq_getElem hi] at h1
  unfold isBit
  simp only [Option.getD_some] at h1
  omega
theorem Net.valsTo_bit (n : Net) {ins regs : List Int} (h1 : ∀ x ∈ ins, isBit x) (h2 : ∀ x ∈ regs, isBit x) : ∀ i, ∀ x ∈ n.valsTo ins regs i, isBit x
  | 0 => by
    intro x hx
    simp only [Net.valsTo, List.mem_append, List.mem_singleton] at hx
    rcases hx with (rfl | hx) | hx
    · exact .inl rfl
    · exact h1 x hx
    · exact h2 x hx
  | i + 1 => by
    intro x hx
    simp only [Net.valsTo, List.mem_append, List.mem_singleton] at hx
    rcases hx with hx | rfl
    · exact Net.valsTo_bit n h1 h2 i x hx
    · exact bothB_bit _ _
theorem ofB_bit {v : List Int} {l : Int} (hv : ∀ x ∈ v, isBit x) (h : (l / 2).toNat < v.length) : isBit (ofB v l) := by
  have := hv _ (getD_mem h)
  unfold ofB notB isBit at *
  split
  · split <;> omega
  · exact this
theorem known_succ {f : Nat → Int} {i : Nat} (h : allTo (fun k => known (f k)) i = true) (hk : known (f i) = true) : allTo (fun k => known (f k)) (i + 1) = true := allTo_succ h hk
def sameBits (l m : List Int) : Bool := (l.length : Int) == m.length && allTo (fun i => (l.getD i default) == (m.getD i default)) l.length
def few (n : Net) : Bool := decide ((n.ins.length : Int) + n.regs.length + n.outs.length ≤ 1600) && decide ((n.gates.length : Int) ≤ 2000)
def Net.nodes (n : Net) : Int × Int := if n.valid then (1 + n.ins.length + n.regs.length + n.gates.length, 0) else (0, 2)
theorem not_or_not {a b c : Bool} (h : (!a || !b) = c) : (a && b) = !c := by subst h; cases a <;> cases b <;> rfl
theorem names_take {α : Type} {f : α → ByteArray} {l : List α} (h : ∀ r ∈ l, (f r).size ≤ 140737488355328) : ∀ x ∈ (l.take l.length).map f, x.size ≤ 140737488355328 := by
  intro x hx
  rw [List.take_length] at hx
  obtain ⟨r, hr, rfl⟩ := List.mem_map.1 hx
  exact h r hr
theorem Net.bad_bits {n : Net} {ins regs : List Int} (h : n.bad ins regs = false) (h1 : ∀ x ∈ ins, 0 ≤ x ∧ x ≤ 255) (h2 : ∀ x ∈ regs, 0 ≤ x ∧ x ≤ 255) : (∀ x ∈ ins, isBit x) ∧ (∀ x ∈ regs, isBit x) := by
  simp only [Net.bad, Bool.or_eq_false_iff, Bool.not_eq_false'] at h
  exact ⟨bits_bit h1 h.1.2, bits_bit h2 h.2⟩
end Go.Proofs.YtnnklpmgncbgnaaGreat
