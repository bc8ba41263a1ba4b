/- Rounds: when a state comes again, in plain Lean. -/
import Derived.Test.YtnnklpmgncbgnaaGreatCWay
set_option linter.unusedVariables false
set_option linter.unusedSimpArgs false
namespace Go.Proofs.YtnnklpmgncbgnaaGreat
open Go

theorem not01 {b : Int} (h : b = 0 ∨ b = 1) : notB b = 0 ∨ notB b = 1 := by
  rcases h with rfl | rfl
  · right; decide
  · left; decide
theorem both01 {a b : Int} (h : a = 0 ∨ a = 1) (k : b = 0 ∨ b = 1) : bothB a b = 0 ∨ bothB a b = 1 := by
  rcases h with rfl | rfl <;> rcases k with rfl | rfl <;> decide
theorem of01 {v : List Int} {l : Int} (hv : Bit01 v) (h : (l / 2).toNat < v.length) : ofB v l = 0 ∨ ofB v l = 1 := by
  unfold ofB
  split
  · exact not01 (hv _ (getD_mem h))
  · exact hv _ (getD_mem h)
theorem Net.vals01 {n : Net} (hv : n.valid = true) {ins regs : List Int} (l1 : ins.length = n.ins.length) (l2 : regs.length = n.regs.length) (h1 : Bit01 ins) (h2 : Bit01 regs) : ∀ i, i ≤ n.gates.length → Bit01 (n.valsTo ins regs i)
  | 0, _ => by
    intro x hx
    have hx : x ∈ ([(0 : Int)] ++ ins) ++ regs := hx
    simp only [List.mem_append, List.mem_singleton] at hx
    rcases hx with (rfl | hx) | hx
    · exact .inl rfl
    · exact h1 x hx
    · exact h2 x hx
  | i + 1, hi => by
    intro x hx
    have ih := Net.vals01 hv l1 l2 h1 h2 i (by omega)
    obtain ⟨_, _, _, _, f5, _, _⟩ := Net.valid_facts hv
    have hg := f5 i (by omega)
    have hl := n.valsTo_length ins regs i
    have hx : x ∈ n.valsTo ins regs i ++ [bothB (ofB (n.valsTo ins regs i) (n.gates.getD i default).1) (ofB (n.valsTo ins regs i) (n.gates.getD i default).2)] := hx
    rcases List.mem_append.1 hx with h | h
    · exact ih x h
    · rw [List.mem_singleton] at h
      subst h
      exact both01 (of01 ih (by omega)) (of01 ih (by omega))
theorem bit01_bit {l : List Int} (h : Bit01 l) : ∀ x ∈ l, isBit x := by
  intro x hx
  rcases h x hx with rfl | rfl
  · exact .inl rfl
  · exact .inr (.inl rfl)
theorem bit01_ok {l : List Int} {m : Nat} (hl : l.length = m) (h : Bit01 l) : bitsOK l m = true := bits_of hl (bit01_bit h)
theorem Net.eval01 {n : Net} (hv : n.valid = true) {ins regs : List Int} (l1 : ins.length = n.ins.length) (l2 : regs.length = n.regs.length) (h1 : Bit01 ins) (h2 : Bit01 regs) : Bit01 (n.eval ins regs).1 ∧ Bit01 (n.eval ins regs).2.1 := by
  have hb : n.bad ins regs = false := Net.not_bad_of hv (bit01_ok l1 h1) (bit01_ok l2 h2)
  obtain ⟨f1, f2, f3, f4, f5, f6, f7⟩ := Net.valid_facts hv
  have hvals := Net.vals01 hv l1 l2 h1 h2 n.gates.length (Nat.le_refl _)
  have hl := n.valsTo_length ins regs n.gates.length
  rw [Net.eval_ok hb]
  constructor
  · intro x hx
    obtain ⟨p, hp, rfl⟩ := List.mem_map.1 hx
    rw [List.take_length] at hp
    obtain ⟨k, hk, rfl⟩ := List.getElem_of_mem hp
    have hf := f7 k hk
    rw [List.getD_eq_getElem?_getD, List.getElem?_eq_getElem hk] at hf
    simp only [Option.getD_some] at hf
    exact of01 hvals (by omega)
  · intro x hx
    obtain ⟨p, hp, rfl⟩ := List.mem_map.1 hx
    rw [List.take_length] at hp
    obtain ⟨k, hk, rfl⟩ := List.getElem_of_mem hp
    have hf := f6 k hk
    rw [List.getD_eq_getElem?_getD, List.getElem?_eq_getElem hk] at hf
    simp only [Option.getD_some] at hf
    exact of01 hvals (by omega)
/-- The state after so many clocks with the same inputs. -/
def Net.rst (n : Net) (ins : List Int) : Nat → List Int
  | 0 => n.firsts
  | k + 1 => (n.eval ins (n.rst ins k)).2.1
def Net.rnum (n : Net) (ins : List Int) (k : Nat) : Nat := num (n.rst ins k)
def Net.rents (n : Net) (ins : List Int) (k : Nat) : List (Nat × Nat) := (List.range k).map fun j => (n.rnum ins j, j)
theorem Net.rents_succ (n : Net) (ins : List Int) (k : Nat) : n.rents ins (k + 1) = n.rents ins k ++ [(n.rnum ins k, k)] := by simp [Net.rents, List.range_succ]
def gN (j : Nat) : AVal := .v (.int .i64 (j : Int))
def Net.rhit (n : Net) (ins : List Int) (k : Nat) : Bool := (kFind (n.rnum ins k) (n.rents ins k)).isSome
def Net.roundOK (n : Net) (ins : List Int) : Bool := (n.valid && ((ins.length : Int) == n.ins.length)) && !decide (firstX ins ≥ 0)
def Net.roundK (n : Net) (ins : List Int) : Nat := (firstTo (n.rhit ins) (n.states + 1)).getD 0
def Net.roundA (n : Net) (ins : List Int) : Nat := (kFind (n.rnum ins (n.roundK ins)) (n.rents ins (n.roundK ins))).getD 0
def Net.round (n : Net) (ins : List Int) : Int × Int × Int :=
  if n.roundOK ins then (if n.small then ((n.roundA ins : Int), (n.roundK ins : Int) - (n.roundA ins : Int), 0) else (0, 0, 5)) else (0, 0, 2)
theorem roundOK_or {n : Net} {ins : List Int} : ((!n.valid || ((ins.length : Int) != n.ins.length)) || decide (firstX ins ≥ 0)) = !n.roundOK ins := by
  rw [Net.roundOK]
  have e2 : ((ins.length : Int) != n.ins.length) = !((ins.length : Int) == n.ins.length) := rfl
  rw [e2]
  generalize ((ins.length : Int) == n.ins.length) = c
  generalize decide (firstX ins ≥ 0) = d
  cases n.valid <;> cases c <;> cases d <;> rfl
theorem firstX_none {l : List Int} (hb : ∀ x ∈ l, 0 ≤ x ∧ x ≤ 255) (h : decide (firstX l ≥ 0) = false) : Bit01 l := by
  unfold firstX at h
  cases hf : firstTo (bit1At l) l.length with
  | some k => rw [hf] at h; simp at h
  | none =>
    intro x hx
    obtain ⟨i, hi, rfl⟩ := List.getElem_of_mem hx
    have h2 := allTo_iff.1 (firstTo_none.1 hf) i hi
    rw [Bool.not_eq_true', bit1At, decide_eq_false_iff_not, List.getD_eq_getElem?_getD, List.getElem?_eq_getElem hi, Option.getD_some] at h2
    have := hb _ hx
    omega
theorem Net.roundOK_facts {n : Net} {ins : List Int} (hb : ∀ x ∈ ins, 0 ≤ x ∧ x ≤ 255) (h : n.roundOK ins = true) : n.valid = true ∧ ins.length = n.ins.length ∧ Bit01 ins := by
  rw [Net.roundOK, Bool.and_eq_true, Bool.and_eq_true, beq_iff_eq, Bool.not_eq_true'] at h
  obtain ⟨⟨h1, h2⟩, h3⟩ := h
  exact ⟨h1, by omega, firstX_none hb h3⟩
theorem Net.rents_le (n : Net) (ins : List Int) (k x : Nat) : (kFind x (n.rents ins k)).getD 0 ≤ k := by
  cases h : kFind x (n.rents ins k) with
  | none => simp
  | some b =>
    have := kFind_some h
    obtain ⟨j, hj, e⟩ := List.mem_map.1 this
    rw [List.mem_range] at hj
    cases e
    simp
    omega
structure Net.RAt (n : Net) (ins : List Int) (k : Nat) : Prop where
  b : Bit01 (n.rst ins k)
  l : (n.rst ins k).length = n.regs.length
theorem Net.rat {n : Net} (h : n.Ready) {ins : List Int} (l1 : ins.length = n.ins.length) (h1 : Bit01 ins) : ∀ k, n.RAt ins k
  | 0 => ⟨h.begin.1, by simp [Net.rst, Net.firsts]⟩
  | k + 1 => by
    have ih := Net.rat h l1 h1 k
    have hb : n.bad ins (n.rst ins k) = false := Net.not_bad_of h.v (bit01_ok l1 h1) (bit01_ok ih.l ih.b)
    have h2 := (Net.eval01 h.v l1 ih.l h1 ih.b).2
    refine ⟨h2, ?_⟩
    show (n.eval ins (n.rst ins k)).2.1.length = _
    exact (Net.eval_facts (bit_bytes (bit01_bit h1)) (bit_bytes (bit01_bit ih.b)) hb).2.2.1
theorem Net.rnum_lt {n : Net} {ins : List Int} {k : Nat} (h : n.RAt ins k) : n.rnum ins k < n.states := by
  have := num_lt h.b
  rw [n.states_eq, ← h.l]
  exact this
theorem Net.rents_keys (n : Net) (ins : List Int) (k : Nat) : (n.rents ins k).map (·.1) = (List.range k).map (n.rnum ins) := by
  simp [Net.rents]
theorem Net.rnums_nodup {n : Net} {ins : List Int} : ∀ {k : Nat}, firstTo (n.rhit ins) k = Option.none → ((List.range k).map (n.rnum ins)).Nodup
  | 0, _ => by simp
  | k + 1, h => by
    have ha := allTo_iff.1 (firstTo_none.1 h)
    have ih := Net.rnums_nodup (n := n) (ins := ins) (k := k) (firstTo_none.2 (allTo_iff.2 fun i hi => ha i (by omega)))
    have hk := ha k (by omega)
    rw [List.range_succ, List.map_append, List.nodup_append]
    refine ⟨ih, by simp, fun a h1 b h2 e => ?_⟩
    simp at h2
    subst h2 e
    have : kFind (n.rnum ins k) (n.rents ins k) = Option.none := by simpa [Net.rhit] using hk
    rw [kFind_none, Net.rents_keys] at this
    exact this h1
theorem Net.round_le {n : Net} (h : n.Ready) {ins : List Int} (l1 : ins.length = n.ins.length) (h1 : Bit01 ins) {k : Nat} (hk : firstTo (n.rhit ins) k = Option.none) : k ≤ n.states := by
  have := nodup_lt n.states _ (Net.rnums_nodup hk) (fun x hx => by
    obtain ⟨j, _, rfl⟩ := List.mem_map.1 hx
    exact Net.rnum_lt (Net.rat h l1 h1 j))
  simpa using this
theorem Net.round_hit {n : Net} (h : n.Ready) {ins : List Int} (l1 : ins.length = n.ins.length) (h1 : Bit01 ins) {k : Nat} (hk : firstTo (n.rhit ins) k = Option.none) (hh : n.rhit ins k = true) : n.roundK ins = k := by
  have := Net.round_le h l1 h1 hk
  rw [Net.roundK, firstTo_some (by omega) hk hh]; rfl
section
variable {P : Program} {σ : Store} {E : Operand → Option AVal} {d : Option Tmp} {ty : TypeId} {pos : String} {after : Array Edge} {guard : Option (Nat × Bool)}
theorem op_lookup_ki {m : List (Nat × Nat)} {x y : Operand} {t kt et id ver : Nat} {ka : AVal} {inf : TypeInfo} (k : Nat) (ht : P.underlying t = some (.map kt et)) (hkt : P.underlying kt = some (.int .i64)) (hi : P.info? et = some inf) (hz : inf.zero = some (.int .i64 0))
    (hx : E x = some (.map id ver)) (hid : σ.get id = some (ver, .map (kEnts gN m))) (hy : E y = some ka) (hk : concOf ka = some (kKey k)) :
    OpTo P ⟨d, .lookup t x y true, ty, pos, after, guard⟩ E σ (.tuple [.v (.int .i64 (((kFind k m).getD 0 : Nat) : Int)), .v (.bool (kFind k m).isSome)]) σ := by
  have := op_lookup_k (P := P) (E := E) (σ := σ) (d := d) (ty := ty) (pos := pos) (after := after) (guard := guard) (x := x) (y := y) k ht hkt hi hz rfl hx hid hy hk
  have e : ((kFind k m).map gN).getD (.v (.int .i64 0)) = .v (.int .i64 (((kFind k m).getD 0 : Nat) : Int)) := by cases kFind k m <;> rfl
  rw [← e]
  exact this
end
end Go.Proofs.YtnnklpmgncbgnaaGreat
