/- The search through all states, in plain Lean. -/
import Derived.Test.YtnnklpmgncbgnaaGreatCMap
set_option linter.unusedVariables false
set_option linter.unusedSimpArgs false
namespace Go.Proofs.YtnnklpmgncbgnaaGreat
open Go

abbrev Met := List (Nat × Int × Int)
def stG (b : Int × Int) : AVal := .agg [.v (.int .i64 b.1), .v (.int .i64 b.2)]
def Net.visit (n : Net) (s : Nat) (st : Met × List Nat) (i : Nat) : Met × List Nat :=
  if (kFind (n.nextNum s i) st.1).isSome then st else (st.1 ++ [(n.nextNum s i, ((s : Int), (i : Int)))], st.2 ++ [n.nextNum s i])
def Net.visitTo (n : Net) (s : Nat) (st : Met × List Nat) : Nat → Met × List Nat
  | 0 => st
  | i + 1 => n.visit s (n.visitTo s st i) i
def headQ (st : Met × List Nat) : Nat := st.2.getD 0 default
def Net.bstep (n : Net) (st : Met × List Nat) : Met × List Nat := if st.2 = [] then st else ((n.visitTo (headQ st) st n.many2).1, (n.visitTo (headQ st) st n.many2).2.drop 1)
def Net.bfsN (n : Net) : Nat → Met × List Nat
  | 0 => ([(num n.firsts, ((-1 : Int), (0 : Int)))], [num n.firsts])
  | k + 1 => n.bstep (n.bfsN k)
def Net.states (n : Net) : Nat := 1 <<< n.regs.length
def Net.bfs (n : Net) : Met := (n.bfsN (2 * n.states)).1
theorem Net.states_eq (n : Net) : n.states = 2 ^ n.regs.length := by rw [Net.states, Nat.shiftLeft_eq, Nat.one_mul]
theorem Net.states_le {n : Net} (h : n.regs.length ≤ 12) : n.states ≤ 4096 := by rw [n.states_eq]; exact pow_le_of (m := 12) h
/-- What is always so. -/
structure BInv (n : Net) (st : Met × List Nat) : Prop where
  nodup : (st.1.map (·.1)).Nodup
  lt : ∀ x ∈ st.1.map (·.1), x < n.states
  q : ∀ x ∈ st.2, x < n.states
  one : 0 < st.1.length
theorem nodup_lt : ∀ (S : Nat) (l : List Nat), l.Nodup → (∀ x ∈ l, x < S) → l.length ≤ S
  | 0, l, _, h => by
    cases l with
    | nil => simp
    | cons x r => exact absurd (h x (by simp)) (by omega)
  | S + 1, l, hn, h => by
    by_cases hS : S ∈ l
    · have h1 := nodup_lt S (l.erase S) (hn.erase S) (fun x hx => by
        have := (hn.mem_erase_iff).1 hx
        have h2 := h x this.2
        have h3 := this.1
        omega)
      rw [List.length_erase_of_mem hS] at h1
      have := List.length_pos_of_mem hS
      omega
    · have := nodup_lt S l hn (fun x hx => by
        have h2 := h x hx
        have h3 : x ≠ S := fun e => hS (e ▸ hx)
        omega)
      omega
theorem BInv.len {n : Net} {st : Met × List Nat} (h : BInv n st) : st.1.length ≤ n.states := by
  have := nodup_lt n.states _ h.nodup h.lt
  simpa using this
def meas (n : Net) (st : Met × List Nat) : Nat := 2 * (n.states - st.1.length) + st.2.length
theorem Net.nextNum_st (n : Net) (s : Int) (j : Nat) : n.nextNum s j < n.states := by rw [n.states_eq]; exact n.nextNum_lt s j
theorem visit_new {n : Net} {s i : Nat} {st : Met × List Nat} (h : (kFind (n.nextNum s i) st.1).isSome = false) : n.visit s st i = (st.1 ++ [(n.nextNum s i, ((s : Int), (i : Int)))], st.2 ++ [n.nextNum s i]) := by
  rw [Net.visit, if_neg (by rw [h]; decide)]
theorem visit_old {n : Net} {s i : Nat} {st : Met × List Nat} (h : (kFind (n.nextNum s i) st.1).isSome = true) : n.visit s st i = st := by
  rw [Net.visit, if_pos h]
theorem BInv.visit {n : Net} {st : Met × List Nat} (h : BInv n st) (s i : Nat) : BInv n (n.visit s st i) ∧ meas n (n.visit s st i) ≤ meas n st := by
  cases hf : (kFind (n.nextNum s i) st.1).isSome with
  | true => rw [visit_old hf]; exact ⟨h, Nat.le_refl _⟩
  | false =>
    rw [visit_new hf]
    have hx := n.nextNum_st s i
    have hno : kFind (n.nextNum s i) st.1 = none := by simpa using hf
    have hi : BInv n (st.1 ++ [(n.nextNum s i, ((s : Int), (i : Int)))], st.2 ++ [n.nextNum s i]) := by
      refine ⟨?_, fun x hx' => ?_, fun x hx' => ?_, by simp⟩
      · rw [List.map_append, List.nodup_append]
        refine ⟨h.nodup, by simp, fun a ha b hb e => ?_⟩
        simp at hb
        subst hb e
        exact kFind_none.1 hno ha
      · rw [List.map_append, List.mem_append] at hx'
        rcases hx' with h1 | h1
        · exact h.lt x h1
        · simp at h1; subst h1; exact hx
      · rcases List.mem_append.1 hx' with h1 | h1
        · exact h.q x h1
        · simp at h1; subst h1; exact hx
    refine ⟨hi, ?_⟩
    have := hi.len
    simp only [meas, List.length_append, List.length_singleton] at this ⊢
    omega
theorem BInv.visitTo {n : Net} {st : Met × List Nat} (h : BInv n st) (s : Nat) : ∀ i, BInv n (n.visitTo s st i) ∧ meas n (n.visitTo s st i) ≤ meas n st
  | 0 => ⟨h, Nat.le_refl _⟩
  | i + 1 => by
    obtain ⟨h1, h2⟩ := BInv.visitTo h s i
    obtain ⟨h3, h4⟩ := h1.visit s i
    exact ⟨h3, Nat.le_trans h4 h2⟩
theorem visitTo_pre (n : Net) (s : Nat) (st : Met × List Nat) : ∀ i, ∃ r, (n.visitTo s st i).2 = st.2 ++ r
  | 0 => ⟨[], by simp [Net.visitTo]⟩
  | i + 1 => by
    obtain ⟨r, hr⟩ := visitTo_pre n s st i
    rw [Net.visitTo]
    cases hf : (kFind (n.nextNum s i) (n.visitTo s st i).1).isSome with
    | true => rw [visit_old hf]; exact ⟨r, hr⟩
    | false => rw [visit_new hf]; exact ⟨r ++ [n.nextNum s i], by simp only [hr, List.append_assoc]⟩
theorem visitTo_head {n : Net} {s : Nat} {st : Met × List Nat} (h : st.2 ≠ []) (i : Nat) : (n.visitTo s st i).2.getD 0 default = headQ st ∧ 0 < (n.visitTo s st i).2.length := by
  obtain ⟨r, hr⟩ := visitTo_pre n s st i
  rw [hr, headQ]
  cases hq : st.2 with
  | nil => exact absurd hq h
  | cons x l => exact ⟨rfl, by simp⟩
theorem BInv.bstep {n : Net} {st : Met × List Nat} (h : BInv n st) (hq : st.2 ≠ []) : BInv n (n.bstep st) ∧ meas n (n.bstep st) + 1 ≤ meas n st := by
  obtain ⟨h1, h2⟩ := h.visitTo (headQ st) n.many2
  obtain ⟨_, h3⟩ := visitTo_head (n := n) (s := headQ st) hq n.many2
  rw [Net.bstep, if_neg hq]
  refine ⟨⟨h1.nodup, h1.lt, fun x hx => h1.q x (List.mem_of_mem_drop hx), h1.one⟩, ?_⟩
  simp only [meas, List.length_drop] at h2 ⊢
  omega
theorem Net.bfs_inv {n : Net} (hr : num n.firsts < n.states) : ∀ k, BInv n (n.bfsN k)
  | 0 => ⟨by simp [Net.bfsN], by simpa [Net.bfsN] using hr, by simpa [Net.bfsN] using hr, by simp [Net.bfsN]⟩
  | k + 1 => by
    have ih := Net.bfs_inv hr k
    by_cases hq : (n.bfsN k).2 = []
    · rw [Net.bfsN, Net.bstep, if_pos hq]; exact ih
    · exact (ih.bstep hq).1
theorem Net.bfs_stop {n : Net} {k : Nat} (hq : (n.bfsN k).2 = []) : ∀ j, n.bfsN (k + j) = n.bfsN k
  | 0 => rfl
  | j + 1 => by
    rw [← Nat.add_assoc, Net.bfsN, Net.bfs_stop hq j, Net.bstep, if_pos hq]
/-- The loop's measure goes down; when the queue is empty, all is found. -/
theorem Net.bfs_end {n : Net} {k : Nat} (hq : (n.bfsN k).2 = []) (hk : k ≤ 2 * n.states) : (n.bfsN k).1 = n.bfs := by
  rw [Net.bfs]
  have := Net.bfs_stop hq (2 * n.states - k)
  rw [show k + (2 * n.states - k) = 2 * n.states by omega] at this
  rw [this]
def BK (n : Net) (k : Nat) : Prop := k + meas n (n.bfsN k) ≤ 2 * n.states
theorem bk_zero {n : Net} (hr : num n.firsts < n.states) : BK n 0 := by
  simp only [BK, meas, Net.bfsN, List.length_singleton]
  omega
theorem bk_succ {n : Net} (hr : num n.firsts < n.states) {k : Nat} (h : BK n k) (hq : (n.bfsN k).2 ≠ []) : BK n (k + 1) := by
  have := ((Net.bfs_inv hr k).bstep hq).2
  unfold BK at *
  show k + 1 + meas n (n.bstep (n.bfsN k)) ≤ _
  omega
/-- A net that the search takes. -/
structure Net.Ready (n : Net) : Prop where
  small : n.Small
  v : n.valid = true
  k : n.known = true
  i : n.ins.length ≤ 10
  r : n.regs.length ≤ 12
theorem Net.Ready.go {n : Net} (h : n.Ready) : n.Go := ⟨h.v, h.i, h.r⟩
theorem known_iff01 {n : Net} (hn : n.Small) : n.known = true ↔ Bit01 n.firsts := by
  have hb := hn.bytes
  rw [Net.known, Bool.not_eq_true', decide_eq_false_iff_not]
  unfold firstR
  cases h : firstTo (regBad n.regs) n.regs.length with
  | none =>
    refine ⟨fun _ => ?_, fun _ => by decide⟩
    intro x hx
    obtain ⟨r, hr, rfl⟩ := List.mem_map.1 (show x ∈ n.regs.map initR from hx)
    obtain ⟨i, hi, rfl⟩ := List.getElem_of_mem hr
    have h2 := allTo_iff.1 (firstTo_none.1 h) i hi
    rw [Bool.not_eq_true', regBad, decide_eq_false_iff_not, List.getD_eq_getElem?_getD, List.getElem?_eq_getElem hi, Option.getD_some] at h2
    have := hb _ hr
    unfold initR
    omega
  | some k =>
    refine ⟨fun h2 => absurd (by simp) h2, fun h2 => ?_⟩
    exfalso
    have : firstTo (regBad n.regs) n.regs.length = none := firstTo_none.2 (allTo_iff.2 fun i hi => by
      have := h2 (initR (n.regs.getD i default)) (List.mem_map_of_mem (getD_mem hi))
      rw [Bool.not_eq_true', regBad, decide_eq_false_iff_not]
      unfold initR at this
      omega)
    rw [this] at h; cases h
theorem Net.Ready.begin {n : Net} (h : n.Ready) : Bit01 n.firsts ∧ num n.firsts < n.states := by
  have h1 := (known_iff01 h.small).1 h.k
  refine ⟨h1, ?_⟩
  have := num_lt h1
  rw [n.states_eq]
  simpa [Net.firsts] using this
theorem visitTo_new {n : Net} {s i : Nat} {st : Met × List Nat} (h : (kFind (n.nextNum s i) (n.visitTo s st i).1).isSome = false) : n.visitTo s st (i + 1) = ((n.visitTo s st i).1 ++ [(n.nextNum s i, ((s : Int), (i : Int)))], (n.visitTo s st i).2 ++ [n.nextNum s i]) := visit_new h
theorem visitTo_old {n : Net} {s i : Nat} {st : Met × List Nat} (h : (kFind (n.nextNum s i) (n.visitTo s st i).1).isSome = true) : n.visitTo s st (i + 1) = n.visitTo s st i := visit_old h
theorem Net.bfsN_succ {n : Net} {k : Nat} (hq : (n.bfsN k).2 ≠ []) : n.bfsN (k + 1) = ((n.visitTo (headQ (n.bfsN k)) (n.bfsN k) n.many2).1, (n.visitTo (headQ (n.bfsN k)) (n.bfsN k) n.many2).2.drop 1) := by
  rw [Net.bfsN, Net.bstep, if_neg hq]
theorem head_drop {l : List Nat} {x : Nat} (h : l.getD 0 default = x ∧ 0 < l.length) : l = x :: l.drop 1 := by
  cases l with
  | nil => simp at h
  | cons y r => obtain ⟨h1, _⟩ := h; simp at h1; subst h1; rfl
theorem getD_pre {p q : List Nat} : (p ++ q).getD (p.length + (0 : Int).toNat) default = q.getD 0 default := by
  rw [List.getD_eq_getElem?_getD, List.getElem?_append_right (by omega), List.getD_eq_getElem?_getD]
  congr 2
  simp
theorem nexts_get (n : Net) (s : Int) (i : Nat) (hi : i < n.many2) : (n.nexts s n.many2).getD i default = n.nextNum s i := range_get _ _ _ hi
section
variable {P : Program} {σ : Store} {E : Operand → Option AVal} {d : Option Tmp} {ty : TypeId} {pos : String} {after : Array Edge} {guard : Option (Nat × Bool)}
theorem op_lookup_st {m : Met} {x y : Operand} {t kt et id ver : Nat} {ka : AVal} {inf : TypeInfo} (k : Nat) (ht : P.underlying t = some (.map kt et)) (hkt : P.underlying kt = some (.int .i64)) (hi : P.info? et = some inf) (hz : inf.zero = some (.agg #[.int .i64 0, .int .i64 0]))
    (hx : E x = some (.map id ver)) (hid : σ.get id = some (ver, .map (kEnts stG m))) (hy : E y = some ka) (hk : concOf ka = some (kKey k)) :
    OpTo P ⟨d, .lookup t x y true, ty, pos, after, guard⟩ E σ (.tuple [stG ((kFind k m).getD (0, 0)), .v (.bool (kFind k m).isSome)]) σ := by
  have := op_lookup_k (P := P) (E := E) (σ := σ) (d := d) (ty := ty) (pos := pos) (after := after) (guard := guard) (x := x) (y := y) k ht hkt hi hz rfl hx hid hy hk
  have e : ((kFind k m).map stG).getD (.agg [.v (.int .i64 0), .v (.int .i64 0)]) = stG ((kFind k m).getD (0, 0)) := by cases kFind k m <;> rfl
  rw [← e]
  exact this
end
end Go.Proofs.YtnnklpmgncbgnaaGreat
