/- Ways back through the search; rounds; a list turned round. In plain Lean. -/
import Derived.Test.YtnnklpmgncbgnaaGreatCReach
set_option linter.unusedVariables false
set_option linter.unusedSimpArgs false
namespace Go.Proofs.YtnnklpmgncbgnaaGreat
open Go

/-! ### A list turned round -/
def RevInv {α : Type} [Inhabited α] (l cur : List α) (i : Nat) : Prop := cur.length = l.length ∧ ∀ k, k < l.length → cur.getD k default = if k < i ∨ l.length - 1 - k < i then l.getD (l.length - 1 - k) default else l.getD k default
theorem rev_zero {α : Type} [Inhabited α] (l : List α) : RevInv l l 0 := ⟨rfl, fun k hk => by rw [if_neg (by omega)]⟩
theorem getD_setl {α : Type} [Inhabited α] (l : List α) (i k : Nat) (x : α) (hi : i < l.length) : (l.set i x).getD k default = if i = k then x else l.getD k default := by
  rw [List.getD_eq_getElem?_getD, List.getElem?_set]
  by_cases h : i = k
  · subst h; rw [if_pos rfl, if_pos hi, if_pos rfl]; rfl
  · rw [if_neg h, if_neg h, List.getD_eq_getElem?_getD]
def revNext {α : Type} [Inhabited α] (l cur : List α) (i : Nat) : List α :=
  (cur.set (0 + (i : Int).toNat) (cur.getD (0 + ((l.length : Int) - 1 - (i : Int)).toNat) default)).set (0 + ((l.length : Int) - 1 - (i : Int)).toNat) (cur.getD (0 + (i : Int).toNat) default)
theorem rev_next {α : Type} [Inhabited α] {l cur : List α} {i : Nat} (h : RevInv l cur i) (hi : (i : Int) < (l.length : Int) - 1 - (i : Int)) : RevInv l (revNext l cur i) (i + 1) := by
  obtain ⟨h1, h2⟩ := h
  have e0 : 0 + (i : Int).toNat = i := by omega
  have e1 : 0 + ((l.length : Int) - 1 - (i : Int)).toNat = l.length - 1 - i := by omega
  unfold revNext
  rw [e0, e1]
  refine ⟨by simp [h1], fun k hk => ?_⟩
  rw [getD_setl _ _ _ _ (by rw [List.length_set]; omega), getD_setl _ _ _ _ (by omega)]
  have hA := h2 i (by omega)
  have hB := h2 (l.length - 1 - i) (by omega)
  rw [if_neg (by omega)] at hA hB
  by_cases c1 : l.length - 1 - i = k
  · rw [if_pos c1, if_pos (by omega), hA]; congr 1; omega
  · rw [if_neg c1]
    by_cases c2 : i = k
    · rw [if_pos c2, if_pos (by omega), hB]; congr 1; omega
    · rw [if_neg c2, h2 k hk]
      by_cases c3 : k < i ∨ l.length - 1 - k < i
      · rw [if_pos c3, if_pos (by omega)]
      · rw [if_neg c3, if_neg (by omega)]
theorem rev_end {α : Type} [Inhabited α] {l cur : List α} {i : Nat} (h : RevInv l cur i) (hi : ¬ (i : Int) < (l.length : Int) - 1 - (i : Int)) : cur = l.reverse := by
  obtain ⟨h1, h2⟩ := h
  apply List.ext_getElem (by simp [h1])
  intro k k1 k2
  have hk : k < l.length := by omega
  have := h2 k hk
  have e : cur.getD k default = cur[k] := by rw [List.getD_eq_getElem?_getD, List.getElem?_eq_getElem k1]; rfl
  have e2 : ∀ j (hj : j < l.length), l.getD j default = l[j] := fun j hj => by rw [List.getD_eq_getElem?_getD, List.getElem?_eq_getElem hj]; rfl
  rw [e] at this
  rw [this, List.getElem_reverse]
  by_cases c : k < i ∨ l.length - 1 - k < i
  · rw [if_pos c, e2 _ (by omega)]
  · rw [if_neg c, e2 _ hk]
    congr 1
    omega
/-! ### Ways back -/
/-- Each entry but the first was come to from an earlier one. -/
structure TInv (st : Met × List Nat) : Prop where
  q : ∀ x ∈ st.2, x ∈ st.1.map (·.1)
  tree : ∀ p, p < st.1.length → (st.1.getD p default).2.1 < 0 ∨ (0 ≤ (st.1.getD p default).2.1 ∧ ∃ r, r < p ∧ (st.1.getD r default).1 = (st.1.getD p default).2.1.toNat)
  ins : ∀ e ∈ st.1, 0 ≤ e.2.2 ∧ e.2.2 ≤ 1024 ∧ e.2.1 ≤ 4096
theorem getD_left {α : Type} [Inhabited α] {a b : List α} {p : Nat} (h : p < a.length) : (a ++ b).getD p default = a.getD p default := by
  rw [List.getD_eq_getElem?_getD, List.getElem?_append_left h, ← List.getD_eq_getElem?_getD]
theorem getD_last {α : Type} [Inhabited α] {a : List α} {x : α} : (a ++ [x]).getD a.length default = x := by
  rw [List.getD_eq_getElem?_getD, List.getElem?_append_right (Nat.le_refl _), Nat.sub_self]; rfl
theorem TInv.visit {n : Net} {st : Met × List Nat} {s i : Nat} (h : TInv st) (hs : s ∈ st.1.map (·.1)) (hi : i ≤ 1024) (h4 : s ≤ 4096) : TInv (n.visit s st i) := by
  cases hf : (kFind (n.nextNum s i) st.1).isSome with
  | true => rw [visit_old hf]; exact h
  | false =>
    rw [visit_new hf]
    refine ⟨fun x hx => ?_, fun p hp => ?_, fun e he => ?_⟩
    · rw [List.map_append, List.mem_append]
      rcases List.mem_append.1 hx with h1 | h1
      · exact .inl (h.q x h1)
      · simp at h1; subst h1; right; simp
    · rw [List.length_append, List.length_singleton] at hp
      by_cases hp2 : p < st.1.length
      · rw [getD_left hp2]
        rcases h.tree p hp2 with h1 | ⟨h0, r, h1, h2⟩
        · exact .inl h1
        · exact .inr ⟨h0, r, h1, by rw [getD_left (by omega)]; exact h2⟩
      · obtain rfl : p = st.1.length := by omega
        rw [getD_last]
        right
        obtain ⟨e, he, rfl⟩ := List.mem_map.1 hs
        obtain ⟨r, hr, rfl⟩ := List.getElem_of_mem he
        refine ⟨by simp, r, hr, ?_⟩
        rw [getD_left hr, List.getD_eq_getElem?_getD, List.getElem?_eq_getElem hr]
        simp
    · rcases List.mem_append.1 he with h1 | h1
      · exact h.ins e h1
      · simp at h1; subst h1; simp; omega
theorem TInv.visitTo {n : Net} {st : Met × List Nat} {s : Nat} (h : TInv st) (hs : s ∈ st.1.map (·.1)) (h4 : s ≤ 4096) : ∀ i, i ≤ 1024 → TInv (n.visitTo s st i) ∧ s ∈ (n.visitTo s st i).1.map (·.1)
  | 0, _ => ⟨h, hs⟩
  | i + 1, hi => by
    obtain ⟨h1, h2⟩ := TInv.visitTo h hs h4 i (by omega)
    refine ⟨h1.visit h2 (by omega) h4, ?_⟩
    rw [Net.visitTo]
    cases hf : (kFind (n.nextNum s i) (n.visitTo s st i).1).isSome with
    | true => rw [visit_old hf]; exact h2
    | false => rw [visit_new hf, List.map_append, List.mem_append]; exact .inl h2
theorem Net.bfs_tree {n : Net} (h : n.Ready) : ∀ k, TInv (n.bfsN k)
  | 0 => ⟨by simp [Net.bfsN], by intro p hp; simp [Net.bfsN] at hp; subst hp; left; show (-1 : Int) < 0; decide, by simp [Net.bfsN]⟩
  | k + 1 => by
    have ih := Net.bfs_tree h k
    have hb := Net.bfs_inv h.begin.2 k
    by_cases hq : (n.bfsN k).2 = []
    · rw [Net.bfsN, Net.bstep, if_pos hq]; exact ih
    · have hm : headQ (n.bfsN k) ∈ (n.bfsN k).2 := getD_mem (List.length_pos_iff.2 hq)
      have h4 := hb.q _ hm
      have h5 := Net.states_le h.r
      obtain ⟨h1, _⟩ := ih.visitTo (n := n) (ih.q _ hm) (by omega) n.many2 (Net.many2_le h.i)
      rw [Net.bfsN_succ hq]
      exact ⟨fun x hx => h1.q x (List.mem_of_mem_drop hx), h1.tree, h1.ins⟩
theorem Net.tree {n : Net} (h : n.Ready) : TInv (n.bfsN (2 * n.states)) := Net.bfs_tree h _
theorem kFind_at {β : Type} [Inhabited β] : ∀ (m : List (Nat × β)) (r : Nat), r < m.length → (m.map (·.1)).Nodup → kFind (m.getD r default).1 m = some (m.getD r default).2
  | [], r, h, _ => by simp at h
  | e :: m, 0, _, _ => by show kFind e.1 (e :: m) = some e.2; rw [kFind, if_pos rfl]
  | e :: m, r + 1, h, hn => by
    rw [List.map_cons, List.nodup_cons] at hn
    have hr : r < m.length := by simpa using h
    show kFind (m.getD r default).1 (e :: m) = some (m.getD r default).2
    have hne : ¬ (m.getD r default).1 = e.1 := fun he => hn.1 (by rw [← he]; exact List.mem_map_of_mem (getD_mem hr))
    rw [kFind, if_neg hne]
    exact kFind_at m r hr hn.2
/-- Where an entry stands. -/
def posOf (m : Met) (x : Nat) : Nat := m.findIdx fun e => e.1 == x
theorem posOf_eq {m : Met} {r : Nat} (hr : r < m.length) (hn : (m.map (·.1)).Nodup) : posOf m (m.getD r default).1 = r := by
  have e : m.getD r default = m[r] := by rw [List.getD_eq_getElem?_getD, List.getElem?_eq_getElem hr]; rfl
  rw [posOf, List.findIdx_eq hr]
  refine ⟨by rw [e]; simp, fun j hj => ?_⟩
  rw [e, beq_eq_false_iff_ne]
  intro he
  have h1 : j < (m.map (·.1)).length := by simp; omega
  have h2 : r < (m.map (·.1)).length := by simpa using hr
  have := (List.getElem_inj (h₀ := h1) (h₁ := h2) hn).1 (by simpa using he)
  omega
def Net.wayF (n : Net) : Nat → Nat → List (List Int)
  | 0, _ => []
  | f + 1, p => if (n.bfs.getD p default).2.1 < 0 then [] else bitsI (n.bfs.getD p default).2.2 n.ins.length :: n.wayF f (posOf n.bfs (n.bfs.getD p default).2.1.toNat)
/-- The inputs on the way back from an entry to the first one. -/
def Net.wayP (n : Net) (p : Nat) : List (List Int) := n.wayF (p + 1) p
theorem Net.tree_at {n : Net} (h : n.Ready) {p : Nat} (hp : p < n.bfs.length) (h0 : ¬ (n.bfs.getD p default).2.1 < 0) :
    posOf n.bfs (n.bfs.getD p default).2.1.toNat < p ∧ kFind (n.bfs.getD p default).2.1.toNat n.bfs = some (n.bfs.getD (posOf n.bfs (n.bfs.getD p default).2.1.toNat) default).2 := by
  have hb := (Net.bfs_inv h.begin.2 (2 * n.states)).nodup
  rcases (Net.tree h).tree p hp with h1 | ⟨_, r, h1, h2⟩
  · exact absurd h1 h0
  · have e : posOf n.bfs (n.bfs.getD p default).2.1.toNat = r := by
      have := posOf_eq (m := n.bfs) (r := r) (Nat.lt_trans h1 hp) hb
      rw [← this]
      congr 1
      exact h2.symm
    refine ⟨by rw [e]; exact h1, ?_⟩
    rw [e]
    have h3 := kFind_at n.bfs r (Nat.lt_trans h1 hp) hb
    have h2' : (n.bfs.getD r default).1 = (n.bfs.getD p default).2.1.toNat := h2
    rw [h2'] at h3
    exact h3
theorem Net.wayF_more {n : Net} (h : n.Ready) : ∀ (f p : Nat), p < n.bfs.length → p < f → n.wayF f p = n.wayP p
  | f, p, hp, hf => by
    induction p using Nat.strongRecOn generalizing f with
    | _ p ih =>
      cases f with
      | zero => omega
      | succ f =>
        rw [Net.wayP, Net.wayF, Net.wayF]
        by_cases h0 : (n.bfs.getD p default).2.1 < 0
        · rw [if_pos h0, if_pos h0]
        · rw [if_neg h0, if_neg h0]
          obtain ⟨h1, _⟩ := Net.tree_at h hp h0
          rw [ih _ h1 f (by omega) (by omega), ih _ h1 p (by omega) h1]
theorem Net.wayP_step {n : Net} (h : n.Ready) {p : Nat} (hp : p < n.bfs.length) (h0 : ¬ (n.bfs.getD p default).2.1 < 0) :
    n.wayP p = bitsI (n.bfs.getD p default).2.2 n.ins.length :: n.wayP (posOf n.bfs (n.bfs.getD p default).2.1.toNat) := by
  obtain ⟨h1, _⟩ := Net.tree_at h hp h0
  rw [Net.wayP, Net.wayF, if_neg h0, Net.wayF_more h p _ (by omega) h1]
theorem Net.wayP_end {n : Net} {p : Nat} (h0 : (n.bfs.getD p default).2.1 < 0) : n.wayP p = [] := by
  rw [Net.wayP, Net.wayF, if_pos h0]
def Net.way (n : Net) (x : Int) : List (List Int) × Int :=
  if n.fitE = 0 then
    if x < 0 ∨ (n.states : Int) ≤ x then ([], 2)
    else if (kFind x.toNat n.bfs).isSome then ((n.wayP (posOf n.bfs x.toNat)).reverse, 0) else ([], 4)
  else ([], n.fitE)
theorem kFind_pos {m : Met} {x : Nat} {b : Int × Int} (hn : (m.map (·.1)).Nodup) (h : kFind x m = some b) : posOf m x < m.length ∧ (m.getD (posOf m x) default).2 = b := by
  have hm := kFind_some h
  obtain ⟨r, hr, he⟩ := List.getElem_of_mem hm
  have e : m.getD r default = (x, b) := by rw [List.getD_eq_getElem?_getD, List.getElem?_eq_getElem hr, he]; rfl
  have := posOf_eq hr hn
  rw [e] at this
  rw [this, e]
  exact ⟨hr, rfl⟩
section
variable {P : Program} {σ : Store} {E : Operand → Option AVal} {d : Option Tmp} {ty : TypeId} {pos : String} {after : Array Edge} {guard : Option (Nat × Bool)}
theorem op_lookup_st1 {m : Met} {x y : Operand} {t kt et id ver : Nat} {ka : AVal} {inf : TypeInfo} (k : Nat) (ht : P.underlying t = some (.map kt et)) (hkt : P.underlying kt = some (.int .i64)) (hi : P.info? et = some inf) (hz : inf.zero = some (.agg #[.int .i64 0, .int .i64 0]))
    (hx : E x = some (.map id ver)) (hid : σ.get id = some (ver, .map (kEnts stG m))) (hy : E y = some ka) (hk : concOf ka = some (kKey k)) :
    OpTo P ⟨d, .lookup t x y false, ty, pos, after, guard⟩ E σ (stG ((kFind k m).getD (0, 0))) σ := by
  have e : ((kFind k m).map stG).getD (.agg [.v (.int .i64 0), .v (.int .i64 0)]) = stG ((kFind k m).getD (0, 0)) := by cases kFind k m <;> rfl
  refine op_lookup (P := P) (E := E) (σ := σ) (d := d) (ty := ty) (pos := pos) (after := after) (guard := guard) (x := x) (y := y) ht (keyLaw_int hkt) hi hz rfl hx hid hy hk ⟨_, rfl⟩ k_keys (by rw [mapFind_k]; exact e) ?_
  rfl
end
theorem key_nat {x : Int} (h : 0 ≤ x) : concOf (.v (.int .i64 x)) = some (kKey x.toNat) := by
  show some (Value.int .i64 x) = some (Value.int .i64 (x.toNat : Int))
  rw [Int.toNat_of_nonneg h]
end Go.Proofs.YtnnklpmgncbgnaaGreat
