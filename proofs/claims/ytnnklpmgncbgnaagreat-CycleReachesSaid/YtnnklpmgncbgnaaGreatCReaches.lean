import Derived.Test.YtnnklpmgncbgnaaGreatCClosed
import Derived.Test.YtnnklpmgncbgnaaGreatCMany
import Derived.Test.YtnnklpmgncbgnaaGreatCLawR

/- Least ways, in plain Lean: shortest first, then by the inputs. -/

set_option linter.all false
namespace Go.Proofs.YtnnklpmgncbgnaaGreat
open Go

/-- Ahead in order, of the same length. -/
def llt : List Nat → List Nat → Prop
  | x :: a, y :: b => x < y ∨ (x = y ∧ llt a b)
  | _, _ => False
def slt (a b : List Nat) : Prop := a.length < b.length ∨ (a.length = b.length ∧ llt a b)
def sle (a b : List Nat) : Prop := a = b ∨ slt a b
theorem llt_trans : ∀ {a b c : List Nat}, llt a b → llt b c → llt a c
  | x :: a, y :: b, z :: c, h1, h2 => by
    rcases h1 with h1 | ⟨h1, h1'⟩ <;> rcases h2 with h2 | ⟨h2, h2'⟩
    · exact .inl (by omega)
    · exact .inl (by omega)
    · exact .inl (by omega)
    · exact .inr ⟨by omega, llt_trans h1' h2'⟩
  | [], _, _, h, _ => h.elim
  | _ :: _, [], _, h, _ => h.elim
  | _ :: _, _ :: _, [], _, h => h.elim
theorem llt_irrefl : ∀ {a : List Nat}, ¬ llt a a
  | [], h => h
  | x :: a, h => by
    rcases h with h | ⟨_, h⟩
    · omega
    · exact llt_irrefl h
theorem llt_app : ∀ {a b : List Nat} (i j : Nat), llt a b → llt (a ++ [i]) (b ++ [j])
  | x :: a, y :: b, i, j, h => by
    rcases h with h | ⟨h1, h⟩
    · exact .inl h
    · exact .inr ⟨h1, llt_app i j h⟩
  | [], _, _, _, h => h.elim
  | _ :: _, [], _, _, h => h.elim
theorem llt_last : ∀ (a : List Nat) {i j : Nat}, i < j → llt (a ++ [i]) (a ++ [j])
  | [], _, _, h => .inl h
  | x :: a, _, _, h => .inr ⟨rfl, llt_last a h⟩
theorem slt_trans {a b c : List Nat} (h1 : slt a b) (h2 : slt b c) : slt a c := by
  rcases h1 with h1 | ⟨h1, h1'⟩ <;> rcases h2 with h2 | ⟨h2, h2'⟩
  · exact .inl (by omega)
  · exact .inl (by omega)
  · exact .inl (by omega)
  · exact .inr ⟨by omega, llt_trans h1' h2'⟩
theorem slt_irrefl {a : List Nat} (h : slt a a) : False := by
  rcases h with h | ⟨_, h⟩
  · omega
  · exact llt_irrefl h
theorem slt_app {a b : List Nat} (i j : Nat) (h : slt a b) : slt (a ++ [i]) (b ++ [j]) := by
  rcases h with h | ⟨h1, h⟩
  · exact .inl (by simp only [List.length_append, List.length_singleton]; omega)
  · exact .inr ⟨by simp only [List.length_append, List.length_singleton]; omega, llt_app i j h⟩
theorem slt_last (a : List Nat) {i j : Nat} (h : i < j) : slt (a ++ [i]) (a ++ [j]) := .inr ⟨by simp, llt_last a h⟩
theorem slt_nil (a : List Nat) (i : Nat) : slt [] (a ++ [i]) := .inl (by simp)
theorem sle_trans {a b c : List Nat} (h1 : sle a b) (h2 : sle b c) : sle a c := by
  rcases h1 with rfl | h1
  · exact h2
  · rcases h2 with rfl | h2
    · exact .inr h1
    · exact .inr (slt_trans h1 h2)
theorem sle_app {a b : List Nat} (i : Nat) (h : sle a b) : sle (a ++ [i]) (b ++ [i]) := by
  rcases h with rfl | h
  · exact .inl rfl
  · exact .inr (slt_app i i h)
theorem sle_len {a b : List Nat} (h : sle a b) : a.length ≤ b.length := by
  rcases h with rfl | h | ⟨h, _⟩ <;> omega
/-! ### Ways -/
def Net.goto (n : Net) (s : Nat) (w : List Nat) : Nat := w.foldl (fun s i => n.nextNum (s : Int) i) s
theorem Net.goto_snoc (n : Net) (s : Nat) (w : List Nat) (i : Nat) : n.goto s (w ++ [i]) = n.nextNum (n.goto s w : Int) i := by simp [Net.goto, List.foldl_append]
theorem Net.goto_cons (n : Net) (s : Nat) (w : List Nat) (i : Nat) : n.goto s (i :: w) = n.goto (n.nextNum (s : Int) i) w := rfl
def InB (n : Net) (w : List Nat) : Prop := ∀ i ∈ w, i < n.many2
/-- The search: what has been found, by which ways; h states are done, of the next one i inputs. -/
structure OInv (n : Net) (m : Met) (W : List (List Nat)) (h i : Nat) : Prop where
  len : W.length = m.length
  zero : W.getD 0 default = [] ∧ m.getD 0 default = (num n.firsts, (-1 : Int), (0 : Int)) ∧ 0 < m.length
  st : ∀ p, p < m.length → n.goto (num n.firsts) (W.getD p default) = (m.getD p default).1 ∧ InB n (W.getD p default)
  up : ∀ p q, p < q → q < m.length → slt (W.getD p default) (W.getD q default)
  src : ∀ p, 0 < p → p < m.length → ∃ r j, r < p ∧ j < n.many2 ∧ (r < h ∨ (r = h ∧ j < i)) ∧ W.getD p default = W.getD r default ++ [j] ∧ (m.getD p default).2 = (((m.getD r default).1 : Int), (j : Int))
  done : ∀ r j, j < n.many2 → (r < h ∨ (r = h ∧ j < i)) → r < m.length → ∃ p, p < m.length ∧ (m.getD p default).1 = n.nextNum ((m.getD r default).1 : Int) j ∧ sle (W.getD p default) (W.getD r default ++ [j])
theorem snoc_left {α : Type} [Inhabited α] {a : List α} {x : α} {p : Nat} (h : p < a.length) : (a ++ [x]).getD p default = a.getD p default := getD_left h
theorem snoc_last {α : Type} [Inhabited α] {a : List α} {x : α} {p : Nat} (h : p = a.length) : (a ++ [x]).getD p default = x := by rw [h]; exact getD_last
theorem OInv.old {n : Net} {m : Met} {W : List (List Nat)} {h i : Nat} (o : OInv n m W h i) (hh : h < m.length) (hi : i < n.many2) (hf : (kFind (n.nextNum ((m.getD h default).1 : Int) i) m).isSome = true) : OInv n m W h (i + 1) := by
  refine ⟨o.len, o.zero, o.st, o.up, fun p h0 hp => ?_, fun r j hj hr hrl => ?_⟩
  · obtain ⟨r, j, a, b, c, d⟩ := o.src p h0 hp
    exact ⟨r, j, a, b, by omega, d⟩
  · by_cases hc : r < h ∨ (r = h ∧ j < i)
    · exact o.done r j hj hc hrl
    · obtain ⟨rfl, rfl⟩ : r = h ∧ j = i := by omega
      obtain ⟨b, hb⟩ := Option.isSome_iff_exists.1 hf
      obtain ⟨p, hp, e⟩ := List.getElem_of_mem (kFind_some hb)
      have e2 : m.getD p default = (n.nextNum ((m.getD r default).1 : Int) j, b) := by rw [List.getD_eq_getElem?_getD, List.getElem?_eq_getElem hp, e]; rfl
      refine ⟨p, hp, by rw [e2], .inr ?_⟩
      rcases Nat.eq_zero_or_pos p with rfl | hpos
      · rw [o.zero.1]; exact slt_nil _ _
      · obtain ⟨r', j', a1, a2, a3, a4, _⟩ := o.src p hpos hp
        rw [a4]
        rcases a3 with a3 | ⟨rfl, a3⟩
        · exact slt_app _ _ (o.up r' r a3 hh)
        · exact slt_last _ a3
theorem OInv.new {n : Net} {m : Met} {W : List (List Nat)} {h i : Nat} (o : OInv n m W h i) (hh : h < m.length) (hi : i < n.many2) :
    OInv n (m ++ [(n.nextNum ((m.getD h default).1 : Int) i, (((m.getD h default).1 : Int), (i : Int)))]) (W ++ [W.getD h default ++ [i]]) h (i + 1) := by
  have hW := o.len
  have hz := o.zero
  have gl : ∀ p, p < m.length → (m ++ [(n.nextNum ((m.getD h default).1 : Int) i, (((m.getD h default).1 : Int), (i : Int)))]).getD p default = m.getD p default := fun p hp => snoc_left hp
  have gw : ∀ p, p < m.length → (W ++ [W.getD h default ++ [i]]).getD p default = W.getD p default := fun p hp => snoc_left (by omega)
  have ll : (m ++ [(n.nextNum ((m.getD h default).1 : Int) i, (((m.getD h default).1 : Int), (i : Int)))]).getD m.length default = (n.nextNum ((m.getD h default).1 : Int) i, (((m.getD h default).1 : Int), (i : Int))) := snoc_last rfl
  have lw : (W ++ [W.getD h default ++ [i]]).getD m.length default = W.getD h default ++ [i] := snoc_last hW.symm
  have below : ∀ p, p < m.length → slt (W.getD p default) (W.getD h default ++ [i]) := by
    intro p hp
    rcases Nat.eq_zero_or_pos p with rfl | hpos
    · rw [hz.1]; exact slt_nil _ _
    · obtain ⟨r', j', a1, a2, a3, a4, _⟩ := o.src p hpos hp
      rw [a4]
      rcases a3 with a3 | ⟨rfl, a3⟩
      · exact slt_app _ _ (o.up r' h a3 hh)
      · exact slt_last _ a3
  refine ⟨by simp [hW], ⟨by rw [gw 0 hz.2.2]; exact hz.1, by rw [gl 0 hz.2.2]; exact hz.2.1, by simp⟩, fun p hp => ?_, fun p q hpq hq => ?_, fun p h0 hp => ?_, fun r j hj hr hrl => ?_⟩
  · rw [List.length_append, List.length_singleton] at hp
    by_cases c : p < m.length
    · rw [gl p c, gw p c]; exact o.st p c
    · obtain rfl : p = m.length := by omega
      rw [ll, lw, n.goto_snoc, (o.st h hh).1]
      refine ⟨rfl, fun x hx => ?_⟩
      rcases List.mem_append.1 hx with hx | hx
      · exact (o.st h hh).2 x hx
      · simp at hx; subst hx; exact hi
  · rw [List.length_append, List.length_singleton] at hq
    rw [gw p (by omega)]
    by_cases c : q < m.length
    · rw [gw q c]; exact o.up p q hpq c
    · obtain rfl : q = m.length := by omega
      rw [lw]; exact below p (by omega)
  · rw [List.length_append, List.length_singleton] at hp
    by_cases c : p < m.length
    · obtain ⟨r, j, a, b, d, e, f⟩ := o.src p h0 c
      exact ⟨r, j, a, b, by omega, by rw [gw p c, gw r (by omega)]; exact e, by rw [gl p c, gl r (by omega)]; exact f⟩
    · obtain rfl : p = m.length := by omega
      exact ⟨h, i, hh, hi, by omega, by rw [lw, gw h hh], by rw [ll, gl h hh]⟩
  · rw [List.length_append, List.length_singleton] at hrl ⊢
    by_cases c : r < m.length
    · by_cases hc : r < h ∨ (r = h ∧ j < i)
      · obtain ⟨p, a, b, d⟩ := o.done r j hj hc c
        exact ⟨p, by omega, by rw [gl p a, gl r c]; exact b, by rw [gw p a, gw r c]; exact d⟩
      · obtain ⟨rfl, rfl⟩ : r = h ∧ j = i := by omega
        exact ⟨m.length, by omega, by rw [ll, gl r c], by rw [lw, gw r c]; exact .inl rfl⟩
    · omega
/-- .. with the queue: the states that are not done yet. -/
def QInv (n : Net) (st : Met × List Nat) (h i : Nat) : Prop := (∃ W, OInv n st.1 W h i) ∧ st.2 = (st.1.map (·.1)).drop h
theorem QInv.visit {n : Net} {st : Met × List Nat} {h i : Nat} (o : QInv n st h i) (hh : h < st.1.length) (hi : i < n.many2) : QInv n (n.visit (st.1.getD h default).1 st i) h (i + 1) ∧ h < (n.visit (st.1.getD h default).1 st i).1.length ∧ (n.visit (st.1.getD h default).1 st i).1.getD h default = st.1.getD h default := by
  obtain ⟨⟨W, o1⟩, o2⟩ := o
  cases hf : (kFind (n.nextNum ((st.1.getD h default).1 : Int) i) st.1).isSome with
  | true => rw [visit_old hf]; exact ⟨⟨⟨W, o1.old hh hi hf⟩, o2⟩, hh, rfl⟩
  | false =>
    rw [visit_new hf]
    refine ⟨⟨⟨_, o1.new hh hi⟩, ?_⟩, by simp only [List.length_append]; omega, snoc_left hh⟩
    simp only [List.map_append, List.map_cons, List.map_nil]
    rw [List.drop_append_of_le_length (by rw [List.length_map]; omega), o2]
theorem QInv.visitTo {n : Net} {st : Met × List Nat} {h : Nat} (o : QInv n st h 0) (hh : h < st.1.length) : ∀ i, i ≤ n.many2 → QInv n (n.visitTo (st.1.getD h default).1 st i) h i ∧ h < (n.visitTo (st.1.getD h default).1 st i).1.length ∧ (n.visitTo (st.1.getD h default).1 st i).1.getD h default = st.1.getD h default
  | 0, _ => ⟨o, hh, rfl⟩
  | i + 1, hi => by
    obtain ⟨a, b, c⟩ := QInv.visitTo o hh i (by omega)
    have := a.visit b (by omega : i < n.many2)
    rw [c] at this
    exact this
theorem QInv.step {n : Net} {st : Met × List Nat} {h : Nat} (o : QInv n st h 0) (hq : st.2 ≠ []) : QInv n (n.bstep st) (h + 1) 0 := by
  have hh : h < st.1.length := by
    rw [o.2] at hq
    rcases Nat.lt_or_ge h st.1.length with c | c
    · exact c
    · exact absurd (List.drop_eq_nil_iff.2 (by rw [List.length_map]; exact c)) hq
  have hd : headQ st = (st.1.getD h default).1 := by
    rw [headQ, o.2]
    simp only [List.getD_eq_getElem?_getD, List.getElem?_drop, List.getElem?_map, Nat.add_zero, List.getElem?_eq_getElem hh, Option.map_some, Option.getD_some]
  obtain ⟨⟨⟨W, a⟩, b⟩, c, _⟩ := o.visitTo hh n.many2 (Nat.le_refl _)
  rw [Net.bstep, if_neg hq, hd]
  refine ⟨⟨W, a.len, a.zero, a.st, a.up, fun p h0 hp => ?_, fun r j hj hr hrl => ?_⟩, ?_⟩
  · obtain ⟨r, j, x1, x2, x3, x4⟩ := a.src p h0 hp
    exact ⟨r, j, x1, x2, by omega, x4⟩
  · exact a.done r j hj (by omega) hrl
  · simp only
    rw [b, List.drop_drop]
theorem Net.bfs_qinv {n : Net} : ∀ k, ∃ h, QInv n (n.bfsN k) h 0
  | 0 => ⟨0, ⟨[[]], by
      refine ⟨rfl, ⟨rfl, rfl, by simp [Net.bfsN]⟩, fun p hp => ?_, fun p q hpq hq => ?_, fun p h0 hp => ?_, fun r j hj hr hrl => ?_⟩
      · simp [Net.bfsN] at hp; subst hp
        exact ⟨rfl, fun x hx => by cases hx⟩
      · simp [Net.bfsN] at hq; omega
      · simp [Net.bfsN] at hp; omega
      · omega⟩, rfl⟩
  | k + 1 => by
    obtain ⟨h, o⟩ := Net.bfs_qinv (n := n) k
    by_cases hq : (n.bfsN k).2 = []
    · exact ⟨h, by rw [Net.bfsN, Net.bstep, if_pos hq]; exact o⟩
    · exact ⟨h + 1, o.step hq⟩
/-- All is done at the end. -/
theorem Net.bfs_ways {n : Net} (hr : num n.firsts < n.states) : ∃ W, OInv n n.bfs W n.bfs.length 0 := by
  obtain ⟨h, ⟨W, o⟩, hq⟩ := Net.bfs_qinv (n := n) (2 * n.states)
  rw [Net.bfs_done hr] at hq
  have hl : n.bfs.length ≤ h := by
    have := congrArg List.length hq
    rw [List.length_drop, List.length_map, List.length_nil] at this
    show (n.bfsN (2 * n.states)).1.length ≤ h
    omega
  refine ⟨W, o.len, o.zero, o.st, o.up, fun p h0 hp => ?_, fun r j hj hr2 hrl => ?_⟩
  · obtain ⟨r, j, a, b, c, d⟩ := o.src p h0 hp
    exact ⟨r, j, a, b, by have : p < n.bfs.length := hp; omega, d⟩
  · have hr3 : r < n.bfs.length := hrl
    exact o.done r j hj (by omega) hrl
theorem OInv.least {n : Net} {W : List (List Nat)} (o : OInv n n.bfs W n.bfs.length 0) (w : List Nat) (hw : InB n w) : ∃ p, p < n.bfs.length ∧ (n.bfs.getD p default).1 = n.goto (num n.firsts) w ∧ sle (W.getD p default) w := by
  have key : ∀ v : List Nat, InB n v.reverse → ∃ p, p < n.bfs.length ∧ (n.bfs.getD p default).1 = n.goto (num n.firsts) v.reverse ∧ sle (W.getD p default) v.reverse := by
    intro v
    induction v with
    | nil => intro _; exact ⟨0, o.zero.2.2, by rw [o.zero.2.1]; rfl, .inl o.zero.1⟩
    | cons i v ih =>
      intro hv
      rw [List.reverse_cons] at hv ⊢
      obtain ⟨p, a, b, c⟩ := ih (fun x hx => hv x (List.mem_append.2 (.inl hx)))
      obtain ⟨q, d, e, f⟩ := o.done p i (hv i (by simp)) (.inl a) a
      exact ⟨q, d, by rw [e, b, n.goto_snoc], sle_trans f (sle_app i c)⟩
  have := key w.reverse (by rw [List.reverse_reverse]; exact hw)
  rwa [List.reverse_reverse] at this
/-- The way that is found to a state: no way to it is ahead of it. -/
theorem Net.least_way {n : Net} (h : n.Ready) {x : Nat} (hx : x ∈ n.bfs.map (·.1)) : ∃ w, InB n w ∧ n.goto (num n.firsts) w = x ∧ n.wayTo x = w.map (fun i : Nat => bitsI (i : Int) n.ins.length) ∧ ∀ v, InB n v → n.goto (num n.firsts) v = x → sle w v := by
  obtain ⟨W, o⟩ := Net.bfs_ways h.begin.2
  have hn := (Net.bfs_inv h.begin.2 (2 * n.states)).nodup
  have hn' : (n.bfs.map (·.1)).Nodup := hn
  have back : ∀ p, p < n.bfs.length → n.wayP p = (W.getD p default).reverse.map (fun i : Nat => bitsI (i : Int) n.ins.length) := by
    intro p
    induction p using Nat.strongRecOn with
    | ind p ih =>
      intro hp
      rcases Nat.eq_zero_or_pos p with rfl | hpos
      · rw [Net.wayP_end (by rw [o.zero.2.1]; show (-1 : Int) < 0; decide), o.zero.1]; rfl
      · obtain ⟨r, j, a1, a2, a3, a4, a5⟩ := o.src p hpos hp
        have h0 : ¬ (n.bfs.getD p default).2.1 < 0 := by rw [a5]; simp only; omega
        rw [Net.wayP_step h hp h0, a4, a5]
        simp only [Int.toNat_natCast, List.reverse_append, List.reverse_cons, List.reverse_nil, List.nil_append, List.singleton_append, List.map_cons]
        rw [posOf_eq (by omega) hn', ih r a1 (by omega)]
  obtain ⟨p, hp, e⟩ : ∃ p, p < n.bfs.length ∧ (n.bfs.getD p default).1 = x := by
    obtain ⟨y, hy, rfl⟩ := List.mem_map.1 hx
    obtain ⟨p, hp, rfl⟩ := List.getElem_of_mem hy
    exact ⟨p, hp, by rw [List.getD_eq_getElem?_getD, List.getElem?_eq_getElem hp]; rfl⟩
  have e2 : posOf n.bfs x = p := by rw [← e]; exact posOf_eq hp hn'
  refine ⟨W.getD p default, (o.st p hp).2, by rw [(o.st p hp).1, e], ?_, fun v hv hg => ?_⟩
  · rw [Net.wayTo, e2, back p hp, ← List.map_reverse, List.reverse_reverse]
  · obtain ⟨q, a, b, c⟩ := o.least v hv
    rw [hg, ← e] at b
    have : q = p := by
      have h1 := posOf_eq a hn'
      have h2 := posOf_eq hp hn'
      rw [b] at h1
      omega
    rw [this] at c; exact c
/-! ### How far a state is -/
def Net.dst (n : Net) (x : Nat) : Int := if (kFind x n.bfs).isSome then ((n.wayTo x).length : Int) else -1
theorem Net.dst_no {n : Net} {x : Nat} (h : ¬ x ∈ n.bfs.map (·.1)) : n.dst x = -1 := by
  rw [Net.dst, if_neg (by rw [kFind_mem]; exact h)]
theorem Net.dst_yes {n : Net} {x : Nat} (h : x ∈ n.bfs.map (·.1)) : n.dst x = ((n.wayTo x).length : Int) := by
  rw [Net.dst, if_pos (kFind_mem.2 h)]
theorem Net.dst_range {n : Net} (h : n.Ready) (x : Nat) : -1 ≤ n.dst x ∧ n.dst x < n.states ∧ (n.dst x = -1 ∨ 0 ≤ n.dst x) := by
  by_cases hx : x ∈ n.bfs.map (·.1)
  · have := (Net.way_to h hx).2.1
    rw [Net.dst_yes hx]; omega
  · rw [Net.dst_no hx]
    have := (Net.bfs_pos h)
    omega
theorem Net.dst_mem {n : Net} {x : Nat} (h : 0 ≤ n.dst x) : x ∈ n.bfs.map (·.1) := by
  by_cases hx : x ∈ n.bfs.map (·.1)
  · exact hx
  · rw [Net.dst_no hx] at h; omega
theorem Net.dst_le {n : Net} (h : n.Ready) {w : List Nat} (hw : InB n w) : 0 ≤ n.dst (n.goto (num n.firsts) w) ∧ n.dst (n.goto (num n.firsts) w) ≤ w.length := by
  have hx : n.goto (num n.firsts) w ∈ n.bfs.map (·.1) := by
    obtain ⟨W, o⟩ := Net.bfs_ways h.begin.2
    obtain ⟨p, a, b, _⟩ := o.least w hw
    rw [← b]; exact List.mem_map_of_mem (getD_mem a)
  obtain ⟨v, a, b, c, d⟩ := Net.least_way h hx
  have := sle_len (d w hw rfl)
  rw [Net.dst_yes hx, c, List.length_map]; omega
theorem Net.dst_path {n : Net} (h : n.Ready) {x : Nat} (hx : 0 ≤ n.dst x) : ∃ w, InB n w ∧ n.goto (num n.firsts) w = x ∧ (w.length : Int) = n.dst x ∧ n.wayTo x = w.map (fun i : Nat => bitsI (i : Int) n.ins.length) ∧ ∀ v, InB n v → n.goto (num n.firsts) v = x → sle w v := by
  have hm := Net.dst_mem hx
  obtain ⟨w, a, b, c, d⟩ := Net.least_way h hm
  exact ⟨w, a, b, by rw [Net.dst_yes hm, c, List.length_map], c, d⟩
theorem Net.dst_first {n : Net} (h : n.Ready) : n.dst (num n.firsts) = 0 := by
  have := Net.dst_le h (w := []) (fun x hx => by cases hx)
  have e : n.goto (num n.firsts) [] = num n.firsts := rfl
  rw [e, List.length_nil] at this; omega
theorem Net.dst_zero {n : Net} (h : n.Ready) {x : Nat} (hx : n.dst x = 0) : x = num n.firsts := by
  obtain ⟨w, a, b, c, _⟩ := Net.dst_path h (x := x) (by omega)
  have : w = [] := List.eq_nil_of_length_eq_zero (by omega)
  subst this; exact b.symm
theorem Net.dst_next {n : Net} (h : n.Ready) {x j : Nat} (hj : j < n.many2) (hx : 0 ≤ n.dst x) : 0 ≤ n.dst (n.nextNum (x : Int) j) ∧ n.dst (n.nextNum (x : Int) j) ≤ n.dst x + 1 := by
  obtain ⟨w, a, b, c, _⟩ := Net.dst_path h hx
  have := Net.dst_le h (w := w ++ [j]) (fun y hy => by
    rcases List.mem_append.1 hy with hy | hy
    · exact a y hy
    · simp at hy; subst hy; exact hj)
  rw [n.goto_snoc, b, List.length_append, List.length_singleton] at this
  omega
theorem Net.dst_prev {n : Net} (h : n.Ready) {x : Nat} {k : Nat} (hx : n.dst x = (k : Int) + 1) : ∃ y j, j < n.many2 ∧ n.dst y = (k : Int) ∧ n.nextNum (y : Int) j = x ∧ y < n.states := by
  obtain ⟨w, a, b, c, _⟩ := Net.dst_path h (x := x) (by omega)
  rcases List.eq_nil_or_concat w with rfl | ⟨u, j, rfl⟩
  · simp at c; omega
  · rw [List.concat_eq_append] at a b c
    rw [n.goto_snoc] at b
    have hu := Net.dst_le h (w := u) (fun y hy => a y (List.mem_append.2 (.inl hy)))
    have hj : j < n.many2 := a j (by simp)
    have hn := Net.dst_next h hj hu.1
    rw [b, hx] at hn
    rw [List.length_append, List.length_singleton] at c
    refine ⟨_, j, hj, by omega, b, ?_⟩
    have hm := Net.dst_mem hu.1
    exact (Net.bfs_inv h.begin.2 (2 * n.states)).lt _ hm
theorem Net.dst_down {n : Net} (h : n.Ready) {c : Int} (hc : 0 ≤ c) (hno : ∀ x, n.dst x ≠ c + 1) : ∀ x, n.dst x ≤ c := by
  have key : ∀ k : Nat, ∀ x, n.dst x ≠ c + 1 + k := by
    intro k
    induction k with
    | zero => intro x; have := hno x; omega
    | succ k ih =>
      intro x hx
      obtain ⟨y, j, _, e, _⟩ := Net.dst_prev h (x := x) (k := (c + 1 + k).toNat) (by omega)
      exact ih y (by omega)
  intro x
  by_cases hx : n.dst x ≤ c
  · exact hx
  · exact absurd (by omega) (key (n.dst x - (c + 1)).toNat x)
end Go.Proofs.YtnnklpmgncbgnaaGreat

/- The reference's steps, goals and ways, in plain Lean. -/

set_option linter.all false
namespace Go.Proofs.YtnnklpmgncbgnaaGreat
open Go

theorem val_as {P : Program} {o : Oper} {E : Operand → Option AVal} {σ σ' : Store} {a : AVal} (b : AVal) (h : OpTo P o E σ a σ') (e : a = b) : OpTo P o E σ b σ' := e ▸ h
theorem Net.known4_same {n : Net} (hn : n.Small) : n.known4 = n.known := by
  cases h : n.known with
  | true => exact Net.known4_eq hn h
  | false =>
    cases h4 : n.known4 with
    | false => rfl
    | true => rw [Net.known4_known h4] at h; cases h
/-! ### How far: the table -/
def Net.stepsL (n : Net) : List Int := (List.range n.states).map n.dst
theorem Net.stepsL_len (n : Net) : n.stepsL.length = n.states := by simp [Net.stepsL]
theorem Net.stepsL_get (n : Net) {x : Nat} (h : x < n.states) : n.stepsL.getD x default = n.dst x := by
  simp [Net.stepsL, List.getD_eq_getElem?_getD, List.getElem?_range, h]
structure SI (n : Net) (c : Nat) (s i : Nat) (some : Bool) (out : List Int) : Prop where
  len : out.length = n.states
  near : ∀ x, x < n.states → n.dst x ≤ c → out.getD x default = n.dst x
  far : ∀ x, x < n.states → n.dst x > (c : Int) + 1 → out.getD x default = -1
  edge : ∀ x, x < n.states → n.dst x = (c : Int) + 1 → out.getD x default = (c : Int) + 1 ∨ out.getD x default = -1
  none : some = false → ∀ x, x < n.states → n.dst x = (c : Int) + 1 → out.getD x default = -1
  yes : some = true → ∃ x, n.dst x = (c : Int) + 1
  met : ∀ y j, (y < s ∨ (y = s ∧ j < i)) → j < n.many2 → n.dst y = (c : Int) → n.dst (n.nextNum (y : Int) j) = (c : Int) + 1 → out.getD (n.nextNum (y : Int) j) default = (c : Int) + 1
  c0 : c < n.states
theorem SI.vals {n : Net} {c s i : Nat} {b : Bool} {out : List Int} (o : SI n c s i b out) (h : n.Ready) {x : Nat} (hx : x < n.states) : -1 ≤ out.getD x default ∧ out.getD x default ≤ n.states := by
  have hc := o.c0
  have hr := Net.dst_range h x
  by_cases a : n.dst x ≤ c
  · rw [o.near x hx a]; omega
  · by_cases b : n.dst x = (c : Int) + 1
    · rcases o.edge x hx b with e | e <;> rw [e] <;> omega
    · rw [o.far x hx (by omega)]; omega
def fillN (m k : Nat) : List Int := List.replicate k (-1) ++ List.replicate (m - k) 0
theorem fillN_len {m k : Nat} (h : k ≤ m) : (fillN m k).length = m := by rw [fillN, List.length_append, List.length_replicate, List.length_replicate]; omega
theorem fillN_zero (m : Nat) : fillN m 0 = List.replicate m 0 := by simp [fillN]
theorem fillN_step {m k : Nat} (h : k < m) : (fillN m k).set (0 + k) (-1) = fillN m (k + 1) := by
  obtain ⟨q, hq⟩ : ∃ q, m - k = q + 1 := ⟨m - k - 1, by omega⟩
  have e : m - (k + 1) = q := by omega
  rw [fillN, fillN, hq, e, Nat.zero_add, List.set_append_right _ _ (by simp), List.length_replicate, Nat.sub_self, List.replicate_succ, List.set_cons_zero, List.replicate_succ' (n := k)]
  simp
theorem fillN_all {m x : Nat} (h : x < m) : (fillN m m).getD x default = -1 := by
  simp [fillN, List.getD_eq_getElem?_getD, List.getElem?_replicate, h]
theorem si_init {n : Net} (h : n.Ready) : SI n 0 0 0 false ((fillN n.states n.states).set (0 + num n.firsts) 0) := by
  have hf := h.begin.2
  have hl := fillN_len (Nat.le_refl n.states)
  have val : ∀ x, x < n.states → ((fillN n.states n.states).set (0 + num n.firsts) 0).getD x default = if 0 + num n.firsts = x then 0 else -1 := fun x hx => by
    rw [getD_setl _ _ _ _ (by omega), fillN_all hx]
  refine ⟨by rw [List.length_set]; exact hl, fun x hx hd => ?_, fun x hx hd => ?_, fun x hx hd => ?_, fun _ x hx hd => ?_, fun hc => (by cases hc), fun y j hy => by omega, by omega⟩
  · rw [val x hx]
    split
    · rename_i e
      have : x = num n.firsts := by omega
      rw [this, Net.dst_first h]
    · rename_i e
      rcases (Net.dst_range h x).2.2 with e2 | e2
      · exact e2.symm
      · exact absurd (Net.dst_zero h (x := x) (by omega)) (by omega)
  all_goals
    rw [val x hx]
    have hne : ¬ 0 + num n.firsts = x := by
      intro e
      have : x = num n.firsts := by omega
      rw [this, Net.dst_first h] at hd; omega
    rw [if_neg hne]
  · exact .inr rfl
theorem SI.skip {n : Net} {c s i : Nat} {b : Bool} {out : List Int} (o : SI n c s i b out) (hs : s < n.states) (hc : ((out.getD s default == (c : Int)) && decide ((i : Int) < (n.many2 : Int))) = false) : SI n c (s + 1) 0 b out := by
  refine ⟨o.len, o.near, o.far, o.edge, o.none, o.yes, fun y j hy hj hd he => ?_, o.c0⟩
  by_cases a : y < s ∨ (y = s ∧ j < i)
  · exact o.met y j a hj hd he
  · obtain rfl : y = s := by omega
    exfalso
    have h1 := o.near y hs (by omega)
    rw [h1, hd, beq_self_eq_true, Bool.true_and, decide_eq_false_iff_not] at hc
    omega
theorem SI.dist {n : Net} {c s i : Nat} {b : Bool} {out : List Int} (o : SI n c s i b out) (hs : s < n.states) (hc : ((out.getD s default == (c : Int)) && decide ((i : Int) < (n.many2 : Int))) = true) : n.dst s = c ∧ i < n.many2 := by
  rw [Bool.and_eq_true, beq_iff_eq, decide_eq_true_eq] at hc
  obtain ⟨h1, h2⟩ := hc
  refine ⟨?_, by omega⟩
  by_cases a : n.dst s ≤ c
  · rw [← o.near s hs a]; exact h1
  · by_cases b : n.dst s = (c : Int) + 1
    · rcases o.edge s hs b with e | e <;> rw [e] at h1 <;> omega
    · rw [o.far s hs (by omega)] at h1; omega
theorem SI.old {n : Net} {c s i : Nat} {b : Bool} {out : List Int} (o : SI n c s i b out) (ht : decide (out.getD (n.nextNum (s : Int) i) default < 0) = false) : SI n c s (i + 1) b out := by
  rw [decide_eq_false_iff_not] at ht
  refine ⟨o.len, o.near, o.far, o.edge, o.none, o.yes, fun y j hy hj hd he => ?_, o.c0⟩
  by_cases a : y < s ∨ (y = s ∧ j < i)
  · exact o.met y j a hj hd he
  · obtain ⟨rfl, rfl⟩ : y = s ∧ j = i := by omega
    rcases o.edge _ (n.nextNum_st _ _) he with e | e
    · exact e
    · rw [e] at ht; omega
theorem SI.new {n : Net} (h : n.Ready) {c s i : Nat} {b : Bool} {out : List Int} (o : SI n c s i b out) (hs : n.dst s = c) (hi : i < n.many2) (ht : decide (out.getD (n.nextNum (s : Int) i) default < 0) = true) :
    SI n c s (i + 1) true (out.set (0 + n.nextNum (s : Int) i) ((c : Int) + 1)) := by
  rw [decide_eq_true_eq] at ht
  have hst := n.nextNum_st (s : Int) i
  have hn := Net.dst_next h hi (x := s) (by omega)
  have hd : n.dst (n.nextNum (s : Int) i) = (c : Int) + 1 := by
    by_cases a : n.dst (n.nextNum (s : Int) i) ≤ c
    · rw [o.near _ hst a] at ht; omega
    · omega
  have val : ∀ x, x < n.states → (out.set (0 + n.nextNum (s : Int) i) ((c : Int) + 1)).getD x default = if 0 + n.nextNum (s : Int) i = x then (c : Int) + 1 else out.getD x default := fun x hx => by
    rw [getD_setl _ _ _ _ (by rw [o.len]; omega)]
  refine ⟨by rw [List.length_set]; exact o.len, fun x hx hd2 => ?_, fun x hx hd2 => ?_, fun x hx hd2 => ?_, fun hc => (by cases hc), fun _ => ⟨_, hd⟩, fun y j hy hj hd2 he => ?_, o.c0⟩
  · rw [val x hx, if_neg (by rintro rfl; rw [Nat.zero_add, hd] at hd2; omega)]; exact o.near x hx hd2
  · rw [val x hx, if_neg (by rintro rfl; rw [Nat.zero_add, hd] at hd2; omega)]; exact o.far x hx hd2
  · rw [val x hx]
    split
    · exact .inl rfl
    · exact o.edge x hx hd2
  · rw [val _ (n.nextNum_st _ _)]
    split
    · rfl
    · rename_i hne
      by_cases a : y < s ∨ (y = s ∧ j < i)
      · exact o.met y j a hj hd2 he
      · obtain ⟨rfl, rfl⟩ : y = s ∧ j = i := by omega
        exact absurd (by omega) hne
theorem SI.next {n : Net} (h : n.Ready) {c i : Nat} {out : List Int} (o : SI n c n.states i true out) : SI n (c + 1) 0 0 false out := by
  obtain ⟨z, hz⟩ := o.yes rfl
  have hzr := Net.dst_range h z
  refine ⟨o.len, fun x hx hd => ?_, fun x hx hd => ?_, fun x hx hd => ?_, fun _ x hx hd => ?_, fun hc => (by cases hc), fun y j hy => by omega, by omega⟩
  · by_cases a : n.dst x ≤ c
    · exact o.near x hx a
    · have e : n.dst x = (c : Int) + 1 := by omega
      obtain ⟨y, j, a1, a2, a3, a4⟩ := Net.dst_prev h e
      have := o.met y j (.inl a4) a1 a2 (by rw [a3]; exact e)
      rw [a3] at this
      rw [this, e]
  · exact o.far x hx (by omega)
  · exact .inr (o.far x hx (by omega))
  · exact o.far x hx (by omega)
theorem SI.last {n : Net} (h : n.Ready) {c i : Nat} {out : List Int} (o : SI n c n.states i false out) : out = n.stepsL := by
  have hno : ∀ x, n.dst x ≠ (c : Int) + 1 := by
    intro x e
    have hm := Net.dst_mem (n := n) (x := x) (by omega)
    have hx := (Net.bfs_inv h.begin.2 (2 * n.states)).lt _ hm
    obtain ⟨y, j, a1, a2, a3, a4⟩ := Net.dst_prev h e
    have h1 := o.met y j (.inl a4) a1 a2 (by rw [a3]; exact e)
    have h2 := o.none rfl x hx e
    rw [a3] at h1
    omega
  have hle := Net.dst_down h (c := c) (by omega) hno
  refine List.ext_getElem (by rw [o.len, n.stepsL_len]) fun x h1 h2 => ?_
  have hx : x < n.states := by rw [← o.len]; exact h1
  have e1 := o.near x hx (hle x)
  have e2 := n.stepsL_get hx
  rw [List.getD_eq_getElem?_getD, List.getElem?_eq_getElem h1] at e1
  rw [List.getD_eq_getElem?_getD, List.getElem?_eq_getElem h2] at e2
  simp only [Option.getD_some] at e1 e2
  rw [e1, e2]
/-! ### What is reached -/
def reachTo (l : List Int) : Nat → List Int
  | 0 => []
  | s + 1 => if l.getD s default ≥ 0 then reachTo l s ++ [(s : Int)] else reachTo l s
theorem reachTo_len (l : List Int) : ∀ s, (reachTo l s).length ≤ s
  | 0 => by simp [reachTo]
  | s + 1 => by
    have := reachTo_len l s
    rw [reachTo]; split
    · rw [List.length_append, List.length_singleton]; omega
    · omega
theorem reachTo_mem {l : List Int} : ∀ {s : Nat} {x : Int}, x ∈ reachTo l s ↔ ∃ k, k < s ∧ x = (k : Int) ∧ l.getD k default ≥ 0
  | 0, x => by simp [reachTo]
  | s + 1, x => by
    rw [reachTo]
    constructor
    · intro h
      split at h
      · rename_i hs
        rcases List.mem_append.1 h with h | h
        · obtain ⟨k, a, b, c⟩ := reachTo_mem.1 h
          exact ⟨k, by omega, b, c⟩
        · simp at h; exact ⟨s, by omega, h, hs⟩
      · obtain ⟨k, a, b, c⟩ := reachTo_mem.1 h
        exact ⟨k, by omega, b, c⟩
    · rintro ⟨k, a, b, c⟩
      by_cases e : k = s
      · subst e; rw [if_pos c, List.mem_append]; right; simp [b]
      · have h1 : x ∈ reachTo l s := reachTo_mem.2 ⟨k, by omega, b, c⟩
        split
        · exact List.mem_append.2 (.inl h1)
        · exact h1
theorem reachTo_sorted (l : List Int) : ∀ s, (reachTo l s).Pairwise (· < ·)
  | 0 => by simp [reachTo]
  | s + 1 => by
    have ih := reachTo_sorted l s
    rw [reachTo]; split
    · rw [List.pairwise_append]
      refine ⟨ih, by simp, fun a ha b hb => ?_⟩
      obtain ⟨k, h1, h2, _⟩ := reachTo_mem.1 ha
      simp at hb; subst hb; omega
    · exact ih
theorem Net.reach_steps {n : Net} (h : n.Ready) : reachTo n.stepsL n.states = n.reachL := by
  have h1 := reachTo_sorted n.stepsL n.states
  have h2 := Net.reachL_sorted h
  have hp : (reachTo n.stepsL n.states).Perm n.reachL := by
    rw [List.perm_ext_iff_of_nodup (h1.imp (fun h => by omega)) (h2.imp (fun h => by omega))]
    intro x
    rw [reachTo_mem]
    constructor
    · rintro ⟨k, a, rfl, c⟩
      rw [n.stepsL_get a] at c
      exact Net.reachL_mem.2 (Net.dst_mem c)
    · intro hx
      have hr := Net.reachL_range h x hx
      obtain ⟨k, rfl⟩ := Int.eq_ofNat_of_zero_le hr.1
      refine ⟨k, by omega, rfl, ?_⟩
      rw [n.stepsL_get (by omega), Net.dst_yes (Net.reachL_mem.1 hx)]; omega
  exact List.Perm.eq_of_pairwise (le := fun x y : Int => x < y) (fun a b _ _ h1 h2 => by omega) h1 h2 hp
theorem reachTo_yes {l : List Int} {s : Nat} (h : decide (l.getD s default ≥ 0) = true) : reachTo l (s + 1) = reachTo l s ++ [(s : Int)] := by
  rw [reachTo, if_pos (of_decide_eq_true h)]
theorem reachTo_no {l : List Int} {s : Nat} (h : decide (l.getD s default ≥ 0) = false) : reachTo l (s + 1) = reachTo l s := by
  rw [reachTo, if_neg (of_decide_eq_false h)]
theorem Net.reach_bad {n : Net} (h : (!n.valid) = true) : n.reach = ([], 2) := by
  have hv : n.valid = false := by simpa using h
  have hf : n.fitE = 2 := by rw [Net.fitE, if_neg (by rw [hv]; decide)]
  rw [Net.reach, if_neg (by rw [hf]; decide), hf]
theorem Net.fit_big {n : Net} (h : (!n.valid) = false) (hs : (!n.small) = true) : n.fitE = 5 := by
  have hv : n.valid = true := by simpa using h
  have hs : n.small = false := by simpa using hs
  rw [Net.fitE, if_pos hv, if_neg (by rw [hs]; decide)]
theorem Net.reach_big {n : Net} (h : (!n.valid) = false) (hs : (!n.small) = true) : n.reach = ([], 5) := by
  have hf := Net.fit_big h hs
  rw [Net.reach, if_neg (by rw [hf]; decide), hf]
theorem Net.fit_good {n : Net} (h : (!n.valid) = false) (hs : (!n.small) = false) : n.fitE = 0 := by
  have hv : n.valid = true := by simpa using h
  have hs : n.small = true := by simpa using hs
  rw [Net.fitE, if_pos hv, if_pos hs]
/-! ### Goals -/
def Net.canB (n : Net) (to : Nat) : Nat → Nat → Bool
  | 0, s => s == to
  | j + 1, s => (List.range n.many2).any fun i => n.canB to j (n.nextNum (s : Int) i)
theorem Net.canB_iff {n : Net} {to : Nat} : ∀ {j s : Nat}, n.canB to j s = true ↔ ∃ w, w.length = j ∧ InB n w ∧ n.goto s w = to
  | 0, s => by
    rw [Net.canB, beq_iff_eq]
    constructor
    · rintro rfl; exact ⟨[], rfl, fun x hx => (by cases hx), rfl⟩
    · rintro ⟨w, a, _, c⟩
      have : w = [] := List.eq_nil_of_length_eq_zero a
      subst this; exact c
  | j + 1, s => by
    rw [Net.canB, List.any_eq_true]
    constructor
    · rintro ⟨i, hi, h⟩
      obtain ⟨w, a, b, c⟩ := Net.canB_iff.1 h
      refine ⟨i :: w, by rw [List.length_cons, a], fun x hx => ?_, by rw [n.goto_cons]; exact c⟩
      rcases List.mem_cons.1 hx with rfl | hx
      · exact List.mem_range.1 hi
      · exact b x hx
    · rintro ⟨w, a, b, c⟩
      cases w with
      | nil => simp at a
      | cons i w =>
        rw [n.goto_cons] at c
        exact ⟨i, List.mem_range.2 (b i (by simp)), Net.canB_iff.2 ⟨w, by simpa using a, fun x hx => b x (List.mem_cons_of_mem _ hx), c⟩⟩
theorem Net.canB_yes {n : Net} {to j s i : Nat} (hi : i < n.many2) (h : n.canB to j (n.nextNum (s : Int) i) = true) : n.canB to (j + 1) s = true := by
  rw [Net.canB, List.any_eq_true]; exact ⟨i, List.mem_range.2 hi, h⟩
theorem Net.canB_no {n : Net} {to j s : Nat} (h : ∀ i, i < n.many2 → n.canB to j (n.nextNum (s : Int) i) = false) : n.canB to (j + 1) s = false := by
  rw [Net.canB, List.any_eq_false]
  intro i hi
  rw [h i (List.mem_range.1 hi)]; decide
def Net.befTo (n : Net) (to j s : Nat) : List (Nat × Bool) := ((List.range s).filter (n.canB to (j + 1))).map fun x => (x, true)
theorem Net.befTo_zero (n : Net) (to j : Nat) : n.befTo to j 0 = [] := rfl
theorem Net.befTo_yes {n : Net} {to j s : Nat} (h : n.canB to (j + 1) s = true) : n.befTo to j (s + 1) = n.befTo to j s ++ [(s, true)] := by
  rw [Net.befTo, Net.befTo, List.range_succ, List.filter_append, List.filter_cons, if_pos h, List.map_append]; rfl
theorem Net.befTo_no {n : Net} {to j s : Nat} (h : n.canB to (j + 1) s = false) : n.befTo to j (s + 1) = n.befTo to j s := by
  rw [Net.befTo, Net.befTo, List.range_succ, List.filter_append, List.filter_cons, if_neg (by rw [h]; decide)]; simp
theorem kFind_true {l : List Nat} {x : Nat} : kFind x (l.map fun y => (y, true)) = if x ∈ l then some true else none := by
  induction l with
  | nil => rfl
  | cons y l ih =>
    rw [List.map_cons, kFind]
    by_cases h : x = y
    · subst h; rw [if_pos rfl, if_pos (by simp)]
    · rw [if_neg h, ih]
      by_cases h2 : x ∈ l
      · rw [if_pos h2, if_pos (List.mem_cons_of_mem _ h2)]
      · rw [if_neg h2, if_neg (by simp [h, h2])]
theorem Net.befTo_find {n : Net} {to j s x : Nat} : (kFind x (n.befTo to j s)).getD false = (decide (x < s) && n.canB to (j + 1) x) := by
  rw [Net.befTo, kFind_true]
  simp only [List.mem_filter, List.mem_range]
  by_cases h : x < s ∧ n.canB to (j + 1) x = true
  · rw [if_pos h, decide_eq_true h.1, h.2]; rfl
  · rw [if_neg h]
    show false = _
    by_cases h1 : x < s
    · have : n.canB to (j + 1) x = false := nt2 (fun h2 => h ⟨h1, h2⟩)
      rw [this, Bool.and_false]
    · rw [decide_eq_false h1]; rfl
where nt2 {b : Bool} (h : ¬ b = true) : b = false := by cases b <;> simp_all
/-- The map of the states from which one can come there in j clocks. -/
def Net.goalM (n : Net) (to : Nat) : Nat → List (Nat × Bool)
  | 0 => [(to, true)]
  | j + 1 => n.befTo to j n.states
theorem Net.goalM_find {n : Net} {to j x : Nat} (hx : x < n.states) : (kFind x (n.goalM to j)).getD false = n.canB to j x := by
  cases j with
  | zero =>
    rw [Net.goalM, Net.canB, kFind]
    by_cases h : x = to
    · rw [if_pos h, h, beq_self_eq_true]; rfl
    · rw [if_neg h]; simp [kFind, h]
  | succ j => rw [Net.goalM, Net.befTo_find, decide_eq_true hx, Bool.true_and]
theorem Net.befTo_len (n : Net) (to j s : Nat) : (n.befTo to j s).length ≤ s := by
  rw [Net.befTo, List.length_map]
  have := List.length_filter_le (n.canB to (j + 1)) (List.range s)
  rw [List.length_range] at this
  exact this
/-! ### The way that the reference takes -/
theorem Net.goto_app (n : Net) (s : Nat) (a b : List Nat) : n.goto s (a ++ b) = n.goto (n.goto s a) b := by simp [Net.goto, List.foldl_append]
theorem llt_mid : ∀ (a : List Nat) {i j : Nat} {u v : List Nat}, i < j → llt (a ++ i :: u) (a ++ j :: v)
  | [], _, _, _, _, h => .inl h
  | x :: a, _, _, _, _, h => .inr ⟨rfl, llt_mid a h⟩
structure WayF (n : Net) (x : Nat) (w : List Nat) : Prop where
  inb : InB n w
  goes : n.goto (num n.firsts) w = x
  long : (w.length : Int) = n.dst x
  bits : n.wayTo x = w.map (fun i : Nat => bitsI (i : Int) n.ins.length)
  least : ∀ v, InB n v → n.goto (num n.firsts) v = x → sle w v
def Net.wayW (n : Net) (w : List Nat) (k : Nat) : Nat := n.goto (num n.firsts) (w.take k)
theorem Net.wayW_zero (n : Net) (w : List Nat) : n.wayW w 0 = num n.firsts := rfl
theorem Net.wayW_succ (n : Net) {w : List Nat} {k : Nat} (h : k < w.length) : n.nextNum (n.wayW w k : Int) (w.getD k default) = n.wayW w (k + 1) := by
  have e : w.take (k + 1) = w.take k ++ [w.getD k default] := by rw [List.take_add_one, List.getElem?_eq_getElem h, List.getD_eq_getElem?_getD, List.getElem?_eq_getElem h]; rfl
  rw [Net.wayW, Net.wayW, e, n.goto_snoc]
theorem Net.wayW_lt {n : Net} (h : n.Ready) {w : List Nat} (k : Nat) (hk : k ≤ w.length) : n.wayW w k < n.states := by
  cases k with
  | zero => exact h.begin.2
  | succ k => rw [← n.wayW_succ (by omega)]; exact n.nextNum_st _ _
theorem WayF.at_lt {n : Net} {x : Nat} {w : List Nat} (h : WayF n x w) {k : Nat} (hk : k < w.length) : w.getD k default < n.many2 := h.inb _ (getD_mem hk)
theorem WayF.hit {n : Net} {x : Nat} {w : List Nat} (h : WayF n x w) {k : Nat} (hk : k < w.length) : n.canB x (w.length - k - 1) (n.nextNum (n.wayW w k : Int) (w.getD k default)) = true := by
  rw [n.wayW_succ hk, Net.canB_iff]
  refine ⟨w.drop (k + 1), by rw [List.length_drop]; omega, fun y hy => h.inb y (List.mem_of_mem_drop hy), ?_⟩
  rw [Net.wayW, ← n.goto_app, List.take_append_drop]; exact h.goes
theorem WayF.miss {n : Net} {x : Nat} {w : List Nat} (h : WayF n x w) {k i : Nat} (hk : k < w.length) (hi : i < w.getD k default) : n.canB x (w.length - k - 1) (n.nextNum (n.wayW w k : Int) i) = false := by
  cases hc : n.canB x (w.length - k - 1) (n.nextNum (n.wayW w k : Int) i) with
  | false => rfl
  | true =>
    exfalso
    obtain ⟨u, a, b, c⟩ := Net.canB_iff.1 hc
    have hM := h.at_lt hk
    have hv : InB n (w.take k ++ i :: u) := by
      intro y hy
      rcases List.mem_append.1 hy with hy | hy
      · exact h.inb y (List.mem_of_mem_take hy)
      · rcases List.mem_cons.1 hy with rfl | hy
        · omega
        · exact b y hy
    have hg : n.goto (num n.firsts) (w.take k ++ i :: u) = x := by rw [n.goto_app, n.goto_cons]; exact c
    have hs := h.least _ hv hg
    have hl : (w.take k ++ i :: u).length = w.length := by rw [List.length_append, List.length_take, List.length_cons, a]; omega
    have e : w = w.take k ++ w.getD k default :: w.drop (k + 1) := by
      conv => lhs; rw [← List.take_append_drop k w]
      congr 1
      rw [List.drop_eq_getElem_cons hk, List.getD_eq_getElem?_getD, List.getElem?_eq_getElem hk]; rfl
    have hlt : slt (w.take k ++ i :: u) w := .inr ⟨hl, by
      have := llt_mid (w.take k) (u := u) (v := w.drop (k + 1)) hi
      rwa [← e] at this⟩
    rcases hs with hs | hs
    · rw [← hs] at hlt; exact slt_irrefl hlt
    · exact slt_irrefl (slt_trans hs hlt)
theorem Net.way_f {n : Net} (h : n.Ready) {x : Nat} (hx : 0 ≤ n.dst x) : ∃ w, WayF n x w := by
  obtain ⟨w, a, b, c, d, e⟩ := Net.dst_path h hx
  exact ⟨w, a, b, c, d, e⟩
theorem Net.way_steps {n : Net} (h : n.Ready) (hf : n.fitE = 0) {x : Nat} (hx : x < n.states) : n.way (x : Int) = if n.dst x < 0 then ([], 4) else (n.wayTo x, 0) := by
  by_cases hm : x ∈ n.bfs.map (·.1)
  · rw [(Net.way_to h hm).1, Net.dst_yes hm, if_neg (by omega)]
  · rw [Net.way_no h hm hx, Net.dst_no hm]; rfl
/-! ### Rounds -/
theorem Net.rnum_next {n : Net} (h : n.Ready) {ins : List Int} (l1 : ins.length = n.ins.length) (h1 : Bit01 ins) (k : Nat) : n.nextNum (n.rnum ins k : Int) (num ins) = n.rnum ins (k + 1) := by
  have hr := Net.rat h l1 h1 k
  have e1 : bitsI ((num ins : Nat) : Int) n.ins.length = ins := by rw [← l1]; exact bits_num h1
  have e2 : bitsI ((n.rnum ins k : Nat) : Int) n.regs.length = n.rst ins k := by rw [← hr.l]; exact bits_num hr.b
  rw [Net.next_eval h.v, e1, e2]; rfl
def Net.seenL (n : Net) (ins : List Int) (k : Nat) : List Int := (List.range k).map fun j => (n.rnum ins j : Int)
theorem Net.seenL_len (n : Net) (ins : List Int) (k : Nat) : (n.seenL ins k).length = k := by simp [Net.seenL]
theorem Net.seenL_succ (n : Net) (ins : List Int) (k : Nat) : n.seenL ins (k + 1) = n.seenL ins k ++ [(n.rnum ins k : Int)] := by simp [Net.seenL, List.range_succ]
theorem Net.seenL_get (n : Net) (ins : List Int) {k i : Nat} (h : i < k) : (n.seenL ins k).getD i default = (n.rnum ins i : Int) := by
  simp [Net.seenL, List.getD_eq_getElem?_getD, List.getElem?_range, h]
theorem Net.rents_get (n : Net) (ins : List Int) {k i : Nat} (h : i < k) : (n.rents ins k).getD i default = (n.rnum ins i, i) := by
  simp [Net.rents, List.getD_eq_getElem?_getD, List.getElem?_range, h]
theorem Net.rents_len (n : Net) (ins : List Int) (k : Nat) : (n.rents ins k).length = k := by simp [Net.rents]
theorem Net.round_found {n : Net} (h : n.Ready) {ins : List Int} (l1 : ins.length = n.ins.length) (h1 : Bit01 ins) {k i : Nat} (hk : firstTo (n.rhit ins) k = Option.none) (hi : i < k) (he : ((n.rnum ins i : Int) == (n.rnum ins k : Int)) = true) : n.roundK ins = k ∧ n.roundA ins = i := by
  have he : n.rnum ins i = n.rnum ins k := by rw [beq_iff_eq] at he; omega
  have hn : ((n.rents ins k).map (·.1)).Nodup := by rw [Net.rents_keys]; exact Net.rnums_nodup hk
  have hf := kFind_at (n.rents ins k) i (by rw [Net.rents_len]; exact hi) hn
  rw [Net.rents_get n ins hi] at hf
  simp only at hf
  rw [he] at hf
  have hK := Net.round_hit h l1 h1 hk (by rw [Net.rhit, hf]; rfl)
  exact ⟨hK, by rw [Net.roundA, hK, hf]; rfl⟩
theorem Net.round_new {n : Net} {ins : List Int} {k : Nat} (hk : firstTo (n.rhit ins) k = Option.none) (ha : ∀ i, i < k → ((n.rnum ins i : Int) == (n.rnum ins k : Int)) = false) : firstTo (n.rhit ins) (k + 1) = Option.none := by
  refine firstTo_none.2 (allTo_iff.2 fun i hi => ?_)
  rcases Nat.lt_or_eq_of_le (Nat.le_of_lt_succ hi) with e | rfl
  · exact allTo_iff.1 (firstTo_none.1 hk) i e
  · rw [Net.rhit]
    have : kFind (n.rnum ins i) (n.rents ins i) = Option.none := by
      rw [kFind_none, Net.rents_keys]
      intro hm
      obtain ⟨j, hj, e⟩ := List.mem_map.1 hm
      have := ha j (List.mem_range.1 hj)
      rw [e, beq_self_eq_true] at this; cases this
    rw [this]; rfl
def bad01 (b : Int) : Bool := (b != 0) && (b != 1)
theorem all_more01 {l : List Int} {i : Nat} (h : ∀ q, q < i → bad01 (l.getD q default) = false) (h1 : bad01 (l.getD i default) = false) : ∀ q, q < i + 1 → bad01 (l.getD q default) = false := by
  intro q hq
  rcases Nat.lt_or_eq_of_le (Nat.le_of_lt_succ hq) with e | rfl
  · exact h q e
  · exact h1
theorem bit1_bad {l : List Int} {i : Nat} (h0 : 0 ≤ l.getD i default) : bit1At l i = bad01 (l.getD i default) := by
  rw [bit1At, bad01, Bool.eq_iff_iff, decide_eq_true_eq, Bool.and_eq_true, bne_iff_ne, bne_iff_ne]; omega
theorem firstX_all {l : List Int} (hb : ∀ x ∈ l, 0 ≤ x ∧ x ≤ 255) (h : ∀ q, q < l.length → bad01 (l.getD q default) = false) : decide (firstX l ≥ 0) = false := by
  have : firstTo (bit1At l) l.length = Option.none := firstTo_none.2 (allTo_iff.2 fun i hi => by
    rw [bit1_bad (hb _ (getD_mem hi)).1, h i hi]; rfl)
  rw [firstX, this]; rfl
theorem firstX_at {l : List Int} (hb : ∀ x ∈ l, 0 ≤ x ∧ x ≤ 255) {i : Nat} (hi : i < l.length) (h : bad01 (l.getD i default) = true) : decide (firstX l ≥ 0) = true := by
  cases hf : firstTo (bit1At l) l.length with
  | none =>
    have := allTo_iff.1 (firstTo_none.1 hf) i hi
    rw [bit1_bad (hb _ (getD_mem hi)).1, h] at this; cases this
  | some k => rw [firstX, hf]; simp
theorem Net.roundOK_of {n : Net} {ins : List Int} (h : ((!n.valid) || ((ins.length : Int) != n.ins.length)) = false) (hx : decide (firstX ins ≥ 0) = false) : n.roundOK ins = true := by
  have := roundOK_or (n := n) (ins := ins)
  rw [h, hx] at this
  simpa using this.symm
theorem Net.round_no {n : Net} {ins : List Int} (h : n.roundOK ins = false) : n.round ins = (0, 0, 2) := by rw [Net.round, if_neg (by rw [h]; decide)]
theorem Net.round_bad1 {n : Net} {ins : List Int} (h : ((!n.valid) || ((ins.length : Int) != n.ins.length)) = true) : n.round ins = (0, 0, 2) := by
  refine Net.round_no ?_
  have := roundOK_or (n := n) (ins := ins)
  rw [h] at this
  simpa using this.symm
theorem Net.round_bad2 {n : Net} {ins : List Int} (hb : ∀ x ∈ ins, 0 ≤ x ∧ x ≤ 255) (i : Nat) (hi : i < ins.length) (h : bad01 (ins.getD i default) = true) : n.round ins = (0, 0, 2) := by
  refine Net.round_no ?_
  have := roundOK_or (n := n) (ins := ins)
  rw [firstX_at hb hi h, Bool.or_true] at this
  simpa using this.symm
theorem seen_eq {n : Net} {ins : List Int} {k i : Nat} (h : i < k) : (n.seenL ins k).getD i default = (n.rnum ins i : Int) := n.seenL_get ins h
theorem Net.more_ne {n : Net} {ins : List Int} {k i : Nat} (h : ∀ q, q < i → ((n.rnum ins q : Int) == (n.rnum ins k : Int)) = false) (h1 : ((n.rnum ins i : Int) == (n.rnum ins k : Int)) = false) : ∀ q, q < i + 1 → ((n.rnum ins q : Int) == (n.rnum ins k : Int)) = false := by
  intro q hq
  rcases Nat.lt_or_eq_of_le (Nat.le_of_lt_succ hq) with e | rfl
  · exact h q e
  · exact h1
end Go.Proofs.YtnnklpmgncbgnaaGreat

/- The store of the reference's goals: a row of maps. -/


set_option linter.all false
namespace Go.Proofs.YtnnklpmgncbgnaaGreat
open Go

/-- The order of a store's objects is nothing. -/
theorem foot_congr {L : Loc} {σ τ : Store} (h : ∀ id, σ.get id = τ.get id) (b : Nat) : Foot L σ b ↔ Foot L τ b := by
  unfold Foot
  simp only [h]
theorem sim_congr {ok : Nat → Prop} {L : Loc} {σ τ : Store} {w : World} (h : ∀ id, σ.get id = τ.get id) (hs : Sim ok L σ w) : Sim ok L τ w :=
  ⟨fun id ver o hid => hs.objs id ver o (by rw [h]; exact hid), fun b hb => hs.lt b ((foot_congr h b).2 hb), fun i j vi vj oi oj hi hj => hs.inj i j vi vj oi oj (by rw [h]; exact hi) (by rw [h]; exact hj), fun b hb => ⟨(hs.okd b hb).1, fun hf => (hs.okd b hb).2 ((foot_congr h b).2 hf)⟩, hs.glob⟩
theorem evo_congr {ok ok' : Nat → Prop} {L L' : Loc} {σ τ σ' : Store} {w w' : World} (h : ∀ id, σ.get id = τ.get id) (he : Evo ok L τ w ok' L' σ' w') : Evo ok L σ w ok' L' σ' w' :=
  { os := he.os, tape := he.tape, output := he.output, size := he.size, same := fun b hb hf => he.same b hb (fun hf2 => hf ((foot_congr h b).2 hf2)), foot := fun b hb hf => (foot_congr h b).2 (he.foot b hb hf), okm := he.okm, okn := fun b h1 h2 => (he.okn b h1 h2).imp id (foot_congr h b).2, ver := he.ver, stay := he.stay }
theorem al_perm {P : Program} {n : Nat} {ops : Array Oper} {l : List Oper} {Q : APost} {env : Env} {σ τ : Store} (h : ∀ id, σ.get id = τ.get id) (k : AL P n ops l Q env τ) : AL P n ops l Q env σ :=
  fun ok L w act h1 h2 h3 h4 => wpList_after (fun _ _ _ ⟨ae, env', σ', ok', L', a, b, c⟩ => ⟨ae, env', σ', ok', L', a, evo_congr h b, c⟩) _ _ _ (k ok L w act (sim_congr h h1) h2 h3 h4)
theorem get4 {a b c d : Nat × Nat × AObj} (hcd : c.1 ≠ d.1) : ∀ id, Store.get [a, b, c, d] id = Store.get [a, b, d, c] id := by
  intro id
  obtain ⟨i, x⟩ := c
  obtain ⟨j, y⟩ := d
  simp only at hcd
  simp only [Store.get]
  cases h1 : Nat.beq i id <;> cases h2 : Nat.beq j id <;> simp only [] <;> (try rfl)
  exact absurd ((Nat.eq_of_beq_eq_true h1).trans (Nat.eq_of_beq_eq_true h2).symm) hcd
def bT (b : Bool) : AVal := .v (.bool b)
def mapS (vs : Nat → Nat) (k : Nat) : List AVal := [.map (900 + k) (vs k)]
def innerM (vs : Nat → Nat) (M : Nat → List (Nat × Bool)) (k : Nat) : Nat × AObj := (vs k, .map (kEnts bT (M k)))
def GSB (n : Net) (v4 v3 v7 : Nat) (rows : List (List AVal)) : Store := [(4, v4, .row 4 [[.list 1 (n.ins.map encS), .list 3 (n.regs.map encR), .list 2 (n.gates.map encG), .list 2 (n.outs.map encP)]]), (803, v3, .row 4 [[.list 1 (n.ins.map encS), .list 3 (n.regs.map encR), .list 2 (n.gates.map encG), .list 2 (n.outs.map encP)]]), (814, v7, .row 1 rows)]
theorem gsb_none {n : Net} {v4 v3 v7 j : Nat} {rows : List (List AVal)} : (GSB n v4 v3 v7 rows).get (900 + j) = none := by
  have e1 : Nat.beq 4 (900 + j) = false := nat_beq_false.2 (by omega)
  have e2 : Nat.beq 803 (900 + j) = false := nat_beq_false.2 (by omega)
  have e3 : Nat.beq 814 (900 + j) = false := nat_beq_false.2 (by omega)
  simp only [GSB, Store.get, e1, e2, e3]
def GST (n : Net) (v4 v3 v7 mo mi : Nat) (vs : Nat → Nat) (M : Nat → List (Nat × Bool)) : Store := GSB n v4 v3 v7 ((List.range mo).map (mapS vs)) ++ nest 900 mi (innerM vs M)
section
variable {n : Net} {v4 v3 v7 mo mi : Nat} {vs : Nat → Nat} {M M' : Nat → List (Nat × Bool)}
theorem gst_get {j : Nat} (h : j < mi) : (GST n v4 v3 v7 mo mi vs M).get (900 + j) = some (vs j, .map (kEnts bT (M j))) := by
  rw [GST, Store.get_right gsb_none, nest_at h]; rfl
theorem gst_814 : (GST n v4 v3 v7 mo mi vs M).get 814 = some (v7, .row 1 ((List.range mo).map (mapS vs))) := by
  rw [GST]; exact Store.get_left rfl
theorem gst_new {i v : Nat} (hx : M i = []) : (GST n v4 v3 v7 i i vs M).put (900 + i) v (.map []) = GST n v4 v3 v7 i (i + 1) (setV vs i v) M := by
  rw [GST, Store.put_right gsb_none, nest_new, GST]
  have e1 : (List.range i).map (mapS vs) = (List.range i).map (mapS (setV vs i v)) := by
    refine List.map_congr_left fun k hk => ?_
    have := List.mem_range.1 hk
    simp only [mapS, setV]
    rw [if_neg (by omega)]
  rw [e1]
  congr 1
  refine nest_congr fun k hk => ?_
  by_cases e : k = i
  · subst e; simp only [innerM, setV, if_true, hx]; rfl
  · simp only [innerM, setV, if_neg e]
theorem gst_app {w8 v i : Nat} {ob : AObj} : (((GST n v4 v3 v7 i (i + 1) vs M).put 57 v ob).put 814 w8 (.row 1 ((List.range i ++ [i]).map (mapS vs)))).keep (fun k => !(Nat.beq k 57)) = GST n v4 v3 w8 (i + 1) (i + 1) vs M := by
  rw [GST, Store.put_right rfl]
  have e1 : (nest 900 (i + 1) (innerM vs M)).put 57 v ob = nest 900 (i + 1) (innerM vs M) ++ [(57, v, ob)] := by
    have := Store.put_right (σ := nest 900 (i + 1) (innerM vs M)) (τ := []) (id := 57) (v := v) (o := ob) (nest_out (by omega))
    rw [List.append_nil] at this
    exact this
  rw [e1, Store.put_left (x := (v7, .row 1 ((List.range i).map (mapS vs)))) rfl, keep_app, keep_app, keep_nest (fun k _ => by rw [nat_beq_false.2 (by omega)]; rfl), GST, List.range_succ]
  have e2 : Store.keep (fun k => !(Nat.beq k 57)) [(57, v, ob)] = [] := rfl
  rw [e2, List.append_nil]
  rfl
theorem gst_keep {q : Nat → Bool} (h1 : q 4 = true) (h2 : q 803 = true) (h8 : q 814 = true) (h : ∀ k, k < mi → q (900 + k) = true) : (GST n v4 v3 v7 mo mi vs M).keep q = GST n v4 v3 v7 mo mi vs M := by
  rw [GST, keep_app, keep_nest h]
  simp only [GSB, Store.keep, h1, h2, h8]
theorem gst_rows (h : ∀ k, k < mi → M k = M' k) : GST n v4 v3 v7 mo mi vs M = GST n v4 v3 v7 mo mi vs M' := by
  rw [GST, GST, nest_congr (o := innerM vs M) (p := innerM vs M') (fun k hk => by simp only [innerM, h k hk])]
theorem gst_put {i : Nat} {x : List (Nat × Bool)} (hi : i < mi) (h1 : M' i = x) (h : ∀ k, k < mi → k ≠ i → M k = M' k) : (GST n v4 v3 v7 mo mi vs M).put (900 + i) (vs i) (.map (kEnts bT x)) = GST n v4 v3 v7 mo mi vs M' := by
  rw [GST, Store.put_right gsb_none, nest_put hi, GST]
  congr 1
  refine nest_congr fun k hk => ?_
  by_cases e : k = i
  · subst e; simp only [innerM, if_true, h1]
  · simp only [innerM, if_neg e, h k hk e]
end
/-- The goals so far, and the map that is being made. -/
def M2 (n : Net) (x q : Nat) (B : List (Nat × Bool)) (k : Nat) : List (Nat × Bool) := if k = q then B else n.goalM x k
theorem m2_here {n : Net} {x q : Nat} {B : List (Nat × Bool)} : M2 n x q B q = B := if_pos rfl
theorem m2_other {n : Net} {x q k : Nat} {B : List (Nat × Bool)} (h : k ≠ q) : M2 n x q B k = n.goalM x k := if_neg h
theorem m2_done {n : Net} {x q k : Nat} (h : 1 ≤ q) : M2 n x q (n.befTo x (q - 1) n.states) k = n.goalM x k := by
  rw [M2]
  split
  · rename_i e
    obtain ⟨p, rfl⟩ : ∃ p, q = p + 1 := ⟨q - 1, by omega⟩
    rw [e, Nat.add_sub_cancel]; rfl
  · rfl
def gotL (s : Nat) (got : Bool) : List (Nat × Bool) := if got then [(s, true)] else []
theorem kFind_app {β : Type} {x : Nat} : ∀ {a b : List (Nat × β)}, kFind x a = none → kFind x (a ++ b) = kFind x b
  | [], b, _ => rfl
  | e :: a, b, h => by
    rw [kFind] at h
    split at h
    · cases h
    · rename_i hne
      rw [List.cons_append, kFind, if_neg hne]; exact kFind_app h
theorem bef_none {n : Net} {x j s : Nat} : kFind s (n.befTo x j s) = none := by
  rw [kFind_none]
  intro h
  obtain ⟨e, he, e2⟩ := List.mem_map.1 h
  obtain ⟨y, hy, rfl⟩ := List.mem_map.1 he
  have := List.mem_range.1 (List.mem_filter.1 hy).1
  simp only at e2; omega
theorem bef_got {n : Net} {x j s : Nat} {got : Bool} : (kFind s (n.befTo x j s ++ gotL s got)).getD false = got := by
  rw [kFind_app bef_none]
  cases got <;> simp [gotL, kFind]
theorem bef_new {n : Net} {x j s : Nat} : kFind s (n.befTo x j s ++ gotL s false) = none := by
  rw [kFind_app bef_none]; rfl
structure GotI (n : Net) (x j s i : Nat) (got : Bool) : Prop where
  no : got = false → ∀ k, k < i → n.canB x j (n.nextNum (s : Int) k) = false
  yes : got = true → n.canB x (j + 1) s = true
theorem got_zero {n : Net} {x j s : Nat} : GotI n x j s 0 false := ⟨fun _ k hk => (by omega), fun h => (by cases h)⟩
theorem GotI.hit {n : Net} {x j s i : Nat} (hi : i < n.many2) (h : n.canB x j (n.nextNum (s : Int) i) = true) : GotI n x j s (i + 1) true := ⟨fun hg => (by cases hg), fun _ => Net.canB_yes hi h⟩
theorem GotI.miss {n : Net} {x j s i : Nat} {got : Bool} (o : GotI n x j s i got) (h : n.canB x j (n.nextNum (s : Int) i) = false) : GotI n x j s (i + 1) got :=
  ⟨fun hg k hk => by
    rcases Nat.lt_or_eq_of_le (Nat.le_of_lt_succ hk) with e | rfl
    · exact o.no hg k e
    · exact h, o.yes⟩
theorem GotI.next {n : Net} {x j s i : Nat} {got : Bool} (o : GotI n x j s i got) (h : (decide ((i : Int) < (n.many2 : Int)) && !got) = false) : n.befTo x j s ++ gotL s got = n.befTo x j (s + 1) := by
  cases got with
  | true => rw [Net.befTo_yes (o.yes rfl)]; rfl
  | false =>
    have hi : ¬ i < n.many2 := by
      rw [Bool.not_false, Bool.and_true, decide_eq_false_iff_not] at h; omega
    rw [Net.befTo_no (Net.canB_no fun k hk => o.no rfl k (by omega))]
    simp [gotL]
section
variable {P : Program} {σ : Store} {E : Operand → Option AVal} {d : Option Tmp} {ty : TypeId} {pos : String} {after : Array Edge} {guard : Option (Nat × Bool)}
theorem op_lookup_bt {m : List (Nat × Bool)} {x y : Operand} {t kt et id ver : Nat} {ka : AVal} {inf : TypeInfo} (k : Nat) (ht : P.underlying t = some (.map kt et)) (hkt : P.underlying kt = some (.int .i64)) (hi : P.info? et = some inf) (hz : inf.zero = some (.bool false))
    (hx : E x = some (.map id ver)) (hid : σ.get id = some (ver, .map (kEnts bT m))) (hy : E y = some ka) (hk : concOf ka = some (kKey k)) :
    OpTo P ⟨d, .lookup t x y false, ty, pos, after, guard⟩ E σ (.v (.bool ((kFind k m).getD false))) σ := by
  have e : ((kFind k m).map bT).getD (.v (.bool false)) = .v (.bool ((kFind k m).getD false)) := by cases kFind k m <;> rfl
  refine op_lookup (P := P) (E := E) (σ := σ) (d := d) (ty := ty) (pos := pos) (after := after) (guard := guard) (x := x) (y := y) ht (keyLaw_int hkt) hi hz rfl hx hid hy hk ⟨_, rfl⟩ k_keys (by rw [mapFind_k]; exact e) ?_
  rfl
end
theorem range_at {q i : Nat} (h : i < q) : (List.range q).getD i default = i := by
  rw [List.getD_eq_getElem?_getD, List.getElem?_range h]; rfl
theorem aw_perm {P : Program} {n : Nat} {c : Code} {Q : APost} {env : Env} {σ τ : Store} (h : ∀ id, σ.get id = τ.get id) (k : AW P n c Q env τ) : AW P n c Q env σ :=
  fun ok L w act h1 h2 h3 h4 => wp_mono (k ok L w act (sim_congr h h1) h2 h3 h4) fun _ _ _ ⟨ae, env', σ', ok', L', a, b, c⟩ => ⟨ae, env', σ', ok', L', a, evo_congr h b, c⟩
theorem perm_front {σ : Store} {i v : Nat} {o : AObj} : ∀ id, (σ.put i v o).get id = Store.get ((i, v, o) :: σ) id := by
  intro id
  rw [Store.get_put]
  by_cases h : i = id
  · subst h; simp [Store.get]
  · have hb : Nat.beq i id = false := nat_beq_false.2 h
    simp only [Store.get, hb]
    first | rw [if_neg h] | rw [if_neg (fun e => h e.symm)]
theorem gst_get11 {n : Net} {v4 v3 v7 mo mi v : Nat} {vs : Nat → Nat} {M : Nat → List (Nat × Bool)} {o : AObj} {j : Nat} (h : j < mi) : Store.get ((11, v, o) :: GST n v4 v3 v7 mo mi vs M) (900 + j) = some (vs j, .map (kEnts bT (M j))) := by
  have hb : Nat.beq 11 (900 + j) = false := nat_beq_false.2 (by omega)
  simp only [Store.get, hb]
  exact gst_get h
theorem gst_814c {n : Net} {v4 v3 v7 mo mi v : Nat} {vs : Nat → Nat} {M : Nat → List (Nat × Bool)} {o : AObj} : Store.get ((11, v, o) :: GST n v4 v3 v7 mo mi vs M) 814 = some (v7, .row 1 ((List.range mo).map (mapS vs))) := by
  have hb : Nat.beq 11 814 = false := rfl
  simp only [Store.get, hb]
  exact gst_814
def wayB (n : Net) (w : List Nat) (k : Nat) : List (List Int) := (w.take k).map fun i : Nat => bitsI (i : Int) n.ins.length
theorem wayB_len {n : Net} {w : List Nat} {k : Nat} (h : k ≤ w.length) : (wayB n w k).length = k := by rw [wayB, List.length_map, List.length_take]; omega
theorem wayB_succ {n : Net} {w : List Nat} {k : Nat} (h : k < w.length) : wayB n w (k + 1) = wayB n w k ++ [bitsI ((w.getD k default : Nat) : Int) n.ins.length] := by
  rw [wayB, wayB, List.take_add_one, List.getElem?_eq_getElem h, List.getD_eq_getElem?_getD, List.getElem?_eq_getElem h, List.map_append]; rfl
theorem wayB_all {n : Net} {x : Nat} {w : List Nat} (h : WayF n x w) : wayB n w w.length = n.wayTo x := by rw [wayB, List.take_length, h.bits]
theorem wayW_all {n : Net} {x : Nat} {w : List Nat} (h : WayF n x w) : n.wayW w w.length = x := by rw [Net.wayW, List.take_length, h.goes]
structure DonI (w : List Nat) (k i : Nat) (don : Bool) : Prop where
  no : don = false → i ≤ w.getD k default
  yes : don = true → i = w.getD k default + 1
theorem DonI.go {w : List Nat} {k i : Nat} {don : Bool} (o : DonI w k i don) (h : don = false) : i ≤ w.getD k default := o.no h
theorem WayF.here {n : Net} {x : Nat} {w : List Nat} (h : WayF n x w) {k i : Nat} (hk : k < w.length) (hi : i ≤ w.getD k default) (hc : n.canB x (w.length - k - 1) (n.nextNum (n.wayW w k : Int) i) = true) : i = w.getD k default := by
  rcases Nat.lt_or_eq_of_le hi with e | e
  · rw [h.miss hk e] at hc; cases hc
  · exact e
theorem WayF.there {n : Net} {x : Nat} {w : List Nat} (h : WayF n x w) {k i : Nat} (hk : k < w.length) (hi : i ≤ w.getD k default) (hc : n.canB x (w.length - k - 1) (n.nextNum (n.wayW w k : Int) i) = false) : i + 1 ≤ w.getD k default := by
  rcases Nat.lt_or_eq_of_le hi with e | e
  · exact e
  · rw [e, h.hit hk] at hc; cases hc
theorem DonI.end {n : Net} {x : Nat} {w : List Nat} (h : WayF n x w) {k i : Nat} {don : Bool} (o : DonI w k i don) (hk : k < w.length) (hc : (decide ((i : Int) < (n.many2 : Int)) && !don) = false) : don = true := by
  cases don with
  | true => rfl
  | false =>
    rw [Bool.not_false, Bool.and_true, decide_eq_false_iff_not] at hc
    have := o.no rfl
    have := h.at_lt hk
    omega
theorem Net.way_f1 {n : Net} {x : Int} (h : (!n.valid) = true) : n.way x = ([], 2) := by
  have hv : n.valid = false := by simpa using h
  have hf : n.fitE = 2 := by rw [Net.fitE, if_neg (by rw [hv]; decide)]
  rw [Net.way, if_neg (by rw [hf]; decide), hf]
theorem Net.way_f2 {n : Net} {x : Int} (h : (!n.valid) = false) (hs : (!n.small) = true) : n.way x = ([], 5) := by
  have hf := Net.fit_big h hs
  rw [Net.way, if_neg (by rw [hf]; decide), hf]
theorem Net.way_f3 {n : Net} {x : Int} (hf : n.fitE = 0) (h : (decide (x < 0) || decide (x ≥ (n.states : Int))) = true) : n.way x = ([], 2) := by
  rw [Bool.or_eq_true, decide_eq_true_eq, decide_eq_true_eq] at h
  rw [Net.way, if_pos hf, if_pos (by omega)]
end Go.Proofs.YtnnklpmgncbgnaaGreat

/- Sizes of what CycleReaches compares. -/


set_option linter.all false
namespace Go.Proofs.YtnnklpmgncbgnaaGreat
open Go
theorem Net.reaches_sizes {n : Net} (hn : n.Small) (hl : n.light = true) (x : Int) : n.reach.1.length ≤ 1000000000 ∧ Ins (n.way x).1 := by
  have ins0 : Ins ([] : List (List Int)) := ⟨by show (0 : Nat) ≤ _; omega, fun l h => by cases h⟩
  by_cases hf : n.fitE = 0
  · have hr := Net.fit_ready hn hf
    have hsl := Net.states_le hr.r
    have y1 := hr.i
    have y2 := hr.r
    rw [Net.reach_ok hr hf]
    refine ⟨by have := Net.reachL_length hr; show n.reachL.length ≤ _; omega, ?_⟩
    by_cases hx : x < 0 ∨ (n.states : Int) ≤ x
    · rw [Net.way, if_pos hf, if_pos hx]; exact ins0
    · obtain ⟨k, rfl⟩ := Int.eq_ofNat_of_zero_le (show 0 ≤ x by omega)
      rw [Net.way_steps hr hf (by omega)]
      by_cases hd : n.dst k < 0
      · rw [if_pos hd]; exact ins0
      · rw [if_neg hd]
        have hm := Net.dst_mem (n := n) (x := k) (by omega)
        obtain ⟨_, h2, h3, _⟩ := Net.way_to hr hm
        obtain ⟨_, _, v2, _, _⟩ := Net.light_facts hl (Net.known4_eq hn hr.k) (by omega) (by omega)
        have hst : n.states ≤ 32 := by
          rw [n.states_eq]
          exact Nat.le_trans (Nat.pow_le_pow_right (by decide) v2) (by decide)
        exact h3.ins hn (by show (n.wayTo k).length ≤ _; omega)
  · rw [Net.reach, if_neg hf, Net.way, if_neg hf]
    exact ⟨by simp, ins0⟩
end Go.Proofs.YtnnklpmgncbgnaaGreat
