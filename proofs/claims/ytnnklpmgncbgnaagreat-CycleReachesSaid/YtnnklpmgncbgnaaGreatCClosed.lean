/- The search finds what can be reached, and its ways lead there; in plain Lean. -/
import Derived.Test.YtnnklpmgncbgnaaGreatCLane
import Derived.Test.YtnnklpmgncbgnaaGreatCLawR
import Derived.Test.YtnnklpmgncbgnaaGreatCWay
set_option linter.unusedVariables false
set_option linter.unusedSimpArgs false
namespace Go.Proofs.YtnnklpmgncbgnaaGreat
open Go

/-! ### The next state's number -/
theorem laneV_bit (base i : Nat) : ∀ k j, j < k → (laneV base i k).testBit j = decide (bitI ((base : Int) + (j : Int)) i = 1)
  | 0, j, h => by omega
  | k + 1, j, h => by
    show (laneV base i k ||| ((bitI ((base : Int) + (k : Int)) i).toNat <<< k)).testBit j = _
    rw [Nat.testBit_or, Nat.testBit_shiftLeft]
    by_cases e : j = k
    · subst e
      rw [Nat.testBit_lt_two_pow (laneV_lt base i j), Nat.sub_self]
      rcases bitI_01 ((base : Int) + (j : Int)) i with h2 | h2 <;> rw [h2] <;> simp
    · rw [laneV_bit base i k j (by omega), decide_eq_false (show ¬ j ≥ k by omega)]
      simp
theorem laneB_laneV (base i k : Nat) (hk : k < 64) : laneB k (laneV base i 64) = bitI ((base : Int) + (k : Int)) i := by
  rw [laneB, laneV_bit base i 64 k hk]
  rcases bitI_01 ((base : Int) + (k : Int)) i with h | h <;> rw [h] <;> rfl
theorem Net.lane_lanes (n : Net) (base k : Nat) (hk : k < 64) : lane k (n.lanes base 64) = bitsI ((base : Int) + (k : Int)) n.ins.length := by
  rw [lane, Net.lanes, bitsI, List.map_map]
  exact List.map_congr_left fun i _ => laneB_laneV base i k hk
theorem Net.lane_fromN (n : Net) (s : Int) (k : Nat) (hk : k < 64) : lane k (n.fromN s) = bitsI s n.regs.length := by
  rw [lane, Net.fromN, bitsI, List.map_map]
  refine List.map_congr_left fun i _ => ?_
  show laneB k (maskOf (bitI s i)) = bitI s i
  rw [laneB, mask_bit hk]
  rcases bitI_01 s i with e | e <;> rw [e] <;> rfl
theorem Net.toTo_num (n : Net) (v : List Nat) (k : Nat) : ∀ i, i ≤ n.regs.length → n.toTo v k i = numTo (lane k (n.regs.map (nextW v))) i
  | 0, _ => rfl
  | i + 1, h => by
    show n.toTo v k i ||| _ = numTo _ i ||| _
    rw [n.toTo_num v k i (by omega), lane_get, getD_map (nextW v) n.regs i (by omega), ← lane_prog]
    rfl
theorem Net.next_eval {n : Net} (hv : n.valid = true) (s : Int) (j : Nat) : n.nextNum s j = num (n.eval (bitsI (j : Int) n.ins.length) (bitsI s n.regs.length)).2.1 := by
  have hk : j % 64 < 64 := Nat.mod_lt _ (by decide)
  have hw : Wide n (n.lanes (j / 64 * 64) 64) (n.fromN s) := ⟨hv, n.lanes_length _ _, n.fromN_length s, n.lanes_64 _ _ (Nat.le_refl _), n.fromN_64 s⟩
  have he := Net.lane_eval hk hw
  rw [n.lane_lanes _ _ hk, n.lane_fromN _ _ hk] at he
  have e : ((j / 64 * 64 : Nat) : Int) + ((j % 64 : Nat) : Int) = (j : Int) := by omega
  rw [e] at he
  rw [he, Net.nextNum, n.toTo_num _ _ _ (Nat.le_refl _), num, lane_length, List.length_map]
  rfl
/-! ### Numbers and bits -/
theorem numTo_bits (x m : Nat) : ∀ i, i ≤ m → numTo (bitsI (x : Int) m) i = x % 2 ^ i
  | 0, _ => by show 0 = x % 1; omega
  | i + 1, h => by
    have e : ((bitsI (x : Int) m).getD i default).toNat = x / 2 ^ i % 2 := by
      rw [bitsI, range_get _ _ _ (by omega), bitI]
      have : ((x : Int) / 2 ^ i % 2) = ((x / 2 ^ i % 2 : Nat) : Int) := by norm_cast
      rw [this]; rfl
    rw [numTo_step (bitsI_01 _ _), numTo_bits x m i (by omega), e, Nat.mod_pow_succ, Nat.mul_comm, Nat.add_comm]
theorem num_bits {x m : Nat} (h : x < 2 ^ m) : num (bitsI (x : Int) m) = x := by
  rw [num, bitsI_length, numTo_bits x m m (Nat.le_refl _), Nat.mod_eq_of_lt h]
theorem bits_num {l : List Int} (h : Bit01 l) : bitsI (num l : Int) l.length = l :=
  num_inj (bitsI_01 _ _) h (bitsI_length _ _) (num_bits (num_lt h))
/-! ### What the search keeps -/
structure CInv (n : Net) (st : Met × List Nat) : Prop where
  src : ∀ e ∈ st.1, (e.2.1 < 0 ∧ e.1 = num n.firsts) ∨ ∃ s j : Nat, e.2.1 = (s : Int) ∧ e.2.2 = (j : Int) ∧ j < n.many2 ∧ e.1 = n.nextNum s j
  cl : ∀ x ∈ st.1.map (·.1), x ∈ st.2 ∨ ∀ j, j < n.many2 → n.nextNum x j ∈ st.1.map (·.1)
  first : num n.firsts ∈ st.1.map (·.1)
theorem visit_keys {n : Net} {s i : Nat} {st : Met × List Nat} : (∀ x ∈ st.1.map (·.1), x ∈ (n.visit s st i).1.map (·.1)) ∧ n.nextNum s i ∈ (n.visit s st i).1.map (·.1) ∧ (∀ x ∈ (n.visit s st i).1.map (·.1), x ∈ st.1.map (·.1) ∨ x ∈ (n.visit s st i).2) ∧ (∀ x ∈ st.2, x ∈ (n.visit s st i).2) := by
  cases hf : (kFind (n.nextNum s i) st.1).isSome with
  | true =>
    rw [visit_old hf]
    obtain ⟨b, hb⟩ := Option.isSome_iff_exists.1 hf
    exact ⟨fun x h => h, List.mem_map.2 ⟨_, kFind_some hb, rfl⟩, fun x h => .inl h, fun x h => h⟩
  | false =>
    rw [visit_new hf]
    refine ⟨fun x h => ?_, ?_, fun x h => ?_, fun x h => List.mem_append.2 (.inl h)⟩
    · rw [List.map_append, List.mem_append]; exact .inl h
    · rw [List.map_append, List.mem_append]; right; simp
    · rw [List.map_append, List.mem_append] at h
      rcases h with h | h
      · exact .inl h
      · right; rw [List.mem_append]; right; simpa using h
theorem visitTo_keys {n : Net} {s : Nat} {st : Met × List Nat} : ∀ i, (∀ x ∈ st.1.map (·.1), x ∈ (n.visitTo s st i).1.map (·.1)) ∧ (∀ j, j < i → n.nextNum s j ∈ (n.visitTo s st i).1.map (·.1)) ∧ (∀ x ∈ (n.visitTo s st i).1.map (·.1), x ∈ st.1.map (·.1) ∨ x ∈ (n.visitTo s st i).2) ∧ (∀ x ∈ st.2, x ∈ (n.visitTo s st i).2)
  | 0 => ⟨fun x h => h, fun j h => by omega, fun x h => .inl h, fun x h => h⟩
  | i + 1 => by
    obtain ⟨a1, a2, a3, a4⟩ := visitTo_keys (n := n) (s := s) (st := st) i
    obtain ⟨b1, b2, b3, b4⟩ := visit_keys (n := n) (s := s) (i := i) (st := n.visitTo s st i)
    refine ⟨fun x h => b1 x (a1 x h), fun j h => ?_, fun x h => ?_, fun x h => b4 x (a4 x h)⟩
    · by_cases e : j = i
      · subst e; exact b2
      · exact b1 _ (a2 j (by omega))
    · rcases b3 x h with h | h
      · rcases a3 x h with h | h
        · exact .inl h
        · exact .inr (b4 x h)
      · exact .inr h
theorem visitTo_src {n : Net} {s : Nat} {st : Met × List Nat} (h : ∀ e ∈ st.1, (e.2.1 < 0 ∧ e.1 = num n.firsts) ∨ ∃ s j : Nat, e.2.1 = (s : Int) ∧ e.2.2 = (j : Int) ∧ j < n.many2 ∧ e.1 = n.nextNum s j) : ∀ i, i ≤ n.many2 → ∀ e ∈ (n.visitTo s st i).1, (e.2.1 < 0 ∧ e.1 = num n.firsts) ∨ ∃ s j : Nat, e.2.1 = (s : Int) ∧ e.2.2 = (j : Int) ∧ j < n.many2 ∧ e.1 = n.nextNum s j
  | 0, _ => h
  | i + 1, hi => by
    intro e he
    have ih := visitTo_src (s := s) h i (by omega)
    rw [Net.visitTo] at he
    cases hf : (kFind (n.nextNum s i) (n.visitTo s st i).1).isSome with
    | true => rw [visit_old hf] at he; exact ih e he
    | false =>
      rw [visit_new hf] at he
      rcases List.mem_append.1 he with h1 | h1
      · exact ih e h1
      · simp at h1; subst h1
        exact .inr ⟨s, i, rfl, rfl, by omega, rfl⟩
theorem CInv.bstep {n : Net} {st : Met × List Nat} (h : CInv n st) : CInv n (n.bstep st) := by
  by_cases hq : st.2 = []
  · rw [Net.bstep, if_pos hq]; exact h
  · obtain ⟨a1, a2, a3, a4⟩ := visitTo_keys (n := n) (s := headQ st) (st := st) n.many2
    have hd := head_drop (visitTo_head (n := n) (s := headQ st) hq n.many2)
    rw [Net.bstep, if_neg hq]
    refine ⟨visitTo_src h.src _ (Nat.le_refl _), fun x hx => ?_, a1 _ h.first⟩
    by_cases e : x = headQ st
    · subst e; exact .inr a2
    · have key : x ∈ (n.visitTo (headQ st) st n.many2).2 → x ∈ (n.visitTo (headQ st) st n.many2).2.drop 1 := by
        intro hm
        rw [hd] at hm
        rcases List.mem_cons.1 hm with h1 | h1
        · exact absurd h1 e
        · exact h1
      rcases a3 x hx with h1 | h1
      · rcases h.cl x h1 with h2 | h2
        · exact .inl (key (a4 x h2))
        · exact .inr fun j hj => a1 _ (h2 j hj)
      · exact .inl (key h1)
theorem Net.bfs_cinv (n : Net) : ∀ k, CInv n (n.bfsN k)
  | 0 => ⟨by intro e he; simp [Net.bfsN] at he; subst he; left; exact ⟨by show (-1 : Int) < 0; decide, rfl⟩, by intro x hx; simp [Net.bfsN] at hx ⊢; exact .inl hx, by simp [Net.bfsN]⟩
  | k + 1 => (n.bfs_cinv k).bstep
theorem Net.bfs_done {n : Net} (hr : num n.firsts < n.states) : (n.bfsN (2 * n.states)).2 = [] := by
  have key : ∀ k, (∃ j, j ≤ k ∧ (n.bfsN j).2 = []) ∨ BK n k := by
    intro k
    induction k with
    | zero => exact .inr (bk_zero hr)
    | succ k ih =>
      rcases ih with ⟨j, h1, h2⟩ | h
      · exact .inl ⟨j, by omega, h2⟩
      · by_cases hq : (n.bfsN k).2 = []
        · exact .inl ⟨k, by omega, hq⟩
        · exact .inr (bk_succ hr h hq)
  rcases key (2 * n.states) with ⟨j, h1, h2⟩ | h
  · have := Net.bfs_stop h2 (2 * n.states - j)
    rw [show j + (2 * n.states - j) = 2 * n.states by omega] at this
    rw [this]; exact h2
  · have h2 : 2 * n.states + meas n (n.bfsN (2 * n.states)) ≤ 2 * n.states := h
    simp only [meas] at h2
    exact List.eq_nil_of_length_eq_zero (by omega)
/-- All that follows a found state is found. -/
theorem Net.bfs_closed {n : Net} (hr : num n.firsts < n.states) {x : Nat} (hx : x ∈ n.bfs.map (·.1)) {j : Nat} (hj : j < n.many2) : n.nextNum x j ∈ n.bfs.map (·.1) := by
  rcases (n.bfs_cinv (2 * n.states)).cl x hx with h | h
  · rw [Net.bfs_done hr] at h; cases h
  · exact h j hj
theorem Net.bfs_first (n : Net) : num n.firsts ∈ n.bfs.map (·.1) := (n.bfs_cinv (2 * n.states)).first
def keyI (x : Int) : Value := .int .i64 x
def inC (C : List Int) (x : Int) : Bool := (C.map keyI).any (keyEq (keyI x))
theorem keyEq_int (x y : Int) : keyEq (keyI x) (keyI y) = (x == y) := by
  unfold keyI keyEq
  first | rfl | (simp; done) | (cases h : x == y <;> simp_all)
theorem inC_iff {C : List Int} {x : Int} : inC C x = true ↔ x ∈ C := by
  unfold inC
  rw [List.any_map, List.any_eq_true]
  constructor
  · rintro ⟨y, hy, h⟩
    have h : keyEq (keyI x) (keyI y) = true := h
    rw [keyEq_int, beq_iff_eq] at h
    subst h; exact hy
  · intro h
    exact ⟨x, h, by show keyEq (keyI x) (keyI x) = true; rw [keyEq_int]; simp⟩
theorem sorted_lt {C : List Int} (h : C.Pairwise (· < ·)) {i j : Nat} (hij : i < j) (hj : j < C.length) : C.getD i default < C.getD j default := by
  have := List.pairwise_iff_getElem.1 h i j (by omega) hj hij
  rw [List.getD_eq_getElem?_getD, List.getD_eq_getElem?_getD, List.getElem?_eq_getElem (by omega), List.getElem?_eq_getElem hj]
  exact this
theorem sorted_new {C : List Int} (h : C.Pairwise (· < ·)) {i : Nat} (hi : i < C.length) : ((C.take i).map keyI).any (keyEq (keyI (C.getD i default))) = false := by
  cases e : ((C.take i).map keyI).any (keyEq (keyI (C.getD i default))) with
  | false => rfl
  | true =>
    have := inC_iff.1 e
    obtain ⟨k, hk, hk2⟩ := List.getElem_of_mem this
    have h1 : k < i := by simp at hk; omega
    have h2 := sorted_lt h h1 hi
    rw [List.getElem_take] at hk2
    rw [List.getD_eq_getElem?_getD, List.getElem?_eq_getElem (by omega)] at h2
    simp only [Option.getD_some] at h2
    omega


/-! ### Ways lead to their states -/
theorem Net.next_01 {n : Net} (hv : n.valid = true) (s : Int) (j : Nat) : Bit01 (n.eval (bitsI (j : Int) n.ins.length) (bitsI s n.regs.length)).2.1 ∧ (n.eval (bitsI (j : Int) n.ins.length) (bitsI s n.regs.length)).2.1.length = n.regs.length ∧ (n.eval (bitsI (j : Int) n.ins.length) (bitsI s n.regs.length)).2.2 = 0 := by
  have hk : j % 64 < 64 := Nat.mod_lt _ (by decide)
  have hw : Wide n (n.lanes (j / 64 * 64) 64) (n.fromN s) := ⟨hv, n.lanes_length _ _, n.fromN_length s, n.lanes_64 _ _ (Nat.le_refl _), n.fromN_64 s⟩
  have he := Net.lane_eval hk hw
  rw [n.lane_lanes _ _ hk, n.lane_fromN _ _ hk] at he
  have e : ((j / 64 * 64 : Nat) : Int) + ((j % 64 : Nat) : Int) = (j : Int) := by omega
  rw [e] at he
  rw [he]
  exact ⟨lane_01 _ _, by rw [lane_length, List.length_map], rfl⟩
theorem posOf_key {m : Met} {x : Nat} {b : Int × Int} (hn : (m.map (·.1)).Nodup) (h : kFind x m = some b) : (m.getD (posOf m x) default).1 = x := by
  have hm := kFind_some h
  obtain ⟨r, hr, he⟩ := List.getElem_of_mem hm
  have e : m.getD r default = (x, b) := by rw [List.getD_eq_getElem?_getD, List.getElem?_eq_getElem hr, he]; rfl
  have := posOf_eq hr hn
  rw [e] at this
  rw [this, e]
theorem Net.way_facts {n : Net} (h : n.Ready) : ∀ p, p < n.bfs.length → n.stateAt n.firsts (n.wayP p).reverse (n.wayP p).reverse.length = bitsI ((n.bfs.getD p default).1 : Int) n.regs.length ∧ (n.wayP p).length ≤ p ∧ n.Fits (n.wayP p) := by
  intro p
  induction p using Nat.strongRecOn with
  | _ p ih =>
    intro hp
    have hnd := (Net.bfs_inv h.begin.2 (2 * n.states)).nodup
    have hb := h.begin.1
    rcases (n.bfs_cinv (2 * n.states)).src _ (getD_mem (v := n.bfs) hp) with ⟨h1, h2⟩ | ⟨s, j, h1, h2, h3, h4⟩
    · have h1 : (n.bfs.getD p default).2.1 < 0 := h1
      have h2 : (n.bfs.getD p default).1 = num n.firsts := h2
      rw [Net.wayP_end h1, h2]
      have := bits_num hb
      rw [show n.firsts.length = n.regs.length from by simp [Net.firsts]] at this
      rw [this]
      exact ⟨rfl, Nat.zero_le _, by intro l hl; cases hl⟩
    · have h1 : (n.bfs.getD p default).2.1 = (s : Int) := h1
      have h2 : (n.bfs.getD p default).2.2 = (j : Int) := h2
      have h4 : (n.bfs.getD p default).1 = n.nextNum s j := h4
      have h0 : ¬ (n.bfs.getD p default).2.1 < 0 := by rw [h1]; omega
      obtain ⟨t1, t2⟩ := Net.tree_at h hp h0
      have hk := posOf_key hnd t2
      have hw := Net.wayP_step h hp h0
      have hs : (n.bfs.getD p default).2.1.toNat = s := by rw [h1]; rfl
      rw [hs] at t1 hw
      rw [hs] at hk
      obtain ⟨i1, i2, i3⟩ := ih _ t1 (Nat.lt_trans t1 hp)
      have hk : (n.bfs.getD (posOf n.bfs s) default).1 = s := hk
      rw [hk] at i1
      rw [hw, h2, h4]
      refine ⟨?_, by rw [List.length_cons]; omega, ?_⟩
      · rw [List.reverse_cons, List.length_append, List.length_singleton]
        show (n.eval (((n.wayP (posOf n.bfs s)).reverse ++ [bitsI (j : Int) n.ins.length]).getD (n.wayP (posOf n.bfs s)).reverse.length default) (n.stateAt n.firsts ((n.wayP (posOf n.bfs s)).reverse ++ [bitsI (j : Int) n.ins.length]) (n.wayP (posOf n.bfs s)).reverse.length)).2.1 = _
        rw [getD_last, n.stateAt_congr (b := (n.wayP (posOf n.bfs s)).reverse) _ (fun k hk => getD_left hk), i1, Net.next_eval h.v]
        obtain ⟨e1, e2, _⟩ := Net.next_01 h.v (s : Int) j
        have := bits_num e1
        rw [e2] at this
        exact this.symm
      · intro l hl
        rcases List.mem_cons.1 hl with rfl | hl
        · exact ⟨bitsI_length _ _, bit01_bit (bitsI_01 _ _)⟩
        · exact i3 l hl
theorem Net.Fits.rev {n : Net} {a : List (List Int)} (h : n.Fits a) : n.Fits a.reverse := fun l hl => h l (List.mem_reverse.1 hl)
/-- The way to a state that was found. -/
def Net.wayTo (n : Net) (x : Nat) : List (List Int) := (n.wayP (posOf n.bfs x)).reverse
theorem kFind_mem {x : Nat} {m : Met} : (kFind x m).isSome = true ↔ x ∈ m.map (·.1) := by
  cases h : kFind x m with
  | none => simpa using kFind_none.1 h
  | some b => exact ⟨fun _ => List.mem_map.2 ⟨_, kFind_some h, rfl⟩, fun _ => rfl⟩
theorem Net.way_to {n : Net} (h : n.Ready) {x : Nat} (hx : x ∈ n.bfs.map (·.1)) : n.way (x : Int) = (n.wayTo x, 0) ∧ (n.wayTo x).length < n.states ∧ n.Fits (n.wayTo x) ∧ n.stateAt n.firsts (n.wayTo x) (n.wayTo x).length = bitsI (x : Int) n.regs.length := by
  have hi := Net.bfs_inv h.begin.2 (2 * n.states)
  have hs := kFind_mem.2 hx
  obtain ⟨b, hb⟩ := Option.isSome_iff_exists.1 hs
  obtain ⟨p1, p2⟩ := kFind_pos hi.nodup hb
  have hk := posOf_key hi.nodup hb
  have p1 : posOf n.bfs x < n.bfs.length := p1
  have hk : (n.bfs.getD (posOf n.bfs x) default).1 = x := hk
  obtain ⟨w1, w2, w3⟩ := Net.way_facts h _ p1
  rw [hk] at w1
  have hlt : x < n.states := hi.lt x hx
  have hlen : n.bfs.length ≤ n.states := hi.len
  have hfe : n.fitE = 0 := by
    rw [Net.fitE, if_pos h.v, if_pos]
    rw [Net.small, h.k]
    have := h.i
    have := h.r
    simp only [Bool.true_and, Bool.and_eq_true, decide_eq_true_eq]
    omega
  refine ⟨?_, ?_, w3.rev, w1⟩
  · rw [Net.way, if_pos hfe, if_neg (by omega)]
    show (if (kFind (x : Int).toNat n.bfs).isSome = true then _ else _) = _
    rw [show (x : Int).toNat = x from rfl, if_pos hs]
    rfl
  · rw [Net.wayTo, List.length_reverse]; omega
theorem Net.way_no {n : Net} (h : n.Ready) {x : Nat} (hx : ¬ x ∈ n.bfs.map (·.1)) (hl : x < n.states) : n.way (x : Int) = ([], 4) := by
  have hfe : n.fitE = 0 := by
    rw [Net.fitE, if_pos h.v, if_pos]
    rw [Net.small, h.k]
    have := h.i
    have := h.r
    simp only [Bool.true_and, Bool.and_eq_true, decide_eq_true_eq]
    omega
  rw [Net.way, if_pos hfe, if_neg (by omega)]
  rw [show (x : Int).toNat = x from rfl, if_neg (fun e => hx (kFind_mem.1 e))]
/-! ### What Reach tells -/
def Net.reachL (n : Net) : List Int := sortI n.keysI
theorem Net.reachL_mem {n : Net} {x : Nat} : (x : Int) ∈ n.reachL ↔ x ∈ n.bfs.map (·.1) := by
  rw [Net.reachL, (show (sortI n.keysI).Perm n.keysI from List.mergeSort_perm _ _).mem_iff, Net.keysI]
  constructor
  · intro h
    obtain ⟨e, he, h2⟩ := List.mem_map.1 h
    exact List.mem_map.2 ⟨e, he, by omega⟩
  · intro h
    obtain ⟨e, he, rfl⟩ := List.mem_map.1 h
    exact List.mem_map.2 ⟨e, he, rfl⟩
theorem Net.reachL_range {n : Net} (h : n.Ready) : ∀ x ∈ n.reachL, 0 ≤ x ∧ x < n.states := by
  intro x hx
  have hx := (show (sortI n.keysI).Perm n.keysI from List.mergeSort_perm _ _).mem_iff.1 hx
  obtain ⟨e, he, rfl⟩ := List.mem_map.1 hx
  have := (Net.bfs_inv h.begin.2 (2 * n.states)).lt e.1 (List.mem_map.2 ⟨e, he, rfl⟩)
  omega
theorem Net.reachL_sorted {n : Net} (h : n.Ready) : n.reachL.Pairwise (· < ·) := by
  have tr : ∀ a b c : Int, decide (a ≤ b) = true → decide (b ≤ c) = true → decide (a ≤ c) = true := by
    intro a b c h1 h2; simp at *; omega
  have to : ∀ a b : Int, (decide (a ≤ b) || decide (b ≤ a)) = true := by intro a b; simp; omega
  have h1 : n.reachL.Pairwise (fun x y => decide (x ≤ y) = true) := List.pairwise_mergeSort tr to n.keysI
  have hp : n.reachL.Perm n.keysI := List.mergeSort_perm _ _
  have h2 : n.keysI.Nodup := by
    have := (Net.bfs_inv h.begin.2 (2 * n.states)).nodup
    have e : n.keysI = (n.bfs.map (·.1)).map (fun x : Nat => (x : Int)) := by rw [Net.keysI, List.map_map]; rfl
    rw [e]
    exact List.Pairwise.map _ (fun a b hab e => hab (by have e2 : (a : Int) = (b : Int) := e; omega)) this
  have h3 : n.reachL.Nodup := hp.nodup_iff.2 h2
  exact (List.pairwise_and_iff.2 ⟨h1, h3⟩).imp fun {a b} hab => by
    have := hab.1
    have := hab.2
    simp at *
    omega
theorem Net.reachL_length {n : Net} (h : n.Ready) : n.reachL.length ≤ n.states := by
  have hp : n.reachL.Perm n.keysI := List.mergeSort_perm _ _
  rw [hp.length_eq, keysI_length]
  exact (Net.bfs_inv h.begin.2 (2 * n.states)).len
theorem Net.reach_ok {n : Net} (h : n.Ready) (hf : n.fitE = 0) : n.reach = (n.reachL, 0) := by rw [Net.reach, if_pos hf]; rfl
/-- Whether a state was found, as the law asks. -/
def Net.metB (n : Net) (x : Int) : Bool := ((n.reachL.take n.reachL.length).map keyI).any (keyEq (.int .i64 x))
theorem Net.metB_iff {n : Net} {x : Int} : n.metB x = true ↔ x ∈ n.reachL := by
  have := inC_iff (C := n.reachL.take n.reachL.length) (x := x)
  rw [List.take_length] at this
  rw [Net.metB, List.take_length]
  exact this
/-- The law's own number of a list of bits. -/
theorem num_add {l : List Int} (h : Bit01 l) (i : Nat) : ((numTo l i : Nat) : Int) + ((((l.getD i default).toNat <<< i : Nat)) : Int) = ((numTo l (i + 1) : Nat) : Int) := by
  rw [numTo_step h, Nat.shiftLeft_eq]
  omega
theorem Net.known4_eq {n : Net} (hn : n.Small) (h : n.known = true) : n.known4 = true := by
  refine allTo_iff.2 fun k hk => ?_
  have h1 := (known_iff01 hn).1 h (n.regs.getD k default).2.1 (List.mem_map.2 ⟨_, getD_mem hk, rfl⟩)
  rw [known4At]
  rcases h1 with e | e <;> rw [e] <;> rfl
theorem Net.reach_not {n : Net} (hn : n.Small) (hv : n.valid = true) (h : ((!n.known4 || decide ((n.ins.length : Int) > 10)) || decide ((n.regs.length : Int) > 12)) = true) : n.reach = ([], 5) := by
  have hs : n.small = false := by
    cases e : n.small with
    | false => rfl
    | true =>
      rw [Net.small, Bool.and_eq_true, Bool.and_eq_true, decide_eq_true_eq, decide_eq_true_eq] at e
      rw [Net.known4_eq hn e.1.1, decide_eq_false (by omega), decide_eq_false (by omega)] at h
      cases h
  have hf : n.fitE = 5 := by rw [Net.fitE, if_pos hv, if_neg (by rw [hs]; decide)]
  rw [Net.reach, if_neg (by rw [hf]; decide), hf]
def splitTo (x : Int) (i : Nat) : List Int := bitsI x i
theorem bitsI_succ (x : Int) (i : Nat) : bitsI x (i + 1) = bitsI x i ++ [bitI x i] := range_snoc _ _
end Go.Proofs.YtnnklpmgncbgnaaGreat
