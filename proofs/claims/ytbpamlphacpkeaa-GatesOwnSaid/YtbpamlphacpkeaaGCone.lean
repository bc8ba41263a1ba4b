/- What is not in a cone does not matter. -/
import Derived.Test.YtbpamlphacpkeaaGMono
import Derived.Test.YtbpamlphacpkeaaGLev
set_option linter.unusedVariables false
set_option linter.unusedSimpArgs false
namespace Go.Proofs.Ytbpamlphacpkeaa
open Go

theorem getD_app_l {α : Type} [Inhabited α] {a b : List α} {k : Nat} (h : k < a.length) : (a ++ b).getD k default = a.getD k default := by
  rw [List.getD_eq_getElem?_getD, List.getElem?_append_left h, ← List.getD_eq_getElem?_getD]
theorem getD_app_r {α : Type} [Inhabited α] {a b : List α} {k : Nat} (h : a.length ≤ k) : (a ++ b).getD k default = b.getD (k - a.length) default := by
  rw [List.getD_eq_getElem?_getD, List.getElem?_append_right h, ← List.getD_eq_getElem?_getD]
/-! ### Lists changed from the left on -/
def updOf (f : Nat → Int → Int) (l : List Int) : List Int := l.mapIdx f
def updTo (f : Nat → Int → Int) (l : List Int) (i : Nat) : List Int := (updOf f l).take i ++ l.drop i
theorem updOf_length (f : Nat → Int → Int) (l : List Int) : (updOf f l).length = l.length := by simp [updOf]
theorem updTo_length (f : Nat → Int → Int) (l : List Int) (i : Nat) : (updTo f l i).length = l.length := by
  simp [updTo, updOf]; omega
theorem updOf_get (f : Nat → Int → Int) (l : List Int) (i : Nat) (hi : i < l.length) : (updOf f l).getD i default = f i (l.getD i default) := by
  rw [List.getD_eq_getElem?_getD, List.getD_eq_getElem?_getD, updOf, List.getElem?_mapIdx, List.getElem?_eq_getElem hi]
  rfl
theorem updTo_step (f : Nat → Int → Int) (l : List Int) (i : Nat) (hi : i < l.length) : updTo f l (i + 1) = (updTo f l i).set (0 + (i : Int).toNat) (f i (l.getD i default)) := by
  have hl := updOf_length f l
  have hg := updOf_get f l i hi
  have e0 : 0 + (i : Int).toNat = i := by omega
  rw [e0]
  unfold updTo
  rw [take_succ_getD _ i (by omega), hg, List.set_append_right _ _ (by simp; omega)]
  have e : i - ((updOf f l).take i).length = 0 := by simp; omega
  rw [e, List.append_assoc]
  congr 1
  rw [List.drop_eq_getElem_cons hi]
  rfl
theorem updTo_get (f : Nat → Int → Int) (l : List Int) (i : Nat) (hi : i < l.length) : (updTo f l i).getD i default = l.getD i default := by
  have hl := updOf_length f l
  rw [updTo, List.getD_eq_getElem?_getD, List.getD_eq_getElem?_getD, List.getElem?_append_right (by simp; omega)]
  have e2 : i - ((updOf f l).take i).length = 0 := by simp; omega
  rw [e2, List.getElem?_drop]
  rfl
theorem updTo_keep {f : Nat → Int → Int} {l : List Int} {i : Nat} (hi : i < l.length) (h : f i (l.getD i default) = l.getD i default) : updTo f l (i + 1) = updTo f l i := by
  rw [updTo_step f l i hi, h, ← updTo_get f l i hi]
  have e0 : 0 + (i : Int).toNat = i := by omega
  rw [e0, List.getD_eq_getElem?_getD, List.getElem?_eq_getElem (by rw [updTo_length]; exact hi)]
  exact List.set_getElem_self _
theorem updTo_all (f : Nat → Int → Int) (l : List Int) : updTo f l l.length = updOf f l := by
  rw [updTo, List.drop_length, List.append_nil, List.take_of_length_le (by rw [updOf_length]; exact Nat.le_refl _)]
theorem updTo_zero (f : Nat → Int → Int) (l : List Int) : updTo f l 0 = l := by simp [updTo]

/-! ### Marks stay, and what a marked gate takes is marked -/
theorem bool_default : (default : Bool) = false := rfl
theorem getD_mark (v : List Bool) (j k : Nat) : (v.set j true).getD k default = if j = k ∧ k < v.length then true else v.getD k default := by
  rw [List.getD_eq_getElem?_getD, List.getElem?_set]
  by_cases h : j = k
  · subst h
    by_cases h2 : j < v.length
    · simp [h2]
    · simp [h2]
  · simp [h]
theorem mark_get (v : List Bool) (x : Int) (k : Nat) : (mark v x).getD k default = if (x / 2).toNat = k ∧ k < v.length then true else v.getD k default := by
  unfold mark
  rw [Nat.zero_add]
  exact getD_mark v _ k
theorem mark_mono {v : List Bool} {x : Int} {k : Nat} (h : v.getD k default = true) : (mark v x).getD k default = true := by
  rw [mark_get]; split
  · rfl
  · exact h
theorem mark_self {v : List Bool} {x : Int} (h : (x / 2).toNat < v.length) : (mark v x).getD (x / 2).toNat default = true := by
  rw [mark_get, if_pos ⟨rfl, h⟩]
theorem mark_other {v : List Bool} {x : Int} {k : Nat} (h : (x / 2).toNat ≠ k) : (mark v x).getD k default = v.getD k default := by
  rw [mark_get, if_neg (fun hh => h hh.1)]
theorem Net.useStep_mono {n : Net} {v : List Bool} {i k : Nat} (h : v.getD k default = true) : (n.useStep v i).getD k default = true := by
  unfold Net.useStep
  split
  · exact mark_mono (mark_mono h)
  · exact h
theorem Net.useDn_mono {n : Net} {v : List Bool} {k : Nat} (h : v.getD k default = true) : ∀ i, (n.useDn v i).getD k default = true
  | 0 => h
  | i + 1 => Net.useStep_mono (Net.useDn_mono h i)
theorem Net.useAt_mono {n : Net} {v : List Bool} {i k : Nat} (h : v.getD k default = true) : (n.useAt v i).getD k default = true := Net.useDn_mono h _
def Net.N (n : Net) : Nat := 1 + n.ins.length + n.regs.length + n.gates.length
theorem Net.use_closed {n : Net} (hv : n.valid = true) {v : List Bool} (hl : v.length = n.N) : ∀ k, k ≤ n.gates.length → ∀ j, n.gates.length - k ≤ j → j < n.gates.length → (n.useDn v k).getD (1 + n.ins.length + n.regs.length + j) default = true →
    (n.useDn v k).getD ((n.gates.getD j default).1 / 2).toNat default = true ∧ (n.useDn v k).getD ((n.gates.getD j default).2 / 2).toNat default = true
  | 0, _, j, h1, h2, _ => by omega
  | k + 1, hk, j, h1, h2, h => by
    obtain ⟨_, _, _, _, f5, _, _⟩ := Net.valid_facts hv
    have ih := Net.use_closed hv hl k (by omega)
    have hlen : (n.useDn v k).length = n.N := by rw [n.useDn_length, hl]
    have hN : n.N = 1 + n.ins.length + n.regs.length + n.gates.length := rfl
    have hg := f5 j h2
    generalize hi : n.gates.length - (k + 1) = i at h1
    have ei : n.gates.length - k = i + 1 := by omega
    have hgi := f5 i (by omega)
    have e1 : (((i + 1 : Nat) : Int) - 1).toNat = i := by omega
    have e2 : 0 + (n.first + (((i + 1 : Nat) : Int) - 1)).toNat = 1 + n.ins.length + n.regs.length + i := by unfold Net.first; omega
    rw [Net.useDn, ei] at h ⊢
    generalize hu : n.useDn v k = u at *
    unfold Net.useStep at h ⊢
    rw [e1, e2] at h ⊢
    by_cases hm : u.getD (1 + n.ins.length + n.regs.length + i) default = true
    · rw [if_pos hm] at h ⊢
      by_cases e : j = i
      · subst e
        exact ⟨mark_mono (mark_self (by omega)), mark_self (by rw [mark_length]; omega)⟩
      · rw [mark_other (by omega), mark_other (by omega)] at h
        obtain ⟨a, b⟩ := ih j (by omega) h2 h
        exact ⟨mark_mono (mark_mono a), mark_mono (mark_mono b)⟩
    · rw [if_neg hm] at h ⊢
      by_cases e : j = i
      · subst e; exact absurd h hm
      · exact ih j (by omega) h2 h
theorem Net.used_closed {n : Net} (hv : n.valid = true) (l : List Int) (j : Nat) (hj : j < n.gates.length) (h : (n.used l).getD (1 + n.ins.length + n.regs.length + j) default = true) :
    (n.used l).getD ((n.gates.getD j default).1 / 2).toNat default = true ∧ (n.used l).getD ((n.gates.getD j default).2 / 2).toNat default = true :=
  Net.use_closed hv (n.marksTo_length l l.length) (n.gates.length - 0) (by omega) j (by omega) hj h
theorem marks_mono {v : List Bool} {k : Nat} (l : List Int) (h : v.getD k default = true) : (marks v l).getD k default = true := by
  induction l generalizing v with
  | nil => exact h
  | cons x l ih => exact ih (mark_mono h)
theorem marks_mem {v : List Bool} {l : List Int} {x : Int} (hx : x ∈ l) (hr : (x / 2).toNat < v.length) : (marks v l).getD (x / 2).toNat default = true := by
  induction l generalizing v with
  | nil => cases hx
  | cons y l ih =>
    rcases List.mem_cons.1 hx with rfl | hx
    · exact marks_mono l (mark_self hr)
    · exact ih hx (by rw [mark_length]; exact hr)
theorem Net.used_mem {n : Net} {l : List Int} {x : Int} (hx : x ∈ l) (h0 : 0 ≤ x) (h1 : x < 2 * (1 + n.ins.length + n.regs.length + n.gates.length)) : (n.used l).getD (x / 2).toNat default = true := by
  refine Net.useAt_mono ?_
  rw [Net.marksTo, List.take_length]
  exact marks_mem hx (by rw [n.all0_length]; omega)

/-! ### Bits of a cone -/
/-- Two lists of bits that agree where it matters. -/
theorem Net.vals_agree {n : Net} (hv : n.valid = true) {v : List Bool} (hc : ∀ j, j < n.gates.length → v.getD (1 + n.ins.length + n.regs.length + j) default = true → v.getD ((n.gates.getD j default).1 / 2).toNat default = true ∧ v.getD ((n.gates.getD j default).2 / 2).toNat default = true)
    {a b c d : List Int} (la : a.length = n.ins.length) (lb : b.length = n.regs.length) (lc : c.length = n.ins.length) (ld : d.length = n.regs.length)
    (h1 : ∀ j, j < n.ins.length → v.getD (1 + j) default = true → a.getD j default = c.getD j default) (h2 : ∀ j, j < n.regs.length → v.getD (1 + n.ins.length + j) default = true → b.getD j default = d.getD j default) :
    ∀ i, i ≤ n.gates.length → ∀ k, k < 1 + n.ins.length + n.regs.length + i → v.getD k default = true → (n.valsTo a b i).getD k default = (n.valsTo c d i).getD k default
  | 0, _, k, hk, hm => by
    simp only [Net.valsTo]
    by_cases e1 : k < 1 + n.ins.length
    · rw [getD_app_l (a := [0] ++ a) (b := b) (by simp; omega), getD_app_l (a := [0] ++ c) (b := d) (by simp; omega)]
      by_cases e2 : k = 0
      · subst e2; rfl
      · obtain ⟨j, rfl⟩ : ∃ j, k = 1 + j := ⟨k - 1, by omega⟩
        rw [getD_app_r (a := [0]) (b := a) (by simp), getD_app_r (a := [0]) (b := c) (by simp)]
        have e3 : 1 + j - ([0] : List Int).length = j := by simp
        rw [e3]; exact h1 j (by omega) hm
    · obtain ⟨j, rfl⟩ : ∃ j, k = 1 + n.ins.length + j := ⟨k - (1 + n.ins.length), by omega⟩
      rw [getD_app_r (a := [0] ++ a) (b := b) (by simp; omega), getD_app_r (a := [0] ++ c) (b := d) (by simp; omega)]
      have e3 : 1 + n.ins.length + j - ([0] ++ a).length = j := by simp; omega
      have e4 : 1 + n.ins.length + j - ([0] ++ c).length = j := by simp; omega
      rw [e3, e4]; exact h2 j (by omega) hm
  | i + 1, hi, k, hk, hm => by
    have ih := Net.vals_agree hv hc la lb lc ld h1 h2 i (by omega)
    have l1 := n.valsTo_length a b i
    have l2 := n.valsTo_length c d i
    obtain ⟨_, _, _, _, f5, _, _⟩ := Net.valid_facts hv
    have hg := f5 i (by omega)
    simp only [Net.valsTo]
    by_cases e : k < 1 + n.ins.length + n.regs.length + i
    · rw [getD_app_l (by omega), getD_app_l (by omega)]
      exact ih k e hm
    · have ek : k = 1 + n.ins.length + n.regs.length + i := by omega
      subst ek
      obtain ⟨m1, m2⟩ := hc i (by omega) hm
      have g1 := ih _ (by omega) m1
      have g2 := ih _ (by omega) m2
      have o1 : ofB (n.valsTo a b i) (n.gates.getD i default).1 = ofB (n.valsTo c d i) (n.gates.getD i default).1 := by unfold ofB; rw [g1]
      have o2 : ofB (n.valsTo a b i) (n.gates.getD i default).2 = ofB (n.valsTo c d i) (n.gates.getD i default).2 := by unfold ofB; rw [g2]
      rw [getD_app_r (by omega), getD_app_r (by omega), l1, l2, la, lb, lc, ld, o1, o2]

/-! ### The list of a cone -/
def keyI (x : Int) : Value := .int .i64 x
def inC (C : List Int) (x : Int) : Bool := (C.map keyI).any (keyEq (keyI x))
theorem keyEq_int (x y : Int) : keyEq (keyI x) (keyI y) = (x == y) := by
  unfold keyI keyEq
  first | rfl | (simp; done) | (cases h : x == y <;> simp_all)
theorem inC_iff {C : List Int} {x : Int} : inC C x = true ↔ x ∈ C := by
  unfold inC
  rw [List.any_map, List.any_eq_true]
  constructor
  · rintro ⟨y, hy, h⟩
    have h : keyEq (keyI x) (keyI y) = true := h
    rw [keyEq_int, beq_iff_eq] at h
    subst h; exact hy
  · intro h
    exact ⟨x, h, by show keyEq (keyI x) (keyI x) = true; rw [keyEq_int]; simp⟩
theorem coneTo_mem {v : List Bool} {k : Nat} : ∀ i, k < i → v.getD k default = true → (k : Int) ∈ coneTo v i
  | i + 1, hk, h => by
    rw [coneTo]
    by_cases e : k = i
    · subst e; rw [if_pos h]; simp
    · have := coneTo_mem (v := v) i (by omega) h
      split
      · simp [this]
      · exact this
theorem coneTo_lt {v : List Bool} : ∀ i x, x ∈ coneTo v i → 0 ≤ x ∧ x < i
  | 0, x, h => by simp [coneTo] at h
  | i + 1, x, h => by
    rw [coneTo] at h
    split at h
    · rcases List.mem_append.1 h with h | h
      · have := coneTo_lt i x h; omega
      · simp at h; omega
    · have := coneTo_lt i x h; omega
theorem coneTo_sorted (v : List Bool) : ∀ i, (coneTo v i).Pairwise (· < ·)
  | 0 => .nil
  | i + 1 => by
    rw [coneTo]
    split
    · rw [List.pairwise_append]
      refine ⟨coneTo_sorted v i, by simp, fun a ha b hb => ?_⟩
      simp at hb
      have := coneTo_lt i a ha
      omega
    · exact coneTo_sorted v i
theorem sorted_lt {C : List Int} (h : C.Pairwise (· < ·)) {i j : Nat} (hij : i < j) (hj : j < C.length) : C.getD i default < C.getD j default := by
  have := List.pairwise_iff_getElem.1 h i j (by omega) hj hij
  rw [List.getD_eq_getElem?_getD, List.getD_eq_getElem?_getD, List.getElem?_eq_getElem (by omega), List.getElem?_eq_getElem hj]
  exact this
theorem sorted_new {C : List Int} (h : C.Pairwise (· < ·)) {i : Nat} (hi : i < C.length) : ((C.take i).map keyI).any (keyEq (keyI (C.getD i default))) = false := by
  cases e : ((C.take i).map keyI).any (keyEq (keyI (C.getD i default))) with
  | false => rfl
  | true =>
    have := inC_iff.1 e
    obtain ⟨k, hk, hk2⟩ := List.getElem_of_mem this
    have h1 : k < i := by simp at hk; omega
    have h2 := sorted_lt h h1 hi
    rw [List.getElem_take] at hk2
    rw [List.getD_eq_getElem?_getD, List.getElem?_eq_getElem (by omega)] at h2
    simp only [Option.getD_some] at h2
    omega

/-! ### The law's answer -/
def swapI (C y : List Int) (j : Nat) (b : Int) : Int := if inC C (1 + (j : Int)) then b else y.getD j default
def swapR (C y a : List Int) (j : Nat) (b : Int) : Int := if inC C (1 + (a.length : Int) + (j : Int)) then b else y.getD ((a.length : Int) + (j : Int)).toNat default
theorem swapI_yes {C y : List Int} {j : Nat} {b : Int} (h : (!((C.take C.length).map keyI).any (keyEq (.int .i64 (1 + (j : Int))))) = false) : swapI C y j b = b := by
  rw [List.take_length] at h
  have h : inC C (1 + (j : Int)) = true := by rw [inC]; rw [Bool.not_eq_false'] at h; exact h
  rw [swapI, if_pos h]
theorem swapI_no {C y : List Int} {j : Nat} {b : Int} (h : (!((C.take C.length).map keyI).any (keyEq (.int .i64 (1 + (j : Int))))) = true) : swapI C y j b = y.getD j default := by
  rw [List.take_length] at h
  have h : inC C (1 + (j : Int)) = false := by rw [inC]; rw [Bool.not_eq_true'] at h; exact h
  rw [swapI, if_neg (by rw [h]; decide)]
theorem swapR_yes {C y a : List Int} {j : Nat} {b : Int} (h : (!((C.take C.length).map keyI).any (keyEq (.int .i64 (1 + (a.length : Int) + (j : Int))))) = false) : swapR C y a j b = b := by
  rw [List.take_length] at h
  have h : inC C (1 + (a.length : Int) + (j : Int)) = true := by rw [inC]; rw [Bool.not_eq_false'] at h; exact h
  rw [swapR, if_pos h]
theorem swapR_no {C y a : List Int} {j : Nat} {b : Int} (h : (!((C.take C.length).map keyI).any (keyEq (.int .i64 (1 + (a.length : Int) + (j : Int))))) = true) : swapR C y a j b = y.getD ((a.length : Int) + (j : Int)).toNat default := by
  rw [List.take_length] at h
  have h : inC C (1 + (a.length : Int) + (j : Int)) = false := by rw [inC]; rw [Bool.not_eq_true'] at h; exact h
  rw [swapR, if_neg (by rw [h]; decide)]
theorem Net.cone_zero {n : Net} {lit : Int} (h : (n.cone lit).2 = 0) : n.valid = true ∧ 0 ≤ lit ∧ lit < 2 * (1 + n.ins.length + n.regs.length + n.gates.length) := by
  unfold Net.cone at h
  split at h
  · rename_i hc
    simp only [litOK, Bool.and_eq_true, decide_eq_true_eq] at hc
    unfold Net.first at hc
    exact ⟨hc.1, by omega, by omega⟩
  · cases h
theorem Net.cone_sorted (n : Net) (lit : Int) : (n.cone lit).1.Pairwise (· < ·) := by
  unfold Net.cone
  split
  · exact coneTo_sorted _ _
  · exact .nil
theorem updOf_bit {f : Nat → Int → Int} {l : List Int} (h : ∀ j, j < l.length → isBit (f j (l.getD j default))) : ∀ x ∈ updOf f l, isBit x := by
  intro x hx
  obtain ⟨i, hi, rfl⟩ := List.getElem_of_mem hx
  have hi' : i < l.length := by rw [updOf_length] at hi; exact hi
  have := h i hi'
  rw [← updOf_get f l i hi', List.getD_eq_getElem?_getD, List.getElem?_eq_getElem hi] at this
  exact this
theorem Net.cones_law {n : Net} (hv : n.valid = true) {lit : Int} (h0 : 0 ≤ lit) (h1 : lit < 2 * (1 + n.ins.length + n.regs.length + n.gates.length)) {a b y : List Int} (la : a.length = n.ins.length) (lb : b.length = n.regs.length) (ly : y.length = n.ins.length + n.regs.length)
    (ba : ∀ x ∈ a, isBit x) (bb : ∀ x ∈ b, isBit x) (by' : ∀ x ∈ y, isBit x) {C : List Int} (hC : C = (n.cone lit).1) :
    let c := updOf (swapI C y) a
    let d := updOf (swapR C y a) b
    (∀ x ∈ c, isBit x) ∧ (∀ x ∈ d, isBit x) ∧ (n.all a b).2 = 0 ∧ (n.all c d).2 = 0 ∧ (n.all a b).1.length = n.N ∧ (n.all c d).1.length = n.N ∧ (n.all a b).1.getD (lit / 2).toNat default = (n.all c d).1.getD (lit / 2).toNat default := by
  intro c d
  have lc : c.length = n.ins.length := by rw [show c = updOf (swapI C y) a from rfl, updOf_length, la]
  have ld : d.length = n.regs.length := by rw [show d = updOf (swapR C y a) b from rfl, updOf_length, lb]
  have bc : ∀ x ∈ c, isBit x := updOf_bit fun j hj => by
    unfold swapI; split
    · exact ba _ (getD_mem hj)
    · exact by' _ (getD_mem (by omega))
  have bd : ∀ x ∈ d, isBit x := updOf_bit fun j hj => by
    unfold swapR; split
    · exact bb _ (getD_mem hj)
    · exact by' _ (getD_mem (by omega))
  have hul := n.used_length [lit]
  have hC' : C = coneTo (n.used [lit]) (n.used [lit]).length := by rw [hC, Net.cone_yes ⟨hv, h0, h1⟩]
  have hin : ∀ k, k < n.N → (n.used [lit]).getD k default = true → inC C (k : Int) = true := fun k hk h => inC_iff.2 (by rw [hC']; exact coneTo_mem _ (by rw [hul]; exact hk) h)
  have hN : n.N = 1 + n.ins.length + n.regs.length + n.gates.length := rfl
  have key := Net.vals_agree hv (v := n.used [lit]) (fun j hj h => Net.used_closed hv [lit] j hj h) la lb lc ld (fun j hj h => by
      have h2 := hin (1 + j) (by omega) h
      rw [show c = updOf (swapI C y) a from rfl, updOf_get _ _ _ (by omega), swapI, if_pos (by rw [← h2]; first | (congr 1; done) | (congr 1; omega))]) (fun j hj h => by
      have h2 := hin (1 + n.ins.length + j) (by omega) h
      rw [show d = updOf (swapR C y a) b from rfl, updOf_get _ _ _ (by omega), swapR, if_pos (by rw [← h2]; congr 1; omega)]) n.gates.length (Nat.le_refl _) (lit / 2).toNat (by omega) (Net.used_mem (by simp) h0 h1)
  rw [Net.all_ok (Net.bad_ok hv la lb ba bb), Net.all_ok (Net.bad_ok hv lc ld bc bd)]
  refine ⟨bc, bd, rfl, rfl, ?_, ?_, key⟩
  · simp only [Net.valsTo_length]; omega
  · simp only [Net.valsTo_length]; omega
end Go.Proofs.Ytbpamlphacpkeaa
