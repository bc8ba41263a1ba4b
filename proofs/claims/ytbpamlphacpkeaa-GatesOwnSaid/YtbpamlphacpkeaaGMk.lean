/- What makers of both kinds compute: registers, Xor, Mux, nets; what is there is what a search finds. -/
import Derived.Test.YtbpamlphacpkeaaGEq
set_option linter.unusedVariables false
set_option linter.unusedSimpArgs false
namespace Go.Proofs.Ytbpamlphacpkeaa
open Go

theorem lendL_whole {σ : Store} {id ver m sz : Nat} {els : List (List AVal)} (hid : σ.get id = some (ver, .row sz els)) (hm : m = els.length) (hc : ∀ el ∈ els, el.all AVal.clo1 = true) : LendL σ (.slice id ver 0 m) (.list sz els) := by
  subst hm
  have := LendL.slice (σ := σ) id ver 0 els.length sz els hid (by omega) hc
  simpa using this
theorem lend2_nil {σ : Store} : All2 (LendL σ) [] [] := trivial
theorem lend2_cons {σ : Store} {a b : AVal} {xs ys : List AVal} (h : LendL σ a b) (hs : All2 (LendL σ) xs ys) : All2 (LendL σ) (a :: xs) (b :: ys) := ⟨h, hs⟩
/-- A net whose lists are somebody's own. -/
theorem lend_net3 {σ : Store} {i r g vi vr vg : Nat} {ins : List ByteArray} {regs : List (ByteArray × Int × Int)} {gates : List (Int × Int)} (h1 : σ.get i = some (vi, .row 1 (ins.map encS))) (h2 : σ.get r = some (vr, .row 3 (regs.map encR))) (h3 : σ.get g = some (vg, .row 2 (gates.map encG))) :
    LendA σ (.agg [.slice i vi 0 ins.length, .slice r vr 0 regs.length, .slice g vg 0 gates.length, .v (.slice none 0 0)]) (encN ⟨ins, regs, gates, []⟩) :=
  .agg _ _ (lend2_cons (lendL_whole h1 (by simp) (clo_map (fun _ => rfl))) (lend2_cons (lendL_whole h2 (by simp) (clo_map (fun _ => rfl))) (lend2_cons (lendL_whole h3 (by simp) (clo_map (fun _ => rfl))) (lend2_cons (.vnil 2) lend2_nil))))
theorem lendL_vnil {α : Type} {σ : Store} {sz : Nat} {f : α → List AVal} : LendL σ (.v (.slice none 0 0)) (.list sz (([] : List α).map f)) := .vnil sz
theorem lend_netg {σ : Store} {a b c d : AVal} {ins : List ByteArray} {regs : List (ByteArray × Int × Int)} {gates : List (Int × Int)} {outs : List (ByteArray × Int)} (h1 : LendL σ a (.list 1 (ins.map encS))) (h2 : LendL σ b (.list 3 (regs.map encR))) (h3 : LendL σ c (.list 2 (gates.map encG))) (h4 : LendL σ d (.list 2 (outs.map encP))) :
    LendA σ (.agg [a, b, c, d]) (encN ⟨ins, regs, gates, outs⟩) := .agg _ _ (lend2_cons h1 (lend2_cons h2 (lend2_cons h3 (lend2_cons h4 lend2_nil))))
theorem lend_net1 {σ : Store} {r vr : Nat} {ins : List ByteArray} {regs : List (ByteArray × Int × Int)} {gates : List (Int × Int)} {outs : List (ByteArray × Int)} (h2 : σ.get r = some (vr, .row 3 (regs.map encR))) :
    LendA σ (.agg [.list 1 (ins.map encS), .slice r vr 0 regs.length, .list 2 (gates.map encG), .list 2 (outs.map encP)]) (encN ⟨ins, regs, gates, outs⟩) :=
  .agg _ _ (lend2_cons (.same _) (lend2_cons (lendL_whole h2 (by simp) (clo_map (fun _ => rfl))) (lend2_cons (.same _) (lend2_cons (.same _) lend2_nil))))

/-! ### What is there -/
def MS.first (s : MS) : Int := (s.made []).first
theorem MS.lits_first (s : MS) : s.lits = 2 * (s.first + s.gates.length) := rfl
theorem MS.first_eq (s : MS) : s.first = 1 + s.ins.length + s.regs.length := rfl
def MS.at (s : MS) (p : Int × Int) (k : Nat) : Bool := gateB (s.gates.getD k default) p
structure MS.Good (s : MS) : Prop where
  ok : s.OK
  small : (s.made []).Small
  there : ∀ p, thFind p s.th = (firstTo (s.at p) s.gates.length).map fun (k : Nat) => 2 * (s.first + (k : Int))
theorem firstTo_congr {p q : Nat → Bool} {n : Nat} (h : ∀ k, k < n → p k = q k) : firstTo p n = firstTo q n := by
  induction n with
  | zero => rfl
  | succ n ih => simp only [firstTo]; rw [ih (fun k hk => h k (by omega)), h n (by omega)]
theorem thFind_snoc (p q : Int × Int) (l : Int) (th : List ((Int × Int) × Int)) : thFind p (th ++ [(q, l)]) = match thFind p th with | some x => some x | none => if p.1 == q.1 && p.2 == q.2 then some l else none := by
  induction th with
  | nil => rfl
  | cons e r ih =>
    obtain ⟨q', k⟩ := e
    simp only [List.cons_append, thFind, ih]
    split <;> rfl
theorem getD_snoc_l {α : Type} [Inhabited α] {l : List α} {x : α} {k : Nat} (h : k < l.length) : (l ++ [x]).getD k default = l.getD k default := by
  rw [List.getD_eq_getElem?_getD, List.getElem?_append_left h, ← List.getD_eq_getElem?_getD]
theorem getD_snoc_r {α : Type} [Inhabited α] {l : List α} {x : α} : (l ++ [x]).getD l.length default = x := by
  rw [List.getD_eq_getElem?_getD, List.getElem?_append_right (Nat.le_refl _)]; simp
theorem MS.add_good {s : MS} (h : s.Good) (hg : ¬ (s.gates.length : Int) ≥ 20000) {p : Int × Int} (h1 : p.1 ≤ 9223372036854775807) (h2 : p.2 ≤ 9223372036854775807) (hn : thFind p s.th = none) : (s.add p).Good := by
  refine ⟨MS.add_ok h.ok hg p, ?_, fun q => ?_⟩
  · obtain ⟨a1, a2, a3, a4, a5, a6, a7, a8, a9, a10, a11⟩ := h.small
    refine ⟨a1, a2, a3, a4, a5, ?_, a7, a8, ?_, a10, a11⟩
    · show (s.gates ++ [p]).length ≤ _
      simp; omega
    · intro g hgm
      have hgm : g ∈ s.gates ++ [p] := hgm
      rcases List.mem_append.1 hgm with hgm | hgm
      · exact a9 g hgm
      · simp at hgm; subst hgm; exact ⟨h1, h2⟩
  · show thFind q (s.th ++ [(p, s.lits)]) = (firstTo ((s.add p).at q) (s.gates ++ [p]).length).map _
    have hf : (s.add p).first = s.first := rfl
    have hc0 : firstTo ((s.add p).at q) s.gates.length = firstTo (s.at q) s.gates.length := firstTo_congr (fun k hk => by
      show gateB ((s.gates ++ [p]).getD k default) q = gateB (s.gates.getD k default) q
      rw [getD_snoc_l hk])
    rw [thFind_snoc, h.there q, List.length_append, List.length_singleton, firstTo, hc0]
    cases hc : firstTo (s.at q) s.gates.length with
    | some k => simp [hf]
    | none =>
      have e : (s.add p).at q s.gates.length = (q.1 == p.1 && q.2 == p.2) := by
        show gateB ((s.gates ++ [p]).getD s.gates.length default) q = _
        rw [getD_snoc_r, gateB, Bool.and_true, Bool.beq_comm, Bool.beq_comm (a := p.2)]
      simp only [Option.map_none, e]
      split
      · simp [hf, MS.lits_first]
      · rfl
theorem MS.and_good {s : MS} (h : s.Good) (a b : Int) : (s.and a b).2.Good := by
  unfold MS.and
  split
  · exact h
  · rename_i hn
    have hab := MS.no_two (s := s) (a := a) (b := b) (by simpa using hn)
    have hl := h.ok.lits
    split
    · exact h
    · split
      · exact h
      · split
        · exact h
        · rename_i hf
          split
          · exact h
          · rename_i hg
            exact MS.add_good h hg (by simp only; omega) (by simp only; omega) hf
theorem MS.or_good {s : MS} (h : s.Good) (a b : Int) : (s.or a b).2.Good := by
  unfold MS.or
  split
  · exact h
  · split <;> exact MS.and_good h _ _
theorem MS.or_ok' {s : MS} (h : s.OK) (a b : Int) : (s.or a b).2.OK := by
  unfold MS.or
  split
  · exact h
  · split <;> exact MS.and_ok h _ _
/-! ### The reference's And -/
theorem flip_eq {a : Int} : flip a = if a % 2 = 0 then a + 1 else a - 1 := rfl
theorem MS.rand_zero {s : MS} {a b : Int} (h0 : s.no [a, b] = 0) (h : (a == 0 || b == 0 || (a / 2 == b / 2 && a != b)) = true) : s.and a b = ((0, 0), s) := by
  obtain ⟨q1, q2, q3, q4⟩ := MS.no_two h0
  refine MS.and_zero h0 ?_
  simp only [Bool.or_eq_true, Bool.and_eq_true, beq_iff_eq, bne_iff_ne] at h ⊢
  rw [flip_eq]
  split <;> omega
theorem MS.rand_nz {s : MS} {a b : Int} (h0 : s.no [a, b] = 0) (h : (a == 0 || b == 0 || (a / 2 == b / 2 && a != b)) = false) : (min a b == 0 || flip (min a b) == max a b) = false := by
  obtain ⟨q1, q2, q3, q4⟩ := MS.no_two h0
  simp only [Bool.or_eq_false_iff, Bool.and_eq_false_iff, beq_eq_false_iff_ne, bne_eq_false_iff_eq] at h ⊢
  rw [flip_eq]
  split <;> omega
theorem MS.rand_one {s : MS} {a b : Int} (h0 : s.no [a, b] = 0) (h : (a == 0 || b == 0 || (a / 2 == b / 2 && a != b)) = false) (h1 : (a == 1) = true) : s.and a b = ((b, 0), s) := by
  obtain ⟨q1, q2, q3, q4⟩ := MS.no_two h0
  have hz := MS.rand_nz h0 h
  simp only [Bool.or_eq_false_iff, beq_eq_false_iff_ne, beq_iff_eq] at h h1
  rw [MS.and_one h0 hz (by simp only [Bool.or_eq_true, beq_iff_eq]; omega)]
  have : max a b = b := by omega
  rw [this]
theorem MS.rand_two {s : MS} {a b : Int} (h0 : s.no [a, b] = 0) (h : (a == 0 || b == 0 || (a / 2 == b / 2 && a != b)) = false) (h2 : (b == 1 || a == b) = true) : s.and a b = ((a, 0), s) := by
  obtain ⟨q1, q2, q3, q4⟩ := MS.no_two h0
  have hz := MS.rand_nz h0 h
  simp only [Bool.or_eq_false_iff, beq_eq_false_iff_ne, beq_iff_eq, Bool.or_eq_true] at h h2
  rw [MS.and_one h0 hz (by simp only [Bool.or_eq_true, beq_iff_eq]; omega)]
  have : max a b = a := by omega
  rw [this]
theorem MS.rand_no1 {s : MS} {a b : Int} (h1 : (a == 1) = false) (h2 : (b == 1 || a == b) = false) : (min a b == 1 || min a b == max a b) = false := by
  simp only [Bool.or_eq_false_iff, beq_eq_false_iff_ne] at h1 h2 ⊢
  omega
theorem MS.rand_there {s : MS} (hs : s.Good) {a b : Int} {i : Nat} (h0 : s.no [a, b] = 0) (h : (a == 0 || b == 0 || (a / 2 == b / 2 && a != b)) = false) (h1 : (a == 1) = false) (h2 : (b == 1 || a == b) = false) (hi : i < s.gates.length) (hf : firstTo (s.at (min a b, max a b)) i = none) (hp : gateB (s.gates.getD i default) (min a b, max a b) = true) : s.and a b = ((2 * (s.first + i), 0), s) := by
  have e : thFind (min a b, max a b) s.th = some (2 * (s.first + i)) := by rw [hs.there, firstTo_some hi hf hp]; rfl
  rw [MS.and_there h0 (MS.rand_nz h0 h) (MS.rand_no1 (s := s) h1 h2) (by rw [e]; rfl), e]; rfl
theorem MS.rand_full {s : MS} (hs : s.Good) {a b : Int} (h0 : s.no [a, b] = 0) (h : (a == 0 || b == 0 || (a / 2 == b / 2 && a != b)) = false) (h1 : (a == 1) = false) (h2 : (b == 1 || a == b) = false) (hf : firstTo (s.at (min a b, max a b)) s.gates.length = none) (hg : (s.gates.length : Int) ≥ 20000) : s.and a b = ((0, 3), s) :=
  MS.and_full h0 (MS.rand_nz h0 h) (MS.rand_no1 (s := s) h1 h2) (by rw [hs.there, hf]; rfl) hg
theorem MS.rand_new {s : MS} (hs : s.Good) {a b : Int} (h0 : s.no [a, b] = 0) (h : (a == 0 || b == 0 || (a / 2 == b / 2 && a != b)) = false) (h1 : (a == 1) = false) (h2 : (b == 1 || a == b) = false) (hf : firstTo (s.at (min a b, max a b)) s.gates.length = none) (hg : ¬ (s.gates.length : Int) ≥ 20000) : s.and a b = ((s.lits, 0), s.add (min a b, max a b)) :=
  MS.and_new h0 (MS.rand_nz h0 h) (MS.rand_no1 (s := s) h1 h2) (by rw [hs.there, hf]; rfl) hg
theorem MS.no_lits (s : MS) (l : List Int) : (s.no l == 0) = allTo (s.litAt l) l.length := by
  unfold MS.no
  cases allTo (s.litAt l) l.length <;> rfl
theorem MS.lit_litOK (s : MS) (l : List Int) (i : Nat) : s.litAt l i = litOK (l.getD i default) (s.first + s.gates.length) := by
  rw [Bool.eq_iff_iff]
  have e := MS.lits_first s
  simp only [MS.litAt, litOK, Bool.not_eq_true', Bool.or_eq_false_iff, decide_eq_false_iff_not, Bool.and_eq_true, decide_eq_true_eq]
  constructor <;> intro h <;> omega
theorem MS.no_val (s : MS) (l : List Int) : s.no l = 0 ∨ s.no l = 2 := by unfold MS.no; split <;> simp
theorem MS.no_err {s : MS} {l : List Int} (h : (s.no l == 0) = false) : s.no l = 2 := by
  rcases s.no_val l with e | e
  · rw [e] at h; cases h
  · exact e

/-! ### Xor and Mux -/
def MS.either (s : MS) (a b c d : Int) : (Int × Int) × MS :=
  if (s.and a b).1.2 ≠ 0 then ((0, (s.and a b).1.2), (s.and a b).2) else
  if ((s.and a b).2.and c d).1.2 ≠ 0 then ((0, ((s.and a b).2.and c d).1.2), ((s.and a b).2.and c d).2) else
  ((s.and a b).2.and c d).2.or (s.and a b).1.1 ((s.and a b).2.and c d).1.1
theorem MS.either_1 {s : MS} {a b c d : Int} (h : ((s.and a b).1.2 != 0) = true) : s.either a b c d = ((0, (s.and a b).1.2), (s.and a b).2) := by rw [MS.either, if_pos (by simpa using h)]
theorem MS.either_2 {s : MS} {a b c d : Int} (h : ((s.and a b).1.2 != 0) = false) (h2 : (((s.and a b).2.and c d).1.2 != 0) = true) : s.either a b c d = ((0, ((s.and a b).2.and c d).1.2), ((s.and a b).2.and c d).2) := by rw [MS.either, if_neg (by simpa using h), if_pos (by simpa using h2)]
theorem MS.either_3 {s : MS} {a b c d : Int} (h : ((s.and a b).1.2 != 0) = false) (h2 : (((s.and a b).2.and c d).1.2 != 0) = false) : s.either a b c d = ((s.and a b).2.and c d).2.or (s.and a b).1.1 ((s.and a b).2.and c d).1.1 := by rw [MS.either, if_neg (by simpa using h), if_neg (by simpa using h2)]
def MS.xor (s : MS) (a b : Int) : (Int × Int) × MS := if s.no [a, b] ≠ 0 then ((0, s.no [a, b]), s) else s.either a (flip b) (flip a) b
def MS.mux (s : MS) (x a b : Int) : (Int × Int) × MS := if s.no [x, a, b] ≠ 0 then ((0, s.no [x, a, b]), s) else s.either x a (flip x) b
theorem MS.xor_no {s : MS} {a b : Int} (h : (s.no [a, b] != 0) = true) : s.xor a b = ((0, s.no [a, b]), s) := by rw [MS.xor, if_pos (by simpa using h)]
theorem MS.xor_ok {s : MS} {a b : Int} (h : s.no [a, b] = 0) : s.xor a b = s.either a (flip b) (flip a) b := by rw [MS.xor, if_neg (by simp [h])]
theorem MS.mux_no {s : MS} {x a b : Int} (h : (s.no [x, a, b] != 0) = true) : s.mux x a b = ((0, s.no [x, a, b]), s) := by rw [MS.mux, if_pos (by simpa using h)]
theorem MS.mux_ok {s : MS} {x a b : Int} (h : s.no [x, a, b] = 0) : s.mux x a b = s.either x a (flip x) b := by rw [MS.mux, if_neg (by simp [h])]
theorem MS.no_three {s : MS} {a b c : Int} (h : s.no [a, b, c] = 0) : (0 ≤ a ∧ a < s.lits) ∧ (0 ≤ b ∧ b < s.lits) ∧ (0 ≤ c ∧ c < s.lits) := by
  have h1 : allTo (s.litAt [a, b, c]) 3 = true := by
    unfold MS.no at h
    split at h
    · assumption
    · cases h
  rw [allTo_iff] at h1
  have e0 := h1 0 (by omega)
  have e1 := h1 1 (by omega)
  have e2 := h1 2 (by omega)
  simp [MS.litAt] at e0 e1 e2
  omega
theorem MS.either_good {s : MS} (h : s.Good) (a b c d : Int) : (s.either a b c d).2.Good := by
  unfold MS.either
  split
  · exact MS.and_good h _ _
  · split
    · exact MS.and_good (MS.and_good h _ _) _ _
    · exact MS.or_good (MS.and_good (MS.and_good h _ _) _ _) _ _
theorem MS.xor_good {s : MS} (h : s.Good) (a b : Int) : (s.xor a b).2.Good := by
  unfold MS.xor
  split
  · exact h
  · exact MS.either_good h _ _ _ _
theorem MS.mux_good {s : MS} (h : s.Good) (x a b : Int) : (s.mux x a b).2.Good := by
  unfold MS.mux
  split
  · exact h
  · exact MS.either_good h _ _ _ _
theorem flip_le {x : Int} (h : 0 ≤ x ∧ x ≤ 42002) : 0 ≤ flip x ∧ flip x ≤ 42003 := by
  rw [flip_eq]; split <;> omega
theorem MS.or_lit {s : MS} (h : s.OK) (a b : Int) : 0 ≤ (s.or a b).1.1 ∧ (s.or a b).1.1 ≤ 42003 := by
  unfold MS.or
  split
  · simp only; omega
  · split
    · simp only; omega
    · exact flip_le (MS.and_lit h (flip a) (flip b))
theorem MS.either_lit {s : MS} (h : s.OK) (a b c d : Int) : 0 ≤ (s.either a b c d).1.1 ∧ (s.either a b c d).1.1 ≤ 42003 := by
  unfold MS.either
  split
  · simp only; omega
  · split
    · simp only; omega
    · exact MS.or_lit (MS.and_ok (MS.and_ok h _ _) _ _) _ _
theorem MS.xor_lit {s : MS} (h : s.OK) (a b : Int) : 0 ≤ (s.xor a b).1.1 ∧ (s.xor a b).1.1 ≤ 42003 := by
  unfold MS.xor
  split
  · simp only; omega
  · exact MS.either_lit h _ _ _ _
theorem MS.mux_lit {s : MS} (h : s.OK) (x a b : Int) : 0 ≤ (s.mux x a b).1.1 ∧ (s.mux x a b).1.1 ≤ 42003 := by
  unfold MS.mux
  split
  · simp only; omega
  · exact MS.either_lit h _ _ _ _

/-! ### The reference's maker, as its methods see it: 0 itself, 1 its gates, 2 its registers, 3 its inputs -/
def MS.rcells (s : MS) (g r i : Nat) (vg vr vi : Nat) : List AVal := [.slice i vi 0 s.ins.length, .slice r vr 0 s.regs.length, .slice g vg 0 s.gates.length, .v (.slice none 0 0)]
def rk0 (s : MS) (vm vg vr vi : Nat) : Store := [(0, vm, .row 4 [s.rcells 1 2 3 vg vr vi]), (1, vg, .row 2 (s.gates.map encG)), (2, vr, .row 3 (s.regs.map encR)), (3, vi, .row 1 (s.ins.map encS))]
def setR (σ : Store) (m g r i : Nat) (s : MS) (vm vg vr vi : Nat) : Store := (((σ.put i vi (.row 1 (s.ins.map encS))).put r vr (.row 3 (s.regs.map encR))).put g vg (.row 2 (s.gates.map encG))).put m vm (.row 4 [s.rcells g r i vg vr vi])
theorem rk_match {σ : Store} {s : MS} {m g r i vm vg vr vi : Nat} (h1 : σ.get m = some (vm, .row 4 [s.rcells g r i vg vr vi])) (h2 : σ.get g = some (vg, .row 2 (s.gates.map encG))) (h3 : σ.get r = some (vr, .row 3 (s.regs.map encR))) (h4 : σ.get i = some (vi, .row 1 (s.ins.map encS))) :
    Store.match (tab [m, g, r, i]) σ (rk0 s vm vg vr vi) := by
  refine ⟨?_, ?_, ?_, ?_, trivial⟩
  · exact h1
  · show σ.get g = some (vg, .row 2 ((s.gates.map encG).map (List.map (AVal.rn1 _))))
    rw [rn_rows (fun _ => rfl)]; exact h2
  · show σ.get r = some (vr, .row 3 ((s.regs.map encR).map (List.map (AVal.rn1 _))))
    rw [rn_rows (fun _ => rfl)]; exact h3
  · show σ.get i = some (vi, .row 1 ((s.ins.map encS).map (List.map (AVal.rn1 _))))
    rw [rn_rows (fun _ => rfl)]; exact h4
theorem rk_free {σ : Store} {s : MS} {m g r i vm vg vr vi : Nat} : Store.free [m, g, r, i] (rk0 s vm vg vr vi) σ = true := by
  simp [Store.free, rk0, Store.get, List.range_succ]
theorem rk_putAll {σ : Store} {s : MS} {m g r i vm vg vr vi : Nat} : Store.putAll (tab [m, g, r, i]) (rk0 s vm vg vr vi) σ = setR σ m g r i s vm vg vr vi := by
  have e2 : (AObj.row 2 (s.gates.map encG)).rn (tab [m, g, r, i]) = .row 2 (s.gates.map encG) := by show AObj.row 2 _ = _; rw [rn_rows (fun _ => rfl)]
  have e3 : (AObj.row 3 (s.regs.map encR)).rn (tab [m, g, r, i]) = .row 3 (s.regs.map encR) := by show AObj.row 3 _ = _; rw [rn_rows (fun _ => rfl)]
  have e4 : (AObj.row 1 (s.ins.map encS)).rn (tab [m, g, r, i]) = .row 1 (s.ins.map encS) := by show AObj.row 1 _ = _; rw [rn_rows (fun _ => rfl)]
  simp only [Store.putAll, rk0, e2, e3, e4]
  rfl
theorem rk_hasAll {s s' : MS} {vm vg vr vi vm' vg' vr' vi' : Nat} : Store.hasAll (rk0 s vm vg vr vi) (rk0 s' vm' vg' vr' vi') := by
  intro j h
  simp only [rk0, Store.get] at h ⊢
  revert h
  cases Nat.beq 0 j <;> cases Nat.beq 1 j <;> cases Nat.beq 2 j <;> cases Nat.beq 3 j <;> simp
theorem rk_at {P : Program} {f : FuncId} {σ : Store} {s s' : MS} {m g r i vm vg vr vi : Nat} {bvs : List AVal} {a : AVal} (h : AC P f (.ptr 0 vm 0 0 :: bvs) (rk0 s vm vg vr vi) (fun x σ' => ∃ vg', x = .ret a ∧ σ' = rk0 s' vm vg' vr vi)) (ht : tabOK [m, g, r, i] = true) (hb : σ.below 1000 = true)
    (h1 : σ.get m = some (vm, .row 4 [s.rcells g r i vg vr vi])) (h2 : σ.get g = some (vg, .row 2 (s.gates.map encG))) (h3 : σ.get r = some (vr, .row 3 (s.regs.map encR))) (h4 : σ.get i = some (vi, .row 1 (s.ins.map encS))) (hc : bvs.all AVal.clo = true) (ha : a.clo = true) :
    AC P f (.ptr m vm 0 0 :: bvs) σ (fun x σ' => ∃ vg', x = .ret a ∧ σ' = setR σ m g r i s' vm vg' vr vi) := by
  have := ac_at [m, g, r, i] ht h (rk_match h1 h2 h3 h4) rk_free hb (by rintro x σ' ⟨vg', rfl, rfl⟩; exact rk_hasAll)
  rw [List.map_cons, rn_clos hc] at this
  refine ac_mono this ?_
  rintro x σ' ⟨_, _, ⟨vg', rfl, rfl⟩, rfl, rfl⟩
  exact ⟨vg', by show AEnd.ret (a.rn _) = _; rw [rn_clo ha], rk_putAll⟩
theorem rk_ro {P : Program} {f : FuncId} {σ : Store} {s : MS} {m g r i vm vg vr vi : Nat} {bvs : List AVal} {a : AVal} (h : AC P f (.ptr 0 vm 0 0 :: bvs) (rk0 s vm vg vr vi) (fun x σ' => x = .ret a ∧ σ' = rk0 s vm vg vr vi)) (ht : tabOK [m, g, r, i] = true) (hb : σ.below 1000 = true)
    (h1 : σ.get m = some (vm, .row 4 [s.rcells g r i vg vr vi])) (h2 : σ.get g = some (vg, .row 2 (s.gates.map encG))) (h3 : σ.get r = some (vr, .row 3 (s.regs.map encR))) (h4 : σ.get i = some (vi, .row 1 (s.ins.map encS))) (hc : bvs.all AVal.clo = true) (ha : a.clo = true) :
    AC P f (.ptr m vm 0 0 :: bvs) σ (fun x σ' => x = .ret a ∧ σ' = σ) := by
  have := ac_ro [m, g, r, i] ht h (rk_match h1 h2 h3 h4) rk_free hb
  rw [List.map_cons, rn_clos hc, rn_clo ha] at this
  exact this

/-! ### Making, and nets with registers -/
def regsOf (names : List ByteArray) (inits : List Int) (i : Nat) : List (ByteArray × Int × Int) := (List.range i).map fun k => (names.getD k default, inits.getD k default, 0)
theorem regsOf_succ (names : List ByteArray) (inits : List Int) (i : Nat) : regsOf names inits (i + 1) = regsOf names inits i ++ [(names.getD i default, inits.getD i default, 0)] := by simp [regsOf, List.range_succ]
theorem regsOf_length (names : List ByteArray) (inits : List Int) (i : Nat) : (regsOf names inits i).length = i := by simp [regsOf]
def MS.make (ins names : List ByteArray) (inits : List Int) : MS := ⟨ins, regsOf names inits names.length, [], []⟩
theorem MS.make_good {ins names : List ByteArray} {inits : List Int} (hv : ((MS.make ins names inits).made []).valid = true) (hn : ((MS.make ins names inits).made []).Small) : (MS.make ins names inits).Good := by
  obtain ⟨f1, f2, f3, f4, _⟩ := Net.valid_facts hv
  refine ⟨⟨f1, f2, f4, ?_⟩, hn, fun p => ?_⟩
  · intro e he; cases he
  · rfl
theorem MS.make_small {ins names : List ByteArray} {inits : List Int} (h1 : ∀ s ∈ ins, s.size ≤ 140737488355328) (h2 : ∀ s ∈ names, s.size ≤ 140737488355328) (h3 : ∀ x ∈ inits, 0 ≤ x ∧ x ≤ 255) (h4 : ins.length ≤ 100000) (h5 : names.length ≤ 100000) (h6 : names.length = inits.length) : ((MS.make ins names inits).made []).Small := by
  refine ⟨h1, ?_, (by intro p hp; cases hp), ?_, ?_, ?_, ?_, ?_, (by intro p hp; cases hp), ?_, (by intro p hp; cases hp)⟩
  · intro r hr
    obtain ⟨k, hk, rfl⟩ := List.mem_map.1 hr
    rw [List.mem_range] at hk
    exact h2 _ (getD_mem hk)
  · show ins.length ≤ _; omega
  · show (regsOf _ _ _).length ≤ _; rw [regsOf_length]; omega
  · show ([] : List (Int × Int)).length ≤ _; simp
  · show ([] : List (ByteArray × Int)).length ≤ _; simp
  · intro r hr
    obtain ⟨k, hk, rfl⟩ := List.mem_map.1 hr
    rw [List.mem_range] at hk
    exact h3 _ (getD_mem (by omega))
  · intro r hr
    obtain ⟨k, hk, rfl⟩ := List.mem_map.1 hr
    simp
def nextR (next : List Int) (k : Nat) (r : ByteArray × Int × Int) : ByteArray × Int × Int := (r.1, r.2.1, next.getD k default)
def nextTo (next : List Int) (regs : List (ByteArray × Int × Int)) (i : Nat) : List (ByteArray × Int × Int) := (regs.mapIdx (nextR next)).take i ++ regs.drop i
theorem nextTo_length (next : List Int) (regs : List (ByteArray × Int × Int)) (i : Nat) : (nextTo next regs i).length = regs.length := by
  simp [nextTo]; omega
theorem nextTo_get (next : List Int) (regs : List (ByteArray × Int × Int)) (i : Nat) (hi : i < regs.length) : (nextTo next regs i).getD (0 + (i : Int).toNat) default = regs.getD i default := by
  have e : 0 + (i : Int).toNat = i := by omega
  rw [e, nextTo, List.getD_eq_getElem?_getD, List.getD_eq_getElem?_getD, List.getElem?_append_right (by simp; omega)]
  have e2 : i - ((regs.mapIdx (nextR next)).take i).length = 0 := by simp; omega
  rw [e2, List.getElem?_drop]
  rfl
theorem nextTo_step (next : List Int) (regs : List (ByteArray × Int × Int)) (i : Nat) (hi : i < regs.length) : nextTo next regs (i + 1) = (nextTo next regs i).set (0 + (i : Int).toNat) (((nextTo next regs i).getD (0 + (i : Int).toNat) default).1, ((nextTo next regs i).getD (0 + (i : Int).toNat) default).2.1, next.getD i default) := by
  rw [nextTo_get next regs i hi]
  have e0 : 0 + (i : Int).toNat = i := by omega
  rw [e0]
  have hl : (regs.mapIdx (nextR next)).length = regs.length := by simp
  have hg : (regs.mapIdx (nextR next)).getD i default = nextR next i (regs.getD i default) := by
    rw [List.getD_eq_getElem?_getD, List.getD_eq_getElem?_getD, List.getElem?_mapIdx, List.getElem?_eq_getElem hi]
    rfl
  unfold nextTo
  rw [take_succ_getD _ i (by omega), hg, List.set_append_right _ _ (by simp; omega)]
  have e : i - ((regs.mapIdx (nextR next)).take i).length = 0 := by simp; omega
  rw [e, List.append_assoc]
  congr 1
  rw [List.drop_eq_getElem_cons hi]
  rfl
def MS.nexts (s : MS) (next : List Int) (outs : List (ByteArray × Int)) : Net := ⟨s.ins, nextTo next s.regs next.length, s.gates, outs⟩
def MS.net (s : MS) (next : List Int) (outs : List (ByteArray × Int)) : Net × Int :=
  if (next.length : Int) ≠ s.regs.length then (Net.none, 2) else if (s.nexts next outs).valid then (s.nexts next outs, 0) else (Net.none, 2)
theorem MS.net_len {s : MS} {next : List Int} {outs : List (ByteArray × Int)} (h : ((next.length : Int) != s.regs.length) = true) : s.net next outs = (Net.none, 2) := by rw [MS.net, if_pos (by simpa using h)]
theorem MS.net_bad {s : MS} {next : List Int} {outs : List (ByteArray × Int)} (hl : next.length = s.regs.length) (h : (s.nexts next outs).valid = false) : s.net next outs = (Net.none, 2) := by rw [MS.net, if_neg (by omega), if_neg (by rw [h]; decide)]
theorem MS.net_ok {s : MS} {next : List Int} {outs : List (ByteArray × Int)} (hl : next.length = s.regs.length) (h : (s.nexts next outs).valid = true) : s.net next outs = (s.nexts next outs, 0) := by rw [MS.net, if_neg (by omega), if_pos h]
def makeOK (ins names : List ByteArray) (inits : List Int) : Bool := decide (names.length = inits.length) && ((MS.make ins names inits).made []).valid
theorem regs_match {σ : Store} {regs : List (ByteArray × Int × Int)} {r n vr : Nat} (h1 : σ.get r = some (vr, .row 3 (regs.map encR))) : Store.match (tab [r, n]) σ [(0, vr, .row 3 (regs.map encR))] := by
  have e4 : (AObj.row 3 (regs.map encR)).rn (tab [r, n]) = .row 3 (regs.map encR) := by show AObj.row 3 _ = _; rw [rn_rows (fun _ => rfl)]
  exact ⟨by rw [e4]; exact h1, trivial⟩
theorem MS.nexts_small {s : MS} (hs : (s.made []).Small) {next : List Int} {outs : List (ByteArray × Int)} (h1 : ∀ x ∈ next, x ≤ 9223372036854775807) (hl : next.length = s.regs.length) (h2 : ∀ p ∈ outs, p.1.size ≤ 140737488355328 ∧ p.2 ≤ 9223372036854775807) (h3 : outs.length ≤ 100000) : (s.nexts next outs).Small := by
  obtain ⟨a1, a2, a3, a4, a5, a6, a7, a8, a9, a10, a11⟩ := hs
  have key : ∀ r ∈ nextTo next s.regs next.length, ∃ k, k < s.regs.length ∧ r = nextR next k (s.regs.getD k default) := by
    intro r hr
    unfold nextTo at hr
    rw [hl, List.drop_length, List.append_nil, List.take_of_length_le (by simp)] at hr
    obtain ⟨k, hk, rfl⟩ := List.mem_mapIdx.1 hr
    exact ⟨k, hk, by rw [List.getD_eq_getElem?_getD, List.getElem?_eq_getElem hk]; rfl⟩
  refine ⟨a1, fun r hr => ?_, fun p hp => (h2 p hp).1, a4, ?_, a6, ?_, fun r hr => ?_, a9, fun r hr => ?_, fun p hp => (h2 p hp).2⟩
  · obtain ⟨k, hk, rfl⟩ := key r hr
    exact a2 (s.regs.getD k default) (getD_mem hk)
  · show (nextTo next s.regs next.length).length ≤ _
    rw [nextTo_length]; exact a5
  · show outs.length ≤ _; omega
  · obtain ⟨k, hk, rfl⟩ := key r hr
    exact a8 (s.regs.getD k default) (getD_mem hk)
  · obtain ⟨k, hk, rfl⟩ := key r hr
    show next.getD k default ≤ _
    exact h1 _ (getD_mem (by omega))
end Go.Proofs.Ytbpamlphacpkeaa
