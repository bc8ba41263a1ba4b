/- What the laws ask of tokens, strings and faults. -/
import Derived.Test.YtbojpddejdmamaaGreatDoorLRun
import Derived.Test.YtbojpddejdmamaaGreatDoorLDec
set_option linter.all false
namespace Go.Proofs.YtbojpddejdmamaaGreatDoor
open Go

theorem oks_of {l : List Tk} (h : TksIn l) (h3 : ∀ t ∈ l, t.text.length ≤ 3000) : OKTs l := fun t ht => ⟨by have := h3 t ht; omega, (h.1 t ht).n0, (h.1 t ht).n1⟩
theorem poss_all {l : List Tk} (h : ∀ k, k < l.length → possT (l.getD k default) = true) : ∀ t ∈ l, possT t = true := by
  intro t ht
  obtain ⟨i, hi, rfl⟩ := List.getElem_of_mem ht
  have := h i hi
  rwa [List.getD_eq_getElem?_getD, List.getElem?_eq_getElem hi] at this
theorem alike_length {a b : List Tk} (h : alikeL a b = true) : a.length = b.length := by
  rw [alikeL, beq_iff_eq] at h
  have := congrArg List.length h
  simpa using this
theorem alike_oks {a b : List Tk} (h : alikeL a b = true) (ha : OKTs a) : OKTs b := by
  rw [alikeL, beq_iff_eq] at h
  intro t ht
  have : tkey t ∈ a.map tkey := by rw [h]; exact List.mem_map_of_mem ht
  obtain ⟨u, hu, e⟩ := List.mem_map.1 this
  have h1 := ha u hu
  simp only [tkey, Prod.mk.injEq] at e
  exact ⟨by rw [← e.2.1]; exact h1.len, by rw [← e.2.2]; exact h1.n0, by rw [← e.2.2]; exact h1.n1⟩
theorem sumT_take (l : List Tk) : ∀ i, i ≤ l.length → sumT [] l i = ((l.take i).map fun t => min t.text.length 5000).sum
  | 0, _ => by simp [sumT]
  | i + 1, h => by
    rw [take_more _ l i (by omega), List.sum_append, ← sumT_take l i (by omega)]
    simp [sumT]
theorem wtot_sum {l : List Tk} (hp : ∀ t ∈ l, possT t = true) : wtot l ≤ (l.map fun t => min t.text.length 5000).sum + 11 * l.length := by
  induction l with
  | nil => simp [wtot]
  | cons t l ih =>
    have h1 := poss_small (hp t (by simp))
    have h2 := ih (fun u hu => hp u (List.mem_cons_of_mem _ hu))
    simp only [wtot, List.map_cons, List.sum_cons, List.length_cons] at h2 ⊢
    omega
theorem wtot_le {l : List Tk} (hp : ∀ t ∈ l, possT t = true) (h : longL [] l = false) : wtot l ≤ 5200 := by
  have h1 := wtot_sum hp
  have h2 := (long_facts h).2.1
  rw [longL, Bool.or_eq_false_iff, decide_eq_false_iff_not] at h
  have hm : min l.length 200 = l.length := by omega
  rw [hm, sumT_take l l.length (Nat.le_refl _), List.take_length] at h
  omega
/-- What is read of what is written. -/
structure BackF (l : List Tk) : Prop where
  text : textP l = (joinT l, 0)
  len : (joinT l).length ≤ 20000
  fault : (lexP (joinT l)).2 = okF
  same : alikeL l (lexP (joinT l)).1 = true
  count : (lexP (joinT l)).1.length ≤ 20000
  again : textP (lexP (joinT l)).1 = (joinT l, 0)
theorem back_of {l : List Tk} (hp : ∀ t ∈ l, possT t = true) (hn : l.length ≤ 20000) (h : wtot l ≤ 20000) : BackF l := by
  have h1 : (joinT l).length ≤ 20000 := by have := joinT_len l; omega
  obtain ⟨h2, h3⟩ := back_lex hp h1
  exact ⟨textP_T hp hn, h1, h2, h3, by rw [← alike_length h3]; exact hn, by rw [alike_text h3]; exact textP_T hp hn⟩
theorem back_all {l : List Tk} (hp : ∀ k, k < l.length → possT (l.getD k default) = true) (h : longL [] l = false) : BackF l :=
  back_of (poss_all hp) (by have := (long_facts h).2.1; omega) (by have := wtot_le (poss_all hp) h; omega)
/-! ### Strings -/
theorem twice_bad {s : Bs} (hs : s.length ≤ 3000) (h : ((lexP s).2.code != 0) = true) : ∃ j, (lexP s).1 = [] ∧ (lexP s).2 = badF s j ∧ j < s.length := by
  rcases lexP_run hs with ⟨l, _, e⟩ | ⟨l, j, hr, e⟩
  · rw [e] at h; exact absurd h (show ¬ ((0 : Int) != 0) = true by decide)
  · exact ⟨j, by rw [e], by rw [e], (hr.lo.2 j rfl).2⟩
theorem bad_name {s : Bs} {j : Nat} (h : j < s.length) : (((badF s j).name.length : Int) == 1) = true := by
  rw [badF, beq_iff_eq]
  simp only [List.length_take, List.length_drop]; omega
theorem bad_line (s : Bs) (j : Nat) : decide ((badF s j).line ≥ 1) = true := by
  rw [decide_eq_true_eq]; exact (place_ge s j).1
theorem bad_col (s : Bs) (j : Nat) : decide ((badF s j).col ≥ 1) = true := by
  rw [decide_eq_true_eq]; exact (place_ge s j).2.1
theorem twice_ok {s : Bs} (hs : s.length ≤ 3000) (h : ((lexP s).2.code != 0) = false) : OKTs (lexP s).1 ∧ (lexP s).1.length ≤ 3000 ∧ BackF (lexP s).1 := by
  rcases lexP_run hs with ⟨l, hr, e⟩ | ⟨l, j, hr, e⟩
  · rw [e]
    show OKTs (l.map (·.2)) ∧ (l.map (·.2)).length ≤ 3000 ∧ BackF (l.map (·.2))
    obtain ⟨h1, h2, h3⟩ := wtot_run hr
    have hp : ∀ t ∈ l.map (·.2), possT t = true := by
      intro t ht
      obtain ⟨x, hx, rfl⟩ := List.mem_map.1 ht
      exact h3 x hx
    have hn : (l.map (·.2)).length ≤ 3000 := by rw [List.length_map]; omega
    exact ⟨fun t ht => poss_ok (hp t ht), hn, back_of hp (by omega) (by omega)⟩
  · rw [e] at h; exact absurd h (show ¬ ((10 : Int) != 0) = false by decide)
/-! ### Faults -/
theorem pl_lt (s : Bs) (i : Nat) : ∀ k, i + k + 1 ≤ s.length → (place s i).1 < (place s (i + k + 1)).1 ∨ ((place s i).1 = (place s (i + k + 1)).1 ∧ (place s i).2 < (place s (i + k + 1)).2) := by
  intro k
  induction k with
  | zero =>
    intro h
    rw [Nat.add_zero, place_succ s i (by omega)]
    split
    · exact .inl (by show (place s i).1 < (place s i).1 + 1; omega)
    · exact .inr ⟨rfl, by show (place s i).2 < (place s i).2 + 1; omega⟩
  | succ k ih =>
    intro h
    have := ih (by omega)
    rw [show i + (k + 1) + 1 = (i + k + 1) + 1 from by omega, place_succ s (i + k + 1) (by omega)]
    split
    · simp only; omega
    · simp only; omega
theorem place_inj {s : Bs} {i j : Nat} (hi : i ≤ s.length) (hj : j ≤ s.length) (h : place s i = place s j) : i = j := by
  rcases Nat.lt_trichotomy i j with e | e | e
  · have := pl_lt s i (j - i - 1) (by omega)
    rw [show i + (j - i - 1) + 1 = j from by omega, h] at this; omega
  · exact e
  · have := pl_lt s j (i - j - 1) (by omega)
    rw [show j + (i - j - 1) + 1 = i from by omega, h] at this; omega
theorem pl_line {s : Bs} {i : Nat} (h : i < s.length) (hc : (((s.getD i default).toNat : Int) == 10) = true) : place s (i + 1) = ((place s i).1 + 1, 1) := by
  have : (s.getD i default == 10) = true := by rw [← u8_int]; exact hc
  rw [place_succ s i h, if_pos this]
theorem pl_col {s : Bs} {i : Nat} (h : i < s.length) (hc : (((s.getD i default).toNat : Int) == 10) = false) : place s (i + 1) = ((place s i).1, (place s i).2 + 1) := by
  have : (s.getD i default == 10) = false := by rw [← u8_int]; exact hc
  rw [place_succ s i h, if_neg (by rw [this]; decide)]
structure StopF (s more : Bs) (j : Nat) : Prop where
  lt : j < s.length
  fault : (lexP s).2 = badF s j
  cut : (lexP (s.take j)).2 = okF
  ext : (lexP ((s ++ [10]) ++ more)).2 = badF s j
theorem stop_of {s more : Bs} (hs : (s ++ more).length ≤ 3000) (h : ((lexP s).2.code != 10) = false) : ∃ j, StopF s more j := by
  rw [List.length_append] at hs
  rcases lexP_run (s := s) (by omega) with ⟨l, _, e⟩ | ⟨l, j, hr, e⟩
  · rw [e] at h; exact absurd h (show ¬ ((0 : Int) != 10) = false by decide)
  · have hj := (hr.lo.2 j rfl).2
    have h1 := hr.cut j rfl
    have h2 := hr.ext more j rfl
    refine ⟨j, hj, by rw [e], ?_, ?_⟩
    · have e1 : (lex (s.take j)).2 = okF := h1
      rw [lexP, if_neg (by rw [List.length_take]; omega), e1]; rfl
    · rw [show (s ++ [10]) ++ more = s ++ 10 :: more from by simp]
      have e1 : (lex (s ++ 10 :: more)).2 = badF s j := h2
      rw [lexP, if_neg (by rw [List.length_append, List.length_cons]; omega), e1, if_neg (by simp [badF])]
theorem StopF.at_yes {s more : Bs} {i j : Nat} (h : StopF s more j) (hi : i ≤ j) (h1 : (((place s i).1 == (lexP s).2.line) && ((place s i).2 == (lexP s).2.col)) = true) : i = j := by
  rw [h.fault, Bool.and_eq_true, beq_iff_eq, beq_iff_eq] at h1
  have := h.lt
  exact place_inj (by omega) (by omega) (Prod.ext h1.1 h1.2)
theorem StopF.at_no {s more : Bs} {i j : Nat} (h : StopF s more j) (h1 : (((place s i).1 == (lexP s).2.line) && ((place s i).2 == (lexP s).2.col)) = false) : i ≠ j := by
  rintro rfl
  rw [h.fault] at h1
  simp [badF] at h1
theorem StopF.name {s more : Bs} {j : Nat} (h : StopF s more j) : ((s.drop j).take (j + 1 - j) == (lexP s).2.name) = true := by
  rw [h.fault, badF_cut]; simp
/-! ### Blanks -/
def gapL : List Bs := [[], [32], [9], [10], [13, 10], [45, 45, 32, 97, 32, 99, 111, 109, 109, 101, 110, 116, 32, 34, 111, 102, 34, 32, 39, 120, 10], [45, 45, 10, 32, 32]]
def endG : Bs := [32, 45, 45, 32, 116, 104, 101, 32, 101, 110, 100]
def gapAt (g : Bs) (i : Nat) : Bs := [32] ++ (if i < g.length then gapL.getD (((g.getD i default).toNat : Int) % 7).toNat default else [])
def bS (l : List Tk) (g : Bs) : Nat → Bs
  | 0 => []
  | i + 1 => (bS l g i ++ gapAt g i) ++ wri (l.getD i default)
theorem gap_in (c : UInt8) : ((c.toNat : Int) % 7).toNat < gapL.length ∧ gapL.getD ((c.toNat : Int) % 7).toNat default ∈ gapL := by
  have h : ((c.toNat : Int) % 7).toNat < gapL.length := by show _ < 7; omega
  exact ⟨h, getD_mem h⟩
theorem gap_skip : ∀ x ∈ gapL, SkipG x := by
  intro x hx r
  simp only [gapL, List.mem_cons, List.not_mem_nil, or_false] at hx
  rcases hx with rfl | rfl | rfl | rfl | rfl | rfl | rfl <;> simp [blk, isBlankC] <;> omega
theorem gap_len : ∀ x ∈ gapL, x.length ≤ 21 := by decide
theorem gapAt_ok (g : Bs) (i : Nat) : SkipG (gapAt g i) ∧ (gapAt g i).length ≤ 22 ∧ (gapAt g i).head? = some 32 := by
  rw [gapAt]
  split
  · have h := (gap_in (g.getD i default)).2
    have h2 := gap_len _ h
    exact ⟨skip_sp (gap_skip _ h), by rw [List.length_append, List.length_singleton]; omega, rfl⟩
  · exact ⟨skip_sp skip_nil, by decide, rfl⟩
theorem bS_len {l : List Tk} (g : Bs) : ∀ {i : Nat}, i ≤ l.length → (∀ k, k < i → possT (l.getD k default) = true) → (∀ t ∈ l, t.text.length ≤ 3000) → (bS l g i).length ≤ i * 96
  | 0, _, _, _ => by simp [bS]
  | i + 1, hi, hp, h3 => by
    have h1 := bS_len g (i := i) (by omega) (fun k hk => hp k (by omega)) h3
    have h2 := (gapAt_ok g i).2.1
    have h4 := poss_small (hp i (by omega))
    rw [bS, List.length_append, List.length_append]; omega
theorem bS_gap {l : List Tk} {g : Bs} {i : Nat} (h : i < g.length) : ((bS l g i ++ [32]) ++ gapL.getD (((g.getD i default).toNat : Int) % 7).toNat default) ++ wri (l.getD i default) = bS l g (i + 1) := by
  rw [bS, gapAt, if_pos h]; simp
theorem bS_nogap {l : List Tk} {g : Bs} {i : Nat} (h : ¬ i < g.length) : (bS l g i ++ [32]) ++ wri (l.getD i default) = bS l g (i + 1) := by
  rw [bS, gapAt, if_neg h]; simp
def gB (l : List Tk) (g : Bs) (n : Nat) : List (Bs × Tk) := (List.range n).map fun k => (gapAt g k, l.getD k default)
theorem joinG_app (a b : List (Bs × Tk)) (e : Bs) : joinG (a ++ b) e = joinG a (joinG b e) := by
  induction a with
  | nil => rfl
  | cons x a ih => rw [List.cons_append, joinG, joinG, ih]
theorem bS_join (l : List Tk) (g : Bs) : ∀ (n : Nat) (e : Bs), bS l g n ++ e = joinG (gB l g n) e
  | 0, e => rfl
  | n + 1, e => by
    rw [gB, List.range_succ, List.map_append, joinG_app]
    show _ = joinG (gB l g n) _
    rw [← bS_join l g n, bS]
    simp [joinG]
theorem okg_of {e : Bs} (he : blk false e = e.length) (hs : Sep e) : ∀ {l : List (Bs × Tk)}, (∀ x ∈ l, SkipG x.1 ∧ x.1.head? = some 32 ∧ possT x.2 = true) → OKG l e ∧ Sep (joinG l e)
  | [], _ => ⟨he, hs⟩
  | x :: l, h => by
    obtain ⟨h1, h2⟩ := okg_of he hs (l := l) (fun y hy => h y (List.mem_cons_of_mem _ hy))
    obtain ⟨a, b, c⟩ := h x (by simp)
    refine ⟨⟨a, c, h2, h1⟩, .inr ?_⟩
    rw [joinG]
    cases hx : x.1 with
    | nil => rw [hx] at b; cases b
    | cons d r => rw [hx] at b; exact b
theorem blanks_ok {l : List Tk} (g : Bs) (hp : ∀ k, k < l.length → possT (l.getD k default) = true) (h : longL [] l = false) :
    (bS l g l.length ++ endG).length ≤ 20000 ∧ (lexP (bS l g l.length ++ endG)).2 = okF ∧ alikeL l (lexP (bS l g l.length ++ endG)).1 = true ∧ (lexP (bS l g l.length ++ endG)).1.length ≤ 20000 := by
  obtain ⟨_, hn, h3⟩ := long_facts h
  have h1 := bS_len g (Nat.le_refl l.length) hp h3
  have h2 : (bS l g l.length ++ endG).length ≤ 20000 := by rw [List.length_append]; show _ + 11 ≤ _; omega
  have ho := (okg_of (e := endG) (by decide) (.inr rfl) (l := gB l g l.length) (fun x hx => by
    obtain ⟨k, hk, rfl⟩ := List.mem_map.1 hx
    rw [List.mem_range] at hk
    exact ⟨(gapAt_ok g k).1, (gapAt_ok g k).2.2, hp k hk⟩)).1
  have hj := bS_join l g l.length endG
  rw [hj] at h2 ⊢
  obtain ⟨h4, h5⟩ := lexG_P ho h2
  have e : (gB l g l.length).map (fun x => tkey x.2) = l.map tkey := by
    refine List.ext_getElem (by simp [gB]) fun i h1 h2 => ?_
    rw [List.length_map] at h2
    simp [gB, List.getD_eq_getElem?_getD, List.getElem?_eq_getElem h2]
  rw [e] at h5
  have h6 : alikeL l (lexP (joinG (gB l g l.length) endG)).1 = true := by rw [alikeL, beq_iff_eq]; exact h5.symm
  exact ⟨h2, h4, h6, by rw [← alike_length h6]; omega⟩
end Go.Proofs.YtbojpddejdmamaaGreatDoor
