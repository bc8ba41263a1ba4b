/- What is written of an expression, by its kind. -/
import Derived.Test.YtcgdlhkiecommaaGreatDoorXWr
set_option linter.all false
namespace Go.Proofs.YtcgdlhkiecommaaGreatDoor
open Go
section
variable {e : Ex}
theorem wr_eq {v0 v1 : Nat} {o1 o2 : List Tk} {d m1 m2 : Int} {τ : Store} (ho : o1 = o2) (hm : m1 = m2) : wr v0 v1 o1 d m1 τ = wr v0 v1 o2 d m2 τ := by rw [ho, hm]
/-- Bounds on the way through a row. -/
theorem row_bounds {out : List Tk} {s : Bs} {l : List Ex} {i : Nat} (hi : i < l.length) (h : out.length + (sepT s (l.map toks)).length ≤ 1000000000) :
    (out ++ sepT s ((l.map toks).take i)).length ≤ 1000000000 ∧ (0 < i → ((out ++ sepT s ((l.map toks).take i)) ++ [tkS s]).length + (toks (l.getD i default)).length ≤ 1000000000) ∧ (¬ 0 < i → (out ++ sepT s ((l.map toks).take i)).length + (toks (l.getD i default)).length ≤ 1000000000) := by
  have h1 := sep_len s (l.map toks) i (by simp; omega)
  have h2 := sep_len s (l.map toks) (i + 1) (by simp; omega)
  refine ⟨by rw [List.length_append]; omega, fun h0 => ?_, fun h0 => ?_⟩
  · rw [sep_pos s _ i (by simpa using hi) h0, getD_map_toks l i hi] at h2
    simp only [List.length_append, List.length_cons, List.length_nil] at h2 ⊢
    omega
  · obtain rfl : i = 0 := by omega
    rw [sep_zero s _ (by simpa using hi), getD_map_toks l 0 hi] at h2
    simp only [List.length_append, List.take_zero, sepT, List.length_nil] at h2 ⊢
    omega
theorem dep_bound {l : List Ex} {i : Nat} (hi : i < l.length) : dep (l.getD i default) ≤ maxL (l.map dep) := by
  rw [← getD_map_dep l i hi]; exact maxL_le (by simpa using hi)
theorem kidT_eq {i : Nat} (hi : i < e.kids.length) (n : Int) : kidT e.kids (e.kids.map toks) i n = kidTk (e.kids.getD i default) n := by
  rw [kidT, kidTk, getD_map_toks _ _ hi]
theorem kidD_eq {i : Nat} (hi : i < e.kids.length) (n : Int) : kidD e.kids (e.kids.map dep) i n = kidDp (e.kids.getD i default) n := by
  rw [kidD, kidDp, getD_map_dep _ _ hi]
theorem toks_int (h1 : (e.op == 1) = true) : toks e = [⟨3, [], e.n, 0, 0⟩] ∧ dep e = 0 := by
  rw [toks_eq, dep_eq, toksOf, depOf, h1]; exact ⟨rfl, rfl⟩
theorem toks_bit (h1 : (e.op == 1) = false) (h2 : (e.op == 2) = true) : toks e = [⟨4, bitsT e.bits, 0, 0, 0⟩] ∧ dep e = 0 := by
  rw [toks_eq, dep_eq, toksOf, depOf, h1, h2]; exact ⟨rfl, rfl⟩
theorem toks_vec (h1 : (e.op == 1) = false) (h2 : (e.op == 2) = false) (h3 : (e.op == 3) = true) : toks e = [⟨5, bitsT e.bits, 0, 0, 0⟩] ∧ dep e = 0 := by
  rw [toks_eq, dep_eq, toksOf, depOf, h1, h2, h3]; exact ⟨rfl, rfl⟩
theorem toks_name (h1 : (e.op == 1) = false) (h2 : (e.op == 2) = false) (h3 : (e.op == 3) = false) (h4 : (e.op == 4) = true) : toks e = [tkN e.name] ∧ dep e = 0 := by
  rw [toks_eq, dep_eq, toksOf, depOf, h1, h2, h3, h4]; exact ⟨rfl, rfl⟩
theorem toks_index (h1 : (e.op == 1) = false) (h2 : (e.op == 2) = false) (h3 : (e.op == 3) = false) (h4 : (e.op == 4) = false) (h6 : (e.op == 6) = true) (hk : e.kids.length = 2) :
    toks e = kidTk (e.kids.getD 0 default) 5 ++ inBr (toks (e.kids.getD 1 default)) ∧ dep e = max (kidDp (e.kids.getD 0 default) 5) (dep (e.kids.getD 1 default) + 1) := by
  rw [toks_eq, dep_eq, toksOf, depOf, h1, h2, h3, h4, h6, kidT_eq (by omega), kidD_eq (by omega), getD_map_toks _ _ (by omega), getD_map_dep _ _ (by omega)]; exact ⟨rfl, rfl⟩
theorem toks_slice (h1 : (e.op == 1) = false) (h2 : (e.op == 2) = false) (h3 : (e.op == 3) = false) (h4 : (e.op == 4) = false) (h6 : (e.op == 6) = false) (h7 : (e.op == 7) = true) (hk : e.kids.length = 3) :
    toks e = kidTk (e.kids.getD 0 default) 5 ++ inBr (sepT sDownto ((e.kids.drop 1).map toks)) ∧ dep e = max (kidDp (e.kids.getD 0 default) 5) (maxL ((e.kids.drop 1).map dep) + 1) := by
  rw [toks_eq, dep_eq, toksOf, depOf, h1, h2, h3, h4, h6, h7, kidT_eq (by omega), kidD_eq (by omega), List.map_drop, List.map_drop]; exact ⟨rfl, rfl⟩
theorem toks_call (h1 : (e.op == 1) = false) (h2 : (e.op == 2) = false) (h3 : (e.op == 3) = false) (h4 : (e.op == 4) = false) (h6 : (e.op == 6) = false) (h7 : (e.op == 7) = false) (hb : (bindsP e == 5) = true) :
    toks e = tkN e.name :: inBr (sepT sComma (e.kids.map toks)) ∧ dep e = maxL (e.kids.map dep) + 1 := by
  rw [toks_eq, dep_eq, toksOf, depOf, h1, h2, h3, h4, h6, h7, hb]; exact ⟨rfl, rfl⟩
theorem toks_one (h1 : (e.op == 1) = false) (h2 : (e.op == 2) = false) (h3 : (e.op == 3) = false) (h4 : (e.op == 4) = false) (h6 : (e.op == 6) = false) (h7 : (e.op == 7) = false) (hb : (bindsP e == 5) = false) (hb4 : (bindsP e == 4) = true) (hk : e.kids.length = 1) :
    toks e = tkS e.name :: kidTk (e.kids.getD 0 default) 4 ∧ dep e = kidDp (e.kids.getD 0 default) 4 + 1 := by
  rw [toks_eq, dep_eq, toksOf, depOf, h1, h2, h3, h4, h6, h7, hb, hb4, kidT_eq (i := 0) (by omega) 4, kidD_eq (i := 0) (by omega) 4]; exact ⟨rfl, rfl⟩
theorem toks_two (h1 : (e.op == 1) = false) (h2 : (e.op == 2) = false) (h3 : (e.op == 3) = false) (h4 : (e.op == 4) = false) (h6 : (e.op == 6) = false) (h7 : (e.op == 7) = false) (hb : (bindsP e == 5) = false) (hb4 : (bindsP e == 4) = false) (hk : e.kids.length = 2) :
    toks e = kidTk (e.kids.getD 0 default) (leftP (bindsP e)) ++ (tkS e.name :: kidTk (e.kids.getD 1 default) (bindsP e + 1)) ∧ dep e = max (kidDp (e.kids.getD 0 default) (leftP (bindsP e))) (kidDp (e.kids.getD 1 default) (bindsP e + 1)) := by
  rw [toks_eq, dep_eq, toksOf, depOf, h1, h2, h3, h4, h6, h7, hb, hb4, kidT_eq (i := 0) (by omega) (leftP (bindsP e)), kidD_eq (i := 0) (by omega) (leftP (bindsP e)), kidT_eq (i := 1) (by omega) (bindsP e + 1), kidD_eq (i := 1) (by omega) (bindsP e + 1)]; exact ⟨rfl, rfl⟩
/-! ### What the shape tells -/
theorem shape_bits (h : shapeP e = true) (h1 : (e.op == 1) = false) (h2 : (e.op == 2) = true ∨ ((e.op == 2) = false ∧ (e.op == 3) = true)) : isBits e.bits = true := by
  rw [shapeP, h1] at h
  cases hc : ((!noneV e.val || !untyped e.type) || (e.op != 1 && e.n != 0)) with
  | true => rw [hc] at h; simp at h
  | false =>
    rw [hc] at h
    rcases h2 with h2 | ⟨h2, h3⟩
    · rw [h2] at h; simp only [cond_true, cond_false, Bool.and_eq_true] at h; exact h.2
    · rw [h2, h3] at h; simp only [cond_true, cond_false, Bool.and_eq_true] at h; exact h.2
theorem shape_index (h : shapeP e = true) (h1 : (e.op == 1) = false) (h2 : (e.op == 2) = false) (h3 : (e.op == 3) = false) (h4 : (e.op == 4) = false) (h6 : (e.op == 6) = true) : e.kids.length = 2 := by
  rw [shapeP, h1, h2, h3, h4, h6, show (e.op == 5) = false by rw [beq_iff_eq] at h6; rw [h6]; decide] at h
  cases hc : ((!noneV e.val || !untyped e.type) || (e.op != 1 && e.n != 0)) with
  | true => rw [hc] at h; simp at h
  | false =>
    rw [hc] at h
    simp only [cond_true, cond_false, Bool.and_eq_true, beq_iff_eq] at h
    omega
theorem shape_slice (h : shapeP e = true) (h1 : (e.op == 1) = false) (h2 : (e.op == 2) = false) (h3 : (e.op == 3) = false) (h4 : (e.op == 4) = false) (h6 : (e.op == 6) = false) (h7 : (e.op == 7) = true) : e.kids.length = 3 := by
  rw [shapeP, h1, h2, h3, h4, h6, h7, show (e.op == 5) = false by rw [beq_iff_eq] at h7; rw [h7]; decide] at h
  cases hc : ((!noneV e.val || !untyped e.type) || (e.op != 1 && e.n != 0)) with
  | true => rw [hc] at h; simp at h
  | false =>
    rw [hc] at h
    simp only [cond_true, cond_false, Bool.and_eq_true, beq_iff_eq] at h
    omega
theorem shape_call (h : shapeP e = true) (h1 : (e.op == 1) = false) (h2 : (e.op == 2) = false) (h3 : (e.op == 3) = false) (h4 : (e.op == 4) = false) (h6 : (e.op == 6) = false) (h7 : (e.op == 7) = false) :
    (e.op == 5) = true ∧ ((oneOp e = true ∨ (((e.kids.length : Int) == 2) && decide (strengthI e.name ≥ 0)) = true) ∨ ((decide ((e.kids.length : Int) ≥ 1) && decide ((e.kids.length : Int) ≤ 20)) && isNameL e.name) = true) := by
  rw [shapeP, h1, h2, h3, h4, h6, h7] at h
  cases hc : ((!noneV e.val || !untyped e.type) || (e.op != 1 && e.n != 0)) with
  | true => rw [hc] at h; simp at h
  | false =>
    rw [hc] at h
    cases h5 : (e.op == 5) with
    | false => rw [h5] at h; simp at h
    | true =>
      rw [h5] at h
      cases hb : decide ((e.bits.length : Int) > 0) with
      | true => rw [hb] at h; simp at h
      | false =>
        rw [hb] at h
        simp only [cond_true, cond_false, Bool.or_eq_true] at h
        exact ⟨rfl, h⟩
theorem shape_one (h : shapeP e = true) (h1 : (e.op == 1) = false) (h2 : (e.op == 2) = false) (h3 : (e.op == 3) = false) (h4 : (e.op == 4) = false) (h6 : (e.op == 6) = false) (h7 : (e.op == 7) = false) (hb : (bindsP e == 5) = false) (hb4 : (bindsP e == 4) = true) : e.kids.length = 1 := by
  have := str_range e.name
  unfold bindsP at hb hb4
  cases hc : (e.op != 5 || isNameL e.name) with
  | true => rw [hc] at hb; simp at hb
  | false =>
    rw [hc] at hb4
    cases hk : ((e.kids.length : Int) == 1) with
    | true => rw [beq_iff_eq] at hk; omega
    | false =>
      rw [hk] at hb4
      simp only [cond_false, beq_iff_eq] at hb4
      omega
theorem shape_two (h : shapeP e = true) (h1 : (e.op == 1) = false) (h2 : (e.op == 2) = false) (h3 : (e.op == 3) = false) (h4 : (e.op == 4) = false) (h6 : (e.op == 6) = false) (h7 : (e.op == 7) = false) (hb : (bindsP e == 5) = false) (hb4 : (bindsP e == 4) = false) : e.kids.length = 2 := by
  obtain ⟨h5, hs⟩ := shape_call h h1 h2 h3 h4 h6 h7
  unfold bindsP at hb hb4
  cases hc : (e.op != 5 || isNameL e.name) with
  | true => rw [hc] at hb; simp at hb
  | false =>
    rw [hc] at hb4
    cases hk : ((e.kids.length : Int) == 1) with
    | true => rw [hk] at hb4; simp at hb4
    | false =>
      rw [Bool.or_eq_false_iff] at hc
      rcases hs with (hs | hs) | hs
      · rw [oneOp, hk] at hs; simp at hs
      · rw [Bool.and_eq_true, beq_iff_eq] at hs; omega
      · rw [hc.2] at hs; simp at hs
end
end Go.Proofs.YtcgdlhkiecommaaGreatDoor
