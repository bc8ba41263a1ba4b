/- Names, words and runs of bytes in plain Lean. -/
import Derived.Test.YtcgdlhkiecommaaGreatDoorLSpec
import Derived.Lib.IndexLaws
import Derived.Lib.IndexBytes
set_option linter.unusedVariables false
set_option linter.unusedSimpArgs false
namespace Go.Proofs.YtcgdlhkiecommaaGreatDoor
open Go
theorem u8_int (c d : UInt8) : ((c.toNat : Int) == (d.toNat : Int)) = (c == d) := by
  rw [Bool.eq_iff_iff, beq_iff_eq, beq_iff_eq]
  constructor
  · intro h; exact UInt8.toNat_inj.1 (by omega)
  · rintro rfl; rfl
theorem isBitC_int (c : UInt8) : ((((c.toNat : Int) == 48) || ((c.toNat : Int) == 49)) || ((c.toNat : Int) == 120) || ((c.toNat : Int) == 122)) = isBitC c := by
  rw [isBitC, show (48 : Int) = ((48 : UInt8).toNat : Int) from rfl, show (49 : Int) = ((49 : UInt8).toNat : Int) from rfl, show (120 : Int) = ((120 : UInt8).toNat : Int) from rfl, show (122 : Int) = ((122 : UInt8).toNat : Int) from rfl, u8_int, u8_int, u8_int, u8_int]
  simp only [Bool.or_assoc]
/-- The reference's kinds of bytes. -/
def ofK (c : UInt8) (k : Int) : Bool := bif k == 0 then isDigitC c else bif k == 1 then isPartC c else bif k == 2 then isBitC c else bif k == 3 then isPlainC c else ((c.toNat : Int) != 10)
theorem getD_drop {s : Bs} {i q : Nat} : (s.drop i).getD q default = s.getD (i + q) default := by
  rw [List.getD_eq_getElem?_getD, List.getElem?_drop, ← List.getD_eq_getElem?_getD]
theorem toNat_add2 (i j : Nat) : ((i : Int) + (j : Int)).toNat = i + j := by omega
theorem run_step {p : UInt8 → Bool} {s : Bs} {i : Nat} (h : ∀ k, k < i → p (s.getD k default) = true) (h1 : p (s.getD i default) = true) : ∀ k, k < i + 1 → p (s.getD k default) = true := by
  intro k hk
  rcases Nat.lt_or_eq_of_le (Nat.le_of_lt_succ hk) with e | e
  · exact h k e
  · subst e; exact h1
theorem run_take {p : UInt8 → Bool} : ∀ {s : Bs} {i : Nat}, (∀ k, k < i → p (s.getD k default) = true) → i ≤ s.length → (i = s.length ∨ p (s.getD i default) = false) → s.take i = s.takeWhile p
  | [], i, _, hi, _ => by
    have : i = 0 := by simpa using hi
    subst this; rfl
  | c :: s, 0, _, _, he => by
    rcases he with e | e
    · simp at e
    · rw [List.takeWhile_cons, show p c = false from e]; rfl
  | c :: s, i + 1, h, hi, he => by
    have h0 : p c = true := h 0 (Nat.zero_lt_succ _)
    rw [List.takeWhile_cons, h0, if_pos rfl, List.take_succ_cons]
    rw [run_take (s := s) (i := i) (fun k hk => h (k + 1) (by omega)) (by simpa using hi) (by rcases he with e | e; exact .inl (by simpa using e); exact .inr e)]
theorem run_take3 {p : UInt8 → Bool} {s : Bs} {i : Nat} (h : ∀ k, k < i → p (s.getD k default) = true) (hi : i ≤ s.length) (he : i = s.length ∨ p (s.getD i default) = false) : i = (s.takeWhile p).length := by
  rw [← run_take h hi he, List.length_take]; omega
/-- A run that is all. -/
theorem run_all {p : UInt8 → Bool} : ∀ {s : Bs}, decide ((s.takeWhile p).length = s.length) = s.all p
  | [] => rfl
  | c :: s => by
    rw [List.takeWhile_cons, List.all_cons]
    cases h : p c with
    | true => simp only [if_true, List.length_cons, Bool.true_and, ← run_all (s := s)]; simp
    | false => simp
theorem run_eq {p : UInt8 → Bool} : ∀ {s : Bs}, (s.takeWhile p == s) = s.all p
  | [] => rfl
  | c :: s => by
    rw [List.takeWhile_cons, List.all_cons]
    cases h : p c with
    | true =>
      simp only [if_true, Bool.true_and, ← run_eq (s := s)]
      rw [Bool.eq_iff_iff]; simp
    | false => simp [List.nil_beq_eq]
/-! ### Words -/
theorem lib_contains (s p : Bs) : Lib.contains s p = true ↔ ∃ a b, s = a ++ p ++ b := by
  rw [Lib.contains, decide_eq_true_eq]
  rcases Lib.index_spec s p with ⟨h1, h2⟩ | ⟨i, h1, h2, h3, _⟩
  · rw [h1]
    refine ⟨fun h => by omega, fun ⟨a, b, e⟩ => ?_⟩
    have := h2 a.length (by subst e; simp)
    rw [Lib.occAt] at this
    subst e
    rw [List.append_assoc, List.drop_left] at this
    have h4 : p.isPrefixOf (p ++ b) = true := List.isPrefixOf_iff_prefix.2 (List.prefix_append _ _)
    rw [h4] at this; cases this
  · rw [h1]
    refine ⟨fun _ => ?_, fun _ => by omega⟩
    rw [Lib.occAt, List.isPrefixOf_iff_prefix] at h3
    obtain ⟨b, hb⟩ := h3
    exact ⟨s.take i, b, by rw [List.append_assoc, hb, List.take_append_drop]⟩
theorem app_sp : ∀ {u v x y : Bs}, (32 : UInt8) ∉ u → (32 : UInt8) ∉ v → u ++ 32 :: x = v ++ 32 :: y → u = v
  | [], [], _, _, _, _, _ => rfl
  | [], d :: v, _, _, _, hv, h => by simp at h; exact absurd (by rw [h.1]; simp) hv
  | c :: u, [], _, _, hu, _, h => by simp at h; exact absurd (by rw [h.1]; simp) hu
  | c :: u, d :: v, _, _, hu, hv, h => by
    simp only [List.cons_append, List.cons.injEq] at h
    rw [h.1, app_sp (fun hm => hu (List.mem_cons_of_mem _ hm)) (fun hm => hv (List.mem_cons_of_mem _ hm)) h.2]
theorem app_sp2 : ∀ {w a x r : Bs}, (32 : UInt8) ∉ w → w ++ 32 :: x = a ++ 32 :: r → ∃ a2, a = w ++ a2 ∧ 32 :: x = a2 ++ 32 :: r
  | [], a, _, _, _, h => ⟨a, rfl, h⟩
  | c :: w, [], _, _, hw, h => by simp at h; exact absurd (by rw [h.1]; simp) hw
  | c :: w, d :: a, _, _, hw, h => by
    simp only [List.cons_append, List.cons.injEq] at h
    obtain ⟨a2, rfl, e⟩ := app_sp2 (fun hm => hw (List.mem_cons_of_mem _ hm)) h.2
    exact ⟨a2, by rw [h.1]; rfl, e⟩
theorem words_tail (ws : List Bs) : ∃ x, (ws.map (fun w => 32 :: w)).flatten ++ [32] = (32 : UInt8) :: x := by
  cases ws with
  | nil => exact ⟨[], rfl⟩
  | cons w ws => exact ⟨_, rfl⟩
theorem mem_words : ∀ {ws : List Bs}, (∀ w ∈ ws, (32 : UInt8) ∉ w) → ∀ {s : Bs}, (32 : UInt8) ∉ s → ((∃ a b, (ws.map (fun w => (32 : UInt8) :: w)).flatten ++ [32] = a ++ (32 :: (s ++ [32])) ++ b) ↔ s ∈ ws)
  | [], _, s, _ => by
    constructor
    · rintro ⟨a, b, h⟩
      have := congrArg List.length h
      simp at this
      omega
    · intro h; cases h
  | w :: ws, hw, s, hs => by
    have ih := mem_words (ws := ws) (fun x hx => hw x (List.mem_cons_of_mem _ hx)) hs
    have hw0 := hw w (by simp)
    obtain ⟨x, hx⟩ := words_tail ws
    constructor
    · rintro ⟨a, b, h⟩
      simp only [List.map_cons, List.flatten_cons, List.append_assoc, List.cons_append, hx] at h
      cases a with
      | nil =>
        simp only [List.nil_append, List.cons.injEq, true_and] at h
        rw [app_sp hs hw0 h.symm]; simp
      | cons d a =>
        simp only [List.cons_append, List.cons.injEq] at h
        obtain ⟨a2, rfl, e⟩ := app_sp2 hw0 h.2
        refine List.mem_cons_of_mem _ (ih.1 ⟨a2, b, ?_⟩)
        rw [hx, e]; simp
    · intro h
      rcases List.mem_cons.1 h with rfl | h
      · refine ⟨[], x, ?_⟩
        simp only [List.map_cons, List.flatten_cons, List.append_assoc, List.cons_append, hx]
        simp
      · obtain ⟨a, b, e⟩ := ih.2 h
        refine ⟨32 :: w ++ a, b, ?_⟩
        simp only [List.map_cons, List.flatten_cons, List.append_assoc, List.cons_append]
        simp only [List.append_assoc, List.cons_append] at e
        rw [e]
theorem wordText_eq : wordText = (wordsL.map (fun w => (32 : UInt8) :: w)).flatten ++ [32] := by decide +kernel
theorem words_no : ∀ w ∈ wordsL, (32 : UInt8) ∉ w := by decide +kernel
theorem words_ne : wordsL.contains [] = false := by decide +kernel
theorem isWord_prog (s : Bs) : ((!(s == []) && !(Lib.contains s [32])) && Lib.contains wordText (([32] ++ s) ++ [32])) = isWordL s := by
  rw [isWordL]
  by_cases h0 : s = []
  · subst h0; rw [words_ne]; rfl
  · by_cases h : (32 : UInt8) ∈ s
    · have h1 : Lib.contains s [32] = true := (lib_contains _ _).2 (by
        obtain ⟨a, b, e⟩ := List.append_of_mem h
        exact ⟨a, b, by rw [e]; simp⟩)
      have h2 : wordsL.contains s = false := by
        rw [Bool.eq_false_iff]
        intro hc
        exact words_no s (List.contains_iff_mem.1 hc) h
      rw [h1, h2]; simp
    · have h1 : Lib.contains s [32] = false := by
        rw [Bool.eq_false_iff]
        intro hc
        obtain ⟨a, b, e⟩ := (lib_contains _ _).1 hc
        exact h (by rw [e]; simp)
      have h2 : (s == []) = false := by simpa using h0
      rw [h1, h2, Bool.eq_iff_iff]
      simp only [Bool.not_false, Bool.true_and]
      rw [lib_contains, wordText_eq, List.contains_iff_mem, ← mem_words words_no h]
      simp
/-! ### Names -/
theorem str_pos {s : Bs} {b : Bool} (h : ((s == []) || b) = false) : 0 < s.length := by
  cases s with
  | nil => cases h
  | cons => simp
theorem isName_no {s : Bs} (h : ((((s == []) || decide ((s.length : Int) > 40)) || !isLetterC (s.getD 0 default)) || isWordL s) = true) : isNameL s = false := by
  rw [isNameL]
  cases s with
  | nil => rfl
  | cons c r =>
    simp only [Bool.or_eq_true, decide_eq_true_eq, Bool.not_eq_true'] at h
    rcases h with ((h | h) | h) | h
    · simp at h
    · have : decide ((c :: r).length ≤ 40) = false := decide_eq_false (by omega)
      rw [this]; simp
    · rw [h]; simp
    · rw [h]; simp
theorem isName_part {s : Bs} (i : Nat) (hi : i < s.length) (h : isPartC (s.getD i default) = false) : isNameL s = false := by
  have : s.all isPartC = false := by
    rw [List.all_eq_false]
    refine ⟨s[i], List.getElem_mem hi, ?_⟩
    rw [List.getD_eq_getElem?_getD, List.getElem?_eq_getElem hi] at h
    rw [show isPartC s[i] = false from h]; simp
  rw [isNameL, this]; simp
theorem all_of {p : UInt8 → Bool} {s : Bs} (h : ∀ k, k < s.length → p (s.getD k default) = true) : s.all p = true := by
  rw [List.all_eq_true]
  intro x hx
  obtain ⟨i, hi, rfl⟩ := List.getElem_of_mem hx
  have := h i hi
  rwa [List.getD_eq_getElem?_getD, List.getElem?_eq_getElem hi] at this
theorem isName_yes {s : Bs} (h : ((((s == []) || decide ((s.length : Int) > 40)) || !isLetterC (s.getD 0 default)) || isWordL s) = false) (ha : ∀ k, k < s.length → isPartC (s.getD k default) = true) : isNameL s = true := by
  simp only [Bool.or_eq_false_iff, decide_eq_false_iff_not, Bool.not_eq_false'] at h
  obtain ⟨⟨⟨h1, h2⟩, h3⟩, h4⟩ := h
  have e1 : s.isEmpty = false := by cases s with | nil => simp at h1 | cons => rfl
  rw [isNameL, all_of ha, h3, h4, e1, decide_eq_true (by omega)]; rfl
theorem ofK_1 : (fun c => ofK c 1) = isPartC := rfl
theorem int_eq_nat (a b : Nat) : ((a : Int) == (b : Int)) = decide (a = b) := by
  rw [Bool.eq_iff_iff, beq_iff_eq, decide_eq_true_eq]; omega
theorem isName_ref (s : Bs) : ((((decide ((s.length : Int) ≥ 1) && decide ((s.length : Int) ≤ 40)) && isLetterC (s.getD 0 default)) && ((((s.drop 0).takeWhile (fun c => ofK c 1)).length : Int) == (s.length : Int))) && !isWordL s) = isNameL s := by
  rw [List.drop_zero, ofK_1, int_eq_nat, run_all, isNameL]
  cases s with
  | nil => rfl
  | cons c r =>
    have e1 : decide (((c :: r).length : Int) ≥ 1) = true := decide_eq_true (by simp only [List.length_cons]; omega)
    have e2 : decide (((c :: r).length : Int) ≤ 40) = decide ((c :: r).length ≤ 40) := by
      rw [Bool.eq_iff_iff, decide_eq_true_eq, decide_eq_true_eq]; omega
    rw [e1, e2]
    simp only [List.isEmpty_cons, Bool.not_false, Bool.true_and, Bool.and_assoc]
end Go.Proofs.YtcgdlhkiecommaaGreatDoor
