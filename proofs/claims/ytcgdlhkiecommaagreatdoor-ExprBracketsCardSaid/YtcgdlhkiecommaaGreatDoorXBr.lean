/- Pairs of brackets among tokens. -/
import Derived.Test.YtcgdlhkiecommaaGreatDoorXLaws2
import Derived.Test.YtcgdlhkiecommaaGreatDoorEngStk
set_option linter.all false
namespace Go.Proofs.YtcgdlhkiecommaaGreatDoor
open Go
def isO (t : Tk) : Bool := (t.op == 7) && (t.text == sOpen)
def isC (t : Tk) : Bool := (t.op == 7) && (t.text == sShut)
def brV (t : Tk) : Int := if isO t = true then 1 else if isC t = true then -1 else 0
def brS (l : List Tk) : Int := (l.map brV).sum
def Bal (l : List Tk) : Prop := brS l = 0 ∧ ∀ i, 0 ≤ brS (l.take i)
theorem brS_app (a b : List Tk) : brS (a ++ b) = brS a + brS b := by simp [brS]
theorem bal_nil : Bal [] := ⟨rfl, fun i => by simp [brS]⟩
theorem bal_app {a b : List Tk} (h1 : Bal a) (h2 : Bal b) : Bal (a ++ b) := by
  refine ⟨by rw [brS_app, h1.1, h2.1]; rfl, fun i => ?_⟩
  rw [List.take_append, brS_app]
  have g1 := h1.2 i
  have g2 := h2.2 (i - a.length)
  rcases Nat.lt_or_ge i a.length with h | h
  · have : i - a.length = 0 := by omega
    rw [this, List.take_zero]
    simp [brS] at g1 ⊢; omega
  · omega
theorem bal_one {t : Tk} (h : brV t = 0) : Bal [t] := by
  refine ⟨by simp [brS, h], fun i => ?_⟩
  cases i with
  | zero => simp [brS]
  | succ i => simp [brS, h]
theorem bal_cons {t : Tk} {l : List Tk} (h : brV t = 0) (h2 : Bal l) : Bal (t :: l) := bal_app (a := [t]) (bal_one h) h2
theorem brO : brV tkO = 1 := by decide +kernel
theorem brC : brV tkC = -1 := by decide +kernel
theorem bal_br {t : List Tk} (h : Bal t) : Bal (inBr t) := by
  rw [inBr_eq]
  have e : brS (([tkO] ++ t) ++ [tkC]) = 0 := by rw [brS_app, brS_app, h.1]; simp [brS, brO, brC]
  refine ⟨e, fun i => ?_⟩
  cases i with
  | zero => simp [brS]
  | succ i =>
    rcases Nat.lt_or_ge i (t.length + 1) with h1 | h1
    · have : ((([tkO] ++ t) ++ [tkC])).take (i + 1) = [tkO] ++ t.take i := by
        simp only [List.cons_append, List.nil_append, List.take_succ_cons]
        rw [List.take_append_of_le_length (by omega)]
      rw [this, brS_app]
      have := h.2 i
      have e1 : brS [tkO] = 1 := by simp [brS, brO]
      omega
    · rw [List.take_of_length_le (by simp; omega), e]; exact Int.le_refl 0
theorem bal_kid {k : Ex} {n : Int} (h : Bal (toks k)) : Bal (kidTk k n) := by
  rw [kidTk]; split
  · exact bal_br h
  · exact h
theorem bal_sep {s : Bs} (hs : brV (tkS s) = 0) : ∀ {ts : List (List Tk)}, (∀ t ∈ ts, Bal t) → Bal (sepT s ts)
  | [], _ => bal_nil
  | [t], h => h t (by simp)
  | t :: u :: r, h => bal_app (h t (by simp)) (bal_cons hs (bal_sep hs (ts := u :: r) fun x hx => h x (by simp at hx ⊢; right; exact hx)))
theorem brV_op {s : Bs} (h : 0 ≤ strengthI s) : brV (tkS s) = 0 := by
  have key : (levelsL.flatten.all fun x => brV (tkS x) == 0) = true := by decide +kernel
  have := List.all_eq_true.1 key s (op_mem h)
  simpa using this
theorem brV_other {t : Tk} (h : t.op ≠ 7) : brV t = 0 := by
  have : (t.op == 7) = false := by simpa using h
  rw [brV, isO, isC, this]; rfl
theorem bal_toks (e : Ex) : formP e = true → Bal (toks e) := by
  induction e using Ex.ind with
  | h e ih =>
    intro hf
    have hk : ∀ i, i < e.kids.length → Bal (toks (e.kids.getD i default)) := fun i hi => ih _ (getD_mem hi) (form_kid hf _ (getD_mem hi))
    have hks : ∀ t ∈ e.kids.map toks, Bal t := fun t ht => by
      obtain ⟨k, hk1, rfl⟩ := List.mem_map.1 ht
      exact ih k hk1 (form_kid hf k hk1)
    rcases kind_of hf with ⟨h1, hk0⟩ | ⟨h1, hk0⟩ | ⟨h1, hk0⟩ | ⟨h1, hn, hk0⟩ | ⟨h1, hn, hk0, hs⟩ | ⟨h1, hn, hk0, hs⟩
    · rcases h1 with h1 | h1 | h1 | h1
      · rw [(toks_int (by rw [h1]; rfl)).1]; exact bal_one (brV_other (by show (3 : Int) ≠ 7; decide))
      · rw [(toks_bit (by rw [h1]; rfl) (by rw [h1]; rfl)).1]; exact bal_one (brV_other (by show (4 : Int) ≠ 7; decide))
      · rw [(toks_vec (by rw [h1]; rfl) (by rw [h1]; rfl) (by rw [h1]; rfl)).1]; exact bal_one (brV_other (by show (5 : Int) ≠ 7; decide))
      · rw [(toks_name (by rw [h1]; rfl) (by rw [h1]; rfl) (by rw [h1]; rfl) (by rw [h1]; rfl)).1]; exact bal_one (brV_other (by show (1 : Int) ≠ 7; decide))
    · obtain ⟨o1, o2, o3, o4, o6⟩ := ops6 h1
      rw [(toks_index o1 o2 o3 o4 o6 hk0).1]
      exact bal_app (bal_kid (hk 0 (by omega))) (bal_br (hk 1 (by omega)))
    · obtain ⟨o1, o2, o3, o4, o6, o7⟩ := ops7 h1
      rw [(toks_slice o1 o2 o3 o4 o6 o7 hk0).1]
      refine bal_app (bal_kid (hk 0 (by omega))) (bal_br (bal_sep (by decide +kernel) fun t ht => ?_))
      obtain ⟨k, hk1, rfl⟩ := List.mem_map.1 ht
      have := List.mem_of_mem_drop hk1
      exact ih k this (form_kid hf k this)
    · obtain ⟨o1, o2, o3, o4, o6, o7⟩ := ops5 h1
      rw [(toks_call o1 o2 o3 o4 o6 o7 (by rw [binds_call h1 hn]; rfl)).1]
      exact bal_cons (brV_other (by show (1 : Int) ≠ 7; decide)) (bal_br (bal_sep (by decide +kernel) hks))
    · obtain ⟨o1, o2, o3, o4, o6, o7⟩ := ops5 h1
      have hb := binds_unary h1 hn hk0
      rw [(toks_one o1 o2 o3 o4 o6 o7 (by rw [hb]; rfl) (by rw [hb]; rfl) hk0).1]
      exact bal_cons (by rcases hs with hs | hs <;> rw [hs] <;> decide +kernel) (bal_kid (hk 0 (by omega)))
    · obtain ⟨o1, o2, o3, o4, o6, o7⟩ := ops5 h1
      have hb := binds_binary h1 hn hk0
      have hr := str_range e.name
      rw [(toks_two o1 o2 o3 o4 o6 o7 (by rw [hb]; simp; omega) (by rw [hb]; simp; omega) hk0).1]
      exact bal_app (bal_kid (hk 0 (by omega))) (bal_cons (brV_op hs) (bal_kid (hk 1 (by omega))))
theorem brS_key (a : List Tk) : brS a = ((a.map tkey).map fun k => brV ⟨k.1, k.2.1, k.2.2, 0, 0⟩).sum := by rw [List.map_map]; rfl
theorem bal_alike {a l : List Tk} (h : alikeL a l = true) (hb : Bal a) : Bal l := by
  rw [alikeL, beq_iff_eq] at h
  refine ⟨by rw [brS_key, ← h, ← brS_key]; exact hb.1, fun i => ?_⟩
  rw [brS_key, List.map_take, ← h, ← List.map_take, ← brS_key]; exact hb.2 i
structure Brk where
  s : List Nat
  o : List Nat
  c : List Nat
def brk (l : List Tk) : Nat → Brk
  | 0 => ⟨[], [], []⟩
  | i + 1 => if isO (l.getD i default) = true then ⟨(brk l i).s ++ [i], (brk l i).o, (brk l i).c⟩
    else if isC (l.getD i default) = true then ⟨(brk l i).s.dropLast, (brk l i).o ++ [(brk l i).s.getD ((brk l i).s.length - 1) default], (brk l i).c ++ [i]⟩ else brk l i
section
variable {l : List Tk}
theorem brS_succ {i : Nat} (hi : i < l.length) : brS (l.take (i + 1)) = brS (l.take i) + brV (l.getD i default) := by
  rw [take_getD default l i hi, brS_app]; simp [brS]
theorem brk_len (hb : Bal l) : ∀ i, i ≤ l.length → ((brk l i).s.length : Int) = brS (l.take i)
  | 0, _ => by simp [brk, brS]
  | i + 1, hi => by
    have ih := brk_len hb i (by omega)
    have h1 := brS_succ (l := l) (i := i) (by omega)
    have h2 := hb.2 (i + 1)
    rw [h1] at h2 ⊢
    rw [brk, brV] at *
    split
    · rename_i h; rw [if_pos h] at *; simp only [List.length_append, List.length_cons, List.length_nil]; omega
    · rename_i h; rw [if_neg h] at *
      split
      · rename_i h; rw [if_pos h] at *; simp only [List.length_dropLast]; omega
      · rename_i h; rw [if_neg h] at *; omega
theorem brk_pop (hb : Bal l) {i : Nat} (hi : i < l.length) (ho : isO (l.getD i default) = false) (hc : isC (l.getD i default) = true) : 1 ≤ (brk l i).s.length := by
  have h1 := brS_succ (l := l) (i := i) hi
  have h2 := hb.2 (i + 1)
  have h3 := brk_len hb i (by omega)
  rw [h1, brV, ho, hc] at h2
  simp at h2
  omega
theorem brk_lt : ∀ i, (∀ x ∈ (brk l i).s, x < i) ∧ (∀ x ∈ (brk l i).o, x < i ∨ x = default) ∧ (∀ x ∈ (brk l i).c, x < i) ∧ (brk l i).o.length = (brk l i).c.length ∧ (brk l i).s.length ≤ i ∧ (brk l i).c.length ≤ i
  | 0 => by simp [brk]
  | i + 1 => by
    obtain ⟨h1, h2, h3, h4, h5, h6⟩ := brk_lt i
    rw [brk]
    split
    · refine ⟨fun x hx => ?_, fun x hx => (h2 x hx).imp (fun h => by omega) id, fun x hx => by have := h3 x hx; omega, h4, by simp; omega, by show (brk l i).c.length ≤ i + 1; omega⟩
      simp only [List.mem_append, List.mem_singleton] at hx
      rcases hx with hx | hx
      · have := h1 x hx; omega
      · omega
    · split
      · refine ⟨fun x hx => by have := h1 x (List.dropLast_subset _ hx); omega, fun x hx => ?_, fun x hx => ?_, by simp [h4], by simp; omega, by simp; omega⟩
        · simp only [List.mem_append, List.mem_singleton] at hx
          rcases hx with hx | hx
          · exact (h2 x hx).imp (fun h => by omega) id
          · rcases Nat.lt_or_ge ((brk l i).s.length - 1) (brk l i).s.length with h | h
            · left; have := h1 x (by rw [hx]; exact getD_mem h); omega
            · right; rw [hx, List.getD_eq_getElem?_getD, List.getElem?_eq_none h]; rfl
        · simp only [List.mem_append, List.mem_singleton] at hx
          rcases hx with hx | hx
          · have := h3 x hx; omega
          · omega
      · exact ⟨fun x hx => by have := h1 x hx; omega, fun x hx => (h2 x hx).imp (fun h => by omega) id, fun x hx => by have := h3 x hx; omega, h4, by omega, by omega⟩
theorem brk_O {i : Nat} (h : isO (l.getD i default) = true) : brk l (i + 1) = ⟨(brk l i).s ++ [i], (brk l i).o, (brk l i).c⟩ := by rw [brk, if_pos h]
theorem brk_C {i : Nat} (h0 : isO (l.getD i default) = false) (h : isC (l.getD i default) = true) : brk l (i + 1) = ⟨(brk l i).s.dropLast, (brk l i).o ++ [(brk l i).s.getD ((brk l i).s.length - 1) default], (brk l i).c ++ [i]⟩ := by rw [brk, if_neg (by rw [h0]; exact Bool.false_ne_true), if_pos h]
theorem brk_N {i : Nat} (h0 : isO (l.getD i default) = false) (h : isC (l.getD i default) = false) : brk l (i + 1) = brk l i := by rw [brk, if_neg (by rw [h0]; exact Bool.false_ne_true), if_neg (by rw [h]; exact Bool.false_ne_true)]
def skipT (l : List Tk) (a b : Nat) : Nat → List Tk
  | 0 => []
  | i + 1 => if ((i : Int) != (a : Int) && (i : Int) != (b : Int)) = true then skipT l a b i ++ [l.getD i default] else skipT l a b i
theorem skip_len (a b : Nat) : ∀ i, (skipT l a b i).length ≤ i ∧ (b < i → (skipT l a b i).length < i)
  | 0 => ⟨Nat.le_refl _, fun h => by omega⟩
  | i + 1 => by
    obtain ⟨h1, h2⟩ := skip_len a b i
    rw [skipT]
    split
    · rename_i h
      have hb : i ≠ b := by
        rw [Bool.and_eq_true, bne_iff_ne, bne_iff_ne] at h
        intro e; exact h.2 (by rw [e])
      simp only [List.length_append, List.length_cons, List.length_nil]
      exact ⟨by omega, fun h => by have := h2 (by omega); omega⟩
    · exact ⟨by omega, fun _ => by omega⟩
theorem skip_sub (a b : Nat) : ∀ i, ∀ t ∈ skipT l a b i, t = default ∨ t ∈ l
  | 0 => by intro t ht; cases ht
  | i + 1 => by
    intro t ht
    rw [skipT] at ht
    split at ht
    · rcases List.mem_append.1 ht with ht | ht
      · exact skip_sub a b i t ht
      · rw [List.mem_singleton.1 ht]
        rcases Nat.lt_or_ge i l.length with h | h
        · right; exact getD_mem h
        · left; rw [List.getD_eq_getElem?_getD, List.getElem?_eq_none h]; rfl
    · exact skip_sub a b i t ht
theorem skip_oks (h : OKTs l) (a b i : Nat) : OKTs (skipT l a b i) := fun t ht => by
  rcases skip_sub a b i t ht with h1 | h1
  · rw [h1]; exact ⟨by decide, by decide, by decide⟩
  · exact h t h1
end
theorem readP_szX (m : List Tk) (p : Int) : szX (readP ex0 m p (fun i => rowD m 40 4 i)).1 = true := by
  cases hc : (((textP m).2 != 0 || decide (p < 0)) || decide (p > (m.length : Int))) with
  | true => rw [readP_arg hc]; rfl
  | false =>
    have hc2 := hc
    simp only [Bool.or_eq_false_iff, bne_eq_false_iff_eq, decide_eq_false_iff_not] at hc2
    obtain ⟨⟨h1, h2⟩, h3⟩ := hc2
    obtain ⟨i, rfl⟩ := Int.eq_ofNat_of_zero_le (show 0 ≤ p by omega)
    cases hy : rowD m 40 4 i with
    | bad g => rw [readP_bad hc hy]; rfl
    | ok e j =>
      rw [readP_ok hc hy]
      have g := gd_all (wr_of (text_poss h1).2) hy
      exact szX_form e g.f g.z
theorem br_guard {l : List Tk} {c : Int} (h : ((((0 : Int) != 0) || (c != 0)) || decide ((l.length : Int) > 300)) = false) : (c != 0) = false ∧ l.length ≤ 300 := by
  simp only [Bool.or_eq_false_iff, decide_eq_false_iff_not] at h
  exact ⟨h.1.2, by omega⟩
theorem pop_eq {s J : List Nat} (h : 1 ≤ s.length) : s.dropLast ++ (s.getD (s.length - 1) default :: J) = s ++ J := by
  have hne : s ≠ [] := by intro e; rw [e] at h; simp at h
  have e : s.getD (s.length - 1) default = s.getLast hne := by
    rw [List.getLast_eq_getElem, List.getD_eq_getElem?_getD, List.getElem?_eq_getElem (by omega)]; rfl
  rw [e]
  have h2 := List.dropLast_concat_getLast hne
  conv => rhs; rw [← h2]
  simp
theorem top_eq {s J : List Nat} {k : Nat} (h : 1 ≤ s.length) (hk : k = s.length - 1) : (s ++ J).getD k default = s.getD (s.length - 1) default := by
  subst hk
  rw [List.getD_eq_getElem?_getD, List.getD_eq_getElem?_getD, List.getElem?_append_left (by omega)]
theorem brackets_end {e : Ex} {l m : List Tk} (hal : alikeL (toks e) l = true) (hlt : m.length < l.length) :
    (((readP ex0 m 0 (fun i => rowD m 40 4 i)).2.2.code != 0 || decide ((readP ex0 m 0 (fun i => rowD m 40 4 i)).2.1 < (m.length : Int))) || !(sameE (readP ex0 m 0 (fun i => rowD m 40 4 i)).1 e)) = true := by
  cases hc : ((readP ex0 m 0 (fun i => rowD m 40 4 i)).2.2.code != 0) with
  | true => rfl
  | false =>
    obtain ⟨htx, i, j, a, hi, hil, hrd, hrp⟩ := readP_yes (fun i g h => rowD_nz 40 4 i g h) hc
    obtain rfl : i = 0 := by omega
    rw [hrp]
    cases hj : decide (((a, (j : Int), okF) : Ex × Int × Flt).2.1 < (m.length : Int)) with
    | true => rfl
    | false =>
      have hj2 : ¬ ((j : Int) < (m.length : Int)) := by simpa using hj
      have := rowD_gt 40 4 0 _ _ hrd
      rw [fewer_toks hal hlt htx hrd (by omega)]; rfl
end Go.Proofs.YtcgdlhkiecommaaGreatDoor
