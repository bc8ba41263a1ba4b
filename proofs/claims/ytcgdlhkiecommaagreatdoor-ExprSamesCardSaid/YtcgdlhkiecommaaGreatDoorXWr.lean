/- The writer in memory, and what a call on it leaves. -/
import Derived.Test.YtcgdlhkiecommaaGreatDoorXSame
set_option linter.all false
namespace Go.Proofs.YtcgdlhkiecommaaGreatDoor
open Go
abbrev wr (v0 v1 : Nat) (out : List Tk) (d m : Int) (τ : Store) : Store := (0, v0, .row 3 [[.slice 1 v1 0 out.length, .v (.int .i64 d), .v (.int .i64 m)]]) :: (1, v1, .row 5 (out.map encK)) :: τ
def k01 (i : Nat) : Bool := Nat.beq i 0 || Nat.beq i 1
def WrT (v0 : Nat) (out : List Tk) (d m : Int) (τ : Store) (r : AEnd) (σ' : Store) : Prop := ∃ v1, r = .ret (.tuple []) ∧ σ' = wr v0 v1 out d m τ
def WrK (v0 : Nat) (out : List Tk) (d m : Int) (r : AEnd) (σ' : Store) : Prop := ∃ v1, r = .ret (.tuple []) ∧ σ'.keep k01 = wr v0 v1 out d m []
theorem encK_rn (l : List Tk) (ρ : Nat → Nat) : (l.map encK).map (List.map (AVal.rn1 ρ)) = l.map encK := by
  rw [List.map_map]; exact List.map_congr_left fun t _ => rfl
theorem wr_below {v0 v1 : Nat} {out : List Tk} {d m : Int} {τ : Store} (h : τ.below 1000 = true) : (wr v0 v1 out d m τ).below 1000 = true := by
  simp [wr, Store.below, h]
theorem wr_lift {P : Program} {n : FuncId} {extra : List AVal} {v0 v1 : Nat} {out out' : List Tk} {d m d' m' : Int} (hx : extra.map (AVal.rn (tab [0, 1])) = extra)
    (h : AC P n (.ptr 0 v0 0 0 :: extra) (wr v0 v1 out d m []) (WrK v0 out' d' m')) (τ : Store) (hb : (wr v0 v1 out d m τ).below 1000 = true) : AC P n (.ptr 0 v0 0 0 :: extra) (wr v0 v1 out d m τ) (WrT v0 out' d' m' τ) := by
  have hf : Store.free [0, 1] (wr v0 v1 out d m []) (wr v0 v1 out d m τ) = true := by simp [Store.free, Store.get, List.range_succ]
  have hrow : ∀ (out : List Tk) (v1 : Nat), (AObj.row 5 (out.map encK)).rn (tab [0, 1]) = .row 5 (out.map encK) := fun out v1 => by
    simp only [AObj.rn, encK_rn]
  have hm : Store.match (tab [0, 1]) (wr v0 v1 out d m τ) (wr v0 v1 out d m []) := ⟨rfl, by rw [hrow out v1]; rfl, trivial⟩
  have := ac_at (σ := wr v0 v1 out d m τ) [0, 1] rfl (ac_keep k01 h) hm hf hb (by
    rintro r σ' ⟨σ1, ⟨v1', _, e2⟩, rfl⟩ j hj
    rw [e2] at hj
    revert hj
    simp only [Store.get]
    cases Nat.beq 0 j <;> cases Nat.beq 1 j <;> simp)
  rw [List.map_cons, hx] at this
  refine ac_mono this ?_
  rintro r σ' ⟨r0, σ0, ⟨σ1, ⟨v1', rfl, e2⟩, rfl⟩, rfl, rfl⟩
  refine ⟨v1', rfl, ?_⟩
  rw [e2]
  simp only [Store.putAll, hrow out' v1']
  rfl
/-! ### What is written, piece by piece -/
def kidTk (e : Ex) (least : Int) : List Tk := if bindsP e < least then inBr (toks e) else toks e
def kidDp (e : Ex) (least : Int) : Nat := if bindsP e < least then dep e + 1 else dep e
theorem take_getD {α : Type} (z : α) (ts : List α) (i : Nat) (hi : i < ts.length) : ts.take (i + 1) = ts.take i ++ [ts.getD i z] := by
  rw [List.take_succ, List.getD_eq_getElem?_getD, List.getElem?_eq_getElem hi]; rfl
theorem sep_snoc (s : Bs) (ts : List (List Tk)) (x : List Tk) (h : ts ≠ []) : sepT s (ts ++ [x]) = sepT s ts ++ (tkS s :: x) := by
  induction ts with
  | nil => exact absurd rfl h
  | cons a r ih =>
    cases r with
    | nil => rfl
    | cons b r => simp only [List.cons_append, sepT] at ih ⊢; rw [ih (by simp)]; simp
theorem sep_pos (s : Bs) (ts : List (List Tk)) (i : Nat) (hi : i < ts.length) (h0 : 0 < i) : sepT s (ts.take (i + 1)) = sepT s (ts.take i) ++ (tkS s :: ts.getD i []) := by
  rw [take_getD [] ts i hi]
  exact sep_snoc s _ _ (by intro e; have := congrArg List.length e; rw [List.length_take, List.length_nil] at this; omega)
theorem sep_zero (s : Bs) (ts : List (List Tk)) (hi : 0 < ts.length) : sepT s (ts.take (0 + 1)) = ts.getD 0 [] := by
  rw [take_getD [] ts 0 hi]; rfl
theorem maxL_snoc (ds : List Nat) (x : Nat) : maxL (ds ++ [x]) = max (maxL ds) x := by
  induction ds with
  | nil => simp [maxL]
  | cons a r ih => simp only [List.cons_append, maxL, ih]; omega
theorem maxL_take (ds : List Nat) (i : Nat) (hi : i < ds.length) : maxL (ds.take (i + 1)) = max (maxL (ds.take i)) (ds.getD i 0) := by
  rw [take_getD 0 ds i hi, maxL_snoc]
theorem maxL_le {ds : List Nat} {i : Nat} (hi : i < ds.length) : ds.getD i 0 ≤ maxL ds := by
  induction ds generalizing i with
  | nil => simp at hi
  | cons a r ih =>
    cases i with
    | zero => simp [maxL]; omega
    | succ i => have := ih (i := i) (by simpa using hi); simp only [List.getD_cons_succ, maxL]; omega
theorem maxL_take_le (ds : List Nat) (i : Nat) : maxL (ds.take i) ≤ maxL ds := by
  induction ds generalizing i with
  | nil => simp [maxL]
  | cons a r ih => cases i <;> simp only [List.take_zero, List.take_succ_cons, maxL] <;> first | omega | (have := ih (by assumption); omega)
theorem sep_len (s : Bs) (ts : List (List Tk)) (i : Nat) (hi : i ≤ ts.length) : (sepT s (ts.take i)).length ≤ (sepT s ts).length := by
  induction ts generalizing i with
  | nil => simp
  | cons a r ih =>
    cases i with
    | zero => simp [sepT]
    | succ i =>
      rw [List.take_succ_cons]
      cases r with
      | nil => simp
      | cons b r =>
        cases i with
        | zero => simp [sepT]
        | succ i =>
          have := ih (i + 1) (by simpa using hi)
          rw [List.take_succ_cons] at this ⊢
          simp only [sepT, List.length_append, List.length_cons] at this ⊢
          omega
theorem getD_map_toks (l : List Ex) (i : Nat) (hi : i < l.length) : (l.map toks).getD i [] = toks (l.getD i default) := by
  rw [List.getD_eq_getElem?_getD, List.getD_eq_getElem?_getD, List.getElem?_map, List.getElem?_eq_getElem hi]; rfl
theorem getD_map_dep (l : List Ex) (i : Nat) (hi : i < l.length) : (l.map dep).getD i 0 = dep (l.getD i default) := by
  rw [List.getD_eq_getElem?_getD, List.getD_eq_getElem?_getD, List.getElem?_map, List.getElem?_eq_getElem hi]; rfl
/-- The state between two of a row. -/
theorem wr_start {v0 v1 : Nat} {out : List Tk} {d m : Int} {τ : Store} (s : Bs) (l : List Ex) (h : d ≤ m) : wr v0 v1 out d m τ = wr v0 v1 (out ++ sepT s ((l.map toks).take 0)) d (max m (d + (maxL ((l.map dep).take 0) : Nat))) τ := by
  have e : max m (d + (maxL ((l.map dep).take 0) : Nat)) = m := by simp only [List.take_zero, maxL]; omega
  rw [e, List.take_zero]
  simp [sepT]
theorem wr_pos {v0 v1 : Nat} {out : List Tk} {d m : Int} {τ : Store} (s : Bs) (l : List Ex) (i : Nat) (hi : i < l.length) (h0 : 0 < i) :
    wr v0 v1 (((out ++ sepT s ((l.map toks).take i)) ++ [tkS s]) ++ toks (l.getD i default)) d (max (max m (d + (maxL ((l.map dep).take i) : Nat))) (d + (dep (l.getD i default) : Nat))) τ = wr v0 v1 (out ++ sepT s ((l.map toks).take (i + 1))) d (max m (d + (maxL ((l.map dep).take (i + 1)) : Nat))) τ := by
  rw [sep_pos s _ i (by simpa using hi) h0, maxL_take _ i (by simpa using hi), getD_map_toks l i hi, getD_map_dep l i hi]
  have e : max (max m (d + (maxL ((l.map dep).take i) : Nat))) (d + (dep (l.getD i default) : Nat)) = max m (d + (max (maxL ((l.map dep).take i)) (dep (l.getD i default)) : Nat)) := by omega
  rw [e]
  simp
theorem wr_zero {v0 v1 : Nat} {out : List Tk} {d m : Int} {τ : Store} (s : Bs) (l : List Ex) (i : Nat) (hi : i < l.length) (h0 : ¬ 0 < i) :
    wr v0 v1 ((out ++ sepT s ((l.map toks).take i)) ++ toks (l.getD i default)) d (max (max m (d + (maxL ((l.map dep).take i) : Nat))) (d + (dep (l.getD i default) : Nat))) τ = wr v0 v1 (out ++ sepT s ((l.map toks).take (i + 1))) d (max m (d + (maxL ((l.map dep).take (i + 1)) : Nat))) τ := by
  obtain rfl : i = 0 := by omega
  rw [sep_zero s _ (by simpa using hi), maxL_take _ 0 (by simpa using hi), getD_map_toks l 0 hi, getD_map_dep l 0 hi]
  have e : max (max m (d + (maxL ((l.map dep).take 0) : Nat))) (d + (dep (l.getD 0 default) : Nat)) = max m (d + (max (maxL ((l.map dep).take 0)) (dep (l.getD 0 default)) : Nat)) := by omega
  rw [e]
  simp [sepT]
/-- What writing an expression leaves. -/
def WX (P : Program) (e : Ex) : Prop := ∀ (v0 v1 : Nat) (out : List Tk) (d m : Int) (τ : Store), (wr v0 v1 out d m τ).below 1000 = true → 0 ≤ d → d ≤ m → m ≤ 1000000000 → out.length + (toks e).length ≤ 1000000000 → d + (dep e : Nat) ≤ 1000000000 →
  AC P 101 [.ptr 0 v0 0 0, encX e] (wr v0 v1 out d m τ) (WrT v0 (out ++ toks e) d (max m (d + (dep e : Nat))) τ)
end Go.Proofs.YtcgdlhkiecommaaGreatDoor
