/- Writing as a whole: types, texts, what is valid. -/
import Derived.Test.YtcgdlhkiecommaaGreatDoorXWr3
set_option linter.all false
namespace Go.Proofs.YtcgdlhkiecommaaGreatDoor
open Go
/-- A call on a writer of other names. -/
theorem wr_call {P : Program} {n : FuncId} {a : AVal} {v0 v1 : Nat} {out out' : List Tk} {d m d' m' : Int} (p q : Nat) (ht : tabOK [p, q] = true) (ha : a.rn (tab [p, q]) = a)
    (h : AC P n [.ptr 0 v0 0 0, a] (wr v0 v1 out d m []) (WrT v0 out' d' m' [])) {σ : Store} (h0 : σ.get p = some (v0, .row 3 [[.slice q v1 0 out.length, .v (.int .i64 d), .v (.int .i64 m)]])) (h1 : σ.get q = some (v1, .row 5 (out.map encK))) (hb : σ.below 1000 = true) :
    AC P n [.ptr p v0 0 0, a] σ (fun r σ' => ∃ v1', r = .ret (.tuple []) ∧ σ' = (σ.put q v1' (.row 5 (out'.map encK))).put p v0 (.row 3 [[.slice q v1' 0 out'.length, .v (.int .i64 d'), .v (.int .i64 m')]])) := by
  have hf : Store.free [p, q] (wr v0 v1 out d m []) σ = true := by simp [Store.free, Store.get, List.range_succ]
  have hrow : ∀ (out : List Tk), (AObj.row 5 (out.map encK)).rn (tab [p, q]) = .row 5 (out.map encK) := fun out => by
    simp only [AObj.rn, encK_rn]
  have hm : Store.match (tab [p, q]) σ (wr v0 v1 out d m []) := ⟨h0, by rw [hrow out]; exact h1, trivial⟩
  have := ac_at (σ := σ) [p, q] ht h hm hf hb (by
    rintro r σ' ⟨v1', _, e2⟩ j hj
    rw [e2] at hj
    revert hj
    simp only [Store.get]
    cases Nat.beq 0 j <;> cases Nat.beq 1 j <;> simp)
  rw [show [AVal.ptr 0 v0 0 0, a].map (AVal.rn (tab [p, q])) = [.ptr p v0 0 0, a] from by simp only [List.map_cons, List.map_nil, ha]; rfl] at this
  refine ac_mono this ?_
  rintro r σ' ⟨r0, σ0, ⟨v1', rfl, e2⟩, rfl, rfl⟩
  refine ⟨v1', rfl, ?_⟩
  rw [e2]
  simp only [Store.putAll, hrow out']
  rfl
/-- What writing a type leaves. -/
def WRX (P : Program) (r : Tr) : Prop := ∀ (v0 v1 : Nat) (out : List Tk) (d m : Int) (τ : Store), (wr v0 v1 out d m τ).below 1000 = true → 0 ≤ d → d ≤ m → m ≤ 1000000000 → out.length + (toksR r).length ≤ 1000000000 → d + (depR r : Nat) ≤ 1000000000 →
  AC P 115 [.ptr 0 v0 0 0, .agg (cellsR r)] (wr v0 v1 out d m τ) (WrT v0 (out ++ toksR r) d (max m (d + (depR r : Nat))) τ)
theorem rs_len (l : List Tr) (i : Nat) (hi : i ≤ l.length) : (toksRs (l.take i)).length ≤ (toksRs l).length := by
  induction l generalizing i with
  | nil => simp [toksRs]
  | cons a l ih =>
    cases i with
    | zero => simp [toksRs]
    | succ i => have := ih i (by simpa using hi); simp only [List.take_succ_cons, toksRs, List.length_cons, List.length_append]; omega
theorem rs_dep (l : List Tr) (i : Nat) : depRs (l.take i) ≤ depRs l := by
  induction l generalizing i with
  | nil => simp [depRs]
  | cons a l ih =>
    cases i with
    | zero => simp [depRs]
    | succ i => have := ih i; simp only [List.take_succ_cons, depRs]; omega
theorem rs_take {l : List Tr} {i : Nat} (hi : i < l.length) : toksRs (l.take (i + 1)) = toksRs (l.take i) ++ (tkS sOf :: toksR (l.getD i default)) := by
  rw [take_getD default l i hi, toksRs_snoc]
theorem rsd_take {l : List Tr} {i : Nat} (hi : i < l.length) : depRs (l.take (i + 1)) = max (depRs (l.take i)) (depR (l.getD i default)) := by
  rw [take_getD default l i hi, depRs_snoc]
theorem wr_rs {v0 v1 : Nat} {out : List Tk} {d m : Int} {τ : Store} (l : List Tr) (i : Nat) (hi : i < l.length) :
    wr v0 v1 (((out ++ toksRs (l.take i)) ++ [tkS sOf]) ++ toksR (l.getD i default)) d (max (max m (d + (depRs (l.take i) : Nat))) (d + (depR (l.getD i default) : Nat))) τ = wr v0 v1 (out ++ toksRs (l.take (i + 1))) d (max m (d + (depRs (l.take (i + 1)) : Nat))) τ := by
  rw [rs_take hi, rsd_take hi]
  exact wr_eq (by simp) (by omega)
theorem wr_rs0 {v0 v1 : Nat} {out : List Tk} {d m : Int} {τ : Store} (l : List Tr) (h : d ≤ m) : wr v0 v1 out d m τ = wr v0 v1 (out ++ toksRs (l.take 0)) d (max m (d + (depRs (l.take 0) : Nat))) τ :=
  wr_eq (by simp [toksRs]) (by simp only [List.take_zero, depRs]; omega)
/-- What is enough to write an expression. -/
structure OKW (P : Program) (e : Ex) : Prop where
  z : szE e = true
  b : BTok P e
  l : (toks e).length ≤ 1000000000
  d : dep e ≤ 1000000000
end Go.Proofs.YtcgdlhkiecommaaGreatDoor
