import Derived.Test.YtcgdlhkiecommaaGreatDoorXWr
import Derived.KernelRfl


/- What is written of an expression, by its kind. -/

set_option linter.all false
namespace Go.Proofs.YtcgdlhkiecommaaGreatDoor
open Go
section
variable {e : Ex}
theorem wr_eq {v0 v1 : Nat} {o1 o2 : List Tk} {d m1 m2 : Int} {τ : Store} (ho : o1 = o2) (hm : m1 = m2) : wr v0 v1 o1 d m1 τ = wr v0 v1 o2 d m2 τ := by rw [ho, hm]
theorem row_bounds {out : List Tk} {s : Bs} {l : List Ex} {i : Nat} (hi : i < l.length) (h : out.length + (sepT s (l.map toks)).length ≤ 1000000000) :
    (out ++ sepT s ((l.map toks).take i)).length ≤ 1000000000 ∧ (0 < i → ((out ++ sepT s ((l.map toks).take i)) ++ [tkS s]).length + (toks (l.getD i default)).length ≤ 1000000000) ∧ (¬ 0 < i → (out ++ sepT s ((l.map toks).take i)).length + (toks (l.getD i default)).length ≤ 1000000000) := by
  have h1 := sep_len s (l.map toks) i (by simp; omega)
  have h2 := sep_len s (l.map toks) (i + 1) (by simp; omega)
  refine ⟨by rw [List.length_append]; omega, fun h0 => ?_, fun h0 => ?_⟩
  · rw [sep_pos s _ i (by simpa using hi) h0, getD_map_toks l i hi] at h2
    simp only [List.length_append, List.length_cons, List.length_nil] at h2 ⊢
    omega
  · obtain rfl : i = 0 := by omega
    rw [sep_zero s _ (by simpa using hi), getD_map_toks l 0 hi] at h2
    simp only [List.length_append, List.take_zero, sepT, List.length_nil] at h2 ⊢
    omega
theorem dep_bound {l : List Ex} {i : Nat} (hi : i < l.length) : dep (l.getD i default) ≤ maxL (l.map dep) := by
  rw [← getD_map_dep l i hi]; exact maxL_le (by simpa using hi)
theorem kidT_eq {i : Nat} (hi : i < e.kids.length) (n : Int) : kidT e.kids (e.kids.map toks) i n = kidTk (e.kids.getD i default) n := by
  rw [kidT, kidTk, getD_map_toks _ _ hi]
theorem kidD_eq {i : Nat} (hi : i < e.kids.length) (n : Int) : kidD e.kids (e.kids.map dep) i n = kidDp (e.kids.getD i default) n := by
  rw [kidD, kidDp, getD_map_dep _ _ hi]
theorem toks_int (h1 : (e.op == 1) = true) : toks e = [⟨3, [], e.n, 0, 0⟩] ∧ dep e = 0 := by
  rw [toks_eq, dep_eq, toksOf, depOf, h1]; exact ⟨rfl, rfl⟩
theorem toks_bit (h1 : (e.op == 1) = false) (h2 : (e.op == 2) = true) : toks e = [⟨4, bitsT e.bits, 0, 0, 0⟩] ∧ dep e = 0 := by
  rw [toks_eq, dep_eq, toksOf, depOf, h1, h2]; exact ⟨rfl, rfl⟩
theorem toks_vec (h1 : (e.op == 1) = false) (h2 : (e.op == 2) = false) (h3 : (e.op == 3) = true) : toks e = [⟨5, bitsT e.bits, 0, 0, 0⟩] ∧ dep e = 0 := by
  rw [toks_eq, dep_eq, toksOf, depOf, h1, h2, h3]; exact ⟨rfl, rfl⟩
theorem toks_name (h1 : (e.op == 1) = false) (h2 : (e.op == 2) = false) (h3 : (e.op == 3) = false) (h4 : (e.op == 4) = true) : toks e = [tkN e.name] ∧ dep e = 0 := by
  rw [toks_eq, dep_eq, toksOf, depOf, h1, h2, h3, h4]; exact ⟨rfl, rfl⟩
theorem toks_index (h1 : (e.op == 1) = false) (h2 : (e.op == 2) = false) (h3 : (e.op == 3) = false) (h4 : (e.op == 4) = false) (h6 : (e.op == 6) = true) (hk : e.kids.length = 2) :
    toks e = kidTk (e.kids.getD 0 default) 5 ++ inBr (toks (e.kids.getD 1 default)) ∧ dep e = max (kidDp (e.kids.getD 0 default) 5) (dep (e.kids.getD 1 default) + 1) := by
  rw [toks_eq, dep_eq, toksOf, depOf, h1, h2, h3, h4, h6, kidT_eq (by omega), kidD_eq (by omega), getD_map_toks _ _ (by omega), getD_map_dep _ _ (by omega)]; exact ⟨rfl, rfl⟩
theorem toks_slice (h1 : (e.op == 1) = false) (h2 : (e.op == 2) = false) (h3 : (e.op == 3) = false) (h4 : (e.op == 4) = false) (h6 : (e.op == 6) = false) (h7 : (e.op == 7) = true) (hk : e.kids.length = 3) :
    toks e = kidTk (e.kids.getD 0 default) 5 ++ inBr (sepT sDownto ((e.kids.drop 1).map toks)) ∧ dep e = max (kidDp (e.kids.getD 0 default) 5) (maxL ((e.kids.drop 1).map dep) + 1) := by
  rw [toks_eq, dep_eq, toksOf, depOf, h1, h2, h3, h4, h6, h7, kidT_eq (by omega), kidD_eq (by omega), List.map_drop, List.map_drop]; exact ⟨rfl, rfl⟩
theorem toks_call (h1 : (e.op == 1) = false) (h2 : (e.op == 2) = false) (h3 : (e.op == 3) = false) (h4 : (e.op == 4) = false) (h6 : (e.op == 6) = false) (h7 : (e.op == 7) = false) (hb : (bindsP e == 5) = true) :
    toks e = tkN e.name :: inBr (sepT sComma (e.kids.map toks)) ∧ dep e = maxL (e.kids.map dep) + 1 := by
  rw [toks_eq, dep_eq, toksOf, depOf, h1, h2, h3, h4, h6, h7, hb]; exact ⟨rfl, rfl⟩
theorem toks_one (h1 : (e.op == 1) = false) (h2 : (e.op == 2) = false) (h3 : (e.op == 3) = false) (h4 : (e.op == 4) = false) (h6 : (e.op == 6) = false) (h7 : (e.op == 7) = false) (hb : (bindsP e == 5) = false) (hb4 : (bindsP e == 4) = true) (hk : e.kids.length = 1) :
    toks e = tkS e.name :: kidTk (e.kids.getD 0 default) 4 ∧ dep e = kidDp (e.kids.getD 0 default) 4 + 1 := by
  rw [toks_eq, dep_eq, toksOf, depOf, h1, h2, h3, h4, h6, h7, hb, hb4, kidT_eq (i := 0) (by omega) 4, kidD_eq (i := 0) (by omega) 4]; exact ⟨rfl, rfl⟩
theorem toks_two (h1 : (e.op == 1) = false) (h2 : (e.op == 2) = false) (h3 : (e.op == 3) = false) (h4 : (e.op == 4) = false) (h6 : (e.op == 6) = false) (h7 : (e.op == 7) = false) (hb : (bindsP e == 5) = false) (hb4 : (bindsP e == 4) = false) (hk : e.kids.length = 2) :
    toks e = kidTk (e.kids.getD 0 default) (leftP (bindsP e)) ++ (tkS e.name :: kidTk (e.kids.getD 1 default) (bindsP e + 1)) ∧ dep e = max (kidDp (e.kids.getD 0 default) (leftP (bindsP e))) (kidDp (e.kids.getD 1 default) (bindsP e + 1)) := by
  rw [toks_eq, dep_eq, toksOf, depOf, h1, h2, h3, h4, h6, h7, hb, hb4, kidT_eq (i := 0) (by omega) (leftP (bindsP e)), kidD_eq (i := 0) (by omega) (leftP (bindsP e)), kidT_eq (i := 1) (by omega) (bindsP e + 1), kidD_eq (i := 1) (by omega) (bindsP e + 1)]; exact ⟨rfl, rfl⟩
theorem shape_bits (h : shapeP e = true) (h1 : (e.op == 1) = false) (h2 : (e.op == 2) = true ∨ ((e.op == 2) = false ∧ (e.op == 3) = true)) : isBits e.bits = true := by
  rw [shapeP, h1] at h
  cases hc : ((!noneV e.val || !untyped e.type) || (e.op != 1 && e.n != 0)) with
  | true => rw [hc] at h; simp at h
  | false =>
    rw [hc] at h
    rcases h2 with h2 | ⟨h2, h3⟩
    · rw [h2] at h; simp only [cond_true, cond_false, Bool.and_eq_true] at h; exact h.2
    · rw [h2, h3] at h; simp only [cond_true, cond_false, Bool.and_eq_true] at h; exact h.2
theorem shape_index (h : shapeP e = true) (h1 : (e.op == 1) = false) (h2 : (e.op == 2) = false) (h3 : (e.op == 3) = false) (h4 : (e.op == 4) = false) (h6 : (e.op == 6) = true) : e.kids.length = 2 := by
  rw [shapeP, h1, h2, h3, h4, h6, show (e.op == 5) = false by rw [beq_iff_eq] at h6; rw [h6]; decide] at h
  cases hc : ((!noneV e.val || !untyped e.type) || (e.op != 1 && e.n != 0)) with
  | true => rw [hc] at h; simp at h
  | false =>
    rw [hc] at h
    simp only [cond_true, cond_false, Bool.and_eq_true, beq_iff_eq] at h
    omega
theorem shape_slice (h : shapeP e = true) (h1 : (e.op == 1) = false) (h2 : (e.op == 2) = false) (h3 : (e.op == 3) = false) (h4 : (e.op == 4) = false) (h6 : (e.op == 6) = false) (h7 : (e.op == 7) = true) : e.kids.length = 3 := by
  rw [shapeP, h1, h2, h3, h4, h6, h7, show (e.op == 5) = false by rw [beq_iff_eq] at h7; rw [h7]; decide] at h
  cases hc : ((!noneV e.val || !untyped e.type) || (e.op != 1 && e.n != 0)) with
  | true => rw [hc] at h; simp at h
  | false =>
    rw [hc] at h
    simp only [cond_true, cond_false, Bool.and_eq_true, beq_iff_eq] at h
    omega
theorem shape_call (h : shapeP e = true) (h1 : (e.op == 1) = false) (h2 : (e.op == 2) = false) (h3 : (e.op == 3) = false) (h4 : (e.op == 4) = false) (h6 : (e.op == 6) = false) (h7 : (e.op == 7) = false) :
    (e.op == 5) = true ∧ ((oneOp e = true ∨ (((e.kids.length : Int) == 2) && decide (strengthI e.name ≥ 0)) = true) ∨ ((decide ((e.kids.length : Int) ≥ 1) && decide ((e.kids.length : Int) ≤ 20)) && isNameL e.name) = true) := by
  rw [shapeP, h1, h2, h3, h4, h6, h7] at h
  cases hc : ((!noneV e.val || !untyped e.type) || (e.op != 1 && e.n != 0)) with
  | true => rw [hc] at h; simp at h
  | false =>
    rw [hc] at h
    cases h5 : (e.op == 5) with
    | false => rw [h5] at h; simp at h
    | true =>
      rw [h5] at h
      cases hb : decide ((e.bits.length : Int) > 0) with
      | true => rw [hb] at h; simp at h
      | false =>
        rw [hb] at h
        simp only [cond_true, cond_false, Bool.or_eq_true] at h
        exact ⟨rfl, h⟩
theorem shape_one (h : shapeP e = true) (h1 : (e.op == 1) = false) (h2 : (e.op == 2) = false) (h3 : (e.op == 3) = false) (h4 : (e.op == 4) = false) (h6 : (e.op == 6) = false) (h7 : (e.op == 7) = false) (hb : (bindsP e == 5) = false) (hb4 : (bindsP e == 4) = true) : e.kids.length = 1 := by
  have := str_range e.name
  unfold bindsP at hb hb4
  cases hc : (e.op != 5 || isNameL e.name) with
  | true => rw [hc] at hb; simp at hb
  | false =>
    rw [hc] at hb4
    cases hk : ((e.kids.length : Int) == 1) with
    | true => rw [beq_iff_eq] at hk; omega
    | false =>
      rw [hk] at hb4
      simp only [cond_false, beq_iff_eq] at hb4
      omega
theorem shape_two (h : shapeP e = true) (h1 : (e.op == 1) = false) (h2 : (e.op == 2) = false) (h3 : (e.op == 3) = false) (h4 : (e.op == 4) = false) (h6 : (e.op == 6) = false) (h7 : (e.op == 7) = false) (hb : (bindsP e == 5) = false) (hb4 : (bindsP e == 4) = false) : e.kids.length = 2 := by
  obtain ⟨h5, hs⟩ := shape_call h h1 h2 h3 h4 h6 h7
  unfold bindsP at hb hb4
  cases hc : (e.op != 5 || isNameL e.name) with
  | true => rw [hc] at hb; simp at hb
  | false =>
    rw [hc] at hb4
    cases hk : ((e.kids.length : Int) == 1) with
    | true => rw [hk] at hb4; simp at hb4
    | false =>
      rw [Bool.or_eq_false_iff] at hc
      rcases hs with (hs | hs) | hs
      · rw [oneOp, hk] at hs; simp at hs
      · rw [Bool.and_eq_true, beq_iff_eq] at hs; omega
      · rw [hc.2] at hs; simp at hs
end
end Go.Proofs.YtcgdlhkiecommaaGreatDoor
/- Where no bits are written, or their text is known. -/

namespace Go.Proofs.YtcgdlhkiecommaaGreatDoor
open Go
def BTx (P : Program) (b : List Int) : Prop := ACp P 143 [.list 1 (b.map encB)] (.tuple [.v (.string (str (bitsT b))), .v (.int .i64 0)])
def BT (P : Program) : Prop := ∀ b : List Int, isBits b = true → (∀ x ∈ b, 0 ≤ x) → BTx P b
mutual
def nobE : Ex → Bool
  | .mk o s n b v k t l c => (o != 2 && o != 3) && nobEs k
def nobEs : List Ex → Bool
  | [] => true
  | e :: r => nobE e && nobEs r
end
def BTok (P : Program) (e : Ex) : Prop := nobE e = true ∨ BT P
theorem nobE_facts {e : Ex} (h : nobE e = true) : (e.op == 2) = false ∧ (e.op == 3) = false ∧ ∀ k ∈ e.kids, nobE k = true := by
  have hl : ∀ l : List Ex, nobEs l = true → ∀ k ∈ l, nobE k = true := by
    intro l
    induction l with
    | nil => intro _ k hk; cases hk
    | cons a l ih =>
      intro h k hk
      rw [nobEs, Bool.and_eq_true] at h
      cases hk with
      | head => exact h.1
      | tail _ hk => exact ih h.2 k hk
  cases e with
  | mk o s n b v k t l c =>
    rw [nobE] at h
    simp only [Bool.and_eq_true] at h
    exact ⟨by simpa [Ex.op] using h.1.1, by simpa [Ex.op] using h.1.2, hl k h.2⟩
theorem BTok.kid {P : Program} {e k : Ex} (h : BTok P e) (hk : k ∈ e.kids) : BTok P k := h.elim (fun h => .inl ((nobE_facts h).2.2 k hk)) .inr
theorem BTok.at {P : Program} {e : Ex} (h : BTok P e) (h2 : (e.op == 2) = true ∨ (e.op == 3) = true) (hb : isBits e.bits = true) (hz : ∀ x ∈ e.bits, 0 ≤ x) : BTx P e.bits := by
  rcases h with h | h
  · obtain ⟨h3, h4, _⟩ := nobE_facts h
    rcases h2 with h2 | h2
    · rw [h3] at h2; cases h2
    · rw [h4] at h2; cases h2
  · exact h _ hb hz
end Go.Proofs.YtcgdlhkiecommaaGreatDoor
/- Writing as a whole: types, texts, what is valid. -/

namespace Go.Proofs.YtcgdlhkiecommaaGreatDoor
open Go
theorem wr_call {P : Program} {n : FuncId} {a : AVal} {v0 v1 : Nat} {out out' : List Tk} {d m d' m' : Int} (p q : Nat) (ht : tabOK [p, q] = true) (ha : a.rn (tab [p, q]) = a)
    (h : AC P n [.ptr 0 v0 0 0, a] (wr v0 v1 out d m []) (WrT v0 out' d' m' [])) {σ : Store} (h0 : σ.get p = some (v0, .row 3 [[.slice q v1 0 out.length, .v (.int .i64 d), .v (.int .i64 m)]])) (h1 : σ.get q = some (v1, .row 5 (out.map encK))) (hb : σ.below 1000 = true) :
    AC P n [.ptr p v0 0 0, a] σ (fun r σ' => ∃ v1', r = .ret (.tuple []) ∧ σ' = (σ.put q v1' (.row 5 (out'.map encK))).put p v0 (.row 3 [[.slice q v1' 0 out'.length, .v (.int .i64 d'), .v (.int .i64 m')]])) := by
  have hf : Store.free [p, q] (wr v0 v1 out d m []) σ = true := by simp [Store.free, Store.get, List.range_succ]
  have hrow : ∀ (out : List Tk), (AObj.row 5 (out.map encK)).rn (tab [p, q]) = .row 5 (out.map encK) := fun out => by
    simp only [AObj.rn, encK_rn]
  have hm : Store.match (tab [p, q]) σ (wr v0 v1 out d m []) := ⟨h0, by rw [hrow out]; exact h1, trivial⟩
  have := ac_at (σ := σ) [p, q] ht h hm hf hb (by
    rintro r σ' ⟨v1', _, e2⟩ j hj
    rw [e2] at hj
    revert hj
    simp only [Store.get]
    cases Nat.beq 0 j <;> cases Nat.beq 1 j <;> simp)
  rw [show [AVal.ptr 0 v0 0 0, a].map (AVal.rn (tab [p, q])) = [.ptr p v0 0 0, a] from by simp only [List.map_cons, List.map_nil, ha]; rfl] at this
  refine ac_mono this ?_
  rintro r σ' ⟨r0, σ0, ⟨v1', rfl, e2⟩, rfl, rfl⟩
  refine ⟨v1', rfl, ?_⟩
  rw [e2]
  simp only [Store.putAll, hrow out']
  rfl
def WRX (P : Program) (r : Tr) : Prop := ∀ (v0 v1 : Nat) (out : List Tk) (d m : Int) (τ : Store), (wr v0 v1 out d m τ).below 1000 = true → 0 ≤ d → d ≤ m → m ≤ 1000000000 → out.length + (toksR r).length ≤ 1000000000 → d + (depR r : Nat) ≤ 1000000000 →
  AC P 115 [.ptr 0 v0 0 0, .agg (cellsR r)] (wr v0 v1 out d m τ) (WrT v0 (out ++ toksR r) d (max m (d + (depR r : Nat))) τ)
theorem rs_len (l : List Tr) (i : Nat) (hi : i ≤ l.length) : (toksRs (l.take i)).length ≤ (toksRs l).length := by
  induction l generalizing i with
  | nil => simp [toksRs]
  | cons a l ih =>
    cases i with
    | zero => simp [toksRs]
    | succ i => have := ih i (by simpa using hi); simp only [List.take_succ_cons, toksRs, List.length_cons, List.length_append]; omega
theorem rs_dep (l : List Tr) (i : Nat) : depRs (l.take i) ≤ depRs l := by
  induction l generalizing i with
  | nil => simp [depRs]
  | cons a l ih =>
    cases i with
    | zero => simp [depRs]
    | succ i => have := ih i; simp only [List.take_succ_cons, depRs]; omega
theorem rs_take {l : List Tr} {i : Nat} (hi : i < l.length) : toksRs (l.take (i + 1)) = toksRs (l.take i) ++ (tkS sOf :: toksR (l.getD i default)) := by
  rw [take_getD default l i hi, toksRs_snoc]
theorem rsd_take {l : List Tr} {i : Nat} (hi : i < l.length) : depRs (l.take (i + 1)) = max (depRs (l.take i)) (depR (l.getD i default)) := by
  rw [take_getD default l i hi, depRs_snoc]
theorem wr_rs {v0 v1 : Nat} {out : List Tk} {d m : Int} {τ : Store} (l : List Tr) (i : Nat) (hi : i < l.length) :
    wr v0 v1 (((out ++ toksRs (l.take i)) ++ [tkS sOf]) ++ toksR (l.getD i default)) d (max (max m (d + (depRs (l.take i) : Nat))) (d + (depR (l.getD i default) : Nat))) τ = wr v0 v1 (out ++ toksRs (l.take (i + 1))) d (max m (d + (depRs (l.take (i + 1)) : Nat))) τ := by
  rw [rs_take hi, rsd_take hi]
  exact wr_eq (by simp) (by omega)
theorem wr_rs0 {v0 v1 : Nat} {out : List Tk} {d m : Int} {τ : Store} (l : List Tr) (h : d ≤ m) : wr v0 v1 out d m τ = wr v0 v1 (out ++ toksRs (l.take 0)) d (max m (d + (depRs (l.take 0) : Nat))) τ :=
  wr_eq (by simp [toksRs]) (by simp only [List.take_zero, depRs]; omega)
structure OKW (P : Program) (e : Ex) : Prop where
  z : szE e = true
  b : BTok P e
  l : (toks e).length ≤ 1000000000
  d : dep e ≤ 1000000000
end Go.Proofs.YtcgdlhkiecommaaGreatDoor
/- Texts, targets, names. -/

namespace Go.Proofs.YtcgdlhkiecommaaGreatDoor
open Go
def textE (e : Ex) : Bs × Int := bif validP e then textP (toks e) else ([], 2)
def textR (r : Tr) : Bs × Int := bif validR r then textP (toksR r) else ([], 2)
def namesE (e : Ex) : List Bs × Int := bif validP e then (namesT (toks e), 0) else ([], 2)
theorem targ_kid {c : Ex} {n : Nat} (hn : shapesP c n = true) (h : (c.op == 6 || c.op == 7) = true) : 0 < c.kids.length ∧ (∃ m, shapesP (c.kids.getD 0 default) m = true) ∧ isTargP (c.kids.getD 0 default) = isTargP c := by
  rw [shapesP_eq] at hn
  simp only [Bool.and_eq_true, Bool.not_eq_true'] at hn
  have hk : 0 < c.kids.length := by
    rcases Bool.or_eq_true_iff.1 h with h | h <;> rw [beq_iff_eq] at h
    · have := shape_index hn.1.2 (by rw [h]; rfl) (by rw [h]; rfl) (by rw [h]; rfl) (by rw [h]; rfl) (by rw [h]; rfl); omega
    · have := shape_slice hn.1.2 (by rw [h]; rfl) (by rw [h]; rfl) (by rw [h]; rfl) (by rw [h]; rfl) (by rw [h]; rfl) (by rw [h]; rfl); omega
  refine ⟨hk, ⟨n + 1, ?_⟩, ?_⟩
  · have := List.any_eq_false.1 hn.2 _ (getD_mem hk)
    simpa using this
  · rw [isTargP_eq c, h, cond_true, isTargH_eq hk]
theorem targ_end {c : Ex} (h : (c.op == 6 || c.op == 7) = false) : isTargP c = targE c := by rw [isTargP_eq, h]; rfl
mutual
def shR : Tr → Prop
  | .mk s l e i c => (∀ x ∈ l, ∃ n, shapesP x n = true) ∧ shRs e
def shRs : List Tr → Prop
  | [] => True
  | r :: t => shR r ∧ shRs t
end
theorem shRs_mem {l : List Tr} (h : shRs l) : ∀ r ∈ l, shR r := by
  induction l with
  | nil => intro r hr; cases hr
  | cons a l ih =>
    intro r hr
    cases hr with
    | head => exact h.1
    | tail _ hr => exact ih h.2 r hr
theorem shR_facts {r : Tr} (h : shR r) : (∀ x ∈ r.len, ∃ n, shapesP x n = true) ∧ ∀ u ∈ r.elem, shR u := by
  cases r
  exact ⟨h.1, shRs_mem h.2⟩
theorem shR_of {r : Tr} (h1 : ∀ x ∈ r.len, ∃ n, shapesP x n = true) (h2 : ∀ u ∈ r.elem, shR u) : shR r := by
  have hl : ∀ l : List Tr, (∀ u ∈ l, shR u) → shRs l := by
    intro l
    induction l with
    | nil => intro _; trivial
    | cons a l ih => exact fun h => ⟨h a (by simp), ih fun u hu => h u (by simp [hu])⟩
  cases r
  exact ⟨h1, hl _ h2⟩
theorem one_mem {α : Type} [Inhabited α] {l : List α} (h : l.length = 1) {x : α} (hx : x ∈ l) : x = l.getD 0 default := by
  match l, h with
  | [a], _ => simpa using hx
theorem valid_sh {e : Ex} (h : validP e = true) : ∃ n, shapesP e n = true := by
  rw [validP, Bool.and_eq_true] at h; exact ⟨0, h.1⟩
theorem validR_sh (r : Tr) : validR r = true → shR r := by
  induction r using Tr.ind with
  | h r ih =>
    intro h
    rw [validR_eq] at h
    cases h1 : (r.name == sVec) with
    | true =>
      rw [h1, cond_true] at h
      simp only [Bool.and_eq_true, beq_iff_eq] at h
      obtain ⟨⟨⟨h2, h3⟩, h4⟩, _⟩ := h
      exact shR_of (fun x hx => by rw [one_mem (by omega) hx]; exact valid_sh h4) (fun u hu => by
        have := List.length_pos_of_mem hu; omega)
    | false =>
      cases h2 : (r.name == sArray) with
      | true =>
        rw [h1, h2, cond_false, cond_true] at h
        simp only [Bool.and_eq_true, beq_iff_eq] at h
        obtain ⟨⟨⟨⟨⟨h2, h3⟩, h4⟩, _⟩, h5⟩, _⟩ := h
        rw [validRs_eq (by omega)] at h5
        exact shR_of (fun x hx => by rw [one_mem (by omega) hx]; exact valid_sh h4) (fun u hu => by have e := one_mem (by omega) hu; rw [e]; exact ih _ (e ▸ hu) h5)
      | false =>
        rw [h1, h2, cond_false, cond_false] at h
        simp only [Bool.and_eq_true, beq_iff_eq] at h
        obtain ⟨⟨_, h3⟩, h4⟩ := h
        exact shR_of (fun x hx => by have := List.length_pos_of_mem hx; omega) (fun u hu => by have := List.length_pos_of_mem hu; omega)
mutual
def OKR (P : Program) : Tr → Prop
  | .mk s l e i c => (s.length ≤ 1000000000 ∧ l.length ≤ 1000000000 ∧ e.length ≤ 1000000000 ∧ (∀ x ∈ l, OKW P x) ∧ (toksR (.mk s l e i c)).length ≤ 1000000000 ∧ depR (.mk s l e i c) ≤ 1000000000) ∧ OKRs P e
def OKRs (P : Program) : List Tr → Prop
  | [] => True
  | r :: t => OKR P r ∧ OKRs P t
end
theorem OKRs_mem {P : Program} {l : List Tr} (h : OKRs P l) : ∀ r ∈ l, OKR P r := by
  induction l with
  | nil => intro r hr; cases hr
  | cons a l ih =>
    intro r hr
    cases hr with
    | head => exact h.1
    | tail _ hr => exact ih h.2 r hr
theorem OKR_facts {P : Program} {r : Tr} (h : OKR P r) : r.name.length ≤ 1000000000 ∧ r.len.length ≤ 1000000000 ∧ r.elem.length ≤ 1000000000 ∧ (∀ x ∈ r.len, OKW P x) ∧ (toksR r).length ≤ 1000000000 ∧ depR r ≤ 1000000000 ∧ ∀ u ∈ r.elem, OKR P u := by
  cases r
  exact ⟨h.1.1, h.1.2.1, h.1.2.2.1, h.1.2.2.2.1, h.1.2.2.2.2.1, h.1.2.2.2.2.2, OKRs_mem h.2⟩
theorem sh_vec {r : Tr} (h : ((((r.len.length : Int) == 1) && ((r.elem.length : Int) == 0)) && validP (r.len.getD 0 default)) = true) : shR r := by
  simp only [Bool.and_eq_true, beq_iff_eq] at h
  obtain ⟨⟨h2, h3⟩, h4⟩ := h
  exact shR_of (fun x hx => by rw [one_mem (by omega) hx]; exact valid_sh h4) (fun u hu => by have := List.length_pos_of_mem hu; omega)
theorem sh_arr {r : Tr} (h : (((((((r.len.length : Int) == 1) && ((r.elem.length : Int) == 1)) && validP (r.len.getD 0 default)) && ((r.elem.getD 0 default).name != sArray))) && validR (r.elem.getD 0 default)) = true) : shR r := by
  simp only [Bool.and_eq_true, beq_iff_eq] at h
  obtain ⟨⟨⟨⟨h2, h3⟩, h4⟩, _⟩, h5⟩ := h
  exact shR_of (fun x hx => by rw [one_mem (by omega) hx]; exact valid_sh h4) (fun u hu => by rw [one_mem (by omega) hu]; exact validR_sh _ h5)
theorem validR_arr {r : Tr} (h1 : (r.name == sVec) = false) (h2 : (r.name == sArray) = true) : validR r = ((((((((r.len.length : Int) == 1) && ((r.elem.length : Int) == 1)) && validP (r.len.getD 0 default)) && ((r.elem.getD 0 default).name != sArray))) && validR (r.elem.getD 0 default)) && okR r) := by
  rw [validR_eq, h1, h2, cond_false, cond_true]
  cases h3 : ((r.elem.length : Int) == 1) with
  | false => simp
  | true => rw [beq_iff_eq] at h3; rw [validRs_eq (by omega)]
theorem namesT_snoc (l : List Tk) (x : Tk) : namesT (l ++ [x]) = addName (namesT l) x := by simp [namesT]
theorem namesT_len (l : List Tk) : (namesT l).length ≤ l.length := by
  have h : ∀ (l : List Tk) (out : List Bs), (l.foldl addName out).length ≤ out.length + l.length := by
    intro l
    induction l with
    | nil => intro out; simp
    | cons a l ih =>
      intro out
      rw [List.foldl_cons]
      have h1 := ih (addName out a)
      have h2 : (addName out a).length ≤ out.length + 1 := by unfold addName; split <;> simp
      simp only [List.length_cons]
      omega
  simpa [namesT] using h l []
theorem names_add {l : List Tk} {i : Nat} (hi : i < l.length) (h : ((l.getD i default).op == 1 && !((namesT (l.take i)).contains (l.getD i default).text)) = true) : namesT (l.take (i + 1)) = namesT (l.take i) ++ [(l.getD i default).text] := by
  rw [take_getD default l i hi, namesT_snoc, addName, if_pos h]
theorem names_skip {l : List Tk} {i : Nat} (hi : i < l.length) (h : ((l.getD i default).op == 1 && !((namesT (l.take i)).contains (l.getD i default).text)) = false) : namesT (l.take (i + 1)) = namesT (l.take i) := by
  rw [take_getD default l i hi, namesT_snoc, addName, if_neg (by rw [h]; exact Bool.false_ne_true)]
end Go.Proofs.YtcgdlhkiecommaaGreatDoor
/- The law's own fixed calls, computed. -/


set_option maxRecDepth 100000
namespace Go.Proofs.YtcgdlhkiecommaaGreatDoor
open Go
def exS1 : Bs := [97, 32, 45, 32, 40, 32, 98, 32, 45, 32, 99, 32, 41, 32, 61, 32, 49]
def exS2 : Bs := [97, 32, 61, 32, 98, 32, 61, 32, 99]
def exS3 : Bs := [97, 32, 43, 32, 59]
def exS4 : Bs := [115, 32, 40, 32, 55, 32, 100, 111, 119, 110, 116, 111, 32, 52, 32, 41, 32, 60, 61, 32, 120]
def exS5 : Bs := [97, 114, 114, 97, 121, 32, 40, 32, 50, 32, 41, 32, 111, 102, 32, 118, 101, 99, 32, 40, 32, 110, 32, 41]
def okTB (t : Tk) : Bool := decide (t.text.length ≤ 1000000) && (decide (-9223372036854775808 ≤ t.n) && decide (t.n ≤ 9223372036854775807))
theorem okts_of {l : List Tk} (h : l.all okTB = true) : OKTs l := by
  intro t ht
  have := List.all_eq_true.1 h t ht
  simp only [okTB, Bool.and_eq_true, decide_eq_true_eq] at this
  exact ⟨Nat.le_trans this.1 (by decide), this.2.1, this.2.2⟩
def rdE (l : List Tk) : Nat → Rd Ex := fun i => rowD l 40 4 i
def rdG (l : List Tk) : Nat → Rd Ex := fun i => targetP l i
def rdR (l : List Tk) : Nat → Rd Tr := fun i => typeP l i
theorem ex_words1 : (lexP exS1).1.all okTB = true ∧ (lexP exS1).1.length = 9 := ⟨by kernel_rfl, by kernel_rfl⟩
theorem ex_words2 : (lexP exS2).1.all okTB = true ∧ (lexP exS2).1.length = 5 := ⟨by kernel_rfl, by kernel_rfl⟩
theorem ex_words3 : (lexP exS3).1.all okTB = true ∧ (lexP exS3).1.length = 3 := ⟨by kernel_rfl, by kernel_rfl⟩
theorem ex_words4 : (lexP exS4).1.all okTB = true ∧ (lexP exS4).1.length = 8 := ⟨by kernel_rfl, by kernel_rfl⟩
theorem ex_words5 : (lexP exS5).1.all okTB = true ∧ (lexP exS5).1.length = 9 := ⟨by kernel_rfl, by kernel_rfl⟩
theorem ex1 : ∃ E : Ex, readP ex0 (lexP exS1).1 0 (rdE (lexP exS1).1) = (E, 9, okF) ∧ (E.op == 5) = true ∧ (E.name == [61]) = true ∧ (E.col == 15) = true ∧ E.kids.length = 2 ∧ szE E = true ∧ nobE E = true ∧ szX E = true ∧ (toks E).length = 9 ∧ dep E = 1 ∧ (toks E).all okTB = true ∧ textE E = (exS1, 0) ∧ namesE E = ([[97], [98], [99]], 0) ∧ validP E = true ∧ isTargP E = false :=
  ⟨(readP ex0 (lexP exS1).1 0 (rdE (lexP exS1).1)).1, by kernel_rfl, by kernel_rfl, by kernel_rfl, by kernel_rfl, by kernel_rfl, by kernel_rfl, by kernel_rfl, by kernel_rfl, by kernel_rfl, by kernel_rfl, by kernel_rfl, by kernel_rfl, by kernel_rfl, by kernel_rfl, by kernel_rfl⟩
theorem ex2 : ∃ E : Ex, readP ex0 (lexP exS2).1 0 (rdE (lexP exS2).1) = (E, 3, okF) := ⟨(readP ex0 (lexP exS2).1 0 (rdE (lexP exS2).1)).1, by kernel_rfl⟩
theorem ex3 : ∃ E : Ex, readP ex0 (lexP exS3).1 0 (rdE (lexP exS3).1) = (E, 0, ⟨11, [59], 1, 5⟩) := ⟨(readP ex0 (lexP exS3).1 0 (rdE (lexP exS3).1)).1, by kernel_rfl⟩
theorem ex4 : ∃ E : Ex, readP ex0 (lexP exS4).1 0 (rdG (lexP exS4).1) = (E, 6, okF) ∧ (E.op == 7) = true ∧ E.kids.length = 3 ∧ szE E = true ∧ nobE E = true ∧ (toks E).length = 6 ∧ dep E = 1 ∧ validP E = true ∧ isTargP E = true :=
  ⟨(readP ex0 (lexP exS4).1 0 (rdG (lexP exS4).1)).1, by kernel_rfl, by kernel_rfl, by kernel_rfl, by kernel_rfl, by kernel_rfl, by kernel_rfl, by kernel_rfl, by kernel_rfl, by kernel_rfl⟩
theorem ex5 : ∃ A B : Ex, ∃ i j i2 j2 : Int, readP tr0 (lexP exS5).1 0 (rdR (lexP exS5).1) = (Tr.mk sArray [A] [Tr.mk sVec [B] [] i2 j2] i j, 9, okF) ∧ szE A = true ∧ nobE A = true ∧ (toks A).length = 1 ∧ dep A = 0 ∧ szE B = true ∧ nobE B = true ∧ (toks B).length = 1 ∧ dep B = 0 ∧ (toksR (Tr.mk sArray [A] [Tr.mk sVec [B] [] i2 j2] i j)).all okTB = true ∧ textR (Tr.mk sArray [A] [Tr.mk sVec [B] [] i2 j2] i j) = (exS5, 0) ∧ validR (Tr.mk sArray [A] [Tr.mk sVec [B] [] i2 j2] i j) = true :=
  ⟨((readP tr0 (lexP exS5).1 0 (rdR (lexP exS5).1)).1.len.getD 0 default), (((readP tr0 (lexP exS5).1 0 (rdR (lexP exS5).1)).1.elem.getD 0 default).len.getD 0 default), 1, 1, 1, 16, by kernel_rfl, by kernel_rfl, by kernel_rfl, by kernel_rfl, by kernel_rfl, by kernel_rfl, by kernel_rfl, by kernel_rfl, by kernel_rfl, by kernel_rfl, by kernel_rfl, by kernel_rfl⟩
theorem okw_of {P : Program} {e : Ex} {n d : Nat} (h1 : szE e = true) (h2 : nobE e = true) (h3 : (toks e).length = n) (h4 : dep e = d) (hn : n ≤ 1000000000) (hd : d ≤ 1000000000) : OKW P e := ⟨h1, .inl h2, by omega, by omega⟩
theorem ok5 {P : Program} {A B : Ex} {i j i2 j2 : Int} (a1 : szE A = true) (a2 : nobE A = true) (a3 : (toks A).length = 1) (a4 : dep A = 0) (b1 : szE B = true) (b2 : nobE B = true) (b3 : (toks B).length = 1) (b4 : dep B = 0) : OKR P (Tr.mk sArray [A] [Tr.mk sVec [B] [] i2 j2] i j) := by
  refine ⟨⟨by decide, by simp, by simp, ?_, ?_, ?_⟩, ⟨⟨by decide, by simp, by simp, ?_, ?_, ?_⟩, trivial⟩, trivial⟩
  · intro x hx; rw [List.mem_singleton.1 hx]; exact okw_of a1 a2 a3 a4 (by omega) (by omega)
  · simp [toksR, toksRs, inBr, sepT, a3, b3]
  · simp [depR, depRs, maxL, a4, b4]
  · intro x hx; rw [List.mem_singleton.1 hx]; exact okw_of b1 b2 b3 b4 (by omega) (by omega)
  · simp [toksR, toksRs, inBr, sepT, a3, b3]
  · simp [depR, depRs, maxL, a4, b4]
theorem ex6 (P : Program) : ∃ R : Tr, readP tr0 (lexP exS5).1 0 (rdR (lexP exS5).1) = (R, 9, okF) ∧ OKR P R ∧ (toksR R).all okTB = true ∧ textR R = (exS5, 0) ∧ validR R = true := by
  obtain ⟨A, B, i, j, i2, j2, p5, a1, a2, a3, a4, b1, b2, b3, b4, r1, r2, r3⟩ := ex5
  exact ⟨_, p5, ok5 a1 a2 a3 a4 b1 b2 b3 b4, r1, r2, r3⟩
end Go.Proofs.YtcgdlhkiecommaaGreatDoor
/- How many parts there are: bounds for the walks. -/


namespace Go.Proofs.YtcgdlhkiecommaaGreatDoor
open Go
abbrev loP : Int := -4503599627370496
theorem partsV_eq (v : Va) (n : Int) : partsV v n = partsVs v.list (n - (1 + (v.bits.length : Int))) := by cases v; rfl
theorem partsE_no {e : Ex} {n : Int} {d : Nat} (h : 300 < d) : partsE e n d = -1 := by cases e; rw [partsE, if_pos h]
theorem partsE_eq {e : Ex} {n : Int} {d : Nat} (h : ¬ 300 < d) : partsE e n d = partsEs e.kids (n - (((((1 + (e.bits.length : Int)) + (e.name.length / 50 : Nat)) + e.val.bits.length) + e.val.list.length) + e.type.names.length + e.type.elem.length)) d := by cases e; rw [partsE, if_neg h]; rfl
theorem partsVs_lt {l : List Va} {n : Int} (h : n < 0) : partsVs l n = n := by cases l; rfl; rw [partsVs, if_pos h]
theorem partsEs_lt {l : List Ex} {n : Int} {d : Nat} (h : n < 0) : partsEs l n d = n := by cases l; rfl; rw [partsEs, if_pos h]
theorem partsVs_step {l : List Va} {i : Nat} {n : Int} (hi : i < l.length) (h : ¬ n < 0) : partsVs (l.drop i) n = partsVs (l.drop (i + 1)) (partsV (l.getD i default) n) := by
  rw [List.drop_eq_getElem_cons hi, partsVs, if_neg h, List.getD_eq_getElem?_getD, List.getElem?_eq_getElem hi]; rfl
theorem partsEs_step {l : List Ex} {i : Nat} {n : Int} {d : Nat} (hi : i < l.length) (h : ¬ n < 0) : partsEs (l.drop i) n d = partsEs (l.drop (i + 1)) (partsE (l.getD i default) n (d + 1)) d := by
  rw [List.drop_eq_getElem_cons hi, partsEs, if_neg h, List.getD_eq_getElem?_getD, List.getElem?_eq_getElem hi]; rfl
theorem partsVs_end {l : List Va} {i : Nat} {n : Int} (hi : l.length ≤ i) : partsVs (l.drop i) n = n := by rw [List.drop_eq_nil_of_le hi]; rfl
theorem partsEs_end {l : List Ex} {i : Nat} {n : Int} {d : Nat} (hi : l.length ≤ i) : partsEs (l.drop i) n d = n := by rw [List.drop_eq_nil_of_le hi]; rfl
theorem partsVs_in {l : List Va} (hl : ∀ k ∈ l, ∀ n : Int, 0 ≤ n → loP ≤ partsV k n ∧ partsV k n ≤ n) : ∀ n : Int, loP ≤ n → loP ≤ partsVs l n ∧ partsVs l n ≤ n := by
  induction l with
  | nil => intro n h; exact ⟨h, Int.le_refl _⟩
  | cons a l ih =>
    intro n h
    rw [partsVs]
    by_cases hn : n < 0
    · rw [if_pos hn]; exact ⟨h, Int.le_refl _⟩
    · rw [if_neg hn]
      obtain ⟨h1, h2⟩ := hl a (by simp) n (by omega)
      obtain ⟨h3, h4⟩ := ih (fun k hk => hl k (by simp [hk])) _ h1
      exact ⟨h3, by omega⟩
theorem partsV_in (v : Va) : szV v = true → ∀ n : Int, 0 ≤ n → loP ≤ partsV v n ∧ partsV v n ≤ n := by
  induction v using Va.ind with
  | h v ih =>
    intro hz n hn
    obtain ⟨z1, z2, z3⟩ := szV_facts hz
    rw [partsV_eq]
    obtain ⟨h3, h4⟩ := partsVs_in (l := v.list) (fun k hk => ih k hk (z3 k hk)) (n - (1 + (v.bits.length : Int))) (by show (-4503599627370496 : Int) ≤ _; omega)
    exact ⟨h3, by omega⟩
theorem partsEs_in {l : List Ex} {d : Nat} (hl : ∀ k ∈ l, ∀ n : Int, 0 ≤ n → loP ≤ partsE k n (d + 1) ∧ partsE k n (d + 1) ≤ n) : ∀ n : Int, loP ≤ n → loP ≤ partsEs l n d ∧ partsEs l n d ≤ n := by
  induction l with
  | nil => intro n h; exact ⟨h, Int.le_refl _⟩
  | cons a l ih =>
    intro n h
    rw [partsEs]
    by_cases hn : n < 0
    · rw [if_pos hn]; exact ⟨h, Int.le_refl _⟩
    · rw [if_neg hn]
      obtain ⟨h1, h2⟩ := hl a (by simp) n (by omega)
      obtain ⟨h3, h4⟩ := ih (fun k hk => hl k (by simp [hk])) _ h1
      exact ⟨h3, by omega⟩
theorem partsE_in (e : Ex) : szX e = true → ∀ (n : Int) (d : Nat), 0 ≤ n → loP ≤ partsE e n d ∧ partsE e n d ≤ n := by
  induction e using Ex.ind with
  | h e ih =>
    intro hz n d hn
    obtain ⟨z1, z2, z3, z4, z5, z6⟩ := szX_facts hz
    obtain ⟨w1, w2, -⟩ := szV_facts z4
    obtain ⟨u0, u1, u2, -⟩ := szT_facts z5
    by_cases hd : 300 < d
    · rw [partsE_no hd]; exact ⟨by decide, by omega⟩
    · rw [partsE_eq hd]
      obtain ⟨h3, h4⟩ := partsEs_in (l := e.kids) (d := d) (fun k hk n hn => ih k hk (z6 k hk) n (d + 1) hn) (n - (((((1 + (e.bits.length : Int)) + (e.name.length / 50 : Nat)) + e.val.bits.length) + e.val.list.length) + e.type.names.length + e.type.elem.length)) (by show (-4503599627370496 : Int) ≤ _; omega)
      exact ⟨h3, by omega⟩
mutual
def smallT : Ty → Bool
  | .mk _ _ s ns e => !((decide (300 < (s.length : Int)) || decide (40 < (ns.length : Int))) || decide (3 < (e.length : Int))) && (ns.all (fun x => !decide (100 < (x.length : Int))) && smallTs e)
def smallTs : List Ty → Bool
  | [] => true
  | e :: r => !(decide (2 < (e.elem.length : Int)) || !(smallT e)) && smallTs r
end
def smallV (vs : List Va) : Bool := vs.all (fun v => !decide (partsV v 9000 < 0))
def smallP (t : Ty) (vs : List Va) : Bool := smallT t && smallV vs
def smallK (e : Ty) : Bool := !(decide (2 < (e.elem.length : Int)) || !(smallT e))
theorem smallTs_all (l : List Ty) : smallTs l = l.all smallK := by
  induction l with
  | nil => rfl
  | cons a l ih => rw [smallTs, List.all_cons, ih, smallK]
theorem smallT_eq (t : Ty) : smallT t = (!((decide (300 < (t.name.length : Int)) || decide (40 < (t.names.length : Int))) || decide (3 < (t.elem.length : Int))) && (t.names.all (fun x => !decide (100 < (x.length : Int))) && t.elem.all smallK)) := by cases t; rw [smallT, smallTs_all]; rfl
theorem smallP_nil (t : Ty) : smallP t [] = smallT t := by rw [smallP]; simp [smallV]
theorem all_stop {α : Type} [Inhabited α] {p : α → Bool} {l : List α} (i : Nat) (hi : i < l.length) (h : p (l.getD i default) = false) : l.all p = false := by
  rw [List.all_eq_false]
  refine ⟨l.getD i default, getD_mem hi, by rw [h]; simp⟩
theorem all_thru {α : Type} [Inhabited α] {p : α → Bool} {l : List α} (h : ∀ k, k < l.length → p (l.getD k default) = true) : l.all p = true := by
  rw [List.all_eq_true]
  intro x hx
  obtain ⟨k, hk, rfl⟩ := List.mem_iff_getElem.1 hx
  have := h k hk
  rwa [List.getD_eq_getElem?_getD, List.getElem?_eq_getElem hk] at this
theorem small_no1 {t : Ty} {vs : List Va} (h : ((decide (300 < (t.name.length : Int)) || decide (40 < (t.names.length : Int))) || decide (3 < (t.elem.length : Int))) = true) : smallP t vs = false := by
  rw [smallP, smallT_eq, h]; rfl
theorem small_no2 {t : Ty} {vs : List Va} (i : Nat) (hi : i < t.names.length) (h : decide (100 < ((t.names.getD i default).length : Int)) = true) : smallP t vs = false := by
  rw [smallP, smallT_eq, all_stop i hi (by simp only [h]; rfl)]; simp
theorem small_no3 {t : Ty} {vs : List Va} (i : Nat) (hi : i < t.elem.length) (h : (decide (2 < ((t.elem.getD i default).elem.length : Int)) || !(smallT (t.elem.getD i default))) = true) : smallP t vs = false := by
  rw [smallP, smallT_eq, all_stop (p := smallK) i hi (by rw [smallK, h]; rfl)]; simp
theorem small_no4 {t : Ty} {vs : List Va} (i : Nat) (hi : i < vs.length) (h : decide (partsV (vs.getD i default) 9000 < 0) = true) : smallP t vs = false := by
  rw [smallP, smallV, all_stop i hi (by simp only [h]; rfl)]; simp
theorem small_yes {t : Ty} {vs : List Va} (h1 : ((decide (300 < (t.name.length : Int)) || decide (40 < (t.names.length : Int))) || decide (3 < (t.elem.length : Int))) = false)
    (h2 : ∀ i, i < t.names.length → decide (100 < ((t.names.getD i default).length : Int)) = false)
    (h3 : ∀ i, i < t.elem.length → (decide (2 < ((t.elem.getD i default).elem.length : Int)) || !(smallT (t.elem.getD i default))) = false)
    (h4 : ∀ i, i < vs.length → decide (partsV (vs.getD i default) 9000 < 0) = false) : smallP t vs = true := by
  rw [smallP, smallT_eq, smallV, h1, all_thru (p := fun x : Bs => !decide (100 < (x.length : Int))) (fun i hi => by simp only [h2 i hi]; rfl), all_thru (p := smallK) (fun i hi => by rw [smallK, h3 i hi]; rfl), all_thru (p := fun v => !decide (partsV v 9000 < 0)) (fun i hi => by simp only [h4 i hi]; rfl)]
  rfl
def fewP : List Ex → Int → Bool
  | [], _ => true
  | e :: r, n => if (decide (partsE e n 0 < 0) || !(smallP e.type [e.val])) = true then false else fewP r (partsE e n 0)
theorem fewP_stop {l : List Ex} {i : Nat} {n : Int} (hi : i < l.length) (h : (decide (partsE (l.getD i default) n 0 < 0) || !(smallP (l.getD i default).type [(l.getD i default).val])) = true) : fewP (l.drop i) n = false := by
  rw [List.drop_eq_getElem_cons hi, fewP]
  rw [List.getD_eq_getElem?_getD, List.getElem?_eq_getElem hi, Option.getD_some] at h
  rw [if_pos h]
theorem fewP_step {l : List Ex} {i : Nat} {n : Int} (hi : i < l.length) (h : (decide (partsE (l.getD i default) n 0 < 0) || !(smallP (l.getD i default).type [(l.getD i default).val])) = false) : fewP (l.drop i) n = fewP (l.drop (i + 1)) (partsE (l.getD i default) n 0) := by
  rw [List.drop_eq_getElem_cons hi, fewP]
  rw [List.getD_eq_getElem?_getD, List.getElem?_eq_getElem hi, Option.getD_some] at h ⊢
  rw [if_neg (by rw [h]; decide)]
theorem fewP_end {l : List Ex} {i : Nat} {n : Int} (hi : l.length ≤ i) : fewP (l.drop i) n = true := by rw [List.drop_eq_nil_of_le hi]; rfl
theorem vals1 (a : Va) : [cellsV a] = [a].map encVa := by rw [List.map_cons, encVa_cells]; rfl
theorem few_ge {e : Ex} {n : Int} (h : (decide (partsE e n 0 < 0) || !(smallP e.type [e.val])) = false) : ¬ partsE e n 0 < 0 := by
  intro h2; rw [decide_eq_true h2] at h; cases h
end Go.Proofs.YtcgdlhkiecommaaGreatDoor
/- The reference's words for what is written. -/


namespace Go.Proofs.YtcgdlhkiecommaaGreatDoor
open Go
def strR (s : Bs) : Int := strengthI s + 1
theorem cont_cons (a : Bs) (l : List Bs) (s : Bs) : (a :: l).contains s = (s == a || l.contains s) := List.contains_cons
theorem strR_eq (s : Bs) : strR s =
    if (s == [97, 110, 100] || (s == [111, 114] || (s == [120, 111, 114] || (s == [110, 97, 110, 100] || (s == [110, 111, 114] || s == [120, 110, 111, 114]))))) = true then 1 else
    if (s == [61] || (s == [47, 61] || (s == [60] || (s == [60, 61] || (s == [62] || s == [62, 61]))))) = true then 2 else
    if (s == [43] || (s == [45] || s == [38])) = true then 3 else
    if (s == [42] || (s == [47] || (s == [109, 111, 100] || (s == [115, 104, 108] || s == [115, 104, 114])))) = true then 4 else 0 := by
  rw [strR, strengthI]
  have e0 : levelL 0 = [[97, 110, 100], [111, 114], [120, 111, 114], [110, 97, 110, 100], [110, 111, 114], [120, 110, 111, 114]] := rfl
  have e1 : levelL 1 = [[61], [47, 61], [60], [60, 61], [62], [62, 61]] := rfl
  have e2 : levelL 2 = [[43], [45], [38]] := rfl
  have e3 : levelL 3 = [[42], [47], [109, 111, 100], [115, 104, 108], [115, 104, 114]] := rfl
  rw [e0, e1, e2, e3]
  simp only [cont_cons, List.contains_nil, Bool.or_false]
  repeat' split
  all_goals rfl
def levelR (e : Ex) : Int := bindsP e + 1
def leastR (e : Ex) (i : Int) : Int :=
  bif e.op == 6 || e.op == 7 then (bif i == 0 then 6 else 1) else
  bif e.op != 5 || isNameL e.name then 1 else
  bif (e.kids.length : Int) == 1 then 5 else
  bif i == 1 || strR e.name == 2 then strR e.name + 1 else strR e.name
def bareR (e : Ex) : Bool := untyped e.type && noneV e.val
def operR (s : Bs) (k : Int) : Bool := ((k == 2) && decide (strR s > 0)) || ((k == 1) && (s == sNot || s == sMinus))
theorem levelR_6 {e : Ex} (h : (e.op != 5 || isNameL e.name) = true) : levelR e = 6 := by rw [levelR, bindsP, h]; rfl
theorem levelR_5 {e : Ex} (h : (e.op != 5 || isNameL e.name) = false) (h2 : ((e.kids.length : Int) == 1) = true) : levelR e = 5 := by rw [levelR, bindsP, h, h2]; rfl
theorem levelR_s {e : Ex} (h : (e.op != 5 || isNameL e.name) = false) (h2 : ((e.kids.length : Int) == 1) = false) : levelR e = strR e.name := by rw [levelR, bindsP, h, h2]; rfl
theorem strR_range (s : Bs) : 0 ≤ strR s ∧ strR s ≤ 4 := by have := str_range s; unfold strR; omega
theorem bit_eq {x : Int} (hx : 0 ≤ x) : (((x == 0 || x == 1) || x == 2) || x == 3) = decide (x ≤ 3) := by
  rw [Bool.eq_iff_iff]; simp only [Bool.or_eq_true, beq_iff_eq, decide_eq_true_eq]; omega
theorem isBits_no {b : List Int} (i : Nat) (hi : i < b.length) (h : (!(decide (b.getD i default ≤ 3))) = true) : isBits b = false := by
  rw [isBits, any_found (p := fun x => !(decide (x ≤ 3))) i hi h]; simp
theorem isBits_yes {b : List Int} (h : ∀ k, k < b.length → (!(decide (b.getD k default ≤ 3))) = false) : isBits b = (decide ((b.length : Int) ≥ 1) && decide ((b.length : Int) ≤ 64)) := by
  rw [isBits, any_none (p := fun x => !(decide (x ≤ 3))) h]; simp
theorem bits_le {b : List Int} (h : isBits b = true) : ∀ x ∈ b, x ≤ 3 := by
  intro x hx
  simp only [isBits, Bool.and_eq_true, Bool.not_eq_true', List.any_eq_false] at h
  have := h.2 x hx
  simpa using this
theorem bits_len {b : List Int} (h : isBits b = true) : 1 ≤ b.length ∧ b.length ≤ 64 := by
  simp only [isBits, Bool.and_eq_true, decide_eq_true_eq] at h
  omega
theorem bitsT_len (b : List Int) : (bitsT b).length = b.length := by simp [bitsT]
def headR (e : Ex) : Bool := ((!(bareR e) || ((e.op != 1) && (e.n != 0))) || (((e.op != 4) && (e.op != 5)) && (e.name != []))) || (((e.op != 2) && (e.op != 3)) && decide ((e.bits.length : Int) > 0))
def tailR (e : Ex) : Bool :=
  bif e.op == 1 then (decide (e.n ≥ 0) && decide (e.n ≤ 2147483647)) && ((e.kids.length : Int) == 0) else
  bif e.op == 2 then (((e.bits.length : Int) == 1) && isBits e.bits) && ((e.kids.length : Int) == 0) else
  bif e.op == 3 then isBits e.bits && ((e.kids.length : Int) == 0) else
  bif e.op == 4 then isNameL e.name && ((e.kids.length : Int) == 0) else
  bif e.op == 5 then operR e.name (e.kids.length : Int) || ((isNameL e.name && decide ((e.kids.length : Int) ≥ 1)) && decide ((e.kids.length : Int) ≤ 20)) else
  bif e.op == 6 then ((e.kids.length : Int) == 2) && ((e.kids.getD 0 default).op != 4) else
  bif e.op == 7 then (e.kids.length : Int) == 3 else false
theorem strR_pos (s : Bs) : decide (strR s > 0) = decide (strengthI s ≥ 0) := by
  rw [Bool.eq_iff_iff, decide_eq_true_eq, decide_eq_true_eq]; unfold strR; omega
theorem shape_head (e : Ex) : shapeP e = (!(headR e) && tailR e) := by
  rw [shapeP, headR, tailR, bareR, operR, strR_pos, oneOp]
  cases h0 : noneV e.val <;> cases h00 : untyped e.type <;> try (simp; done)
  have hlen : ((e.bits.length : Int) == 0) = !(decide ((e.bits.length : Int) > 0)) := by
    rw [Bool.eq_iff_iff]; simp
  by_cases h1 : e.op = 1
  · rw [h1, hlen]
    generalize decide ((e.bits.length : Int) > 0) = B; generalize ((e.kids.length : Int) == 0) = K; generalize (e.name != []) = N; generalize decide (e.n ≥ 0) = A; generalize decide (e.n ≤ 2147483647) = C
    cases B <;> cases K <;> cases N <;> cases A <;> cases C <;> rfl
  have e1 : (e.op == 1) = false := by simpa using h1
  have e1' : (e.op != 1) = true := by simpa using h1
  rw [e1, e1']
  cases hn : (e.n != 0)
  case true => simp
  by_cases h2 : e.op = 2
  · rw [h2]; cases hn : (e.name != []) <;> cases isBits e.bits <;> cases ((e.bits.length : Int) == 1) <;> cases ((e.kids.length : Int) == 0) <;> simp
  have e2 : (e.op == 2) = false := by simpa using h2
  have e2' : (e.op != 2) = true := by simpa using h2
  rw [e2, e2']
  by_cases h3 : e.op = 3
  · rw [h3]; cases hn : (e.name != []) <;> simp [Bool.and_comm]
  have e3 : (e.op == 3) = false := by simpa using h3
  have e3' : (e.op != 3) = true := by simpa using h3
  rw [e3, e3', hlen]
  by_cases h4 : e.op = 4
  · rw [h4]; cases decide ((e.bits.length : Int) > 0) <;> simp [Bool.and_comm]
  have e4 : (e.op == 4) = false := by simpa using h4
  have e4' : (e.op != 4) = true := by simpa using h4
  rw [e4, e4']
  by_cases h5 : e.op = 5
  · rw [h5]
    cases decide ((e.bits.length : Int) > 0) <;> simp
    cases ((e.kids.length : Int) == 1) <;> cases (e.name == sNot || e.name == sMinus) <;> cases ((e.kids.length : Int) == 2) <;> cases decide (0 ≤ strengthI e.name) <;> cases isNameL e.name <;> simp
  have e5 : (e.op == 5) = false := by simpa using h5
  have e5' : (e.op != 5) = true := by simpa using h5
  rw [e5, e5']
  cases hnm : (e.name != []) <;> cases decide ((e.bits.length : Int) > 0) <;> simp
theorem formH (e : Ex) : formP e = (!(headR e) && (e.kids.all formP && tailR e)) := by
  rw [formP_eq, shape_head, formPs_all]
  cases headR e <;> cases tailR e <;> cases e.kids.all formP <;> rfl
theorem formH_no {e : Ex} (h : headR e = true) : formP e = false := by rw [formH, h]; rfl
theorem formH_kid {e : Ex} (i : Nat) (hi : i < e.kids.length) (h : (!(formP (e.kids.getD i default))) = true) : formP e = false := by
  rw [formH, all_stop (p := formP) i hi (by simpa using h)]; simp
theorem formH_yes {e : Ex} (h : headR e = false) (h2 : ∀ k, k < e.kids.length → (!(formP (e.kids.getD k default))) = false) : formP e = tailR e := by
  rw [formH, h, all_thru (p := formP) (fun k hk => by simpa using h2 k hk)]; rfl
def nestR (e : Ex) (i : Nat) : Bool := ((e.op == 6 || e.op == 7) && decide ((i : Int) > 0)) || ((e.op == 5) && (isNameL e.name || ((e.kids.length : Int) == 1)))
def addR (e : Ex) (i n : Nat) (k : Ex) : Nat := n + (if decide (levelR k < leastR e (i : Int)) = true then 1 else 0) + (if nestR e i = true then 1 else 0)
def mostR (e : Ex) (ds : List Nat) : Nat → Nat
  | 0 => 0
  | i + 1 => max (mostR e ds i) (addR e i (ds.getD i 0) (e.kids.getD i default))
mutual
def depQ : Ex → Nat
  | .mk o s n b v k t l c => mostR (.mk o s n b v k t l c) (depQL k) k.length
def depQL : List Ex → List Nat
  | [] => []
  | e :: r => depQ e :: depQL r
end
theorem depQL_map (l : List Ex) : depQL l = l.map depQ := by
  induction l with
  | nil => simp [depQL]
  | cons a l ih => simp [depQL, ih]
theorem depQ_eq (e : Ex) : depQ e = mostR e (e.kids.map depQ) e.kids.length := by rw [← depQL_map]; cases e; rfl
theorem mostR_mono (e : Ex) (ds : List Nat) {i j : Nat} (h : i ≤ j) : mostR e ds i ≤ mostR e ds j := by
  induction j with
  | zero => have : i = 0 := by omega
            subst this; exact Nat.le_refl _
  | succ j ih =>
    rcases Nat.lt_or_ge j i with h1 | h1
    · have : i = j + 1 := by omega
      subst this; exact Nat.le_refl _
    · exact Nat.le_trans (ih h1) (Nat.le_max_left _ _)
theorem kid_depQ {e : Ex} {i : Nat} (hi : i < e.kids.length) : depQ (e.kids.getD i default) ≤ depQ e := by
  rw [depQ_eq e]
  refine Nat.le_trans ?_ (mostR_mono e (e.kids.map depQ) (show i + 1 ≤ e.kids.length from hi))
  rw [mostR]
  have : (e.kids.map depQ).getD i 0 = depQ (e.kids.getD i default) := by simp [List.getD_eq_getElem?_getD, List.getElem?_eq_getElem hi]
  rw [this, addR]; omega
theorem most_step {e : Ex} {i : Nat} (hi : i < e.kids.length) {a b : Nat} (ha : a = if decide (levelR (e.kids.getD i default) < leastR e (i : Int)) = true then 1 else 0) (hb : b = if nestR e i = true then 1 else 0) :
    max ((mostR e (e.kids.map depQ) i : Nat) : Int) (((depQ (e.kids.getD i default) : Nat) : Int) + (a : Int) + (b : Int)) = ((mostR e (e.kids.map depQ) (i + 1) : Nat) : Int) := by
  have e1 : (e.kids.map depQ).getD i 0 = depQ (e.kids.getD i default) := by simp [List.getD_eq_getElem?_getD, List.getElem?_eq_getElem hi]
  rw [mostR, e1, addR, ← ha, ← hb]; omega
theorem most_00 {e : Ex} {i : Nat} (hi : i < e.kids.length) (h1 : decide (levelR (e.kids.getD i default) < leastR e (i : Int)) = false) (h2 : nestR e i = false) :
    max ((mostR e (e.kids.map depQ) i : Nat) : Int) ((depQ (e.kids.getD i default) : Nat) : Int) = ((mostR e (e.kids.map depQ) (i + 1) : Nat) : Int) := by
  rw [← most_step hi (a := 0) (b := 0) (by rw [h1]; rfl) (by rw [h2]; rfl)]; simp
theorem most_01 {e : Ex} {i : Nat} (hi : i < e.kids.length) (h1 : decide (levelR (e.kids.getD i default) < leastR e (i : Int)) = false) (h2 : nestR e i = true) :
    max ((mostR e (e.kids.map depQ) i : Nat) : Int) (((depQ (e.kids.getD i default) : Nat) : Int) + 1) = ((mostR e (e.kids.map depQ) (i + 1) : Nat) : Int) := by
  rw [← most_step hi (a := 0) (b := 1) (by rw [h1]; rfl) (by rw [h2]; rfl)]; simp
theorem most_10 {e : Ex} {i : Nat} (hi : i < e.kids.length) (h1 : decide (levelR (e.kids.getD i default) < leastR e (i : Int)) = true) (h2 : nestR e i = false) :
    max ((mostR e (e.kids.map depQ) i : Nat) : Int) (((depQ (e.kids.getD i default) : Nat) : Int) + 1) = ((mostR e (e.kids.map depQ) (i + 1) : Nat) : Int) := by
  rw [← most_step hi (a := 1) (b := 0) (by rw [h1]; rfl) (by rw [h2]; rfl)]; simp
theorem most_11 {e : Ex} {i : Nat} (hi : i < e.kids.length) (h1 : decide (levelR (e.kids.getD i default) < leastR e (i : Int)) = true) (h2 : nestR e i = true) :
    max ((mostR e (e.kids.map depQ) i : Nat) : Int) ((((depQ (e.kids.getD i default) : Nat) : Int) + 1) + 1) = ((mostR e (e.kids.map depQ) (i + 1) : Nat) : Int) := by
  rw [← most_step hi (a := 1) (b := 1) (by rw [h1]; rfl) (by rw [h2]; rfl)]; simp
def validQ (e : Ex) : Bool := formP e && decide (((depQ e : Nat) : Int) ≤ 40)
theorem form_kid {e : Ex} (h : formP e = true) : ∀ k ∈ e.kids, formP k = true := by
  rw [formP_eq, Bool.and_eq_true, formPs_all, List.all_eq_true] at h
  exact h.2
theorem form_shape {e : Ex} (h : formP e = true) : shapeP e = true := by
  rw [formP_eq, Bool.and_eq_true] at h; exact h.1
theorem targR_67 {e : Ex} (h : (e.op == 6 || e.op == 7) = true) (hk : 0 < e.kids.length) : isTargP e = isTargP (e.kids.getD 0 default) := by
  rw [isTargP_eq, h, isTargH_eq hk]; rfl
theorem form_op {e : Ex} (h : formP e = true) : tailR e = true := by
  rw [formH, Bool.and_eq_true, Bool.and_eq_true] at h; exact h.2.2
theorem validQ_form {e : Ex} (h : validQ e = true) : formP e = true := by rw [validQ, Bool.and_eq_true] at h; exact h.1
theorem shapes_form (e : Ex) : ∀ d, height e + d ≤ 20000 → shapesP e d = formP e := by
  induction e using Ex.ind with
  | h e ih =>
    intro d hd
    rw [shapesP_eq, formP_eq, formPs_all, decide_eq_true (by omega), Bool.true_and]
    cases shapeP e with
    | false => rfl
    | true =>
      rw [Bool.true_and, Bool.true_and, Bool.eq_iff_iff, Bool.not_eq_true', List.any_eq_false, List.all_eq_true]
      rw [height_eq] at hd
      constructor
      · intro h k hk
        have := h k hk
        rw [ih k hk (d + 1) (by have := heights_mem hk; omega)] at this
        simpa using this
      · intro h k hk
        rw [ih k hk (d + 1) (by have := heights_mem hk; omega), h k hk]; simp
theorem binds_nn {k : Ex} (h : formP k = true) : 0 ≤ bindsP k := by
  have hs := form_shape h
  have ht := form_op h
  have := str_range k.name
  rw [bindsP]
  cases hc : (k.op != 5 || isNameL k.name) with
  | true => simp
  | false =>
    cases hk : ((k.kids.length : Int) == 1) with
    | true => simp
    | false =>
      rw [Bool.or_eq_false_iff] at hc
      obtain ⟨h5, hn⟩ := hc
      have h5' : k.op = 5 := by simpa using h5
      rw [tailR, h5', operR, hk, hn, strR_pos] at ht
      simp only [show ((5 : Int) == 1) = false from rfl, show ((5 : Int) == 2) = false from rfl, show ((5 : Int) == 3) = false from rfl, show ((5 : Int) == 4) = false from rfl, show ((5 : Int) == 5) = true from rfl, cond_true, cond_false, Bool.false_and, Bool.or_false, Bool.and_eq_true, decide_eq_true_eq] at ht
      simp only [cond_false]; exact ht.2
end Go.Proofs.YtcgdlhkiecommaaGreatDoor
/- What the reference writes is what the program writes. -/

namespace Go.Proofs.YtcgdlhkiecommaaGreatDoor
open Go
def lowP (e : Ex) (i : Nat) : Int :=
  bif e.op == 6 || e.op == 7 then (bif (i : Int) == 0 then 5 else 0) else
  bif bindsP e == 5 then 0 else bif bindsP e == 4 then 4 else bif (i : Int) == 1 then bindsP e + 1 else leftP (bindsP e)
theorem least_low (e : Ex) (i : Nat) : leastR e (i : Int) = lowP e i + 1 := by
  rw [leastR, lowP]
  cases h67 : (e.op == 6 || e.op == 7) with
  | true => simp only [cond_true]; cases ((i : Int) == 0) <;> rfl
  | false =>
    have hr := str_range e.name
    simp only [cond_false]
    cases hc : (e.op != 5 || isNameL e.name) with
    | true => rw [show bindsP e = 5 by rw [bindsP, hc]; rfl]; rfl
    | false =>
      simp only [cond_false]
      cases hk : ((e.kids.length : Int) == 1) with
      | true => rw [show bindsP e = 4 by rw [bindsP, hc, hk]; rfl]; rfl
      | false =>
        simp only [cond_false]
        have hb : bindsP e = strengthI e.name := by rw [bindsP, hc, hk]; rfl
        rw [hb, show (strengthI e.name == 5) = false by simp; omega, show (strengthI e.name == 4) = false by simp; omega]
        simp only [cond_false]
        rw [leftP, strR]
        cases h1 : ((i : Int) == 1) with
        | true => simp
        | false =>
          by_cases h2 : strengthI e.name = 1
          · rw [h2]; rfl
          · rw [show (strengthI e.name + 1 == 2) = false by simp; omega, show (strengthI e.name == 1) = false by simp; omega]; rfl
theorem lt_low (e k : Ex) (i : Nat) : (levelR k < leastR e (i : Int)) = (bindsP k < lowP e i) := by
  rw [least_low, levelR]; exact propext ⟨fun h => by omega, fun h => by omega⟩
theorem addR_low (e k : Ex) (i : Nat) : addR e i (dep k) k = kidDp k (lowP e i) + (if nestR e i = true then 1 else 0) := by
  have e1 : decide (levelR k < leastR e (i : Int)) = decide (bindsP k < lowP e i) := by rw [Bool.eq_iff_iff, decide_eq_true_eq, decide_eq_true_eq, lt_low]
  rw [addR, e1, kidDp]
  by_cases h : bindsP k < lowP e i <;> simp [h]
theorem tight {k : Ex} (h : formP k = true) : kidTk k 0 = toks k ∧ kidDp k 0 = dep k := by
  have := binds_nn h
  rw [kidTk, kidDp, if_neg (by omega), if_neg (by omega)]; exact ⟨rfl, rfl⟩
inductive Kind (e : Ex) : Prop where
  | one (h : e.op = 1 ∨ e.op = 2 ∨ e.op = 3 ∨ e.op = 4) (hk : e.kids = [])
  | index (h : e.op = 6) (hk : e.kids.length = 2)
  | slice (h : e.op = 7) (hk : e.kids.length = 3)
  | call (h : e.op = 5) (hn : isNameL e.name = true) (hk : 1 ≤ e.kids.length)
  | unary (h : e.op = 5) (hn : isNameL e.name = false) (hk : e.kids.length = 1) (hs : e.name = sNot ∨ e.name = sMinus)
  | binary (h : e.op = 5) (hn : isNameL e.name = false) (hk : e.kids.length = 2) (hs : 0 ≤ strengthI e.name)
theorem kind_of {e : Ex} (h : formP e = true) : Kind e := by
  have ht := form_op h
  rw [tailR] at ht
  by_cases h1 : e.op = 1
  · rw [h1] at ht; exact .one (.inl h1) (by have : (e.kids.length : Int) = 0 := by simpa using ((Bool.and_eq_true _ _).mp ht).2
                                            exact List.length_eq_zero_iff.1 (by omega))
  by_cases h2 : e.op = 2
  · rw [h2] at ht; exact .one (.inr (.inl h2)) (by have : (e.kids.length : Int) = 0 := by simpa using ((Bool.and_eq_true _ _).mp ht).2
                                                   exact List.length_eq_zero_iff.1 (by omega))
  by_cases h3 : e.op = 3
  · rw [h3] at ht; exact .one (.inr (.inr (.inl h3))) (by have : (e.kids.length : Int) = 0 := by simpa using ((Bool.and_eq_true _ _).mp ht).2
                                                          exact List.length_eq_zero_iff.1 (by omega))
  by_cases h4 : e.op = 4
  · rw [h4] at ht; exact .one (.inr (.inr (.inr h4))) (by have : (e.kids.length : Int) = 0 := by simpa using ((Bool.and_eq_true _ _).mp ht).2
                                                          exact List.length_eq_zero_iff.1 (by omega))
  by_cases h5 : e.op = 5
  · rw [h5] at ht
    simp only [show ((5 : Int) == 1) = false from rfl, show ((5 : Int) == 2) = false from rfl, show ((5 : Int) == 3) = false from rfl, show ((5 : Int) == 4) = false from rfl, show ((5 : Int) == 5) = true from rfl, cond_true, cond_false] at ht
    rw [operR, strR_pos] at ht
    cases hn : isNameL e.name with
    | true =>
      refine .call h5 hn ?_
      rw [hn] at ht
      simp only [Bool.or_eq_true, Bool.and_eq_true, decide_eq_true_eq, beq_iff_eq] at ht
      omega
    | false =>
      rw [hn] at ht
      simp only [Bool.or_eq_true, Bool.and_eq_true, decide_eq_true_eq, beq_iff_eq, Bool.false_eq_true, false_and, or_false] at ht
      rcases ht with ⟨g1, g2⟩ | ⟨g1, g2⟩
      · exact .binary h5 hn (by omega) g2
      · exact .unary h5 hn (by omega) g2
  by_cases h6 : e.op = 6
  · rw [h6] at ht
    simp only [show ((6 : Int) == 1) = false from rfl, show ((6 : Int) == 2) = false from rfl, show ((6 : Int) == 3) = false from rfl, show ((6 : Int) == 4) = false from rfl, show ((6 : Int) == 5) = false from rfl, show ((6 : Int) == 6) = true from rfl, cond_true, cond_false, Bool.and_eq_true, beq_iff_eq] at ht
    exact .index h6 (by omega)
  by_cases h7 : e.op = 7
  · rw [h7] at ht
    simp only [show ((7 : Int) == 1) = false from rfl, show ((7 : Int) == 2) = false from rfl, show ((7 : Int) == 3) = false from rfl, show ((7 : Int) == 4) = false from rfl, show ((7 : Int) == 5) = false from rfl, show ((7 : Int) == 6) = false from rfl, show ((7 : Int) == 7) = true from rfl, cond_true, cond_false, beq_iff_eq] at ht
    exact .slice h7 (by omega)
  · simp [h1, h2, h3, h4, h5, h6, h7] at ht
theorem binds_call {e : Ex} (h : e.op = 5) (hn : isNameL e.name = true) : bindsP e = 5 := by rw [bindsP, hn]; simp
theorem binds_unary {e : Ex} (h : e.op = 5) (hn : isNameL e.name = false) (hk : e.kids.length = 1) : bindsP e = 4 := by rw [bindsP, hn, h, hk]; rfl
theorem binds_binary {e : Ex} (h : e.op = 5) (hn : isNameL e.name = false) (hk : e.kids.length = 2) : bindsP e = strengthI e.name := by rw [bindsP, hn, h, hk]; rfl
theorem ops5 {e : Ex} (h : e.op = 5) : (e.op == 1) = false ∧ (e.op == 2) = false ∧ (e.op == 3) = false ∧ (e.op == 4) = false ∧ (e.op == 6) = false ∧ (e.op == 7) = false := by rw [h]; decide
theorem ops6 {e : Ex} (h : e.op = 6) : (e.op == 1) = false ∧ (e.op == 2) = false ∧ (e.op == 3) = false ∧ (e.op == 4) = false ∧ (e.op == 6) = true := by rw [h]; decide
theorem ops7 {e : Ex} (h : e.op = 7) : (e.op == 1) = false ∧ (e.op == 2) = false ∧ (e.op == 3) = false ∧ (e.op == 4) = false ∧ (e.op == 6) = false ∧ (e.op == 7) = true := by rw [h]; decide
theorem most_call (e : Ex) (ds : List Nat) (n : Nat) (hn : n ≤ ds.length) (h : ∀ i, i < n → addR e i (ds.getD i 0) (e.kids.getD i default) = ds.getD i 0 + 1) : mostR e ds n = if n = 0 then 0 else maxL (ds.take n) + 1 := by
  induction n with
  | zero => rfl
  | succ n ih =>
    rw [mostR, ih (by omega) (fun i hi => h i (by omega)), h n (by omega), if_neg (show ¬ n + 1 = 0 by omega)]
    have e1 : maxL (ds.take (n + 1)) = max (maxL (ds.take n)) (ds.getD n 0) := by
      rw [take_getD 0 ds n (by omega)]
      have : ∀ l : List Nat, ∀ x, maxL (l ++ [x]) = max (maxL l) x := by
        intro l x
        induction l with
        | nil => simp [maxL]
        | cons a l ih => simp only [List.cons_append, maxL, ih]; omega
      exact this _ _
    rw [e1]
    by_cases h0 : n = 0
    · subst h0; simp [maxL]
    · rw [if_neg h0]; omega
theorem depQ_dep (e : Ex) : formP e = true → depQ e = dep e := by
  induction e using Ex.ind with
  | h e ih =>
    intro h
    have hmap : e.kids.map depQ = e.kids.map dep := List.map_congr_left (fun k hk => ih k hk (form_kid h k hk))
    have hfk : ∀ i, i < e.kids.length → formP (e.kids.getD i default) = true := fun i hi => form_kid h _ (getD_mem hi)
    rw [depQ_eq, hmap]
    have hd : ∀ i, i < e.kids.length → (e.kids.map dep).getD i 0 = dep (e.kids.getD i default) := fun i hi => getD_map_dep _ _ hi
    rcases kind_of h with ⟨h1, hk⟩ | ⟨h1, hk⟩ | ⟨h1, hk⟩ | ⟨h1, hn, hk⟩ | ⟨h1, hn, hk, hs⟩ | ⟨h1, hn, hk, hs⟩
    · rw [hk, dep_eq, depOf]
      rcases h1 with h1 | h1 | h1 | h1 <;> rw [h1] <;> rfl
    · obtain ⟨o1, o2, o3, o4, o6⟩ := ops6 h1
      rw [(toks_index o1 o2 o3 o4 o6 hk).2, hk, mostR, mostR, mostR, hd 0 (by omega), hd 1 (by omega), addR_low, addR_low]
      rw [show lowP e 0 = 5 by rw [lowP, h1]; rfl, show lowP e 1 = 0 by rw [lowP, h1]; rfl, show nestR e 0 = false by rw [nestR, h1]; rfl, show nestR e 1 = true by rw [nestR, h1]; rfl, (tight (hfk 1 (by omega))).2]
      simp
    · obtain ⟨o1, o2, o3, o4, o6, o7⟩ := ops7 h1
      rw [(toks_slice o1 o2 o3 o4 o6 o7 hk).2, hk, mostR, mostR, mostR, mostR, hd 0 (by omega), hd 1 (by omega), hd 2 (by omega), addR_low, addR_low, addR_low]
      rw [show lowP e 0 = 5 by rw [lowP, h1]; rfl, show lowP e 1 = 0 by rw [lowP, h1]; rfl, show lowP e 2 = 0 by rw [lowP, h1]; rfl, show nestR e 0 = false by rw [nestR, h1]; rfl, show nestR e 1 = true by rw [nestR, h1]; rfl, show nestR e 2 = true by rw [nestR, h1]; rfl, (tight (hfk 1 (by omega))).2, (tight (hfk 2 (by omega))).2]
      match hkk : e.kids, hk with
      | [a, b, c], _ => simp [maxL] <;> omega
    · obtain ⟨o1, o2, o3, o4, o6, o7⟩ := ops5 h1
      rw [(toks_call o1 o2 o3 o4 o6 o7 (by rw [binds_call h1 hn]; rfl)).2, most_call e _ _ (by simp) (fun i hi => by
        rw [hd i hi, addR_low, show lowP e i = 0 by rw [lowP, h1, binds_call h1 hn]; rfl, (tight (hfk i hi)).2, show nestR e i = true by rw [nestR, h1, hn]; simp]; rfl), if_neg (by omega), List.take_of_length_le (by simp)]
    · obtain ⟨o1, o2, o3, o4, o6, o7⟩ := ops5 h1
      have hb := binds_unary h1 hn hk
      rw [(toks_one o1 o2 o3 o4 o6 o7 (by rw [hb]; rfl) (by rw [hb]; rfl) hk).2, hk, mostR, mostR, hd 0 (by omega), addR_low, show lowP e 0 = 4 by rw [lowP, h1, hb]; rfl, show nestR e 0 = true by rw [nestR, h1, hn, hk]; rfl]
      simp
    · obtain ⟨o1, o2, o3, o4, o6, o7⟩ := ops5 h1
      have hb := binds_binary h1 hn hk
      have hr := str_range e.name
      rw [(toks_two o1 o2 o3 o4 o6 o7 (by rw [hb]; simp; omega) (by rw [hb]; simp; omega) hk).2, hk, mostR, mostR, mostR, hd 0 (by omega), hd 1 (by omega), addR_low, addR_low]
      rw [show lowP e 0 = leftP (bindsP e) by rw [lowP, h1, hb, show (strengthI e.name == 5) = false by simp; omega, show (strengthI e.name == 4) = false by simp; omega]; rfl,
        show lowP e 1 = bindsP e + 1 by rw [lowP, h1, hb, show (strengthI e.name == 5) = false by simp; omega, show (strengthI e.name == 4) = false by simp; omega]; rfl,
        show nestR e 0 = false by rw [nestR, h1, hn, hk]; rfl, show nestR e 1 = false by rw [nestR, h1, hn, hk]; rfl]
      simp
theorem validQ_P (e : Ex) (h : height e ≤ 20000) : validQ e = validP e := by
  rw [validQ, validP, shapes_form e 0 (by omega)]
  cases hf : formP e with
  | false => rfl
  | true => rw [depQ_dep e hf]
end Go.Proofs.YtcgdlhkiecommaaGreatDoor
/- Tokens in new memory; how they are put together. -/

namespace Go.Proofs.YtcgdlhkiecommaaGreatDoor
open Go
section
variable {P : Program} {n : Nat} {Q : APost} {env env0 : Env} {σ σ' : Store} {ops : Array Oper} {steps : List Stp} {rem : List Nat}
end
def tkO : Tk := ⟨7, sOpen, 0, 0, 0⟩
def tkC : Tk := ⟨7, sShut, 0, 0, 0⟩
theorem tkO_eq : tkS sOpen = tkO := by rw [tkS, tkO, show isWordL sOpen = false from by decide +kernel]; rfl
theorem tkC_eq : tkS sShut = tkC := by rw [tkS, tkC, show isWordL sShut = false from by decide +kernel]; rfl
theorem inBr_eq (t : List Tk) : inBr t = ([tkO] ++ t) ++ [tkC] := by rw [inBr, tkO_eq, tkC_eq]; simp
theorem form_bits2 {e : Ex} (h : formP e = true) (h2 : (e.op == 2) = true) : isBits e.bits = true := by
  have ht := form_op h
  rw [tailR, h2] at ht; rw [beq_iff_eq] at h2; rw [h2] at ht
  simp only [show ((2 : Int) == 1) = false from rfl, cond_true, cond_false, Bool.and_eq_true] at ht
  exact ht.1.2
theorem form_bits3 {e : Ex} (h : formP e = true) (h2 : (e.op == 3) = true) : isBits e.bits = true := by
  have ht := form_op h
  rw [tailR, h2] at ht; rw [beq_iff_eq] at h2; rw [h2] at ht
  simp only [show ((3 : Int) == 1) = false from rfl, show ((3 : Int) == 2) = false from rfl, cond_true, cond_false, Bool.and_eq_true] at ht
  exact ht.1
end Go.Proofs.YtcgdlhkiecommaaGreatDoor
