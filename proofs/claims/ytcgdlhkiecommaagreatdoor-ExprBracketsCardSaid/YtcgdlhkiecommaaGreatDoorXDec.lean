/- What comes in at the door: values, types, expressions, types as written. -/
import Derived.Test.YtcgdlhkiecommaaGreatDoorLDec
import Derived.Test.YtcgdlhkiecommaaGreatDoorXWr
set_option linter.unusedVariables false
set_option linter.all false
namespace Go.Proofs.YtcgdlhkiecommaaGreatDoor
open Go Go.RowKit
def inTypesX : List TypeId := [9, 3, 5, 97, 26, 63, 65, 22, 27, 25, 32, 30, 28, 35, 33, 37, 31, 46, 44]
theorem closed_inX : closedT Tryz.prog inTypesX = true := by kernel_rfl
def w64 (x : Int) : Bool := decide (-9223372036854775808 ≤ x) && decide (x ≤ 9223372036854775807)
def wB (x : Int) : Bool := decide (0 ≤ x) && decide (x ≤ 255)
mutual
def nuV : Va → Bool
  | .mk k n b l => (w64 k && (w64 n && b.all wB)) && nuVs l
def nuVs : List Va → Bool
  | [] => true
  | e :: r => nuV e && nuVs r
end
mutual
def nuT : Ty → Bool
  | .mk k n _ _ l => (w64 k && w64 n) && nuTs l
def nuTs : List Ty → Bool
  | [] => true
  | e :: r => nuT e && nuTs r
end
mutual
def nuE : Ex → Bool
  | .mk o _ n b v k t l c => ((w64 o && (w64 n && b.all wB)) && ((nuV v && nuT t) && (w64 l && w64 c))) && nuEs k
def nuEs : List Ex → Bool
  | [] => true
  | e :: r => nuE e && nuEs r
end
theorem szVs_of {l : List Va} (h : ∀ k ∈ l, szV k = true ∧ nuV k = true) : szVs l = true ∧ nuVs l = true := by
  induction l with
  | nil => exact ⟨rfl, rfl⟩
  | cons a l ih => rw [szVs, nuVs, (h a (by simp)).1, (h a (by simp)).2, (ih fun k hk => h k (by simp [hk])).1, (ih fun k hk => h k (by simp [hk])).2]; exact ⟨rfl, rfl⟩
theorem szTs_of {l : List Ty} (h : ∀ k ∈ l, szT k = true ∧ nuT k = true) : szTs l = true ∧ nuTs l = true := by
  induction l with
  | nil => exact ⟨rfl, rfl⟩
  | cons a l ih => rw [szTs, nuTs, (h a (by simp)).1, (h a (by simp)).2, (ih fun k hk => h k (by simp [hk])).1, (ih fun k hk => h k (by simp [hk])).2]; exact ⟨rfl, rfl⟩
theorem szXs_of {l : List Ex} (h : ∀ k ∈ l, szX k = true ∧ nuE k = true) : szXs l = true ∧ nuEs l = true := by
  induction l with
  | nil => exact ⟨rfl, rfl⟩
  | cons a l ih => rw [szXs, nuEs, (h a (by simp)).1, (h a (by simp)).2, (ih fun k hk => h k (by simp [hk])).1, (ih fun k hk => h k (by simp [hk])).2]; exact ⟨rfl, rfl⟩
theorem dec_sliceI {α : Type} {enc : α → List AVal} {Pr : α → Prop} {k t e sz by' : Nat} {cs : List AVal} (ht : Tryz.prog.underlying t = some (.slice e)) (hz : Tryz.prog.cellsOf e = sz) (hb : Tryz.prog.bytesOf e = by') (h : TyV Tryz.prog k t cs) (hd : ∀ j, j < k → ∀ cs, TyV Tryz.prog j e cs → ∃ x, cs = enc x ∧ Pr x) :
    ∃ xs : List α, cs = [.list sz (xs.map enc)] ∧ (∀ x ∈ xs, Pr x) ∧ xs.length * by' ≤ 140737488351232 := by
  cases k with
  | zero => exact h.elim
  | succ k =>
    simp only [TyV, ht] at h
    obtain ⟨els, h1, h2, rfl⟩ := h
    obtain ⟨xs, rfl, h3⟩ := dec_list (fun el hel => hd k (Nat.lt_succ_self k) el (h2 el hel))
    rw [hb, List.length_map] at h1
    exact ⟨xs, by rw [hz], h3, Nat.le_trans h1 (by decide)⟩
theorem dec_intT {k t : Nat} {cs : List AVal} (ht : Tryz.prog.underlying t = some (.int .i64)) (h : TyV Tryz.prog k t cs) : ∃ x : Int, cs = [.v (.int .i64 x)] ∧ w64 x = true := by
  cases k with
  | zero => exact h.elim
  | succ k =>
    simp only [TyV, ht] at h
    obtain ⟨x, h1, rfl⟩ := h
    refine ⟨x, rfl, ?_⟩
    simp [Lit.wf, IntKind.min, IntKind.max, IntKind.signed, IntKind.bits] at h1
    simp only [w64, Bool.and_eq_true, decide_eq_true_eq]
    omega
theorem dec_bit {k : Nat} {cs : List AVal} (h : TyV Tryz.prog k 97 cs) : ∃ x : Int, cs = encB x ∧ wB x = true := by
  cases k with
  | zero => exact h.elim
  | succ k =>
    simp only [TyV, Tryz.underlying97] at h
    obtain ⟨x, h1, rfl⟩ := h
    refine ⟨x, rfl, ?_⟩
    simp [Lit.wf, IntKind.min, IntKind.max, IntKind.signed, IntKind.bits] at h1
    simp only [wB, Bool.and_eq_true, decide_eq_true_eq]
    omega
theorem cellsBit : Tryz.prog.cellsOf 97 = 1 := by kernel_rfl
theorem bytesBit : Tryz.prog.bytesOf 97 = 1 := by kernel_rfl
theorem bytesS : Tryz.prog.bytesOf 9 = 16 := by kernel_rfl
theorem cellsTK : Tryz.prog.cellsOf 27 = 1 := by kernel_rfl
theorem cellsEO : Tryz.prog.cellsOf 25 = 1 := by kernel_rfl
theorem cellsV4 : Tryz.prog.cellsOf 30 = 4 := by kernel_rfl
theorem bytesV4 : Tryz.prog.bytesOf 30 = 64 := by kernel_rfl
theorem cellsT5 : Tryz.prog.cellsOf 35 = 5 := by kernel_rfl
theorem bytesT5 : Tryz.prog.bytesOf 35 = 80 := by kernel_rfl
theorem cellsE16 : Tryz.prog.cellsOf 37 = 16 := by kernel_rfl
theorem bytesE16 : Tryz.prog.bytesOf 37 = 240 := by kernel_rfl
theorem cellsLB : Tryz.prog.cellsOf 26 = 1 := by kernel_rfl
theorem cellsLV : Tryz.prog.cellsOf 28 = 1 := by kernel_rfl
theorem cellsLS : Tryz.prog.cellsOf 32 = 1 := by kernel_rfl
theorem cellsLT : Tryz.prog.cellsOf 33 = 1 := by kernel_rfl
theorem cellsLE : Tryz.prog.cellsOf 31 = 1 := by kernel_rfl
theorem dec_bits {k : Nat} {cs : List AVal} (h : TyV Tryz.prog k 26 cs) : ∃ l : List Int, cs = [.list 1 (l.map encB)] ∧ (l.all wB = true ∧ l.length ≤ 140737488355328) := by
  obtain ⟨xs, e0, p0, l0⟩ := dec_sliceI Tryz.underlying26 cellsBit bytesBit h (fun j _ cs h => dec_bit h)
  exact ⟨xs, e0, List.all_eq_true.2 p0, by omega⟩
theorem dec_strs {k : Nat} {cs : List AVal} (h : TyV Tryz.prog k 32 cs) : ∃ l : List Bs, cs = [.list 1 (l.map encBs)] ∧ l.length ≤ 140737488355328 := by
  obtain ⟨xs, e0, p0, l0⟩ := dec_sliceI (Pr := fun _ => True) Tryz.underlying32 cellsS bytesS h (fun j _ cs h => by obtain ⟨s, e, _⟩ := dec_string h; exact ⟨s, e, trivial⟩)
  exact ⟨xs, e0, by omega⟩
theorem len4 {α : Type} {l : List α} (h : l.length = 4) : ∃ a b c d, l = [a, b, c, d] := by
  match l, h with
  | [a, b, c, d], _ => exact ⟨a, b, c, d, rfl⟩
theorem len16 {α : Type} {l : List α} (h : l.length = 16) : ∃ a b c d e f g i j k m n o p q r, l = [a, b, c, d, e, f, g, i, j, k, m, n, o, p, q, r] := by
  match l, h with
  | [a, b, c, d, e, f, g, i, j, k, m, n, o, p, q, r], _ => exact ⟨a, b, c, d, e, f, g, i, j, k, m, n, o, p, q, r, rfl⟩
theorem dec_va : ∀ (k : Nat) (cs : List AVal), TyV Tryz.prog k 30 cs → ∃ v, cs = encVa v ∧ (szV v = true ∧ nuV v = true) := by
  intro k
  induction k using Nat.strongRecOn with
  | ind k ih =>
    intro cs h
    cases k with
    | zero => exact h.elim
    | succ k =>
      simp only [TyV, Tryz.underlying30, cellsV4] at h
      obtain ⟨h1, h2⟩ := h
      obtain ⟨a, b, c, d, rfl⟩ := len4 h1
      simp only [List.mem_cons, List.not_mem_nil, or_false, forall_eq_or_imp, forall_eq, cellsI, cellsTK, cellsLB, cellsLV] at h2
      obtain ⟨g1, g2, g3, g4⟩ := h2
      obtain ⟨x1, e1, p1⟩ := dec_intT Tryz.underlying27 g1
      obtain ⟨x2, e2, p2⟩ := dec_intT Tryz.underlying3 g2
      obtain ⟨x3, e3, p3, q3⟩ := dec_bits g3
      obtain ⟨x4, e4, p4, q4⟩ := dec_sliceI Tryz.underlying28 cellsV4 bytesV4 g4 (fun j hj cs h => ih j (by omega) cs h)
      simp only [List.drop_succ_cons, List.drop_zero, List.take_succ_cons, List.take_zero, List.cons.injEq, and_true] at e1 e2 e3 e4
      subst e1; subst e2; subst e3; subst e4
      refine ⟨.mk x1 x2 x3 x4, by rw [encVa, encVas_map], ?_, ?_⟩
      · rw [szV, (szVs_of p4).1, decide_eq_true q3, decide_eq_true (by omega)]; rfl
      · rw [nuV, (szVs_of p4).2, p1, p2, p3]; rfl
theorem dec_ty : ∀ (k : Nat) (cs : List AVal), TyV Tryz.prog k 35 cs → ∃ v, cs = encTy v ∧ (szT v = true ∧ nuT v = true) := by
  intro k
  induction k using Nat.strongRecOn with
  | ind k ih =>
    intro cs h
    cases k with
    | zero => exact h.elim
    | succ k =>
      simp only [TyV, Tryz.underlying35, cellsT5] at h
      obtain ⟨h1, h2⟩ := h
      obtain ⟨a, b, c, d, e, rfl⟩ := len5 h1
      simp only [List.mem_cons, List.not_mem_nil, or_false, forall_eq_or_imp, forall_eq, cellsI, cellsTK, cellsS, cellsLS, cellsLT] at h2
      obtain ⟨g1, g2, g3, g4, g5⟩ := h2
      obtain ⟨x1, e1, p1⟩ := dec_intT Tryz.underlying27 g1
      obtain ⟨x2, e2, p2⟩ := dec_intT Tryz.underlying3 g2
      obtain ⟨x3, e3, p3⟩ := dec_string g3
      obtain ⟨x4, e4, p4⟩ := dec_strs g4
      obtain ⟨x5, e5, p5, q5⟩ := dec_sliceI Tryz.underlying33 cellsT5 bytesT5 g5 (fun j hj cs h => ih j (by omega) cs h)
      simp only [List.drop_succ_cons, List.drop_zero, List.take_succ_cons, List.take_zero, List.cons.injEq, and_true] at e1 e2 e3 e4 e5
      subst e1; subst e2; subst e3; subst e4; subst e5
      refine ⟨.mk x1 x2 x3 x4 x5, by rw [encTy, encTys_map], ?_, ?_⟩
      · rw [szT, (szTs_of p5).1, decide_eq_true p3, decide_eq_true p4, decide_eq_true (by omega)]; rfl
      · rw [nuT, (szTs_of p5).2, p1, p2]; rfl
theorem dec_ex : ∀ (k : Nat) (cs : List AVal), TyV Tryz.prog k 37 cs → ∃ v, cs = encE v ∧ (szX v = true ∧ nuE v = true) := by
  intro k
  induction k using Nat.strongRecOn with
  | ind k ih =>
    intro cs h
    cases k with
    | zero => exact h.elim
    | succ k =>
      simp only [TyV, Tryz.underlying37, cellsE16] at h
      obtain ⟨h1, h2⟩ := h
      obtain ⟨a1, a2, a3, a4, a5, a6, a7, a8, a9, a10, a11, a12, a13, a14, a15, a16, rfl⟩ := len16 h1
      simp only [List.mem_cons, List.not_mem_nil, or_false, forall_eq_or_imp, forall_eq, cellsI, cellsEO, cellsS, cellsLB, cellsV4, cellsT5, cellsLE] at h2
      obtain ⟨g1, g2, g3, g4, g5, g6, g7, g8, g9⟩ := h2
      obtain ⟨x1, e1, p1⟩ := dec_intT Tryz.underlying25 g1
      obtain ⟨x2, e2, p2⟩ := dec_string g2
      obtain ⟨x3, e3, p3⟩ := dec_intT Tryz.underlying3 g3
      obtain ⟨x4, e4, p4, q4⟩ := dec_bits g4
      obtain ⟨x5, e5, p5, q5⟩ := dec_va _ _ g5
      obtain ⟨x6, e6, p6, q6⟩ := dec_sliceI Tryz.underlying31 cellsE16 bytesE16 g6 (fun j hj cs h => ih j (by omega) cs h)
      obtain ⟨x7, e7, p7, q7⟩ := dec_ty _ _ g7
      obtain ⟨x8, e8, p8⟩ := dec_intT Tryz.underlying3 g8
      obtain ⟨x9, e9, p9⟩ := dec_intT Tryz.underlying3 g9
      simp only [List.drop_succ_cons, List.drop_zero, List.take_succ_cons, List.take_zero, List.cons.injEq, and_true] at e1 e2 e3 e4 e5 e6 e7 e8 e9
      subst e1; subst e2; subst e3; subst e4; subst e6; subst e8; subst e9
      refine ⟨.mk x1 x2 x3 x4 x5 x6 x7 x8 x9, ?_, ?_, ?_⟩
      · rw [encE, ← e5, ← e7, encEs_map]; rfl
      · rw [szX, (szXs_of p6).1, decide_eq_true p2, decide_eq_true q4, decide_eq_true (by omega), p5, p7]; rfl
      · rw [nuE, (szXs_of p6).2, p1, p3, p4, q5, q7, p8, p9]; rfl
def XIn (e : Ex) : Prop := szX e = true ∧ nuE e = true
theorem dec_expr {k : Nat} {cs : List AVal} (h : TyV Tryz.prog k 37 cs) : ∃ e : Ex, argOf Tryz.prog 37 cs = .agg (cellsE e) ∧ XIn e := by
  obtain ⟨e, rfl, p⟩ := dec_ex _ _ h
  exact ⟨e, by rw [encE_cells]; simp only [argOf, Tryz.underlying37], p⟩
end Go.Proofs.YtcgdlhkiecommaaGreatDoor
