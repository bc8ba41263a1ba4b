/- What comes in at the door: strings, tokens, bytes. -/
import Derived.Test.YtcgdlhkiecommaaGreatDoorLRef
import Derived.Test.YtcgdlhkiecommaaGreatDoorEngO
set_option linter.unusedVariables false
namespace Go.Proofs.YtcgdlhkiecommaaGreatDoor
open Go Go.RowKit
theorem cellsS : Tryz.prog.cellsOf 9 = 1 := by kernel_rfl
theorem cellsI : Tryz.prog.cellsOf 3 = 1 := by kernel_rfl
theorem cellsO : Tryz.prog.cellsOf 63 = 1 := by kernel_rfl
theorem cellsK : Tryz.prog.cellsOf 65 = 5 := by kernel_rfl
theorem bytesK : Tryz.prog.bytesOf 65 = 48 := by kernel_rfl
theorem cellsU : Tryz.prog.cellsOf 5 = 1 := by kernel_rfl
theorem dec_list {α : Type} {enc : α → List AVal} {Pr : α → Prop} : ∀ {els : List (List AVal)}, (∀ el ∈ els, ∃ x, el = enc x ∧ Pr x) → ∃ xs : List α, els = xs.map enc ∧ ∀ x ∈ xs, Pr x
  | [], _ => ⟨[], rfl, by simp⟩
  | el :: els, h => by
    obtain ⟨x, rfl, h1⟩ := h el (by simp)
    obtain ⟨xs, rfl, h2⟩ := dec_list (els := els) (fun e he => h e (by simp [he]))
    exact ⟨x :: xs, rfl, by
      intro y hy
      rcases List.mem_cons.1 hy with rfl | hy
      · exact h1
      · exact h2 y hy⟩
theorem dec_slice {α : Type} {enc : α → List AVal} {Pr : α → Prop} {k t e sz by' : Nat} {cs : List AVal} (ht : Tryz.prog.underlying t = some (.slice e)) (hz : Tryz.prog.cellsOf e = sz) (hb : Tryz.prog.bytesOf e = by') (h : TyV Tryz.prog k t cs) (hd : ∀ k cs, TyV Tryz.prog k e cs → ∃ x, cs = enc x ∧ Pr x) :
    ∃ xs : List α, cs = [.list sz (xs.map enc)] ∧ (∀ x ∈ xs, Pr x) ∧ xs.length * by' ≤ 140737488351232 := by
  cases k with
  | zero => exact h.elim
  | succ k =>
    simp only [TyV, ht] at h
    obtain ⟨els, h1, h2, rfl⟩ := h
    obtain ⟨xs, rfl, h3⟩ := dec_list (fun el hel => hd k el (h2 el hel))
    rw [hb, List.length_map] at h1
    exact ⟨xs, by rw [hz], h3, Nat.le_trans h1 (by decide)⟩
theorem dec_string {k : Nat} {cs : List AVal} (h : TyV Tryz.prog k 9 cs) : ∃ s : Bs, cs = [.v (.string (str s))] ∧ s.length ≤ 140737488355328 := by
  cases k with
  | zero => exact h.elim
  | succ k =>
    simp only [TyV, Tryz.underlying9] at h
    obtain ⟨s, h1, rfl⟩ := h
    exact ⟨s.data.toList, rfl, Nat.le_trans h1 (by decide)⟩
theorem dec_int {k : Nat} {cs : List AVal} (h : TyV Tryz.prog k 3 cs) : ∃ x : Int, cs = [.v (.int .i64 x)] ∧ (-9223372036854775808 ≤ x ∧ x ≤ 9223372036854775807) := by
  cases k with
  | zero => exact h.elim
  | succ k =>
    simp only [TyV, Tryz.underlying3] at h
    obtain ⟨x, h1, rfl⟩ := h
    refine ⟨x, rfl, ?_⟩
    simp [Lit.wf, IntKind.min, IntKind.max, IntKind.signed, IntKind.bits] at h1
    omega
theorem dec_op {k : Nat} {cs : List AVal} (h : TyV Tryz.prog k 63 cs) : ∃ x : Int, cs = [.v (.int .i64 x)] ∧ (-9223372036854775808 ≤ x ∧ x ≤ 9223372036854775807) := by
  cases k with
  | zero => exact h.elim
  | succ k =>
    simp only [TyV, Tryz.underlying63] at h
    obtain ⟨x, h1, rfl⟩ := h
    refine ⟨x, rfl, ?_⟩
    simp [Lit.wf, IntKind.min, IntKind.max, IntKind.signed, IntKind.bits] at h1
    omega
theorem len5 {α : Type} {l : List α} (h : l.length = 5) : ∃ a b c d e, l = [a, b, c, d, e] := by
  match l, h with
  | [a, b, c, d, e], _ => exact ⟨a, b, c, d, e, rfl⟩
structure TkIn (t : Tk) : Prop where
  len : t.text.length ≤ 140737488355328
  n0 : -9223372036854775808 ≤ t.n
  n1 : t.n ≤ 9223372036854775807
theorem dec_tok {k : Nat} {cs : List AVal} (h : TyV Tryz.prog k 65 cs) : ∃ t : Tk, cs = encK t ∧ TkIn t := by
  cases k with
  | zero => exact h.elim
  | succ k =>
    simp only [TyV, Tryz.underlying65, cellsK] at h
    obtain ⟨h1, h2⟩ := h
    obtain ⟨a, b, c, d, e, rfl⟩ := len5 h1
    simp only [List.mem_cons, List.not_mem_nil, or_false, forall_eq_or_imp, forall_eq, cellsS, cellsI, cellsO] at h2
    obtain ⟨g1, g2, g3, g4, g5⟩ := h2
    obtain ⟨x1, e1, p1⟩ := dec_op g1
    obtain ⟨x2, e2, p2⟩ := dec_string g2
    obtain ⟨x3, e3, p3⟩ := dec_int g3
    obtain ⟨x4, e4, p4⟩ := dec_int g4
    obtain ⟨x5, e5, p5⟩ := dec_int g5
    simp only [List.drop_succ_cons, List.drop_zero, List.take_succ_cons, List.take_zero, List.cons.injEq, and_true] at e1 e2 e3 e4 e5
    subst e1; subst e2; subst e3; subst e4; subst e5
    exact ⟨⟨x1, x2, x3, x4, x5⟩, rfl, p2, p3.1, p3.2⟩
def TksIn (l : List Tk) : Prop := (∀ t ∈ l, TkIn t) ∧ l.length * 48 ≤ 140737488351232
theorem dec_toks {k : Nat} {cs : List AVal} (h : TyV Tryz.prog k 22 cs) : ∃ l : List Tk, argOf Tryz.prog 22 cs = .list 5 (l.map encK) ∧ TksIn l := by
  obtain ⟨xs, e0, p0, l0⟩ := dec_slice Tryz.underlying22 cellsK bytesK h (fun k cs h => dec_tok h)
  subst e0
  exact ⟨xs, by simp only [argOf, Tryz.underlying22]; rfl, p0, l0⟩
theorem arg_rep2 {P : Program} {ok : Nat → Prop} {w : World} {H : Type} {enc : TypeId × Value → H} {S : List TypeId} {r : Reach} {base : Nat} (hS : closedT P S = true) (hok : ∀ b, b < w.heap.size → ok b) {t : TypeId} {v : Value} {d : DataW H} {ps : List MemPlace} (ht : t ∈ S)
    (hv : Value.okWide P w r base t v) (h : DataW.Trod enc P w 0 (fun _ => true) true t v d ps) (hw : ∀ n ∈ d.weights P t, n ≤ reachBytes) : ∃ n cs, TyV P n t cs ∧ ∀ L : Loc, Rep ok L w (argOf P t cs) v := by
  obtain ⟨fuel, h⟩ := h
  obtain ⟨cs, h1, h2⟩ := trod_rep hS hok fuel t _ d ps ht h hw
  refine ⟨fuel, cs, h1, fun L => ?_⟩
  have hc := List.all_eq_true.1 hS t ht
  cases fuel with
  | zero => exact h1.elim
  | succ n =>
    simp only [argOf]
    simp only [TyV] at h1
    have one : ∀ a : AVal, cs = [a] → v.oneCell' = true → Rep ok L w (cs.headD .nil) v := by
      rintro a rfl ho
      have hv : v.cells.toList = [v] := by cases v <;> simp_all [Value.cells, Value.oneCell']
      rw [hv] at h2
      exact (h2.1.1.repL (L := L)).rep (RepL.leaf (h2.1.1.repL (L := L)))
    cases hu : P.underlying t with
    | none => rw [hu] at hc; cases hc
    | some td =>
      rw [hu] at hc h1
      cases td with
      | bool => obtain ⟨b, e⟩ := h1; obtain ⟨b', rfl⟩ := Go.WideShapes.okWide_bool hu hv; exact one _ e rfl
      | int k => obtain ⟨x, _, e⟩ := h1; obtain ⟨b', rfl⟩ := Go.WideShapes.okWide_int hu hv; exact one _ e rfl
      | string => obtain ⟨x, _, e⟩ := h1; obtain ⟨b', rfl⟩ := Go.WideShapes.okWide_string hu hv; exact one _ e rfl
      | slice e => obtain ⟨x, _, _, e⟩ := h1; obtain ⟨_, _, _, rfl⟩ := Go.WideShapes.okWide_slice hu hv; exact one _ e rfl
      | struct fs =>
        obtain ⟨vs, rfl, _⟩ := Go.WideShapes.okWide_struct hu hv
        exact ⟨vs.toList, by simp, All2.mono (fun a b h => h.1.repL) _ _ h2⟩
      | array m e =>
        have : ∃ vs, v = .agg vs := by
          simp only [Value.okWide, hu] at hv
          obtain ⟨vs, h, _⟩ := hv
          exact ⟨vs, h⟩
        obtain ⟨vs, rfl⟩ := this
        exact ⟨vs.toList, by simp, All2.mono (fun a b h => h.1.repL) _ _ h2⟩
      | _ => simp at hc
theorem weights_at {H : Type} {P : Program} {ts : List TypeId} {ds : List (DataW H)} (h : (DataW.weightsEach P ts ds).all (· ≤ reachBytes) = true) (i : Nat) {t : TypeId} {d : DataW H} (h1 : ts[i]? = some t) (h2 : ds[i]? = some d) : ∀ n ∈ d.weights P t, n ≤ reachBytes := by
  intro n hn
  have := List.all_eq_true.1 h n (weightsEach_mem ts ds i t d h1 h2 n hn)
  simpa using this
end Go.Proofs.YtcgdlhkiecommaaGreatDoor
