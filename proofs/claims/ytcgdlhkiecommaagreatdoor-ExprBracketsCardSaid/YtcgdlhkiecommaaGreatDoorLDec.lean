/- What comes in at the door: strings, tokens, bytes. -/
import Derived.Test.YtcgdlhkiecommaaGreatDoorLRef
import Derived.Test.YtcgdlhkiecommaaGreatDoorEngO
set_option linter.unusedVariables false
namespace Go.Proofs.YtcgdlhkiecommaaGreatDoor
open Go Go.RowKit
theorem cellsS : Tryz.prog.cellsOf 9 = 1 := by kernel_rfl
theorem cellsI : Tryz.prog.cellsOf 3 = 1 := by kernel_rfl
theorem cellsU : Tryz.prog.cellsOf 5 = 1 := by kernel_rfl
theorem dec_list {α : Type} {enc : α → List AVal} {Pr : α → Prop} : ∀ {els : List (List AVal)}, (∀ el ∈ els, ∃ x, el = enc x ∧ Pr x) → ∃ xs : List α, els = xs.map enc ∧ ∀ x ∈ xs, Pr x
  | [], _ => ⟨[], rfl, by simp⟩
  | el :: els, h => by
    obtain ⟨x, rfl, h1⟩ := h el (by simp)
    obtain ⟨xs, rfl, h2⟩ := dec_list (els := els) (fun e he => h e (by simp [he]))
    exact ⟨x :: xs, rfl, by
      intro y hy
      rcases List.mem_cons.1 hy with rfl | hy
      · exact h1
      · exact h2 y hy⟩
theorem dec_string {k : Nat} {cs : List AVal} (h : TyV Tryz.prog k 9 cs) : ∃ s : Bs, cs = [.v (.string (str s))] ∧ s.length ≤ 140737488355328 := by
  cases k with
  | zero => exact h.elim
  | succ k =>
    simp only [TyV, Tryz.underlying9] at h
    obtain ⟨s, h1, rfl⟩ := h
    exact ⟨s.data.toList, rfl, Nat.le_trans h1 (by decide)⟩
theorem dec_u8 {k : Nat} {cs : List AVal} (h : TyV Tryz.prog k 5 cs) : ∃ c : UInt8, cs = encY c := by
  cases k with
  | zero => exact h.elim
  | succ k =>
    simp only [TyV, Tryz.underlying5] at h
    obtain ⟨x, h1, rfl⟩ := h
    simp [Lit.wf, IntKind.min, IntKind.max, IntKind.signed, IntKind.bits] at h1
    refine ⟨UInt8.ofNat x.toNat, ?_⟩
    have e : (UInt8.ofNat x.toNat).toNat = x.toNat := by rw [UInt8.toNat_ofNat']; omega
    simp only [encY, e]
    rw [Int.toNat_of_nonneg (by omega)]
theorem len5 {α : Type} {l : List α} (h : l.length = 5) : ∃ a b c d e, l = [a, b, c, d, e] := by
  match l, h with
  | [a, b, c, d, e], _ => exact ⟨a, b, c, d, e, rfl⟩
theorem dec_byte {k : Nat} {cs : List AVal} (h : TyV Tryz.prog k 5 cs) : ∃ c : UInt8, argOf Tryz.prog 5 cs = .v (.int .u8 (c.toNat : Int)) ∧ True := by
  obtain ⟨c, rfl⟩ := dec_u8 h
  exact ⟨c, by simp only [argOf, Tryz.underlying5]; rfl, trivial⟩
theorem arg_rep2 {P : Program} {ok : Nat → Prop} {w : World} {H : Type} {enc : TypeId × Value → H} {S : List TypeId} {r : Reach} {base : Nat} (hS : closedT P S = true) (hok : ∀ b, b < w.heap.size → ok b) {t : TypeId} {v : Value} {d : DataW H} {ps : List MemPlace} (ht : t ∈ S)
    (hv : Value.okWide P w r base t v) (h : DataW.Trod enc P w 0 (fun _ => true) true t v d ps) (hw : ∀ n ∈ d.weights P t, n ≤ reachBytes) : ∃ n cs, TyV P n t cs ∧ ∀ L : Loc, Rep ok L w (argOf P t cs) v := by
  obtain ⟨fuel, h⟩ := h
  obtain ⟨cs, h1, h2⟩ := trod_rep hS hok fuel t _ d ps ht h hw
  refine ⟨fuel, cs, h1, fun L => ?_⟩
  have hc := List.all_eq_true.1 hS t ht
  cases fuel with
  | zero => exact h1.elim
  | succ n =>
    simp only [argOf]
    simp only [TyV] at h1
    have one : ∀ a : AVal, cs = [a] → v.oneCell' = true → Rep ok L w (cs.headD .nil) v := by
      rintro a rfl ho
      have hv : v.cells.toList = [v] := by cases v <;> simp_all [Value.cells, Value.oneCell']
      rw [hv] at h2
      exact (h2.1.1.repL (L := L)).rep (RepL.leaf (h2.1.1.repL (L := L)))
    cases hu : P.underlying t with
    | none => rw [hu] at hc; cases hc
    | some td =>
      rw [hu] at hc h1
      cases td with
      | bool => obtain ⟨b, e⟩ := h1; obtain ⟨b', rfl⟩ := Go.WideShapes.okWide_bool hu hv; exact one _ e rfl
      | int k => obtain ⟨x, _, e⟩ := h1; obtain ⟨b', rfl⟩ := Go.WideShapes.okWide_int hu hv; exact one _ e rfl
      | string => obtain ⟨x, _, e⟩ := h1; obtain ⟨b', rfl⟩ := Go.WideShapes.okWide_string hu hv; exact one _ e rfl
      | slice e => obtain ⟨x, _, _, e⟩ := h1; obtain ⟨_, _, _, rfl⟩ := Go.WideShapes.okWide_slice hu hv; exact one _ e rfl
      | struct fs =>
        obtain ⟨vs, rfl, _⟩ := Go.WideShapes.okWide_struct hu hv
        exact ⟨vs.toList, by simp, All2.mono (fun a b h => h.1.repL) _ _ h2⟩
      | array m e =>
        have : ∃ vs, v = .agg vs := by
          simp only [Value.okWide, hu] at hv
          obtain ⟨vs, h, _⟩ := hv
          exact ⟨vs, h⟩
        obtain ⟨vs, rfl⟩ := this
        exact ⟨vs.toList, by simp, All2.mono (fun a b h => h.1.repL) _ _ h2⟩
      | _ => simp at hc
theorem weights_at {H : Type} {P : Program} {ts : List TypeId} {ds : List (DataW H)} (h : (DataW.weightsEach P ts ds).all (· ≤ reachBytes) = true) (i : Nat) {t : TypeId} {d : DataW H} (h1 : ts[i]? = some t) (h2 : ds[i]? = some d) : ∀ n ∈ d.weights P t, n ≤ reachBytes := by
  intro n hn
  have := List.all_eq_true.1 h n (weightsEach_mem ts ds i t d h1 h2 n hn)
  simpa using this
end Go.Proofs.YtcgdlhkiecommaaGreatDoor
