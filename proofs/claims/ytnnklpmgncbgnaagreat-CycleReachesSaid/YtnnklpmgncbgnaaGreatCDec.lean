/- What comes in, as plain data (the numbers of types are this seat's). -/
import Derived.Test.YtnnklpmgncbgnaaGreatFacts
import Derived.Test.YtnnklpmgncbgnaaGreatCLaw
import Derived.Test.YtnnklpmgncbgnaaGreatCWide
set_option linter.all false
set_option linter.unusedSimpArgs false
namespace Go.Proofs.YtnnklpmgncbgnaaGreat
open Go

def inTypes : List TypeId := [27, 22, 9, 23, 77, 24, 80, 3, 25, 82, 28, 44]
theorem closed_in : closedT Tryz.prog inTypes = true := by kernel_rfl
theorem cells77 : Tryz.prog.cellsOf 77 = 3 := by kernel_rfl
theorem cells82 : Tryz.prog.cellsOf 82 = 2 := by kernel_rfl
theorem cells80 : Tryz.prog.cellsOf 80 = 2 := by kernel_rfl
theorem cells27 : Tryz.prog.cellsOf 27 = 4 := by kernel_rfl
theorem cells9 : Tryz.prog.cellsOf 9 = 1 := by kernel_rfl
theorem cells3 : Tryz.prog.cellsOf 3 = 1 := by kernel_rfl
theorem cells44 : Tryz.prog.cellsOf 44 = 1 := by kernel_rfl
theorem cells22 : Tryz.prog.cellsOf 22 = 1 := by kernel_rfl
theorem cells23 : Tryz.prog.cellsOf 23 = 1 := by kernel_rfl
theorem cells24 : Tryz.prog.cellsOf 24 = 1 := by kernel_rfl
theorem cells25 : Tryz.prog.cellsOf 25 = 1 := by kernel_rfl
theorem bytes9 : Tryz.prog.bytesOf 9 = 16 := by kernel_rfl
theorem bytes77 : Tryz.prog.bytesOf 77 = 32 := by kernel_rfl
theorem bytes80 : Tryz.prog.bytesOf 80 = 16 := by kernel_rfl
theorem bytes82 : Tryz.prog.bytesOf 82 = 24 := by kernel_rfl
theorem bytes44 : Tryz.prog.bytesOf 44 = 1 := by kernel_rfl
theorem dec_list {α : Type} {enc : α → List AVal} {Pr : α → Prop} : ∀ {els : List (List AVal)}, (∀ el ∈ els, ∃ x, el = enc x ∧ Pr x) → ∃ xs : List α, els = xs.map enc ∧ ∀ x ∈ xs, Pr x
  | [], _ => ⟨[], rfl, by simp⟩
  | el :: els, h => by
    obtain ⟨x, rfl, h1⟩ := h el (by simp)
    obtain ⟨xs, rfl, h2⟩ := dec_list (els := els) (fun e he => h e (by simp [he]))
    exact ⟨x :: xs, rfl, by
      intro y hy
      rcases List.mem_cons.1 hy with rfl | hy
      · exact h1
      · exact h2 y hy⟩
theorem dec_string {k : Nat} {cs : List AVal} (h : TyV Tryz.prog k 9 cs) : ∃ s : ByteArray, cs = encS s ∧ s.size ≤ 140737488355328 := by
  cases k with
  | zero => exact h.elim
  | succ k =>
    simp only [TyV, Tryz.underlying9] at h
    obtain ⟨s, h1, rfl⟩ := h
    exact ⟨s, rfl, Nat.le_trans h1 (by decide)⟩
theorem dec_int {k : Nat} {cs : List AVal} (h : TyV Tryz.prog k 3 cs) : ∃ x : Int, cs = encI x ∧ (-9223372036854775808 ≤ x ∧ x ≤ 9223372036854775807) := by
  cases k with
  | zero => exact h.elim
  | succ k =>
    simp only [TyV, Tryz.underlying3] at h
    obtain ⟨x, h1, rfl⟩ := h
    refine ⟨x, rfl, ?_⟩
    simp [Lit.wf, IntKind.min, IntKind.max, IntKind.signed, IntKind.bits] at h1
    omega
theorem dec_bit {k : Nat} {cs : List AVal} (h : TyV Tryz.prog k 44 cs) : ∃ x : Int, cs = encB x ∧ (0 ≤ x ∧ x ≤ 255) := by
  cases k with
  | zero => exact h.elim
  | succ k =>
    simp only [TyV, Tryz.underlying44] at h
    obtain ⟨x, h1, rfl⟩ := h
    refine ⟨x, rfl, ?_⟩
    simp [Lit.wf, IntKind.min, IntKind.max, IntKind.signed, IntKind.bits] at h1
    omega
theorem len3 {α : Type} {l : List α} (h : l.length = 3) : ∃ a b c, l = [a, b, c] := by
  match l, h with
  | [a, b, c], _ => exact ⟨a, b, c, rfl⟩
theorem len2 {α : Type} {l : List α} (h : l.length = 2) : ∃ a b, l = [a, b] := by
  match l, h with
  | [a, b], _ => exact ⟨a, b, rfl⟩
theorem len4 {α : Type} {l : List α} (h : l.length = 4) : ∃ a b c d, l = [a, b, c, d] := by
  match l, h with
  | [a, b, c, d], _ => exact ⟨a, b, c, d, rfl⟩
theorem dec_reg {k : Nat} {cs : List AVal} (h : TyV Tryz.prog k 77 cs) : ∃ r : ByteArray × Int × Int, cs = encR r ∧ (r.1.size ≤ 140737488355328 ∧ (0 ≤ r.2.1 ∧ r.2.1 ≤ 255) ∧ (-9223372036854775808 ≤ r.2.2 ∧ r.2.2 ≤ 9223372036854775807)) := by
  cases k with
  | zero => exact h.elim
  | succ k =>
    simp only [TyV, Tryz.underlying77, cells77] at h
    obtain ⟨h1, h2⟩ := h
    obtain ⟨a, b, c, rfl⟩ := len3 h1
    have f0 := h2 _ (List.mem_cons_self ..)
    have f1 := h2 _ (List.mem_cons_of_mem _ (List.mem_cons_self ..))
    have f2 := h2 _ (List.mem_cons_of_mem _ (List.mem_cons_of_mem _ (List.mem_cons_self ..)))
    simp only [cells9, cells44, cells3] at f0 f1 f2
    obtain ⟨s, e0, s0⟩ := dec_string (cs := [a]) f0
    obtain ⟨x, e1, s1⟩ := dec_bit (cs := [b]) f1
    obtain ⟨y, e2, s2⟩ := dec_int (cs := [c]) f2
    cases e0; cases e1; cases e2
    exact ⟨(s, x, y), rfl, s0, s1, s2⟩
theorem dec_pin {k : Nat} {cs : List AVal} (h : TyV Tryz.prog k 82 cs) : ∃ r : ByteArray × Int, cs = encP r ∧ (r.1.size ≤ 140737488355328 ∧ (-9223372036854775808 ≤ r.2 ∧ r.2 ≤ 9223372036854775807)) := by
  cases k with
  | zero => exact h.elim
  | succ k =>
    simp only [TyV, Tryz.underlying82, cells82] at h
    obtain ⟨h1, h2⟩ := h
    obtain ⟨a, b, rfl⟩ := len2 h1
    have f0 := h2 _ (List.mem_cons_self ..)
    have f1 := h2 _ (List.mem_cons_of_mem _ (List.mem_cons_self ..))
    simp only [cells9, cells3] at f0 f1
    obtain ⟨s, e0, s0⟩ := dec_string (cs := [a]) f0
    obtain ⟨y, e2, s2⟩ := dec_int (cs := [b]) f1
    cases e0; cases e2
    exact ⟨(s, y), rfl, s0, s2⟩
theorem dec_gate {k : Nat} {cs : List AVal} (h : TyV Tryz.prog k 80 cs) : ∃ g : Int × Int, cs = encG g ∧ ((-9223372036854775808 ≤ g.1 ∧ g.1 ≤ 9223372036854775807) ∧ (-9223372036854775808 ≤ g.2 ∧ g.2 ≤ 9223372036854775807)) := by
  cases k with
  | zero => exact h.elim
  | succ k =>
    simp only [TyV, Tryz.underlying80, cells80, cells3] at h
    obtain ⟨h1, h2⟩ := h
    obtain ⟨a, b, rfl⟩ := len2 h1
    obtain ⟨x, e0, s0⟩ := dec_int (cs := [a]) (h2 0 (by omega))
    obtain ⟨y, e1, s1⟩ := dec_int (cs := [b]) (h2 1 (by omega))
    cases e0; cases e1
    exact ⟨(x, y), rfl, s0, s1⟩
theorem dec_slice {α : Type} {enc : α → List AVal} {Pr : α → Prop} {k t e sz by' : Nat} {cs : List AVal} (ht : Tryz.prog.underlying t = some (.slice e)) (hz : Tryz.prog.cellsOf e = sz) (hb : Tryz.prog.bytesOf e = by') (h : TyV Tryz.prog k t cs) (hd : ∀ k cs, TyV Tryz.prog k e cs → ∃ x, cs = enc x ∧ Pr x) :
    ∃ xs : List α, cs = [.list sz (xs.map enc)] ∧ (∀ x ∈ xs, Pr x) ∧ xs.length * by' ≤ 140737488351232 := by
  cases k with
  | zero => exact h.elim
  | succ k =>
    simp only [TyV, ht] at h
    obtain ⟨els, h1, h2, rfl⟩ := h
    obtain ⟨xs, rfl, h3⟩ := dec_list (fun el hel => hd k el (h2 el hel))
    rw [hb, List.length_map] at h1
    exact ⟨xs, by rw [hz], h3, Nat.le_trans h1 (by decide)⟩
theorem dec_net {k : Nat} {cs : List AVal} (h : TyV Tryz.prog k 27 cs) : ∃ n : Net, argOf Tryz.prog 27 cs = encN n ∧ n.Small := by
  have e : argOf Tryz.prog 27 cs = .agg cs := by simp only [argOf, Tryz.underlying27]
  rw [e]
  cases k with
  | zero => exact h.elim
  | succ k =>
    simp only [TyV, Tryz.underlying27, cells27] at h
    obtain ⟨h1, h2⟩ := h
    obtain ⟨a, b, c, d, rfl⟩ := len4 h1
    have f0 := h2 _ (List.mem_cons_self ..)
    have f1 := h2 _ (List.mem_cons_of_mem _ (List.mem_cons_self ..))
    have f2 := h2 _ (List.mem_cons_of_mem _ (List.mem_cons_of_mem _ (List.mem_cons_self ..)))
    have f3 := h2 _ (List.mem_cons_of_mem _ (List.mem_cons_of_mem _ (List.mem_cons_of_mem _ (List.mem_cons_self ..))))
    simp only [cells22, cells23, cells24, cells25] at f0 f1 f2 f3
    obtain ⟨xs, e0, p0, l0⟩ := dec_slice (cs := [a]) Tryz.underlying22 cells9 bytes9 f0 (fun k cs h => dec_string h)
    obtain ⟨ys, e1, p1, l1⟩ := dec_slice (cs := [b]) Tryz.underlying23 cells77 bytes77 f1 (fun k cs h => dec_reg h)
    obtain ⟨zs, e2, p2, l2⟩ := dec_slice (cs := [c]) Tryz.underlying24 cells80 bytes80 f2 (fun k cs h => dec_gate h)
    obtain ⟨ws, e3, p3, l3⟩ := dec_slice (cs := [d]) Tryz.underlying25 cells82 bytes82 f3 (fun k cs h => dec_pin h)
    cases e0; cases e1; cases e2; cases e3
    exact ⟨⟨xs, ys, zs, ws⟩, rfl, p0, fun r hr => (p1 r hr).1, fun p hp => (p3 p hp).1, by simp only; omega, by simp only; omega, by simp only; omega, by simp only; omega, fun r hr => (p1 r hr).2.1, fun g hg => ⟨(p2 g hg).1.2, (p2 g hg).2.2⟩, fun r hr => (p1 r hr).2.2.2, fun p hp => (p3 p hp).2.2⟩
theorem dec_lit {k : Nat} {cs : List AVal} (h : TyV Tryz.prog k 3 cs) : ∃ x : Int, argOf Tryz.prog 3 cs = .v (.int .i64 x) ∧ (-9223372036854775808 ≤ x ∧ x ≤ 9223372036854775807) := by
  obtain ⟨x, rfl, p⟩ := dec_int h
  exact ⟨x, by simp only [argOf, Tryz.underlying3]; rfl, p⟩
theorem dec_lb1 {k : Nat} {cs : List AVal} (h : TyV Tryz.prog k 28 cs) : ∃ l : List Int, cs = [.list 1 (l.map encB)] ∧ Bytes l := by
  obtain ⟨xs, e0, p0, l0⟩ := dec_slice Tryz.underlying28 cells44 bytes44 h (fun k cs h => dec_bit h)
  exact ⟨xs, e0, by omega, p0⟩
theorem dec_lb {k : Nat} {cs : List AVal} (h : TyV Tryz.prog k 28 cs) : ∃ l : List Int, argOf Tryz.prog 28 cs = .list 1 (l.map encB) ∧ Bytes l := by
  obtain ⟨xs, rfl, p⟩ := dec_lb1 h
  exact ⟨xs, by simp only [argOf, Tryz.underlying28]; rfl, p⟩
theorem arg_rep2 {P : Program} {ok : Nat → Prop} {w : World} {H : Type} {enc : TypeId × Value → H} {S : List TypeId} {r : Reach} {base : Nat} (hS : closedT P S = true) (hok : ∀ b, b < w.heap.size → ok b) {t : TypeId} {v : Value} {d : DataW H} {ps : List MemPlace} (ht : t ∈ S)
    (hv : Value.okWide P w r base t v) (h : DataW.Trod enc P w 0 (fun _ => true) true t v d ps) (hw : ∀ n ∈ d.weights P t, n ≤ reachBytes) : ∃ n cs, TyV P n t cs ∧ ∀ L : Loc, Rep ok L w (argOf P t cs) v := by
  obtain ⟨fuel, h⟩ := h
  obtain ⟨cs, h1, h2⟩ := trod_rep hS hok fuel t _ d ps ht h hw
  refine ⟨fuel, cs, h1, fun L => ?_⟩
  have hc := List.all_eq_true.1 hS t ht
  cases fuel with
  | zero => exact h1.elim
  | succ n =>
    simp only [argOf]
    simp only [TyV] at h1
    have one : ∀ a : AVal, cs = [a] → v.oneCell' = true → Rep ok L w (cs.headD .nil) v := by
      rintro a rfl ho
      have hv : v.cells.toList = [v] := by cases v <;> simp_all [Value.cells, Value.oneCell']
      rw [hv] at h2
      exact (h2.1.1.repL (L := L)).rep (RepL.leaf (h2.1.1.repL (L := L)))
    cases hu : P.underlying t with
    | none => rw [hu] at hc; cases hc
    | some td =>
      rw [hu] at hc h1
      cases td with
      | bool => obtain ⟨b, e⟩ := h1; obtain ⟨b', rfl⟩ := Go.WideShapes.okWide_bool hu hv; exact one _ e rfl
      | int k => obtain ⟨x, _, e⟩ := h1; obtain ⟨b', rfl⟩ := Go.WideShapes.okWide_int hu hv; exact one _ e rfl
      | string => obtain ⟨x, _, e⟩ := h1; obtain ⟨b', rfl⟩ := Go.WideShapes.okWide_string hu hv; exact one _ e rfl
      | slice e => obtain ⟨x, _, _, e⟩ := h1; obtain ⟨_, _, _, rfl⟩ := Go.WideShapes.okWide_slice hu hv; exact one _ e rfl
      | struct fs =>
        obtain ⟨vs, rfl, _⟩ := Go.WideShapes.okWide_struct hu hv
        exact ⟨vs.toList, by simp, All2.mono (fun a b h => h.1.repL) _ _ h2⟩
      | array m e =>
        have : ∃ vs, v = .agg vs := by
          simp only [Value.okWide, hu] at hv
          obtain ⟨vs, h, _⟩ := hv
          exact ⟨vs, h⟩
        obtain ⟨vs, rfl⟩ := this
        exact ⟨vs.toList, by simp, All2.mono (fun a b h => h.1.repL) _ _ h2⟩
      | _ => simp at hc


theorem weights_at {H : Type} {P : Program} {ts : List TypeId} {ds : List (DataW H)} (h : (DataW.weightsEach P ts ds).all (· ≤ reachBytes) = true) (i : Nat) {t : TypeId} {d : DataW H} (h1 : ts[i]? = some t) (h2 : ds[i]? = some d) : ∀ n ∈ d.weights P t, n ≤ reachBytes := by
  intro n hn
  have := List.all_eq_true.1 h n (weightsEach_mem ts ds i t d h1 h2 n hn)
  simpa using this

end Go.Proofs.YtnnklpmgncbgnaaGreat
