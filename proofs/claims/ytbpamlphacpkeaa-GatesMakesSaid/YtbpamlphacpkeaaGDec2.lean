/- What comes in of the asks of a maker, as plain data (the numbers of types are this seat's). -/
import Derived.Test.YtbpamlphacpkeaaGDec
import Derived.Test.YtbpamlphacpkeaaGOps
set_option linter.unusedVariables false
set_option linter.unusedSimpArgs false
namespace Go.Proofs.Ytbpamlphacpkeaa
open Go

theorem len7 {α : Type} {l : List α} (h : l.length = 7) : ∃ a b c d e f g, l = [a, b, c, d, e, f, g] := by
  match l, h with
  | [a, b, c, d, e, f, g], _ => exact ⟨a, b, c, d, e, f, g, rfl⟩
theorem dec_op {k : Nat} {cs : List AVal} (h : TyV Try.prog k 56 cs) : ∃ o : OpV, cs = encO o ∧ o.Small := by
  cases k with
  | zero => exact h.elim
  | succ k =>
    simp only [TyV, Try.underlying56, cells56] at h
    obtain ⟨h1, h2⟩ := h
    obtain ⟨a, b, c, d, e, f, g, rfl⟩ := len7 h1
    have f0 := h2 _ (List.mem_cons_self ..)
    have f1 := h2 _ (List.mem_cons_of_mem _ (List.mem_cons_self ..))
    have f2 := h2 _ (List.mem_cons_of_mem _ (List.mem_cons_of_mem _ (List.mem_cons_self ..)))
    have f3 := h2 _ (List.mem_cons_of_mem _ (List.mem_cons_of_mem _ (List.mem_cons_of_mem _ (List.mem_cons_self ..))))
    have f4 := h2 _ (List.mem_cons_of_mem _ (List.mem_cons_of_mem _ (List.mem_cons_of_mem _ (List.mem_cons_of_mem _ (List.mem_cons_self ..)))))
    have f5 := h2 _ (List.mem_cons_of_mem _ (List.mem_cons_of_mem _ (List.mem_cons_of_mem _ (List.mem_cons_of_mem _ (List.mem_cons_of_mem _ (List.mem_cons_self ..))))))
    have f6 := h2 _ (List.mem_cons_of_mem _ (List.mem_cons_of_mem _ (List.mem_cons_of_mem _ (List.mem_cons_of_mem _ (List.mem_cons_of_mem _ (List.mem_cons_of_mem _ (List.mem_cons_self ..)))))))
    simp only [cells5, cells4, cells3, cells54, cells25] at f0 f1 f2 f3 f4 f5 f6
    obtain ⟨x0, e0, s0⟩ := dec_u8 (cs := [a]) f0
    obtain ⟨x1, e1⟩ := dec_bool (cs := [b]) f1
    obtain ⟨x2, e2, s2⟩ := dec_int (cs := [c]) f2
    obtain ⟨x3, e3, s3⟩ := dec_int (cs := [d]) f3
    obtain ⟨x4, e4, s4⟩ := dec_int (cs := [e]) f4
    obtain ⟨x5, e5, s5, _⟩ := dec_slice (cs := [f]) Try.underlying54 cells3 bytes3 f5 (fun k cs h => dec_int h)
    obtain ⟨x6, e6, s6, _⟩ := dec_slice (cs := [g]) Try.underlying25 cells69 bytes69 f6 (fun k cs h => dec_pin h)
    cases e0; cases e1; cases e2; cases e3; cases e4; cases e5; cases e6
    exact ⟨⟨x0, x1, x2, x3, x4, x5, x6⟩, rfl, s0, s2, s3, s4, fun x hx => (s5 x hx).2, fun p hp => ⟨(s6 p hp).1, (s6 p hp).2.2⟩⟩
theorem dec_ops {k : Nat} {cs : List AVal} (h : TyV Try.prog k 47 cs) : ∃ l : List OpV, argOf Try.prog 47 cs = .list 7 (l.map encO) ∧ l.length ≤ 140737488355328 ∧ ∀ o ∈ l, o.Small := by
  obtain ⟨xs, e0, p0, l0⟩ := dec_slice Try.underlying47 cells56 bytes56 h (fun k cs h => dec_op h)
  subst e0
  exact ⟨xs, by simp only [argOf, Try.underlying47]; rfl, by omega, p0⟩
structure NamesOK (t : List ByteArray × List ByteArray × List Int) : Prop where
  z1 : ∀ s ∈ t.1, s.size ≤ 140737488355328
  z2 : ∀ s ∈ t.2.1, s.size ≤ 140737488355328
  z3 : ∀ x ∈ t.2.2, 0 ≤ x ∧ x ≤ 255
  y1 : t.1.length ≤ 140737488355328
  y2 : t.2.1.length ≤ 140737488355328
  y3 : t.2.2.length ≤ 140737488355328
theorem dec_names {k : Nat} {cs : List AVal} (h : TyV Try.prog k 46 cs) : ∃ t : List ByteArray × List ByteArray × List Int, argOf Try.prog 46 cs = .agg [.list 1 (t.1.map encS), .list 1 (t.2.1.map encS), .list 1 (t.2.2.map encB)] ∧ NamesOK t := by
  have e : argOf Try.prog 46 cs = .agg cs := by simp only [argOf, Try.underlying46]
  rw [e]
  cases k with
  | zero => exact h.elim
  | succ k =>
    simp only [TyV, Try.underlying46, cells46] at h
    obtain ⟨h1, h2⟩ := h
    obtain ⟨a, b, c, rfl⟩ := len3 h1
    have f0 := h2 _ (List.mem_cons_self ..)
    have f1 := h2 _ (List.mem_cons_of_mem _ (List.mem_cons_self ..))
    have f2 := h2 _ (List.mem_cons_of_mem _ (List.mem_cons_of_mem _ (List.mem_cons_self ..)))
    simp only [cells22, cells28] at f0 f1 f2
    obtain ⟨xs, e0, p0, l0⟩ := dec_slice (cs := [a]) Try.underlying22 cells9 bytes9 f0 (fun k cs h => dec_string h)
    obtain ⟨ys, e1, p1, l1⟩ := dec_slice (cs := [b]) Try.underlying22 cells9 bytes9 f1 (fun k cs h => dec_string h)
    obtain ⟨zs, e2, p2, l2⟩ := dec_slice (cs := [c]) Try.underlying28 cells65 bytes65 f2 (fun k cs h => dec_bit h)
    cases e0; cases e1; cases e2
    exact ⟨(xs, ys, zs), rfl, p0, p1, p2, by simp only; omega, by simp only; omega, by simp only; omega⟩
end Go.Proofs.Ytbpamlphacpkeaa
