/- Writing in plain Lean: shapes, tokens, depth, sameness, names, parts. -/
import Derived.Test.YtcgdlhkiecommaaGreatDoorXRead
set_option linter.unusedVariables false
set_option linter.all false
namespace Go.Proofs.YtcgdlhkiecommaaGreatDoor
open Go
/-! ### Induction over trees -/
theorem Ex.sz_kid {e k : Ex} (h : k ∈ e.kids) : SizeOf.sizeOf k < SizeOf.sizeOf e := by
  cases e
  have := List.sizeOf_lt_of_mem h
  simp only [Ex.kids] at this
  simp only [Ex.mk.sizeOf_spec]
  omega
theorem Ex.ind {p : Ex → Prop} (h : ∀ e, (∀ k ∈ e.kids, p k) → p e) (e : Ex) : p e :=
  h e (fun k hk => Ex.ind h k)
termination_by SizeOf.sizeOf e
decreasing_by exact Ex.sz_kid hk
theorem Va.sz_kid {e k : Va} (h : k ∈ e.list) : SizeOf.sizeOf k < SizeOf.sizeOf e := by
  cases e
  have := List.sizeOf_lt_of_mem h
  simp only [Va.list] at this
  simp only [Va.mk.sizeOf_spec]
  omega
theorem Va.ind {p : Va → Prop} (h : ∀ e, (∀ k ∈ e.list, p k) → p e) (e : Va) : p e :=
  h e (fun k hk => Va.ind h k)
termination_by SizeOf.sizeOf e
decreasing_by exact Va.sz_kid hk
theorem Ty.sz_kid {e k : Ty} (h : k ∈ e.elem) : SizeOf.sizeOf k < SizeOf.sizeOf e := by
  cases e
  have := List.sizeOf_lt_of_mem h
  simp only [Ty.elem] at this
  simp only [Ty.mk.sizeOf_spec]
  omega
theorem Ty.ind {p : Ty → Prop} (h : ∀ e, (∀ k ∈ e.elem, p k) → p e) (e : Ty) : p e :=
  h e (fun k hk => Ty.ind h k)
termination_by SizeOf.sizeOf e
decreasing_by exact Ty.sz_kid hk
theorem Tr.sz_kid {e k : Tr} (h : k ∈ e.elem) : SizeOf.sizeOf k < SizeOf.sizeOf e := by
  cases e
  have := List.sizeOf_lt_of_mem h
  simp only [Tr.elem] at this
  simp only [Tr.mk.sizeOf_spec]
  omega
theorem Tr.ind {p : Tr → Prop} (h : ∀ e, (∀ k ∈ e.elem, p k) → p e) (e : Tr) : p e :=
  h e (fun k hk => Tr.ind h k)
termination_by SizeOf.sizeOf e
decreasing_by exact Tr.sz_kid hk
/-! ### Sameness -/
mutual
def sameV : Va → Va → Bool
  | .mk k n b l, w => k == w.kind && (n == w.n && (b == w.bits && sameVs l w.list))
def sameVs : List Va → List Va → Bool
  | [], [] => true
  | v :: r, w :: s => sameV v w && sameVs r s
  | _, _ => false
end
mutual
def sameT : Ty → Ty → Bool
  | .mk k l s ns e, u => k == u.kind && (l == u.len && (s == u.name && (ns == u.names && sameTs e u.elem)))
def sameTs : List Ty → List Ty → Bool
  | [], [] => true
  | v :: r, w :: s => sameT v w && sameTs r s
  | _, _ => false
end
mutual
def sameE : Ex → Ex → Bool
  | .mk o s n b v k t _ _, u => o == u.op && (s == u.name && (n == u.n && (b == u.bits && (sameV v u.val && (sameT t u.type && sameEs k u.kids)))))
def sameEs : List Ex → List Ex → Bool
  | [], [] => true
  | v :: r, w :: s => sameE v w && sameEs r s
  | _, _ => false
end
theorem sameV_eq (v w : Va) : sameV v w = (v.kind == w.kind && (v.n == w.n && (v.bits == w.bits && sameVs v.list w.list))) := by cases v; rfl
theorem sameT_eq (t u : Ty) : sameT t u = (t.kind == u.kind && (t.len == u.len && (t.name == u.name && (t.names == u.names && sameTs t.elem u.elem)))) := by cases t; rfl
theorem sameE_eq (a b : Ex) : sameE a b = (a.op == b.op && (a.name == b.name && (a.n == b.n && (a.bits == b.bits && (sameV a.val b.val && (sameT a.type b.type && sameEs a.kids b.kids)))))) := by cases a; rfl
/-- Two lists, one by one. -/
def allSame {α : Type} (f : α → α → Bool) : List α → List α → Bool
  | [], [] => true
  | v :: r, w :: s => f v w && allSame f r s
  | _, _ => false
theorem sameVs_all : sameVs = allSame sameV := by
  funext a
  induction a with
  | nil => funext b; cases b <;> simp [sameVs, allSame]
  | cons x a ih => funext b; cases b <;> simp [sameVs, allSame, ih]
theorem sameTs_all : sameTs = allSame sameT := by
  funext a
  induction a with
  | nil => funext b; cases b <;> simp [sameTs, allSame]
  | cons x a ih => funext b; cases b <;> simp [sameTs, allSame, ih]
theorem sameEs_all : sameEs = allSame sameE := by
  funext a
  induction a with
  | nil => funext b; cases b <;> simp [sameEs, allSame]
  | cons x a ih => funext b; cases b <;> simp [sameEs, allSame, ih]
section
variable {α : Type} [Inhabited α] {f : α → α → Bool}
theorem allSame_len {a b : List α} (h : allSame f a b = true) : a.length = b.length := by
  induction a generalizing b with
  | nil => cases b <;> simp_all [allSame]
  | cons x a ih =>
    cases b with
    | nil => simp [allSame] at h
    | cons y b => simp only [allSame, Bool.and_eq_true] at h; simp [ih h.2]
theorem allSame_iff {a b : List α} (hl : a.length = b.length) : allSame f a b = true ↔ ∀ i, i < a.length → f (a.getD i default) (b.getD i default) = true := by
  induction a generalizing b with
  | nil => cases b <;> simp_all [allSame]
  | cons x a ih =>
    cases b with
    | nil => simp at hl
    | cons y b =>
      simp only [allSame, Bool.and_eq_true, ih (by simpa using hl : a.length = b.length)]
      constructor
      · rintro ⟨h1, h2⟩ i hi
        cases i with
        | zero => simpa using h1
        | succ i => simpa using h2 i (by simpa using hi)
      · intro h
        exact ⟨by simpa using h 0 (by simp), fun i hi => by simpa using h (i + 1) (by simpa using hi)⟩
theorem allSame_ne {a b : List α} (hl : a.length ≠ b.length) : allSame f a b = false := by
  cases h : allSame f a b with
  | false => rfl
  | true => exact absurd (allSame_len h) hl
theorem allSame_no {a b : List α} (i : Nat) (hi : i < a.length) (hb : i < b.length) (h : f (a.getD i default) (b.getD i default) = false) : allSame f a b = false := by
  cases h2 : allSame f a b with
  | false => rfl
  | true => rw [(allSame_iff (allSame_len h2)).1 h2 i hi] at h; cases h
theorem allSame_self {a : List α} (h : ∀ x ∈ a, f x x = true) : allSame f a a = true := by
  induction a with
  | nil => rfl
  | cons x a ih => simp only [allSame, Bool.and_eq_true]; exact ⟨h x (by simp), ih fun y hy => h y (by simp [hy])⟩
theorem allSame_comm {a b : List α} (h : ∀ x ∈ a, ∀ y, f x y = f y x) : allSame f a b = allSame f b a := by
  induction a generalizing b with
  | nil => cases b <;> rfl
  | cons x a ih =>
    cases b with
    | nil => rfl
    | cons y b => simp only [allSame]; rw [h x (by simp), ih fun z hz => h z (by simp [hz])]
end
theorem sameV_self (v : Va) : sameV v v = true := by
  induction v using Va.ind with
  | h v ih => rw [sameV_eq, sameVs_all, allSame_self ih]; simp
theorem sameT_self (v : Ty) : sameT v v = true := by
  induction v using Ty.ind with
  | h v ih => rw [sameT_eq, sameTs_all, allSame_self ih]; simp
theorem sameE_self (v : Ex) : sameE v v = true := by
  induction v using Ex.ind with
  | h v ih => rw [sameE_eq, sameEs_all, allSame_self ih, sameV_self, sameT_self]; simp
theorem beq_comm' {α : Type} [BEq α] [LawfulBEq α] (a b : α) : (a == b) = (b == a) := BEq.comm
theorem sameV_comm (v : Va) : ∀ w, sameV v w = sameV w v := by
  induction v using Va.ind with
  | h v ih => intro w; rw [sameV_eq, sameV_eq w, sameVs_all, allSame_comm ih, beq_comm' v.kind, beq_comm' v.n, beq_comm' v.bits]
theorem sameT_comm (v : Ty) : ∀ w, sameT v w = sameT w v := by
  induction v using Ty.ind with
  | h v ih => intro w; rw [sameT_eq, sameT_eq w, sameTs_all, allSame_comm ih, beq_comm' v.kind, beq_comm' v.len, beq_comm' v.name, beq_comm' v.names]
theorem sameE_comm (v : Ex) : ∀ w, sameE v w = sameE w v := by
  induction v using Ex.ind with
  | h v ih => intro w; rw [sameE_eq, sameE_eq w, sameEs_all, allSame_comm ih, beq_comm' v.op, beq_comm' v.name, beq_comm' v.n, beq_comm' v.bits, sameV_comm v.val, sameT_comm v.type]
end Go.Proofs.YtcgdlhkiecommaaGreatDoor
