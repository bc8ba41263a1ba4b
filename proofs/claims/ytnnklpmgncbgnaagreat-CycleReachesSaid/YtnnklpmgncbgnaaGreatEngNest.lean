/- The engine, part 27: a store with a row of objects whose number is not fixed. -/
import Derived.Test.YtnnklpmgncbgnaaGreatEngZ
set_option linter.unusedVariables false
set_option linter.unusedSimpArgs false
namespace Go.Proofs.YtnnklpmgncbgnaaGreat
open Go

theorem Store.get_append : ∀ (σ τ : Store) (id : Nat), (σ ++ τ : Store).get id = match σ.get id with | some x => some x | none => τ.get id
  | [], τ, id => rfl
  | (i, x) :: r, τ, id => by
    show Store.get ((i, x) :: (r ++ τ)) id = _
    simp only [Store.get]
    cases Nat.beq i id with
    | true => rfl
    | false => exact Store.get_append r τ id
theorem Store.get_left {σ τ : Store} {id : Nat} {x : Nat × AObj} (h : σ.get id = some x) : (σ ++ τ : Store).get id = some x := by rw [Store.get_append, h]
theorem Store.get_right {σ τ : Store} {id : Nat} (h : σ.get id = none) : (σ ++ τ : Store).get id = τ.get id := by rw [Store.get_append, h]
theorem Store.put_left : ∀ {σ τ : Store} {id v : Nat} {o : AObj} {x : Nat × AObj}, σ.get id = some x → (σ ++ τ : Store).put id v o = σ.put id v o ++ τ
  | [], τ, id, v, o, x, h => by cases h
  | (i, y) :: r, τ, id, v, o, x, h => by
    show Store.put ((i, y) :: (r ++ τ)) id v o = _
    simp only [Store.put]
    simp only [Store.get] at h
    cases hb : Nat.beq i id with
    | true => rfl
    | false =>
      rw [hb] at h
      show (i, y) :: Store.put (r ++ τ) id v o = (i, y) :: (Store.put r id v o ++ τ)
      rw [Store.put_left (σ := r) h]
theorem Store.put_right : ∀ {σ τ : Store} {id v : Nat} {o : AObj}, σ.get id = none → (σ ++ τ : Store).put id v o = σ ++ τ.put id v o
  | [], τ, id, v, o, h => rfl
  | (i, y) :: r, τ, id, v, o, h => by
    show Store.put ((i, y) :: (r ++ τ)) id v o = _
    simp only [Store.put]
    simp only [Store.get] at h
    cases hb : Nat.beq i id with
    | true => rw [hb] at h; cases h
    | false =>
      rw [hb] at h
      show (i, y) :: Store.put (r ++ τ) id v o = (i, y) :: (r ++ τ.put id v o)
      rw [Store.put_right (σ := r) h]
/-- Objects b, b + 1 and so on. -/
def nest (b m : Nat) (o : Nat → Nat × AObj) : Store := (List.range m).map fun k => (b + k, o k)
theorem nest_succ (b m : Nat) (o : Nat → Nat × AObj) : nest b (m + 1) o = nest b m o ++ [(b + m, o m)] := by simp [nest, List.range_succ]
theorem nest_congr {b m : Nat} {o p : Nat → Nat × AObj} (h : ∀ k, k < m → o k = p k) : nest b m o = nest b m p :=
  List.map_congr_left fun k hk => by rw [h k (List.mem_range.1 hk)]
theorem nest_out {b : Nat} : ∀ {m : Nat} {o : Nat → Nat × AObj} {id : Nat}, (id < b ∨ b + m ≤ id) → (nest b m o).get id = none
  | 0, o, id, h => rfl
  | m + 1, o, id, h => by
    rw [nest_succ, Store.get_right (nest_out (by omega))]
    simp only [Store.get]
    rw [nat_beq_false.2 (by omega)]
theorem nest_at {b : Nat} : ∀ {m : Nat} {o : Nat → Nat × AObj} {i : Nat}, i < m → (nest b m o).get (b + i) = some (o i)
  | 0, o, i, h => by omega
  | m + 1, o, i, h => by
    rw [nest_succ]
    by_cases e : i = m
    · subst e
      rw [Store.get_right (nest_out (by omega))]
      simp only [Store.get]
      rw [nat_beq_true.2 rfl]
    · exact Store.get_left (nest_at (by omega))
theorem nest_put {b : Nat} : ∀ {m : Nat} {o : Nat → Nat × AObj} {i v : Nat} {ob : AObj}, i < m → (nest b m o).put (b + i) v ob = nest b m (fun k => if k = i then (v, ob) else o k)
  | 0, o, i, v, ob, h => by omega
  | m + 1, o, i, v, ob, h => by
    rw [nest_succ, nest_succ]
    by_cases e : i = m
    · subst e
      rw [Store.put_right (nest_out (by omega)), if_pos rfl, nest_congr (o := o) (p := fun k => if k = i then (v, ob) else o k) (fun k hk => by rw [if_neg (by omega)])]
      simp only [Store.put]
      rw [nat_beq_true.2 rfl]
    · rw [Store.put_left (nest_at (by omega)), nest_put (by omega), if_neg (by omega)]
theorem nest_new {b m : Nat} {o : Nat → Nat × AObj} {v : Nat} {ob : AObj} : (nest b m o).put (b + m) v ob = nest b (m + 1) (fun k => if k = m then (v, ob) else o k) := by
  have h0 : ∀ (σ : Store) (id : Nat), σ.get id = none → σ.put id v ob = σ ++ [(id, v, ob)] := by
    intro σ id h
    have := Store.put_right (σ := σ) (τ := []) (id := id) (v := v) (o := ob) h
    rw [List.append_nil] at this
    exact this
  rw [h0 _ _ (nest_out (by omega)), nest_succ, if_pos rfl]
  rw [nest_congr (o := o) (p := fun k => if k = m then (v, ob) else o k) (fun k hk => by rw [if_neg (by omega)])]
/-! The low bits of words. -/
theorem low_one {x k : Nat} (h : x / 2 ^ k % 2 = 1) : x % 2 ^ (k + 1) = x % 2 ^ k ||| (1 <<< k) := by
  rw [Nat.or_comm, ← Nat.shiftLeft_add_eq_or_of_lt (Nat.mod_lt _ (Nat.two_pow_pos k)), Nat.shiftLeft_eq, Nat.mod_pow_succ, h]
  omega
theorem low_zero {x k : Nat} (h : x / 2 ^ k % 2 = 0) : x % 2 ^ (k + 1) = x % 2 ^ k := by
  rw [Nat.mod_pow_succ, h]
  omega
end Go.Proofs.YtnnklpmgncbgnaaGreat
