/- Maps with numbers as keys. -/
import Derived.Test.YtnnklpmgncbgnaaGreatCNum
import Derived.Test.YtnnklpmgncbgnaaGreatEngW
set_option linter.unusedVariables false
set_option linter.unusedSimpArgs false
namespace Go.Proofs.YtnnklpmgncbgnaaGreat
open Go

def kKey (x : Nat) : Value := .int .i64 (x : Int)
def kEnts {β : Type} (g : β → AVal) (m : List (Nat × β)) : List (Value × AVal) := m.map fun e => (kKey e.1, g e.2)
def kFind {β : Type} (x : Nat) : List (Nat × β) → Option β
  | [] => none
  | e :: r => if x = e.1 then some e.2 else kFind x r
theorem keyEq_k (a b : Nat) : keyEq (kKey a) (kKey b) = decide (a = b) := by
  have e : keyEq (kKey a) (kKey b) = ((a : Int) == (b : Int)) := by simp [kKey, keyEq, keyEq1]
  rw [e, Bool.eq_iff_iff, beq_iff_eq, decide_eq_true_eq]
  omega
theorem mapFind_k {β : Type} (g : β → AVal) (x : Nat) : ∀ m : List (Nat × β), mapFind (kKey x) (kEnts g m) = (kFind x m).map g
  | [] => rfl
  | e :: r => by
    have h : mapFind (kKey x) (kEnts g (e :: r)) = if keyEq (kKey x) (kKey e.1) then some (g e.2) else mapFind (kKey x) (kEnts g r) := rfl
    rw [h, keyEq_k, mapFind_k g x r, kFind]
    by_cases hx : x = e.1
    · rw [if_pos hx, decide_eq_true hx]; rfl
    · rw [if_neg hx, decide_eq_false hx]; rfl
theorem mapPut_k {β : Type} (g : β → AVal) (x : Nat) (b : β) : ∀ m : List (Nat × β), kFind x m = none → mapPut (kKey x) (g b) (kEnts g m) = kEnts g (m ++ [(x, b)])
  | [], _ => rfl
  | e :: r, h => by
    rw [kFind] at h
    have hx : ¬ x = e.1 := fun hx => by rw [if_pos hx] at h; cases h
    rw [if_neg hx] at h
    have h2 : mapPut (kKey x) (g b) (kEnts g (e :: r)) = if keyEq (kKey x) (kKey e.1) then (kKey e.1, g b) :: kEnts g r else (kKey e.1, g e.2) :: mapPut (kKey x) (g b) (kEnts g r) := rfl
    rw [h2, keyEq_k, decide_eq_false hx, mapPut_k g x b r h]
    rfl
theorem kFind_some {β : Type} {x : Nat} {b : β} : ∀ {m : List (Nat × β)}, kFind x m = some b → (x, b) ∈ m
  | e :: r, h => by
    rw [kFind] at h
    by_cases hx : x = e.1
    · rw [if_pos hx] at h; cases h; subst hx; simp
    · rw [if_neg hx] at h; exact List.mem_cons_of_mem _ (kFind_some h)
theorem kFind_none {β : Type} {x : Nat} : ∀ {m : List (Nat × β)}, kFind x m = none ↔ x ∉ m.map (·.1)
  | [] => by simp [kFind]
  | e :: r => by
    rw [kFind, List.map_cons, List.mem_cons, not_or]
    by_cases hx : x = e.1
    · rw [if_pos hx]; simp [hx]
    · rw [if_neg hx, kFind_none]; simp [hx]
section
variable {P : Program} {σ : Store} {E : Operand → Option AVal} {d : Option Tmp} {ty : TypeId} {pos : String} {after : Array Edge} {guard : Option (Nat × Bool)}
variable {β : Type} {g : β → AVal} {m : List (Nat × β)} {x y u : Operand} {t kt et id ver : Nat} {ka a : AVal}
theorem k_keys : ∀ e ∈ kEnts g m, ∃ n, e.1 = .int .i64 n := by
  intro e he
  obtain ⟨q, _, rfl⟩ := List.mem_map.1 he
  exact ⟨_, rfl⟩
theorem op_lookup_k {z : AVal} {zv : Value} {inf : TypeInfo} (k : Nat) (ht : P.underlying t = some (.map kt et)) (hkt : P.underlying kt = some (.int .i64)) (hi : P.info? et = some inf) (hz : inf.zero = some zv) (hzz : z = (match zv with | .agg cs => .agg (cs.toList.map .v) | v => .v v))
    (hx : E x = some (.map id ver)) (hid : σ.get id = some (ver, .map (kEnts g m))) (hy : E y = some ka) (hk : concOf ka = some (kKey k)) :
    OpTo P ⟨d, .lookup t x y true, ty, pos, after, guard⟩ E σ (.tuple [((kFind k m).map g).getD z, .v (.bool (kFind k m).isSome)]) σ := by
  have := op_lookup_ok (P := P) (E := E) (σ := σ) (d := d) (ty := ty) (pos := pos) (after := after) (guard := guard) (x := x) (y := y) (a := ((kFind k m).map g).getD z) ht (keyLaw_int hkt) hi hz hzz hx hid hy hk ⟨_, rfl⟩ k_keys (by rw [mapFind_k])
  rw [mapFind_k, Option.isSome_map] at this
  exact this
theorem op_update_k (k : Nat) (b : β) (ht : P.underlying t = some (.map kt et)) (hkt : P.underlying kt = some (.int .i64))
    (hx : E x = some (.map id ver)) (hid : σ.get id = some (ver, .map (kEnts g m))) (hy : E y = some ka) (hk : concOf ka = some (kKey k)) (hu : E u = some a) (ha : a = g b) (hfl : a.flat = true) (hnew : kFind k m = none) :
    OpTo P ⟨d, .mapUpdate t x y u, ty, pos, after, guard⟩ E σ (.v undef) (σ.put id ver (.map (kEnts g (m ++ [(k, b)])))) := by
  subst ha
  have := op_mapUpdate (P := P) (E := E) (σ := σ) (d := d) (ty := ty) (pos := pos) (after := after) (guard := guard) (x := x) (y := y) (u := u) ht (keyLaw_int hkt) hx hid hy hk ⟨_, rfl⟩ k_keys hu hfl
  rw [mapPut_k g k b m hnew] at this
  exact this
theorem op_insert_k (k : Nat) (b : β) (ht : P.underlying t = some (.map kt et)) (hkt : P.underlying kt = some (.int .i64))
    (hx : E x = some (.map id ver)) (hid : σ.get id = some (ver, .map [])) (hy : E y = some ka) (hk : concOf ka = some (kKey k)) (hu : E u = some a) (ha : a = g b) (hfl : a.flat = true) :
    OpTo P ⟨d, .insert t x y u, ty, pos, after, guard⟩ E σ (.v undef) (σ.put id ver (.map (kEnts g [(k, b)]))) := by
  subst ha
  exact op_insert (P := P) (E := E) (σ := σ) (d := d) (ty := ty) (pos := pos) (after := after) (guard := guard) (x := x) (y := y) (u := u) ht (keyLaw_int hkt) hx hid hy hk ⟨_, rfl⟩ (by simp) hu hfl
end
end Go.Proofs.YtnnklpmgncbgnaaGreat
