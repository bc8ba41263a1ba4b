/- Printed walks (gen.py, gates_ann.py): part 112. -/
import Derived.Test.YtbpamlphacpkeaaW111
import Derived.Test.YtbpamlphacpkeaaFacts
set_option linter.unusedVariables false
set_option linter.unusedSimpArgs false
set_option maxRecDepth 20000
set_option maxHeartbeats 40000000
namespace Go.Proofs.Ytbpamlphacpkeaa
open Go

theorem q_clonep (l : List (ByteArray × Int)) (hl : l.length * 24 ≤ 140737488355328) : AC Try.prog 78 [.list 2 (l.map encP)] ([]) (fun r σ' => ∃ ver, r = .ret (.slice 0 ver 0 l.length) ∧ σ' = [(0, ver, .row 2 (l.map encP))]) := by
 refine ac_enter 8 Try.func78 rfl rfl (by simp) ?_
 refine aw_seq ?_
 refine aw_region ?_
 refine al_op (op_assign rfl) rfl (by simp) ?_
 refine al_nil ?_
 refine aw_seq ?_
 refine aw_seq ?_
 refine aw_region ?_
 refine al_op (op_move rfl) rfl (by simp) ?_
 (refine al_opR (op_snil Try.underlying25 rfl rfl) rfl (by simp) ?_; rintro _ _ ⟨⟨b4, rfl, hb4⟩, rfl⟩)
 refine al_nil ?_
 refine aw_cond rfl (fun h1 => ?_) (fun h1 => ?_)
 ·have gh1 := h1
  try simp only [nrm] at h1
  refine aw_seq ?_
  refine aw_region ?_
  refine al_op (op_assign rfl) rfl (by simp) ?_
  refine al_nil ?_
  refine aw_own_map encP 0 2 2 rfl rfl (fun ver2 => ?_)
  refine aw_ret ?_
  refine ⟨_, res_1 rfl rfl, ?_⟩
  have hl0 : l = [] := by simpa using hb4 gh1
  subst hl0
  exact ⟨ver2, rfl, rfl⟩
 ·have gh1 := h1
  try simp only [nrm] at h1
  refine aw_skip ?_
  refine aw_seq ?_
  refine aw_region ?_
  refine al_op (op_build_nil Try.underlying25 info69 rfl rfl (by decide) rfl) rfl (by simp) ?_
  refine al_op (op_move rfl) rfl (by simp) ?_
  (refine al_opR (op_append_new 0 Try.underlying25 Try.underlying25 rfl info69 rfl rfl (by decide) rfl rfl rfl (by first | exact .list _ | exact .vnil | exact .nil | exact .row _ _ _ _ rfl (by first | rfl | simp)) rfl (by first | omega | (simp; done) | (simp; omega)) (by show _ * 24 ≤ _; first | omega | (simp; done) | (simp; omega))) rfl (by simp) ?_; rintro _ _ ⟨ver7, rfl, rfl⟩)
  refine al_op (op_assign rfl) rfl (by simp) ?_
  refine al_nil ?_
  refine aw_ret ?_
  refine ⟨_, res_1 rfl rfl, ?_⟩
  exact ⟨ver7, rfl, rfl⟩
theorem clonep_own {σ : Store} (nid : Nat) (l : List (ByteArray × Int)) (hl : l.length * 24 ≤ 140737488355328) (ht : tabOK [nid] = true) (hb : σ.below 1000 = true) (hf : Store.free [nid] [] σ = true) : AC Try.prog 78 [.list 2 (l.map encP)] σ (fun x σ' => ∃ ver, x = .ret (.slice nid ver 0 l.length) ∧ σ' = σ.put nid ver (.row 2 (l.map encP))) := by
  have := ac_at (σ := σ) [nid] ht (q_clonep l hl) trivial hf hb (by rintro r σ' _ j _; rfl)
  refine ac_mono this ?_
  rintro x σ' ⟨_, _, ⟨ver, rfl, rfl⟩, rfl, rfl⟩
  refine ⟨ver, rfl, ?_⟩
  have e2 : (AObj.row 2 (l.map encP)).rn (tab [nid]) = .row 2 (l.map encP) := by show AObj.row 2 _ = _; rw [rn_rows (fun _ => rfl)]
  simp only [Store.putAll, e2]
  rfl

theorem q_to (v0 : Nat) (made : List Int) (l : Int) (h0 : 0 ≤ l) (hl : (l / 2).toNat < made.length) (hml : made.length ≤ 100000) (hm : ∀ x ∈ made, 0 ≤ x ∧ x ≤ 100000) : AC Try.prog 95 [.v (.int .i64 (l)), .ptr 0 v0 0 0] ([(0, v0, .row 1 [[.list 1 (made.map encI)]])]) (fun r σ' => r = .ret (.v (.int .i64 (nowV made l))) ∧ σ' = [(0, v0, .row 1 [[.list 1 (made.map encI)]])]) := by
 have hx := hm _ (getD_mem hl)
 refine ac_enter 12 Try.func95 rfl rfl (by simp) ?_
 refine aw_seq ?_
 refine aw_region ?_
 refine al_op (op_assign rfl) rfl (by simp) ?_
 refine al_nil ?_
 refine aw_seq ?_
 refine aw_region ?_
 refine al_op (op_load_ptr Try.underlying54 info54 rfl rfl rfl rfl) rfl (by simp) ?_
 refine al_op (op_move rfl) rfl (by simp) ?_
 refine al_op (op_quo rfl rfl (by omega) (quo_nn (by omega) (by omega) (by omega))) rfl (by simp) ?_
 refine al_op (op_index_map default Try.underlying54 info3 rfl rfl rfl (by first | (with_reducible exact Int.toNat_natCast _) | rfl) (by omega) (by omega)) rfl (by simp) ?_
 refine al_op (op_load_rptr Try.underlying3 info3 rfl rfl) rfl (by simp) ?_
 refine al_op (op_move rfl) rfl (by simp) ?_
 refine al_op (op_bitand rfl rfl (and_one _)) rfl (by simp) ?_
 refine al_op (op_bitxor rfl rfl (xor_bit (by omega) (by omega) (by omega))) rfl (by simp) ?_
 refine al_op (op_assign rfl) rfl (by simp) ?_
 refine al_nil ?_
 refine aw_ret ?_
 refine ⟨_, res_1 rfl rfl, ?_⟩
 rw [nowV, Nat.zero_add]; exact ⟨rfl, rfl⟩
theorem to_at {σ : Store} (c v0 : Nat) (made : List Int) (l : Int) (h0 : 0 ≤ l) (hl : (l / 2).toNat < made.length) (hml : made.length ≤ 100000) (hm : ∀ x ∈ made, 0 ≤ x ∧ x ≤ 100000) (ht : tabOK [c] = true) (hb : σ.below 1000 = true) (h1 : σ.get c = some (v0, .row 1 [[.list 1 (made.map encI)]])) :
    AC Try.prog 95 [.v (.int .i64 (l)), .ptr c v0 0 0] σ (fun r σ' => r = .ret (.v (.int .i64 (nowV made l))) ∧ σ' = σ) := by
  have hm2 : Store.match (tab [c]) σ [(0, v0, .row 1 [[.list 1 (made.map encI)]])] := ⟨h1, trivial⟩
  have hf : Store.free [c] [(0, v0, .row 1 [[.list 1 (made.map encI)]])] σ = true := by simp [Store.free, Store.get, List.range_succ]
  exact ac_ro [c] ht (q_to v0 made l h0 hl hml hm) hm2 hf hb
end Go.Proofs.Ytbpamlphacpkeaa
