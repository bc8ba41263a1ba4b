/- Printed walks (gen.py, gates_ann.py): part 133. -/
import Derived.Test.YtbpamlphacpkeaaW90
import Derived.Test.YtbpamlphacpkeaaFacts
set_option linter.unusedVariables false
set_option linter.unusedSimpArgs false
set_option maxRecDepth 20000
set_option maxHeartbeats 40000000
namespace Go.Proofs.Ytbpamlphacpkeaa
open Go

theorem q_cloneN_S (l : List ByteArray) (hl : l.length * 16 ≤ 140737488355328) : AC Try.prog 70 [.list 1 (l.map encS)] ([]) (fun r σ' => ∃ ver, r = .ret (.slice 0 ver 0 l.length) ∧ σ' = [(0, ver, .row 1 (l.map encS))]) := by
 refine ac_enter 8 Try.func70 rfl rfl (by simp) ?_
 refine aw_seq ?_
 refine aw_region ?_
 refine al_op (op_assign rfl) rfl (by simp) ?_
 refine al_nil ?_
 refine aw_seq ?_
 refine aw_seq ?_
 refine aw_region ?_
 refine al_op (op_move rfl) rfl (by simp) ?_
 (refine al_opR (op_snil Try.underlying22 rfl rfl) rfl (by simp) ?_; rintro _ _ ⟨⟨b4, rfl, hb4⟩, rfl⟩)
 refine al_nil ?_
 refine aw_cond rfl (fun h1 => ?_) (fun h1 => ?_)
 ·have gh1 := h1
  try simp only [nrm] at h1
  refine aw_seq ?_
  refine aw_region ?_
  refine al_op (op_assign rfl) rfl (by simp) ?_
  refine al_nil ?_
  refine aw_own_map encS 0 1 2 rfl rfl (fun ver2 => ?_)
  refine aw_ret ?_
  refine ⟨_, res_1 rfl rfl, ?_⟩
  have hl0 : l = [] := by simpa using hb4 gh1
  subst hl0
  exact ⟨ver2, rfl, rfl⟩
 ·have gh1 := h1
  try simp only [nrm] at h1
  refine aw_skip ?_
  refine aw_seq ?_
  refine aw_region ?_
  (refine al_opR (op_list_own encS ([] : List ByteArray) 0 Try.underlying22 info9 rfl rfl (by decide) rfl (by decide) rfl (by first | rfl | (repeat (first | exact parts_nil | refine parts_cons rfl (by repeat (first | exact all_live_nil | refine all_live_clo rfl ?_ | refine all_live_slice rfl ?_ | refine all_live_map rfl ?_ | refine all_live_ptr rfl ?_)) ?_))) rfl rfl (by first | rfl | (repeat (first | exact parts_nil | refine parts_cons rfl (by repeat (first | exact all_live_nil | refine all_live_clo rfl ?_ | refine all_live_slice rfl ?_ | refine all_live_map rfl ?_ | refine all_live_ptr rfl ?_)) ?_))) rfl rfl) rfl (by simp) ?_; rintro _ _ ⟨ver5, rfl, rfl⟩)
  refine al_op (op_move rfl) rfl (by simp) ?_
  (refine al_opR (op_append_map Try.underlying22 Try.underlying22 rfl info9 rfl rfl (by decide) rfl rfl rfl (by first | rfl | simp) rfl (by first | exact .list _ | exact .vnil | exact .nil | exact .row _ _ _ _ rfl (by first | rfl | simp)) rfl (by first | omega | (simp; done) | (simp; omega)) (by show _ * 16 ≤ _; first | omega | (simp; done) | (simp; omega))) rfl (by simp) ?_; rintro _ _ ⟨ver7, rfl, rfl⟩)
  refine al_op (op_assign rfl) rfl (by simp) ?_
  refine al_nil ?_
  refine aw_ret ?_
  refine ⟨_, res_1 rfl rfl, ?_⟩
  exact ⟨ver7, rfl, rfl⟩
theorem cloneN_S {σ : Store} (n : Nat) (l : List ByteArray) (hl : l.length * 16 ≤ 140737488355328) (ht : tabOK [n] = true) (hb : σ.below 1000 = true) (h1 : σ.get n = none) :
    AC Try.prog 70 [.list 1 (l.map encS)] σ (fun x σ' => ∃ ver, x = .ret (.slice n ver 0 l.length) ∧ σ' = σ.put n ver (.row 1 (l.map encS))) := by
  have hf : Store.free [n] [] σ = true := by simp [Store.free, Store.get, List.range_succ, tab, h1]
  have := ac_at (σ := σ) [n] ht (q_cloneN_S l hl) trivial hf hb (by rintro r σ' _ j _; rfl)
  refine ac_mono this ?_
  rintro x σ' ⟨_, _, ⟨ver, rfl, rfl⟩, rfl, rfl⟩
  refine ⟨ver, rfl, ?_⟩
  have e4 : (AObj.row 1 (l.map encS)).rn (tab [n]) = .row 1 (l.map encS) := by show AObj.row 1 _ = _; rw [rn_rows (fun _ => rfl)]
  simp only [Store.putAll, e4]
  rfl

theorem q_cloneN_P (l : List (ByteArray × Int)) (hl : l.length * 24 ≤ 140737488355328) : AC Try.prog 78 [.list 2 (l.map encP)] ([]) (fun r σ' => ∃ ver, r = .ret (.slice 0 ver 0 l.length) ∧ σ' = [(0, ver, .row 2 (l.map encP))]) := by
 refine ac_enter 8 Try.func78 rfl rfl (by simp) ?_
 refine aw_seq ?_
 refine aw_region ?_
 refine al_op (op_assign rfl) rfl (by simp) ?_
 refine al_nil ?_
 refine aw_seq ?_
 refine aw_seq ?_
 refine aw_region ?_
 refine al_op (op_move rfl) rfl (by simp) ?_
 (refine al_opR (op_snil Try.underlying25 rfl rfl) rfl (by simp) ?_; rintro _ _ ⟨⟨b4, rfl, hb4⟩, rfl⟩)
 refine al_nil ?_
 refine aw_cond rfl (fun h1 => ?_) (fun h1 => ?_)
 ·have gh1 := h1
  try simp only [nrm] at h1
  refine aw_seq ?_
  refine aw_region ?_
  refine al_op (op_assign rfl) rfl (by simp) ?_
  refine al_nil ?_
  refine aw_own_map encP 0 2 2 rfl rfl (fun ver2 => ?_)
  refine aw_ret ?_
  refine ⟨_, res_1 rfl rfl, ?_⟩
  have hl0 : l = [] := by simpa using hb4 gh1
  subst hl0
  exact ⟨ver2, rfl, rfl⟩
 ·have gh1 := h1
  try simp only [nrm] at h1
  refine aw_skip ?_
  refine aw_seq ?_
  refine aw_region ?_
  (refine al_opR (op_list_own encP ([] : List (ByteArray × Int)) 0 Try.underlying25 info69 rfl rfl (by decide) rfl (by decide) rfl (by first | rfl | (repeat (first | exact parts_nil | refine parts_cons rfl (by repeat (first | exact all_live_nil | refine all_live_clo rfl ?_ | refine all_live_slice rfl ?_ | refine all_live_map rfl ?_ | refine all_live_ptr rfl ?_)) ?_))) rfl rfl (by first | rfl | (repeat (first | exact parts_nil | refine parts_cons rfl (by repeat (first | exact all_live_nil | refine all_live_clo rfl ?_ | refine all_live_slice rfl ?_ | refine all_live_map rfl ?_ | refine all_live_ptr rfl ?_)) ?_))) rfl rfl) rfl (by simp) ?_; rintro _ _ ⟨ver5, rfl, rfl⟩)
  refine al_op (op_move rfl) rfl (by simp) ?_
  (refine al_opR (op_append_map Try.underlying25 Try.underlying25 rfl info69 rfl rfl (by decide) rfl rfl rfl (by first | rfl | simp) rfl (by first | exact .list _ | exact .vnil | exact .nil | exact .row _ _ _ _ rfl (by first | rfl | simp)) rfl (by first | omega | (simp; done) | (simp; omega)) (by show _ * 24 ≤ _; first | omega | (simp; done) | (simp; omega))) rfl (by simp) ?_; rintro _ _ ⟨ver7, rfl, rfl⟩)
  refine al_op (op_assign rfl) rfl (by simp) ?_
  refine al_nil ?_
  refine aw_ret ?_
  refine ⟨_, res_1 rfl rfl, ?_⟩
  exact ⟨ver7, rfl, rfl⟩
theorem cloneN_P {σ : Store} (n : Nat) (l : List (ByteArray × Int)) (hl : l.length * 24 ≤ 140737488355328) (ht : tabOK [n] = true) (hb : σ.below 1000 = true) (h1 : σ.get n = none) :
    AC Try.prog 78 [.list 2 (l.map encP)] σ (fun x σ' => ∃ ver, x = .ret (.slice n ver 0 l.length) ∧ σ' = σ.put n ver (.row 2 (l.map encP))) := by
  have hf : Store.free [n] [] σ = true := by simp [Store.free, Store.get, List.range_succ, tab, h1]
  have := ac_at (σ := σ) [n] ht (q_cloneN_P l hl) trivial hf hb (by rintro r σ' _ j _; rfl)
  refine ac_mono this ?_
  rintro x σ' ⟨_, _, ⟨ver, rfl, rfl⟩, rfl, rfl⟩
  refine ⟨ver, rfl, ?_⟩
  have e4 : (AObj.row 2 (l.map encP)).rn (tab [n]) = .row 2 (l.map encP) := by show AObj.row 2 _ = _; rw [rn_rows (fun _ => rfl)]
  simp only [Store.putAll, e4]
  rfl

theorem q_clone_ownG (v0 : Nat) (l : List (Int × Int)) (hl : l.length * 16 ≤ 140737488355328) : AC Try.prog 94 [.slice 0 v0 0 l.length] ([(0, v0, .row 2 (l.map encG))]) (fun r σ' => ∃ ver, r = .ret (.slice 1 ver 0 l.length) ∧ σ' = [(0, v0, .row 2 (l.map encG)), (1, ver, .row 2 (l.map encG))]) := by
 refine ac_enter 8 Try.func94 rfl rfl (by simp) ?_
 refine aw_seq ?_
 refine aw_region ?_
 refine al_op (op_assign rfl) rfl (by simp) ?_
 refine al_nil ?_
 refine aw_seq ?_
 refine aw_seq ?_
 refine aw_region ?_
 refine al_op (op_move rfl) rfl (by simp) ?_
 (refine al_opR (op_snil_own Try.underlying24 rfl rfl rfl) rfl (by simp) ?_; rintro _ _ ⟨⟨b4, rfl, hb4⟩, rfl⟩)
 refine al_nil ?_
 refine aw_cond rfl (fun h1 => ?_) (fun h1 => ?_)
 ·have gh1 := h1
  try simp only [nrm] at h1
  refine aw_seq ?_
  refine aw_region ?_
  refine al_op (op_assign rfl) rfl (by simp) ?_
  refine al_nil ?_
  refine aw_own_map encG 1 2 2 rfl rfl (fun ver2 => ?_)
  refine aw_ret ?_
  refine ⟨_, res_1 rfl rfl, ?_⟩
  have hl0 : l = [] := by simpa using hb4 gh1
  subst hl0
  exact ⟨ver2, rfl, rfl⟩
 ·have gh1 := h1
  try simp only [nrm] at h1
  refine aw_skip ?_
  refine aw_seq ?_
  refine aw_region ?_
  (refine al_opR (op_list_own encG ([] : List (Int × Int)) 1 Try.underlying24 info86 rfl rfl (by decide) rfl (by decide) rfl (by first | rfl | (repeat (first | exact parts_nil | refine parts_cons rfl (by repeat (first | exact all_live_nil | refine all_live_clo rfl ?_ | refine all_live_slice rfl ?_ | refine all_live_map rfl ?_ | refine all_live_ptr rfl ?_)) ?_))) rfl rfl (by first | rfl | (repeat (first | exact parts_nil | refine parts_cons rfl (by repeat (first | exact all_live_nil | refine all_live_clo rfl ?_ | refine all_live_slice rfl ?_ | refine all_live_map rfl ?_ | refine all_live_ptr rfl ?_)) ?_))) rfl rfl) rfl (by simp) ?_; rintro _ _ ⟨ver5, rfl, rfl⟩)
  refine al_op (op_move rfl) rfl (by simp) ?_
  (refine al_opR (op_append_map Try.underlying24 Try.underlying24 rfl info86 rfl rfl (by decide) rfl rfl rfl (by first | rfl | simp) rfl (by first | exact .list _ | exact .vnil | exact .nil | exact .row _ _ _ _ rfl (by first | rfl | simp)) rfl (by first | omega | (simp; done) | (simp; omega)) (by show _ * 16 ≤ _; first | omega | (simp; done) | (simp; omega))) rfl (by simp) ?_; rintro _ _ ⟨ver7, rfl, rfl⟩)
  refine al_op (op_assign rfl) rfl (by simp) ?_
  refine al_nil ?_
  refine aw_ret ?_
  refine ⟨_, res_1 rfl rfl, ?_⟩
  exact ⟨ver7, rfl, rfl⟩
theorem clone_ownG {σ : Store} (r n v0 : Nat) (l : List (Int × Int)) (hl : l.length * 16 ≤ 140737488355328) (ht : tabOK [r, n] = true) (hb : σ.below 1000 = true) (h1 : σ.get r = some (v0, .row 2 (l.map encG))) (h2 : σ.get n = none) :
    AC Try.prog 94 [.slice r v0 0 l.length] σ (fun x σ' => ∃ ver, x = .ret (.slice n ver 0 l.length) ∧ σ' = (σ.put n ver (.row 2 (l.map encG))).put r v0 (.row 2 (l.map encG))) := by
  have hf : Store.free [r, n] [(0, v0, .row 2 (l.map encG))] σ = true := by simp [Store.free, Store.get, List.range_succ, tab, h2]
  have e4 : (AObj.row 2 (l.map encG)).rn (tab [r, n]) = .row 2 (l.map encG) := by show AObj.row 2 _ = _; rw [rn_rows (fun _ => rfl)]
  have hm : Store.match (tab [r, n]) σ [(0, v0, .row 2 (l.map encG))] := ⟨by rw [e4]; exact h1, trivial⟩
  have := ac_at [r, n] ht (q_clone_ownG v0 l hl) hm hf hb (by
    rintro x σ' ⟨ver, rfl, rfl⟩ j h
    simp only [Store.get] at h ⊢
    revert h
    cases Nat.beq 0 j <;> cases Nat.beq 1 j <;> simp)
  refine ac_mono this ?_
  rintro x σ' ⟨_, _, ⟨ver, rfl, rfl⟩, rfl, rfl⟩
  refine ⟨ver, rfl, ?_⟩
  simp only [Store.putAll, e4]
  rfl

theorem q_copied_all (v0 v1 : Nat) (ins : List ByteArray) (regs : List (ByteArray × Int × Int)) (gates : List (Int × Int)) (outs : List (ByteArray × Int)) (z1 : ins.length * 16 ≤ 140737488355328) (z2 : regs.length * 32 ≤ 140737488355328) (z3 : gates.length * 16 ≤ 140737488355328) (z4 : outs.length * 24 ≤ 140737488355328) : AC Try.prog 77 [.agg [.list 1 (ins.map encS), .slice 0 v0 0 regs.length, .slice 1 v1 0 gates.length, .list 2 (outs.map encP)]] ([(0, v0, .row 3 (regs.map encR)), (1, v1, .row 2 (gates.map encG))]) (fun r σ' => ∃ vi vr vg, r = .ret (.agg [.slice 2 vi 0 ins.length, .slice 3 vr 0 regs.length, .slice 4 vg 0 gates.length, .list 2 (outs.map encP)]) ∧ σ'.keep (fun i => decide (i ≤ 4)) = [(0, v0, .row 3 (regs.map encR)), (1, v1, .row 2 (gates.map encG)), (2, vi, .row 1 (ins.map encS)), (3, vr, .row 3 (regs.map encR)), (4, vg, .row 2 (gates.map encG))]) := by
 refine ac_enter 16 Try.func77 rfl rfl (by simp) ?_
 refine aw_seq ?_
 refine aw_region ?_
 (refine al_opR (op_box 31 rfl rfl (by first | rfl | exact live_one rfl | (repeat (first | exact all_live_nil | refine all_live_clo rfl ?_ | refine all_live_slice rfl ?_ | refine all_live_map rfl ?_ | refine all_live_ptr rfl ?_)))) rfl (by simp) ?_; rintro _ _ ⟨ver1, rfl, rfl⟩)
 (refine al_opR (op_alloc 32 info27 rfl rfl) rfl (by simp) ?_; rintro _ _ ⟨ver2, rfl, rfl⟩)
 refine al_nil ?_
 refine aw_seq ?_
 refine aw_plan [0, 1, 3, 4, 6, 7, 9, 10, 2, 5, 8, 11, 12, 13] (Checked.mixed Try.checked) (by kernel_rfl) ?_
 refine afl_float rfl rfl (opk_of (op_field_ptr Try.underlying27 rfl info22 (by decide) rfl rfl rfl)) (by simp) ?_
 refine afl_float rfl rfl (opk_of (op_load_ptr Try.underlying22 info22 rfl rfl rfl rfl)) (by simp) ?_
 refine afl_float rfl rfl (opk_of (op_field_ptr Try.underlying27 rfl info23 (by decide) rfl rfl rfl)) (by simp) ?_
 refine afl_float rfl rfl (opk_of (op_load_ptr Try.underlying23 info23 rfl rfl rfl rfl)) (by simp) ?_
 refine afl_float rfl rfl (opk_of (op_field_ptr Try.underlying27 rfl info24 (by decide) rfl rfl rfl)) (by simp) ?_
 refine afl_float rfl rfl (opk_of (op_load_ptr Try.underlying24 info24 rfl rfl rfl rfl)) (by simp) ?_
 refine afl_float rfl rfl (opk_of (op_field_ptr Try.underlying27 rfl info25 (by decide) rfl rfl rfl)) (by simp) ?_
 refine afl_float rfl rfl (opk_of (op_load_ptr Try.underlying25 info25 rfl rfl rfl rfl)) (by simp) ?_
 (refine afl_call rfl (by kernel_rfl) into70 rfl rfl rfl (cloneN_S 2 ins (by omega) rfl rfl rfl) (by simp) ?_; rintro _ _ ⟨ver5, rfl, rfl⟩; refine ⟨_, rfl, ?_, ?_⟩)
 ·
  refine loose_k rfl (opk_of (op_load_ptr Try.underlying25 info25 rfl rfl rfl rfl)) ?_
  refine loose_k rfl (opk_of (op_field_ptr Try.underlying27 rfl info25 (by decide) rfl rfl rfl)) ?_
  refine loose_k rfl (opk_of (op_load_ptr Try.underlying24 info24 rfl rfl rfl rfl)) ?_
  refine loose_k rfl (opk_of (op_field_ptr Try.underlying27 rfl info24 (by decide) rfl rfl rfl)) ?_
  refine loose_k rfl (opk_of (op_load_ptr Try.underlying23 info23 rfl rfl rfl rfl)) ?_
  refine loose_k rfl (opk_of (op_field_ptr Try.underlying27 rfl info23 (by decide) rfl rfl rfl)) ?_
  refine loose_anc 1 rfl (by kernel_rfl) ?_
  refine loose_anc 0 rfl (by kernel_rfl) ?_
  exact loose_nil
 (refine afl_call rfl (by kernel_rfl) into93 rfl rfl rfl (clone_own 0 3 v0 regs (by omega) rfl rfl rfl rfl) (by simp) ?_; rintro _ _ ⟨ver8, rfl, rfl⟩; refine ⟨_, rfl, ?_, ?_⟩)
 ·
  refine loose_fix rfl ?_
  refine loose_k rfl (opk_of (op_load_ptr Try.underlying25 info25 rfl rfl rfl rfl)) ?_
  refine loose_k rfl (opk_of (op_field_ptr Try.underlying27 rfl info25 (by decide) rfl rfl rfl)) ?_
  refine loose_k rfl (opk_of (op_load_ptr Try.underlying24 info24 rfl rfl rfl rfl)) ?_
  refine loose_k rfl (opk_of (op_field_ptr Try.underlying27 rfl info24 (by decide) rfl rfl rfl)) ?_
  refine loose_anc 4 rfl (by kernel_rfl) ?_
  refine loose_anc 3 rfl (by kernel_rfl) ?_
  refine loose_anc 1 rfl (by kernel_rfl) ?_
  refine loose_anc 0 rfl (by kernel_rfl) ?_
  exact loose_nil
 (refine afl_call rfl (by kernel_rfl) into94 rfl rfl rfl (clone_ownG 1 4 v1 gates (by omega) rfl rfl rfl rfl) (by simp) ?_; rintro _ _ ⟨ver11, rfl, rfl⟩; refine ⟨_, rfl, ?_, ?_⟩)
 ·
  refine loose_fix rfl ?_
  refine loose_fix rfl ?_
  refine loose_k rfl (opk_of (op_load_ptr Try.underlying25 info25 rfl rfl rfl rfl)) ?_
  refine loose_k rfl (opk_of (op_field_ptr Try.underlying27 rfl info25 (by decide) rfl rfl rfl)) ?_
  refine loose_anc 7 rfl (by kernel_rfl) ?_
  refine loose_anc 6 rfl (by kernel_rfl) ?_
  refine loose_anc 4 rfl (by kernel_rfl) ?_
  refine loose_anc 3 rfl (by kernel_rfl) ?_
  refine loose_anc 1 rfl (by kernel_rfl) ?_
  refine loose_anc 0 rfl (by kernel_rfl) ?_
  exact loose_nil
 refine afl_float rfl rfl (opk_call into78 rfl rfl rfl (acn_lend (lend_cons (by first | exact lend_same | exact .leaf _ _ (.vnil _) | exact .leaf _ _ (.nil _) | exact lend_whole rfl (by first | rfl | (simp; done) | (simp; omega)) (clo_map (fun _ => rfl)) | exact lend_netg (by first | exact .same _ | exact lendL_vnil | exact lendL_whole rfl (by first | rfl | (simp; done) | (simp; omega)) (clo_map (fun _ => rfl))) (by first | exact .same _ | exact lendL_vnil | exact lendL_whole rfl (by first | rfl | (simp; done) | (simp; omega)) (clo_map (fun _ => rfl))) (by first | exact .same _ | exact lendL_vnil | exact lendL_whole rfl (by first | rfl | (simp; done) | (simp; omega)) (clo_map (fun _ => rfl))) (by first | exact .same _ | exact lendL_vnil | exact lendL_whole rfl (by first | rfl | (simp; done) | (simp; omega)) (clo_map (fun _ => rfl)))) lend_nil) (n_clone_P _ (by omega)))) (by simp) ?_
 refine afl_float rfl rfl (opk_of (op_build_struct Try.underlying27 info27 rfl place27 rfl (by first | rfl | (repeat (first | exact parts_nil | refine parts_cons rfl (by repeat (first | exact all_live_nil | refine all_live_clo rfl ?_ | refine all_live_slice rfl ?_ | refine all_live_map rfl ?_ | refine all_live_ptr rfl ?_)) ?_))) rfl)) (by simp) ?_
 (refine afl_eff rfl rfl (by kernel_rfl) (op_store_ptr info27 rfl rfl rfl rfl rfl rfl (by first | rfl | exact live_one rfl | (repeat (first | exact all_live_nil | refine all_live_clo rfl ?_ | refine all_live_slice rfl ?_ | refine all_live_map rfl ?_ | refine all_live_ptr rfl ?_))) (Nat.le_of_ble_eq_true rfl)) (by simp) ?_ ?_)
 ·
  refine loose_anc 12 rfl (by kernel_rfl) ?_
  refine loose_anc 11 rfl (by kernel_rfl) ?_
  refine loose_fix rfl ?_
  refine loose_fix rfl ?_
  refine loose_fix rfl ?_
  refine loose_anc 10 rfl (by kernel_rfl) ?_
  refine loose_anc 9 rfl (by kernel_rfl) ?_
  refine loose_anc 7 rfl (by kernel_rfl) ?_
  refine loose_anc 6 rfl (by kernel_rfl) ?_
  refine loose_anc 4 rfl (by kernel_rfl) ?_
  refine loose_anc 3 rfl (by kernel_rfl) ?_
  refine loose_anc 1 rfl (by kernel_rfl) ?_
  refine loose_anc 0 rfl (by kernel_rfl) ?_
  exact loose_nil
 refine afl_end ?_
 refine aw_ret ?_
 refine ⟨_, res_cell rfl Try.underlying27 info27 rfl rfl rfl rfl, ?_⟩
 exact ⟨_, _, _, rfl, rfl⟩
theorem copied_all {σ : Store} (r g i r2 g2 v0 v1 : Nat) (ins : List ByteArray) (regs : List (ByteArray × Int × Int)) (gates : List (Int × Int)) (outs : List (ByteArray × Int)) (z1 : ins.length * 16 ≤ 140737488355328) (z2 : regs.length * 32 ≤ 140737488355328) (z3 : gates.length * 16 ≤ 140737488355328) (z4 : outs.length * 24 ≤ 140737488355328) (ht : tabOK [r, g, i, r2, g2] = true) (hb : σ.below 1000 = true) (h1 : σ.get r = some (v0, .row 3 (regs.map encR))) (h2 : σ.get g = some (v1, .row 2 (gates.map encG))) (h3 : σ.get i = none) (h4 : σ.get r2 = none) (h5 : σ.get g2 = none) :
    AC Try.prog 77 [.agg [.list 1 (ins.map encS), .slice r v0 0 regs.length, .slice g v1 0 gates.length, .list 2 (outs.map encP)]] σ (fun x σ' => ∃ vi vr vg, x = .ret (.agg [.slice i vi 0 ins.length, .slice r2 vr 0 regs.length, .slice g2 vg 0 gates.length, .list 2 (outs.map encP)]) ∧ σ' = ((((σ.put g2 vg (.row 2 (gates.map encG))).put r2 vr (.row 3 (regs.map encR))).put i vi (.row 1 (ins.map encS))).put g v1 (.row 2 (gates.map encG))).put r v0 (.row 3 (regs.map encR))) := by
  have e1 : (AObj.row 1 (ins.map encS)).rn (tab [r, g, i, r2, g2]) = .row 1 (ins.map encS) := by show AObj.row 1 _ = _; rw [rn_rows (fun _ => rfl)]
  have e2 : (AObj.row 2 (gates.map encG)).rn (tab [r, g, i, r2, g2]) = .row 2 (gates.map encG) := by show AObj.row 2 _ = _; rw [rn_rows (fun _ => rfl)]
  have e4 : (AObj.row 3 (regs.map encR)).rn (tab [r, g, i, r2, g2]) = .row 3 (regs.map encR) := by show AObj.row 3 _ = _; rw [rn_rows (fun _ => rfl)]
  have hm : Store.match (tab [r, g, i, r2, g2]) σ [(0, v0, .row 3 (regs.map encR)), (1, v1, .row 2 (gates.map encG))] := ⟨by rw [e4]; exact h1, by rw [e2]; exact h2, trivial⟩
  have hf : Store.free [r, g, i, r2, g2] [(0, v0, .row 3 (regs.map encR)), (1, v1, .row 2 (gates.map encG))] σ = true := by simp [Store.free, Store.get, List.range_succ, tab, h3, h4, h5]
  have := ac_at [r, g, i, r2, g2] ht (ac_keep (fun i => decide (i ≤ 4)) (q_copied_all v0 v1 ins regs gates outs z1 z2 z3 z4)) hm hf hb (by
    rintro x σ' ⟨σ2, ⟨_, _, _, rfl, e⟩, rfl⟩ j h
    rw [e] at h
    simp only [Store.get] at h ⊢
    revert h
    cases Nat.beq 0 j <;> cases Nat.beq 1 j <;> cases Nat.beq 2 j <;> cases Nat.beq 3 j <;> cases Nat.beq 4 j <;> simp)
  refine ac_mono this ?_
  rintro x σ' ⟨_, _, ⟨σ2, ⟨vi, vr, vg, rfl, e⟩, rfl⟩, rfl, rfl⟩
  refine ⟨vi, vr, vg, rfl, ?_⟩
  rw [e]
  simp only [Store.putAll, e1, e2, e4]
  rfl

/-- A net in objects: what is held, and the objects. -/
def netAgg (i r g o v5 v4 v6 v7 : Nat) (N : Net) : AVal := .agg [.slice i v5 0 N.ins.length, .slice r v4 0 N.regs.length, .slice g v6 0 N.gates.length, .slice o v7 0 N.outs.length]
def netRows (i r g o v5 v4 v6 v7 : Nat) (N : Net) : Store := [(g, v6, .row 2 (N.gates.map encG)), (r, v4, .row 3 (N.regs.map encR)), (i, v5, .row 1 (N.ins.map encS)), (o, v7, .row 2 (N.outs.map encP))]
def netPut (σ : Store) (i r g o v5 v4 v6 v7 : Nat) (N : Net) : Store := (((σ.put o v7 (.row 2 (N.outs.map encP))).put i v5 (.row 1 (N.ins.map encS))).put r v4 (.row 3 (N.regs.map encR))).put g v6 (.row 2 (N.gates.map encG))
theorem nexts_of_net {s : MS} {next : List Int} {outs : List (ByteArray × Int)} {N : Net} (hl : next.length = s.regs.length) (h : s.net next outs = (N, 0)) : s.nexts next outs = N := by
  unfold MS.net at h
  rw [if_neg (by omega)] at h
  split at h
  · exact congrArg Prod.fst h
  · exact absurd (show (2 : Int) = 0 from congrArg Prod.snd h) (by decide)
theorem q_mNetO (s : MS) (vm vg vt vr : Nat) (next : List Int) (outs : List (ByteArray × Int)) (hs : s.OK) (hsm : (s.made []).Small) (hnx : ∀ x ∈ next, x ≤ 9223372036854775807) (hnl : next.length ≤ 100000) (ho : ∀ p ∈ outs, p.1.size ≤ 140737488355328 ∧ p.2 ≤ 9223372036854775807) (hol : outs.length ≤ 100000) (hl : next.length = s.regs.length) (hv : (s.nexts next outs).valid = true) : AC Try.prog 39 [.ptr 0 vm 0 0, .list 1 (next.map encI), .list 2 (outs.map encP)] (mk0 s vm vg vt vr) (fun r σ' => ∃ v5 v4 v6 v7, r = .ret (.tuple [netAgg 5 4 6 7 v5 v4 v6 v7 (s.nexts next outs), .v (.int .i64 (0))]) ∧ σ'.keep (fun i => decide (i ≤ 7)) = mk0 s vm vg vt vr ++ netRows 5 4 6 7 v5 v4 v6 v7 (s.nexts next outs)) := by
 have hs0 := hs
 obtain ⟨k1, k2, k3, _⟩ := hs0
 refine ac_enter 55 Try.func39 rfl rfl (by simp) ?_
 refine aw_seq ?_
 refine aw_region ?_
 (refine al_opR (op_alloc 16 info27 rfl rfl) rfl (by simp) ?_; rintro _ _ ⟨ver6, rfl, rfl⟩)
 refine al_op (op_assign rfl) rfl (by simp) ?_
 refine al_nil ?_
 refine aw_seq ?_
 refine aw_seq ?_
 refine aw_region ?_
 refine al_op (op_move rfl) rfl (by simp) ?_
 refine al_callp into71 rfl rfl rfl (ac_told (re_cons (.leaf _ _ (.same _)) (re_cons (.leaf _ _ (.vnil 1)) re_nil)) (mk_ro (m := 0) (g := 1) (t := 2) (r := 3) (m_no s vm vg vt vr [] hs (by simp)) rfl rfl rfl rfl rfl rfl rfl rfl)) (by simp) ?_
 refine al_op (op_assign rfl) rfl (by simp) ?_
 refine al_nil ?_
 refine aw_seq ?_
 refine aw_region ?_
 refine al_op (op_move rfl) rfl (by simp) ?_
 refine al_op (op_neq rfl rfl) rfl (by simp) ?_
 refine al_nil ?_
 refine aw_cond rfl (fun h1 => ?_) (fun h1 => ?_)
 ·have gh1 := h1
  try simp only [nrm] at h1
  exact absurd gh1 (by simp [MS.no, allTo])
 ·have gh1 := h1
  try simp only [nrm] at h1
  refine aw_skip ?_
  refine aw_seq ?_
  refine aw_seq ?_
  refine aw_region ?_
  refine al_op (op_move rfl) rfl (by simp) ?_
  refine al_op (op_len_map Try.underlying54 rfl) rfl (by simp) ?_
  refine al_op (op_move rfl) rfl (by simp) ?_
  refine al_op (op_nilCheck_ptr rfl rfl) rfl (by simp) ?_
  refine al_op (op_field_ptr Try.underlying73 rfl info27 (by decide) rfl rfl rfl) rfl (by simp) ?_
  refine al_op (op_field_ptr Try.underlying27 rfl info23 (by decide) rfl rfl rfl) rfl (by simp) ?_
  refine al_op (op_load_ptr Try.underlying23 info23 rfl rfl rfl rfl) rfl (by simp) ?_
  refine al_op (op_len_slice Try.underlying23 rfl rfl) rfl (by simp) ?_
  refine al_op (op_neq rfl rfl) rfl (by simp) ?_
  refine al_nil ?_
  refine aw_cond rfl (fun h2 => ?_) (fun h2 => ?_)
  ·have gh2 := h2
   try simp only [nrm] at h2
   omega
  ·have gh2 := h2
   try simp only [nrm] at h2
   have hsm2 : (⟨s.ins, nextTo next s.regs next.length, s.gates, outs⟩ : Net).Small := MS.nexts_small hsm hnx hl ho hol
   refine aw_skip ?_
   refine aw_seq ?_
   refine aw_region ?_
   refine al_op (op_move rfl) rfl (by simp) ?_
   refine al_op (op_nilCheck_ptr rfl rfl) rfl (by simp) ?_
   refine al_op (op_field_ptr Try.underlying73 rfl info27 (by decide) rfl rfl rfl) rfl (by simp) ?_
   refine al_op (op_load_ptr Try.underlying27 info27 rfl rfl rfl rfl) rfl (by simp) ?_
   (refine al_call into77 rfl rfl rfl (ac_told (re_cons (re2_agg (re2_cons (.same _) (re2_cons (.same _) (re2_cons (.same _) (re2_cons (.vnil 2) re2_nil))))) re_nil) (copied_all 3 1 5 4 6 vr vg s.ins s.regs s.gates [] (by omega) (by omega) (by omega) (by simp) rfl rfl rfl rfl rfl rfl rfl)) (by simp) ?_; rintro _ _ ⟨v5, ver32, v6, rfl, rfl⟩)
   (refine al_opR (op_alloc 19 info27 rfl rfl) rfl (by simp) ?_; rintro _ _ ⟨ver9, rfl, rfl⟩)
   refine al_op (op_store_ptr info27 rfl rfl rfl rfl rfl rfl (by first | rfl | exact live_one rfl | (repeat (first | exact all_live_nil | refine all_live_clo rfl ?_ | refine all_live_slice rfl ?_ | refine all_live_map rfl ?_ | refine all_live_ptr rfl ?_))) (Nat.le_of_ble_eq_true rfl)) rfl (by simp) ?_
   refine al_nil ?_
   refine aw_seq ?_
   refine aw_region ?_
   refine al_op (op_move rfl) rfl (by simp) ?_
   (refine al_call into78 rfl rfl rfl (cloneN_P 7 outs (by omega) rfl rfl rfl) (by simp) ?_; rintro _ _ ⟨ver34, rfl, rfl⟩)
   refine al_op (op_field_ptr Try.underlying27 rfl info25 (by decide) rfl rfl rfl) rfl (by simp) ?_
   refine al_op (op_store_ptr info25 rfl rfl rfl rfl rfl rfl (by first | rfl | exact live_one rfl | (repeat (first | exact all_live_nil | refine all_live_clo rfl ?_ | refine all_live_slice rfl ?_ | refine all_live_map rfl ?_ | refine all_live_ptr rfl ?_))) (Nat.le_of_ble_eq_true rfl)) rfl (by simp) ?_
   refine al_nil ?_
   refine aw_seq ?_
   refine aw_seq ?_
   refine aw_region ?_
   refine al_op (op_move rfl) rfl (by simp) ?_
   refine al_op (op_len_map Try.underlying54 rfl) rfl (by simp) ?_
   refine al_op (op_move rfl) rfl (by simp) ?_
   refine al_nil ?_
   refine aw_block ?_
   refine aw_forT (ι := Nat) [38] [] (fun i => next.length - i) (fun i => i ≤ next.length) (fun i => ([(38, .v (.int .i64 (i)))] : Env)) (fun i st => st.put 4 ver32 (.row 3 ((nextTo next s.regs i).map encR))) (0) ?_ ?_ ?_ (fun i hinv => ?_)
   ·exact Nat.zero_le _
   ·refine sub_cons (get_as rfl ?_) ?_; rotate_left; exact sub_nil
    all_goals (first | rfl | simp)
   ·rfl
   have hml := nextTo_length next s.regs i
   refine aw_seq ?_
   refine aw_region ?_
   refine al_op (op_lss rfl rfl) rfl (by simp) ?_
   refine al_nil ?_
   refine aw_seq ?_
   refine aw_cond rfl (fun h3 => ?_) (fun h3 => ?_)
   ·have gh3 := h3
    try simp only [nrm] at h3
    refine aw_skip ?_
    refine aw_seq ?_
    refine aw_block ?_
    refine aw_seq ?_
    refine aw_region ?_
    refine al_op (op_move rfl) rfl (by simp) ?_
    refine al_op (op_index_map default Try.underlying54 info3 rfl rfl rfl (by first | (with_reducible exact Int.toNat_natCast _) | rfl) (by omega) (by omega)) rfl (by simp) ?_
    refine al_op (op_load_rptr Try.underlying3 info3 rfl rfl) rfl (by simp) ?_
    refine al_op (op_assign rfl) rfl (by simp) ?_
    refine al_op (op_assign rfl) rfl (by simp) ?_
    refine al_nil ?_
    refine aw_region ?_
    refine al_op (op_field_ptr Try.underlying27 rfl info23 (by decide) rfl rfl rfl) rfl (by simp) ?_
    refine al_op (op_load_ptr Try.underlying23 info23 rfl rfl rfl rfl) rfl (by simp) ?_
    refine al_op (op_move rfl) rfl (by simp) ?_
    refine al_op (op_move rfl) rfl (by simp) ?_
    refine al_op (op_index_slice Try.underlying23 info93 rfl rfl rfl rfl (by omega) (by omega)) rfl (by simp) ?_
    refine al_op (op_field_ptr Try.underlying93 rfl info3 (by decide) rfl rfl rfl) rfl (by simp) ?_
    refine al_op (op_store_map (((nextTo next s.regs i).getD (0 + (i : Int).toNat) default).1, ((nextTo next s.regs i).getD (0 + (i : Int).toNat) default).2.1, next.getD i default) info3 rfl rfl rfl (by omega) rfl rfl rfl (Nat.le_of_ble_eq_true rfl) rfl) rfl (by simp) ?_
    refine al_nil ?_
    refine aw_region ?_
    refine al_op (op_add rfl rfl (by first | exact wrap_i64 (by omega) (by omega))) rfl (by simp) ?_
    refine al_op (op_move rfl) rfl (by simp) ?_
    refine al_nil ?_
    refine ⟨i + 1, ?_, ?_, ?_, ?_, ?_⟩
    ·omega
    ·omega
    ·refine sub_cons (get_as rfl ?_) ?_; rotate_left; exact sub_nil
     all_goals (first | rfl | simp)
    ·repeat (first | exact subx_refl | exact subx_del | refine subx_put rfl ?_)
    ·(rw [nextTo_step next s.regs i (by omega)] <;> rfl)
   ·have gh3 := h3
    try simp only [nrm] at h3
    refine aw_exit ?_
    obtain rfl : i = next.length := by omega
    refine aw_seq ?_
    refine aw_seq ?_
    refine aw_region ?_
    refine al_op (op_load_ptr Try.underlying27 info27 rfl rfl rfl rfl) rfl (by simp) ?_
    refine al_callp into27 rfl rfl rfl (acp_lent (lend_cons (by first | exact lend_same | exact .leaf _ _ (.vnil _) | exact .leaf _ _ (.nil _) | exact lend_whole rfl (by first | rfl | (simp; done) | (simp; omega)) (clo_map (fun _ => rfl)) | exact lend_netg (by first | exact .same _ | exact lendL_vnil | exact lendL_whole rfl (by first | rfl | (simp; done) | (simp; omega)) (clo_map (fun _ => rfl))) (by first | exact .same _ | exact lendL_vnil | exact lendL_whole rfl (by first | rfl | (simp; done) | (simp; omega)) (clo_map (fun _ => rfl))) (by first | exact .same _ | exact lendL_vnil | exact lendL_whole rfl (by first | rfl | (simp; done) | (simp; omega)) (clo_map (fun _ => rfl))) (by first | exact .same _ | exact lendL_vnil | exact lendL_whole rfl (by first | rfl | (simp; done) | (simp; omega)) (clo_map (fun _ => rfl)))) lend_nil) (c_valid _ (by assumption)) rfl) (by simp) ?_
    refine al_op (op_not rfl) rfl (by simp) ?_
    refine al_nil ?_
    refine aw_cond rfl (fun h4 => ?_) (fun h4 => ?_)
    ·have gh4 := h4
     try simp only [nrm] at h4
     rw [Bool.not_eq_true'] at gh4; exact absurd (hv.symm.trans gh4) (by decide)
    ·have gh4 := h4
     try simp only [nrm] at h4
     refine aw_skip ?_
     refine aw_seq ?_
     refine aw_region ?_
     refine al_op (op_load_ptr Try.underlying27 info27 rfl rfl rfl rfl) rfl (by simp) ?_
     refine al_op (op_store_ptr info27 rfl rfl rfl rfl rfl rfl (by first | rfl | exact live_one rfl | (repeat (first | exact all_live_nil | refine all_live_clo rfl ?_ | refine all_live_slice rfl ?_ | refine all_live_map rfl ?_ | refine all_live_ptr rfl ?_))) (Nat.le_of_ble_eq_true rfl)) rfl (by simp) ?_
     refine al_op (op_assign rfl) rfl (by simp) ?_
     refine al_nil ?_
     refine aw_ret ?_
     refine ⟨_, res_cell_tmp rfl Try.underlying27 info27 rfl rfl rfl rfl rfl rfl rfl, ?_⟩
     refine ⟨v5, ver32, v6, ver34, ?_, rfl⟩
     unfold netAgg MS.nexts
     show _ = AEnd.ret (.tuple [.agg [_, .slice 4 ver32 0 (nextTo next s.regs next.length).length, _, _], _])
     rw [nextTo_length]; rfl
theorem netO_at {σ : Store} (m g t r i5 i4 i6 i7 : Nat) (s : MS) (vm vg vt vr : Nat) (next : List Int) (outs : List (ByteArray × Int)) (hs : s.OK) (hsm : (s.made []).Small) (hnx : ∀ x ∈ next, x ≤ 9223372036854775807) (hnl : next.length ≤ 100000) (ho : ∀ p ∈ outs, p.1.size ≤ 140737488355328 ∧ p.2 ≤ 9223372036854775807) (hol : outs.length ≤ 100000) (hl : next.length = s.regs.length) (hv : (s.nexts next outs).valid = true) (ht : tabOK [m, g, t, r, i4, i5, i6, i7] = true) (hb : σ.below 1000 = true)
    (h1 : σ.get m = some (vm, .row 6 [s.cells g t r vg vt vr])) (h2 : σ.get g = some (vg, .row 2 (s.gates.map encG))) (h3 : σ.get t = some (vt, .map (thEnts s.th))) (h4 : σ.get r = some (vr, .row 3 (s.regs.map encR))) (f4 : σ.get i4 = none) (f5 : σ.get i5 = none) (f6 : σ.get i6 = none) (f7 : σ.get i7 = none) :
    AC Try.prog 39 [.ptr m vm 0 0, .list 1 (next.map encI), .list 2 (outs.map encP)] σ (fun x σ' => ∃ v5 v4 v6 v7, x = .ret (.tuple [netAgg i5 i4 i6 i7 v5 v4 v6 v7 (s.nexts next outs), .v (.int .i64 (0))]) ∧ σ' = setM (netPut σ i5 i4 i6 i7 v5 v4 v6 v7 (s.nexts next outs)) m g t r s vm vg vt vr) := by
  have e0 : (AObj.row 2 (s.gates.map encG)).rn (tab [m, g, t, r, i4, i5, i6, i7]) = .row 2 (s.gates.map encG) := by show AObj.row 2 _ = _; rw [rn_rows (fun _ => rfl)]
  have e00 : (AObj.row 3 (s.regs.map encR)).rn (tab [m, g, t, r, i4, i5, i6, i7]) = .row 3 (s.regs.map encR) := by show AObj.row 3 _ = _; rw [rn_rows (fun _ => rfl)]
  have e000 : (AObj.map (thEnts s.th)).rn (tab [m, g, t, r, i4, i5, i6, i7]) = .map (thEnts s.th) := by show AObj.map _ = _; rw [rn_th]
  have e1 : (AObj.row 1 ((s.nexts next outs).ins.map encS)).rn (tab [m, g, t, r, i4, i5, i6, i7]) = .row 1 ((s.nexts next outs).ins.map encS) := by show AObj.row 1 _ = _; rw [rn_rows (fun _ => rfl)]
  have e2 : (AObj.row 2 ((s.nexts next outs).gates.map encG)).rn (tab [m, g, t, r, i4, i5, i6, i7]) = .row 2 ((s.nexts next outs).gates.map encG) := by show AObj.row 2 _ = _; rw [rn_rows (fun _ => rfl)]
  have e3 : (AObj.row 2 ((s.nexts next outs).outs.map encP)).rn (tab [m, g, t, r, i4, i5, i6, i7]) = .row 2 ((s.nexts next outs).outs.map encP) := by show AObj.row 2 _ = _; rw [rn_rows (fun _ => rfl)]
  have e4 : (AObj.row 3 ((s.nexts next outs).regs.map encR)).rn (tab [m, g, t, r, i4, i5, i6, i7]) = .row 3 ((s.nexts next outs).regs.map encR) := by show AObj.row 3 _ = _; rw [rn_rows (fun _ => rfl)]
  have hm : Store.match (tab [m, g, t, r, i4, i5, i6, i7]) σ (mk0 s vm vg vt vr) := ⟨h1, by rw [e0]; exact h2, by rw [e000]; exact h3, by rw [e00]; exact h4, trivial⟩
  have hf : Store.free [m, g, t, r, i4, i5, i6, i7] (mk0 s vm vg vt vr) σ = true := by simp [Store.free, mk0, Store.get, List.range_succ, tab, f4, f5, f6, f7]
  have := ac_at [m, g, t, r, i4, i5, i6, i7] ht (ac_keep (fun i => decide (i ≤ 7)) (q_mNetO s vm vg vt vr next outs hs hsm hnx hnl ho hol hl hv)) hm hf hb (by
    rintro x σ' ⟨σ2, ⟨_, _, _, _, rfl, e⟩, rfl⟩ j h
    rw [e] at h
    simp only [mk0, netRows, List.cons_append, List.nil_append, Store.get] at h ⊢
    revert h
    cases Nat.beq 0 j <;> cases Nat.beq 1 j <;> cases Nat.beq 2 j <;> cases Nat.beq 3 j <;> simp)
  refine ac_mono this ?_
  rintro x σ' ⟨_, _, ⟨σ2, ⟨v5, v4, v6, v7, rfl, e⟩, rfl⟩, rfl, rfl⟩
  refine ⟨v5, v4, v6, v7, rfl, ?_⟩
  rw [e]
  simp only [Store.putAll, mk0, netRows, List.cons_append, List.nil_append, e0, e00, e000, e1, e2, e3, e4]
  rfl
end Go.Proofs.Ytbpamlphacpkeaa
