/- Printed walks (gen.py, gates_ann.py): part 90. -/
import Derived.Test.YtbpamlphacpkeaaW81
import Derived.Test.YtbpamlphacpkeaaFacts
set_option linter.unusedVariables false
set_option linter.unusedSimpArgs false
set_option maxRecDepth 20000
set_option maxHeartbeats 40000000
namespace Go.Proofs.Ytbpamlphacpkeaa
open Go

theorem q_clone_own (v0 : Nat) (l : List (ByteArray × Int × Int)) (hl : l.length * 32 ≤ 140737488355328) : AC Try.prog 93 [.slice 0 v0 0 l.length] ([(0, v0, .row 3 (l.map encR))]) (fun r σ' => ∃ ver, r = .ret (.slice 1 ver 0 l.length) ∧ σ' = [(0, v0, .row 3 (l.map encR)), (1, ver, .row 3 (l.map encR))]) := by
 refine ac_enter 8 Try.func93 rfl rfl (by simp) ?_
 refine aw_seq ?_
 refine aw_region ?_
 refine al_op (op_assign rfl) rfl (by simp) ?_
 refine al_nil ?_
 refine aw_seq ?_
 refine aw_seq ?_
 refine aw_region ?_
 refine al_op (op_move rfl) rfl (by simp) ?_
 (refine al_opR (op_snil_own Try.underlying23 rfl rfl rfl) rfl (by simp) ?_; rintro _ _ ⟨⟨b4, rfl, hb4⟩, rfl⟩)
 refine al_nil ?_
 refine aw_cond rfl (fun h1 => ?_) (fun h1 => ?_)
 ·have gh1 := h1
  try simp only [nrm] at h1
  refine aw_seq ?_
  refine aw_region ?_
  refine al_op (op_assign rfl) rfl (by simp) ?_
  refine al_nil ?_
  refine aw_own_map encR 1 3 2 rfl rfl (fun ver2 => ?_)
  refine aw_ret ?_
  refine ⟨_, res_1 rfl rfl, ?_⟩
  have hl0 : l = [] := by simpa using hb4 gh1
  subst hl0
  exact ⟨ver2, rfl, rfl⟩
 ·have gh1 := h1
  try simp only [nrm] at h1
  refine aw_skip ?_
  refine aw_seq ?_
  refine aw_region ?_
  (refine al_opR (op_list_own encR ([] : List (ByteArray × Int × Int)) 1 Try.underlying23 info93 rfl rfl (by decide) rfl (by decide) rfl (by first | rfl | (repeat (first | exact parts_nil | refine parts_cons rfl (by repeat (first | exact all_live_nil | refine all_live_clo rfl ?_ | refine all_live_slice rfl ?_ | refine all_live_map rfl ?_ | refine all_live_ptr rfl ?_)) ?_))) rfl rfl (by first | rfl | (repeat (first | exact parts_nil | refine parts_cons rfl (by repeat (first | exact all_live_nil | refine all_live_clo rfl ?_ | refine all_live_slice rfl ?_ | refine all_live_map rfl ?_ | refine all_live_ptr rfl ?_)) ?_))) rfl rfl) rfl (by simp) ?_; rintro _ _ ⟨ver5, rfl, rfl⟩)
  refine al_op (op_move rfl) rfl (by simp) ?_
  (refine al_opR (op_append_map Try.underlying23 Try.underlying23 rfl info93 rfl rfl (by decide) rfl rfl rfl (by first | rfl | simp) rfl (by first | exact .list _ | exact .vnil | exact .nil | exact .row _ _ _ _ rfl (by first | rfl | simp)) rfl (by first | omega | (simp; done) | (simp; omega)) (by show _ * 32 ≤ _; first | omega | (simp; done) | (simp; omega))) rfl (by simp) ?_; rintro _ _ ⟨ver7, rfl, rfl⟩)
  refine al_op (op_assign rfl) rfl (by simp) ?_
  refine al_nil ?_
  refine aw_ret ?_
  refine ⟨_, res_1 rfl rfl, ?_⟩
  exact ⟨ver7, rfl, rfl⟩
theorem clone_own {σ : Store} (r n v0 : Nat) (l : List (ByteArray × Int × Int)) (hl : l.length * 32 ≤ 140737488355328) (ht : tabOK [r, n] = true) (hb : σ.below 1000 = true) (h1 : σ.get r = some (v0, .row 3 (l.map encR))) (h2 : σ.get n = none) :
    AC Try.prog 93 [.slice r v0 0 l.length] σ (fun x σ' => ∃ ver, x = .ret (.slice n ver 0 l.length) ∧ σ' = (σ.put n ver (.row 3 (l.map encR))).put r v0 (.row 3 (l.map encR))) := by
  have hf : Store.free [r, n] [(0, v0, .row 3 (l.map encR))] σ = true := by simp [Store.free, Store.get, List.range_succ, tab, h2]
  have := ac_at [r, n] ht (q_clone_own v0 l hl) (regs_match h1) hf hb (by
    rintro x σ' ⟨ver, rfl, rfl⟩ j h
    simp only [Store.get] at h ⊢
    revert h
    cases Nat.beq 0 j <;> cases Nat.beq 1 j <;> simp)
  refine ac_mono this ?_
  rintro x σ' ⟨_, _, ⟨ver, rfl, rfl⟩, rfl, rfl⟩
  refine ⟨ver, rfl, ?_⟩
  have e4 : (AObj.row 3 (l.map encR)).rn (tab [r, n]) = .row 3 (l.map encR) := by show AObj.row 3 _ = _; rw [rn_rows (fun _ => rfl)]
  simp only [Store.putAll, e4]
  rfl

theorem q_copied_own (v0 v1 : Nat) (ins : List ByteArray) (regs : List (ByteArray × Int × Int)) (gates : List (Int × Int)) (outs : List (ByteArray × Int)) (z1 : ins.length * 16 ≤ 140737488355328) (z2 : regs.length * 32 ≤ 140737488355328) (z3 : gates.length * 16 ≤ 140737488355328) (z4 : outs.length * 24 ≤ 140737488355328) : AC Try.prog 77 [.agg [.list 1 (ins.map encS), .slice 0 v0 0 regs.length, .slice 1 v1 0 gates.length, .list 2 (outs.map encP)]] ([(0, v0, .row 3 (regs.map encR)), (1, v1, .row 2 (gates.map encG))]) (fun r σ' => ∃ ver, r = .ret (.agg [.list 1 (ins.map encS), .slice 2 ver 0 regs.length, .list 2 (gates.map encG), .list 2 (outs.map encP)]) ∧ σ'.keep (fun i => decide (i ≤ 2)) = [(0, v0, .row 3 (regs.map encR)), (1, v1, .row 2 (gates.map encG)), (2, ver, .row 3 (regs.map encR))]) := by
 refine ac_enter 16 Try.func77 rfl rfl (by simp) ?_
 refine aw_seq ?_
 refine aw_region ?_
 (refine al_opR (op_box 31 rfl rfl (by first | rfl | exact live_one rfl | (repeat (first | exact all_live_nil | refine all_live_clo rfl ?_ | refine all_live_slice rfl ?_ | refine all_live_map rfl ?_ | refine all_live_ptr rfl ?_)))) rfl (by simp) ?_; rintro _ _ ⟨ver1, rfl, rfl⟩)
 (refine al_opR (op_alloc 32 info27 rfl rfl) rfl (by simp) ?_; rintro _ _ ⟨ver2, rfl, rfl⟩)
 refine al_nil ?_
 refine aw_seq ?_
 refine aw_plan [0, 1, 2, 3, 4, 6, 7, 9, 10, 5, 8, 11, 12, 13] (Checked.mixed Try.checked) (by kernel_rfl) ?_
 refine afl_float rfl rfl (opk_of (op_field_ptr Try.underlying27 rfl info22 (by decide) rfl rfl rfl)) (by simp) ?_
 refine afl_float rfl rfl (opk_of (op_load_ptr Try.underlying22 info22 rfl rfl rfl rfl)) (by simp) ?_
 refine afl_float rfl rfl (opk_call into70 rfl rfl rfl (acn_lend (lend_cons (by first | exact lend_same | exact .leaf _ _ (.vnil _) | exact .leaf _ _ (.nil _) | exact lend_whole rfl (by first | rfl | (simp; done) | (simp; omega)) (clo_map (fun _ => rfl)) | exact lend_netg (by first | exact .same _ | exact lendL_vnil | exact lendL_whole rfl (by first | rfl | (simp; done) | (simp; omega)) (clo_map (fun _ => rfl))) (by first | exact .same _ | exact lendL_vnil | exact lendL_whole rfl (by first | rfl | (simp; done) | (simp; omega)) (clo_map (fun _ => rfl))) (by first | exact .same _ | exact lendL_vnil | exact lendL_whole rfl (by first | rfl | (simp; done) | (simp; omega)) (clo_map (fun _ => rfl))) (by first | exact .same _ | exact lendL_vnil | exact lendL_whole rfl (by first | rfl | (simp; done) | (simp; omega)) (clo_map (fun _ => rfl)))) lend_nil) (n_clone_S _ (by omega)))) (by simp) ?_
 refine afl_float rfl rfl (opk_of (op_field_ptr Try.underlying27 rfl info23 (by decide) rfl rfl rfl)) (by simp) ?_
 refine afl_float rfl rfl (opk_of (op_load_ptr Try.underlying23 info23 rfl rfl rfl rfl)) (by simp) ?_
 refine afl_float rfl rfl (opk_of (op_field_ptr Try.underlying27 rfl info24 (by decide) rfl rfl rfl)) (by simp) ?_
 refine afl_float rfl rfl (opk_of (op_load_ptr Try.underlying24 info24 rfl rfl rfl rfl)) (by simp) ?_
 refine afl_float rfl rfl (opk_of (op_field_ptr Try.underlying27 rfl info25 (by decide) rfl rfl rfl)) (by simp) ?_
 refine afl_float rfl rfl (opk_of (op_load_ptr Try.underlying25 info25 rfl rfl rfl rfl)) (by simp) ?_
 (refine afl_call rfl (by kernel_rfl) into93 rfl rfl rfl (clone_own 0 2 v0 regs (by omega) rfl rfl rfl rfl) (by simp) ?_; rintro _ _ ⟨ver8, rfl, rfl⟩; refine ⟨_, rfl, ?_, ?_⟩)
 ·
  refine loose_k rfl (opk_of (op_load_ptr Try.underlying25 info25 rfl rfl rfl rfl)) ?_
  refine loose_k rfl (opk_of (op_field_ptr Try.underlying27 rfl info25 (by decide) rfl rfl rfl)) ?_
  refine loose_k rfl (opk_of (op_load_ptr Try.underlying24 info24 rfl rfl rfl rfl)) ?_
  refine loose_k rfl (opk_of (op_field_ptr Try.underlying27 rfl info24 (by decide) rfl rfl rfl)) ?_
  refine loose_anc 4 rfl (by kernel_rfl) ?_
  refine loose_anc 3 rfl (by kernel_rfl) ?_
  refine loose_anc 2 rfl (by kernel_rfl) ?_
  refine loose_anc 1 rfl (by kernel_rfl) ?_
  refine loose_anc 0 rfl (by kernel_rfl) ?_
  exact loose_nil
 refine afl_float rfl rfl (opk_call into94 rfl rfl rfl (acn_lend (lend_cons (by first | exact lend_same | exact .leaf _ _ (.vnil _) | exact .leaf _ _ (.nil _) | exact lend_whole rfl (by first | rfl | (simp; done) | (simp; omega)) (clo_map (fun _ => rfl)) | exact lend_netg (by first | exact .same _ | exact lendL_vnil | exact lendL_whole rfl (by first | rfl | (simp; done) | (simp; omega)) (clo_map (fun _ => rfl))) (by first | exact .same _ | exact lendL_vnil | exact lendL_whole rfl (by first | rfl | (simp; done) | (simp; omega)) (clo_map (fun _ => rfl))) (by first | exact .same _ | exact lendL_vnil | exact lendL_whole rfl (by first | rfl | (simp; done) | (simp; omega)) (clo_map (fun _ => rfl))) (by first | exact .same _ | exact lendL_vnil | exact lendL_whole rfl (by first | rfl | (simp; done) | (simp; omega)) (clo_map (fun _ => rfl)))) lend_nil) (n_clone_G _ (by omega)))) (by simp) ?_
 refine afl_float rfl rfl (opk_call into78 rfl rfl rfl (acn_lend (lend_cons (by first | exact lend_same | exact .leaf _ _ (.vnil _) | exact .leaf _ _ (.nil _) | exact lend_whole rfl (by first | rfl | (simp; done) | (simp; omega)) (clo_map (fun _ => rfl)) | exact lend_netg (by first | exact .same _ | exact lendL_vnil | exact lendL_whole rfl (by first | rfl | (simp; done) | (simp; omega)) (clo_map (fun _ => rfl))) (by first | exact .same _ | exact lendL_vnil | exact lendL_whole rfl (by first | rfl | (simp; done) | (simp; omega)) (clo_map (fun _ => rfl))) (by first | exact .same _ | exact lendL_vnil | exact lendL_whole rfl (by first | rfl | (simp; done) | (simp; omega)) (clo_map (fun _ => rfl))) (by first | exact .same _ | exact lendL_vnil | exact lendL_whole rfl (by first | rfl | (simp; done) | (simp; omega)) (clo_map (fun _ => rfl)))) lend_nil) (n_clone_P _ (by omega)))) (by simp) ?_
 refine afl_float rfl rfl (opk_of (op_build_struct Try.underlying27 info27 rfl place27 rfl (by first | rfl | (repeat (first | exact parts_nil | refine parts_cons rfl (by repeat (first | exact all_live_nil | refine all_live_clo rfl ?_ | refine all_live_slice rfl ?_ | refine all_live_map rfl ?_ | refine all_live_ptr rfl ?_)) ?_))) rfl)) (by simp) ?_
 (refine afl_eff rfl rfl (by kernel_rfl) (op_store_ptr info27 rfl rfl rfl rfl rfl rfl (by first | rfl | exact live_one rfl | (repeat (first | exact all_live_nil | refine all_live_clo rfl ?_ | refine all_live_slice rfl ?_ | refine all_live_map rfl ?_ | refine all_live_ptr rfl ?_))) (Nat.le_of_ble_eq_true rfl)) (by simp) ?_ ?_)
 ·
  refine loose_anc 12 rfl (by kernel_rfl) ?_
  refine loose_anc 11 rfl (by kernel_rfl) ?_
  refine loose_anc 8 rfl (by kernel_rfl) ?_
  refine loose_anc 5 rfl (by kernel_rfl) ?_
  refine loose_anc 10 rfl (by kernel_rfl) ?_
  refine loose_anc 9 rfl (by kernel_rfl) ?_
  refine loose_anc 7 rfl (by kernel_rfl) ?_
  refine loose_anc 6 rfl (by kernel_rfl) ?_
  refine loose_anc 4 rfl (by kernel_rfl) ?_
  refine loose_anc 3 rfl (by kernel_rfl) ?_
  refine loose_anc 2 rfl (by kernel_rfl) ?_
  refine loose_anc 1 rfl (by kernel_rfl) ?_
  refine loose_anc 0 rfl (by kernel_rfl) ?_
  exact loose_nil
 refine afl_end ?_
 refine aw_ret ?_
 refine ⟨_, res_cell rfl Try.underlying27 info27 rfl rfl rfl rfl, ?_⟩
 exact ⟨_, rfl, rfl⟩
theorem copied_own {σ : Store} (r g n v0 v1 : Nat) (ins : List ByteArray) (regs : List (ByteArray × Int × Int)) (gates : List (Int × Int)) (outs : List (ByteArray × Int)) (z1 : ins.length * 16 ≤ 140737488355328) (z2 : regs.length * 32 ≤ 140737488355328) (z3 : gates.length * 16 ≤ 140737488355328) (z4 : outs.length * 24 ≤ 140737488355328) (ht : tabOK [r, g, n] = true) (hb : σ.below 1000 = true) (h1 : σ.get r = some (v0, .row 3 (regs.map encR))) (h2 : σ.get g = some (v1, .row 2 (gates.map encG))) (h3 : σ.get n = none) :
    AC Try.prog 77 [.agg [.list 1 (ins.map encS), .slice r v0 0 regs.length, .slice g v1 0 gates.length, .list 2 (outs.map encP)]] σ (fun x σ' => ∃ ver, x = .ret (.agg [.list 1 (ins.map encS), .slice n ver 0 regs.length, .list 2 (gates.map encG), .list 2 (outs.map encP)]) ∧ σ' = ((σ.put n ver (.row 3 (regs.map encR))).put g v1 (.row 2 (gates.map encG))).put r v0 (.row 3 (regs.map encR))) := by
  have e2 : (AObj.row 2 (gates.map encG)).rn (tab [r, g, n]) = .row 2 (gates.map encG) := by show AObj.row 2 _ = _; rw [rn_rows (fun _ => rfl)]
  have e4 : (AObj.row 3 (regs.map encR)).rn (tab [r, g, n]) = .row 3 (regs.map encR) := by show AObj.row 3 _ = _; rw [rn_rows (fun _ => rfl)]
  have hm : Store.match (tab [r, g, n]) σ [(0, v0, .row 3 (regs.map encR)), (1, v1, .row 2 (gates.map encG))] := ⟨by rw [e4]; exact h1, by rw [e2]; exact h2, trivial⟩
  have hf : Store.free [r, g, n] [(0, v0, .row 3 (regs.map encR)), (1, v1, .row 2 (gates.map encG))] σ = true := by simp [Store.free, Store.get, List.range_succ, tab, h3]
  have := ac_at [r, g, n] ht (ac_keep (fun i => decide (i ≤ 2)) (q_copied_own v0 v1 ins regs gates outs z1 z2 z3 z4)) hm hf hb (by
    rintro x σ' ⟨σ2, ⟨ver, rfl, e⟩, rfl⟩ j h
    rw [e] at h
    simp only [Store.get] at h ⊢
    revert h
    cases Nat.beq 0 j <;> cases Nat.beq 1 j <;> cases Nat.beq 2 j <;> simp)
  refine ac_mono this ?_
  rintro x σ' ⟨_, _, ⟨σ2, ⟨ver, rfl, e⟩, rfl⟩, rfl, rfl⟩
  refine ⟨ver, rfl, ?_⟩
  rw [e]
  simp only [Store.putAll, e2, e4]
  rfl

theorem q_mNet (s : MS) (vm vg vt vr : Nat) (next : List Int) (outs : List (ByteArray × Int)) (hs : s.Good) (hnx : ∀ x ∈ next, x ≤ 9223372036854775807) (hnl : next.length ≤ 100000) (ho : ∀ p ∈ outs, p.1.size ≤ 140737488355328 ∧ p.2 ≤ 9223372036854775807) (hol : outs.length ≤ 100000) : AC Try.prog 39 [.ptr 0 vm 0 0, .list 1 (next.map encI), .list 2 (outs.map encP)] (mk0 s vm vg vt vr) (fun r σ' => ∃ a, r = .ret a ∧ FrzT σ' (fun i => decide (i ≤ 3)) a (.tuple [encN (s.net next outs).1, .v (.int .i64 ((s.net next outs).2))]) ∧ σ'.keep (fun i => decide (i ≤ 3)) = mk0 s vm vg vt vr) := by
 obtain ⟨k1, k2, k3, _⟩ := hs.ok
 refine ac_enter 55 Try.func39 rfl rfl (by simp) ?_
 refine aw_seq ?_
 refine aw_region ?_
 (refine al_opR (op_alloc 6 info27 rfl rfl) rfl (by simp) ?_; rintro _ _ ⟨ver6, rfl, rfl⟩)
 refine al_op (op_assign rfl) rfl (by simp) ?_
 refine al_nil ?_
 refine aw_seq ?_
 refine aw_seq ?_
 refine aw_region ?_
 refine al_op (op_move rfl) rfl (by simp) ?_
 refine al_callp into71 rfl rfl rfl (ac_told (re_cons (.leaf _ _ (.same _)) (re_cons (.leaf _ _ (.vnil 1)) re_nil)) (mk_ro (m := 0) (g := 1) (t := 2) (r := 3) (m_no s vm vg vt vr [] hs.ok (by simp)) rfl rfl rfl rfl rfl rfl rfl rfl)) (by simp) ?_
 refine al_op (op_assign rfl) rfl (by simp) ?_
 refine al_nil ?_
 refine aw_seq ?_
 refine aw_region ?_
 refine al_op (op_move rfl) rfl (by simp) ?_
 refine al_op (op_neq rfl rfl) rfl (by simp) ?_
 refine al_nil ?_
 refine aw_cond rfl (fun h1 => ?_) (fun h1 => ?_)
 ·have gh1 := h1
  try simp only [nrm] at h1
  exact absurd gh1 (by simp [MS.no, allTo])
 ·have gh1 := h1
  try simp only [nrm] at h1
  refine aw_skip ?_
  refine aw_seq ?_
  refine aw_seq ?_
  refine aw_region ?_
  refine al_op (op_move rfl) rfl (by simp) ?_
  refine al_op (op_len_map Try.underlying54 rfl) rfl (by simp) ?_
  refine al_op (op_move rfl) rfl (by simp) ?_
  refine al_op (op_nilCheck_ptr rfl rfl) rfl (by simp) ?_
  refine al_op (op_field_ptr Try.underlying73 rfl info27 (by decide) rfl rfl rfl) rfl (by simp) ?_
  refine al_op (op_field_ptr Try.underlying27 rfl info23 (by decide) rfl rfl rfl) rfl (by simp) ?_
  refine al_op (op_load_ptr Try.underlying23 info23 rfl rfl rfl rfl) rfl (by simp) ?_
  refine al_op (op_len_slice Try.underlying23 rfl rfl) rfl (by simp) ?_
  refine al_op (op_neq rfl rfl) rfl (by simp) ?_
  refine al_nil ?_
  refine aw_cond rfl (fun h2 => ?_) (fun h2 => ?_)
  ·have gh2 := h2
   try simp only [nrm] at h2
   refine aw_seq ?_
   refine aw_region ?_
   refine al_op (op_build_struct Try.underlying27 info27 rfl place27 rfl (by first | rfl | (repeat (first | exact parts_nil | refine parts_cons rfl (by repeat (first | exact all_live_nil | refine all_live_clo rfl ?_ | refine all_live_slice rfl ?_ | refine all_live_map rfl ?_ | refine all_live_ptr rfl ?_)) ?_))) rfl) rfl (by simp) ?_
   refine al_op (op_store_ptr info27 rfl rfl rfl rfl rfl rfl (by first | rfl | exact live_one rfl | (repeat (first | exact all_live_nil | refine all_live_clo rfl ?_ | refine all_live_slice rfl ?_ | refine all_live_map rfl ?_ | refine all_live_ptr rfl ?_))) (by decide)) rfl (by simp) ?_
   refine al_op (op_assign rfl) rfl (by simp) ?_
   refine al_nil ?_
   refine aw_ret ?_
   refine ⟨_, res_cell_tmp rfl Try.underlying27 info27 rfl rfl rfl rfl rfl rfl rfl, ?_⟩
   rw [MS.net_len gh2]; exact ⟨_, rfl, .tuple _ _ (frz3_cons (.agg _ _ (frz2_cons (.vnil 1) (frz2_cons (.vnil 3) (frz2_cons (.vnil 2) (frz2_cons (.vnil 2) frz2_nil))))) (frz3_cons (.leaf _ _ (.same _)) frz3_nil)), rfl⟩
  ·have gh2 := h2
   try simp only [nrm] at h2
   have hl : next.length = s.regs.length := by omega
   have hsm2 : (⟨s.ins, nextTo next s.regs next.length, s.gates, outs⟩ : Net).Small := MS.nexts_small hs.small hnx hl ho hol
   refine aw_skip ?_
   refine aw_seq ?_
   refine aw_region ?_
   refine al_op (op_move rfl) rfl (by simp) ?_
   refine al_op (op_nilCheck_ptr rfl rfl) rfl (by simp) ?_
   refine al_op (op_field_ptr Try.underlying73 rfl info27 (by decide) rfl rfl rfl) rfl (by simp) ?_
   refine al_op (op_load_ptr Try.underlying27 info27 rfl rfl rfl rfl) rfl (by simp) ?_
   (refine al_call into77 rfl rfl rfl (ac_told (re_cons (re2_agg (re2_cons (.same _) (re2_cons (.same _) (re2_cons (.same _) (re2_cons (.vnil 2) re2_nil))))) re_nil) (copied_own 3 1 4 vr vg s.ins s.regs s.gates [] (by omega) (by omega) (by omega) (by simp) rfl rfl rfl rfl rfl)) (by simp) ?_; rintro _ _ ⟨ver32, rfl, rfl⟩)
   (refine al_opR (op_alloc 9 info27 rfl rfl) rfl (by simp) ?_; rintro _ _ ⟨ver9, rfl, rfl⟩)
   refine al_op (op_store_ptr info27 rfl rfl rfl rfl rfl rfl (by first | rfl | exact live_one rfl | (repeat (first | exact all_live_nil | refine all_live_clo rfl ?_ | refine all_live_slice rfl ?_ | refine all_live_map rfl ?_ | refine all_live_ptr rfl ?_))) (Nat.le_of_ble_eq_true rfl)) rfl (by simp) ?_
   refine al_nil ?_
   refine aw_seq ?_
   refine aw_region ?_
   refine al_op (op_move rfl) rfl (by simp) ?_
   refine al_callp into78 rfl rfl rfl (acn_lend (lend_cons (by first | exact lend_same | exact .leaf _ _ (.vnil _) | exact .leaf _ _ (.nil _) | exact lend_whole rfl (by first | rfl | (simp; done) | (simp; omega)) (clo_map (fun _ => rfl)) | exact lend_netg (by first | exact .same _ | exact lendL_vnil | exact lendL_whole rfl (by first | rfl | (simp; done) | (simp; omega)) (clo_map (fun _ => rfl))) (by first | exact .same _ | exact lendL_vnil | exact lendL_whole rfl (by first | rfl | (simp; done) | (simp; omega)) (clo_map (fun _ => rfl))) (by first | exact .same _ | exact lendL_vnil | exact lendL_whole rfl (by first | rfl | (simp; done) | (simp; omega)) (clo_map (fun _ => rfl))) (by first | exact .same _ | exact lendL_vnil | exact lendL_whole rfl (by first | rfl | (simp; done) | (simp; omega)) (clo_map (fun _ => rfl)))) lend_nil) (n_clone_P _ (by omega))) (by simp) ?_
   refine al_op (op_field_ptr Try.underlying27 rfl info25 (by decide) rfl rfl rfl) rfl (by simp) ?_
   refine al_op (op_store_ptr info25 rfl rfl rfl rfl rfl rfl (by first | rfl | exact live_one rfl | (repeat (first | exact all_live_nil | refine all_live_clo rfl ?_ | refine all_live_slice rfl ?_ | refine all_live_map rfl ?_ | refine all_live_ptr rfl ?_))) (Nat.le_of_ble_eq_true rfl)) rfl (by simp) ?_
   refine al_nil ?_
   refine aw_seq ?_
   refine aw_seq ?_
   refine aw_region ?_
   refine al_op (op_move rfl) rfl (by simp) ?_
   refine al_op (op_len_map Try.underlying54 rfl) rfl (by simp) ?_
   refine al_op (op_move rfl) rfl (by simp) ?_
   refine al_nil ?_
   refine aw_block ?_
   refine aw_forT (ι := Nat) [38] [] (fun i => next.length - i) (fun i => i ≤ next.length) (fun i => ([(38, .v (.int .i64 (i)))] : Env)) (fun i st => st.put 4 ver32 (.row 3 ((nextTo next s.regs i).map encR))) (0) ?_ ?_ ?_ (fun i hinv => ?_)
   ·exact Nat.zero_le _
   ·refine sub_cons (get_as rfl ?_) ?_; rotate_left; exact sub_nil
    all_goals (first | rfl | simp)
   ·rfl
   have hml := nextTo_length next s.regs i
   refine aw_seq ?_
   refine aw_region ?_
   refine al_op (op_lss rfl rfl) rfl (by simp) ?_
   refine al_nil ?_
   refine aw_seq ?_
   refine aw_cond rfl (fun h3 => ?_) (fun h3 => ?_)
   ·have gh3 := h3
    try simp only [nrm] at h3
    refine aw_skip ?_
    refine aw_seq ?_
    refine aw_block ?_
    refine aw_seq ?_
    refine aw_region ?_
    refine al_op (op_move rfl) rfl (by simp) ?_
    refine al_op (op_index_map default Try.underlying54 info3 rfl rfl rfl (by first | (with_reducible exact Int.toNat_natCast _) | rfl) (by omega) (by omega)) rfl (by simp) ?_
    refine al_op (op_load_rptr Try.underlying3 info3 rfl rfl) rfl (by simp) ?_
    refine al_op (op_assign rfl) rfl (by simp) ?_
    refine al_op (op_assign rfl) rfl (by simp) ?_
    refine al_nil ?_
    refine aw_region ?_
    refine al_op (op_field_ptr Try.underlying27 rfl info23 (by decide) rfl rfl rfl) rfl (by simp) ?_
    refine al_op (op_load_ptr Try.underlying23 info23 rfl rfl rfl rfl) rfl (by simp) ?_
    refine al_op (op_move rfl) rfl (by simp) ?_
    refine al_op (op_move rfl) rfl (by simp) ?_
    refine al_op (op_index_slice Try.underlying23 info93 rfl rfl rfl rfl (by omega) (by omega)) rfl (by simp) ?_
    refine al_op (op_field_ptr Try.underlying93 rfl info3 (by decide) rfl rfl rfl) rfl (by simp) ?_
    refine al_op (op_store_map (((nextTo next s.regs i).getD (0 + (i : Int).toNat) default).1, ((nextTo next s.regs i).getD (0 + (i : Int).toNat) default).2.1, next.getD i default) info3 rfl rfl rfl (by omega) rfl rfl rfl (Nat.le_of_ble_eq_true rfl) rfl) rfl (by simp) ?_
    refine al_nil ?_
    refine aw_region ?_
    refine al_op (op_add rfl rfl (by first | exact wrap_i64 (by omega) (by omega))) rfl (by simp) ?_
    refine al_op (op_move rfl) rfl (by simp) ?_
    refine al_nil ?_
    refine ⟨i + 1, ?_, ?_, ?_, ?_, ?_⟩
    ·omega
    ·omega
    ·refine sub_cons (get_as rfl ?_) ?_; rotate_left; exact sub_nil
     all_goals (first | rfl | simp)
    ·repeat (first | exact subx_refl | exact subx_del | refine subx_put rfl ?_)
    ·(rw [nextTo_step next s.regs i (by omega)] <;> rfl)
   ·have gh3 := h3
    try simp only [nrm] at h3
    refine aw_exit ?_
    obtain rfl : i = next.length := by omega
    refine aw_seq ?_
    refine aw_seq ?_
    refine aw_region ?_
    refine al_op (op_load_ptr Try.underlying27 info27 rfl rfl rfl rfl) rfl (by simp) ?_
    refine al_callp into27 rfl rfl rfl (acp_lent (lend_cons (by first | exact lend_same | exact .leaf _ _ (.vnil _) | exact .leaf _ _ (.nil _) | exact lend_whole rfl (by first | rfl | (simp; done) | (simp; omega)) (clo_map (fun _ => rfl)) | exact lend_netg (by first | exact .same _ | exact lendL_vnil | exact lendL_whole rfl (by first | rfl | (simp; done) | (simp; omega)) (clo_map (fun _ => rfl))) (by first | exact .same _ | exact lendL_vnil | exact lendL_whole rfl (by first | rfl | (simp; done) | (simp; omega)) (clo_map (fun _ => rfl))) (by first | exact .same _ | exact lendL_vnil | exact lendL_whole rfl (by first | rfl | (simp; done) | (simp; omega)) (clo_map (fun _ => rfl))) (by first | exact .same _ | exact lendL_vnil | exact lendL_whole rfl (by first | rfl | (simp; done) | (simp; omega)) (clo_map (fun _ => rfl)))) lend_nil) (c_valid _ (by assumption)) rfl) (by simp) ?_
    refine al_op (op_not rfl) rfl (by simp) ?_
    refine al_nil ?_
    refine aw_cond rfl (fun h4 => ?_) (fun h4 => ?_)
    ·have gh4 := h4
     try simp only [nrm] at h4
     refine aw_seq ?_
     refine aw_region ?_
     refine al_op (op_build_struct Try.underlying27 info27 rfl place27 rfl (by first | rfl | (repeat (first | exact parts_nil | refine parts_cons rfl (by repeat (first | exact all_live_nil | refine all_live_clo rfl ?_ | refine all_live_slice rfl ?_ | refine all_live_map rfl ?_ | refine all_live_ptr rfl ?_)) ?_))) rfl) rfl (by simp) ?_
     refine al_op (op_store_ptr info27 rfl rfl rfl rfl rfl rfl (by first | rfl | exact live_one rfl | (repeat (first | exact all_live_nil | refine all_live_clo rfl ?_ | refine all_live_slice rfl ?_ | refine all_live_map rfl ?_ | refine all_live_ptr rfl ?_))) (by decide)) rfl (by simp) ?_
     refine al_op (op_assign rfl) rfl (by simp) ?_
     refine al_nil ?_
     refine aw_ret ?_
     refine ⟨_, res_cell_tmp rfl Try.underlying27 info27 rfl rfl rfl rfl rfl rfl rfl, ?_⟩
     rw [MS.net_bad hl (by rw [Bool.not_eq_true'] at gh4; exact gh4)]; exact ⟨_, rfl, .tuple _ _ (frz3_cons (.agg _ _ (frz2_cons (.vnil 1) (frz2_cons (.vnil 3) (frz2_cons (.vnil 2) (frz2_cons (.vnil 2) frz2_nil))))) (frz3_cons (.leaf _ _ (.same _)) frz3_nil)), rfl⟩
    ·have gh4 := h4
     try simp only [nrm] at h4
     refine aw_skip ?_
     refine aw_seq ?_
     refine aw_region ?_
     refine al_op (op_load_ptr Try.underlying27 info27 rfl rfl rfl rfl) rfl (by simp) ?_
     refine al_op (op_store_ptr info27 rfl rfl rfl rfl rfl rfl (by first | rfl | exact live_one rfl | (repeat (first | exact all_live_nil | refine all_live_clo rfl ?_ | refine all_live_slice rfl ?_ | refine all_live_map rfl ?_ | refine all_live_ptr rfl ?_))) (Nat.le_of_ble_eq_true rfl)) rfl (by simp) ?_
     refine al_op (op_assign rfl) rfl (by simp) ?_
     refine al_nil ?_
     refine aw_ret ?_
     refine ⟨_, res_cell_tmp rfl Try.underlying27 info27 rfl rfl rfl rfl rfl rfl rfl, ?_⟩
     rw [MS.net_ok hl (by rw [Bool.not_eq_false'] at gh4; exact gh4)]; exact ⟨_, rfl, .tuple _ _ (frz3_cons (.agg _ _ (frz2_cons (.same _) (frz2_cons (frz_whole rfl rfl (by first | rfl | simp [MS.nexts, nextTo_length]) (clo_map (fun _ => rfl))) (frz2_cons (.same _) (frz2_cons (.same _) frz2_nil))))) (frz3_cons (.leaf _ _ (.same _)) frz3_nil)), rfl⟩
theorem m_Net (s : MS) (vm vg vt vr : Nat) (next : List Int) (outs : List (ByteArray × Int)) (hs : s.Good) (hnx : ∀ x ∈ next, x ≤ 9223372036854775807) (hnl : next.length ≤ 100000) (ho : ∀ p ∈ outs, p.1.size ≤ 140737488355328 ∧ p.2 ≤ 9223372036854775807) (hol : outs.length ≤ 100000) : AC Try.prog 39 [.ptr 0 vm 0 0, .list 1 (next.map encI), .list 2 (outs.map encP)] (mk0 s vm vg vt vr) (fun r σ' => r = .ret (.tuple [encN (s.net next outs).1, .v (.int .i64 ((s.net next outs).2))]) ∧ σ' = mk0 s vm vg vt vr) :=
  ac_frz (fun i => decide (i ≤ 3)) (q_mNet s vm vg vt vr next outs hs hnx hnl ho hol) (by rintro r σ1 ⟨a, rfl, hf, hk⟩; exact ⟨a, _, rfl, hf, rfl, hk⟩)

theorem makeOK_len {ins names : List ByteArray} {inits : List Int} (h : names.length ≠ inits.length) : makeOK ins names inits = false := by
  unfold makeOK; rw [decide_eq_false h]; rfl
theorem makeOK_bad {ins names : List ByteArray} {inits : List Int} (h : (!(⟨ins, regsOf names inits names.length, [], []⟩ : Net).valid) = true) : makeOK ins names inits = false := by
  unfold makeOK
  have e : ((MS.make ins names inits).made []).valid = false := by rw [Bool.not_eq_true'] at h; exact h
  rw [e, Bool.and_false]
theorem makeOK_ok {ins names : List ByteArray} {inits : List Int} (hl : names.length = inits.length) (h : (!(⟨ins, regsOf names inits names.length, [], []⟩ : Net).valid) = false) : makeOK ins names inits = true := by
  unfold makeOK
  have e : ((MS.make ins names inits).made []).valid = true := by rw [Bool.not_eq_false'] at h; exact h
  rw [e, decide_eq_true hl]; rfl
theorem q_mMake (ins names : List ByteArray) (inits : List Int) (z1 : ∀ s ∈ ins, s.size ≤ 140737488355328) (z2 : ∀ s ∈ names, s.size ≤ 140737488355328) (z3 : ∀ x ∈ inits, 0 ≤ x ∧ x ≤ 255) (z4 : ins.length ≤ 100000) (z5 : names.length ≤ 100000) (z6 : inits.length ≤ 100000) : AC Try.prog 28 [.list 1 (ins.map encS), .list 1 (names.map encS), .list 1 (inits.map encB)] ([]) (fun r σ' => if makeOK ins names inits then ∃ vm vg vt vr, r = .ret (.tuple [.ptr 0 vm 0 0, .v (.int .i64 (0))]) ∧ σ' = [(2, vt, .map (thEnts [])), (0, vm, .row 6 [(MS.make ins names inits).cells 1 2 3 vg vt vr]), (3, vr, .row 3 ((MS.make ins names inits).regs.map encR)), (1, vg, .row 2 ((MS.make ins names inits).gates.map encG))] else r = .ret (.tuple [.v (.pointer none), .v (.int .i64 (2))])) := by
 refine ac_enter 54 Try.func28 rfl rfl (by simp) ?_
 refine aw_seq ?_
 refine aw_region ?_
 refine al_op (op_assign rfl) rfl (by simp) ?_
 refine al_op (op_assign rfl) rfl (by simp) ?_
 refine al_nil ?_
 refine aw_seq ?_
 refine aw_seq ?_
 refine aw_region ?_
 refine al_op (op_move rfl) rfl (by simp) ?_
 refine al_op (op_len_map Try.underlying28 rfl) rfl (by simp) ?_
 refine al_op (op_move rfl) rfl (by simp) ?_
 refine al_op (op_len_map Try.underlying22 rfl) rfl (by simp) ?_
 refine al_op (op_neq rfl rfl) rfl (by simp) ?_
 refine al_nil ?_
 refine aw_cond rfl (fun h1 => ?_) (fun h1 => ?_)
 ·have gh1 := h1
  try simp only [nrm] at h1
  refine aw_seq ?_
  refine aw_region ?_
  refine al_op (op_assign rfl) rfl (by simp) ?_
  refine al_op (op_assign rfl) rfl (by simp) ?_
  refine al_nil ?_
  refine aw_ret ?_
  refine ⟨_, res_2 rfl rfl rfl rfl rfl, ?_⟩
  show if makeOK ins names inits = true then _ else _
  rw [if_neg (by rw [makeOK_len (by omega)]; decide)]
 ·have gh1 := h1
  try simp only [nrm] at h1
  have hl : names.length = inits.length := by omega
  have hsm : (⟨ins, regsOf names inits names.length, [], []⟩ : Net).Small := MS.make_small z1 z2 z3 z4 z5 hl
  refine aw_skip ?_
  refine aw_seq ?_
  refine aw_region ?_
  refine al_op (op_move rfl) rfl (by simp) ?_
  refine al_callp into70 rfl rfl rfl (acn_lend (lend_cons (by first | exact lend_same | exact .leaf _ _ (.vnil _) | exact .leaf _ _ (.nil _) | exact lend_whole rfl (by first | rfl | (simp; done) | (simp; omega)) (clo_map (fun _ => rfl)) | exact lend_netg (by first | exact .same _ | exact lendL_vnil | exact lendL_whole rfl (by first | rfl | (simp; done) | (simp; omega)) (clo_map (fun _ => rfl))) (by first | exact .same _ | exact lendL_vnil | exact lendL_whole rfl (by first | rfl | (simp; done) | (simp; omega)) (clo_map (fun _ => rfl))) (by first | exact .same _ | exact lendL_vnil | exact lendL_whole rfl (by first | rfl | (simp; done) | (simp; omega)) (clo_map (fun _ => rfl))) (by first | exact .same _ | exact lendL_vnil | exact lendL_whole rfl (by first | rfl | (simp; done) | (simp; omega)) (clo_map (fun _ => rfl)))) lend_nil) (n_clone_S _ (by omega))) (by simp) ?_
  refine al_op (op_build_struct Try.underlying27 info27 rfl place27 rfl (by first | rfl | (repeat (first | exact parts_nil | refine parts_cons rfl (by repeat (first | exact all_live_nil | refine all_live_clo rfl ?_ | refine all_live_slice rfl ?_ | refine all_live_map rfl ?_ | refine all_live_ptr rfl ?_)) ?_))) rfl) rfl (by simp) ?_
  (refine al_opR (op_makeMap 2 Try.underlying71 (.inl rfl)) rfl (by simp) ?_; rintro _ _ ⟨ver19, rfl, rfl⟩)
  refine al_op (op_build_struct Try.underlying73 info73 rfl place73 rfl (by first | rfl | (repeat (first | exact parts_nil | refine parts_cons rfl (by repeat (first | exact all_live_nil | refine all_live_clo rfl ?_ | refine all_live_slice rfl ?_ | refine all_live_map rfl ?_ | refine all_live_ptr rfl ?_)) ?_))) rfl) rfl (by simp) ?_
  (refine al_opR (op_box 0 rfl rfl (by first | rfl | exact live_one rfl | (repeat (first | exact all_live_nil | refine all_live_clo rfl ?_ | refine all_live_slice rfl ?_ | refine all_live_map rfl ?_ | refine all_live_ptr rfl ?_)))) rfl (by simp) ?_; rintro _ _ ⟨ver21, rfl, rfl⟩)
  refine al_op (op_assign rfl) rfl (by simp) ?_
  refine al_nil ?_
  refine aw_seq ?_
  refine aw_seq ?_
  refine aw_region ?_
  refine al_op (op_move rfl) rfl (by simp) ?_
  refine al_op (op_len_map Try.underlying22 rfl) rfl (by simp) ?_
  refine al_op (op_move rfl) rfl (by simp) ?_
  refine al_nil ?_
  refine aw_block ?_
  refine aw_own_in encR 0 3 3 2 (by decide) rfl rfl rfl (fun vr => ?_)
  refine aw_for2T (α := Nat) (β := Nat) [24] [] (fun i ver => names.length - i) (fun i ver => i ≤ names.length) (fun i ver => ([(24, .v (.int .i64 (i)))] : Env)) (fun i ver s => (s.put 3 ver (.row 3 ((regsOf names inits i).map encR))).put 0 ver21 (.row 6 [[.v (.bool true), .list 1 (ins.map encS), .slice 3 ver 0 (regsOf names inits i).length, .v (.slice none 0 0), .v (.slice none 0 0), .map 2 ver19]])) (0) (vr) ?_ ?_ ?_ (fun i ver hinv => ?_)
  ·exact Nat.zero_le _
  ·refine sub_cons (get_as rfl ?_) ?_; rotate_left; exact sub_nil
   all_goals (first | rfl | simp)
  ·rfl
  have hrl := regsOf_length names inits i
  refine aw_seq ?_
  refine aw_region ?_
  refine al_op (op_lss rfl rfl) rfl (by simp) ?_
  refine al_nil ?_
  refine aw_seq ?_
  refine aw_cond rfl (fun h2 => ?_) (fun h2 => ?_)
  ·have gh2 := h2
   try simp only [nrm] at h2
   refine aw_skip ?_
   refine aw_seq ?_
   refine aw_block ?_
   refine aw_seq ?_
   refine aw_region ?_
   refine al_op (op_move rfl) rfl (by simp) ?_
   refine al_op (op_index_map default Try.underlying22 info9 rfl rfl rfl (by first | (with_reducible exact Int.toNat_natCast _) | rfl) (by omega) (by omega)) rfl (by simp) ?_
   refine al_op (op_load_rptr Try.underlying9 info9 rfl rfl) rfl (by simp) ?_
   refine al_op (op_assign rfl) rfl (by simp) ?_
   refine al_op (op_assign rfl) rfl (by simp) ?_
   refine al_nil ?_
   refine aw_plan [0, 1, 2, 3, 4, 5, 6, 7, 8, 9, 10, 11, 12, 13, 14, 15, 16, 17] (Checked.mixed Try.checked) (by kernel_rfl) ?_
   refine afl_float rfl rfl (opk_of (op_move rfl)) (by simp) ?_
   refine afl_float rfl rfl (opk_of (op_move rfl)) (by simp) ?_
   refine afl_float rfl rfl (opk_of (op_nilCheck_ptr rfl rfl)) (by simp) ?_
   refine afl_float rfl rfl (opk_of (op_field_ptr Try.underlying73 rfl info27 (by decide) rfl rfl rfl)) (by simp) ?_
   refine afl_float rfl rfl (opk_of (op_field_ptr Try.underlying27 rfl info23 (by decide) rfl rfl rfl)) (by simp) ?_
   refine afl_float rfl rfl (opk_of (op_load_ptr Try.underlying23 info23 rfl rfl rfl rfl)) (by simp) ?_
   refine afl_float rfl rfl (opk_of (op_move rfl)) (by simp) ?_
   refine afl_float rfl rfl (opk_of (op_move rfl)) (by simp) ?_
   refine afl_float rfl rfl (opk_of (op_move rfl)) (by simp) ?_
   refine afl_float rfl rfl (opk_of (op_index_map default Try.underlying28 info65 rfl rfl rfl (by first | (with_reducible exact Int.toNat_natCast _) | rfl) (by omega) (by omega))) (by simp) ?_
   refine afl_float rfl rfl (opk_of (op_load_rptr Try.underlying65 info65 rfl rfl)) (by simp) ?_
   refine afl_float rfl rfl (opk_of (op_build_struct Try.underlying93 info93 rfl place93 rfl (by first | rfl | (repeat (first | exact parts_nil | refine parts_cons rfl (by repeat (first | exact all_live_nil | refine all_live_clo rfl ?_ | refine all_live_slice rfl ?_ | refine all_live_map rfl ?_ | refine all_live_ptr rfl ?_)) ?_))) rfl)) (by simp) ?_
   refine afl_float rfl rfl (opk_of (op_buildSlice Try.underlying23 info93 rfl rfl (by decide) rfl (by decide) rfl (by first | rfl | (repeat (first | exact parts_nil | refine parts_cons rfl (by repeat (first | exact all_live_nil | refine all_live_clo rfl ?_ | refine all_live_slice rfl ?_ | refine all_live_map rfl ?_ | refine all_live_ptr rfl ?_)) ?_))) rfl rfl rfl)) (by simp) ?_
   (refine afl_effR rfl rfl (by kernel_rfl) (op_append_one (names.getD i default, inits.getD i default, 0) Try.underlying23 Try.underlying23 rfl info93 rfl rfl (by decide) rfl rfl rfl (by first | rfl | simp) rfl rfl (by first | omega | (simp; done) | (simp; omega)) (by show _ * 32 ≤ _; first | omega | (simp; done) | (simp; omega))) (by simp) ?_; rintro _ _ ⟨ver42, rfl, rfl⟩; refine ⟨?_, ?_⟩)
   ·
    refine loose_anc 12 rfl (by kernel_rfl) ?_
    refine loose_anc 11 rfl (by kernel_rfl) ?_
    refine loose_anc 10 rfl (by kernel_rfl) ?_
    refine loose_anc 9 rfl (by kernel_rfl) ?_
    refine loose_anc 8 rfl (by kernel_rfl) ?_
    refine loose_anc 7 rfl (by kernel_rfl) ?_
    refine loose_anc 6 rfl (by kernel_rfl) ?_
    refine loose_anc 5 rfl (by kernel_rfl) ?_
    refine loose_anc 4 rfl (by kernel_rfl) ?_
    refine loose_anc 3 rfl (by kernel_rfl) ?_
    refine loose_anc 2 rfl (by kernel_rfl) ?_
    refine loose_anc 1 rfl (by kernel_rfl) ?_
    refine loose_k rfl (opk_of (op_move rfl)) ?_
    exact loose_nil
   refine afl_float rfl rfl (opk_of (op_nilCheck_ptr rfl rfl)) (by simp) ?_
   refine afl_float rfl rfl (opk_of (op_field_ptr Try.underlying73 rfl info27 (by decide) rfl rfl rfl)) (by simp) ?_
   refine afl_float rfl rfl (opk_of (op_field_ptr Try.underlying27 rfl info23 (by decide) rfl rfl rfl)) (by simp) ?_
   (refine afl_eff rfl rfl (by kernel_rfl) (op_store_ptr info23 rfl rfl rfl rfl rfl rfl (by first | rfl | exact live_one rfl | (repeat (first | exact all_live_nil | refine all_live_clo rfl ?_ | refine all_live_slice rfl ?_ | refine all_live_map rfl ?_ | refine all_live_ptr rfl ?_))) (Nat.le_of_ble_eq_true rfl)) (by simp) ?_ ?_)
   ·
    refine loose_anc 16 rfl (by kernel_rfl) ?_
    refine loose_anc 15 rfl (by kernel_rfl) ?_
    refine loose_anc 14 rfl (by kernel_rfl) ?_
    refine loose_anc 13 rfl (by kernel_rfl) ?_
    refine loose_anc 12 rfl (by kernel_rfl) ?_
    refine loose_anc 11 rfl (by kernel_rfl) ?_
    refine loose_anc 10 rfl (by kernel_rfl) ?_
    refine loose_anc 9 rfl (by kernel_rfl) ?_
    refine loose_anc 8 rfl (by kernel_rfl) ?_
    refine loose_anc 7 rfl (by kernel_rfl) ?_
    refine loose_anc 6 rfl (by kernel_rfl) ?_
    refine loose_anc 5 rfl (by kernel_rfl) ?_
    refine loose_anc 4 rfl (by kernel_rfl) ?_
    refine loose_anc 3 rfl (by kernel_rfl) ?_
    refine loose_anc 2 rfl (by kernel_rfl) ?_
    refine loose_anc 1 rfl (by kernel_rfl) ?_
    refine loose_anc 0 rfl (by kernel_rfl) ?_
    exact loose_nil
   refine afl_end ?_
   refine aw_region ?_
   refine al_op (op_add rfl rfl (by first | exact wrap_i64 (by omega) (by omega))) rfl (by simp) ?_
   refine al_op (op_move rfl) rfl (by simp) ?_
   refine al_nil ?_
   refine ⟨i + 1, ver42, ?_, ?_, ?_, ?_, ?_⟩
   ·omega
   ·omega
   ·refine sub_cons (get_as rfl ?_) ?_; rotate_left; exact sub_nil
    all_goals (first | rfl | simp)
   ·repeat (first | exact subx_refl | exact subx_del | refine subx_put rfl ?_)
   ·first | (rw [regsOf_succ] <;> rfl)
  ·have gh2 := h2
   try simp only [nrm] at h2
   refine aw_exit ?_
   obtain rfl : i = names.length := by omega
   refine aw_seq ?_
   refine aw_seq ?_
   refine aw_region ?_
   refine al_op (op_move rfl) rfl (by simp) ?_
   refine al_op (op_nilCheck_ptr rfl rfl) rfl (by simp) ?_
   refine al_op (op_field_ptr Try.underlying73 rfl info27 (by decide) rfl rfl rfl) rfl (by simp) ?_
   refine al_op (op_load_ptr Try.underlying27 info27 rfl rfl rfl rfl) rfl (by simp) ?_
   refine al_callp into27 rfl rfl rfl (acp_lent (lend_cons (by first | exact lend_same | exact .leaf _ _ (.vnil _) | exact .leaf _ _ (.nil _) | exact lend_whole rfl (by first | rfl | (simp; done) | (simp; omega)) (clo_map (fun _ => rfl)) | exact lend_netg (by first | exact .same _ | exact lendL_vnil | exact lendL_whole rfl (by first | rfl | (simp; done) | (simp; omega)) (clo_map (fun _ => rfl))) (by first | exact .same _ | exact lendL_vnil | exact lendL_whole rfl (by first | rfl | (simp; done) | (simp; omega)) (clo_map (fun _ => rfl))) (by first | exact .same _ | exact lendL_vnil | exact lendL_whole rfl (by first | rfl | (simp; done) | (simp; omega)) (clo_map (fun _ => rfl))) (by first | exact .same _ | exact lendL_vnil | exact lendL_whole rfl (by first | rfl | (simp; done) | (simp; omega)) (clo_map (fun _ => rfl)))) lend_nil) (c_valid _ (by assumption)) rfl) (by simp) ?_
   refine al_op (op_not rfl) rfl (by simp) ?_
   refine al_nil ?_
   refine aw_cond rfl (fun h3 => ?_) (fun h3 => ?_)
   ·have gh3 := h3
    try simp only [nrm] at h3
    refine aw_seq ?_
    refine aw_region ?_
    refine al_op (op_assign rfl) rfl (by simp) ?_
    refine al_op (op_assign rfl) rfl (by simp) ?_
    refine al_nil ?_
    refine aw_ret ?_
    refine ⟨_, res_2 rfl rfl rfl rfl rfl, ?_⟩
    show if makeOK ins names inits = true then _ else _
    rw [if_neg (by rw [makeOK_bad gh3]; decide)]
   ·have gh3 := h3
    try simp only [nrm] at h3
    refine aw_skip ?_
    refine aw_seq ?_
    refine aw_region ?_
    refine al_op (op_move rfl) rfl (by simp) ?_
    refine al_op (op_assign rfl) rfl (by simp) ?_
    refine al_op (op_assign rfl) rfl (by simp) ?_
    refine al_nil ?_
    refine aw_own_in encG 0 1 2 3 (by decide) rfl rfl rfl (fun vg => ?_)
    refine aw_ret ?_
    refine ⟨_, res_2 rfl rfl rfl rfl rfl, ?_⟩
    show if makeOK ins names inits = true then _ else _
    rw [if_pos (makeOK_ok hl gh3)]; exact ⟨_, _, _, _, rfl, rfl⟩
end Go.Proofs.Ytbpamlphacpkeaa
