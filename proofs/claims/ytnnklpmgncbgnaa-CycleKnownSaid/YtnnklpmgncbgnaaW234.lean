/- Printed walks (gen.py, gates_ann.py): part 234. -/
import Derived.Test.YtnnklpmgncbgnaaW231
import Derived.Test.YtnnklpmgncbgnaaCLawK
import Derived.Test.YtnnklpmgncbgnaaEngT
import Derived.Test.YtnnklpmgncbgnaaFacts
set_option linter.unusedVariables false
set_option linter.unusedSimpArgs false
set_option maxRecDepth 20000
set_option maxHeartbeats 40000000
namespace Go.Proofs.Ytnnklpmgncbgnaa
open Go

theorem l_less (b k : Int) (h0 : 0 ≤ b) (h1 : b ≤ 255) (hk : 0 ≤ k) : ACp Try.prog 29 [.v (.int .u8 (b)), .v (.int .i64 (k))] (.v (.int .u8 ((lessV b k)))) := by
 refine acp_of rfl ?_
 refine ac_enter 16 Try.func29 rfl rfl (by simp) ?_
 refine aw_seq ?_
 refine aw_region ?_
 refine al_op (op_assign rfl) rfl (by simp) ?_
 refine al_nil ?_
 refine aw_seq ?_
 refine aw_seq ?_
 refine aw_region ?_
 refine al_op (op_move rfl) rfl (by simp) ?_
 refine al_op (op_eql rfl rfl) rfl (by simp) ?_
 refine al_op (op_move rfl) rfl (by simp) ?_
 apply al_and 4 7 11 rfl
 ·intro h1; have gh1 := h1
  try simp only [nrm] at h1
  refine al_take (op_move rfl) rfl rfl rfl rfl (by simp) ?_
  first
    | refine al_take (op_rem rfl rfl (by omega) (rem_nn (by omega))) rfl rfl rfl rfl (by simp) ?_
    | refine al_take (op_rem rfl rfl (by omega) rfl) rfl rfl rfl rfl (by simp) ?_
  refine al_take (op_gtr rfl rfl) rfl rfl rfl rfl (by simp) ?_
  first
    | refine al_op (op_pick rfl rfl) rfl (by simp) ?_
    | refine al_op (op_and rfl rfl rfl) rfl (by simp) ?_
  refine al_nil ⟨rfl, rfl, rfl, keep_of ?_⟩
  repeat (first | exact subx_refl | exact subx_known rfl gh1 subx_refl | refine subx_put rfl ?_)
 ·intro h1; have gh1 := h1
  try simp only [nrm] at h1
  refine al_pass rfl rfl rfl rfl (by simp) ?_
  refine al_pass rfl rfl rfl rfl (by simp) ?_
  refine al_pass rfl rfl rfl rfl (by simp) ?_
  first
    | refine al_op (op_pick rfl rfl) rfl (by simp) ?_
    | refine al_op (op_and rfl rfl rfl) rfl (by simp) ?_
  refine al_nil ⟨rfl, rfl, rfl, keep_of ?_⟩
  repeat (first | exact subx_refl | exact subx_known rfl gh1 subx_refl | refine subx_put rfl ?_)
 refine al_nil ?_
 refine aw_cond rfl (fun h2 => ?_) (fun h2 => ?_)
 ·have gh2 := h2
  try simp only [nrm] at h2
  refine aw_seq ?_
  refine aw_region ?_
  refine al_op (op_move rfl) rfl (by simp) ?_
  first
    | refine al_op (op_rem rfl rfl (by omega) (rem_nn (by omega))) rfl (by simp) ?_
    | refine al_op (op_rem rfl rfl (by omega) rfl) rfl (by simp) ?_
  refine al_op (op_conv Try.underlying3 Try.underlying41 rfl (wrap_u8 (by omega) (by omega))) rfl (by simp) ?_
  refine al_op (op_assign rfl) rfl (by simp) ?_
  refine al_nil ?_
  refine aw_freeze (fun _ => false) (fsub_cons (t := 4) rfl (.leaf _ _ (.same _)) fsub_nil) ?_
  refine aw_ret ?_
  refine ⟨_, res_1 rfl rfl, ?_, rfl⟩
  rw [lessV, if_pos gh2]
 ·have gh2 := h2
  try simp only [nrm] at h2
  refine aw_skip ?_
  refine aw_seq ?_
  refine aw_region ?_
  refine al_op (op_move rfl) rfl (by simp) ?_
  refine al_op (op_assign rfl) rfl (by simp) ?_
  refine al_nil ?_
  refine aw_freeze (fun _ => false) (fsub_cons (t := 4) rfl (.leaf _ _ (.same _)) fsub_nil) ?_
  refine aw_ret ?_
  refine ⟨_, res_1 rfl rfl, ?_, rfl⟩
  rw [lessV, if_neg (by rw [gh2]; decide)]

theorem q_own_all (n : Net) (z1 : n.ins.length * 16 ≤ 140737488355328) (z2 : n.regs.length * 32 ≤ 140737488355328) (z3 : n.gates.length * 16 ≤ 140737488355328) (z4 : n.outs.length * 24 ≤ 140737488355328) : AC Try.prog 28 [encN n] ([]) (fun r σ' => ∃ vi vr vg vo a, r = .ret a ∧ a = (.agg [.slice 0 vi 0 n.ins.length, .slice 1 vr 0 n.regs.length, .slice 2 vg 0 n.gates.length, .slice 3 vo 0 n.outs.length]) ∧ NewT σ' a (encN n) ∧ FrzT σ' (fun _ => false) a (encN n) ∧ σ'.keep (fun i => decide (i ≤ 3)) = [(0, vi, .row 1 (n.ins.map encS)), (1, vr, .row 3 (n.regs.map encR)), (2, vg, .row 2 (n.gates.map encG)), (3, vo, .row 2 (n.outs.map encP))]) := by
 refine ac_enter 20 Try.func28 rfl rfl (by simp) ?_
 refine aw_seq ?_
 refine aw_region ?_
 (refine al_opR (op_box 31 rfl rfl (by first | rfl | exact live_one rfl | (repeat (first | exact all_live_nil | refine all_live_clo rfl ?_ | refine all_live_slice rfl ?_ | refine all_live_map rfl ?_ | refine all_live_ptr rfl ?_)))) rfl (by simp) ?_; rintro _ _ ⟨ver1, rfl, rfl⟩)
 (refine al_opR (op_alloc 32 info27 rfl rfl) rfl (by simp) ?_; rintro _ _ ⟨ver2, rfl, rfl⟩)
 refine al_nil ?_
 refine aw_seq ?_
 refine aw_plan [0, 1, 2, 4, 5, 6, 8, 9, 10, 12, 13, 14, 3, 7, 11, 15, 16, 17] (Checked.mixed Try.checked) (by kernel_rfl) ?_
 refine afl_float rfl rfl (opk_of (op_build_nil Try.underlying22 info9 rfl rfl (by decide) rfl)) (by simp) ?_
 first
   | refine afl_float rfl rfl (opk_of (op_field_rptr Try.underlying27 rfl info22 (by decide) rfl rfl)) (by simp) ?_
   | refine afl_float rfl rfl (opk_of (op_field_ptr Try.underlying27 rfl info22 (by decide) rfl rfl rfl)) (by simp) ?_
 first
   | refine afl_float rfl rfl (opk_of (op_load_rptr Try.underlying22 info22 rfl rfl)) (by simp) ?_
   | refine afl_float rfl rfl (opk_of (op_load_map Try.underlying22 info22 rfl rfl (by omega) rfl)) (by simp) ?_
   | refine afl_float rfl rfl (opk_of (op_load_ptr Try.underlying22 info22 rfl rfl rfl rfl)) (by simp) ?_
 refine afl_float rfl rfl (opk_of (op_build_nil Try.underlying23 info62 rfl rfl (by decide) rfl)) (by simp) ?_
 first
   | refine afl_float rfl rfl (opk_of (op_field_rptr Try.underlying27 rfl info23 (by decide) rfl rfl)) (by simp) ?_
   | refine afl_float rfl rfl (opk_of (op_field_ptr Try.underlying27 rfl info23 (by decide) rfl rfl rfl)) (by simp) ?_
 first
   | refine afl_float rfl rfl (opk_of (op_load_rptr Try.underlying23 info23 rfl rfl)) (by simp) ?_
   | refine afl_float rfl rfl (opk_of (op_load_map Try.underlying23 info23 rfl rfl (by omega) rfl)) (by simp) ?_
   | refine afl_float rfl rfl (opk_of (op_load_ptr Try.underlying23 info23 rfl rfl rfl rfl)) (by simp) ?_
 refine afl_float rfl rfl (opk_of (op_build_nil Try.underlying24 info88 rfl rfl (by decide) rfl)) (by simp) ?_
 first
   | refine afl_float rfl rfl (opk_of (op_field_rptr Try.underlying27 rfl info24 (by decide) rfl rfl)) (by simp) ?_
   | refine afl_float rfl rfl (opk_of (op_field_ptr Try.underlying27 rfl info24 (by decide) rfl rfl rfl)) (by simp) ?_
 first
   | refine afl_float rfl rfl (opk_of (op_load_rptr Try.underlying24 info24 rfl rfl)) (by simp) ?_
   | refine afl_float rfl rfl (opk_of (op_load_map Try.underlying24 info24 rfl rfl (by omega) rfl)) (by simp) ?_
   | refine afl_float rfl rfl (opk_of (op_load_ptr Try.underlying24 info24 rfl rfl rfl rfl)) (by simp) ?_
 refine afl_float rfl rfl (opk_of (op_build_nil Try.underlying25 info83 rfl rfl (by decide) rfl)) (by simp) ?_
 first
   | refine afl_float rfl rfl (opk_of (op_field_rptr Try.underlying27 rfl info25 (by decide) rfl rfl)) (by simp) ?_
   | refine afl_float rfl rfl (opk_of (op_field_ptr Try.underlying27 rfl info25 (by decide) rfl rfl rfl)) (by simp) ?_
 first
   | refine afl_float rfl rfl (opk_of (op_load_rptr Try.underlying25 info25 rfl rfl)) (by simp) ?_
   | refine afl_float rfl rfl (opk_of (op_load_map Try.underlying25 info25 rfl rfl (by omega) rfl)) (by simp) ?_
   | refine afl_float rfl rfl (opk_of (op_load_ptr Try.underlying25 info25 rfl rfl rfl rfl)) (by simp) ?_
 (refine afl_effR rfl rfl (by kernel_rfl) (op_append_new 0 Try.underlying22 Try.underlying22 rfl info9 rfl rfl (by decide) rfl rfl rfl (by first | exact .list _ | exact .vnil | exact .nil | exact .row _ _ _ _ rfl (by first | rfl | simp)) rfl (by first | omega | (simp; done) | (simp; omega)) (by show _ * 16 ≤ _; first | omega | (simp; done) | (simp; omega))) (by simp) ?_; rintro _ _ ⟨ver6, rfl, rfl⟩; refine ⟨?_, ?_⟩)
 ·
  first
    | refine loose_k rfl (opk_of (op_load_rptr Try.underlying25 info25 rfl rfl)) ?_
    | refine loose_k rfl (opk_of (op_load_map Try.underlying25 info25 rfl rfl (by omega) rfl)) ?_
    | refine loose_k rfl (opk_of (op_load_ptr Try.underlying25 info25 rfl rfl rfl rfl)) ?_
  first
    | refine loose_k rfl (opk_of (op_field_rptr Try.underlying27 rfl info25 (by decide) rfl rfl)) ?_
    | refine loose_k rfl (opk_of (op_field_ptr Try.underlying27 rfl info25 (by decide) rfl rfl rfl)) ?_
  refine loose_k rfl (opk_of (op_build_nil Try.underlying25 info83 rfl rfl (by decide) rfl)) ?_
  first
    | refine loose_k rfl (opk_of (op_load_rptr Try.underlying24 info24 rfl rfl)) ?_
    | refine loose_k rfl (opk_of (op_load_map Try.underlying24 info24 rfl rfl (by omega) rfl)) ?_
    | refine loose_k rfl (opk_of (op_load_ptr Try.underlying24 info24 rfl rfl rfl rfl)) ?_
  first
    | refine loose_k rfl (opk_of (op_field_rptr Try.underlying27 rfl info24 (by decide) rfl rfl)) ?_
    | refine loose_k rfl (opk_of (op_field_ptr Try.underlying27 rfl info24 (by decide) rfl rfl rfl)) ?_
  refine loose_k rfl (opk_of (op_build_nil Try.underlying24 info88 rfl rfl (by decide) rfl)) ?_
  first
    | refine loose_k rfl (opk_of (op_load_rptr Try.underlying23 info23 rfl rfl)) ?_
    | refine loose_k rfl (opk_of (op_load_map Try.underlying23 info23 rfl rfl (by omega) rfl)) ?_
    | refine loose_k rfl (opk_of (op_load_ptr Try.underlying23 info23 rfl rfl rfl rfl)) ?_
  first
    | refine loose_k rfl (opk_of (op_field_rptr Try.underlying27 rfl info23 (by decide) rfl rfl)) ?_
    | refine loose_k rfl (opk_of (op_field_ptr Try.underlying27 rfl info23 (by decide) rfl rfl rfl)) ?_
  refine loose_k rfl (opk_of (op_build_nil Try.underlying23 info62 rfl rfl (by decide) rfl)) ?_
  refine loose_anc 2 rfl (by kernel_rfl) ?_
  refine loose_anc 1 rfl (by kernel_rfl) ?_
  refine loose_anc 0 rfl (by kernel_rfl) ?_
  exact loose_nil
 (refine afl_effR rfl rfl (by kernel_rfl) (op_append_new 1 Try.underlying23 Try.underlying23 rfl info62 rfl rfl (by decide) rfl rfl rfl (by first | exact .list _ | exact .vnil | exact .nil | exact .row _ _ _ _ rfl (by first | rfl | simp)) rfl (by first | omega | (simp; done) | (simp; omega)) (by show _ * 32 ≤ _; first | omega | (simp; done) | (simp; omega))) (by simp) ?_; rintro _ _ ⟨ver10, rfl, rfl⟩; refine ⟨?_, ?_⟩)
 ·
  refine loose_fix rfl ?_
  first
    | refine loose_k rfl (opk_of (op_load_rptr Try.underlying25 info25 rfl rfl)) ?_
    | refine loose_k rfl (opk_of (op_load_map Try.underlying25 info25 rfl rfl (by omega) rfl)) ?_
    | refine loose_k rfl (opk_of (op_load_ptr Try.underlying25 info25 rfl rfl rfl rfl)) ?_
  first
    | refine loose_k rfl (opk_of (op_field_rptr Try.underlying27 rfl info25 (by decide) rfl rfl)) ?_
    | refine loose_k rfl (opk_of (op_field_ptr Try.underlying27 rfl info25 (by decide) rfl rfl rfl)) ?_
  refine loose_k rfl (opk_of (op_build_nil Try.underlying25 info83 rfl rfl (by decide) rfl)) ?_
  first
    | refine loose_k rfl (opk_of (op_load_rptr Try.underlying24 info24 rfl rfl)) ?_
    | refine loose_k rfl (opk_of (op_load_map Try.underlying24 info24 rfl rfl (by omega) rfl)) ?_
    | refine loose_k rfl (opk_of (op_load_ptr Try.underlying24 info24 rfl rfl rfl rfl)) ?_
  first
    | refine loose_k rfl (opk_of (op_field_rptr Try.underlying27 rfl info24 (by decide) rfl rfl)) ?_
    | refine loose_k rfl (opk_of (op_field_ptr Try.underlying27 rfl info24 (by decide) rfl rfl rfl)) ?_
  refine loose_k rfl (opk_of (op_build_nil Try.underlying24 info88 rfl rfl (by decide) rfl)) ?_
  refine loose_anc 6 rfl (by kernel_rfl) ?_
  refine loose_anc 5 rfl (by kernel_rfl) ?_
  refine loose_anc 4 rfl (by kernel_rfl) ?_
  refine loose_anc 2 rfl (by kernel_rfl) ?_
  refine loose_anc 1 rfl (by kernel_rfl) ?_
  refine loose_anc 0 rfl (by kernel_rfl) ?_
  exact loose_nil
 (refine afl_effR rfl rfl (by kernel_rfl) (op_append_new 2 Try.underlying24 Try.underlying24 rfl info88 rfl rfl (by decide) rfl rfl rfl (by first | exact .list _ | exact .vnil | exact .nil | exact .row _ _ _ _ rfl (by first | rfl | simp)) rfl (by first | omega | (simp; done) | (simp; omega)) (by show _ * 16 ≤ _; first | omega | (simp; done) | (simp; omega))) (by simp) ?_; rintro _ _ ⟨ver14, rfl, rfl⟩; refine ⟨?_, ?_⟩)
 ·
  refine loose_fix rfl ?_
  refine loose_fix rfl ?_
  first
    | refine loose_k rfl (opk_of (op_load_rptr Try.underlying25 info25 rfl rfl)) ?_
    | refine loose_k rfl (opk_of (op_load_map Try.underlying25 info25 rfl rfl (by omega) rfl)) ?_
    | refine loose_k rfl (opk_of (op_load_ptr Try.underlying25 info25 rfl rfl rfl rfl)) ?_
  first
    | refine loose_k rfl (opk_of (op_field_rptr Try.underlying27 rfl info25 (by decide) rfl rfl)) ?_
    | refine loose_k rfl (opk_of (op_field_ptr Try.underlying27 rfl info25 (by decide) rfl rfl rfl)) ?_
  refine loose_k rfl (opk_of (op_build_nil Try.underlying25 info83 rfl rfl (by decide) rfl)) ?_
  refine loose_anc 10 rfl (by kernel_rfl) ?_
  refine loose_anc 9 rfl (by kernel_rfl) ?_
  refine loose_anc 8 rfl (by kernel_rfl) ?_
  refine loose_anc 6 rfl (by kernel_rfl) ?_
  refine loose_anc 5 rfl (by kernel_rfl) ?_
  refine loose_anc 4 rfl (by kernel_rfl) ?_
  refine loose_anc 2 rfl (by kernel_rfl) ?_
  refine loose_anc 1 rfl (by kernel_rfl) ?_
  refine loose_anc 0 rfl (by kernel_rfl) ?_
  exact loose_nil
 (refine afl_effR rfl rfl (by kernel_rfl) (op_append_new 3 Try.underlying25 Try.underlying25 rfl info83 rfl rfl (by decide) rfl rfl rfl (by first | exact .list _ | exact .vnil | exact .nil | exact .row _ _ _ _ rfl (by first | rfl | simp)) rfl (by first | omega | (simp; done) | (simp; omega)) (by show _ * 24 ≤ _; first | omega | (simp; done) | (simp; omega))) (by simp) ?_; rintro _ _ ⟨ver18, rfl, rfl⟩; refine ⟨?_, ?_⟩)
 ·
  refine loose_fix rfl ?_
  refine loose_fix rfl ?_
  refine loose_fix rfl ?_
  refine loose_anc 14 rfl (by kernel_rfl) ?_
  refine loose_anc 13 rfl (by kernel_rfl) ?_
  refine loose_anc 12 rfl (by kernel_rfl) ?_
  refine loose_anc 10 rfl (by kernel_rfl) ?_
  refine loose_anc 9 rfl (by kernel_rfl) ?_
  refine loose_anc 8 rfl (by kernel_rfl) ?_
  refine loose_anc 6 rfl (by kernel_rfl) ?_
  refine loose_anc 5 rfl (by kernel_rfl) ?_
  refine loose_anc 4 rfl (by kernel_rfl) ?_
  refine loose_anc 2 rfl (by kernel_rfl) ?_
  refine loose_anc 1 rfl (by kernel_rfl) ?_
  refine loose_anc 0 rfl (by kernel_rfl) ?_
  exact loose_nil
 refine afl_float rfl rfl (opk_of (op_build_struct Try.underlying27 info27 rfl place27 rfl (by first | rfl | (repeat (first | exact parts_nil | refine parts_cons rfl (by repeat (first | exact all_live_nil | refine all_live_clo rfl ?_ | refine all_live_slice rfl ?_ | refine all_live_map rfl ?_ | refine all_live_ptr rfl ?_)) ?_))) rfl)) (by simp) ?_
 first
   | (refine afl_eff rfl rfl (by kernel_rfl) (op_store_ptr info27 rfl rfl rfl rfl rfl rfl (by first | rfl | exact live_one rfl | (repeat (first | exact all_live_nil | refine all_live_clo rfl ?_ | refine all_live_slice rfl ?_ | refine all_live_map rfl ?_ | refine all_live_ptr rfl ?_))) (by decide)) (by simp) ?_ ?_)
   | (refine afl_eff rfl rfl (by kernel_rfl) (op_store_ptr info27 rfl rfl rfl rfl rfl rfl (by first | rfl | exact live_one rfl | (repeat (first | exact all_live_nil | refine all_live_clo rfl ?_ | refine all_live_slice rfl ?_ | refine all_live_map rfl ?_ | refine all_live_ptr rfl ?_))) (Nat.le_of_ble_eq_true rfl)) (by simp) ?_ ?_)
 ·
  refine loose_anc 16 rfl (by kernel_rfl) ?_
  refine loose_fix rfl ?_
  refine loose_fix rfl ?_
  refine loose_fix rfl ?_
  refine loose_fix rfl ?_
  refine loose_anc 14 rfl (by kernel_rfl) ?_
  refine loose_anc 13 rfl (by kernel_rfl) ?_
  refine loose_anc 12 rfl (by kernel_rfl) ?_
  refine loose_anc 10 rfl (by kernel_rfl) ?_
  refine loose_anc 9 rfl (by kernel_rfl) ?_
  refine loose_anc 8 rfl (by kernel_rfl) ?_
  refine loose_anc 6 rfl (by kernel_rfl) ?_
  refine loose_anc 5 rfl (by kernel_rfl) ?_
  refine loose_anc 4 rfl (by kernel_rfl) ?_
  refine loose_anc 2 rfl (by kernel_rfl) ?_
  refine loose_anc 1 rfl (by kernel_rfl) ?_
  refine loose_anc 0 rfl (by kernel_rfl) ?_
  exact loose_nil
 refine afl_end ?_
 refine aw_ret ?_
 refine ⟨_, res_cell rfl Try.underlying27 info27 rfl rfl rfl rfl, ?_⟩
 exact ⟨_, _, _, _, _, rfl, rfl, .one _ _ (.agg _ _ (new2_cons (new_map rfl rfl (fun _ => rfl)) (new2_cons (new_map rfl rfl (fun _ => rfl)) (new2_cons (new_map rfl rfl (fun _ => rfl)) (new2_cons (new_map rfl rfl (fun _ => rfl)) new2_nil))))), .one _ _ (.agg _ _ (frz2_cons (frz_whole rfl rfl (by simp) (clo_map (fun _ => rfl))) (frz2_cons (frz_whole rfl rfl (by simp) (clo_map (fun _ => rfl))) (frz2_cons (frz_whole rfl rfl (by simp) (clo_map (fun _ => rfl))) (frz2_cons (frz_whole rfl rfl (by simp) (clo_map (fun _ => rfl))) frz2_nil))))), rfl⟩
theorem own_all {σ : Store} (i r g o : Nat) (n : Net) (z1 : n.ins.length * 16 ≤ 140737488355328) (z2 : n.regs.length * 32 ≤ 140737488355328) (z3 : n.gates.length * 16 ≤ 140737488355328) (z4 : n.outs.length * 24 ≤ 140737488355328) (ht : tabOK [i, r, g, o] = true) (hb : σ.below 1000 = true) (hf : Store.free [i, r, g, o] [] σ = true) : AC Try.prog 28 [encN n] σ (fun x σ' => ∃ vi vr vg vo, x = .ret (.agg [.slice i vi 0 n.ins.length, .slice r vr 0 n.regs.length, .slice g vg 0 n.gates.length, .slice o vo 0 n.outs.length]) ∧ σ' = (((σ.put o vo (.row 2 (n.outs.map encP))).put g vg (.row 2 (n.gates.map encG))).put r vr (.row 3 (n.regs.map encR))).put i vi (.row 1 (n.ins.map encS))) := by
  have hc : AC Try.prog 28 [encN n] [] (fun x σ' => ∃ vi vr vg vo, x = .ret (.agg [.slice 0 vi 0 n.ins.length, .slice 1 vr 0 n.regs.length, .slice 2 vg 0 n.gates.length, .slice 3 vo 0 n.outs.length]) ∧ σ' = [(0, vi, .row 1 (n.ins.map encS)), (1, vr, .row 3 (n.regs.map encR)), (2, vg, .row 2 (n.gates.map encG)), (3, vo, .row 2 (n.outs.map encP))]) := ac_mono (ac_keep (fun i => decide (i ≤ 3)) (q_own_all n z1 z2 z3 z4)) (by rintro r σ1 ⟨σ2, ⟨vi, vr, vg, vo, a, rfl, rfl, _, _, hk⟩, rfl⟩; exact ⟨vi, vr, vg, vo, rfl, hk⟩)
  have := ac_at (σ := σ) [i, r, g, o] ht hc trivial hf hb (by rintro r σ' _ j _; rfl)
  refine ac_mono this ?_
  rintro x σ' ⟨_, _, ⟨vi, vr, vg, vo, rfl, rfl⟩, rfl, rfl⟩
  refine ⟨vi, vr, vg, vo, rfl, ?_⟩
  have e1 : (AObj.row 1 (n.ins.map encS)).rn (tab [i, r, g, o]) = .row 1 (n.ins.map encS) := by show AObj.row 1 _ = _; rw [rn_rows (fun _ => rfl)]
  have e2 : (AObj.row 2 (n.gates.map encG)).rn (tab [i, r, g, o]) = .row 2 (n.gates.map encG) := by show AObj.row 2 _ = _; rw [rn_rows (fun _ => rfl)]
  have e3 : (AObj.row 3 (n.regs.map encR)).rn (tab [i, r, g, o]) = .row 3 (n.regs.map encR) := by show AObj.row 3 _ = _; rw [rn_rows (fun _ => rfl)]
  have e4 : (AObj.row 2 (n.outs.map encP)).rn (tab [i, r, g, o]) = .row 2 (n.outs.map encP) := by show AObj.row 2 _ = _; rw [rn_rows (fun _ => rfl)]
  simp only [Store.putAll, e1, e2, e3, e4]
  rfl

end Go.Proofs.Ytnnklpmgncbgnaa
