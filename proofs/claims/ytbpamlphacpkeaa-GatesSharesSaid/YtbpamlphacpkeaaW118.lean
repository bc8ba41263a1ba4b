/- Printed walks (gen.py, gates_ann.py): part 118. -/
import Derived.Test.YtbpamlphacpkeaaW116
import Derived.Test.YtbpamlphacpkeaaW117
import Derived.Test.YtbpamlphacpkeaaFacts
set_option linter.unusedVariables false
set_option linter.unusedSimpArgs false
set_option maxRecDepth 20000
set_option maxHeartbeats 40000000
namespace Go.Proofs.Ytbpamlphacpkeaa
open Go

theorem q_own_clean (n : Net) (z1 : n.ins.length * 16 ≤ 140737488355328) (z2 : n.regs.length * 32 ≤ 140737488355328) (z3 : n.gates.length * 16 ≤ 140737488355328) (z4 : n.outs.length * 24 ≤ 140737488355328) : AC Try.prog 52 [encN n] ([]) (fun r σ' => ∃ vr vo a, r = .ret a ∧ FrzT σ' (fun i => decide (i ≤ 1)) a (.agg [.list 1 (n.ins.map encS), .slice 0 vr 0 n.regs.length, .list 2 (n.gates.map encG), .slice 1 vo 0 n.outs.length]) ∧ σ'.keep (fun i => decide (i ≤ 1)) = [(0, vr, .row 3 (n.regs.map encR)), (1, vo, .row 2 (n.outs.map encP))]) := by
 refine ac_enter 20 Try.func52 rfl rfl (by simp) ?_
 refine aw_seq ?_
 refine aw_region ?_
 (refine al_opR (op_box 31 rfl rfl (by first | rfl | exact live_one rfl | (repeat (first | exact all_live_nil | refine all_live_clo rfl ?_ | refine all_live_slice rfl ?_ | refine all_live_map rfl ?_ | refine all_live_ptr rfl ?_)))) rfl (by simp) ?_; rintro _ _ ⟨ver1, rfl, rfl⟩)
 (refine al_opR (op_alloc 32 info27 rfl rfl) rfl (by simp) ?_; rintro _ _ ⟨ver2, rfl, rfl⟩)
 refine al_nil ?_
 refine aw_seq ?_
 refine aw_plan [0, 1, 2, 4, 5, 6, 8, 9, 10, 12, 13, 14, 3, 7, 11, 15, 16, 17] (Checked.mixed Try.checked) (by kernel_rfl) ?_
 refine afl_float rfl rfl (opk_of (op_build_nil Try.underlying22 info9 rfl rfl (by decide) rfl)) (by simp) ?_
 refine afl_float rfl rfl (opk_of (op_field_ptr Try.underlying27 rfl info22 (by decide) rfl rfl rfl)) (by simp) ?_
 refine afl_float rfl rfl (opk_of (op_load_ptr Try.underlying22 info22 rfl rfl rfl rfl)) (by simp) ?_
 refine afl_float rfl rfl (opk_of (op_build_nil Try.underlying23 info93 rfl rfl (by decide) rfl)) (by simp) ?_
 refine afl_float rfl rfl (opk_of (op_field_ptr Try.underlying27 rfl info23 (by decide) rfl rfl rfl)) (by simp) ?_
 refine afl_float rfl rfl (opk_of (op_load_ptr Try.underlying23 info23 rfl rfl rfl rfl)) (by simp) ?_
 refine afl_float rfl rfl (opk_of (op_build_nil Try.underlying24 info86 rfl rfl (by decide) rfl)) (by simp) ?_
 refine afl_float rfl rfl (opk_of (op_field_ptr Try.underlying27 rfl info24 (by decide) rfl rfl rfl)) (by simp) ?_
 refine afl_float rfl rfl (opk_of (op_load_ptr Try.underlying24 info24 rfl rfl rfl rfl)) (by simp) ?_
 refine afl_float rfl rfl (opk_of (op_build_nil Try.underlying25 info69 rfl rfl (by decide) rfl)) (by simp) ?_
 refine afl_float rfl rfl (opk_of (op_field_ptr Try.underlying27 rfl info25 (by decide) rfl rfl rfl)) (by simp) ?_
 refine afl_float rfl rfl (opk_of (op_load_ptr Try.underlying25 info25 rfl rfl rfl rfl)) (by simp) ?_
 (refine afl_effR rfl rfl (by kernel_rfl) (op_append_new 20 Try.underlying22 Try.underlying22 rfl info9 rfl rfl (by decide) rfl rfl rfl (by first | exact .list _ | exact .vnil | exact .nil | exact .row _ _ _ _ rfl (by first | rfl | simp)) rfl (by first | omega | (simp; done) | (simp; omega)) (by show _ * 16 ≤ _; first | omega | (simp; done) | (simp; omega))) (by simp) ?_; rintro _ _ ⟨ver6, rfl, rfl⟩; refine ⟨?_, ?_⟩)
 ·
  refine loose_k rfl (opk_of (op_load_ptr Try.underlying25 info25 rfl rfl rfl rfl)) ?_
  refine loose_k rfl (opk_of (op_field_ptr Try.underlying27 rfl info25 (by decide) rfl rfl rfl)) ?_
  refine loose_k rfl (opk_of (op_build_nil Try.underlying25 info69 rfl rfl (by decide) rfl)) ?_
  refine loose_k rfl (opk_of (op_load_ptr Try.underlying24 info24 rfl rfl rfl rfl)) ?_
  refine loose_k rfl (opk_of (op_field_ptr Try.underlying27 rfl info24 (by decide) rfl rfl rfl)) ?_
  refine loose_k rfl (opk_of (op_build_nil Try.underlying24 info86 rfl rfl (by decide) rfl)) ?_
  refine loose_k rfl (opk_of (op_load_ptr Try.underlying23 info23 rfl rfl rfl rfl)) ?_
  refine loose_k rfl (opk_of (op_field_ptr Try.underlying27 rfl info23 (by decide) rfl rfl rfl)) ?_
  refine loose_k rfl (opk_of (op_build_nil Try.underlying23 info93 rfl rfl (by decide) rfl)) ?_
  refine loose_anc 2 rfl (by kernel_rfl) ?_
  refine loose_anc 1 rfl (by kernel_rfl) ?_
  refine loose_anc 0 rfl (by kernel_rfl) ?_
  exact loose_nil
 (refine afl_effR rfl rfl (by kernel_rfl) (op_append_new 0 Try.underlying23 Try.underlying23 rfl info93 rfl rfl (by decide) rfl rfl rfl (by first | exact .list _ | exact .vnil | exact .nil | exact .row _ _ _ _ rfl (by first | rfl | simp)) rfl (by first | omega | (simp; done) | (simp; omega)) (by show _ * 32 ≤ _; first | omega | (simp; done) | (simp; omega))) (by simp) ?_; rintro _ _ ⟨ver10, rfl, rfl⟩; refine ⟨?_, ?_⟩)
 ·
  refine loose_anc 3 rfl (by kernel_rfl) ?_
  refine loose_k rfl (opk_of (op_load_ptr Try.underlying25 info25 rfl rfl rfl rfl)) ?_
  refine loose_k rfl (opk_of (op_field_ptr Try.underlying27 rfl info25 (by decide) rfl rfl rfl)) ?_
  refine loose_k rfl (opk_of (op_build_nil Try.underlying25 info69 rfl rfl (by decide) rfl)) ?_
  refine loose_k rfl (opk_of (op_load_ptr Try.underlying24 info24 rfl rfl rfl rfl)) ?_
  refine loose_k rfl (opk_of (op_field_ptr Try.underlying27 rfl info24 (by decide) rfl rfl rfl)) ?_
  refine loose_k rfl (opk_of (op_build_nil Try.underlying24 info86 rfl rfl (by decide) rfl)) ?_
  refine loose_anc 6 rfl (by kernel_rfl) ?_
  refine loose_anc 5 rfl (by kernel_rfl) ?_
  refine loose_anc 4 rfl (by kernel_rfl) ?_
  refine loose_anc 2 rfl (by kernel_rfl) ?_
  refine loose_anc 1 rfl (by kernel_rfl) ?_
  refine loose_anc 0 rfl (by kernel_rfl) ?_
  exact loose_nil
 (refine afl_effR rfl rfl (by kernel_rfl) (op_append_new 21 Try.underlying24 Try.underlying24 rfl info86 rfl rfl (by decide) rfl rfl rfl (by first | exact .list _ | exact .vnil | exact .nil | exact .row _ _ _ _ rfl (by first | rfl | simp)) rfl (by first | omega | (simp; done) | (simp; omega)) (by show _ * 16 ≤ _; first | omega | (simp; done) | (simp; omega))) (by simp) ?_; rintro _ _ ⟨ver14, rfl, rfl⟩; refine ⟨?_, ?_⟩)
 ·
  refine loose_anc 7 rfl (by kernel_rfl) ?_
  refine loose_anc 3 rfl (by kernel_rfl) ?_
  refine loose_k rfl (opk_of (op_load_ptr Try.underlying25 info25 rfl rfl rfl rfl)) ?_
  refine loose_k rfl (opk_of (op_field_ptr Try.underlying27 rfl info25 (by decide) rfl rfl rfl)) ?_
  refine loose_k rfl (opk_of (op_build_nil Try.underlying25 info69 rfl rfl (by decide) rfl)) ?_
  refine loose_anc 10 rfl (by kernel_rfl) ?_
  refine loose_anc 9 rfl (by kernel_rfl) ?_
  refine loose_anc 8 rfl (by kernel_rfl) ?_
  refine loose_anc 6 rfl (by kernel_rfl) ?_
  refine loose_anc 5 rfl (by kernel_rfl) ?_
  refine loose_anc 4 rfl (by kernel_rfl) ?_
  refine loose_anc 2 rfl (by kernel_rfl) ?_
  refine loose_anc 1 rfl (by kernel_rfl) ?_
  refine loose_anc 0 rfl (by kernel_rfl) ?_
  exact loose_nil
 (refine afl_effR rfl rfl (by kernel_rfl) (op_append_new 1 Try.underlying25 Try.underlying25 rfl info69 rfl rfl (by decide) rfl rfl rfl (by first | exact .list _ | exact .vnil | exact .nil | exact .row _ _ _ _ rfl (by first | rfl | simp)) rfl (by first | omega | (simp; done) | (simp; omega)) (by show _ * 24 ≤ _; first | omega | (simp; done) | (simp; omega))) (by simp) ?_; rintro _ _ ⟨ver18, rfl, rfl⟩; refine ⟨?_, ?_⟩)
 ·
  refine loose_anc 11 rfl (by kernel_rfl) ?_
  refine loose_anc 7 rfl (by kernel_rfl) ?_
  refine loose_anc 3 rfl (by kernel_rfl) ?_
  refine loose_anc 14 rfl (by kernel_rfl) ?_
  refine loose_anc 13 rfl (by kernel_rfl) ?_
  refine loose_anc 12 rfl (by kernel_rfl) ?_
  refine loose_anc 10 rfl (by kernel_rfl) ?_
  refine loose_anc 9 rfl (by kernel_rfl) ?_
  refine loose_anc 8 rfl (by kernel_rfl) ?_
  refine loose_anc 6 rfl (by kernel_rfl) ?_
  refine loose_anc 5 rfl (by kernel_rfl) ?_
  refine loose_anc 4 rfl (by kernel_rfl) ?_
  refine loose_anc 2 rfl (by kernel_rfl) ?_
  refine loose_anc 1 rfl (by kernel_rfl) ?_
  refine loose_anc 0 rfl (by kernel_rfl) ?_
  exact loose_nil
 refine afl_float rfl rfl (opk_of (op_build_struct Try.underlying27 info27 rfl place27 rfl (by first | rfl | (repeat (first | exact parts_nil | refine parts_cons rfl (by repeat (first | exact all_live_nil | refine all_live_clo rfl ?_ | refine all_live_slice rfl ?_ | refine all_live_map rfl ?_ | refine all_live_ptr rfl ?_)) ?_))) rfl)) (by simp) ?_
 (refine afl_eff rfl rfl (by kernel_rfl) (op_store_ptr info27 rfl rfl rfl rfl rfl rfl (by first | rfl | exact live_one rfl | (repeat (first | exact all_live_nil | refine all_live_clo rfl ?_ | refine all_live_slice rfl ?_ | refine all_live_map rfl ?_ | refine all_live_ptr rfl ?_))) (Nat.le_of_ble_eq_true rfl)) (by simp) ?_ ?_)
 ·
  refine loose_anc 16 rfl (by kernel_rfl) ?_
  refine loose_anc 15 rfl (by kernel_rfl) ?_
  refine loose_anc 11 rfl (by kernel_rfl) ?_
  refine loose_anc 7 rfl (by kernel_rfl) ?_
  refine loose_anc 3 rfl (by kernel_rfl) ?_
  refine loose_anc 14 rfl (by kernel_rfl) ?_
  refine loose_anc 13 rfl (by kernel_rfl) ?_
  refine loose_anc 12 rfl (by kernel_rfl) ?_
  refine loose_anc 10 rfl (by kernel_rfl) ?_
  refine loose_anc 9 rfl (by kernel_rfl) ?_
  refine loose_anc 8 rfl (by kernel_rfl) ?_
  refine loose_anc 6 rfl (by kernel_rfl) ?_
  refine loose_anc 5 rfl (by kernel_rfl) ?_
  refine loose_anc 4 rfl (by kernel_rfl) ?_
  refine loose_anc 2 rfl (by kernel_rfl) ?_
  refine loose_anc 1 rfl (by kernel_rfl) ?_
  refine loose_anc 0 rfl (by kernel_rfl) ?_
  exact loose_nil
 refine afl_end ?_
 refine aw_ret ?_
 refine ⟨_, res_cell rfl Try.underlying27 info27 rfl rfl rfl rfl, ?_⟩
 exact ⟨_, _, _, rfl, .one _ _ (.agg _ _ (frz2_cons (frz_whole rfl rfl (by simp) (clo_map (fun _ => rfl))) (frz2_cons (.same _) (frz2_cons (frz_whole rfl rfl (by simp) (clo_map (fun _ => rfl))) (frz2_cons (.same _) frz2_nil))))), rfl⟩
theorem own_clean {σ : Store} (r o : Nat) (n : Net) (z1 : n.ins.length * 16 ≤ 140737488355328) (z2 : n.regs.length * 32 ≤ 140737488355328) (z3 : n.gates.length * 16 ≤ 140737488355328) (z4 : n.outs.length * 24 ≤ 140737488355328) (ht : tabOK [r, o] = true) (hb : σ.below 1000 = true) (hf : Store.free [r, o] [] σ = true) : AC Try.prog 52 [encN n] σ (fun x σ' => ∃ vr vo, x = .ret (.agg [.list 1 (n.ins.map encS), .slice r vr 0 n.regs.length, .list 2 (n.gates.map encG), .slice o vo 0 n.outs.length]) ∧ σ' = (σ.put o vo (.row 2 (n.outs.map encP))).put r vr (.row 3 (n.regs.map encR))) := by
  have hc : AC Try.prog 52 [encN n] [] (fun x σ' => ∃ vr vo, x = .ret (.agg [.list 1 (n.ins.map encS), .slice 0 vr 0 n.regs.length, .list 2 (n.gates.map encG), .slice 1 vo 0 n.outs.length]) ∧ σ' = [(0, vr, .row 3 (n.regs.map encR)), (1, vo, .row 2 (n.outs.map encP))]) := ac_frz (fun i => decide (i ≤ 1)) (q_own_clean n z1 z2 z3 z4) (by rintro r σ1 ⟨vr, vo, a, rfl, hf, hk⟩; exact ⟨a, _, rfl, hf, vr, vo, rfl, hk⟩)
  have := ac_at (σ := σ) [r, o] ht hc trivial hf hb (by rintro r σ' _ j _; rfl)
  refine ac_mono this ?_
  rintro x σ' ⟨_, _, ⟨vr, vo, rfl, rfl⟩, rfl, rfl⟩
  refine ⟨vr, vo, rfl, ?_⟩
  have e3 : (AObj.row 2 (n.outs.map encP)).rn (tab [r, o]) = .row 2 (n.outs.map encP) := by show AObj.row 2 _ = _; rw [rn_rows (fun _ => rfl)]
  have e4 : (AObj.row 3 (n.regs.map encR)).rn (tab [r, o]) = .row 3 (n.regs.map encR) := by show AObj.row 3 _ = _; rw [rn_rows (fun _ => rfl)]
  simp only [Store.putAll, e3, e4]
  rfl
end Go.Proofs.Ytbpamlphacpkeaa
