/- Printed walks (gen.py, gates_ann.py): part 24. -/
import Derived.Test.YtbpamlphacpkeaaW23
import Derived.Test.YtbpamlphacpkeaaFacts
set_option linter.unusedVariables false
set_option linter.unusedSimpArgs false
set_option maxRecDepth 20000
namespace Go.Proofs.Ytbpamlphacpkeaa
open Go

theorem q_copied (v0 v1 : Nat) (ins : List ByteArray) (regs : List (ByteArray × Int × Int)) (gates : List (Int × Int)) (outs : List (ByteArray × Int)) (z1 : ins.length * 16 ≤ 140737488355328) (z2 : regs.length * 32 ≤ 140737488355328) (z3 : gates.length * 16 ≤ 140737488355328) (z4 : outs.length * 24 ≤ 140737488355328) : AC Try.prog 77 [.agg [.list 1 (ins.map encS), .slice 0 v0 0 regs.length, .slice 1 v1 0 gates.length, .list 2 (outs.map encP)]] ([(0, v0, .row 3 (regs.map encR)), (1, v1, .row 2 (gates.map encG))]) (fun r σ' => r = .ret (encN ⟨ins, regs, gates, outs⟩) ∧ σ'.keep (fun i => decide (i ≤ 1)) = [(0, v0, .row 3 (regs.map encR)), (1, v1, .row 2 (gates.map encG))]) := by
  refine ac_enter 16 Try.func77 rfl rfl (by simp) ?_
  refine aw_seq ?_
  refine aw_region ?_
  (refine al_opR (op_box 31 rfl rfl (by first | rfl | exact live_one rfl | (repeat (first | exact all_live_nil | refine all_live_clo rfl ?_ | refine all_live_slice rfl ?_ | refine all_live_map rfl ?_ | refine all_live_ptr rfl ?_)))) rfl (by simp) ?_; rintro _ _ ⟨ver1, rfl, rfl⟩)
  (refine al_opR (op_alloc 32 info27 rfl rfl) rfl (by simp) ?_; rintro _ _ ⟨ver2, rfl, rfl⟩)
  refine al_nil ?_
  refine aw_seq ?_
  refine aw_any (Checked.mixed Try.checked) ?_
  apply aany_seg (p := 0) (q := 13) (by kernel_rfl) rfl (by decide)
  ·
    first
      | apply ql_plain rfl (op_field_rptr Try.underlying27 rfl info22 (by decide) rfl rfl)
      | apply ql_plain rfl (op_field_ptr Try.underlying27 rfl info22 (by decide) rfl rfl rfl)
    first
      | apply ql_plain rfl (op_load_rptr Try.underlying22 info22 rfl rfl)
      | apply ql_plain rfl (op_load_map Try.underlying22 info22 rfl rfl (by omega) rfl)
      | apply ql_plain rfl (op_load_ptr Try.underlying22 info22 rfl rfl rfl rfl)
    apply ql_call into70 rfl rfl rfl (acn_lend (lend_cons (by first | exact lend_same | exact .leaf _ _ (.vnil _) | exact .leaf _ _ (.nil _) | exact lend_whole rfl (by first | rfl | simp) (clo_map (fun _ => rfl))) lend_nil) (n_clone_S _ (by omega)))
    first
      | apply ql_plain rfl (op_field_rptr Try.underlying27 rfl info23 (by decide) rfl rfl)
      | apply ql_plain rfl (op_field_ptr Try.underlying27 rfl info23 (by decide) rfl rfl rfl)
    first
      | apply ql_plain rfl (op_load_rptr Try.underlying23 info23 rfl rfl)
      | apply ql_plain rfl (op_load_map Try.underlying23 info23 rfl rfl (by omega) rfl)
      | apply ql_plain rfl (op_load_ptr Try.underlying23 info23 rfl rfl rfl rfl)
    apply ql_call into93 rfl rfl rfl (acn_lend (lend_cons (by first | exact lend_same | exact .leaf _ _ (.vnil _) | exact .leaf _ _ (.nil _) | exact lend_whole rfl (by first | rfl | simp) (clo_map (fun _ => rfl))) lend_nil) (n_clone_R _ (by omega)))
    first
      | apply ql_plain rfl (op_field_rptr Try.underlying27 rfl info24 (by decide) rfl rfl)
      | apply ql_plain rfl (op_field_ptr Try.underlying27 rfl info24 (by decide) rfl rfl rfl)
    first
      | apply ql_plain rfl (op_load_rptr Try.underlying24 info24 rfl rfl)
      | apply ql_plain rfl (op_load_map Try.underlying24 info24 rfl rfl (by omega) rfl)
      | apply ql_plain rfl (op_load_ptr Try.underlying24 info24 rfl rfl rfl rfl)
    apply ql_call into94 rfl rfl rfl (acn_lend (lend_cons (by first | exact lend_same | exact .leaf _ _ (.vnil _) | exact .leaf _ _ (.nil _) | exact lend_whole rfl (by first | rfl | simp) (clo_map (fun _ => rfl))) lend_nil) (n_clone_G _ (by omega)))
    first
      | apply ql_plain rfl (op_field_rptr Try.underlying27 rfl info25 (by decide) rfl rfl)
      | apply ql_plain rfl (op_field_ptr Try.underlying27 rfl info25 (by decide) rfl rfl rfl)
    first
      | apply ql_plain rfl (op_load_rptr Try.underlying25 info25 rfl rfl)
      | apply ql_plain rfl (op_load_map Try.underlying25 info25 rfl rfl (by omega) rfl)
      | apply ql_plain rfl (op_load_ptr Try.underlying25 info25 rfl rfl rfl rfl)
    apply ql_call into78 rfl rfl rfl (acn_lend (lend_cons (by first | exact lend_same | exact .leaf _ _ (.vnil _) | exact .leaf _ _ (.nil _) | exact lend_whole rfl (by first | rfl | simp) (clo_map (fun _ => rfl))) lend_nil) (n_clone_P _ (by omega)))
    apply ql_plain rfl (op_build_struct Try.underlying27 info27 rfl place27 rfl (by first | rfl | (repeat (first | exact parts_nil | refine parts_cons rfl (by repeat (first | exact all_live_nil | refine all_live_clo rfl ?_ | refine all_live_slice rfl ?_ | refine all_live_map rfl ?_ | refine all_live_ptr rfl ?_)) ?_))) rfl)
    exact ql_nil
  · simp
  first
    | refine aany_op (by kernel_rfl) rfl rfl (op_store_ptr info27 rfl rfl rfl rfl rfl rfl (by first | rfl | exact live_one rfl | (repeat (first | exact all_live_nil | refine all_live_clo rfl ?_ | refine all_live_slice rfl ?_ | refine all_live_map rfl ?_ | refine all_live_ptr rfl ?_))) (by decide)) (by simp) ?_
    | refine aany_op (by kernel_rfl) rfl rfl (op_store_ptr info27 rfl rfl rfl rfl rfl rfl (by first | rfl | exact live_one rfl | (repeat (first | exact all_live_nil | refine all_live_clo rfl ?_ | refine all_live_slice rfl ?_ | refine all_live_map rfl ?_ | refine all_live_ptr rfl ?_))) (Nat.le_of_ble_eq_true rfl)) (by simp) ?_
  refine aany_end rfl (by kernel_rfl) ?_
  refine aw_ret ?_
  refine ⟨_, res_cell rfl Try.underlying27 info27 rfl rfl rfl rfl, ?_⟩
  exact ⟨rfl, rfl⟩
theorem m_copied {σ : Store} (r g v0 v1 : Nat) (ins : List ByteArray) (regs : List (ByteArray × Int × Int)) (gates : List (Int × Int)) (outs : List (ByteArray × Int)) (z1 : ins.length * 16 ≤ 140737488355328) (z2 : regs.length * 32 ≤ 140737488355328) (z3 : gates.length * 16 ≤ 140737488355328) (z4 : outs.length * 24 ≤ 140737488355328) (ht : tabOK [r, g] = true) (hb : σ.below 1000 = true) (h1 : σ.get r = some (v0, .row 3 (regs.map encR))) (h2 : σ.get g = some (v1, .row 2 (gates.map encG))) :
    AC Try.prog 77 [.agg [.list 1 (ins.map encS), .slice r v0 0 regs.length, .slice g v1 0 gates.length, .list 2 (outs.map encP)]] σ (fun x σ' => x = .ret (encN ⟨ins, regs, gates, outs⟩) ∧ σ' = σ) := by
  have h := ac_keep (fun i => decide (i ≤ 1)) (q_copied v0 v1 ins regs gates outs z1 z2 z3 z4)
  exact ac_ro [r, g] ht (ac_mono h (by rintro x σ1 ⟨σ2, ⟨rfl, e⟩, rfl⟩; exact ⟨rfl, e⟩)) (copied_match h1 h2) copied_free hb
end Go.Proofs.Ytbpamlphacpkeaa
