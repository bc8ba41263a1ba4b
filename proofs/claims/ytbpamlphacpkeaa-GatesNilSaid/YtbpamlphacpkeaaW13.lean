/- Printed walks (gen.py, gates_ann.py): part 13. -/
import Derived.Test.YtbpamlphacpkeaaW12
import Derived.Test.YtbpamlphacpkeaaFacts
set_option linter.unusedVariables false
set_option linter.unusedSimpArgs false
set_option maxRecDepth 20000
namespace Go.Proofs.Ytbpamlphacpkeaa
open Go

theorem c_nodes (n : Net) (hn : n.Small) : ACp Try.prog 25 [encN n] (.tuple [.v (.int .i64 (n.nodes.1)), .v (.int .i64 (n.nodes.2))]) := by
  refine acp_of rfl ?_
  refine ac_enter 19 Try.func25 rfl rfl (by simp) ?_
  refine aw_seq ?_
  refine aw_region ?_
  (refine al_opR (op_box 1 rfl rfl (by first | rfl | exact live_one rfl | (repeat (first | exact all_live_nil | refine all_live_clo rfl ?_ | refine all_live_slice rfl ?_ | refine all_live_map rfl ?_ | refine all_live_ptr rfl ?_)))) rfl (by simp) ?_; rintro _ _ ⟨ver1, rfl, rfl⟩)
  refine al_op (op_assign rfl) rfl (by simp) ?_
  refine al_op (op_assign rfl) rfl (by simp) ?_
  refine al_nil ?_
  refine aw_seq ?_
  refine aw_seq ?_
  refine aw_region ?_
  first
    | refine al_op (op_load_rptr Try.underlying27 info27 rfl rfl) rfl (by simp) ?_
    | refine al_op (op_load_map Try.underlying27 info27 rfl rfl (by omega) rfl) rfl (by simp) ?_
    | refine al_op (op_load_ptr Try.underlying27 info27 rfl rfl rfl rfl) rfl (by simp) ?_
  first
    | refine al_callp into27 rfl rfl rfl ((c_valid _ (by assumption)) _) (by simp) ?_
    | refine al_callp into27 rfl rfl rfl (acp_lent (lend_cons (by first | exact lend_same | exact .leaf _ _ (.vnil _) | exact .leaf _ _ (.nil _) | exact lend_whole rfl (by first | rfl | simp) (clo_map (fun _ => rfl))) lend_nil) (c_valid _ (by assumption)) rfl) (by simp) ?_
  refine al_op (op_not rfl) rfl (by simp) ?_
  refine al_nil ?_
  refine aw_cond rfl (fun h1 => ?_) (fun h1 => ?_)
  · have gh1 := h1
    try simp only [decide_eq_true_eq, decide_eq_false_iff_not, Bool.not_eq_true', Bool.not_eq_false', beq_iff_eq, bne_iff_ne, beq_eq_false_iff_ne, bne_eq_false_iff_eq, Bool.or_eq_true, Bool.and_eq_true, Bool.or_eq_false_iff, gt_iff_lt, ge_iff_le] at h1
    refine aw_seq ?_
    refine aw_region ?_
    refine al_op (op_assign rfl) rfl (by simp) ?_
    refine al_op (op_assign rfl) rfl (by simp) ?_
    refine al_nil ?_
    refine aw_freeze (fun _ => false) (fsub_cons (t := 2) rfl (.leaf _ _ (.same _)) (fsub_cons (t := 3) rfl (.leaf _ _ (.same _)) fsub_nil)) ?_
    refine aw_ret ?_
    refine ⟨_, res_2 rfl rfl rfl rfl rfl, ?_, rfl⟩
    rw [Net.nodes, if_neg (by simpa using gh1)]
  · have gh1 := h1
    try simp only [decide_eq_true_eq, decide_eq_false_iff_not, Bool.not_eq_true', Bool.not_eq_false', beq_iff_eq, bne_iff_ne, beq_eq_false_iff_ne, bne_eq_false_iff_eq, Bool.or_eq_true, Bool.and_eq_true, Bool.or_eq_false_iff, gt_iff_lt, ge_iff_le] at h1
    have hv : n.valid = true := by simpa using gh1
    obtain ⟨f1, f2, f3, f4, f5, f6, f7⟩ := Net.valid_facts hv
    refine aw_skip ?_
    refine aw_seq ?_
    refine aw_region ?_
    first
      | refine al_op (op_field_rptr Try.underlying27 rfl info22 (by decide) rfl rfl) rfl (by simp) ?_
      | refine al_op (op_field_ptr Try.underlying27 rfl info22 (by decide) rfl rfl rfl) rfl (by simp) ?_
    first
      | refine al_op (op_load_rptr Try.underlying22 info22 rfl rfl) rfl (by simp) ?_
      | refine al_op (op_load_map Try.underlying22 info22 rfl rfl (by omega) rfl) rfl (by simp) ?_
      | refine al_op (op_load_ptr Try.underlying22 info22 rfl rfl rfl rfl) rfl (by simp) ?_
    first
      | refine al_op (op_len_map Try.underlying22 rfl) rfl (by simp) ?_
      | refine al_op (op_len_slice Try.underlying22 rfl rfl) rfl (by simp) ?_
      | refine al_op (op_len_list Try.underlying22 rfl) rfl (by simp) ?_
      | refine al_op (op_len_v Try.underlying22 rfl) rfl (by simp) ?_
      | refine al_op (op_len_nil Try.underlying22 rfl) rfl (by simp) ?_
    refine al_op (op_add rfl rfl (by first | exact wrap_i64 (by omega) (by omega))) rfl (by simp) ?_
    first
      | refine al_op (op_field_rptr Try.underlying27 rfl info23 (by decide) rfl rfl) rfl (by simp) ?_
      | refine al_op (op_field_ptr Try.underlying27 rfl info23 (by decide) rfl rfl rfl) rfl (by simp) ?_
    first
      | refine al_op (op_load_rptr Try.underlying23 info23 rfl rfl) rfl (by simp) ?_
      | refine al_op (op_load_map Try.underlying23 info23 rfl rfl (by omega) rfl) rfl (by simp) ?_
      | refine al_op (op_load_ptr Try.underlying23 info23 rfl rfl rfl rfl) rfl (by simp) ?_
    first
      | refine al_op (op_len_map Try.underlying23 rfl) rfl (by simp) ?_
      | refine al_op (op_len_slice Try.underlying23 rfl rfl) rfl (by simp) ?_
      | refine al_op (op_len_list Try.underlying23 rfl) rfl (by simp) ?_
      | refine al_op (op_len_v Try.underlying23 rfl) rfl (by simp) ?_
      | refine al_op (op_len_nil Try.underlying23 rfl) rfl (by simp) ?_
    refine al_op (op_add rfl rfl (by first | exact wrap_i64 (by omega) (by omega))) rfl (by simp) ?_
    first
      | refine al_op (op_field_rptr Try.underlying27 rfl info24 (by decide) rfl rfl) rfl (by simp) ?_
      | refine al_op (op_field_ptr Try.underlying27 rfl info24 (by decide) rfl rfl rfl) rfl (by simp) ?_
    first
      | refine al_op (op_load_rptr Try.underlying24 info24 rfl rfl) rfl (by simp) ?_
      | refine al_op (op_load_map Try.underlying24 info24 rfl rfl (by omega) rfl) rfl (by simp) ?_
      | refine al_op (op_load_ptr Try.underlying24 info24 rfl rfl rfl rfl) rfl (by simp) ?_
    first
      | refine al_op (op_len_map Try.underlying24 rfl) rfl (by simp) ?_
      | refine al_op (op_len_slice Try.underlying24 rfl rfl) rfl (by simp) ?_
      | refine al_op (op_len_list Try.underlying24 rfl) rfl (by simp) ?_
      | refine al_op (op_len_v Try.underlying24 rfl) rfl (by simp) ?_
      | refine al_op (op_len_nil Try.underlying24 rfl) rfl (by simp) ?_
    refine al_op (op_add rfl rfl (by first | exact wrap_i64 (by omega) (by omega))) rfl (by simp) ?_
    refine al_op (op_assign rfl) rfl (by simp) ?_
    refine al_op (op_assign rfl) rfl (by simp) ?_
    refine al_nil ?_
    refine aw_freeze (fun _ => false) (fsub_cons (t := 2) rfl (.leaf _ _ (.same _)) (fsub_cons (t := 3) rfl (.leaf _ _ (.same _)) fsub_nil)) ?_
    refine aw_ret ?_
    refine ⟨_, res_2 rfl rfl rfl rfl rfl, ?_, rfl⟩
    rw [Net.nodes, if_pos hv]
end Go.Proofs.Ytbpamlphacpkeaa
