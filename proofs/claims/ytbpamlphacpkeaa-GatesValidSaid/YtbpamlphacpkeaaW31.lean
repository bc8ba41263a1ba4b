/- Printed walks (gen.py, gates_ann.py): part 31. -/
import Derived.Test.YtbpamlphacpkeaaW27
import Derived.Test.YtbpamlphacpkeaaFacts
set_option linter.unusedVariables false
set_option linter.unusedSimpArgs false
set_option maxRecDepth 20000
namespace Go.Proofs.Ytbpamlphacpkeaa
open Go

theorem law_GatesValid (n : Net) (hn : n.Small) : ACp Try.prog 5 [encN n] (.v (.bool (true))) := by
  refine acp_of rfl ?_
  refine ac_enter 39 Try.func5 rfl rfl (by simp) ?_
  refine aw_seq ?_
  refine aw_region ?_
  (refine al_opR (op_box 1 rfl rfl (by first | rfl | exact live_one rfl | (repeat (first | exact all_live_nil | refine all_live_clo rfl ?_ | refine all_live_slice rfl ?_ | refine all_live_map rfl ?_ | refine all_live_ptr rfl ?_)))) rfl (by simp) ?_; rintro _ _ ⟨ver1, rfl, rfl⟩)
  refine al_op (op_assign rfl) rfl (by simp) ?_
  refine al_nil ?_
  refine aw_seq ?_
  refine aw_seq ?_
  refine aw_region ?_
  first
    | refine al_op (op_load_rptr Try.underlying27 info27 rfl rfl) rfl (by simp) ?_
    | refine al_op (op_load_map Try.underlying27 info27 rfl rfl (by omega) rfl) rfl (by simp) ?_
    | refine al_op (op_load_ptr Try.underlying27 info27 rfl rfl rfl rfl) rfl (by simp) ?_
  first
    | refine al_callp into14 rfl rfl rfl ((l_few _ (by assumption)) _) (by simp) ?_
    | refine al_callp into14 rfl rfl rfl (acp_lent (lend_cons (by first | exact lend_same | exact .leaf _ _ (.vnil _) | exact .leaf _ _ (.nil _) | exact lend_whole rfl (by first | rfl | simp) (clo_map (fun _ => rfl))) lend_nil) (l_few _ (by assumption)) rfl) (by simp) ?_
  refine al_op (op_not rfl) rfl (by simp) ?_
  refine al_nil ?_
  refine aw_cond rfl (fun h1 => ?_) (fun h1 => ?_)
  · have gh1 := h1
    try simp only [decide_eq_true_eq, decide_eq_false_iff_not, Bool.not_eq_true', Bool.not_eq_false', beq_iff_eq, bne_iff_ne, beq_eq_false_iff_ne, bne_eq_false_iff_eq, Bool.or_eq_true, Bool.and_eq_true, Bool.or_eq_false_iff, gt_iff_lt, ge_iff_le] at h1
    refine aw_seq ?_
    refine aw_region ?_
    first
      | refine al_callp into15 rfl rfl rfl ((l_awake ) _) (by simp) ?_
      | refine al_callp into15 rfl rfl rfl (acp_lent lend_nil (l_awake ) rfl) (by simp) ?_
    refine al_op (op_assign rfl) rfl (by simp) ?_
    refine al_nil ?_
    refine aw_freeze (fun _ => false) (fsub_cons (t := 2) rfl (.leaf _ _ (.same _)) fsub_nil) ?_
    refine aw_ret ?_
    refine ⟨_, res_1 rfl rfl, ?_, rfl⟩
    first | rfl | simp
  · have gh1 := h1
    try simp only [decide_eq_true_eq, decide_eq_false_iff_not, Bool.not_eq_true', Bool.not_eq_false', beq_iff_eq, bne_iff_ne, beq_eq_false_iff_ne, bne_eq_false_iff_eq, Bool.or_eq_true, Bool.and_eq_true, Bool.or_eq_false_iff, gt_iff_lt, ge_iff_le] at h1
    refine aw_skip ?_
    refine aw_seq ?_
    refine aw_region ?_
    first
      | refine al_op (op_load_rptr Try.underlying27 info27 rfl rfl) rfl (by simp) ?_
      | refine al_op (op_load_map Try.underlying27 info27 rfl rfl (by omega) rfl) rfl (by simp) ?_
      | refine al_op (op_load_ptr Try.underlying27 info27 rfl rfl rfl rfl) rfl (by simp) ?_
    first
      | refine al_callp into25 rfl rfl rfl ((c_nodes _ (by assumption)) _) (by simp) ?_
      | refine al_callp into25 rfl rfl rfl (acp_lent (lend_cons (by first | exact lend_same | exact .leaf _ _ (.vnil _) | exact .leaf _ _ (.nil _) | exact lend_whole rfl (by first | rfl | simp) (clo_map (fun _ => rfl))) lend_nil) (c_nodes _ (by assumption)) rfl) (by simp) ?_
    refine al_op (op_move rfl) rfl (by simp) ?_
    refine al_op (op_extract rfl rfl rfl) rfl (by simp) ?_
    refine al_op (op_extract rfl rfl rfl) rfl (by simp) ?_
    refine al_op (op_assign rfl) rfl (by simp) ?_
    refine al_op (op_assign rfl) rfl (by simp) ?_
    refine al_nil ?_
    refine aw_seq ?_
    refine aw_region ?_
    first
      | refine al_op (op_load_rptr Try.underlying27 info27 rfl rfl) rfl (by simp) ?_
      | refine al_op (op_load_map Try.underlying27 info27 rfl rfl (by omega) rfl) rfl (by simp) ?_
      | refine al_op (op_load_ptr Try.underlying27 info27 rfl rfl rfl rfl) rfl (by simp) ?_
    first
      | refine al_callp into26 rfl rfl rfl ((r_Nodes _ (by assumption)) _) (by simp) ?_
      | refine al_callp into26 rfl rfl rfl (acp_lent (lend_cons (by first | exact lend_same | exact .leaf _ _ (.vnil _) | exact .leaf _ _ (.nil _) | exact lend_whole rfl (by first | rfl | simp) (clo_map (fun _ => rfl))) lend_nil) (r_Nodes _ (by assumption)) rfl) (by simp) ?_
    refine al_op (op_move rfl) rfl (by simp) ?_
    refine al_op (op_extract rfl rfl rfl) rfl (by simp) ?_
    refine al_op (op_extract rfl rfl rfl) rfl (by simp) ?_
    refine al_op (op_assign rfl) rfl (by simp) ?_
    refine al_op (op_assign rfl) rfl (by simp) ?_
    refine al_nil ?_
    refine aw_seq ?_
    refine aw_any (Checked.mixed Try.checked) ?_
    apply aany_seg (p := 0) (q := 6) (by kernel_rfl) rfl (by decide)
    ·
      first
        | apply ql_plain rfl (op_load_rptr Try.underlying27 info27 rfl rfl)
        | apply ql_plain rfl (op_load_map Try.underlying27 info27 rfl rfl (by omega) rfl)
        | apply ql_plain rfl (op_load_ptr Try.underlying27 info27 rfl rfl rfl rfl)
      first
        | apply ql_call into27 rfl rfl rfl ((c_valid _ (by assumption)) _)
        | apply ql_call into27 rfl rfl rfl (acp_lent (lend_cons (by first | exact lend_same | exact .leaf _ _ (.vnil _) | exact .leaf _ _ (.nil _) | exact lend_whole rfl (by first | rfl | simp) (clo_map (fun _ => rfl))) lend_nil) (c_valid _ (by assumption)) rfl)
      first
        | apply ql_plain rfl (op_load_rptr Try.underlying27 info27 rfl rfl)
        | apply ql_plain rfl (op_load_map Try.underlying27 info27 rfl rfl (by omega) rfl)
        | apply ql_plain rfl (op_load_ptr Try.underlying27 info27 rfl rfl rfl rfl)
      first
        | apply ql_call into21 rfl rfl rfl ((r_Valid _ (by assumption)) _)
        | apply ql_call into21 rfl rfl rfl (acp_lent (lend_cons (by first | exact lend_same | exact .leaf _ _ (.vnil _) | exact .leaf _ _ (.nil _) | exact lend_whole rfl (by first | rfl | simp) (clo_map (fun _ => rfl))) lend_nil) (r_Valid _ (by assumption)) rfl)
      apply ql_plain rfl (op_beql Try.underlying4 rfl rfl)
      apply ql_plain rfl (op_move rfl)
      exact ql_nil
    · simp
    apply aany_and 6 10 26 30 (by kernel_rfl) rfl (by decide) rfl (by simp)
    · intro h2; have gh2 := h2
      try simp only [decide_eq_true_eq, decide_eq_false_iff_not, Bool.not_eq_true', Bool.not_eq_false', beq_iff_eq, bne_iff_ne, beq_eq_false_iff_ne, bne_eq_false_iff_eq, Bool.or_eq_true, Bool.and_eq_true, Bool.or_eq_false_iff, gt_iff_lt, ge_iff_le] at h2
      apply ql_ex
      ·
        apply ql_take rfl rfl rfl rfl (op_move rfl)
        apply ql_take rfl rfl rfl rfl (op_move rfl)
        apply ql_take rfl rfl rfl rfl (op_eql rfl rfl)
        first
          | apply ql_plain rfl (op_pick rfl rfl)
          | apply ql_plain rfl (op_and rfl rfl rfl)
        exact ql_nil
      · rfl
      · repeat (first | exact subx_refl | exact subx_known rfl gh2 subx_refl | refine subx_put rfl ?_)
    · intro h2; have gh2 := h2
      try simp only [decide_eq_true_eq, decide_eq_false_iff_not, Bool.not_eq_true', Bool.not_eq_false', beq_iff_eq, bne_iff_ne, beq_eq_false_iff_ne, bne_eq_false_iff_eq, Bool.or_eq_true, Bool.and_eq_true, Bool.or_eq_false_iff, gt_iff_lt, ge_iff_le] at h2
      apply ql_ex
      ·
        apply ql_pass rfl rfl rfl rfl
        apply ql_pass rfl rfl rfl rfl
        apply ql_pass rfl rfl rfl rfl
        first
          | apply ql_plain rfl (op_pick rfl rfl)
          | apply ql_plain rfl (op_and rfl rfl rfl)
        exact ql_nil
      · rfl
      · repeat (first | exact subx_refl | exact subx_known rfl gh2 subx_refl | refine subx_put rfl ?_)
    apply aany_seg (p := 10) (q := 11) (by kernel_rfl) rfl (by decide)
    ·
      apply ql_plain rfl (op_move rfl)
      exact ql_nil
    · simp
    apply aany_and 11 15 31 35 (by kernel_rfl) rfl (by decide) rfl (by simp)
    · intro h3; have gh3 := h3
      try simp only [decide_eq_true_eq, decide_eq_false_iff_not, Bool.not_eq_true', Bool.not_eq_false', beq_iff_eq, bne_iff_ne, beq_eq_false_iff_ne, bne_eq_false_iff_eq, Bool.or_eq_true, Bool.and_eq_true, Bool.or_eq_false_iff, gt_iff_lt, ge_iff_le] at h3
      apply ql_ex
      ·
        apply ql_take rfl rfl rfl rfl (op_move rfl)
        apply ql_take rfl rfl rfl rfl (op_move rfl)
        apply ql_take rfl rfl rfl rfl (op_eql rfl rfl)
        first
          | apply ql_plain rfl (op_pick rfl rfl)
          | apply ql_plain rfl (op_and rfl rfl rfl)
        exact ql_nil
      · rfl
      · repeat (first | exact subx_refl | exact subx_known rfl gh3 subx_refl | refine subx_put rfl ?_)
    · intro h3; have gh3 := h3
      try simp only [decide_eq_true_eq, decide_eq_false_iff_not, Bool.not_eq_true', Bool.not_eq_false', beq_iff_eq, bne_iff_ne, beq_eq_false_iff_ne, bne_eq_false_iff_eq, Bool.or_eq_true, Bool.and_eq_true, Bool.or_eq_false_iff, gt_iff_lt, ge_iff_le] at h3
      apply ql_ex
      ·
        apply ql_pass rfl rfl rfl rfl
        apply ql_pass rfl rfl rfl rfl
        apply ql_pass rfl rfl rfl rfl
        first
          | apply ql_plain rfl (op_pick rfl rfl)
          | apply ql_plain rfl (op_and rfl rfl rfl)
        exact ql_nil
      · rfl
      · repeat (first | exact subx_refl | exact subx_known rfl gh3 subx_refl | refine subx_put rfl ?_)
    apply aany_seg (p := 15) (q := 16) (by kernel_rfl) rfl (by decide)
    ·
      apply ql_plain rfl (op_move rfl)
      exact ql_nil
    · simp
    apply aany_and 16 18 36 38 (by kernel_rfl) rfl (by decide) rfl (by simp)
    · intro h4; have gh4 := h4
      try simp only [decide_eq_true_eq, decide_eq_false_iff_not, Bool.not_eq_true', Bool.not_eq_false', beq_iff_eq, bne_iff_ne, beq_eq_false_iff_ne, bne_eq_false_iff_eq, Bool.or_eq_true, Bool.and_eq_true, Bool.or_eq_false_iff, gt_iff_lt, ge_iff_le] at h4
      apply ql_ex
      ·
        first
          | apply ql_call_take into15 rfl rfl rfl rfl rfl rfl ((l_awake ) _)
          | apply ql_call_take into15 rfl rfl rfl rfl rfl rfl (acp_lent lend_nil (l_awake ) rfl)
        first
          | apply ql_plain rfl (op_pick rfl rfl)
          | apply ql_plain rfl (op_and rfl rfl rfl)
        exact ql_nil
      · rfl
      · repeat (first | exact subx_refl | exact subx_known rfl gh4 subx_refl | refine subx_put rfl ?_)
    · intro h4; have gh4 := h4
      try simp only [decide_eq_true_eq, decide_eq_false_iff_not, Bool.not_eq_true', Bool.not_eq_false', beq_iff_eq, bne_iff_ne, beq_eq_false_iff_ne, bne_eq_false_iff_eq, Bool.or_eq_true, Bool.and_eq_true, Bool.or_eq_false_iff, gt_iff_lt, ge_iff_le] at h4
      apply ql_ex
      ·
        apply ql_pass rfl rfl rfl rfl
        first
          | apply ql_plain rfl (op_pick rfl rfl)
          | apply ql_plain rfl (op_and rfl rfl rfl)
        exact ql_nil
      · rfl
      · repeat (first | exact subx_refl | exact subx_known rfl gh4 subx_refl | refine subx_put rfl ?_)
    apply aany_seg (p := 18) (q := 19) (by kernel_rfl) rfl (by decide)
    ·
      apply ql_plain rfl (op_assign rfl)
      exact ql_nil
    · simp
    refine aany_end rfl (by kernel_rfl) ?_
    refine aw_freeze (fun _ => false) (fsub_cons (t := 2) rfl (.leaf _ _ (.same _)) fsub_nil) ?_
    refine aw_ret ?_
    refine ⟨_, res_1 rfl rfl, ?_, rfl⟩
    first | rfl | simp
end Go.Proofs.Ytbpamlphacpkeaa
