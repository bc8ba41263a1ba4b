/- Printed walks (gen.py, gates_ann.py): part 11. -/
import Derived.Test.YtbpamlphacpkeaaW07
import Derived.Test.YtbpamlphacpkeaaFacts
set_option linter.unusedVariables false
set_option linter.unusedSimpArgs false
set_option maxRecDepth 20000
namespace Go.Proofs.Ytbpamlphacpkeaa
open Go

theorem r_Bit (b : Int) : ACp Try.prog 89 [.v (.int .u8 (b))] (.v (.bool (isBit4 b))) := by
  refine acp_of rfl ?_
  refine ac_enter 17 Try.func89 rfl rfl (by simp) ?_
  refine aw_seq ?_
  refine aw_region ?_
  refine al_op (op_assign rfl) rfl (by simp) ?_
  refine al_nil ?_
  refine aw_seq ?_
  refine aw_region ?_
  refine al_op (op_move rfl) rfl (by simp) ?_
  refine al_op (op_eql rfl rfl) rfl (by simp) ?_
  refine al_op (op_move rfl) rfl (by simp) ?_
  apply al_or 3 5 8 rfl
  · intro h1; have gh1 := h1
    try simp only [decide_eq_true_eq, decide_eq_false_iff_not, Bool.not_eq_true', Bool.not_eq_false', beq_iff_eq, bne_iff_ne, beq_eq_false_iff_ne, bne_eq_false_iff_eq, Bool.or_eq_true, Bool.and_eq_true, Bool.or_eq_false_iff, gt_iff_lt, ge_iff_le] at h1
    refine al_take (op_move rfl) rfl rfl rfl rfl (by simp) ?_
    refine al_take (op_eql rfl rfl) rfl rfl rfl rfl (by simp) ?_
    first
      | refine al_op (op_pick rfl rfl) rfl (by simp) ?_
      | refine al_op (op_or rfl rfl rfl) rfl (by simp) ?_
    refine al_nil ⟨rfl, rfl, rfl, keep_of ?_⟩
    repeat (first | exact subx_refl | exact subx_known rfl gh1 subx_refl | refine subx_put rfl ?_)
  · intro h1; have gh1 := h1
    try simp only [decide_eq_true_eq, decide_eq_false_iff_not, Bool.not_eq_true', Bool.not_eq_false', beq_iff_eq, bne_iff_ne, beq_eq_false_iff_ne, bne_eq_false_iff_eq, Bool.or_eq_true, Bool.and_eq_true, Bool.or_eq_false_iff, gt_iff_lt, ge_iff_le] at h1
    refine al_pass rfl rfl rfl rfl (by simp) ?_
    refine al_pass rfl rfl rfl rfl (by simp) ?_
    first
      | refine al_op (op_pick rfl rfl) rfl (by simp) ?_
      | refine al_op (op_or rfl rfl rfl) rfl (by simp) ?_
    refine al_nil ⟨rfl, rfl, rfl, keep_of ?_⟩
    repeat (first | exact subx_refl | exact subx_known rfl gh1 subx_refl | refine subx_put rfl ?_)
  refine al_op (op_move rfl) rfl (by simp) ?_
  apply al_or 3 9 12 rfl
  · intro h2; have gh2 := h2
    try simp only [decide_eq_true_eq, decide_eq_false_iff_not, Bool.not_eq_true', Bool.not_eq_false', beq_iff_eq, bne_iff_ne, beq_eq_false_iff_ne, bne_eq_false_iff_eq, Bool.or_eq_true, Bool.and_eq_true, Bool.or_eq_false_iff, gt_iff_lt, ge_iff_le] at h2
    refine al_take (op_move rfl) rfl rfl rfl rfl (by simp) ?_
    refine al_take (op_eql rfl rfl) rfl rfl rfl rfl (by simp) ?_
    first
      | refine al_op (op_pick rfl rfl) rfl (by simp) ?_
      | refine al_op (op_or rfl rfl rfl) rfl (by simp) ?_
    refine al_nil ⟨rfl, rfl, rfl, keep_of ?_⟩
    repeat (first | exact subx_refl | exact subx_known rfl gh2 subx_refl | refine subx_put rfl ?_)
  · intro h2; have gh2 := h2
    try simp only [decide_eq_true_eq, decide_eq_false_iff_not, Bool.not_eq_true', Bool.not_eq_false', beq_iff_eq, bne_iff_ne, beq_eq_false_iff_ne, bne_eq_false_iff_eq, Bool.or_eq_true, Bool.and_eq_true, Bool.or_eq_false_iff, gt_iff_lt, ge_iff_le] at h2
    refine al_pass rfl rfl rfl rfl (by simp) ?_
    refine al_pass rfl rfl rfl rfl (by simp) ?_
    first
      | refine al_op (op_pick rfl rfl) rfl (by simp) ?_
      | refine al_op (op_or rfl rfl rfl) rfl (by simp) ?_
    refine al_nil ⟨rfl, rfl, rfl, keep_of ?_⟩
    repeat (first | exact subx_refl | exact subx_known rfl gh2 subx_refl | refine subx_put rfl ?_)
  refine al_op (op_move rfl) rfl (by simp) ?_
  apply al_or 3 13 16 rfl
  · intro h3; have gh3 := h3
    try simp only [decide_eq_true_eq, decide_eq_false_iff_not, Bool.not_eq_true', Bool.not_eq_false', beq_iff_eq, bne_iff_ne, beq_eq_false_iff_ne, bne_eq_false_iff_eq, Bool.or_eq_true, Bool.and_eq_true, Bool.or_eq_false_iff, gt_iff_lt, ge_iff_le] at h3
    refine al_take (op_move rfl) rfl rfl rfl rfl (by simp) ?_
    refine al_take (op_eql rfl rfl) rfl rfl rfl rfl (by simp) ?_
    first
      | refine al_op (op_pick rfl rfl) rfl (by simp) ?_
      | refine al_op (op_or rfl rfl rfl) rfl (by simp) ?_
    refine al_nil ⟨rfl, rfl, rfl, keep_of ?_⟩
    repeat (first | exact subx_refl | exact subx_known rfl gh3 subx_refl | refine subx_put rfl ?_)
  · intro h3; have gh3 := h3
    try simp only [decide_eq_true_eq, decide_eq_false_iff_not, Bool.not_eq_true', Bool.not_eq_false', beq_iff_eq, bne_iff_ne, beq_eq_false_iff_ne, bne_eq_false_iff_eq, Bool.or_eq_true, Bool.and_eq_true, Bool.or_eq_false_iff, gt_iff_lt, ge_iff_le] at h3
    refine al_pass rfl rfl rfl rfl (by simp) ?_
    refine al_pass rfl rfl rfl rfl (by simp) ?_
    first
      | refine al_op (op_pick rfl rfl) rfl (by simp) ?_
      | refine al_op (op_or rfl rfl rfl) rfl (by simp) ?_
    refine al_nil ⟨rfl, rfl, rfl, keep_of ?_⟩
    repeat (first | exact subx_refl | exact subx_known rfl gh3 subx_refl | refine subx_put rfl ?_)
  refine al_op (op_assign rfl) rfl (by simp) ?_
  refine al_nil ?_
  refine aw_freeze (fun _ => false) (fsub_cons (t := 2) rfl (.leaf _ _ (.same _)) fsub_nil) ?_
  refine aw_ret ?_
  refine ⟨_, res_1 rfl rfl, ?_, rfl⟩
  first | rfl | simp_all

theorem r_ofc (c : Int) : ACp Try.prog 90 [.v (.int .u8 (c))] (.tuple [.v (.int .u8 (ofC c)), .v (.bool (ofCok c))]) := by
  refine acp_of rfl ?_
  refine ac_enter 13 Try.func90 rfl rfl (by simp) ?_
  refine aw_seq ?_
  refine aw_region ?_
  refine al_op (op_assign rfl) rfl (by simp) ?_
  refine al_op (op_assign rfl) rfl (by simp) ?_
  refine al_nil ?_
  refine aw_seq ?_
  refine aw_seq ?_
  refine aw_region ?_
  refine al_op (op_move rfl) rfl (by simp) ?_
  refine al_nil ?_
  refine aw_block ?_
  refine aw_seq ?_
  refine aw_region ?_
  refine al_op (op_eql rfl rfl) rfl (by simp) ?_
  refine al_op (op_assign rfl) rfl (by simp) ?_
  refine al_nil ?_
  refine aw_cond rfl (fun h1 => ?_) (fun h1 => ?_)
  · have gh1 := h1
    try simp only [decide_eq_true_eq, decide_eq_false_iff_not, Bool.not_eq_true', Bool.not_eq_false', beq_iff_eq, bne_iff_ne, beq_eq_false_iff_ne, bne_eq_false_iff_eq, Bool.or_eq_true, Bool.and_eq_true, Bool.or_eq_false_iff, gt_iff_lt, ge_iff_le] at h1
    refine aw_seq ?_
    refine aw_region ?_
    refine al_op (op_assign rfl) rfl (by simp) ?_
    refine al_op (op_assign rfl) rfl (by simp) ?_
    refine al_nil ?_
    refine aw_freeze (fun _ => false) (fsub_cons (t := 2) rfl (.leaf _ _ (.same _)) (fsub_cons (t := 3) rfl (.leaf _ _ (.same _)) fsub_nil)) ?_
    refine aw_ret ?_
    refine ⟨_, res_2 rfl rfl rfl rfl rfl, ?_, rfl⟩
    simp_all [ofC, ofCok]
  · have gh1 := h1
    try simp only [decide_eq_true_eq, decide_eq_false_iff_not, Bool.not_eq_true', Bool.not_eq_false', beq_iff_eq, bne_iff_ne, beq_eq_false_iff_ne, bne_eq_false_iff_eq, Bool.or_eq_true, Bool.and_eq_true, Bool.or_eq_false_iff, gt_iff_lt, ge_iff_le] at h1
    refine aw_seq ?_
    refine aw_region ?_
    refine al_op (op_eql rfl rfl) rfl (by simp) ?_
    refine al_op (op_assign rfl) rfl (by simp) ?_
    refine al_nil ?_
    refine aw_cond rfl (fun h2 => ?_) (fun h2 => ?_)
    · have gh2 := h2
      try simp only [decide_eq_true_eq, decide_eq_false_iff_not, Bool.not_eq_true', Bool.not_eq_false', beq_iff_eq, bne_iff_ne, beq_eq_false_iff_ne, bne_eq_false_iff_eq, Bool.or_eq_true, Bool.and_eq_true, Bool.or_eq_false_iff, gt_iff_lt, ge_iff_le] at h2
      refine aw_seq ?_
      refine aw_region ?_
      refine al_op (op_assign rfl) rfl (by simp) ?_
      refine al_op (op_assign rfl) rfl (by simp) ?_
      refine al_nil ?_
      refine aw_freeze (fun _ => false) (fsub_cons (t := 2) rfl (.leaf _ _ (.same _)) (fsub_cons (t := 3) rfl (.leaf _ _ (.same _)) fsub_nil)) ?_
      refine aw_ret ?_
      refine ⟨_, res_2 rfl rfl rfl rfl rfl, ?_, rfl⟩
      simp_all [ofC, ofCok]
    · have gh2 := h2
      try simp only [decide_eq_true_eq, decide_eq_false_iff_not, Bool.not_eq_true', Bool.not_eq_false', beq_iff_eq, bne_iff_ne, beq_eq_false_iff_ne, bne_eq_false_iff_eq, Bool.or_eq_true, Bool.and_eq_true, Bool.or_eq_false_iff, gt_iff_lt, ge_iff_le] at h2
      refine aw_seq ?_
      refine aw_region ?_
      refine al_op (op_eql rfl rfl) rfl (by simp) ?_
      refine al_op (op_assign rfl) rfl (by simp) ?_
      refine al_nil ?_
      refine aw_cond rfl (fun h3 => ?_) (fun h3 => ?_)
      · have gh3 := h3
        try simp only [decide_eq_true_eq, decide_eq_false_iff_not, Bool.not_eq_true', Bool.not_eq_false', beq_iff_eq, bne_iff_ne, beq_eq_false_iff_ne, bne_eq_false_iff_eq, Bool.or_eq_true, Bool.and_eq_true, Bool.or_eq_false_iff, gt_iff_lt, ge_iff_le] at h3
        refine aw_seq ?_
        refine aw_region ?_
        refine al_op (op_assign rfl) rfl (by simp) ?_
        refine al_op (op_assign rfl) rfl (by simp) ?_
        refine al_nil ?_
        refine aw_freeze (fun _ => false) (fsub_cons (t := 2) rfl (.leaf _ _ (.same _)) (fsub_cons (t := 3) rfl (.leaf _ _ (.same _)) fsub_nil)) ?_
        refine aw_ret ?_
        refine ⟨_, res_2 rfl rfl rfl rfl rfl, ?_, rfl⟩
        simp_all [ofC, ofCok]
      · have gh3 := h3
        try simp only [decide_eq_true_eq, decide_eq_false_iff_not, Bool.not_eq_true', Bool.not_eq_false', beq_iff_eq, bne_iff_ne, beq_eq_false_iff_ne, bne_eq_false_iff_eq, Bool.or_eq_true, Bool.and_eq_true, Bool.or_eq_false_iff, gt_iff_lt, ge_iff_le] at h3
        refine aw_seq ?_
        refine aw_region ?_
        refine al_op (op_eql rfl rfl) rfl (by simp) ?_
        refine al_op (op_assign rfl) rfl (by simp) ?_
        refine al_nil ?_
        refine aw_cond rfl (fun h4 => ?_) (fun h4 => ?_)
        · have gh4 := h4
          try simp only [decide_eq_true_eq, decide_eq_false_iff_not, Bool.not_eq_true', Bool.not_eq_false', beq_iff_eq, bne_iff_ne, beq_eq_false_iff_ne, bne_eq_false_iff_eq, Bool.or_eq_true, Bool.and_eq_true, Bool.or_eq_false_iff, gt_iff_lt, ge_iff_le] at h4
          refine aw_seq ?_
          refine aw_region ?_
          refine al_op (op_assign rfl) rfl (by simp) ?_
          refine al_op (op_assign rfl) rfl (by simp) ?_
          refine al_nil ?_
          refine aw_freeze (fun _ => false) (fsub_cons (t := 2) rfl (.leaf _ _ (.same _)) (fsub_cons (t := 3) rfl (.leaf _ _ (.same _)) fsub_nil)) ?_
          refine aw_ret ?_
          refine ⟨_, res_2 rfl rfl rfl rfl rfl, ?_, rfl⟩
          simp_all [ofC, ofCok]
        · have gh4 := h4
          try simp only [decide_eq_true_eq, decide_eq_false_iff_not, Bool.not_eq_true', Bool.not_eq_false', beq_iff_eq, bne_iff_ne, beq_eq_false_iff_ne, bne_eq_false_iff_eq, Bool.or_eq_true, Bool.and_eq_true, Bool.or_eq_false_iff, gt_iff_lt, ge_iff_le] at h4
          refine aw_skip ?_
          refine aw_seq ?_
          refine aw_region ?_
          refine al_op (op_assign rfl) rfl (by simp) ?_
          refine al_op (op_assign rfl) rfl (by simp) ?_
          refine al_nil ?_
          refine aw_freeze (fun _ => false) (fsub_cons (t := 2) rfl (.leaf _ _ (.same _)) (fsub_cons (t := 3) rfl (.leaf _ _ (.same _)) fsub_nil)) ?_
          refine aw_ret ?_
          refine ⟨_, res_2 rfl rfl rfl rfl rfl, ?_, rfl⟩
          simp_all [ofC, ofCok]

theorem r_table  : ACp Try.prog 88 [.v (.string (ByteArray.mk #[97, 110, 100]))] (.tuple [.v (.string (ByteArray.mk #[48, 48, 48, 48, 48, 49, 120, 120, 48, 120, 120, 120, 48, 120, 120, 120])), .v (.bool (true))]) := by
  refine acp_of rfl ?_
  refine ac_enter 17 Try.func88 rfl rfl (by simp) ?_
  refine aw_seq ?_
  refine aw_region ?_
  refine al_op (op_assign rfl) rfl (by simp) ?_
  refine al_op (op_assign rfl) rfl (by simp) ?_
  refine al_nil ?_
  refine aw_seq ?_
  refine aw_seq ?_
  refine aw_region ?_
  refine al_op (op_move rfl) rfl (by simp) ?_
  refine al_nil ?_
  refine aw_block ?_
  refine aw_seq ?_
  refine aw_region ?_
  refine al_op (op_seql rfl rfl) rfl (by simp) ?_
  refine al_op (op_assign rfl) rfl (by simp) ?_
  refine al_nil ?_
  refine aw_cond rfl (fun h1 => ?_) (fun h1 => ?_)
  · have gh1 := h1
    try simp only [decide_eq_true_eq, decide_eq_false_iff_not, Bool.not_eq_true', Bool.not_eq_false', beq_iff_eq, bne_iff_ne, beq_eq_false_iff_ne, bne_eq_false_iff_eq, Bool.or_eq_true, Bool.and_eq_true, Bool.or_eq_false_iff, gt_iff_lt, ge_iff_le] at h1
    refine aw_seq ?_
    refine aw_region ?_
    refine al_op (op_assign rfl) rfl (by simp) ?_
    refine al_op (op_assign rfl) rfl (by simp) ?_
    refine al_nil ?_
    refine aw_freeze (fun _ => false) (fsub_cons (t := 2) rfl (.leaf _ _ (.same _)) (fsub_cons (t := 3) rfl (.leaf _ _ (.same _)) fsub_nil)) ?_
    refine aw_ret ?_
    refine ⟨_, res_2 rfl rfl rfl rfl rfl, ?_, rfl⟩
    first | rfl | simp_all
  · have gh1 := h1
    try simp only [decide_eq_true_eq, decide_eq_false_iff_not, Bool.not_eq_true', Bool.not_eq_false', beq_iff_eq, bne_iff_ne, beq_eq_false_iff_ne, bne_eq_false_iff_eq, Bool.or_eq_true, Bool.and_eq_true, Bool.or_eq_false_iff, gt_iff_lt, ge_iff_le] at h1
    exact absurd gh1 (by rw [← Go.beq_toListBytes]; decide)

theorem r_Op (a b : Int) (ha : isBit a) (hb : isBit b) : ACp Try.prog 59 [.v (.string (ByteArray.mk #[97, 110, 100])), .v (.int .u8 (a)), .v (.int .u8 (b))] (.tuple [.v (.int .u8 (bothB a b)), .v (.int .i64 (0))]) := by
  refine acp_of rfl ?_
  have ra : 0 ≤ a ∧ a ≤ 2 := by unfold isBit at ha; omega
  have rb : 0 ≤ b ∧ b ≤ 2 := by unfold isBit at hb; omega
  have ka : isBit4 a = true := by unfold isBit at ha; rcases ha with rfl | rfl | rfl <;> rfl
  have kb : isBit4 b = true := by unfold isBit at hb; rcases hb with rfl | rfl | rfl <;> rfl
  refine ac_enter 42 Try.func59 rfl rfl (by simp) ?_
  refine aw_seq ?_
  refine aw_region ?_
  refine al_op (op_assign rfl) rfl (by simp) ?_
  refine al_op (op_assign rfl) rfl (by simp) ?_
  refine al_nil ?_
  refine aw_seq ?_
  refine aw_region ?_
  refine al_op (op_move rfl) rfl (by simp) ?_
  first
    | refine al_callp into88 rfl rfl rfl ((r_table ) _) (by simp) ?_
    | refine al_callp into88 rfl rfl rfl (acp_lent (lend_cons (by first | exact lend_same | exact .leaf _ _ (.vnil _) | exact .leaf _ _ (.nil _) | exact lend_whole rfl (by first | rfl | simp) (clo_map (fun _ => rfl))) lend_nil) (r_table ) rfl) (by simp) ?_
  refine al_op (op_move rfl) rfl (by simp) ?_
  refine al_op (op_extract rfl rfl rfl) rfl (by simp) ?_
  refine al_op (op_extract rfl rfl rfl) rfl (by simp) ?_
  refine al_op (op_assign rfl) rfl (by simp) ?_
  refine al_op (op_assign rfl) rfl (by simp) ?_
  refine al_nil ?_
  refine aw_seq ?_
  refine aw_seq ?_
  refine aw_region ?_
  refine al_op (op_move rfl) rfl (by simp) ?_
  refine al_op (op_not rfl) rfl (by simp) ?_
  refine al_op (op_move rfl) rfl (by simp) ?_
  apply al_or 4 19 23 rfl
  · intro h1; have gh1 := h1
    try simp only [decide_eq_true_eq, decide_eq_false_iff_not, Bool.not_eq_true', Bool.not_eq_false', beq_iff_eq, bne_iff_ne, beq_eq_false_iff_ne, bne_eq_false_iff_eq, Bool.or_eq_true, Bool.and_eq_true, Bool.or_eq_false_iff, gt_iff_lt, ge_iff_le] at h1
    refine al_take (op_move rfl) rfl rfl rfl rfl (by simp) ?_
    first
      | refine al_callp_take into89 rfl rfl rfl rfl rfl rfl ((r_Bit _) _) (by simp) ?_
      | refine al_callp_take into89 rfl rfl rfl rfl rfl rfl (acp_lent (lend_cons (by first | exact lend_same | exact .leaf _ _ (.vnil _) | exact .leaf _ _ (.nil _) | exact lend_whole rfl (by first | rfl | simp) (clo_map (fun _ => rfl))) lend_nil) (r_Bit _) rfl) (by simp) ?_
    refine al_take (op_not rfl) rfl rfl rfl rfl (by simp) ?_
    first
      | refine al_op (op_pick rfl rfl) rfl (by simp) ?_
      | refine al_op (op_or rfl rfl rfl) rfl (by simp) ?_
    refine al_nil ⟨rfl, rfl, rfl, keep_of ?_⟩
    repeat (first | exact subx_refl | exact subx_known rfl gh1 subx_refl | refine subx_put rfl ?_)
  · intro h1; have gh1 := h1
    try simp only [decide_eq_true_eq, decide_eq_false_iff_not, Bool.not_eq_true', Bool.not_eq_false', beq_iff_eq, bne_iff_ne, beq_eq_false_iff_ne, bne_eq_false_iff_eq, Bool.or_eq_true, Bool.and_eq_true, Bool.or_eq_false_iff, gt_iff_lt, ge_iff_le] at h1
    refine al_pass rfl rfl rfl rfl (by simp) ?_
    refine al_pass rfl rfl rfl rfl (by simp) ?_
    refine al_pass rfl rfl rfl rfl (by simp) ?_
    first
      | refine al_op (op_pick rfl rfl) rfl (by simp) ?_
      | refine al_op (op_or rfl rfl rfl) rfl (by simp) ?_
    refine al_nil ⟨rfl, rfl, rfl, keep_of ?_⟩
    repeat (first | exact subx_refl | exact subx_known rfl gh1 subx_refl | refine subx_put rfl ?_)
  refine al_op (op_move rfl) rfl (by simp) ?_
  apply al_or 4 24 28 rfl
  · intro h2; have gh2 := h2
    try simp only [decide_eq_true_eq, decide_eq_false_iff_not, Bool.not_eq_true', Bool.not_eq_false', beq_iff_eq, bne_iff_ne, beq_eq_false_iff_ne, bne_eq_false_iff_eq, Bool.or_eq_true, Bool.and_eq_true, Bool.or_eq_false_iff, gt_iff_lt, ge_iff_le] at h2
    refine al_take (op_move rfl) rfl rfl rfl rfl (by simp) ?_
    first
      | refine al_callp_take into89 rfl rfl rfl rfl rfl rfl ((r_Bit _) _) (by simp) ?_
      | refine al_callp_take into89 rfl rfl rfl rfl rfl rfl (acp_lent (lend_cons (by first | exact lend_same | exact .leaf _ _ (.vnil _) | exact .leaf _ _ (.nil _) | exact lend_whole rfl (by first | rfl | simp) (clo_map (fun _ => rfl))) lend_nil) (r_Bit _) rfl) (by simp) ?_
    refine al_take (op_not rfl) rfl rfl rfl rfl (by simp) ?_
    first
      | refine al_op (op_pick rfl rfl) rfl (by simp) ?_
      | refine al_op (op_or rfl rfl rfl) rfl (by simp) ?_
    refine al_nil ⟨rfl, rfl, rfl, keep_of ?_⟩
    repeat (first | exact subx_refl | exact subx_known rfl gh2 subx_refl | refine subx_put rfl ?_)
  · intro h2; have gh2 := h2
    try simp only [decide_eq_true_eq, decide_eq_false_iff_not, Bool.not_eq_true', Bool.not_eq_false', beq_iff_eq, bne_iff_ne, beq_eq_false_iff_ne, bne_eq_false_iff_eq, Bool.or_eq_true, Bool.and_eq_true, Bool.or_eq_false_iff, gt_iff_lt, ge_iff_le] at h2
    refine al_pass rfl rfl rfl rfl (by simp) ?_
    refine al_pass rfl rfl rfl rfl (by simp) ?_
    refine al_pass rfl rfl rfl rfl (by simp) ?_
    first
      | refine al_op (op_pick rfl rfl) rfl (by simp) ?_
      | refine al_op (op_or rfl rfl rfl) rfl (by simp) ?_
    refine al_nil ⟨rfl, rfl, rfl, keep_of ?_⟩
    repeat (first | exact subx_refl | exact subx_known rfl gh2 subx_refl | refine subx_put rfl ?_)
  refine al_nil ?_
  refine aw_cond rfl (fun h3 => ?_) (fun h3 => ?_)
  · have gh3 := h3
    try simp only [decide_eq_true_eq, decide_eq_false_iff_not, Bool.not_eq_true', Bool.not_eq_false', beq_iff_eq, bne_iff_ne, beq_eq_false_iff_ne, bne_eq_false_iff_eq, Bool.or_eq_true, Bool.and_eq_true, Bool.or_eq_false_iff, gt_iff_lt, ge_iff_le] at h3
    rw [ka, kb] at gh3; exact absurd gh3 (by decide)
  · have gh3 := h3
    try simp only [decide_eq_true_eq, decide_eq_false_iff_not, Bool.not_eq_true', Bool.not_eq_false', beq_iff_eq, bne_iff_ne, beq_eq_false_iff_ne, bne_eq_false_iff_eq, Bool.or_eq_true, Bool.and_eq_true, Bool.or_eq_false_iff, gt_iff_lt, ge_iff_le] at h3
    refine aw_skip ?_
    refine aw_seq ?_
    refine aw_region ?_
    refine al_op (op_move rfl) rfl (by simp) ?_
    refine al_op (op_move rfl) rfl (by simp) ?_
    refine al_op (op_conv Try.underlying65 Try.underlying3 rfl (wrap_i64 (by omega) (by omega))) rfl (by simp) ?_
    refine al_op (op_mul rfl rfl (by first | exact wrap_i64 (by omega) (by omega))) rfl (by simp) ?_
    refine al_op (op_move rfl) rfl (by simp) ?_
    refine al_op (op_conv Try.underlying65 Try.underlying3 rfl (wrap_i64 (by omega) (by omega))) rfl (by simp) ?_
    refine al_op (op_add rfl rfl (by first | exact wrap_i64 (by omega) (by omega))) rfl (by simp) ?_
    refine al_op (op_sindex_at Try.underlying9 rfl rfl rfl (by omega) (by show _ < 16; omega)) rfl (by simp) ?_
    first
      | refine al_callp into90 rfl rfl rfl ((r_ofc _) _) (by simp) ?_
      | refine al_callp into90 rfl rfl rfl (acp_lent (lend_cons (by first | exact lend_same | exact .leaf _ _ (.vnil _) | exact .leaf _ _ (.nil _) | exact lend_whole rfl (by first | rfl | simp) (clo_map (fun _ => rfl))) lend_nil) (r_ofc _) rfl) (by simp) ?_
    refine al_op (op_move rfl) rfl (by simp) ?_
    refine al_op (op_extract rfl rfl rfl) rfl (by simp) ?_
    refine al_op (op_extract rfl rfl rfl) rfl (by simp) ?_
    refine al_op (op_assign rfl) rfl (by simp) ?_
    refine al_op (op_assign rfl) rfl (by simp) ?_
    refine al_nil ?_
    refine aw_seq ?_
    refine aw_region ?_
    refine al_op (op_move rfl) rfl (by simp) ?_
    refine al_op (op_assign rfl) rfl (by simp) ?_
    refine al_op (op_assign rfl) rfl (by simp) ?_
    refine al_nil ?_
    refine aw_freeze (fun _ => false) (fsub_cons (t := 6) rfl (.leaf _ _ (.same _)) (fsub_cons (t := 7) rfl (.leaf _ _ (.same _)) fsub_nil)) ?_
    refine aw_ret ?_
    refine ⟨_, res_2 rfl rfl rfl rfl rfl, ?_, rfl⟩
    unfold isBit at ha hb; rcases ha with rfl | rfl | rfl <;> rcases hb with rfl | rfl | rfl <;> rfl

theorem r_Not (a : Int) (ha : isBit a) : ACp Try.prog 85 [.v (.int .u8 (a))] (.tuple [.v (.int .u8 (notB a)), .v (.int .i64 (0))]) := by
  refine acp_of rfl ?_
  have ra : 0 ≤ a ∧ a ≤ 2 := by unfold isBit at ha; omega
  have ka : isBit4 a = true := by unfold isBit at ha; rcases ha with rfl | rfl | rfl <;> rfl
  refine ac_enter 16 Try.func85 rfl rfl (by simp) ?_
  refine aw_seq ?_
  refine aw_region ?_
  refine al_op (op_assign rfl) rfl (by simp) ?_
  refine al_op (op_assign rfl) rfl (by simp) ?_
  refine al_nil ?_
  refine aw_seq ?_
  refine aw_seq ?_
  refine aw_region ?_
  refine al_op (op_move rfl) rfl (by simp) ?_
  first
    | refine al_callp into89 rfl rfl rfl ((r_Bit _) _) (by simp) ?_
    | refine al_callp into89 rfl rfl rfl (acp_lent (lend_cons (by first | exact lend_same | exact .leaf _ _ (.vnil _) | exact .leaf _ _ (.nil _) | exact lend_whole rfl (by first | rfl | simp) (clo_map (fun _ => rfl))) lend_nil) (r_Bit _) rfl) (by simp) ?_
  refine al_op (op_not rfl) rfl (by simp) ?_
  refine al_nil ?_
  refine aw_cond rfl (fun h1 => ?_) (fun h1 => ?_)
  · have gh1 := h1
    try simp only [decide_eq_true_eq, decide_eq_false_iff_not, Bool.not_eq_true', Bool.not_eq_false', beq_iff_eq, bne_iff_ne, beq_eq_false_iff_ne, bne_eq_false_iff_eq, Bool.or_eq_true, Bool.and_eq_true, Bool.or_eq_false_iff, gt_iff_lt, ge_iff_le] at h1
    rw [ka] at gh1; exact absurd gh1 (by decide)
  · have gh1 := h1
    try simp only [decide_eq_true_eq, decide_eq_false_iff_not, Bool.not_eq_true', Bool.not_eq_false', beq_iff_eq, bne_iff_ne, beq_eq_false_iff_ne, bne_eq_false_iff_eq, Bool.or_eq_true, Bool.and_eq_true, Bool.or_eq_false_iff, gt_iff_lt, ge_iff_le] at h1
    refine aw_skip ?_
    refine aw_seq ?_
    refine aw_region ?_
    refine al_op (op_move rfl) rfl (by simp) ?_
    refine al_op (op_sindex_at Try.underlying9 rfl rfl rfl (by omega) (by show _ < 4; omega)) rfl (by simp) ?_
    first
      | refine al_callp into90 rfl rfl rfl ((r_ofc _) _) (by simp) ?_
      | refine al_callp into90 rfl rfl rfl (acp_lent (lend_cons (by first | exact lend_same | exact .leaf _ _ (.vnil _) | exact .leaf _ _ (.nil _) | exact lend_whole rfl (by first | rfl | simp) (clo_map (fun _ => rfl))) lend_nil) (r_ofc _) rfl) (by simp) ?_
    refine al_op (op_move rfl) rfl (by simp) ?_
    refine al_op (op_extract rfl rfl rfl) rfl (by simp) ?_
    refine al_op (op_extract rfl rfl rfl) rfl (by simp) ?_
    refine al_op (op_assign rfl) rfl (by simp) ?_
    refine al_op (op_assign rfl) rfl (by simp) ?_
    refine al_nil ?_
    refine aw_seq ?_
    refine aw_region ?_
    refine al_op (op_move rfl) rfl (by simp) ?_
    refine al_op (op_assign rfl) rfl (by simp) ?_
    refine al_op (op_assign rfl) rfl (by simp) ?_
    refine al_nil ?_
    refine aw_freeze (fun _ => false) (fsub_cons (t := 2) rfl (.leaf _ _ (.same _)) (fsub_cons (t := 3) rfl (.leaf _ _ (.same _)) fsub_nil)) ?_
    refine aw_ret ?_
    refine ⟨_, res_2 rfl rfl rfl rfl rfl, ?_, rfl⟩
    unfold isBit at ha; rcases ha with rfl | rfl | rfl <;> rfl

theorem r_of (lit : Int) (v : List Int) (h0 : 0 ≤ lit) (hm : lit ≤ 4611686018427387904) (hl : (lit / 2).toNat < v.length) (hv : ∀ x ∈ v, isBit x) : ACp Try.prog 55 [.v (.int .i64 (lit)), .list 1 (v.map encB)] (.v (.int .u8 (ofB v lit))) := by
  refine acp_of rfl ?_
  have hx := hv _ (getD_mem (v := v) hl)
  refine ac_enter 20 Try.func55 rfl rfl (by simp) ?_
  refine aw_seq ?_
  refine aw_region ?_
  refine al_op (op_assign rfl) rfl (by simp) ?_
  refine al_nil ?_
  refine aw_seq ?_
  refine aw_region ?_
  refine al_op (op_move rfl) rfl (by simp) ?_
  refine al_op (op_move rfl) rfl (by simp) ?_
  refine al_op (op_quo rfl rfl (by omega) (quo_nn (by omega) (by omega) (by omega))) rfl (by simp) ?_
  first
    | refine al_op (op_index_map default Try.underlying28 info65 rfl rfl rfl (by first | (with_reducible exact Int.toNat_natCast _) | rfl) (by omega) (by omega)) rfl (by simp) ?_
    | refine al_op (op_index_slice Try.underlying28 info65 rfl rfl rfl rfl (by omega) (by omega)) rfl (by simp) ?_
    | refine al_op (op_index_list Try.underlying28 info65 rfl rfl rfl (by decide) rfl) rfl (by simp) ?_
  first
    | refine al_op (op_load_rptr Try.underlying65 info65 rfl rfl) rfl (by simp) ?_
    | refine al_op (op_load_map Try.underlying65 info65 rfl rfl (by omega) rfl) rfl (by simp) ?_
    | refine al_op (op_load_ptr Try.underlying65 info65 rfl rfl rfl rfl) rfl (by simp) ?_
  refine al_op (op_assign rfl) rfl (by simp) ?_
  refine al_nil ?_
  refine aw_seq ?_
  refine aw_seq ?_
  refine aw_region ?_
  refine al_op (op_move rfl) rfl (by simp) ?_
  first
    | refine al_op (op_rem rfl rfl (by omega) (rem_nn (by omega))) rfl (by simp) ?_
    | refine al_op (op_rem rfl rfl (by omega) rfl) rfl (by simp) ?_
  refine al_op (op_eql rfl rfl) rfl (by simp) ?_
  refine al_nil ?_
  refine aw_cond rfl (fun h1 => ?_) (fun h1 => ?_)
  · have gh1 := h1
    try simp only [decide_eq_true_eq, decide_eq_false_iff_not, Bool.not_eq_true', Bool.not_eq_false', beq_iff_eq, bne_iff_ne, beq_eq_false_iff_ne, bne_eq_false_iff_eq, Bool.or_eq_true, Bool.and_eq_true, Bool.or_eq_false_iff, gt_iff_lt, ge_iff_le] at h1
    refine aw_region ?_
    refine al_op (op_move rfl) rfl (by simp) ?_
    first
      | refine al_callp into85 rfl rfl rfl ((r_Not _ (by assumption)) _) (by simp) ?_
      | refine al_callp into85 rfl rfl rfl (acp_lent (lend_cons (by first | exact lend_same | exact .leaf _ _ (.vnil _) | exact .leaf _ _ (.nil _) | exact lend_whole rfl (by first | rfl | simp) (clo_map (fun _ => rfl))) lend_nil) (r_Not _ (by assumption)) rfl) (by simp) ?_
    refine al_op (op_move rfl) rfl (by simp) ?_
    refine al_op (op_extract rfl rfl rfl) rfl (by simp) ?_
    refine al_op (op_extract rfl rfl rfl) rfl (by simp) ?_
    refine al_op (op_assign rfl) rfl (by simp) ?_
    refine al_nil ?_
    refine aw_seq ?_
    refine aw_region ?_
    refine al_op (op_move rfl) rfl (by simp) ?_
    refine al_op (op_assign rfl) rfl (by simp) ?_
    refine al_nil ?_
    refine aw_freeze (fun _ => false) (fsub_cons (t := 4) rfl (.leaf _ _ (.same _)) fsub_nil) ?_
    refine aw_ret ?_
    refine ⟨_, res_1 rfl rfl, ?_, rfl⟩
    simp_all [ofB]
  · have gh1 := h1
    try simp only [decide_eq_true_eq, decide_eq_false_iff_not, Bool.not_eq_true', Bool.not_eq_false', beq_iff_eq, bne_iff_ne, beq_eq_false_iff_ne, bne_eq_false_iff_eq, Bool.or_eq_true, Bool.and_eq_true, Bool.or_eq_false_iff, gt_iff_lt, ge_iff_le] at h1
    refine aw_skip ?_
    refine aw_seq ?_
    refine aw_region ?_
    refine al_op (op_move rfl) rfl (by simp) ?_
    refine al_op (op_assign rfl) rfl (by simp) ?_
    refine al_nil ?_
    refine aw_freeze (fun _ => false) (fsub_cons (t := 4) rfl (.leaf _ _ (.same _)) fsub_nil) ?_
    refine aw_ret ?_
    refine ⟨_, res_1 rfl rfl, ?_, rfl⟩
    simp_all [ofB]

theorem r_known (b : Int) : ACp Try.prog 60 [.v (.int .u8 (b))] (.v (.bool (known b))) := by
  refine acp_of rfl ?_
  refine ac_enter 13 Try.func60 rfl rfl (by simp) ?_
  refine aw_seq ?_
  refine aw_region ?_
  refine al_op (op_assign rfl) rfl (by simp) ?_
  refine al_nil ?_
  refine aw_seq ?_
  refine aw_region ?_
  refine al_op (op_move rfl) rfl (by simp) ?_
  refine al_op (op_eql rfl rfl) rfl (by simp) ?_
  refine al_op (op_move rfl) rfl (by simp) ?_
  apply al_or 3 5 8 rfl
  · intro h1; have gh1 := h1
    try simp only [decide_eq_true_eq, decide_eq_false_iff_not, Bool.not_eq_true', Bool.not_eq_false', beq_iff_eq, bne_iff_ne, beq_eq_false_iff_ne, bne_eq_false_iff_eq, Bool.or_eq_true, Bool.and_eq_true, Bool.or_eq_false_iff, gt_iff_lt, ge_iff_le] at h1
    refine al_take (op_move rfl) rfl rfl rfl rfl (by simp) ?_
    refine al_take (op_eql rfl rfl) rfl rfl rfl rfl (by simp) ?_
    first
      | refine al_op (op_pick rfl rfl) rfl (by simp) ?_
      | refine al_op (op_or rfl rfl rfl) rfl (by simp) ?_
    refine al_nil ⟨rfl, rfl, rfl, keep_of ?_⟩
    repeat (first | exact subx_refl | exact subx_known rfl gh1 subx_refl | refine subx_put rfl ?_)
  · intro h1; have gh1 := h1
    try simp only [decide_eq_true_eq, decide_eq_false_iff_not, Bool.not_eq_true', Bool.not_eq_false', beq_iff_eq, bne_iff_ne, beq_eq_false_iff_ne, bne_eq_false_iff_eq, Bool.or_eq_true, Bool.and_eq_true, Bool.or_eq_false_iff, gt_iff_lt, ge_iff_le] at h1
    refine al_pass rfl rfl rfl rfl (by simp) ?_
    refine al_pass rfl rfl rfl rfl (by simp) ?_
    first
      | refine al_op (op_pick rfl rfl) rfl (by simp) ?_
      | refine al_op (op_or rfl rfl rfl) rfl (by simp) ?_
    refine al_nil ⟨rfl, rfl, rfl, keep_of ?_⟩
    repeat (first | exact subx_refl | exact subx_known rfl gh1 subx_refl | refine subx_put rfl ?_)
  refine al_op (op_move rfl) rfl (by simp) ?_
  apply al_or 3 9 12 rfl
  · intro h2; have gh2 := h2
    try simp only [decide_eq_true_eq, decide_eq_false_iff_not, Bool.not_eq_true', Bool.not_eq_false', beq_iff_eq, bne_iff_ne, beq_eq_false_iff_ne, bne_eq_false_iff_eq, Bool.or_eq_true, Bool.and_eq_true, Bool.or_eq_false_iff, gt_iff_lt, ge_iff_le] at h2
    refine al_take (op_move rfl) rfl rfl rfl rfl (by simp) ?_
    refine al_take (op_eql rfl rfl) rfl rfl rfl rfl (by simp) ?_
    first
      | refine al_op (op_pick rfl rfl) rfl (by simp) ?_
      | refine al_op (op_or rfl rfl rfl) rfl (by simp) ?_
    refine al_nil ⟨rfl, rfl, rfl, keep_of ?_⟩
    repeat (first | exact subx_refl | exact subx_known rfl gh2 subx_refl | refine subx_put rfl ?_)
  · intro h2; have gh2 := h2
    try simp only [decide_eq_true_eq, decide_eq_false_iff_not, Bool.not_eq_true', Bool.not_eq_false', beq_iff_eq, bne_iff_ne, beq_eq_false_iff_ne, bne_eq_false_iff_eq, Bool.or_eq_true, Bool.and_eq_true, Bool.or_eq_false_iff, gt_iff_lt, ge_iff_le] at h2
    refine al_pass rfl rfl rfl rfl (by simp) ?_
    refine al_pass rfl rfl rfl rfl (by simp) ?_
    first
      | refine al_op (op_pick rfl rfl) rfl (by simp) ?_
      | refine al_op (op_or rfl rfl rfl) rfl (by simp) ?_
    refine al_nil ⟨rfl, rfl, rfl, keep_of ?_⟩
    repeat (first | exact subx_refl | exact subx_known rfl gh2 subx_refl | refine subx_put rfl ?_)
  refine al_op (op_assign rfl) rfl (by simp) ?_
  refine al_nil ?_
  refine aw_freeze (fun _ => false) (fsub_cons (t := 2) rfl (.leaf _ _ (.same _)) fsub_nil) ?_
  refine aw_ret ?_
  refine ⟨_, res_1 rfl rfl, ?_, rfl⟩
  first | rfl | simp_all

theorem r_lit (l node : Int) (hl : l ≤ 9223372036854775807) : ACp Try.prog 62 [.v (.int .i64 (l)), .v (.int .i64 (node))] (.v (.bool (litOK l node))) := by
  refine acp_of rfl ?_
  refine ac_enter 13 Try.func62 rfl rfl (by simp) ?_
  refine aw_seq ?_
  refine aw_region ?_
  refine al_op (op_assign rfl) rfl (by simp) ?_
  refine al_nil ?_
  refine aw_seq ?_
  refine aw_region ?_
  refine al_op (op_move rfl) rfl (by simp) ?_
  refine al_op (op_geq rfl rfl) rfl (by simp) ?_
  refine al_op (op_move rfl) rfl (by simp) ?_
  apply al_and 5 7 12 rfl
  · intro h1; have gh1 := h1
    try simp only [decide_eq_true_eq, decide_eq_false_iff_not, Bool.not_eq_true', Bool.not_eq_false', beq_iff_eq, bne_iff_ne, beq_eq_false_iff_ne, bne_eq_false_iff_eq, Bool.or_eq_true, Bool.and_eq_true, Bool.or_eq_false_iff, gt_iff_lt, ge_iff_le] at h1
    refine al_take (op_move rfl) rfl rfl rfl rfl (by simp) ?_
    refine al_take (op_quo rfl rfl (by omega) (quo_nn (by omega) (by omega) (by omega))) rfl rfl rfl rfl (by simp) ?_
    refine al_take (op_move rfl) rfl rfl rfl rfl (by simp) ?_
    refine al_take (op_lss rfl rfl) rfl rfl rfl rfl (by simp) ?_
    first
      | refine al_op (op_pick rfl rfl) rfl (by simp) ?_
      | refine al_op (op_and rfl rfl rfl) rfl (by simp) ?_
    refine al_nil ⟨rfl, rfl, rfl, keep_of ?_⟩
    repeat (first | exact subx_refl | exact subx_known rfl gh1 subx_refl | refine subx_put rfl ?_)
  · intro h1; have gh1 := h1
    try simp only [decide_eq_true_eq, decide_eq_false_iff_not, Bool.not_eq_true', Bool.not_eq_false', beq_iff_eq, bne_iff_ne, beq_eq_false_iff_ne, bne_eq_false_iff_eq, Bool.or_eq_true, Bool.and_eq_true, Bool.or_eq_false_iff, gt_iff_lt, ge_iff_le] at h1
    refine al_pass rfl rfl rfl rfl (by simp) ?_
    refine al_pass rfl rfl rfl rfl (by simp) ?_
    refine al_pass rfl rfl rfl rfl (by simp) ?_
    refine al_pass rfl rfl rfl rfl (by simp) ?_
    first
      | refine al_op (op_pick rfl rfl) rfl (by simp) ?_
      | refine al_op (op_and rfl rfl rfl) rfl (by simp) ?_
    refine al_nil ⟨rfl, rfl, rfl, keep_of ?_⟩
    repeat (first | exact subx_refl | exact subx_known rfl gh1 subx_refl | refine subx_put rfl ?_)
  refine al_op (op_assign rfl) rfl (by simp) ?_
  refine al_nil ?_
  refine aw_freeze (fun _ => false) (fsub_cons (t := 4) rfl (.leaf _ _ (.same _)) fsub_nil) ?_
  refine aw_ret ?_
  refine ⟨_, res_1 rfl rfl, ?_, rfl⟩
  first | rfl | simp_all

theorem r_first (n : Net) (hn : n.Small) : ACp Try.prog 63 [encN n] (.v (.int .i64 (n.first))) := by
  refine acp_of rfl ?_
  have b4 := hn.insL
  have b5 := hn.regsL
  refine ac_enter 11 Try.func63 rfl rfl (by simp) ?_
  refine aw_seq ?_
  refine aw_region ?_
  (refine al_opR (op_box 1 rfl rfl (by first | rfl | exact live_one rfl | (repeat (first | exact all_live_nil | refine all_live_clo rfl ?_ | refine all_live_slice rfl ?_ | refine all_live_map rfl ?_ | refine all_live_ptr rfl ?_)))) rfl (by simp) ?_; rintro _ _ ⟨ver1, rfl, rfl⟩)
  refine al_op (op_assign rfl) rfl (by simp) ?_
  refine al_nil ?_
  refine aw_seq ?_
  refine aw_region ?_
  first
    | refine al_op (op_field_rptr Try.underlying27 rfl info22 (by decide) rfl rfl) rfl (by simp) ?_
    | refine al_op (op_field_ptr Try.underlying27 rfl info22 (by decide) rfl rfl rfl) rfl (by simp) ?_
  first
    | refine al_op (op_load_rptr Try.underlying22 info22 rfl rfl) rfl (by simp) ?_
    | refine al_op (op_load_map Try.underlying22 info22 rfl rfl (by omega) rfl) rfl (by simp) ?_
    | refine al_op (op_load_ptr Try.underlying22 info22 rfl rfl rfl rfl) rfl (by simp) ?_
  first
    | refine al_op (op_len_map Try.underlying22 rfl) rfl (by simp) ?_
    | refine al_op (op_len_slice Try.underlying22 rfl rfl) rfl (by simp) ?_
    | refine al_op (op_len_list Try.underlying22 rfl) rfl (by simp) ?_
    | refine al_op (op_len_v Try.underlying22 rfl) rfl (by simp) ?_
    | refine al_op (op_len_nil Try.underlying22 rfl) rfl (by simp) ?_
  refine al_op (op_add rfl rfl (by first | exact wrap_i64 (by omega) (by omega))) rfl (by simp) ?_
  first
    | refine al_op (op_field_rptr Try.underlying27 rfl info23 (by decide) rfl rfl) rfl (by simp) ?_
    | refine al_op (op_field_ptr Try.underlying27 rfl info23 (by decide) rfl rfl rfl) rfl (by simp) ?_
  first
    | refine al_op (op_load_rptr Try.underlying23 info23 rfl rfl) rfl (by simp) ?_
    | refine al_op (op_load_map Try.underlying23 info23 rfl rfl (by omega) rfl) rfl (by simp) ?_
    | refine al_op (op_load_ptr Try.underlying23 info23 rfl rfl rfl rfl) rfl (by simp) ?_
  first
    | refine al_op (op_len_map Try.underlying23 rfl) rfl (by simp) ?_
    | refine al_op (op_len_slice Try.underlying23 rfl rfl) rfl (by simp) ?_
    | refine al_op (op_len_list Try.underlying23 rfl) rfl (by simp) ?_
    | refine al_op (op_len_v Try.underlying23 rfl) rfl (by simp) ?_
    | refine al_op (op_len_nil Try.underlying23 rfl) rfl (by simp) ?_
  refine al_op (op_add rfl rfl (by first | exact wrap_i64 (by omega) (by omega))) rfl (by simp) ?_
  refine al_op (op_assign rfl) rfl (by simp) ?_
  refine al_nil ?_
  refine aw_freeze (fun _ => false) (fsub_cons (t := 2) rfl (.leaf _ _ (.same _)) fsub_nil) ?_
  refine aw_ret ?_
  refine ⟨_, res_1 rfl rfl, ?_, rfl⟩
  first | rfl | simp_all

theorem r_Name (s : ByteArray) (hs : s.size ≤ 140737488355328) : ACp Try.prog 91 [.v (.string s)] (.v (.bool (okName s))) := by
  refine acp_of rfl ?_
  have hl : s.data.toList.length = s.size := by simp
  refine ac_enter 28 Try.func91 rfl rfl (by simp) ?_
  refine aw_seq ?_
  refine aw_region ?_
  refine al_op (op_assign rfl) rfl (by simp) ?_
  refine al_nil ?_
  refine aw_seq ?_
  refine aw_seq ?_
  refine aw_region ?_
  refine al_op (op_move rfl) rfl (by simp) ?_
  refine al_op (op_slen (ts := #[]) Try.underlying9 rfl) rfl (by simp) ?_
  refine al_op (op_lss rfl rfl) rfl (by simp) ?_
  refine al_op (op_move rfl) rfl (by simp) ?_
  apply al_or 4 7 11 rfl
  · intro h1; have gh1 := h1
    try simp only [decide_eq_true_eq, decide_eq_false_iff_not, Bool.not_eq_true', Bool.not_eq_false', beq_iff_eq, bne_iff_ne, beq_eq_false_iff_ne, bne_eq_false_iff_eq, Bool.or_eq_true, Bool.and_eq_true, Bool.or_eq_false_iff, gt_iff_lt, ge_iff_le] at h1
    refine al_take (op_move rfl) rfl rfl rfl rfl (by simp) ?_
    refine al_take (op_slen (ts := #[]) Try.underlying9 rfl) rfl rfl rfl rfl (by simp) ?_
    refine al_take (op_gtr rfl rfl) rfl rfl rfl rfl (by simp) ?_
    first
      | refine al_op (op_pick rfl rfl) rfl (by simp) ?_
      | refine al_op (op_or rfl rfl rfl) rfl (by simp) ?_
    refine al_nil ⟨rfl, rfl, rfl, keep_of ?_⟩
    repeat (first | exact subx_refl | exact subx_known rfl gh1 subx_refl | refine subx_put rfl ?_)
  · intro h1; have gh1 := h1
    try simp only [decide_eq_true_eq, decide_eq_false_iff_not, Bool.not_eq_true', Bool.not_eq_false', beq_iff_eq, bne_iff_ne, beq_eq_false_iff_ne, bne_eq_false_iff_eq, Bool.or_eq_true, Bool.and_eq_true, Bool.or_eq_false_iff, gt_iff_lt, ge_iff_le] at h1
    refine al_pass rfl rfl rfl rfl (by simp) ?_
    refine al_pass rfl rfl rfl rfl (by simp) ?_
    refine al_pass rfl rfl rfl rfl (by simp) ?_
    first
      | refine al_op (op_pick rfl rfl) rfl (by simp) ?_
      | refine al_op (op_or rfl rfl rfl) rfl (by simp) ?_
    refine al_nil ⟨rfl, rfl, rfl, keep_of ?_⟩
    repeat (first | exact subx_refl | exact subx_known rfl gh1 subx_refl | refine subx_put rfl ?_)
  refine al_nil ?_
  refine aw_cond rfl (fun h2 => ?_) (fun h2 => ?_)
  · have gh2 := h2
    try simp only [decide_eq_true_eq, decide_eq_false_iff_not, Bool.not_eq_true', Bool.not_eq_false', beq_iff_eq, bne_iff_ne, beq_eq_false_iff_ne, bne_eq_false_iff_eq, Bool.or_eq_true, Bool.and_eq_true, Bool.or_eq_false_iff, gt_iff_lt, ge_iff_le] at h2
    refine aw_seq ?_
    refine aw_region ?_
    refine al_op (op_assign rfl) rfl (by simp) ?_
    refine al_nil ?_
    refine aw_freeze (fun _ => false) (fsub_cons (t := 2) rfl (.leaf _ _ (.same _)) fsub_nil) ?_
    refine aw_ret ?_
    refine ⟨_, res_1 rfl rfl, ?_, rfl⟩
    rw [okName_len gh2]
  · have gh2 := h2
    try simp only [decide_eq_true_eq, decide_eq_false_iff_not, Bool.not_eq_true', Bool.not_eq_false', beq_iff_eq, bne_iff_ne, beq_eq_false_iff_ne, bne_eq_false_iff_eq, Bool.or_eq_true, Bool.and_eq_true, Bool.or_eq_false_iff, gt_iff_lt, ge_iff_le] at h2
    refine aw_skip ?_
    refine aw_seq ?_
    refine aw_seq ?_
    refine aw_region ?_
    refine al_op (op_assign rfl) rfl (by simp) ?_
    refine al_nil ?_
    refine aw_block ?_
    refine aw_forT (ι := Nat) [2, 3] [] (fun i => s.data.toList.length - i) (fun i => i ≤ s.data.toList.length ∧ allTo (fun k => okByte (s.data.toList.getD k default)) i = true) (fun i => ([(3, .v (.int .i64 (i)))] : Env)) (fun i s => s) (0) ?_ ?_ ?_ (fun i hinv => ?_)
    · exact ⟨Nat.zero_le _, rfl⟩
    · refine sub_cons (get_as rfl ?_) ?_; rotate_left; exact sub_nil
      all_goals (first | rfl | simp)
    · rfl
    have hi := hinv.1
    refine aw_seq ?_
    refine aw_seq ?_
    refine aw_region ?_
    refine al_op (op_move rfl) rfl (by simp) ?_
    refine al_op (op_move rfl) rfl (by simp) ?_
    refine al_op (op_slen (ts := #[]) Try.underlying9 rfl) rfl (by simp) ?_
    refine al_op (op_lss rfl rfl) rfl (by simp) ?_
    refine al_nil ?_
    refine aw_cond rfl (fun h3 => ?_) (fun h3 => ?_)
    · have gh3 := h3
      try simp only [decide_eq_true_eq, decide_eq_false_iff_not, Bool.not_eq_true', Bool.not_eq_false', beq_iff_eq, bne_iff_ne, beq_eq_false_iff_ne, bne_eq_false_iff_eq, Bool.or_eq_true, Bool.and_eq_true, Bool.or_eq_false_iff, gt_iff_lt, ge_iff_le] at h3
      refine aw_skip ?_
      refine aw_seq ?_
      refine aw_block ?_
      refine aw_seq ?_
      refine aw_region ?_
      refine al_op (op_move rfl) rfl (by simp) ?_
      refine al_op (op_move rfl) rfl (by simp) ?_
      refine al_op (op_sindex_at Try.underlying9 rfl rfl (by first | (with_reducible exact Int.toNat_natCast _) | rfl) (by omega) (by omega)) rfl (by simp) ?_
      refine al_op (op_lss rfl rfl) rfl (by simp) ?_
      refine al_op (op_move rfl) rfl (by simp) ?_
      apply al_or 5 22 27 rfl
      · intro h4; have gh4 := h4
        try simp only [decide_eq_true_eq, decide_eq_false_iff_not, Bool.not_eq_true', Bool.not_eq_false', beq_iff_eq, bne_iff_ne, beq_eq_false_iff_ne, bne_eq_false_iff_eq, Bool.or_eq_true, Bool.and_eq_true, Bool.or_eq_false_iff, gt_iff_lt, ge_iff_le] at h4
        refine al_take (op_move rfl) rfl rfl rfl rfl (by simp) ?_
        refine al_take (op_move rfl) rfl rfl rfl rfl (by simp) ?_
        refine al_take (op_sindex_at Try.underlying9 rfl rfl (by first | (with_reducible exact Int.toNat_natCast _) | rfl) (by omega) (by omega)) rfl rfl rfl rfl (by simp) ?_
        refine al_take (op_gtr rfl rfl) rfl rfl rfl rfl (by simp) ?_
        first
          | refine al_op (op_pick rfl rfl) rfl (by simp) ?_
          | refine al_op (op_or rfl rfl rfl) rfl (by simp) ?_
        refine al_nil ⟨rfl, rfl, rfl, keep_of ?_⟩
        repeat (first | exact subx_refl | exact subx_known rfl gh4 subx_refl | refine subx_put rfl ?_)
      · intro h4; have gh4 := h4
        try simp only [decide_eq_true_eq, decide_eq_false_iff_not, Bool.not_eq_true', Bool.not_eq_false', beq_iff_eq, bne_iff_ne, beq_eq_false_iff_ne, bne_eq_false_iff_eq, Bool.or_eq_true, Bool.and_eq_true, Bool.or_eq_false_iff, gt_iff_lt, ge_iff_le] at h4
        refine al_pass rfl rfl rfl rfl (by simp) ?_
        refine al_pass rfl rfl rfl rfl (by simp) ?_
        refine al_pass rfl rfl rfl rfl (by simp) ?_
        refine al_pass rfl rfl rfl rfl (by simp) ?_
        first
          | refine al_op (op_pick rfl rfl) rfl (by simp) ?_
          | refine al_op (op_or rfl rfl rfl) rfl (by simp) ?_
        refine al_nil ⟨rfl, rfl, rfl, keep_of ?_⟩
        repeat (first | exact subx_refl | exact subx_known rfl gh4 subx_refl | refine subx_put rfl ?_)
      refine al_nil ?_
      refine aw_cond rfl (fun h5 => ?_) (fun h5 => ?_)
      · have gh5 := h5
        try simp only [decide_eq_true_eq, decide_eq_false_iff_not, Bool.not_eq_true', Bool.not_eq_false', beq_iff_eq, bne_iff_ne, beq_eq_false_iff_ne, bne_eq_false_iff_eq, Bool.or_eq_true, Bool.and_eq_true, Bool.or_eq_false_iff, gt_iff_lt, ge_iff_le] at h5
        refine aw_seq ?_
        refine aw_region ?_
        refine al_op (op_assign rfl) rfl (by simp) ?_
        refine al_nil ?_
        refine aw_freeze (fun _ => false) (fsub_cons (t := 2) rfl (.leaf _ _ (.same _)) fsub_nil) ?_
        refine aw_ret ?_
        refine ⟨_, res_1 rfl rfl, ?_, rfl⟩
        rw [okName, allTo_false i (by omega) (congrArg Bool.not gh5)]; rfl
      · have gh5 := h5
        try simp only [decide_eq_true_eq, decide_eq_false_iff_not, Bool.not_eq_true', Bool.not_eq_false', beq_iff_eq, bne_iff_ne, beq_eq_false_iff_ne, bne_eq_false_iff_eq, Bool.or_eq_true, Bool.and_eq_true, Bool.or_eq_false_iff, gt_iff_lt, ge_iff_le] at h5
        refine aw_skip ?_
        refine aw_region ?_
        refine al_op (op_move rfl) rfl (by simp) ?_
        refine al_op (op_add rfl rfl (by first | exact wrap_i64 (by omega) (by omega))) rfl (by simp) ?_
        refine al_op (op_assign rfl) rfl (by simp) ?_
        refine al_nil ?_
        refine ⟨i + 1, ?_, ?_, ?_, ?_, ?_⟩
        · omega
        · exact ⟨by omega, allTo_succ hinv.2 (congrArg Bool.not gh5)⟩
        · refine sub_cons (get_as rfl ?_) ?_; rotate_left; exact sub_nil
          all_goals (first | rfl | simp)
        · repeat (first | exact subx_refl | exact subx_del | refine subx_put rfl ?_)
        · rfl
    · have gh3 := h3
      try simp only [decide_eq_true_eq, decide_eq_false_iff_not, Bool.not_eq_true', Bool.not_eq_false', beq_iff_eq, bne_iff_ne, beq_eq_false_iff_ne, bne_eq_false_iff_eq, Bool.or_eq_true, Bool.and_eq_true, Bool.or_eq_false_iff, gt_iff_lt, ge_iff_le] at h3
      refine aw_exit ?_
      obtain rfl : i = s.data.toList.length := by omega
      refine aw_seq ?_
      refine aw_region ?_
      refine al_op (op_assign rfl) rfl (by simp) ?_
      refine al_nil ?_
      refine aw_freeze (fun _ => false) (fsub_cons (t := 2) rfl (.leaf _ _ (.same _)) fsub_nil) ?_
      refine aw_ret ?_
      refine ⟨_, res_1 rfl rfl, ?_, rfl⟩
      rw [okName_all gh2 hinv.2]
end Go.Proofs.Ytbpamlphacpkeaa
