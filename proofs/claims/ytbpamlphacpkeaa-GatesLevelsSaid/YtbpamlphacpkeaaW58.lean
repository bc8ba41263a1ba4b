/- Printed walks (gen.py, gates_ann.py): part 58. -/
import Derived.Test.YtbpamlphacpkeaaW57
import Derived.Test.YtbpamlphacpkeaaW56
import Derived.Test.YtbpamlphacpkeaaW52
import Derived.Test.YtbpamlphacpkeaaFacts
set_option linter.unusedVariables false
set_option linter.unusedSimpArgs false
set_option maxRecDepth 20000
namespace Go.Proofs.Ytbpamlphacpkeaa
open Go

theorem law_GatesLevels (n : Net) (hn : n.Small) (lit : Int) (hl0 : -9223372036854775808 ≤ lit) (hl1 : lit ≤ 9223372036854775807) : ACp Try.prog 10 [encN n, .v (.int .i64 (lit))] (.v (.bool (true))) := by
  refine acp_of rfl ?_
  refine ac_enter 60 Try.func10 rfl rfl (by simp) ?_
  refine aw_seq ?_
  refine aw_region ?_
  (refine al_opR (op_box 2 rfl rfl (by first | rfl | exact live_one rfl | (repeat (first | exact all_live_nil | refine all_live_clo rfl ?_ | refine all_live_slice rfl ?_ | refine all_live_map rfl ?_ | refine all_live_ptr rfl ?_)))) rfl (by simp) ?_; rintro _ _ ⟨ver2, rfl, rfl⟩)
  refine al_op (op_assign rfl) rfl (by simp) ?_
  refine al_nil ?_
  refine aw_seq ?_
  refine aw_seq ?_
  refine aw_region ?_
  first
    | refine al_op (op_load_rptr Try.underlying27 info27 rfl rfl) rfl (by simp) ?_
    | refine al_op (op_load_map Try.underlying27 info27 rfl rfl (by omega) rfl) rfl (by simp) ?_
    | refine al_op (op_load_ptr Try.underlying27 info27 rfl rfl rfl rfl) rfl (by simp) ?_
  first
    | refine al_callp into14 rfl rfl rfl ((l_few _ (by assumption)) _) (by simp) ?_
    | refine al_callp into14 rfl rfl rfl (acp_lent (lend_cons (by first | exact lend_same | exact .leaf _ _ (.vnil _) | exact .leaf _ _ (.nil _) | exact lend_whole rfl (by first | rfl | simp) (clo_map (fun _ => rfl))) lend_nil) (l_few _ (by assumption)) rfl) (by simp) ?_
  refine al_op (op_not rfl) rfl (by simp) ?_
  refine al_nil ?_
  refine aw_cond rfl (fun h1 => ?_) (fun h1 => ?_)
  · have gh1 := h1
    try simp only [decide_eq_true_eq, decide_eq_false_iff_not, Bool.not_eq_true', Bool.not_eq_false', beq_iff_eq, bne_iff_ne, beq_eq_false_iff_ne, bne_eq_false_iff_eq, Bool.or_eq_true, Bool.and_eq_true, Bool.or_eq_false_iff, gt_iff_lt, ge_iff_le] at h1
    refine aw_seq ?_
    refine aw_region ?_
    first
      | refine al_callp into15 rfl rfl rfl ((l_awake ) _) (by simp) ?_
      | refine al_callp into15 rfl rfl rfl (acp_lent lend_nil (l_awake ) rfl) (by simp) ?_
    refine al_op (op_assign rfl) rfl (by simp) ?_
    refine al_nil ?_
    refine aw_freeze (fun _ => false) (fsub_cons (t := 4) rfl (.leaf _ _ (.same _)) fsub_nil) ?_
    refine aw_ret ?_
    refine ⟨_, res_1 rfl rfl, ?_, rfl⟩
    first | rfl | simp [sameBits_refl]
  · have gh1 := h1
    try simp only [decide_eq_true_eq, decide_eq_false_iff_not, Bool.not_eq_true', Bool.not_eq_false', beq_iff_eq, bne_iff_ne, beq_eq_false_iff_ne, bne_eq_false_iff_eq, Bool.or_eq_true, Bool.and_eq_true, Bool.or_eq_false_iff, gt_iff_lt, ge_iff_le] at h1
    refine aw_skip ?_
    refine aw_seq ?_
    refine aw_region ?_
    first
      | refine al_op (op_load_rptr Try.underlying27 info27 rfl rfl) rfl (by simp) ?_
      | refine al_op (op_load_map Try.underlying27 info27 rfl rfl (by omega) rfl) rfl (by simp) ?_
      | refine al_op (op_load_ptr Try.underlying27 info27 rfl rfl rfl rfl) rfl (by simp) ?_
    first
      | refine al_callp into45 rfl rfl rfl ((c_levels _ (by assumption)) _) (by simp) ?_
      | refine al_callp into45 rfl rfl rfl (ac_told (re_cons (by first | exact .leaf _ _ (.same _) | exact .leaf _ _ (.vnil _) | exact .leaf _ _ (.nil _)) re_nil) ((c_levels _ (by assumption)) _)) (by simp) ?_
    refine al_op (op_move rfl) rfl (by simp) ?_
    refine al_op (op_extract rfl rfl rfl) rfl (by simp) ?_
    refine al_op (op_extract rfl rfl rfl) rfl (by simp) ?_
    refine al_op (op_assign rfl) rfl (by simp) ?_
    refine al_op (op_assign rfl) rfl (by simp) ?_
    refine al_nil ?_
    refine aw_seq ?_
    refine aw_region ?_
    first
      | refine al_op (op_load_rptr Try.underlying27 info27 rfl rfl) rfl (by simp) ?_
      | refine al_op (op_load_map Try.underlying27 info27 rfl rfl (by omega) rfl) rfl (by simp) ?_
      | refine al_op (op_load_ptr Try.underlying27 info27 rfl rfl rfl rfl) rfl (by simp) ?_
    first
      | refine al_callp into46 rfl rfl rfl ((r_levels _ (by assumption)) _) (by simp) ?_
      | refine al_callp into46 rfl rfl rfl (ac_told (re_cons (by first | exact .leaf _ _ (.same _) | exact .leaf _ _ (.vnil _) | exact .leaf _ _ (.nil _)) re_nil) ((r_levels _ (by assumption)) _)) (by simp) ?_
    refine al_op (op_move rfl) rfl (by simp) ?_
    refine al_op (op_extract rfl rfl rfl) rfl (by simp) ?_
    refine al_op (op_extract rfl rfl rfl) rfl (by simp) ?_
    refine al_op (op_assign rfl) rfl (by simp) ?_
    refine al_op (op_assign rfl) rfl (by simp) ?_
    refine al_nil ?_
    refine aw_seq ?_
    refine aw_region ?_
    first
      | refine al_op (op_load_rptr Try.underlying27 info27 rfl rfl) rfl (by simp) ?_
      | refine al_op (op_load_map Try.underlying27 info27 rfl rfl (by omega) rfl) rfl (by simp) ?_
      | refine al_op (op_load_ptr Try.underlying27 info27 rfl rfl rfl rfl) rfl (by simp) ?_
    refine al_op (op_move rfl) rfl (by simp) ?_
    first
      | refine al_callp into43 rfl rfl rfl ((c_cone _ (by assumption) _ (by omega) (by omega)) _) (by simp) ?_
      | refine al_callp into43 rfl rfl rfl (ac_told (re_cons (by first | exact .leaf _ _ (.same _) | exact .leaf _ _ (.vnil _) | exact .leaf _ _ (.nil _)) (re_cons (by first | exact .leaf _ _ (.same _) | exact .leaf _ _ (.vnil _) | exact .leaf _ _ (.nil _)) re_nil)) ((c_cone _ (by assumption) _ (by omega) (by omega)) _)) (by simp) ?_
    refine al_op (op_move rfl) rfl (by simp) ?_
    refine al_op (op_extract rfl rfl rfl) rfl (by simp) ?_
    refine al_op (op_extract rfl rfl rfl) rfl (by simp) ?_
    refine al_op (op_assign rfl) rfl (by simp) ?_
    refine al_op (op_assign rfl) rfl (by simp) ?_
    refine al_nil ?_
    refine aw_seq ?_
    refine aw_region ?_
    first
      | refine al_op (op_load_rptr Try.underlying27 info27 rfl rfl) rfl (by simp) ?_
      | refine al_op (op_load_map Try.underlying27 info27 rfl rfl (by omega) rfl) rfl (by simp) ?_
      | refine al_op (op_load_ptr Try.underlying27 info27 rfl rfl rfl rfl) rfl (by simp) ?_
    refine al_op (op_move rfl) rfl (by simp) ?_
    first
      | refine al_callp into44 rfl rfl rfl ((r_Cone _ (by assumption) _ (by omega) (by omega)) _) (by simp) ?_
      | refine al_callp into44 rfl rfl rfl (ac_told (re_cons (by first | exact .leaf _ _ (.same _) | exact .leaf _ _ (.vnil _) | exact .leaf _ _ (.nil _)) (re_cons (by first | exact .leaf _ _ (.same _) | exact .leaf _ _ (.vnil _) | exact .leaf _ _ (.nil _)) re_nil)) ((r_Cone _ (by assumption) _ (by omega) (by omega)) _)) (by simp) ?_
    refine al_op (op_move rfl) rfl (by simp) ?_
    refine al_op (op_extract rfl rfl rfl) rfl (by simp) ?_
    refine al_op (op_extract rfl rfl rfl) rfl (by simp) ?_
    refine al_op (op_assign rfl) rfl (by simp) ?_
    refine al_op (op_assign rfl) rfl (by simp) ?_
    refine al_nil ?_
    refine aw_seq ?_
    have q1 := Net.lev_len hn
    have q2 := Net.cone_len hn lit
    refine aw_region ?_
    refine al_op (op_move rfl) rfl (by simp) ?_
    refine al_op (op_move rfl) rfl (by simp) ?_
    first
      | refine al_callp into47 rfl rfl rfl ((l_ints _ _ (by assumption)) _) (by simp) ?_
      | refine al_callp into47 rfl rfl rfl (acp_lent (lend_cons (by first | exact lend_same | exact .leaf _ _ (.vnil _) | exact .leaf _ _ (.nil _) | exact lend_whole rfl (by first | rfl | simp) (clo_map (fun _ => rfl))) (lend_cons (by first | exact lend_same | exact .leaf _ _ (.vnil _) | exact .leaf _ _ (.nil _) | exact lend_whole rfl (by first | rfl | simp) (clo_map (fun _ => rfl))) lend_nil)) (l_ints _ _ (by assumption)) rfl) (by simp) ?_
    refine al_op (op_move rfl) rfl (by simp) ?_
    apply al_and 4 42 46 rfl
    · intro h2; have gh2 := h2
      try simp only [decide_eq_true_eq, decide_eq_false_iff_not, Bool.not_eq_true', Bool.not_eq_false', beq_iff_eq, bne_iff_ne, beq_eq_false_iff_ne, bne_eq_false_iff_eq, Bool.or_eq_true, Bool.and_eq_true, Bool.or_eq_false_iff, gt_iff_lt, ge_iff_le] at h2
      refine al_take (op_move rfl) rfl rfl rfl rfl (by simp) ?_
      refine al_take (op_move rfl) rfl rfl rfl rfl (by simp) ?_
      refine al_take (op_eql rfl rfl) rfl rfl rfl rfl (by simp) ?_
      first
        | refine al_op (op_pick rfl rfl) rfl (by simp) ?_
        | refine al_op (op_and rfl rfl rfl) rfl (by simp) ?_
      refine al_nil ⟨rfl, rfl, rfl, keep_of ?_⟩
      repeat (first | exact subx_refl | exact subx_known rfl gh2 subx_refl | refine subx_put rfl ?_)
    · intro h2; have gh2 := h2
      try simp only [decide_eq_true_eq, decide_eq_false_iff_not, Bool.not_eq_true', Bool.not_eq_false', beq_iff_eq, bne_iff_ne, beq_eq_false_iff_ne, bne_eq_false_iff_eq, Bool.or_eq_true, Bool.and_eq_true, Bool.or_eq_false_iff, gt_iff_lt, ge_iff_le] at h2
      refine al_pass rfl rfl rfl rfl (by simp) ?_
      refine al_pass rfl rfl rfl rfl (by simp) ?_
      refine al_pass rfl rfl rfl rfl (by simp) ?_
      first
        | refine al_op (op_pick rfl rfl) rfl (by simp) ?_
        | refine al_op (op_and rfl rfl rfl) rfl (by simp) ?_
      refine al_nil ⟨rfl, rfl, rfl, keep_of ?_⟩
      repeat (first | exact subx_refl | exact subx_known rfl gh2 subx_refl | refine subx_put rfl ?_)
    refine al_op (op_move rfl) rfl (by simp) ?_
    apply al_and 4 47 51 rfl
    · intro h3; have gh3 := h3
      try simp only [decide_eq_true_eq, decide_eq_false_iff_not, Bool.not_eq_true', Bool.not_eq_false', beq_iff_eq, bne_iff_ne, beq_eq_false_iff_ne, bne_eq_false_iff_eq, Bool.or_eq_true, Bool.and_eq_true, Bool.or_eq_false_iff, gt_iff_lt, ge_iff_le] at h3
      refine al_take (op_move rfl) rfl rfl rfl rfl (by simp) ?_
      refine al_take (op_move rfl) rfl rfl rfl rfl (by simp) ?_
      first
        | refine al_callp_take into47 rfl rfl rfl rfl rfl rfl ((l_ints _ _ (by assumption)) _) (by simp) ?_
        | refine al_callp_take into47 rfl rfl rfl rfl rfl rfl (acp_lent (lend_cons (by first | exact lend_same | exact .leaf _ _ (.vnil _) | exact .leaf _ _ (.nil _) | exact lend_whole rfl (by first | rfl | simp) (clo_map (fun _ => rfl))) (lend_cons (by first | exact lend_same | exact .leaf _ _ (.vnil _) | exact .leaf _ _ (.nil _) | exact lend_whole rfl (by first | rfl | simp) (clo_map (fun _ => rfl))) lend_nil)) (l_ints _ _ (by assumption)) rfl) (by simp) ?_
      first
        | refine al_op (op_pick rfl rfl) rfl (by simp) ?_
        | refine al_op (op_and rfl rfl rfl) rfl (by simp) ?_
      refine al_nil ⟨rfl, rfl, rfl, keep_of ?_⟩
      repeat (first | exact subx_refl | exact subx_known rfl gh3 subx_refl | refine subx_put rfl ?_)
    · intro h3; have gh3 := h3
      try simp only [decide_eq_true_eq, decide_eq_false_iff_not, Bool.not_eq_true', Bool.not_eq_false', beq_iff_eq, bne_iff_ne, beq_eq_false_iff_ne, bne_eq_false_iff_eq, Bool.or_eq_true, Bool.and_eq_true, Bool.or_eq_false_iff, gt_iff_lt, ge_iff_le] at h3
      refine al_pass rfl rfl rfl rfl (by simp) ?_
      refine al_pass rfl rfl rfl rfl (by simp) ?_
      refine al_pass rfl rfl rfl rfl (by simp) ?_
      first
        | refine al_op (op_pick rfl rfl) rfl (by simp) ?_
        | refine al_op (op_and rfl rfl rfl) rfl (by simp) ?_
      refine al_nil ⟨rfl, rfl, rfl, keep_of ?_⟩
      repeat (first | exact subx_refl | exact subx_known rfl gh3 subx_refl | refine subx_put rfl ?_)
    refine al_op (op_move rfl) rfl (by simp) ?_
    apply al_and 4 52 56 rfl
    · intro h4; have gh4 := h4
      try simp only [decide_eq_true_eq, decide_eq_false_iff_not, Bool.not_eq_true', Bool.not_eq_false', beq_iff_eq, bne_iff_ne, beq_eq_false_iff_ne, bne_eq_false_iff_eq, Bool.or_eq_true, Bool.and_eq_true, Bool.or_eq_false_iff, gt_iff_lt, ge_iff_le] at h4
      refine al_take (op_move rfl) rfl rfl rfl rfl (by simp) ?_
      refine al_take (op_move rfl) rfl rfl rfl rfl (by simp) ?_
      refine al_take (op_eql rfl rfl) rfl rfl rfl rfl (by simp) ?_
      first
        | refine al_op (op_pick rfl rfl) rfl (by simp) ?_
        | refine al_op (op_and rfl rfl rfl) rfl (by simp) ?_
      refine al_nil ⟨rfl, rfl, rfl, keep_of ?_⟩
      repeat (first | exact subx_refl | exact subx_known rfl gh4 subx_refl | refine subx_put rfl ?_)
    · intro h4; have gh4 := h4
      try simp only [decide_eq_true_eq, decide_eq_false_iff_not, Bool.not_eq_true', Bool.not_eq_false', beq_iff_eq, bne_iff_ne, beq_eq_false_iff_ne, bne_eq_false_iff_eq, Bool.or_eq_true, Bool.and_eq_true, Bool.or_eq_false_iff, gt_iff_lt, ge_iff_le] at h4
      refine al_pass rfl rfl rfl rfl (by simp) ?_
      refine al_pass rfl rfl rfl rfl (by simp) ?_
      refine al_pass rfl rfl rfl rfl (by simp) ?_
      first
        | refine al_op (op_pick rfl rfl) rfl (by simp) ?_
        | refine al_op (op_and rfl rfl rfl) rfl (by simp) ?_
      refine al_nil ⟨rfl, rfl, rfl, keep_of ?_⟩
      repeat (first | exact subx_refl | exact subx_known rfl gh4 subx_refl | refine subx_put rfl ?_)
    refine al_op (op_move rfl) rfl (by simp) ?_
    apply al_and 2 57 59 rfl
    · intro h5; have gh5 := h5
      try simp only [decide_eq_true_eq, decide_eq_false_iff_not, Bool.not_eq_true', Bool.not_eq_false', beq_iff_eq, bne_iff_ne, beq_eq_false_iff_ne, bne_eq_false_iff_eq, Bool.or_eq_true, Bool.and_eq_true, Bool.or_eq_false_iff, gt_iff_lt, ge_iff_le] at h5
      first
        | refine al_callp_take into15 rfl rfl rfl rfl rfl rfl ((l_awake ) _) (by simp) ?_
        | refine al_callp_take into15 rfl rfl rfl rfl rfl rfl (acp_lent lend_nil (l_awake ) rfl) (by simp) ?_
      first
        | refine al_op (op_pick rfl rfl) rfl (by simp) ?_
        | refine al_op (op_and rfl rfl rfl) rfl (by simp) ?_
      refine al_nil ⟨rfl, rfl, rfl, keep_of ?_⟩
      repeat (first | exact subx_refl | exact subx_known rfl gh5 subx_refl | refine subx_put rfl ?_)
    · intro h5; have gh5 := h5
      try simp only [decide_eq_true_eq, decide_eq_false_iff_not, Bool.not_eq_true', Bool.not_eq_false', beq_iff_eq, bne_iff_ne, beq_eq_false_iff_ne, bne_eq_false_iff_eq, Bool.or_eq_true, Bool.and_eq_true, Bool.or_eq_false_iff, gt_iff_lt, ge_iff_le] at h5
      refine al_pass rfl rfl rfl rfl (by simp) ?_
      first
        | refine al_op (op_pick rfl rfl) rfl (by simp) ?_
        | refine al_op (op_and rfl rfl rfl) rfl (by simp) ?_
      refine al_nil ⟨rfl, rfl, rfl, keep_of ?_⟩
      repeat (first | exact subx_refl | exact subx_known rfl gh5 subx_refl | refine subx_put rfl ?_)
    refine al_op (op_assign rfl) rfl (by simp) ?_
    refine al_nil ?_
    refine aw_freeze (fun _ => false) (fsub_cons (t := 4) rfl (.leaf _ _ (.same _)) fsub_nil) ?_
    refine aw_ret ?_
    refine ⟨_, res_1 rfl rfl, ?_, rfl⟩
    first | rfl | simp [sameBits_refl]
end Go.Proofs.Ytbpamlphacpkeaa
