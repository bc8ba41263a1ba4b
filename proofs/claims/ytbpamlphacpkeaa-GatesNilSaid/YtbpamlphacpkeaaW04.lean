/- Printed walks (gen.py, gates_ann.py): part 04. -/
import Derived.Test.YtbpamlphacpkeaaW03
import Derived.Test.YtbpamlphacpkeaaFacts
set_option linter.unusedVariables false
set_option linter.unusedSimpArgs false
set_option maxRecDepth 20000
namespace Go.Proofs.Ytbpamlphacpkeaa
open Go

theorem c_valid (n : Net) (hn : n.Small) : ACp Try.prog 27 [encN n] (.v (.bool (n.valid))) := by
  refine acp_of rfl ?_
  obtain ⟨b1, b2, b3, b4, b5, b6, b7, b8, b9, b10, b11⟩ := hn
  refine ac_enter 113 Try.func27 rfl rfl (by simp) ?_
  refine aw_seq ?_
  refine aw_region ?_
  (refine al_opR (op_box 1 rfl rfl (by first | rfl | exact live_one rfl | (repeat (first | exact all_live_nil | refine all_live_clo rfl ?_ | refine all_live_slice rfl ?_ | refine all_live_map rfl ?_ | refine all_live_ptr rfl ?_)))) rfl (by simp) ?_; rintro _ _ ⟨ver1, rfl, rfl⟩)
  refine al_op (op_assign rfl) rfl (by simp) ?_
  refine al_nil ?_
  refine aw_seq ?_
  refine aw_seq ?_
  refine aw_region ?_
  first
    | refine al_op (op_field_rptr Try.underlying27 rfl info22 (by decide) rfl rfl) rfl (by simp) ?_
    | refine al_op (op_field_ptr Try.underlying27 rfl info22 (by decide) rfl rfl rfl) rfl (by simp) ?_
  first
    | refine al_op (op_load_rptr Try.underlying22 info22 rfl rfl) rfl (by simp) ?_
    | refine al_op (op_load_map Try.underlying22 info22 rfl rfl (by omega) rfl) rfl (by simp) ?_
    | refine al_op (op_load_ptr Try.underlying22 info22 rfl rfl rfl rfl) rfl (by simp) ?_
  first
    | refine al_callp into64 rfl rfl rfl ((c_names1 _ (by assumption)) _) (by simp) ?_
    | refine al_callp into64 rfl rfl rfl (acp_lent (lend_cons (by first | exact lend_same | exact .leaf _ _ (.vnil _) | exact .leaf _ _ (.nil _) | exact lend_whole rfl (by first | rfl | simp) (clo_map (fun _ => rfl))) (lend_cons (by first | exact lend_same | exact .leaf _ _ (.vnil _) | exact .leaf _ _ (.nil _) | exact lend_whole rfl (by first | rfl | simp) (clo_map (fun _ => rfl))) lend_nil)) (c_names1 _ (by assumption)) rfl) (by simp) ?_
  refine al_op (op_not rfl) rfl (by simp) ?_
  refine al_op (op_move rfl) rfl (by simp) ?_
  apply al_or 5 15 20 rfl
  · intro h1; have gh1 := h1
    try simp only [decide_eq_true_eq, decide_eq_false_iff_not, Bool.not_eq_true', Bool.not_eq_false', beq_iff_eq, bne_iff_ne, beq_eq_false_iff_ne, bne_eq_false_iff_eq, Bool.or_eq_true, Bool.and_eq_true, Bool.or_eq_false_iff, gt_iff_lt, ge_iff_le] at h1
    first
      | refine al_take (op_field_rptr Try.underlying27 rfl info23 (by decide) rfl rfl) rfl rfl rfl rfl (by simp) ?_
      | refine al_take (op_field_ptr Try.underlying27 rfl info23 (by decide) rfl rfl rfl) rfl rfl rfl rfl (by simp) ?_
    first
      | refine al_take (op_load_rptr Try.underlying23 info23 rfl rfl) rfl rfl rfl rfl (by simp) ?_
      | refine al_take (op_load_map Try.underlying23 info23 rfl rfl (by omega) rfl) rfl rfl rfl rfl (by simp) ?_
      | refine al_take (op_load_ptr Try.underlying23 info23 rfl rfl rfl rfl) rfl rfl rfl rfl (by simp) ?_
    first
      | refine al_callp_take into66 rfl rfl rfl rfl rfl rfl ((c_names2 _ (by assumption)) _) (by simp) ?_
      | refine al_callp_take into66 rfl rfl rfl rfl rfl rfl (acp_lent (lend_cons (by first | exact lend_same | exact .leaf _ _ (.vnil _) | exact .leaf _ _ (.nil _) | exact lend_whole rfl (by first | rfl | simp) (clo_map (fun _ => rfl))) (lend_cons (by first | exact lend_same | exact .leaf _ _ (.vnil _) | exact .leaf _ _ (.nil _) | exact lend_whole rfl (by first | rfl | simp) (clo_map (fun _ => rfl))) lend_nil)) (c_names2 _ (by assumption)) rfl) (by simp) ?_
    refine al_take (op_not rfl) rfl rfl rfl rfl (by simp) ?_
    first
      | refine al_op (op_pick rfl rfl) rfl (by simp) ?_
      | refine al_op (op_or rfl rfl rfl) rfl (by simp) ?_
    refine al_nil ⟨rfl, rfl, rfl, keep_of ?_⟩
    repeat (first | exact subx_refl | exact subx_known rfl gh1 subx_refl | refine subx_put rfl ?_)
  · intro h1; have gh1 := h1
    try simp only [decide_eq_true_eq, decide_eq_false_iff_not, Bool.not_eq_true', Bool.not_eq_false', beq_iff_eq, bne_iff_ne, beq_eq_false_iff_ne, bne_eq_false_iff_eq, Bool.or_eq_true, Bool.and_eq_true, Bool.or_eq_false_iff, gt_iff_lt, ge_iff_le] at h1
    refine al_pass rfl rfl rfl rfl (by simp) ?_
    refine al_pass rfl rfl rfl rfl (by simp) ?_
    refine al_pass rfl rfl rfl rfl (by simp) ?_
    refine al_pass rfl rfl rfl rfl (by simp) ?_
    first
      | refine al_op (op_pick rfl rfl) rfl (by simp) ?_
      | refine al_op (op_or rfl rfl rfl) rfl (by simp) ?_
    refine al_nil ⟨rfl, rfl, rfl, keep_of ?_⟩
    repeat (first | exact subx_refl | exact subx_known rfl gh1 subx_refl | refine subx_put rfl ?_)
  refine al_op (op_move rfl) rfl (by simp) ?_
  apply al_or 5 21 26 rfl
  · intro h2; have gh2 := h2
    try simp only [decide_eq_true_eq, decide_eq_false_iff_not, Bool.not_eq_true', Bool.not_eq_false', beq_iff_eq, bne_iff_ne, beq_eq_false_iff_ne, bne_eq_false_iff_eq, Bool.or_eq_true, Bool.and_eq_true, Bool.or_eq_false_iff, gt_iff_lt, ge_iff_le] at h2
    first
      | refine al_take (op_field_rptr Try.underlying27 rfl info25 (by decide) rfl rfl) rfl rfl rfl rfl (by simp) ?_
      | refine al_take (op_field_ptr Try.underlying27 rfl info25 (by decide) rfl rfl rfl) rfl rfl rfl rfl (by simp) ?_
    first
      | refine al_take (op_load_rptr Try.underlying25 info25 rfl rfl) rfl rfl rfl rfl (by simp) ?_
      | refine al_take (op_load_map Try.underlying25 info25 rfl rfl (by omega) rfl) rfl rfl rfl rfl (by simp) ?_
      | refine al_take (op_load_ptr Try.underlying25 info25 rfl rfl rfl rfl) rfl rfl rfl rfl (by simp) ?_
    first
      | refine al_callp_take into68 rfl rfl rfl rfl rfl rfl ((c_names3 _ (by assumption)) _) (by simp) ?_
      | refine al_callp_take into68 rfl rfl rfl rfl rfl rfl (acp_lent (lend_cons (by first | exact lend_same | exact .leaf _ _ (.vnil _) | exact .leaf _ _ (.nil _) | exact lend_whole rfl (by first | rfl | simp) (clo_map (fun _ => rfl))) (lend_cons (by first | exact lend_same | exact .leaf _ _ (.vnil _) | exact .leaf _ _ (.nil _) | exact lend_whole rfl (by first | rfl | simp) (clo_map (fun _ => rfl))) lend_nil)) (c_names3 _ (by assumption)) rfl) (by simp) ?_
    refine al_take (op_not rfl) rfl rfl rfl rfl (by simp) ?_
    first
      | refine al_op (op_pick rfl rfl) rfl (by simp) ?_
      | refine al_op (op_or rfl rfl rfl) rfl (by simp) ?_
    refine al_nil ⟨rfl, rfl, rfl, keep_of ?_⟩
    repeat (first | exact subx_refl | exact subx_known rfl gh2 subx_refl | refine subx_put rfl ?_)
  · intro h2; have gh2 := h2
    try simp only [decide_eq_true_eq, decide_eq_false_iff_not, Bool.not_eq_true', Bool.not_eq_false', beq_iff_eq, bne_iff_ne, beq_eq_false_iff_ne, bne_eq_false_iff_eq, Bool.or_eq_true, Bool.and_eq_true, Bool.or_eq_false_iff, gt_iff_lt, ge_iff_le] at h2
    refine al_pass rfl rfl rfl rfl (by simp) ?_
    refine al_pass rfl rfl rfl rfl (by simp) ?_
    refine al_pass rfl rfl rfl rfl (by simp) ?_
    refine al_pass rfl rfl rfl rfl (by simp) ?_
    first
      | refine al_op (op_pick rfl rfl) rfl (by simp) ?_
      | refine al_op (op_or rfl rfl rfl) rfl (by simp) ?_
    refine al_nil ⟨rfl, rfl, rfl, keep_of ?_⟩
    repeat (first | exact subx_refl | exact subx_known rfl gh2 subx_refl | refine subx_put rfl ?_)
  refine al_op (op_move rfl) rfl (by simp) ?_
  apply al_or 5 27 32 rfl
  · intro h3; have gh3 := h3
    try simp only [decide_eq_true_eq, decide_eq_false_iff_not, Bool.not_eq_true', Bool.not_eq_false', beq_iff_eq, bne_iff_ne, beq_eq_false_iff_ne, bne_eq_false_iff_eq, Bool.or_eq_true, Bool.and_eq_true, Bool.or_eq_false_iff, gt_iff_lt, ge_iff_le] at h3
    first
      | refine al_take (op_field_rptr Try.underlying27 rfl info24 (by decide) rfl rfl) rfl rfl rfl rfl (by simp) ?_
      | refine al_take (op_field_ptr Try.underlying27 rfl info24 (by decide) rfl rfl rfl) rfl rfl rfl rfl (by simp) ?_
    first
      | refine al_take (op_load_rptr Try.underlying24 info24 rfl rfl) rfl rfl rfl rfl (by simp) ?_
      | refine al_take (op_load_map Try.underlying24 info24 rfl rfl (by omega) rfl) rfl rfl rfl rfl (by simp) ?_
      | refine al_take (op_load_ptr Try.underlying24 info24 rfl rfl rfl rfl) rfl rfl rfl rfl (by simp) ?_
    first
      | refine al_take (op_len_map Try.underlying24 rfl) rfl rfl rfl rfl (by simp) ?_
      | refine al_take (op_len_slice Try.underlying24 rfl rfl) rfl rfl rfl rfl (by simp) ?_
      | refine al_take (op_len_list Try.underlying24 rfl) rfl rfl rfl rfl (by simp) ?_
      | refine al_take (op_len_v Try.underlying24 rfl) rfl rfl rfl rfl (by simp) ?_
      | refine al_take (op_len_nil Try.underlying24 rfl) rfl rfl rfl rfl (by simp) ?_
    refine al_take (op_gtr rfl rfl) rfl rfl rfl rfl (by simp) ?_
    first
      | refine al_op (op_pick rfl rfl) rfl (by simp) ?_
      | refine al_op (op_or rfl rfl rfl) rfl (by simp) ?_
    refine al_nil ⟨rfl, rfl, rfl, keep_of ?_⟩
    repeat (first | exact subx_refl | exact subx_known rfl gh3 subx_refl | refine subx_put rfl ?_)
  · intro h3; have gh3 := h3
    try simp only [decide_eq_true_eq, decide_eq_false_iff_not, Bool.not_eq_true', Bool.not_eq_false', beq_iff_eq, bne_iff_ne, beq_eq_false_iff_ne, bne_eq_false_iff_eq, Bool.or_eq_true, Bool.and_eq_true, Bool.or_eq_false_iff, gt_iff_lt, ge_iff_le] at h3
    refine al_pass rfl rfl rfl rfl (by simp) ?_
    refine al_pass rfl rfl rfl rfl (by simp) ?_
    refine al_pass rfl rfl rfl rfl (by simp) ?_
    refine al_pass rfl rfl rfl rfl (by simp) ?_
    first
      | refine al_op (op_pick rfl rfl) rfl (by simp) ?_
      | refine al_op (op_or rfl rfl rfl) rfl (by simp) ?_
    refine al_nil ⟨rfl, rfl, rfl, keep_of ?_⟩
    repeat (first | exact subx_refl | exact subx_known rfl gh3 subx_refl | refine subx_put rfl ?_)
  refine al_nil ?_
  refine aw_cond rfl (fun h4 => ?_) (fun h4 => ?_)
  · have gh4 := h4
    try simp only [decide_eq_true_eq, decide_eq_false_iff_not, Bool.not_eq_true', Bool.not_eq_false', beq_iff_eq, bne_iff_ne, beq_eq_false_iff_ne, bne_eq_false_iff_eq, Bool.or_eq_true, Bool.and_eq_true, Bool.or_eq_false_iff, gt_iff_lt, ge_iff_le] at h4
    refine aw_seq ?_
    refine aw_region ?_
    refine al_op (op_assign rfl) rfl (by simp) ?_
    refine al_nil ?_
    refine aw_freeze (fun _ => false) (fsub_cons (t := 2) rfl (.leaf _ _ (.same _)) fsub_nil) ?_
    refine aw_ret ?_
    refine ⟨_, res_1 rfl rfl, ?_, rfl⟩
    rw [Net.valid_head (by rw [okHead_eq, gh4]; rfl)]
  · have gh4 := h4
    try simp only [decide_eq_true_eq, decide_eq_false_iff_not, Bool.not_eq_true', Bool.not_eq_false', beq_iff_eq, bne_iff_ne, beq_eq_false_iff_ne, bne_eq_false_iff_eq, Bool.or_eq_true, Bool.and_eq_true, Bool.or_eq_false_iff, gt_iff_lt, ge_iff_le] at h4
    have hh : n.okHead = true := by rw [okHead_eq, gh4]; rfl
    obtain ⟨e1, e2, e3, e4⟩ := okHead_len hh
    refine aw_skip ?_
    refine aw_seq ?_
    refine aw_region ?_
    first
      | refine al_op (op_field_rptr Try.underlying27 rfl info22 (by decide) rfl rfl) rfl (by simp) ?_
      | refine al_op (op_field_ptr Try.underlying27 rfl info22 (by decide) rfl rfl rfl) rfl (by simp) ?_
    first
      | refine al_op (op_load_rptr Try.underlying22 info22 rfl rfl) rfl (by simp) ?_
      | refine al_op (op_load_map Try.underlying22 info22 rfl rfl (by omega) rfl) rfl (by simp) ?_
      | refine al_op (op_load_ptr Try.underlying22 info22 rfl rfl rfl rfl) rfl (by simp) ?_
    first
      | refine al_op (op_len_map Try.underlying22 rfl) rfl (by simp) ?_
      | refine al_op (op_len_slice Try.underlying22 rfl rfl) rfl (by simp) ?_
      | refine al_op (op_len_list Try.underlying22 rfl) rfl (by simp) ?_
      | refine al_op (op_len_v Try.underlying22 rfl) rfl (by simp) ?_
      | refine al_op (op_len_nil Try.underlying22 rfl) rfl (by simp) ?_
    refine al_op (op_add rfl rfl (by first | exact wrap_i64 (by omega) (by omega))) rfl (by simp) ?_
    first
      | refine al_op (op_field_rptr Try.underlying27 rfl info23 (by decide) rfl rfl) rfl (by simp) ?_
      | refine al_op (op_field_ptr Try.underlying27 rfl info23 (by decide) rfl rfl rfl) rfl (by simp) ?_
    first
      | refine al_op (op_load_rptr Try.underlying23 info23 rfl rfl) rfl (by simp) ?_
      | refine al_op (op_load_map Try.underlying23 info23 rfl rfl (by omega) rfl) rfl (by simp) ?_
      | refine al_op (op_load_ptr Try.underlying23 info23 rfl rfl rfl rfl) rfl (by simp) ?_
    first
      | refine al_op (op_len_map Try.underlying23 rfl) rfl (by simp) ?_
      | refine al_op (op_len_slice Try.underlying23 rfl rfl) rfl (by simp) ?_
      | refine al_op (op_len_list Try.underlying23 rfl) rfl (by simp) ?_
      | refine al_op (op_len_v Try.underlying23 rfl) rfl (by simp) ?_
      | refine al_op (op_len_nil Try.underlying23 rfl) rfl (by simp) ?_
    refine al_op (op_add rfl rfl (by first | exact wrap_i64 (by omega) (by omega))) rfl (by simp) ?_
    refine al_op (op_assign rfl) rfl (by simp) ?_
    refine al_nil ?_
    refine aw_seq ?_
    refine aw_seq ?_
    refine aw_region ?_
    first
      | refine al_op (op_field_rptr Try.underlying27 rfl info24 (by decide) rfl rfl) rfl (by simp) ?_
      | refine al_op (op_field_ptr Try.underlying27 rfl info24 (by decide) rfl rfl rfl) rfl (by simp) ?_
    first
      | refine al_op (op_load_rptr Try.underlying24 info24 rfl rfl) rfl (by simp) ?_
      | refine al_op (op_load_map Try.underlying24 info24 rfl rfl (by omega) rfl) rfl (by simp) ?_
      | refine al_op (op_load_ptr Try.underlying24 info24 rfl rfl rfl rfl) rfl (by simp) ?_
    first
      | refine al_op (op_len_map Try.underlying24 rfl) rfl (by simp) ?_
      | refine al_op (op_len_slice Try.underlying24 rfl rfl) rfl (by simp) ?_
      | refine al_op (op_len_list Try.underlying24 rfl) rfl (by simp) ?_
      | refine al_op (op_len_v Try.underlying24 rfl) rfl (by simp) ?_
      | refine al_op (op_len_nil Try.underlying24 rfl) rfl (by simp) ?_
    refine al_op (op_move rfl) rfl (by simp) ?_
    refine al_nil ?_
    refine aw_block ?_
    refine aw_forT (ι := Nat) [2, 44] [5] (fun i => n.gates.length - i) (fun i => i ≤ n.gates.length ∧ allTo n.gateAt i = true) (fun i => ([(44, .v (.int .i64 (i)))] : Env)) (fun i s => s) (0) ?_ ?_ ?_ (fun i hinv => ?_)
    · exact ⟨Nat.zero_le _, rfl⟩
    · refine sub_cons (get_as rfl ?_) ?_; rotate_left; exact sub_nil
      all_goals (first | rfl | simp)
    · rfl
    have hi := hinv.1
    refine aw_seq ?_
    refine aw_region ?_
    refine al_op (op_lss rfl rfl) rfl (by simp) ?_
    refine al_nil ?_
    refine aw_seq ?_
    refine aw_cond rfl (fun h5 => ?_) (fun h5 => ?_)
    · have gh5 := h5
      try simp only [decide_eq_true_eq, decide_eq_false_iff_not, Bool.not_eq_true', Bool.not_eq_false', beq_iff_eq, bne_iff_ne, beq_eq_false_iff_ne, bne_eq_false_iff_eq, Bool.or_eq_true, Bool.and_eq_true, Bool.or_eq_false_iff, gt_iff_lt, ge_iff_le] at h5
      refine aw_skip ?_
      refine aw_seq ?_
      refine aw_block ?_
      refine aw_seq ?_
      refine aw_region ?_
      refine al_op (op_move rfl) rfl (by simp) ?_
      first
        | refine al_op (op_index_map default Try.underlying24 info86 rfl rfl rfl (by first | (with_reducible exact Int.toNat_natCast _) | rfl) (by omega) (by omega)) rfl (by simp) ?_
        | refine al_op (op_index_slice Try.underlying24 info86 rfl rfl rfl rfl (by omega) (by omega)) rfl (by simp) ?_
        | refine al_op (op_index_list Try.underlying24 info86 rfl rfl rfl (by decide) rfl) rfl (by simp) ?_
      first
        | refine al_op (op_load_rptr Try.underlying86 info86 rfl rfl) rfl (by simp) ?_
        | refine al_op (op_load_map Try.underlying86 info86 rfl rfl (by omega) rfl) rfl (by simp) ?_
        | refine al_op (op_load_ptr Try.underlying86 info86 rfl rfl rfl rfl) rfl (by simp) ?_
      (refine al_opR (op_alloc 5 info86 rfl rfl) rfl (by simp) ?_; rintro _ _ ⟨ver5, rfl, rfl⟩)
      refine al_op (op_assign rfl) rfl (by simp) ?_
      first
        | refine al_op (op_store_ptr info86 rfl rfl rfl rfl rfl rfl (by first | rfl | exact live_one rfl | (repeat (first | exact all_live_nil | refine all_live_clo rfl ?_ | refine all_live_slice rfl ?_ | refine all_live_map rfl ?_ | refine all_live_ptr rfl ?_))) (by decide)) rfl (by simp) ?_
        | refine al_op (op_store_ptr info86 rfl rfl rfl rfl rfl rfl (by first | rfl | exact live_one rfl | (repeat (first | exact all_live_nil | refine all_live_clo rfl ?_ | refine all_live_slice rfl ?_ | refine all_live_map rfl ?_ | refine all_live_ptr rfl ?_))) (Nat.le_of_ble_eq_true rfl)) rfl (by simp) ?_
      refine al_nil ?_
      refine aw_seq ?_
      refine aw_region ?_
      first
        | refine al_op (op_index_arptr Try.underlying86 info3 rfl rfl rfl (by decide) (by decide)) rfl (by simp) ?_
        | refine al_op (op_index_aptr Try.underlying86 info3 rfl rfl rfl rfl (by decide) (by decide)) rfl (by simp) ?_
      first
        | refine al_op (op_load_rptr Try.underlying3 info3 rfl rfl) rfl (by simp) ?_
        | refine al_op (op_load_map Try.underlying3 info3 rfl rfl (by omega) rfl) rfl (by simp) ?_
        | refine al_op (op_load_ptr Try.underlying3 info3 rfl rfl rfl rfl) rfl (by simp) ?_
      first
        | refine al_op (op_index_arptr Try.underlying86 info3 rfl rfl rfl (by decide) (by decide)) rfl (by simp) ?_
        | refine al_op (op_index_aptr Try.underlying86 info3 rfl rfl rfl rfl (by decide) (by decide)) rfl (by simp) ?_
      first
        | refine al_op (op_load_rptr Try.underlying3 info3 rfl rfl) rfl (by simp) ?_
        | refine al_op (op_load_map Try.underlying3 info3 rfl rfl (by omega) rfl) rfl (by simp) ?_
        | refine al_op (op_load_ptr Try.underlying3 info3 rfl rfl rfl rfl) rfl (by simp) ?_
      refine al_op (op_min rfl rfl) rfl (by simp) ?_
      refine al_op (op_lss rfl rfl) rfl (by simp) ?_
      refine al_op (op_move rfl) rfl (by simp) ?_
      apply al_or 11 55 66 rfl
      · intro h6; have gh6 := h6
        try simp only [decide_eq_true_eq, decide_eq_false_iff_not, Bool.not_eq_true', Bool.not_eq_false', beq_iff_eq, bne_iff_ne, beq_eq_false_iff_ne, bne_eq_false_iff_eq, Bool.or_eq_true, Bool.and_eq_true, Bool.or_eq_false_iff, gt_iff_lt, ge_iff_le] at h6
        first
          | refine al_take (op_index_arptr Try.underlying86 info3 rfl rfl rfl (by decide) (by decide)) rfl rfl rfl rfl (by simp) ?_
          | refine al_take (op_index_aptr Try.underlying86 info3 rfl rfl rfl rfl (by decide) (by decide)) rfl rfl rfl rfl (by simp) ?_
        first
          | refine al_take (op_load_rptr Try.underlying3 info3 rfl rfl) rfl rfl rfl rfl (by simp) ?_
          | refine al_take (op_load_map Try.underlying3 info3 rfl rfl (by omega) rfl) rfl rfl rfl rfl (by simp) ?_
          | refine al_take (op_load_ptr Try.underlying3 info3 rfl rfl rfl rfl) rfl rfl rfl rfl (by simp) ?_
        first
          | refine al_take (op_index_arptr Try.underlying86 info3 rfl rfl rfl (by decide) (by decide)) rfl rfl rfl rfl (by simp) ?_
          | refine al_take (op_index_aptr Try.underlying86 info3 rfl rfl rfl rfl (by decide) (by decide)) rfl rfl rfl rfl (by simp) ?_
        first
          | refine al_take (op_load_rptr Try.underlying3 info3 rfl rfl) rfl rfl rfl rfl (by simp) ?_
          | refine al_take (op_load_map Try.underlying3 info3 rfl rfl (by omega) rfl) rfl rfl rfl rfl (by simp) ?_
          | refine al_take (op_load_ptr Try.underlying3 info3 rfl rfl rfl rfl) rfl rfl rfl rfl (by simp) ?_
        refine al_take (op_max rfl rfl) rfl rfl rfl rfl (by simp) ?_
        refine al_take (op_move rfl) rfl rfl rfl rfl (by simp) ?_
        refine al_take (op_move rfl) rfl rfl rfl rfl (by simp) ?_
        refine al_take (op_add rfl rfl (by first | exact wrap_i64 (by omega) (by omega))) rfl rfl rfl rfl (by simp) ?_
        refine al_take (op_mul rfl rfl (by first | exact wrap_i64 (by omega) (by omega))) rfl rfl rfl rfl (by simp) ?_
        refine al_take (op_geq rfl rfl) rfl rfl rfl rfl (by simp) ?_
        first
          | refine al_op (op_pick rfl rfl) rfl (by simp) ?_
          | refine al_op (op_or rfl rfl rfl) rfl (by simp) ?_
        refine al_nil ⟨rfl, rfl, rfl, keep_of ?_⟩
        repeat (first | exact subx_refl | exact subx_known rfl gh6 subx_refl | refine subx_put rfl ?_)
      · intro h6; have gh6 := h6
        try simp only [decide_eq_true_eq, decide_eq_false_iff_not, Bool.not_eq_true', Bool.not_eq_false', beq_iff_eq, bne_iff_ne, beq_eq_false_iff_ne, bne_eq_false_iff_eq, Bool.or_eq_true, Bool.and_eq_true, Bool.or_eq_false_iff, gt_iff_lt, ge_iff_le] at h6
        refine al_pass rfl rfl rfl rfl (by simp) ?_
        refine al_pass rfl rfl rfl rfl (by simp) ?_
        refine al_pass rfl rfl rfl rfl (by simp) ?_
        refine al_pass rfl rfl rfl rfl (by simp) ?_
        refine al_pass rfl rfl rfl rfl (by simp) ?_
        refine al_pass rfl rfl rfl rfl (by simp) ?_
        refine al_pass rfl rfl rfl rfl (by simp) ?_
        refine al_pass rfl rfl rfl rfl (by simp) ?_
        refine al_pass rfl rfl rfl rfl (by simp) ?_
        refine al_pass rfl rfl rfl rfl (by simp) ?_
        first
          | refine al_op (op_pick rfl rfl) rfl (by simp) ?_
          | refine al_op (op_or rfl rfl rfl) rfl (by simp) ?_
        refine al_nil ⟨rfl, rfl, rfl, keep_of ?_⟩
        repeat (first | exact subx_refl | exact subx_known rfl gh6 subx_refl | refine subx_put rfl ?_)
      refine al_nil ?_
      refine aw_cond rfl (fun h7 => ?_) (fun h7 => ?_)
      · have gh7 := h7
        try simp only [decide_eq_true_eq, decide_eq_false_iff_not, Bool.not_eq_true', Bool.not_eq_false', beq_iff_eq, bne_iff_ne, beq_eq_false_iff_ne, bne_eq_false_iff_eq, Bool.or_eq_true, Bool.and_eq_true, Bool.or_eq_false_iff, gt_iff_lt, ge_iff_le] at h7
        refine aw_seq ?_
        refine aw_region ?_
        refine al_op (op_assign rfl) rfl (by simp) ?_
        refine al_nil ?_
        refine aw_freeze (fun _ => false) (fsub_cons (t := 2) rfl (.leaf _ _ (.same _)) fsub_nil) ?_
        refine aw_ret ?_
        refine ⟨_, res_1 rfl rfl, ?_, rfl⟩
        rw [Net.valid_gate i (by omega) (congrArg Bool.not gh7)]
      · have gh7 := h7
        try simp only [decide_eq_true_eq, decide_eq_false_iff_not, Bool.not_eq_true', Bool.not_eq_false', beq_iff_eq, bne_iff_ne, beq_eq_false_iff_ne, bne_eq_false_iff_eq, Bool.or_eq_true, Bool.and_eq_true, Bool.or_eq_false_iff, gt_iff_lt, ge_iff_le] at h7
        refine aw_skip ?_
        refine aw_region ?_
        refine al_op (op_add rfl rfl (by first | exact wrap_i64 (by omega) (by omega))) rfl (by simp) ?_
        refine al_op (op_move rfl) rfl (by simp) ?_
        refine al_nil ?_
        refine ⟨i + 1, ?_, ?_, ?_, ?_, ?_⟩
        · omega
        · exact ⟨by omega, allTo_succ hinv.2 (congrArg Bool.not gh7)⟩
        · refine sub_cons (get_as rfl ?_) ?_; rotate_left; exact sub_nil
          all_goals (first | rfl | simp)
        · repeat (first | exact subx_refl | exact subx_del | refine subx_put rfl ?_)
        · rfl
    · have gh5 := h5
      try simp only [decide_eq_true_eq, decide_eq_false_iff_not, Bool.not_eq_true', Bool.not_eq_false', beq_iff_eq, bne_iff_ne, beq_eq_false_iff_ne, bne_eq_false_iff_eq, Bool.or_eq_true, Bool.and_eq_true, Bool.or_eq_false_iff, gt_iff_lt, ge_iff_le] at h5
      refine aw_exit ?_
      obtain rfl : i = n.gates.length := by omega
      have a44 := hinv.2
      clear hinv hi
      refine aw_seq ?_
      refine aw_region ?_
      refine al_op (op_move rfl) rfl (by simp) ?_
      first
        | refine al_op (op_field_rptr Try.underlying27 rfl info24 (by decide) rfl rfl) rfl (by simp) ?_
        | refine al_op (op_field_ptr Try.underlying27 rfl info24 (by decide) rfl rfl rfl) rfl (by simp) ?_
      first
        | refine al_op (op_load_rptr Try.underlying24 info24 rfl rfl) rfl (by simp) ?_
        | refine al_op (op_load_map Try.underlying24 info24 rfl rfl (by omega) rfl) rfl (by simp) ?_
        | refine al_op (op_load_ptr Try.underlying24 info24 rfl rfl rfl rfl) rfl (by simp) ?_
      first
        | refine al_op (op_len_map Try.underlying24 rfl) rfl (by simp) ?_
        | refine al_op (op_len_slice Try.underlying24 rfl rfl) rfl (by simp) ?_
        | refine al_op (op_len_list Try.underlying24 rfl) rfl (by simp) ?_
        | refine al_op (op_len_v Try.underlying24 rfl) rfl (by simp) ?_
        | refine al_op (op_len_nil Try.underlying24 rfl) rfl (by simp) ?_
      refine al_op (op_add rfl rfl (by first | exact wrap_i64 (by omega) (by omega))) rfl (by simp) ?_
      refine al_op (op_mul rfl rfl (by first | exact wrap_i64 (by omega) (by omega))) rfl (by simp) ?_
      refine al_op (op_assign rfl) rfl (by simp) ?_
      refine al_nil ?_
      refine aw_seq ?_
      refine aw_seq ?_
      refine aw_region ?_
      first
        | refine al_op (op_field_rptr Try.underlying27 rfl info23 (by decide) rfl rfl) rfl (by simp) ?_
        | refine al_op (op_field_ptr Try.underlying27 rfl info23 (by decide) rfl rfl rfl) rfl (by simp) ?_
      first
        | refine al_op (op_load_rptr Try.underlying23 info23 rfl rfl) rfl (by simp) ?_
        | refine al_op (op_load_map Try.underlying23 info23 rfl rfl (by omega) rfl) rfl (by simp) ?_
        | refine al_op (op_load_ptr Try.underlying23 info23 rfl rfl rfl rfl) rfl (by simp) ?_
      first
        | refine al_op (op_len_map Try.underlying23 rfl) rfl (by simp) ?_
        | refine al_op (op_len_slice Try.underlying23 rfl rfl) rfl (by simp) ?_
        | refine al_op (op_len_list Try.underlying23 rfl) rfl (by simp) ?_
        | refine al_op (op_len_v Try.underlying23 rfl) rfl (by simp) ?_
        | refine al_op (op_len_nil Try.underlying23 rfl) rfl (by simp) ?_
      refine al_op (op_move rfl) rfl (by simp) ?_
      refine al_nil ?_
      refine aw_block ?_
      refine aw_forT (ι := Nat) [2, 77] [8] (fun i => n.regs.length - i) (fun i => i ≤ n.regs.length ∧ allTo n.regAt i = true) (fun i => ([(77, .v (.int .i64 (i)))] : Env)) (fun i s => s) (0) ?_ ?_ ?_ (fun i hinv => ?_)
      · exact ⟨Nat.zero_le _, rfl⟩
      · refine sub_cons (get_as rfl ?_) ?_; rotate_left; exact sub_nil
        all_goals (first | rfl | simp)
      · rfl
      have hi := hinv.1
      refine aw_seq ?_
      refine aw_region ?_
      refine al_op (op_lss rfl rfl) rfl (by simp) ?_
      refine al_nil ?_
      refine aw_seq ?_
      refine aw_cond rfl (fun h8 => ?_) (fun h8 => ?_)
      · have gh8 := h8
        try simp only [decide_eq_true_eq, decide_eq_false_iff_not, Bool.not_eq_true', Bool.not_eq_false', beq_iff_eq, bne_iff_ne, beq_eq_false_iff_ne, bne_eq_false_iff_eq, Bool.or_eq_true, Bool.and_eq_true, Bool.or_eq_false_iff, gt_iff_lt, ge_iff_le] at h8
        refine aw_skip ?_
        refine aw_seq ?_
        refine aw_block ?_
        refine aw_seq ?_
        refine aw_region ?_
        first
          | refine al_op (op_index_map default Try.underlying23 info93 rfl rfl rfl (by first | (with_reducible exact Int.toNat_natCast _) | rfl) (by omega) (by omega)) rfl (by simp) ?_
          | refine al_op (op_index_slice Try.underlying23 info93 rfl rfl rfl rfl (by omega) (by omega)) rfl (by simp) ?_
          | refine al_op (op_index_list Try.underlying23 info93 rfl rfl rfl (by decide) rfl) rfl (by simp) ?_
        first
          | refine al_op (op_load_rptr Try.underlying93 info93 rfl rfl) rfl (by simp) ?_
          | refine al_op (op_load_map Try.underlying93 info93 rfl rfl (by omega) rfl) rfl (by simp) ?_
          | refine al_op (op_load_ptr Try.underlying93 info93 rfl rfl rfl rfl) rfl (by simp) ?_
        (refine al_opR (op_alloc 8 info93 rfl rfl) rfl (by simp) ?_; rintro _ _ ⟨ver8, rfl, rfl⟩)
        first
          | refine al_op (op_store_ptr info93 rfl rfl rfl rfl rfl rfl (by first | rfl | exact live_one rfl | (repeat (first | exact all_live_nil | refine all_live_clo rfl ?_ | refine all_live_slice rfl ?_ | refine all_live_map rfl ?_ | refine all_live_ptr rfl ?_))) (by decide)) rfl (by simp) ?_
          | refine al_op (op_store_ptr info93 rfl rfl rfl rfl rfl rfl (by first | rfl | exact live_one rfl | (repeat (first | exact all_live_nil | refine all_live_clo rfl ?_ | refine all_live_slice rfl ?_ | refine all_live_map rfl ?_ | refine all_live_ptr rfl ?_))) (Nat.le_of_ble_eq_true rfl)) rfl (by simp) ?_
        refine al_nil ?_
        refine aw_seq ?_
        refine aw_region ?_
        first
          | refine al_op (op_field_rptr Try.underlying93 rfl info65 (by decide) rfl rfl) rfl (by simp) ?_
          | refine al_op (op_field_ptr Try.underlying93 rfl info65 (by decide) rfl rfl rfl) rfl (by simp) ?_
        first
          | refine al_op (op_load_rptr Try.underlying65 info65 rfl rfl) rfl (by simp) ?_
          | refine al_op (op_load_map Try.underlying65 info65 rfl rfl (by omega) rfl) rfl (by simp) ?_
          | refine al_op (op_load_ptr Try.underlying65 info65 rfl rfl rfl rfl) rfl (by simp) ?_
        refine al_op (op_gtr rfl rfl) rfl (by simp) ?_
        refine al_op (op_move rfl) rfl (by simp) ?_
        apply al_or 4 84 88 rfl
        · intro h9; have gh9 := h9
          try simp only [decide_eq_true_eq, decide_eq_false_iff_not, Bool.not_eq_true', Bool.not_eq_false', beq_iff_eq, bne_iff_ne, beq_eq_false_iff_ne, bne_eq_false_iff_eq, Bool.or_eq_true, Bool.and_eq_true, Bool.or_eq_false_iff, gt_iff_lt, ge_iff_le] at h9
          first
            | refine al_take (op_field_rptr Try.underlying93 rfl info3 (by decide) rfl rfl) rfl rfl rfl rfl (by simp) ?_
            | refine al_take (op_field_ptr Try.underlying93 rfl info3 (by decide) rfl rfl rfl) rfl rfl rfl rfl (by simp) ?_
          first
            | refine al_take (op_load_rptr Try.underlying3 info3 rfl rfl) rfl rfl rfl rfl (by simp) ?_
            | refine al_take (op_load_map Try.underlying3 info3 rfl rfl (by omega) rfl) rfl rfl rfl rfl (by simp) ?_
            | refine al_take (op_load_ptr Try.underlying3 info3 rfl rfl rfl rfl) rfl rfl rfl rfl (by simp) ?_
          refine al_take (op_lss rfl rfl) rfl rfl rfl rfl (by simp) ?_
          first
            | refine al_op (op_pick rfl rfl) rfl (by simp) ?_
            | refine al_op (op_or rfl rfl rfl) rfl (by simp) ?_
          refine al_nil ⟨rfl, rfl, rfl, keep_of ?_⟩
          repeat (first | exact subx_refl | exact subx_known rfl gh9 subx_refl | refine subx_put rfl ?_)
        · intro h9; have gh9 := h9
          try simp only [decide_eq_true_eq, decide_eq_false_iff_not, Bool.not_eq_true', Bool.not_eq_false', beq_iff_eq, bne_iff_ne, beq_eq_false_iff_ne, bne_eq_false_iff_eq, Bool.or_eq_true, Bool.and_eq_true, Bool.or_eq_false_iff, gt_iff_lt, ge_iff_le] at h9
          refine al_pass rfl rfl rfl rfl (by simp) ?_
          refine al_pass rfl rfl rfl rfl (by simp) ?_
          refine al_pass rfl rfl rfl rfl (by simp) ?_
          first
            | refine al_op (op_pick rfl rfl) rfl (by simp) ?_
            | refine al_op (op_or rfl rfl rfl) rfl (by simp) ?_
          refine al_nil ⟨rfl, rfl, rfl, keep_of ?_⟩
          repeat (first | exact subx_refl | exact subx_known rfl gh9 subx_refl | refine subx_put rfl ?_)
        refine al_op (op_move rfl) rfl (by simp) ?_
        apply al_or 5 89 94 rfl
        · intro h10; have gh10 := h10
          try simp only [decide_eq_true_eq, decide_eq_false_iff_not, Bool.not_eq_true', Bool.not_eq_false', beq_iff_eq, bne_iff_ne, beq_eq_false_iff_ne, bne_eq_false_iff_eq, Bool.or_eq_true, Bool.and_eq_true, Bool.or_eq_false_iff, gt_iff_lt, ge_iff_le] at h10
          first
            | refine al_take (op_field_rptr Try.underlying93 rfl info3 (by decide) rfl rfl) rfl rfl rfl rfl (by simp) ?_
            | refine al_take (op_field_ptr Try.underlying93 rfl info3 (by decide) rfl rfl rfl) rfl rfl rfl rfl (by simp) ?_
          first
            | refine al_take (op_load_rptr Try.underlying3 info3 rfl rfl) rfl rfl rfl rfl (by simp) ?_
            | refine al_take (op_load_map Try.underlying3 info3 rfl rfl (by omega) rfl) rfl rfl rfl rfl (by simp) ?_
            | refine al_take (op_load_ptr Try.underlying3 info3 rfl rfl rfl rfl) rfl rfl rfl rfl (by simp) ?_
          refine al_take (op_move rfl) rfl rfl rfl rfl (by simp) ?_
          refine al_take (op_geq rfl rfl) rfl rfl rfl rfl (by simp) ?_
          first
            | refine al_op (op_pick rfl rfl) rfl (by simp) ?_
            | refine al_op (op_or rfl rfl rfl) rfl (by simp) ?_
          refine al_nil ⟨rfl, rfl, rfl, keep_of ?_⟩
          repeat (first | exact subx_refl | exact subx_known rfl gh10 subx_refl | refine subx_put rfl ?_)
        · intro h10; have gh10 := h10
          try simp only [decide_eq_true_eq, decide_eq_false_iff_not, Bool.not_eq_true', Bool.not_eq_false', beq_iff_eq, bne_iff_ne, beq_eq_false_iff_ne, bne_eq_false_iff_eq, Bool.or_eq_true, Bool.and_eq_true, Bool.or_eq_false_iff, gt_iff_lt, ge_iff_le] at h10
          refine al_pass rfl rfl rfl rfl (by simp) ?_
          refine al_pass rfl rfl rfl rfl (by simp) ?_
          refine al_pass rfl rfl rfl rfl (by simp) ?_
          refine al_pass rfl rfl rfl rfl (by simp) ?_
          first
            | refine al_op (op_pick rfl rfl) rfl (by simp) ?_
            | refine al_op (op_or rfl rfl rfl) rfl (by simp) ?_
          refine al_nil ⟨rfl, rfl, rfl, keep_of ?_⟩
          repeat (first | exact subx_refl | exact subx_known rfl gh10 subx_refl | refine subx_put rfl ?_)
        refine al_nil ?_
        refine aw_cond rfl (fun h11 => ?_) (fun h11 => ?_)
        · have gh11 := h11
          try simp only [decide_eq_true_eq, decide_eq_false_iff_not, Bool.not_eq_true', Bool.not_eq_false', beq_iff_eq, bne_iff_ne, beq_eq_false_iff_ne, bne_eq_false_iff_eq, Bool.or_eq_true, Bool.and_eq_true, Bool.or_eq_false_iff, gt_iff_lt, ge_iff_le] at h11
          refine aw_seq ?_
          refine aw_region ?_
          refine al_op (op_assign rfl) rfl (by simp) ?_
          refine al_nil ?_
          refine aw_freeze (fun _ => false) (fsub_cons (t := 2) rfl (.leaf _ _ (.same _)) fsub_nil) ?_
          refine aw_ret ?_
          refine ⟨_, res_1 rfl rfl, ?_, rfl⟩
          rw [Net.valid_reg i (by omega) (congrArg Bool.not gh11)]
        · have gh11 := h11
          try simp only [decide_eq_true_eq, decide_eq_false_iff_not, Bool.not_eq_true', Bool.not_eq_false', beq_iff_eq, bne_iff_ne, beq_eq_false_iff_ne, bne_eq_false_iff_eq, Bool.or_eq_true, Bool.and_eq_true, Bool.or_eq_false_iff, gt_iff_lt, ge_iff_le] at h11
          refine aw_skip ?_
          refine aw_region ?_
          refine al_op (op_add rfl rfl (by first | exact wrap_i64 (by omega) (by omega))) rfl (by simp) ?_
          refine al_op (op_move rfl) rfl (by simp) ?_
          refine al_nil ?_
          refine ⟨i + 1, ?_, ?_, ?_, ?_, ?_⟩
          · omega
          · exact ⟨by omega, allTo_succ hinv.2 (congrArg Bool.not gh11)⟩
          · refine sub_cons (get_as rfl ?_) ?_; rotate_left; exact sub_nil
            all_goals (first | rfl | simp)
          · repeat (first | exact subx_refl | exact subx_del | refine subx_put rfl ?_)
          · rfl
      · have gh8 := h8
        try simp only [decide_eq_true_eq, decide_eq_false_iff_not, Bool.not_eq_true', Bool.not_eq_false', beq_iff_eq, bne_iff_ne, beq_eq_false_iff_ne, bne_eq_false_iff_eq, Bool.or_eq_true, Bool.and_eq_true, Bool.or_eq_false_iff, gt_iff_lt, ge_iff_le] at h8
        refine aw_exit ?_
        obtain rfl : i = n.regs.length := by omega
        have a77 := hinv.2
        clear hinv hi
        refine aw_seq ?_
        refine aw_seq ?_
        refine aw_region ?_
        first
          | refine al_op (op_field_rptr Try.underlying27 rfl info25 (by decide) rfl rfl) rfl (by simp) ?_
          | refine al_op (op_field_ptr Try.underlying27 rfl info25 (by decide) rfl rfl rfl) rfl (by simp) ?_
        first
          | refine al_op (op_load_rptr Try.underlying25 info25 rfl rfl) rfl (by simp) ?_
          | refine al_op (op_load_map Try.underlying25 info25 rfl rfl (by omega) rfl) rfl (by simp) ?_
          | refine al_op (op_load_ptr Try.underlying25 info25 rfl rfl rfl rfl) rfl (by simp) ?_
        first
          | refine al_op (op_len_map Try.underlying25 rfl) rfl (by simp) ?_
          | refine al_op (op_len_slice Try.underlying25 rfl rfl) rfl (by simp) ?_
          | refine al_op (op_len_list Try.underlying25 rfl) rfl (by simp) ?_
          | refine al_op (op_len_v Try.underlying25 rfl) rfl (by simp) ?_
          | refine al_op (op_len_nil Try.underlying25 rfl) rfl (by simp) ?_
        refine al_op (op_move rfl) rfl (by simp) ?_
        refine al_nil ?_
        refine aw_block ?_
        refine aw_forT (ι := Nat) [2, 99] [10] (fun i => n.outs.length - i) (fun i => i ≤ n.outs.length ∧ allTo n.outAt i = true) (fun i => ([(99, .v (.int .i64 (i)))] : Env)) (fun i s => s) (0) ?_ ?_ ?_ (fun i hinv => ?_)
        · exact ⟨Nat.zero_le _, rfl⟩
        · refine sub_cons (get_as rfl ?_) ?_; rotate_left; exact sub_nil
          all_goals (first | rfl | simp)
        · rfl
        have hi := hinv.1
        refine aw_seq ?_
        refine aw_region ?_
        refine al_op (op_lss rfl rfl) rfl (by simp) ?_
        refine al_nil ?_
        refine aw_seq ?_
        refine aw_cond rfl (fun h12 => ?_) (fun h12 => ?_)
        · have gh12 := h12
          try simp only [decide_eq_true_eq, decide_eq_false_iff_not, Bool.not_eq_true', Bool.not_eq_false', beq_iff_eq, bne_iff_ne, beq_eq_false_iff_ne, bne_eq_false_iff_eq, Bool.or_eq_true, Bool.and_eq_true, Bool.or_eq_false_iff, gt_iff_lt, ge_iff_le] at h12
          refine aw_skip ?_
          refine aw_seq ?_
          refine aw_block ?_
          refine aw_seq ?_
          refine aw_region ?_
          first
            | refine al_op (op_index_map default Try.underlying25 info69 rfl rfl rfl (by first | (with_reducible exact Int.toNat_natCast _) | rfl) (by omega) (by omega)) rfl (by simp) ?_
            | refine al_op (op_index_slice Try.underlying25 info69 rfl rfl rfl rfl (by omega) (by omega)) rfl (by simp) ?_
            | refine al_op (op_index_list Try.underlying25 info69 rfl rfl rfl (by decide) rfl) rfl (by simp) ?_
          first
            | refine al_op (op_load_rptr Try.underlying69 info69 rfl rfl) rfl (by simp) ?_
            | refine al_op (op_load_map Try.underlying69 info69 rfl rfl (by omega) rfl) rfl (by simp) ?_
            | refine al_op (op_load_ptr Try.underlying69 info69 rfl rfl rfl rfl) rfl (by simp) ?_
          (refine al_opR (op_alloc 10 info69 rfl rfl) rfl (by simp) ?_; rintro _ _ ⟨ver10, rfl, rfl⟩)
          first
            | refine al_op (op_store_ptr info69 rfl rfl rfl rfl rfl rfl (by first | rfl | exact live_one rfl | (repeat (first | exact all_live_nil | refine all_live_clo rfl ?_ | refine all_live_slice rfl ?_ | refine all_live_map rfl ?_ | refine all_live_ptr rfl ?_))) (by decide)) rfl (by simp) ?_
            | refine al_op (op_store_ptr info69 rfl rfl rfl rfl rfl rfl (by first | rfl | exact live_one rfl | (repeat (first | exact all_live_nil | refine all_live_clo rfl ?_ | refine all_live_slice rfl ?_ | refine all_live_map rfl ?_ | refine all_live_ptr rfl ?_))) (Nat.le_of_ble_eq_true rfl)) rfl (by simp) ?_
          refine al_nil ?_
          refine aw_seq ?_
          refine aw_region ?_
          first
            | refine al_op (op_field_rptr Try.underlying69 rfl info3 (by decide) rfl rfl) rfl (by simp) ?_
            | refine al_op (op_field_ptr Try.underlying69 rfl info3 (by decide) rfl rfl rfl) rfl (by simp) ?_
          first
            | refine al_op (op_load_rptr Try.underlying3 info3 rfl rfl) rfl (by simp) ?_
            | refine al_op (op_load_map Try.underlying3 info3 rfl rfl (by omega) rfl) rfl (by simp) ?_
            | refine al_op (op_load_ptr Try.underlying3 info3 rfl rfl rfl rfl) rfl (by simp) ?_
          refine al_op (op_lss rfl rfl) rfl (by simp) ?_
          refine al_op (op_move rfl) rfl (by simp) ?_
          apply al_or 5 106 111 rfl
          · intro h13; have gh13 := h13
            try simp only [decide_eq_true_eq, decide_eq_false_iff_not, Bool.not_eq_true', Bool.not_eq_false', beq_iff_eq, bne_iff_ne, beq_eq_false_iff_ne, bne_eq_false_iff_eq, Bool.or_eq_true, Bool.and_eq_true, Bool.or_eq_false_iff, gt_iff_lt, ge_iff_le] at h13
            first
              | refine al_take (op_field_rptr Try.underlying69 rfl info3 (by decide) rfl rfl) rfl rfl rfl rfl (by simp) ?_
              | refine al_take (op_field_ptr Try.underlying69 rfl info3 (by decide) rfl rfl rfl) rfl rfl rfl rfl (by simp) ?_
            first
              | refine al_take (op_load_rptr Try.underlying3 info3 rfl rfl) rfl rfl rfl rfl (by simp) ?_
              | refine al_take (op_load_map Try.underlying3 info3 rfl rfl (by omega) rfl) rfl rfl rfl rfl (by simp) ?_
              | refine al_take (op_load_ptr Try.underlying3 info3 rfl rfl rfl rfl) rfl rfl rfl rfl (by simp) ?_
            refine al_take (op_move rfl) rfl rfl rfl rfl (by simp) ?_
            refine al_take (op_geq rfl rfl) rfl rfl rfl rfl (by simp) ?_
            first
              | refine al_op (op_pick rfl rfl) rfl (by simp) ?_
              | refine al_op (op_or rfl rfl rfl) rfl (by simp) ?_
            refine al_nil ⟨rfl, rfl, rfl, keep_of ?_⟩
            repeat (first | exact subx_refl | exact subx_known rfl gh13 subx_refl | refine subx_put rfl ?_)
          · intro h13; have gh13 := h13
            try simp only [decide_eq_true_eq, decide_eq_false_iff_not, Bool.not_eq_true', Bool.not_eq_false', beq_iff_eq, bne_iff_ne, beq_eq_false_iff_ne, bne_eq_false_iff_eq, Bool.or_eq_true, Bool.and_eq_true, Bool.or_eq_false_iff, gt_iff_lt, ge_iff_le] at h13
            refine al_pass rfl rfl rfl rfl (by simp) ?_
            refine al_pass rfl rfl rfl rfl (by simp) ?_
            refine al_pass rfl rfl rfl rfl (by simp) ?_
            refine al_pass rfl rfl rfl rfl (by simp) ?_
            first
              | refine al_op (op_pick rfl rfl) rfl (by simp) ?_
              | refine al_op (op_or rfl rfl rfl) rfl (by simp) ?_
            refine al_nil ⟨rfl, rfl, rfl, keep_of ?_⟩
            repeat (first | exact subx_refl | exact subx_known rfl gh13 subx_refl | refine subx_put rfl ?_)
          refine al_nil ?_
          refine aw_cond rfl (fun h14 => ?_) (fun h14 => ?_)
          · have gh14 := h14
            try simp only [decide_eq_true_eq, decide_eq_false_iff_not, Bool.not_eq_true', Bool.not_eq_false', beq_iff_eq, bne_iff_ne, beq_eq_false_iff_ne, bne_eq_false_iff_eq, Bool.or_eq_true, Bool.and_eq_true, Bool.or_eq_false_iff, gt_iff_lt, ge_iff_le] at h14
            refine aw_seq ?_
            refine aw_region ?_
            refine al_op (op_assign rfl) rfl (by simp) ?_
            refine al_nil ?_
            refine aw_freeze (fun _ => false) (fsub_cons (t := 2) rfl (.leaf _ _ (.same _)) fsub_nil) ?_
            refine aw_ret ?_
            refine ⟨_, res_1 rfl rfl, ?_, rfl⟩
            rw [Net.valid_out i (by omega) (congrArg Bool.not gh14)]
          · have gh14 := h14
            try simp only [decide_eq_true_eq, decide_eq_false_iff_not, Bool.not_eq_true', Bool.not_eq_false', beq_iff_eq, bne_iff_ne, beq_eq_false_iff_ne, bne_eq_false_iff_eq, Bool.or_eq_true, Bool.and_eq_true, Bool.or_eq_false_iff, gt_iff_lt, ge_iff_le] at h14
            refine aw_skip ?_
            refine aw_region ?_
            refine al_op (op_add rfl rfl (by first | exact wrap_i64 (by omega) (by omega))) rfl (by simp) ?_
            refine al_op (op_move rfl) rfl (by simp) ?_
            refine al_nil ?_
            refine ⟨i + 1, ?_, ?_, ?_, ?_, ?_⟩
            · omega
            · exact ⟨by omega, allTo_succ hinv.2 (congrArg Bool.not gh14)⟩
            · refine sub_cons (get_as rfl ?_) ?_; rotate_left; exact sub_nil
              all_goals (first | rfl | simp)
            · repeat (first | exact subx_refl | exact subx_del | refine subx_put rfl ?_)
            · rfl
        · have gh12 := h12
          try simp only [decide_eq_true_eq, decide_eq_false_iff_not, Bool.not_eq_true', Bool.not_eq_false', beq_iff_eq, bne_iff_ne, beq_eq_false_iff_ne, bne_eq_false_iff_eq, Bool.or_eq_true, Bool.and_eq_true, Bool.or_eq_false_iff, gt_iff_lt, ge_iff_le] at h12
          refine aw_exit ?_
          obtain rfl : i = n.outs.length := by omega
          have a99 := hinv.2
          clear hinv hi
          refine aw_seq ?_
          refine aw_region ?_
          refine al_op (op_assign rfl) rfl (by simp) ?_
          refine al_nil ?_
          refine aw_freeze (fun _ => false) (fsub_cons (t := 2) rfl (.leaf _ _ (.same _)) fsub_nil) ?_
          refine aw_ret ?_
          refine ⟨_, res_1 rfl rfl, ?_, rfl⟩
          rw [Net.valid_all hh (by assumption) (by assumption) (by assumption)]
end Go.Proofs.Ytbpamlphacpkeaa
