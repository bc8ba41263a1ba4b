/- Printed walks (gen.py, gates_ann.py): part 15. -/
import Derived.Test.YtbpamlphacpkeaaW14
import Derived.Test.YtbpamlphacpkeaaFacts
set_option linter.unusedVariables false
set_option linter.unusedSimpArgs false
set_option maxRecDepth 20000
namespace Go.Proofs.Ytbpamlphacpkeaa
open Go

theorem r_All (n : Net) (hn : n.Small) (ins regs : List Int) (hi1 : ins.length ≤ 140737488355328) (hr1 : regs.length ≤ 140737488355328) (hi2 : ∀ x ∈ ins, 0 ≤ x ∧ x ≤ 255) (hr2 : ∀ x ∈ regs, 0 ≤ x ∧ x ≤ 255) : ACp Try.prog 19 [encN n, .list 1 (ins.map encB), .list 1 (regs.map encB)] (.tuple [.list 1 ((n.all ins regs).1.map encB), .v (.int .i64 ((n.all ins regs).2))]) := by
  refine acp_of rfl ?_
  refine ac_enter 62 Try.func19 rfl rfl (by simp) ?_
  refine aw_seq ?_
  refine aw_region ?_
  (refine al_opR (op_box 3 rfl rfl (by first | rfl | exact live_one rfl | (repeat (first | exact all_live_nil | refine all_live_clo rfl ?_ | refine all_live_slice rfl ?_ | refine all_live_map rfl ?_ | refine all_live_ptr rfl ?_)))) rfl (by simp) ?_; rintro _ _ ⟨ver3, rfl, rfl⟩)
  refine al_op (op_assign rfl) rfl (by simp) ?_
  refine al_op (op_assign rfl) rfl (by simp) ?_
  refine al_nil ?_
  refine aw_seq ?_
  refine aw_seq ?_
  refine aw_region ?_
  first
    | refine al_op (op_load_rptr Try.underlying27 info27 rfl rfl) rfl (by simp) ?_
    | refine al_op (op_load_map Try.underlying27 info27 rfl rfl (by omega) rfl) rfl (by simp) ?_
    | refine al_op (op_load_ptr Try.underlying27 info27 rfl rfl rfl rfl) rfl (by simp) ?_
  first
    | refine al_callp into21 rfl rfl rfl ((r_Valid _ (by assumption)) _) (by simp) ?_
    | refine al_callp into21 rfl rfl rfl (acp_lent (lend_cons (by first | exact lend_same | exact .leaf _ _ (.vnil _) | exact .leaf _ _ (.nil _) | exact lend_whole rfl (by first | rfl | simp) (clo_map (fun _ => rfl))) lend_nil) (r_Valid _ (by assumption)) rfl) (by simp) ?_
  refine al_op (op_not rfl) rfl (by simp) ?_
  refine al_op (op_move rfl) rfl (by simp) ?_
  apply al_or 7 16 23 rfl
  · intro h1; have gh1 := h1
    try simp only [decide_eq_true_eq, decide_eq_false_iff_not, Bool.not_eq_true', Bool.not_eq_false', beq_iff_eq, bne_iff_ne, beq_eq_false_iff_ne, bne_eq_false_iff_eq, Bool.or_eq_true, Bool.and_eq_true, Bool.or_eq_false_iff, gt_iff_lt, ge_iff_le] at h1
    refine al_take (op_move rfl) rfl rfl rfl rfl (by simp) ?_
    first
      | refine al_take (op_field_rptr Try.underlying27 rfl info22 (by decide) rfl rfl) rfl rfl rfl rfl (by simp) ?_
      | refine al_take (op_field_ptr Try.underlying27 rfl info22 (by decide) rfl rfl rfl) rfl rfl rfl rfl (by simp) ?_
    first
      | refine al_take (op_load_rptr Try.underlying22 info22 rfl rfl) rfl rfl rfl rfl (by simp) ?_
      | refine al_take (op_load_map Try.underlying22 info22 rfl rfl (by omega) rfl) rfl rfl rfl rfl (by simp) ?_
      | refine al_take (op_load_ptr Try.underlying22 info22 rfl rfl rfl rfl) rfl rfl rfl rfl (by simp) ?_
    first
      | refine al_take (op_len_map Try.underlying22 rfl) rfl rfl rfl rfl (by simp) ?_
      | refine al_take (op_len_slice Try.underlying22 rfl rfl) rfl rfl rfl rfl (by simp) ?_
      | refine al_take (op_len_list Try.underlying22 rfl) rfl rfl rfl rfl (by simp) ?_
      | refine al_take (op_len_v Try.underlying22 rfl) rfl rfl rfl rfl (by simp) ?_
      | refine al_take (op_len_nil Try.underlying22 rfl) rfl rfl rfl rfl (by simp) ?_
    first
      | refine al_callp_take into58 rfl rfl rfl rfl rfl rfl ((r_fits _ _ (by assumption) (by assumption)) _) (by simp) ?_
      | refine al_callp_take into58 rfl rfl rfl rfl rfl rfl (acp_lent (lend_cons (by first | exact lend_same | exact .leaf _ _ (.vnil _) | exact .leaf _ _ (.nil _) | exact lend_whole rfl (by first | rfl | simp) (clo_map (fun _ => rfl))) (lend_cons (by first | exact lend_same | exact .leaf _ _ (.vnil _) | exact .leaf _ _ (.nil _) | exact lend_whole rfl (by first | rfl | simp) (clo_map (fun _ => rfl))) lend_nil)) (r_fits _ _ (by assumption) (by assumption)) rfl) (by simp) ?_
    refine al_take (op_not rfl) rfl rfl rfl rfl (by simp) ?_
    first
      | refine al_op (op_pick rfl rfl) rfl (by simp) ?_
      | refine al_op (op_or rfl rfl rfl) rfl (by simp) ?_
    refine al_nil ⟨rfl, rfl, rfl, keep_of ?_⟩
    repeat (first | exact subx_refl | exact subx_known rfl gh1 subx_refl | refine subx_put rfl ?_)
  · intro h1; have gh1 := h1
    try simp only [decide_eq_true_eq, decide_eq_false_iff_not, Bool.not_eq_true', Bool.not_eq_false', beq_iff_eq, bne_iff_ne, beq_eq_false_iff_ne, bne_eq_false_iff_eq, Bool.or_eq_true, Bool.and_eq_true, Bool.or_eq_false_iff, gt_iff_lt, ge_iff_le] at h1
    refine al_pass rfl rfl rfl rfl (by simp) ?_
    refine al_pass rfl rfl rfl rfl (by simp) ?_
    refine al_pass rfl rfl rfl rfl (by simp) ?_
    refine al_pass rfl rfl rfl rfl (by simp) ?_
    refine al_pass rfl rfl rfl rfl (by simp) ?_
    refine al_pass rfl rfl rfl rfl (by simp) ?_
    first
      | refine al_op (op_pick rfl rfl) rfl (by simp) ?_
      | refine al_op (op_or rfl rfl rfl) rfl (by simp) ?_
    refine al_nil ⟨rfl, rfl, rfl, keep_of ?_⟩
    repeat (first | exact subx_refl | exact subx_known rfl gh1 subx_refl | refine subx_put rfl ?_)
  refine al_op (op_move rfl) rfl (by simp) ?_
  apply al_or 7 24 31 rfl
  · intro h2; have gh2 := h2
    try simp only [decide_eq_true_eq, decide_eq_false_iff_not, Bool.not_eq_true', Bool.not_eq_false', beq_iff_eq, bne_iff_ne, beq_eq_false_iff_ne, bne_eq_false_iff_eq, Bool.or_eq_true, Bool.and_eq_true, Bool.or_eq_false_iff, gt_iff_lt, ge_iff_le] at h2
    refine al_take (op_move rfl) rfl rfl rfl rfl (by simp) ?_
    first
      | refine al_take (op_field_rptr Try.underlying27 rfl info23 (by decide) rfl rfl) rfl rfl rfl rfl (by simp) ?_
      | refine al_take (op_field_ptr Try.underlying27 rfl info23 (by decide) rfl rfl rfl) rfl rfl rfl rfl (by simp) ?_
    first
      | refine al_take (op_load_rptr Try.underlying23 info23 rfl rfl) rfl rfl rfl rfl (by simp) ?_
      | refine al_take (op_load_map Try.underlying23 info23 rfl rfl (by omega) rfl) rfl rfl rfl rfl (by simp) ?_
      | refine al_take (op_load_ptr Try.underlying23 info23 rfl rfl rfl rfl) rfl rfl rfl rfl (by simp) ?_
    first
      | refine al_take (op_len_map Try.underlying23 rfl) rfl rfl rfl rfl (by simp) ?_
      | refine al_take (op_len_slice Try.underlying23 rfl rfl) rfl rfl rfl rfl (by simp) ?_
      | refine al_take (op_len_list Try.underlying23 rfl) rfl rfl rfl rfl (by simp) ?_
      | refine al_take (op_len_v Try.underlying23 rfl) rfl rfl rfl rfl (by simp) ?_
      | refine al_take (op_len_nil Try.underlying23 rfl) rfl rfl rfl rfl (by simp) ?_
    first
      | refine al_callp_take into58 rfl rfl rfl rfl rfl rfl ((r_fits _ _ (by assumption) (by assumption)) _) (by simp) ?_
      | refine al_callp_take into58 rfl rfl rfl rfl rfl rfl (acp_lent (lend_cons (by first | exact lend_same | exact .leaf _ _ (.vnil _) | exact .leaf _ _ (.nil _) | exact lend_whole rfl (by first | rfl | simp) (clo_map (fun _ => rfl))) (lend_cons (by first | exact lend_same | exact .leaf _ _ (.vnil _) | exact .leaf _ _ (.nil _) | exact lend_whole rfl (by first | rfl | simp) (clo_map (fun _ => rfl))) lend_nil)) (r_fits _ _ (by assumption) (by assumption)) rfl) (by simp) ?_
    refine al_take (op_not rfl) rfl rfl rfl rfl (by simp) ?_
    first
      | refine al_op (op_pick rfl rfl) rfl (by simp) ?_
      | refine al_op (op_or rfl rfl rfl) rfl (by simp) ?_
    refine al_nil ⟨rfl, rfl, rfl, keep_of ?_⟩
    repeat (first | exact subx_refl | exact subx_known rfl gh2 subx_refl | refine subx_put rfl ?_)
  · intro h2; have gh2 := h2
    try simp only [decide_eq_true_eq, decide_eq_false_iff_not, Bool.not_eq_true', Bool.not_eq_false', beq_iff_eq, bne_iff_ne, beq_eq_false_iff_ne, bne_eq_false_iff_eq, Bool.or_eq_true, Bool.and_eq_true, Bool.or_eq_false_iff, gt_iff_lt, ge_iff_le] at h2
    refine al_pass rfl rfl rfl rfl (by simp) ?_
    refine al_pass rfl rfl rfl rfl (by simp) ?_
    refine al_pass rfl rfl rfl rfl (by simp) ?_
    refine al_pass rfl rfl rfl rfl (by simp) ?_
    refine al_pass rfl rfl rfl rfl (by simp) ?_
    refine al_pass rfl rfl rfl rfl (by simp) ?_
    first
      | refine al_op (op_pick rfl rfl) rfl (by simp) ?_
      | refine al_op (op_or rfl rfl rfl) rfl (by simp) ?_
    refine al_nil ⟨rfl, rfl, rfl, keep_of ?_⟩
    repeat (first | exact subx_refl | exact subx_known rfl gh2 subx_refl | refine subx_put rfl ?_)
  refine al_nil ?_
  refine aw_cond rfl (fun h3 => ?_) (fun h3 => ?_)
  · have gh3 := h3
    try simp only [decide_eq_true_eq, decide_eq_false_iff_not, Bool.not_eq_true', Bool.not_eq_false', beq_iff_eq, bne_iff_ne, beq_eq_false_iff_ne, bne_eq_false_iff_eq, Bool.or_eq_true, Bool.and_eq_true, Bool.or_eq_false_iff, gt_iff_lt, ge_iff_le] at h3
    refine aw_seq ?_
    refine aw_region ?_
    refine al_op (op_assign rfl) rfl (by simp) ?_
    refine al_op (op_assign rfl) rfl (by simp) ?_
    refine al_nil ?_
    refine aw_freeze (fun _ => false) (fsub_cons (t := 6) rfl (by first | exact .leaf _ _ (frz_whole rfl rfl (by first | rfl | (simp; done) | (simp; omega)) (clo_map (fun _ => rfl))) | exact .leaf _ _ (.vnil 1) | exact .leaf _ _ (.nil 1) | exact .leaf _ _ (.same _)) (fsub_cons (t := 7) rfl (.leaf _ _ (.same _)) fsub_nil)) ?_
    refine aw_ret ?_
    refine ⟨_, res_2 rfl rfl rfl rfl rfl, ?_, rfl⟩
    rw [Net.all_bad gh3]; rfl
  · have gh3 := h3
    try simp only [decide_eq_true_eq, decide_eq_false_iff_not, Bool.not_eq_true', Bool.not_eq_false', beq_iff_eq, bne_iff_ne, beq_eq_false_iff_ne, bne_eq_false_iff_eq, Bool.or_eq_true, Bool.and_eq_true, Bool.or_eq_false_iff, gt_iff_lt, ge_iff_le] at h3
    have hb : n.bad ins regs = false := gh3
    obtain ⟨hv, el1, el2⟩ := Net.not_bad hb
    obtain ⟨f1, f2, f3, f4, f5, f6, f7⟩ := Net.valid_facts hv
    obtain ⟨hbi, hbr⟩ := Net.bad_bits hb hi2 hr2
    refine aw_skip ?_
    refine aw_seq ?_
    refine aw_region ?_
    (refine al_opR (op_list_own encB [(0 : Int)] 32 Try.underlying28 info65 rfl rfl (by decide) rfl (by decide) rfl (by first | rfl | (repeat (first | exact parts_nil | refine parts_cons rfl (by repeat (first | exact all_live_nil | refine all_live_clo rfl ?_ | refine all_live_slice rfl ?_ | refine all_live_map rfl ?_ | refine all_live_ptr rfl ?_)) ?_))) rfl rfl (by first | rfl | (repeat (first | exact parts_nil | refine parts_cons rfl (by repeat (first | exact all_live_nil | refine all_live_clo rfl ?_ | refine all_live_slice rfl ?_ | refine all_live_map rfl ?_ | refine all_live_ptr rfl ?_)) ?_))) rfl rfl) rfl (by simp) ?_; rintro _ _ ⟨ver32, rfl, rfl⟩)
    refine al_op (op_move rfl) rfl (by simp) ?_
    (refine al_opR (op_append_map Try.underlying28 Try.underlying28 rfl info65 rfl rfl (by decide) rfl rfl rfl (by first | rfl | simp) rfl (by first | exact .list _ | exact .vnil | exact .nil | exact .row _ _ _ _ rfl (by first | rfl | simp)) rfl (by first | omega | (simp; done) | (simp; omega)) (by show _ * 1 ≤ _; first | omega | (simp; done) | (simp; omega))) rfl (by simp) ?_; rintro _ _ ⟨ver34, rfl, rfl⟩)
    refine al_op (op_move rfl) rfl (by simp) ?_
    (refine al_opR (op_append_map Try.underlying28 Try.underlying28 rfl info65 rfl rfl (by decide) rfl rfl rfl (by first | rfl | simp) rfl (by first | exact .list _ | exact .vnil | exact .nil | exact .row _ _ _ _ rfl (by first | rfl | simp)) rfl (by first | omega | (simp; done) | (simp; omega)) (by show _ * 1 ≤ _; first | omega | (simp; done) | (simp; omega))) rfl (by simp) ?_; rintro _ _ ⟨ver36, rfl, rfl⟩)
    refine al_op (op_assign rfl) rfl (by simp) ?_
    refine al_nil ?_
    refine aw_seq ?_
    refine aw_seq ?_
    refine aw_region ?_
    first
      | refine al_op (op_field_rptr Try.underlying27 rfl info24 (by decide) rfl rfl) rfl (by simp) ?_
      | refine al_op (op_field_ptr Try.underlying27 rfl info24 (by decide) rfl rfl rfl) rfl (by simp) ?_
    first
      | refine al_op (op_load_rptr Try.underlying24 info24 rfl rfl) rfl (by simp) ?_
      | refine al_op (op_load_map Try.underlying24 info24 rfl rfl (by omega) rfl) rfl (by simp) ?_
      | refine al_op (op_load_ptr Try.underlying24 info24 rfl rfl rfl rfl) rfl (by simp) ?_
    first
      | refine al_op (op_len_map Try.underlying24 rfl) rfl (by simp) ?_
      | refine al_op (op_len_slice Try.underlying24 rfl rfl) rfl (by simp) ?_
      | refine al_op (op_len_list Try.underlying24 rfl) rfl (by simp) ?_
      | refine al_op (op_len_v Try.underlying24 rfl) rfl (by simp) ?_
      | refine al_op (op_len_nil Try.underlying24 rfl) rfl (by simp) ?_
    refine al_op (op_move rfl) rfl (by simp) ?_
    refine al_nil ?_
    refine aw_block ?_
    refine aw_for2T (α := Nat) (β := Nat) [8, 40] [10] (fun i ver => n.gates.length - i) (fun i ver => i ≤ n.gates.length) (fun i ver => ([(8, .slice 32 ver 0 (n.valsTo ins regs i).length), (40, .v (.int .i64 (i)))] : Env)) (fun i ver s => s.put 32 ver (.row 1 ((n.valsTo ins regs i).map encB))) (0) (ver36) ?_ ?_ ?_ (fun i ver hinv => ?_)
    · exact Nat.zero_le _
    · refine sub_cons (get_as rfl ?_) ?_; rotate_left; refine sub_cons (get_as rfl ?_) ?_; rotate_left; exact sub_nil
      all_goals (first | rfl | (simp; done))
    · rfl
    refine aw_seq ?_
    refine aw_region ?_
    refine al_op (op_lss rfl rfl) rfl (by simp) ?_
    refine al_nil ?_
    refine aw_seq ?_
    refine aw_cond rfl (fun h4 => ?_) (fun h4 => ?_)
    · have gh4 := h4
      try simp only [decide_eq_true_eq, decide_eq_false_iff_not, Bool.not_eq_true', Bool.not_eq_false', beq_iff_eq, bne_iff_ne, beq_eq_false_iff_ne, bne_eq_false_iff_eq, Bool.or_eq_true, Bool.and_eq_true, Bool.or_eq_false_iff, gt_iff_lt, ge_iff_le] at h4
      refine aw_skip ?_
      refine aw_seq ?_
      refine aw_block ?_
      refine aw_seq ?_
      refine aw_region ?_
      first
        | refine al_op (op_index_map default Try.underlying24 info86 rfl rfl rfl (by first | (with_reducible exact Int.toNat_natCast _) | rfl) (by omega) (by omega)) rfl (by simp) ?_
        | refine al_op (op_index_slice Try.underlying24 info86 rfl rfl rfl rfl (by omega) (by omega)) rfl (by simp) ?_
        | refine al_op (op_index_list Try.underlying24 info86 rfl rfl rfl (by decide) rfl) rfl (by simp) ?_
      first
        | refine al_op (op_load_rptr Try.underlying86 info86 rfl rfl) rfl (by simp) ?_
        | refine al_op (op_load_map Try.underlying86 info86 rfl rfl (by omega) rfl) rfl (by simp) ?_
        | refine al_op (op_load_ptr Try.underlying86 info86 rfl rfl rfl rfl) rfl (by simp) ?_
      (refine al_opR (op_alloc 10 info86 rfl rfl) rfl (by simp) ?_; rintro _ _ ⟨ver10, rfl, rfl⟩)
      first
        | refine al_op (op_store_ptr info86 rfl rfl rfl rfl rfl rfl (by first | rfl | exact live_one rfl | (repeat (first | exact all_live_nil | refine all_live_clo rfl ?_ | refine all_live_slice rfl ?_ | refine all_live_map rfl ?_ | refine all_live_ptr rfl ?_))) (by decide)) rfl (by simp) ?_
        | refine al_op (op_store_ptr info86 rfl rfl rfl rfl rfl rfl (by first | rfl | exact live_one rfl | (repeat (first | exact all_live_nil | refine all_live_clo rfl ?_ | refine all_live_slice rfl ?_ | refine all_live_map rfl ?_ | refine all_live_ptr rfl ?_))) (Nat.le_of_ble_eq_true rfl)) rfl (by simp) ?_
      refine al_nil ?_
      refine aw_seq ?_
      have hg := f5 i (by omega)
      have hlen := n.valsTo_length ins regs i
      have hbt := n.valsTo_bit hbi hbr i
      have hx1 := ofB_bit (l := (n.gates.getD i default).1) hbt (by omega)
      have hx2 := ofB_bit (l := (n.gates.getD i default).2) hbt (by omega)
      refine aw_any (Checked.mixed Try.checked) ?_
      apply aany_seg (p := 0) (q := 14) (by kernel_rfl) rfl (by decide)
      ·
        first
          | apply ql_plain rfl (op_index_arptr Try.underlying86 info3 rfl rfl rfl (by decide) (by decide))
          | apply ql_plain rfl (op_index_aptr Try.underlying86 info3 rfl rfl rfl rfl (by decide) (by decide))
        first
          | apply ql_plain rfl (op_load_rptr Try.underlying3 info3 rfl rfl)
          | apply ql_plain rfl (op_load_map Try.underlying3 info3 rfl rfl (by omega) rfl)
          | apply ql_plain rfl (op_load_ptr Try.underlying3 info3 rfl rfl rfl rfl)
        apply ql_plain rfl (op_move rfl)
        first
          | apply ql_call into55 rfl rfl rfl ((r_of _ _ (by omega) (by omega) (by omega) (by assumption)) _)
          | apply ql_call into55 rfl rfl rfl (acp_lent (lend_cons (by first | exact lend_same | exact .leaf _ _ (.vnil _) | exact .leaf _ _ (.nil _) | exact lend_whole rfl (by first | rfl | simp) (clo_map (fun _ => rfl))) (lend_cons (by first | exact lend_same | exact .leaf _ _ (.vnil _) | exact .leaf _ _ (.nil _) | exact lend_whole rfl (by first | rfl | simp) (clo_map (fun _ => rfl))) lend_nil)) (r_of _ _ (by omega) (by omega) (by omega) (by assumption)) rfl)
        first
          | apply ql_plain rfl (op_index_arptr Try.underlying86 info3 rfl rfl rfl (by decide) (by decide))
          | apply ql_plain rfl (op_index_aptr Try.underlying86 info3 rfl rfl rfl rfl (by decide) (by decide))
        first
          | apply ql_plain rfl (op_load_rptr Try.underlying3 info3 rfl rfl)
          | apply ql_plain rfl (op_load_map Try.underlying3 info3 rfl rfl (by omega) rfl)
          | apply ql_plain rfl (op_load_ptr Try.underlying3 info3 rfl rfl rfl rfl)
        apply ql_plain rfl (op_move rfl)
        first
          | apply ql_call into55 rfl rfl rfl ((r_of _ _ (by omega) (by omega) (by omega) (by assumption)) _)
          | apply ql_call into55 rfl rfl rfl (acp_lent (lend_cons (by first | exact lend_same | exact .leaf _ _ (.vnil _) | exact .leaf _ _ (.nil _) | exact lend_whole rfl (by first | rfl | simp) (clo_map (fun _ => rfl))) (lend_cons (by first | exact lend_same | exact .leaf _ _ (.vnil _) | exact .leaf _ _ (.nil _) | exact lend_whole rfl (by first | rfl | simp) (clo_map (fun _ => rfl))) lend_nil)) (r_of _ _ (by omega) (by omega) (by omega) (by assumption)) rfl)
        first
          | apply ql_call into59 rfl rfl rfl ((r_Op _ _ (by assumption) (by assumption)) _)
          | apply ql_call into59 rfl rfl rfl (acp_lent (lend_cons (by first | exact lend_same | exact .leaf _ _ (.vnil _) | exact .leaf _ _ (.nil _) | exact lend_whole rfl (by first | rfl | simp) (clo_map (fun _ => rfl))) (lend_cons (by first | exact lend_same | exact .leaf _ _ (.vnil _) | exact .leaf _ _ (.nil _) | exact lend_whole rfl (by first | rfl | simp) (clo_map (fun _ => rfl))) (lend_cons (by first | exact lend_same | exact .leaf _ _ (.vnil _) | exact .leaf _ _ (.nil _) | exact lend_whole rfl (by first | rfl | simp) (clo_map (fun _ => rfl))) lend_nil))) (r_Op _ _ (by assumption) (by assumption)) rfl)
        apply ql_plain rfl (op_move rfl)
        apply ql_plain rfl (op_extract rfl rfl rfl)
        apply ql_plain rfl (op_extract rfl rfl rfl)
        apply ql_plain rfl (op_assign rfl)
        apply ql_plain rfl (op_assign rfl)
        exact ql_nil
      · simp
      refine aany_end rfl (by kernel_rfl) ?_
      have hlen := n.valsTo_length ins regs i
      refine aw_region ?_
      refine al_op (op_move rfl) rfl (by simp) ?_
      refine al_op (op_move rfl) rfl (by simp) ?_
      refine al_op (op_buildSlice Try.underlying28 info65 rfl rfl (by decide) rfl (by decide) rfl (by first | rfl | (repeat (first | exact parts_nil | refine parts_cons rfl (by repeat (first | exact all_live_nil | refine all_live_clo rfl ?_ | refine all_live_slice rfl ?_ | refine all_live_map rfl ?_ | refine all_live_ptr rfl ?_)) ?_))) rfl rfl rfl) rfl (by simp) ?_
      first
        | (refine al_opR (op_append_one _ Try.underlying28 Try.underlying28 rfl info65 rfl rfl (by decide) rfl rfl rfl (by first | rfl | simp) rfl rfl (by first | omega | (simp; done) | (simp; omega)) (by show _ * 1 ≤ _; first | omega | (simp; done) | (simp; omega))) rfl (by simp) ?_; rintro _ _ ⟨ver59, rfl, rfl⟩)
        | (refine al_opR (op_append_map Try.underlying28 Try.underlying28 rfl info65 rfl rfl (by decide) rfl rfl rfl (by first | rfl | simp) rfl (by first | exact .list _ | exact .vnil | exact .nil | exact .row _ _ _ _ rfl (by first | rfl | simp)) rfl (by first | omega | (simp; done) | (simp; omega)) (by show _ * 1 ≤ _; first | omega | (simp; done) | (simp; omega))) rfl (by simp) ?_; rintro _ _ ⟨ver59, rfl, rfl⟩)
      refine al_op (op_assign rfl) rfl (by simp) ?_
      refine al_nil ?_
      refine aw_region ?_
      refine al_op (op_add rfl rfl (by first | exact wrap_i64 (by omega) (by omega))) rfl (by simp) ?_
      refine al_op (op_move rfl) rfl (by simp) ?_
      refine al_nil ?_
      refine ⟨i + 1, ver59, ?_, ?_, ?_, ?_, ?_⟩
      · omega
      · omega
      · refine sub_cons (get_as rfl ?_) ?_; rotate_left; refine sub_cons (get_as rfl ?_) ?_; rotate_left; exact sub_nil
        all_goals (first | rfl | (simp; done))
      · repeat (first | exact subx_refl | exact subx_del | refine subx_put rfl ?_)
      · rfl
    · have gh4 := h4
      try simp only [decide_eq_true_eq, decide_eq_false_iff_not, Bool.not_eq_true', Bool.not_eq_false', beq_iff_eq, bne_iff_ne, beq_eq_false_iff_ne, bne_eq_false_iff_eq, Bool.or_eq_true, Bool.and_eq_true, Bool.or_eq_false_iff, gt_iff_lt, ge_iff_le] at h4
      refine aw_exit ?_
      obtain rfl : i = n.gates.length := by omega
      refine aw_seq ?_
      refine aw_region ?_
      refine al_op (op_move rfl) rfl (by simp) ?_
      refine al_op (op_assign rfl) rfl (by simp) ?_
      refine al_op (op_assign rfl) rfl (by simp) ?_
      refine al_nil ?_
      refine aw_freeze (fun _ => false) (fsub_cons (t := 6) rfl (by first | exact .leaf _ _ (frz_whole rfl rfl (by first | rfl | (simp; done) | (simp; omega)) (clo_map (fun _ => rfl))) | exact .leaf _ _ (.vnil 1) | exact .leaf _ _ (.nil 1) | exact .leaf _ _ (.same _)) (fsub_cons (t := 7) rfl (.leaf _ _ (.same _)) fsub_nil)) ?_
      refine aw_ret ?_
      refine ⟨_, res_2 rfl rfl rfl rfl rfl, ?_, rfl⟩
      rw [Net.all_ok hb]
end Go.Proofs.Ytbpamlphacpkeaa
