/- Printed walks (gen.py, gates_ann.py): part 55. -/
import Derived.Test.YtbpamlphacpkeaaW51
import Derived.Test.YtbpamlphacpkeaaFacts
set_option linter.unusedVariables false
set_option linter.unusedSimpArgs false
set_option maxRecDepth 20000
namespace Go.Proofs.Ytbpamlphacpkeaa
open Go

theorem r_cone (n : Net) (hn : n.Small) (hv : n.valid = true) (l : List Int) (hl : l.length ≤ 100000) (hx : ∀ x ∈ l, 0 ≤ x ∧ x < 2 * (1 + n.ins.length + n.regs.length + n.gates.length)) : ACp Try.prog 80 [encN n, .list 1 (l.map encI)] (.list 1 ((n.used l).map encT)) := by
  refine acp_of rfl ?_
  obtain ⟨f1, f2, f3, f4, f5, f6, f7⟩ := Net.valid_facts hv
  have a0 : n.all0.length = _ := n.all0_length
  have k1 : n.first = 1 + n.ins.length + n.regs.length := rfl
  have e0 : (List.replicate (n.first + (n.gates.length : Int)).toNat false).length = 1 + n.ins.length + n.regs.length + n.gates.length := by rw [List.length_replicate, k1]; omega
  refine ac_enter 61 Try.func80 rfl rfl (by simp) ?_
  refine aw_seq ?_
  refine aw_region ?_
  (refine al_opR (op_box 2 rfl rfl (by first | rfl | exact live_one rfl | (repeat (first | exact all_live_nil | refine all_live_clo rfl ?_ | refine all_live_slice rfl ?_ | refine all_live_map rfl ?_ | refine all_live_ptr rfl ?_)))) rfl (by simp) ?_; rintro _ _ ⟨ver2, rfl, rfl⟩)
  refine al_op (op_assign rfl) rfl (by simp) ?_
  refine al_nil ?_
  refine aw_seq ?_
  refine aw_any (Checked.mixed Try.checked) ?_
  apply aany_seg (p := 0) (q := 6) (by kernel_rfl) rfl (by decide)
  ·
    first
      | apply ql_plain rfl (op_load_rptr Try.underlying27 info27 rfl rfl)
      | apply ql_plain rfl (op_load_map Try.underlying27 info27 rfl rfl (by omega) rfl)
      | apply ql_plain rfl (op_load_ptr Try.underlying27 info27 rfl rfl rfl rfl)
    first
      | apply ql_call into63 rfl rfl rfl ((r_first _ (by assumption)) _)
      | apply ql_call into63 rfl rfl rfl (acp_lent (lend_cons (by first | exact lend_same | exact .leaf _ _ (.vnil _) | exact .leaf _ _ (.nil _) | exact lend_whole rfl (by first | rfl | simp) (clo_map (fun _ => rfl))) lend_nil) (r_first _ (by assumption)) rfl)
    first
      | apply ql_plain rfl (op_field_rptr Try.underlying27 rfl info24 (by decide) rfl rfl)
      | apply ql_plain rfl (op_field_ptr Try.underlying27 rfl info24 (by decide) rfl rfl rfl)
    first
      | apply ql_plain rfl (op_load_rptr Try.underlying24 info24 rfl rfl)
      | apply ql_plain rfl (op_load_map Try.underlying24 info24 rfl rfl (by omega) rfl)
      | apply ql_plain rfl (op_load_ptr Try.underlying24 info24 rfl rfl rfl rfl)
    first
      | apply ql_plain rfl (op_len_map Try.underlying24 rfl)
      | apply ql_plain rfl (op_len_slice Try.underlying24 rfl rfl)
      | apply ql_plain rfl (op_len_list Try.underlying24 rfl)
      | apply ql_plain rfl (op_len_v Try.underlying24 rfl)
      | apply ql_plain rfl (op_len_nil Try.underlying24 rfl)
    apply ql_plain rfl (op_add rfl rfl (by first | exact wrap_i64 (by omega) (by omega)))
    exact ql_nil
  · simp
  (refine aany_opR (by kernel_rfl) rfl rfl (op_makeN (f := encT) 15 false Try.underlying64 info4 rfl rfl (by decide) rfl rfl rfl rfl (by omega) (by show (1 : Int) * _ ≤ _; omega) (by omega)) (by simp) ?_; rintro _ _ ⟨ver15, rfl, rfl⟩)
  apply aany_seg (p := 7) (q := 8) (by kernel_rfl) rfl (by decide)
  ·
    apply ql_plain rfl (op_assign rfl)
    exact ql_nil
  · simp
  refine aany_end rfl (by kernel_rfl) ?_
  refine aw_seq ?_
  refine aw_seq ?_
  refine aw_region ?_
  refine al_op (op_move rfl) rfl (by simp) ?_
  first
    | refine al_op (op_len_map Try.underlying54 rfl) rfl (by simp) ?_
    | refine al_op (op_len_slice Try.underlying54 rfl rfl) rfl (by simp) ?_
    | refine al_op (op_len_list Try.underlying54 rfl) rfl (by simp) ?_
    | refine al_op (op_len_v Try.underlying54 rfl) rfl (by simp) ?_
    | refine al_op (op_len_nil Try.underlying54 rfl) rfl (by simp) ?_
  refine al_op (op_move rfl) rfl (by simp) ?_
  refine al_nil ?_
  refine aw_block ?_
  refine aw_forT (ι := Nat) [18] [] (fun i => l.length - i) (fun i => i ≤ l.length) (fun i => ([(18, .v (.int .i64 (i)))] : Env)) (fun i s => s.put 15 ver15 (.row 1 ((n.marksTo l i).map encT))) (0) ?_ ?_ ?_ (fun i hinv => ?_)
  · exact Nat.zero_le _
  · refine sub_cons (get_as rfl ?_) ?_; rotate_left; exact sub_nil
    all_goals (first | rfl | simp)
  · rfl
  have hml := n.marksTo_length l i
  refine aw_seq ?_
  refine aw_region ?_
  refine al_op (op_lss rfl rfl) rfl (by simp) ?_
  refine al_nil ?_
  refine aw_seq ?_
  refine aw_cond rfl (fun h1 => ?_) (fun h1 => ?_)
  · have gh1 := h1
    try simp only [decide_eq_true_eq, decide_eq_false_iff_not, Bool.not_eq_true', Bool.not_eq_false', beq_iff_eq, bne_iff_ne, beq_eq_false_iff_ne, bne_eq_false_iff_eq, Bool.or_eq_true, Bool.and_eq_true, Bool.or_eq_false_iff, gt_iff_lt, ge_iff_le] at h1
    refine aw_skip ?_
    refine aw_seq ?_
    refine aw_block ?_
    refine aw_seq ?_
    refine aw_region ?_
    first
      | refine al_op (op_index_map default Try.underlying54 info3 rfl rfl rfl (by first | (with_reducible exact Int.toNat_natCast _) | rfl) (by omega) (by omega)) rfl (by simp) ?_
      | refine al_op (op_index_slice Try.underlying54 info3 rfl rfl rfl rfl (by omega) (by omega)) rfl (by simp) ?_
      | refine al_op (op_index_list Try.underlying54 info3 rfl rfl rfl (by decide) rfl) rfl (by simp) ?_
    first
      | refine al_op (op_load_rptr Try.underlying3 info3 rfl rfl) rfl (by simp) ?_
      | refine al_op (op_load_map Try.underlying3 info3 rfl rfl (by omega) rfl) rfl (by simp) ?_
      | refine al_op (op_load_ptr Try.underlying3 info3 rfl rfl rfl rfl) rfl (by simp) ?_
    refine al_op (op_assign rfl) rfl (by simp) ?_
    refine al_nil ?_
    refine aw_region ?_
    have hli := hx _ (getD_mem (v := l) (i := i) (by omega))
    refine al_op (op_move rfl) rfl (by simp) ?_
    refine al_op (op_move rfl) rfl (by simp) ?_
    refine al_op (op_quo rfl rfl (by omega) (quo_nn (by omega) (by omega) (by omega))) rfl (by simp) ?_
    first
      | refine al_op (op_index_map default Try.underlying64 info4 rfl rfl rfl (by first | (with_reducible exact Int.toNat_natCast _) | rfl) (by omega) (by omega)) rfl (by simp) ?_
      | refine al_op (op_index_slice Try.underlying64 info4 rfl rfl rfl rfl (by omega) (by omega)) rfl (by simp) ?_
      | refine al_op (op_index_list Try.underlying64 info4 rfl rfl rfl (by decide) rfl) rfl (by simp) ?_
    refine al_op (op_store_map true info4 rfl rfl rfl (by omega) rfl rfl rfl (Nat.le_of_ble_eq_true rfl) rfl) rfl (by simp) ?_
    refine al_nil ?_
    refine aw_region ?_
    refine al_op (op_add rfl rfl (by first | exact wrap_i64 (by omega) (by omega))) rfl (by simp) ?_
    refine al_op (op_move rfl) rfl (by simp) ?_
    refine al_nil ?_
    refine ⟨i + 1, ?_, ?_, ?_, ?_, ?_⟩
    · omega
    · omega
    · refine sub_cons (get_as rfl ?_) ?_; rotate_left; exact sub_nil
      all_goals (first | rfl | simp)
    · repeat (first | exact subx_refl | exact subx_del | refine subx_put rfl ?_)
    · (rw [n.marksTo_succ l i (by omega)] <;> rfl)
  · have gh1 := h1
    try simp only [decide_eq_true_eq, decide_eq_false_iff_not, Bool.not_eq_true', Bool.not_eq_false', beq_iff_eq, bne_iff_ne, beq_eq_false_iff_ne, bne_eq_false_iff_eq, Bool.or_eq_true, Bool.and_eq_true, Bool.or_eq_false_iff, gt_iff_lt, ge_iff_le] at h1
    refine aw_exit ?_
    obtain rfl : i = l.length := by omega
    refine aw_seq ?_
    refine aw_seq ?_
    refine aw_region ?_
    first
      | refine al_op (op_field_rptr Try.underlying27 rfl info24 (by decide) rfl rfl) rfl (by simp) ?_
      | refine al_op (op_field_ptr Try.underlying27 rfl info24 (by decide) rfl rfl rfl) rfl (by simp) ?_
    first
      | refine al_op (op_load_rptr Try.underlying24 info24 rfl rfl) rfl (by simp) ?_
      | refine al_op (op_load_map Try.underlying24 info24 rfl rfl (by omega) rfl) rfl (by simp) ?_
      | refine al_op (op_load_ptr Try.underlying24 info24 rfl rfl rfl rfl) rfl (by simp) ?_
    first
      | refine al_op (op_len_map Try.underlying24 rfl) rfl (by simp) ?_
      | refine al_op (op_len_slice Try.underlying24 rfl rfl) rfl (by simp) ?_
      | refine al_op (op_len_list Try.underlying24 rfl) rfl (by simp) ?_
      | refine al_op (op_len_v Try.underlying24 rfl) rfl (by simp) ?_
      | refine al_op (op_len_nil Try.underlying24 rfl) rfl (by simp) ?_
    refine al_op (op_sub rfl rfl (by first | exact wrap_i64 (by omega) (by omega))) rfl (by simp) ?_
    refine al_op (op_assign rfl) rfl (by simp) ?_
    refine al_nil ?_
    refine aw_block ?_
    refine aw_forT (ι := Nat) [8] [] (fun i => i) (fun i => i ≤ n.gates.length) (fun i => ([(8, .v (.int .i64 ((i : Int) - 1)))] : Env)) (fun i s => s.put 15 ver15 (.row 1 ((n.useAt (n.marksTo l l.length) i).map encT))) (n.gates.length) ?_ ?_ ?_ (fun i hinv => ?_)
    · exact Nat.le_refl _
    · refine sub_cons (get_as rfl ?_) ?_; rotate_left; exact sub_nil
      all_goals (first | rfl | (simp; done) | (congr 3; omega))
    · (rw [n.useAt_top] <;> rfl)
    have hml := n.marksTo_length l l.length
    have hul := n.useAt_length (n.marksTo l l.length) i
    refine aw_seq ?_
    refine aw_seq ?_
    refine aw_region ?_
    refine al_op (op_move rfl) rfl (by simp) ?_
    refine al_op (op_geq rfl rfl) rfl (by simp) ?_
    refine al_nil ?_
    refine aw_cond rfl (fun h2 => ?_) (fun h2 => ?_)
    · have gh2 := h2
      try simp only [decide_eq_true_eq, decide_eq_false_iff_not, Bool.not_eq_true', Bool.not_eq_false', beq_iff_eq, bne_iff_ne, beq_eq_false_iff_ne, bne_eq_false_iff_eq, Bool.or_eq_true, Bool.and_eq_true, Bool.or_eq_false_iff, gt_iff_lt, ge_iff_le] at h2
      refine aw_skip ?_
      refine aw_seq ?_
      refine aw_block ?_
      refine aw_seq ?_
      refine aw_region ?_
      refine al_op (op_move rfl) rfl (by simp) ?_
      first
        | refine al_op (op_load_rptr Try.underlying27 info27 rfl rfl) rfl (by simp) ?_
        | refine al_op (op_load_map Try.underlying27 info27 rfl rfl (by omega) rfl) rfl (by simp) ?_
        | refine al_op (op_load_ptr Try.underlying27 info27 rfl rfl rfl rfl) rfl (by simp) ?_
      first
        | refine al_callp into63 rfl rfl rfl ((r_first _ (by assumption)) _) (by simp) ?_
        | refine al_callp into63 rfl rfl rfl (acp_lent (lend_cons (by first | exact lend_same | exact .leaf _ _ (.vnil _) | exact .leaf _ _ (.nil _) | exact lend_whole rfl (by first | rfl | simp) (clo_map (fun _ => rfl))) lend_nil) (r_first _ (by assumption)) rfl) (by simp) ?_
      refine al_op (op_move rfl) rfl (by simp) ?_
      refine al_op (op_add rfl rfl (by first | exact wrap_i64 (by omega) (by omega))) rfl (by simp) ?_
      first
        | refine al_op (op_index_map default Try.underlying64 info4 rfl rfl rfl (by first | (with_reducible exact Int.toNat_natCast _) | rfl) (by omega) (by omega)) rfl (by simp) ?_
        | refine al_op (op_index_slice Try.underlying64 info4 rfl rfl rfl rfl (by omega) (by omega)) rfl (by simp) ?_
        | refine al_op (op_index_list Try.underlying64 info4 rfl rfl rfl (by decide) rfl) rfl (by simp) ?_
      first
        | refine al_op (op_load_rptr Try.underlying4 info4 rfl rfl) rfl (by simp) ?_
        | refine al_op (op_load_map Try.underlying4 info4 rfl rfl (by omega) rfl) rfl (by simp) ?_
        | refine al_op (op_load_ptr Try.underlying4 info4 rfl rfl rfl rfl) rfl (by simp) ?_
      refine al_nil ?_
      refine aw_cond rfl (fun h3 => ?_) (fun h3 => ?_)
      · have gh3 := h3
        try simp only [decide_eq_true_eq, decide_eq_false_iff_not, Bool.not_eq_true', Bool.not_eq_false', beq_iff_eq, bne_iff_ne, beq_eq_false_iff_ne, bne_eq_false_iff_eq, Bool.or_eq_true, Bool.and_eq_true, Bool.or_eq_false_iff, gt_iff_lt, ge_iff_le] at h3
        have hg := f5 ((i : Int) - 1).toNat (by omega)
        refine aw_plan [0, 1, 2, 3, 4, 5, 6, 7, 8, 9, 10, 11, 12, 13, 14, 15, 16, 17, 18, 19] (Checked.mixed Try.checked) (by kernel_rfl) ?_
        refine afl_float rfl rfl (opk_of (op_move rfl)) (by simp) ?_
        first
          | refine afl_float rfl rfl (opk_of (op_field_rptr Try.underlying27 rfl info24 (by decide) rfl rfl)) (by simp) ?_
          | refine afl_float rfl rfl (opk_of (op_field_ptr Try.underlying27 rfl info24 (by decide) rfl rfl rfl)) (by simp) ?_
        first
          | refine afl_float rfl rfl (opk_of (op_load_rptr Try.underlying24 info24 rfl rfl)) (by simp) ?_
          | refine afl_float rfl rfl (opk_of (op_load_map Try.underlying24 info24 rfl rfl (by omega) rfl)) (by simp) ?_
          | refine afl_float rfl rfl (opk_of (op_load_ptr Try.underlying24 info24 rfl rfl rfl rfl)) (by simp) ?_
        refine afl_float rfl rfl (opk_of (op_move rfl)) (by simp) ?_
        first
          | refine afl_float rfl rfl (opk_of (op_index_map default Try.underlying24 info86 rfl rfl rfl (by first | (with_reducible exact Int.toNat_natCast _) | rfl) (by omega) (by omega))) (by simp) ?_
          | refine afl_float rfl rfl (opk_of (op_index_slice Try.underlying24 info86 rfl rfl rfl rfl (by omega) (by omega))) (by simp) ?_
          | refine afl_float rfl rfl (opk_of (op_index_list Try.underlying24 info86 rfl rfl rfl (by decide) rfl)) (by simp) ?_
        first
          | refine afl_float rfl rfl (opk_of (op_index_arptr Try.underlying86 info3 rfl rfl rfl (by decide) (by decide))) (by simp) ?_
          | refine afl_float rfl rfl (opk_of (op_index_aptr Try.underlying86 info3 rfl rfl rfl rfl (by decide) (by decide))) (by simp) ?_
        first
          | refine afl_float rfl rfl (opk_of (op_load_rptr Try.underlying3 info3 rfl rfl)) (by simp) ?_
          | refine afl_float rfl rfl (opk_of (op_load_map Try.underlying3 info3 rfl rfl (by omega) rfl)) (by simp) ?_
          | refine afl_float rfl rfl (opk_of (op_load_ptr Try.underlying3 info3 rfl rfl rfl rfl)) (by simp) ?_
        refine afl_float rfl rfl (opk_of (op_quo rfl rfl (by omega) (quo_nn (by omega) (by omega) (by omega)))) (by simp) ?_
        refine afl_float rfl rfl (opk_of (op_move rfl)) (by simp) ?_
        first
          | refine afl_float rfl rfl (opk_of (op_field_rptr Try.underlying27 rfl info24 (by decide) rfl rfl)) (by simp) ?_
          | refine afl_float rfl rfl (opk_of (op_field_ptr Try.underlying27 rfl info24 (by decide) rfl rfl rfl)) (by simp) ?_
        first
          | refine afl_float rfl rfl (opk_of (op_load_rptr Try.underlying24 info24 rfl rfl)) (by simp) ?_
          | refine afl_float rfl rfl (opk_of (op_load_map Try.underlying24 info24 rfl rfl (by omega) rfl)) (by simp) ?_
          | refine afl_float rfl rfl (opk_of (op_load_ptr Try.underlying24 info24 rfl rfl rfl rfl)) (by simp) ?_
        refine afl_float rfl rfl (opk_of (op_move rfl)) (by simp) ?_
        first
          | refine afl_float rfl rfl (opk_of (op_index_map default Try.underlying24 info86 rfl rfl rfl (by first | (with_reducible exact Int.toNat_natCast _) | rfl) (by omega) (by omega))) (by simp) ?_
          | refine afl_float rfl rfl (opk_of (op_index_slice Try.underlying24 info86 rfl rfl rfl rfl (by omega) (by omega))) (by simp) ?_
          | refine afl_float rfl rfl (opk_of (op_index_list Try.underlying24 info86 rfl rfl rfl (by decide) rfl)) (by simp) ?_
        first
          | refine afl_float rfl rfl (opk_of (op_index_arptr Try.underlying86 info3 rfl rfl rfl (by decide) (by decide))) (by simp) ?_
          | refine afl_float rfl rfl (opk_of (op_index_aptr Try.underlying86 info3 rfl rfl rfl rfl (by decide) (by decide))) (by simp) ?_
        first
          | refine afl_float rfl rfl (opk_of (op_load_rptr Try.underlying3 info3 rfl rfl)) (by simp) ?_
          | refine afl_float rfl rfl (opk_of (op_load_map Try.underlying3 info3 rfl rfl (by omega) rfl)) (by simp) ?_
          | refine afl_float rfl rfl (opk_of (op_load_ptr Try.underlying3 info3 rfl rfl rfl rfl)) (by simp) ?_
        refine afl_float rfl rfl (opk_of (op_quo rfl rfl (by omega) (quo_nn (by omega) (by omega) (by omega)))) (by simp) ?_
        first
          | refine afl_float rfl rfl (opk_of (op_index_map default Try.underlying64 info4 rfl rfl rfl (by first | (with_reducible exact Int.toNat_natCast _) | rfl) (by omega) (by omega))) (by simp) ?_
          | refine afl_float rfl rfl (opk_of (op_index_slice Try.underlying64 info4 rfl rfl rfl rfl (by omega) (by omega))) (by simp) ?_
          | refine afl_float rfl rfl (opk_of (op_index_list Try.underlying64 info4 rfl rfl rfl (by decide) rfl)) (by simp) ?_
        (refine afl_eff rfl rfl (by kernel_rfl) (op_store_map true info4 rfl rfl rfl (by first | omega | (rw [List.length_set]; omega)) rfl rfl rfl (Nat.le_of_ble_eq_true rfl) rfl) (by simp) ?_ ?_)
        ·
          refine loose_anc 16 rfl (by kernel_rfl) ?_
          refine loose_k rfl (opk_of (op_quo rfl rfl (by omega) (quo_nn (by omega) (by omega) (by omega)))) ?_
          refine loose_anc 14 rfl (by kernel_rfl) ?_
          refine loose_anc 13 rfl (by kernel_rfl) ?_
          refine loose_anc 12 rfl (by kernel_rfl) ?_
          refine loose_anc 11 rfl (by kernel_rfl) ?_
          refine loose_anc 10 rfl (by kernel_rfl) ?_
          refine loose_anc 9 rfl (by kernel_rfl) ?_
          refine loose_k rfl (opk_of (op_move rfl)) ?_
          refine loose_anc 7 rfl (by kernel_rfl) ?_
          refine loose_anc 6 rfl (by kernel_rfl) ?_
          refine loose_anc 5 rfl (by kernel_rfl) ?_
          refine loose_anc 4 rfl (by kernel_rfl) ?_
          refine loose_anc 3 rfl (by kernel_rfl) ?_
          refine loose_anc 2 rfl (by kernel_rfl) ?_
          refine loose_anc 1 rfl (by kernel_rfl) ?_
          refine loose_anc 0 rfl (by kernel_rfl) ?_
          exact loose_nil
        first
          | refine afl_float rfl rfl (opk_of (op_index_map default Try.underlying64 info4 rfl rfl rfl (by first | (with_reducible exact Int.toNat_natCast _) | rfl) (by omega) (by omega))) (by simp) ?_
          | refine afl_float rfl rfl (opk_of (op_index_slice Try.underlying64 info4 rfl rfl rfl rfl (by omega) (by omega))) (by simp) ?_
          | refine afl_float rfl rfl (opk_of (op_index_list Try.underlying64 info4 rfl rfl rfl (by decide) rfl)) (by simp) ?_
        (refine afl_eff rfl rfl (by kernel_rfl) (op_store_map true info4 rfl rfl rfl (by first | omega | (rw [List.length_set]; omega)) rfl rfl rfl (Nat.le_of_ble_eq_true rfl) rfl) (by simp) ?_ ?_)
        ·
          refine loose_anc 18 rfl (by kernel_rfl) ?_
          refine loose_anc 17 rfl (by kernel_rfl) ?_
          refine loose_anc 16 rfl (by kernel_rfl) ?_
          refine loose_anc 15 rfl (by kernel_rfl) ?_
          refine loose_anc 14 rfl (by kernel_rfl) ?_
          refine loose_anc 13 rfl (by kernel_rfl) ?_
          refine loose_anc 12 rfl (by kernel_rfl) ?_
          refine loose_anc 11 rfl (by kernel_rfl) ?_
          refine loose_anc 10 rfl (by kernel_rfl) ?_
          refine loose_anc 9 rfl (by kernel_rfl) ?_
          refine loose_anc 8 rfl (by kernel_rfl) ?_
          refine loose_anc 7 rfl (by kernel_rfl) ?_
          refine loose_anc 6 rfl (by kernel_rfl) ?_
          refine loose_anc 5 rfl (by kernel_rfl) ?_
          refine loose_anc 4 rfl (by kernel_rfl) ?_
          refine loose_anc 3 rfl (by kernel_rfl) ?_
          refine loose_anc 2 rfl (by kernel_rfl) ?_
          refine loose_anc 1 rfl (by kernel_rfl) ?_
          refine loose_anc 0 rfl (by kernel_rfl) ?_
          exact loose_nil
        refine afl_end ?_
        refine aw_region ?_
        refine al_op (op_move rfl) rfl (by simp) ?_
        refine al_op (op_sub rfl rfl (by first | exact wrap_i64 (by omega) (by omega))) rfl (by simp) ?_
        refine al_op (op_assign rfl) rfl (by simp) ?_
        refine al_nil ?_
        refine ⟨i - 1, ?_, ?_, ?_, ?_, ?_⟩
        · omega
        · omega
        · refine sub_cons (get_as rfl ?_) ?_; rotate_left; exact sub_nil
          all_goals (first | rfl | (simp; done) | (congr 3; omega))
        · repeat (first | exact subx_refl | exact subx_del | refine subx_put rfl ?_)
        · first | (rw [n.useAt_step _ i (by omega) (by omega), Net.useStep_yes gh3] <;> rfl) | (rw [n.useAt_step _ i (by omega) (by omega), Net.useStep_no gh3] <;> rfl)
      · have gh3 := h3
        try simp only [decide_eq_true_eq, decide_eq_false_iff_not, Bool.not_eq_true', Bool.not_eq_false', beq_iff_eq, bne_iff_ne, beq_eq_false_iff_ne, bne_eq_false_iff_eq, Bool.or_eq_true, Bool.and_eq_true, Bool.or_eq_false_iff, gt_iff_lt, ge_iff_le] at h3
        refine aw_skip ?_
        refine aw_region ?_
        refine al_op (op_move rfl) rfl (by simp) ?_
        refine al_op (op_sub rfl rfl (by first | exact wrap_i64 (by omega) (by omega))) rfl (by simp) ?_
        refine al_op (op_assign rfl) rfl (by simp) ?_
        refine al_nil ?_
        refine ⟨i - 1, ?_, ?_, ?_, ?_, ?_⟩
        · omega
        · omega
        · refine sub_cons (get_as rfl ?_) ?_; rotate_left; exact sub_nil
          all_goals (first | rfl | (simp; done) | (congr 3; omega))
        · repeat (first | exact subx_refl | exact subx_del | refine subx_put rfl ?_)
        · first | (rw [n.useAt_step _ i (by omega) (by omega), Net.useStep_yes gh3] <;> rfl) | (rw [n.useAt_step _ i (by omega) (by omega), Net.useStep_no gh3] <;> rfl)
    · have gh2 := h2
      try simp only [decide_eq_true_eq, decide_eq_false_iff_not, Bool.not_eq_true', Bool.not_eq_false', beq_iff_eq, bne_iff_ne, beq_eq_false_iff_ne, bne_eq_false_iff_eq, Bool.or_eq_true, Bool.and_eq_true, Bool.or_eq_false_iff, gt_iff_lt, ge_iff_le] at h2
      refine aw_exit ?_
      obtain rfl : i = 0 := by omega
      refine aw_seq ?_
      refine aw_region ?_
      refine al_op (op_move rfl) rfl (by simp) ?_
      refine al_op (op_assign rfl) rfl (by simp) ?_
      refine al_nil ?_
      refine aw_freeze (fun _ => false) (fsub_cons (t := 4) rfl (by first | exact .leaf _ _ (frz_whole rfl rfl (by first | rfl | (simp; done) | (simp; omega)) (clo_map (fun _ => rfl))) | exact .leaf _ _ (.vnil 1) | exact .leaf _ _ (.nil 1) | exact .leaf _ _ (.same _)) fsub_nil) ?_
      refine aw_ret ?_
      refine ⟨_, res_1 rfl rfl, ?_, rfl⟩
      rfl
end Go.Proofs.Ytbpamlphacpkeaa
