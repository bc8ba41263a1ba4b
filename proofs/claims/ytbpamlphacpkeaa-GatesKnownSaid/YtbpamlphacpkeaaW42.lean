/- Printed walks (gen.py, gates_ann.py): part 42. -/
import Derived.Test.YtbpamlphacpkeaaW41
import Derived.Test.YtbpamlphacpkeaaFacts
set_option linter.unusedVariables false
set_option linter.unusedSimpArgs false
set_option maxRecDepth 20000
namespace Go.Proofs.Ytbpamlphacpkeaa
open Go

theorem l_covers (l m : List Int) (hl : l.length ≤ 140737488355328) : ACp Try.prog 24 [.list 1 (l.map encB), .list 1 (m.map encB)] (.v (.bool (coversB l m))) := by
  refine acp_of rfl ?_
  refine ac_enter 33 Try.func24 rfl rfl (by simp) ?_
  refine aw_seq ?_
  refine aw_region ?_
  refine al_op (op_assign rfl) rfl (by simp) ?_
  refine al_nil ?_
  refine aw_seq ?_
  refine aw_seq ?_
  refine aw_region ?_
  refine al_op (op_move rfl) rfl (by simp) ?_
  first
    | refine al_op (op_len_map Try.underlying28 rfl) rfl (by simp) ?_
    | refine al_op (op_len_slice Try.underlying28 rfl rfl) rfl (by simp) ?_
    | refine al_op (op_len_list Try.underlying28 rfl) rfl (by simp) ?_
    | refine al_op (op_len_v Try.underlying28 rfl) rfl (by simp) ?_
    | refine al_op (op_len_nil Try.underlying28 rfl) rfl (by simp) ?_
  refine al_op (op_move rfl) rfl (by simp) ?_
  first
    | refine al_op (op_len_map Try.underlying28 rfl) rfl (by simp) ?_
    | refine al_op (op_len_slice Try.underlying28 rfl rfl) rfl (by simp) ?_
    | refine al_op (op_len_list Try.underlying28 rfl) rfl (by simp) ?_
    | refine al_op (op_len_v Try.underlying28 rfl) rfl (by simp) ?_
    | refine al_op (op_len_nil Try.underlying28 rfl) rfl (by simp) ?_
  refine al_op (op_neq rfl rfl) rfl (by simp) ?_
  refine al_nil ?_
  refine aw_cond rfl (fun h1 => ?_) (fun h1 => ?_)
  · have gh1 := h1
    try simp only [decide_eq_true_eq, decide_eq_false_iff_not, Bool.not_eq_true', Bool.not_eq_false', beq_iff_eq, bne_iff_ne, beq_eq_false_iff_ne, bne_eq_false_iff_eq, Bool.or_eq_true, Bool.and_eq_true, Bool.or_eq_false_iff, gt_iff_lt, ge_iff_le] at h1
    refine aw_seq ?_
    refine aw_region ?_
    refine al_op (op_assign rfl) rfl (by simp) ?_
    refine al_nil ?_
    refine aw_freeze (fun _ => false) (fsub_cons (t := 4) rfl (.leaf _ _ (.same _)) fsub_nil) ?_
    refine aw_ret ?_
    refine ⟨_, res_1 rfl rfl, ?_, rfl⟩
    rw [coversB, show ((l.length : Int) == m.length) = false from by simpa using gh1]; rfl
  · have gh1 := h1
    try simp only [decide_eq_true_eq, decide_eq_false_iff_not, Bool.not_eq_true', Bool.not_eq_false', beq_iff_eq, bne_iff_ne, beq_eq_false_iff_ne, bne_eq_false_iff_eq, Bool.or_eq_true, Bool.and_eq_true, Bool.or_eq_false_iff, gt_iff_lt, ge_iff_le] at h1
    refine aw_skip ?_
    refine aw_seq ?_
    refine aw_seq ?_
    refine aw_region ?_
    refine al_op (op_move rfl) rfl (by simp) ?_
    first
      | refine al_op (op_len_map Try.underlying28 rfl) rfl (by simp) ?_
      | refine al_op (op_len_slice Try.underlying28 rfl rfl) rfl (by simp) ?_
      | refine al_op (op_len_list Try.underlying28 rfl) rfl (by simp) ?_
      | refine al_op (op_len_v Try.underlying28 rfl) rfl (by simp) ?_
      | refine al_op (op_len_nil Try.underlying28 rfl) rfl (by simp) ?_
    refine al_op (op_move rfl) rfl (by simp) ?_
    refine al_nil ?_
    refine aw_block ?_
    refine aw_forT (ι := Nat) [4, 13] [] (fun i => l.length - i) (fun i => i ≤ l.length ∧ allTo (fun i => !(l.getD i default != 2 && l.getD i default != m.getD i default)) i = true) (fun i => ([(13, .v (.int .i64 (i)))] : Env)) (fun i s => s) (0) ?_ ?_ ?_ (fun i hinv => ?_)
    · exact ⟨Nat.zero_le _, rfl⟩
    · refine sub_cons (get_as rfl ?_) ?_; rotate_left; exact sub_nil
      all_goals (first | rfl | simp)
    · rfl
    have hi := hinv.1
    refine aw_seq ?_
    refine aw_region ?_
    refine al_op (op_lss rfl rfl) rfl (by simp) ?_
    refine al_nil ?_
    refine aw_seq ?_
    refine aw_cond rfl (fun h2 => ?_) (fun h2 => ?_)
    · have gh2 := h2
      try simp only [decide_eq_true_eq, decide_eq_false_iff_not, Bool.not_eq_true', Bool.not_eq_false', beq_iff_eq, bne_iff_ne, beq_eq_false_iff_ne, bne_eq_false_iff_eq, Bool.or_eq_true, Bool.and_eq_true, Bool.or_eq_false_iff, gt_iff_lt, ge_iff_le] at h2
      refine aw_skip ?_
      refine aw_seq ?_
      refine aw_block ?_
      refine aw_seq ?_
      refine aw_region ?_
      refine al_op (op_move rfl) rfl (by simp) ?_
      refine al_op (op_assign rfl) rfl (by simp) ?_
      refine al_nil ?_
      refine aw_seq ?_
      refine aw_any (Checked.mixed Try.checked) ?_
      apply aany_seg (p := 0) (q := 6) (by kernel_rfl) rfl (by decide)
      ·
        apply ql_plain rfl (op_move rfl)
        apply ql_plain rfl (op_move rfl)
        first
          | apply ql_plain rfl (op_index_map default Try.underlying28 info65 rfl rfl rfl (by first | (with_reducible exact Int.toNat_natCast _) | rfl) (by omega) (by omega))
          | apply ql_plain rfl (op_index_slice Try.underlying28 info65 rfl rfl rfl rfl (by omega) (by omega))
          | apply ql_plain rfl (op_index_list Try.underlying28 info65 rfl rfl rfl (by decide) rfl)
        first
          | apply ql_plain rfl (op_load_rptr Try.underlying65 info65 rfl rfl)
          | apply ql_plain rfl (op_load_map Try.underlying65 info65 rfl rfl (by omega) rfl)
          | apply ql_plain rfl (op_load_ptr Try.underlying65 info65 rfl rfl rfl rfl)
        apply ql_plain rfl (op_neq rfl rfl)
        apply ql_plain rfl (op_move rfl)
        exact ql_nil
      · simp
      apply aany_and 6 16 21 31 (by kernel_rfl) rfl (by decide) rfl (by simp)
      · intro h3; have gh3 := h3
        try simp only [decide_eq_true_eq, decide_eq_false_iff_not, Bool.not_eq_true', Bool.not_eq_false', beq_iff_eq, bne_iff_ne, beq_eq_false_iff_ne, bne_eq_false_iff_eq, Bool.or_eq_true, Bool.and_eq_true, Bool.or_eq_false_iff, gt_iff_lt, ge_iff_le] at h3
        apply ql_ex
        ·
          apply ql_take rfl rfl rfl rfl (op_move rfl)
          apply ql_take rfl rfl rfl rfl (op_move rfl)
          first
            | apply ql_take rfl rfl rfl rfl (op_index_map default Try.underlying28 info65 rfl rfl rfl (by first | (with_reducible exact Int.toNat_natCast _) | rfl) (by omega) (by omega))
            | apply ql_take rfl rfl rfl rfl (op_index_slice Try.underlying28 info65 rfl rfl rfl rfl (by omega) (by omega))
            | apply ql_take rfl rfl rfl rfl (op_index_list Try.underlying28 info65 rfl rfl rfl (by decide) rfl)
          first
            | apply ql_take rfl rfl rfl rfl (op_load_rptr Try.underlying65 info65 rfl rfl)
            | apply ql_take rfl rfl rfl rfl (op_load_map Try.underlying65 info65 rfl rfl (by omega) rfl)
            | apply ql_take rfl rfl rfl rfl (op_load_ptr Try.underlying65 info65 rfl rfl rfl rfl)
          apply ql_take rfl rfl rfl rfl (op_move rfl)
          apply ql_take rfl rfl rfl rfl (op_move rfl)
          first
            | apply ql_take rfl rfl rfl rfl (op_index_map default Try.underlying28 info65 rfl rfl rfl (by first | (with_reducible exact Int.toNat_natCast _) | rfl) (by omega) (by omega))
            | apply ql_take rfl rfl rfl rfl (op_index_slice Try.underlying28 info65 rfl rfl rfl rfl (by omega) (by omega))
            | apply ql_take rfl rfl rfl rfl (op_index_list Try.underlying28 info65 rfl rfl rfl (by decide) rfl)
          first
            | apply ql_take rfl rfl rfl rfl (op_load_rptr Try.underlying65 info65 rfl rfl)
            | apply ql_take rfl rfl rfl rfl (op_load_map Try.underlying65 info65 rfl rfl (by omega) rfl)
            | apply ql_take rfl rfl rfl rfl (op_load_ptr Try.underlying65 info65 rfl rfl rfl rfl)
          apply ql_take rfl rfl rfl rfl (op_neq rfl rfl)
          first
            | apply ql_plain rfl (op_pick rfl rfl)
            | apply ql_plain rfl (op_and rfl rfl rfl)
          exact ql_nil
        · rfl
        · repeat (first | exact subx_refl | exact subx_known rfl gh3 subx_refl | refine subx_put rfl ?_)
      · intro h3; have gh3 := h3
        try simp only [decide_eq_true_eq, decide_eq_false_iff_not, Bool.not_eq_true', Bool.not_eq_false', beq_iff_eq, bne_iff_ne, beq_eq_false_iff_ne, bne_eq_false_iff_eq, Bool.or_eq_true, Bool.and_eq_true, Bool.or_eq_false_iff, gt_iff_lt, ge_iff_le] at h3
        apply ql_ex
        ·
          apply ql_pass rfl rfl rfl rfl
          apply ql_pass rfl rfl rfl rfl
          apply ql_pass rfl rfl rfl rfl
          apply ql_pass rfl rfl rfl rfl
          apply ql_pass rfl rfl rfl rfl
          apply ql_pass rfl rfl rfl rfl
          apply ql_pass rfl rfl rfl rfl
          apply ql_pass rfl rfl rfl rfl
          apply ql_pass rfl rfl rfl rfl
          first
            | apply ql_plain rfl (op_pick rfl rfl)
            | apply ql_plain rfl (op_and rfl rfl rfl)
          exact ql_nil
        · rfl
        · repeat (first | exact subx_refl | exact subx_known rfl gh3 subx_refl | refine subx_put rfl ?_)
      refine aany_end rfl (by kernel_rfl) ?_
      refine aw_cond rfl (fun h4 => ?_) (fun h4 => ?_)
      · have gh4 := h4
        try simp only [decide_eq_true_eq, decide_eq_false_iff_not, Bool.not_eq_true', Bool.not_eq_false', beq_iff_eq, bne_iff_ne, beq_eq_false_iff_ne, bne_eq_false_iff_eq, Bool.or_eq_true, Bool.and_eq_true, Bool.or_eq_false_iff, gt_iff_lt, ge_iff_le] at h4
        refine aw_seq ?_
        refine aw_region ?_
        refine al_op (op_assign rfl) rfl (by simp) ?_
        refine al_nil ?_
        refine aw_freeze (fun _ => false) (fsub_cons (t := 4) rfl (.leaf _ _ (.same _)) fsub_nil) ?_
        refine aw_ret ?_
        refine ⟨_, res_1 rfl rfl, ?_, rfl⟩
        rw [coversB, allTo_false i (by omega) (congrArg Bool.not gh4), Bool.and_false]
      · have gh4 := h4
        try simp only [decide_eq_true_eq, decide_eq_false_iff_not, Bool.not_eq_true', Bool.not_eq_false', beq_iff_eq, bne_iff_ne, beq_eq_false_iff_ne, bne_eq_false_iff_eq, Bool.or_eq_true, Bool.and_eq_true, Bool.or_eq_false_iff, gt_iff_lt, ge_iff_le] at h4
        refine aw_skip ?_
        refine aw_region ?_
        refine al_op (op_add rfl rfl (by first | exact wrap_i64 (by omega) (by omega))) rfl (by simp) ?_
        refine al_op (op_move rfl) rfl (by simp) ?_
        refine al_nil ?_
        refine ⟨i + 1, ?_, ?_, ?_, ?_, ?_⟩
        · omega
        · exact ⟨by omega, allTo_succ hinv.2 (congrArg Bool.not gh4)⟩
        · refine sub_cons (get_as rfl ?_) ?_; rotate_left; exact sub_nil
          all_goals (first | rfl | simp)
        · repeat (first | exact subx_refl | exact subx_del | refine subx_put rfl ?_)
        · rfl
    · have gh2 := h2
      try simp only [decide_eq_true_eq, decide_eq_false_iff_not, Bool.not_eq_true', Bool.not_eq_false', beq_iff_eq, bne_iff_ne, beq_eq_false_iff_ne, bne_eq_false_iff_eq, Bool.or_eq_true, Bool.and_eq_true, Bool.or_eq_false_iff, gt_iff_lt, ge_iff_le] at h2
      refine aw_exit ?_
      obtain rfl : i = l.length := by omega
      refine aw_seq ?_
      refine aw_region ?_
      refine al_op (op_assign rfl) rfl (by simp) ?_
      refine al_nil ?_
      refine aw_freeze (fun _ => false) (fsub_cons (t := 4) rfl (.leaf _ _ (.same _)) fsub_nil) ?_
      refine aw_ret ?_
      refine ⟨_, res_1 rfl rfl, ?_, rfl⟩
      rw [coversB, hinv.2, Bool.and_true, show ((l.length : Int) == m.length) = true from by simpa using gh1]
end Go.Proofs.Ytbpamlphacpkeaa
