/- Printed walks (gen.py, gates_ann.py): part 21. -/
import Derived.Test.YtbpamlphacpkeaaW16
import Derived.Test.YtbpamlphacpkeaaGMaker
import Derived.Test.YtbpamlphacpkeaaFacts
set_option linter.unusedVariables false
set_option linter.unusedSimpArgs false
set_option maxRecDepth 20000
namespace Go.Proofs.Ytbpamlphacpkeaa
open Go

theorem m_first (s : MS) (vm vg vt vr : Nat) (hs : s.OK) : AC Try.prog 72 [.ptr 0 vm 0 0] (mk0 s vm vg vt vr) (fun r σ' => r = .ret (.v (.int .i64 (s.lits))) ∧ σ' = mk0 s vm vg vt vr) := by
  obtain ⟨k1, k2, k3⟩ := hs
  refine ac_enter 25 Try.func72 rfl rfl (by simp) ?_
  refine aw_seq ?_
  refine aw_region ?_
  refine al_op (op_assign rfl) rfl (by simp) ?_
  refine al_nil ?_
  refine aw_seq ?_
  refine aw_any (Checked.mixed Try.checked) ?_
  apply aany_seg (p := 0) (q := 23) (by kernel_rfl) rfl (by decide)
  ·
    apply ql_plain rfl (op_move rfl)
    first
      | apply ql_plain rfl (op_nilCheck_rptr rfl)
      | apply ql_plain rfl (op_nilCheck_ptr rfl rfl)
    first
      | apply ql_plain rfl (op_field_rptr Try.underlying73 rfl info27 (by decide) rfl rfl)
      | apply ql_plain rfl (op_field_ptr Try.underlying73 rfl info27 (by decide) rfl rfl rfl)
    first
      | apply ql_plain rfl (op_field_rptr Try.underlying27 rfl info22 (by decide) rfl rfl)
      | apply ql_plain rfl (op_field_ptr Try.underlying27 rfl info22 (by decide) rfl rfl rfl)
    first
      | apply ql_plain rfl (op_load_rptr Try.underlying22 info22 rfl rfl)
      | apply ql_plain rfl (op_load_map Try.underlying22 info22 rfl rfl (by omega) rfl)
      | apply ql_plain rfl (op_load_ptr Try.underlying22 info22 rfl rfl rfl rfl)
    first
      | apply ql_plain rfl (op_len_map Try.underlying22 rfl)
      | apply ql_plain rfl (op_len_slice Try.underlying22 rfl rfl)
      | apply ql_plain rfl (op_len_list Try.underlying22 rfl)
      | apply ql_plain rfl (op_len_v Try.underlying22 rfl)
      | apply ql_plain rfl (op_len_nil Try.underlying22 rfl)
    apply ql_plain rfl (op_add rfl rfl (by first | exact wrap_i64 (by omega) (by omega)))
    apply ql_plain rfl (op_move rfl)
    first
      | apply ql_plain rfl (op_nilCheck_rptr rfl)
      | apply ql_plain rfl (op_nilCheck_ptr rfl rfl)
    first
      | apply ql_plain rfl (op_field_rptr Try.underlying73 rfl info27 (by decide) rfl rfl)
      | apply ql_plain rfl (op_field_ptr Try.underlying73 rfl info27 (by decide) rfl rfl rfl)
    first
      | apply ql_plain rfl (op_field_rptr Try.underlying27 rfl info23 (by decide) rfl rfl)
      | apply ql_plain rfl (op_field_ptr Try.underlying27 rfl info23 (by decide) rfl rfl rfl)
    first
      | apply ql_plain rfl (op_load_rptr Try.underlying23 info23 rfl rfl)
      | apply ql_plain rfl (op_load_map Try.underlying23 info23 rfl rfl (by omega) rfl)
      | apply ql_plain rfl (op_load_ptr Try.underlying23 info23 rfl rfl rfl rfl)
    first
      | apply ql_plain rfl (op_len_map Try.underlying23 rfl)
      | apply ql_plain rfl (op_len_slice Try.underlying23 rfl rfl)
      | apply ql_plain rfl (op_len_list Try.underlying23 rfl)
      | apply ql_plain rfl (op_len_v Try.underlying23 rfl)
      | apply ql_plain rfl (op_len_nil Try.underlying23 rfl)
    apply ql_plain rfl (op_add rfl rfl (by first | exact wrap_i64 (by omega) (by omega)))
    apply ql_plain rfl (op_move rfl)
    first
      | apply ql_plain rfl (op_nilCheck_rptr rfl)
      | apply ql_plain rfl (op_nilCheck_ptr rfl rfl)
    first
      | apply ql_plain rfl (op_field_rptr Try.underlying73 rfl info27 (by decide) rfl rfl)
      | apply ql_plain rfl (op_field_ptr Try.underlying73 rfl info27 (by decide) rfl rfl rfl)
    first
      | apply ql_plain rfl (op_field_rptr Try.underlying27 rfl info24 (by decide) rfl rfl)
      | apply ql_plain rfl (op_field_ptr Try.underlying27 rfl info24 (by decide) rfl rfl rfl)
    first
      | apply ql_plain rfl (op_load_rptr Try.underlying24 info24 rfl rfl)
      | apply ql_plain rfl (op_load_map Try.underlying24 info24 rfl rfl (by omega) rfl)
      | apply ql_plain rfl (op_load_ptr Try.underlying24 info24 rfl rfl rfl rfl)
    first
      | apply ql_plain rfl (op_len_map Try.underlying24 rfl)
      | apply ql_plain rfl (op_len_slice Try.underlying24 rfl rfl)
      | apply ql_plain rfl (op_len_list Try.underlying24 rfl)
      | apply ql_plain rfl (op_len_v Try.underlying24 rfl)
      | apply ql_plain rfl (op_len_nil Try.underlying24 rfl)
    apply ql_plain rfl (op_add rfl rfl (by first | exact wrap_i64 (by omega) (by omega)))
    apply ql_plain rfl (op_mul rfl rfl (by first | exact wrap_i64 (by omega) (by omega)))
    apply ql_plain rfl (op_assign rfl)
    exact ql_nil
  · simp
  refine aany_end rfl (by kernel_rfl) ?_
  refine aw_ret ?_
  refine ⟨_, res_1 rfl rfl, ?_⟩
  exact ⟨rfl, rfl⟩

theorem m_no (s : MS) (vm vg vt vr : Nat) (l : List Int) (hs : s.OK) (hl : l.length ≤ 140737488355328) : AC Try.prog 71 [.ptr 0 vm 0 0, .list 1 (l.map encI)] (mk0 s vm vg vt vr) (fun r σ' => r = .ret (.v (.int .i64 (s.no l))) ∧ σ' = mk0 s vm vg vt vr) := by
  refine ac_enter 31 Try.func71 rfl rfl (by simp) ?_
  refine aw_seq ?_
  refine aw_region ?_
  refine al_op (op_assign rfl) rfl (by simp) ?_
  refine al_nil ?_
  refine aw_seq ?_
  refine aw_seq ?_
  refine aw_region ?_
  refine al_op (op_move rfl) rfl (by simp) ?_
  first
    | refine al_op (op_pnil_ptr Try.underlying48 rfl rfl rfl) rfl (by simp) ?_
    | refine al_op (op_pnil_none Try.underlying48 rfl rfl) rfl (by simp) ?_
  refine al_op (op_move rfl) rfl (by simp) ?_
  apply al_or 6 9 15 rfl
  · intro h1; have gh1 := h1
    try simp only [decide_eq_true_eq, decide_eq_false_iff_not, Bool.not_eq_true', Bool.not_eq_false', beq_iff_eq, bne_iff_ne, beq_eq_false_iff_ne, bne_eq_false_iff_eq, Bool.or_eq_true, Bool.and_eq_true, Bool.or_eq_false_iff, gt_iff_lt, ge_iff_le] at h1
    refine al_take (op_move rfl) rfl rfl rfl rfl (by simp) ?_
    first
      | refine al_take (op_nilCheck_rptr rfl) rfl rfl rfl rfl (by simp) ?_
      | refine al_take (op_nilCheck_ptr rfl rfl) rfl rfl rfl rfl (by simp) ?_
    first
      | refine al_take (op_field_rptr Try.underlying73 rfl info4 (by decide) rfl rfl) rfl rfl rfl rfl (by simp) ?_
      | refine al_take (op_field_ptr Try.underlying73 rfl info4 (by decide) rfl rfl rfl) rfl rfl rfl rfl (by simp) ?_
    first
      | refine al_take (op_load_rptr Try.underlying4 info4 rfl rfl) rfl rfl rfl rfl (by simp) ?_
      | refine al_take (op_load_map Try.underlying4 info4 rfl rfl (by omega) rfl) rfl rfl rfl rfl (by simp) ?_
      | refine al_take (op_load_ptr Try.underlying4 info4 rfl rfl rfl rfl) rfl rfl rfl rfl (by simp) ?_
    refine al_take (op_not rfl) rfl rfl rfl rfl (by simp) ?_
    first
      | refine al_op (op_pick rfl rfl) rfl (by simp) ?_
      | refine al_op (op_or rfl rfl rfl) rfl (by simp) ?_
    refine al_nil ⟨rfl, rfl, rfl, keep_of ?_⟩
    repeat (first | exact subx_refl | exact subx_known rfl gh1 subx_refl | refine subx_put rfl ?_)
  · intro h1; have gh1 := h1
    try simp only [decide_eq_true_eq, decide_eq_false_iff_not, Bool.not_eq_true', Bool.not_eq_false', beq_iff_eq, bne_iff_ne, beq_eq_false_iff_ne, bne_eq_false_iff_eq, Bool.or_eq_true, Bool.and_eq_true, Bool.or_eq_false_iff, gt_iff_lt, ge_iff_le] at h1
    refine al_pass rfl rfl rfl rfl (by simp) ?_
    refine al_pass rfl rfl rfl rfl (by simp) ?_
    refine al_pass rfl rfl rfl rfl (by simp) ?_
    refine al_pass rfl rfl rfl rfl (by simp) ?_
    refine al_pass rfl rfl rfl rfl (by simp) ?_
    first
      | refine al_op (op_pick rfl rfl) rfl (by simp) ?_
      | refine al_op (op_or rfl rfl rfl) rfl (by simp) ?_
    refine al_nil ⟨rfl, rfl, rfl, keep_of ?_⟩
    repeat (first | exact subx_refl | exact subx_known rfl gh1 subx_refl | refine subx_put rfl ?_)
  refine al_nil ?_
  refine aw_cond rfl (fun h2 => ?_) (fun h2 => ?_)
  · have gh2 := h2
    try simp only [decide_eq_true_eq, decide_eq_false_iff_not, Bool.not_eq_true', Bool.not_eq_false', beq_iff_eq, bne_iff_ne, beq_eq_false_iff_ne, bne_eq_false_iff_eq, Bool.or_eq_true, Bool.and_eq_true, Bool.or_eq_false_iff, gt_iff_lt, ge_iff_le] at h2
    exact absurd gh2 (by decide)
  · have gh2 := h2
    try simp only [decide_eq_true_eq, decide_eq_false_iff_not, Bool.not_eq_true', Bool.not_eq_false', beq_iff_eq, bne_iff_ne, beq_eq_false_iff_ne, bne_eq_false_iff_eq, Bool.or_eq_true, Bool.and_eq_true, Bool.or_eq_false_iff, gt_iff_lt, ge_iff_le] at h2
    refine aw_skip ?_
    refine aw_seq ?_
    refine aw_seq ?_
    refine aw_region ?_
    refine al_op (op_move rfl) rfl (by simp) ?_
    first
      | refine al_op (op_len_map Try.underlying54 rfl) rfl (by simp) ?_
      | refine al_op (op_len_slice Try.underlying54 rfl rfl) rfl (by simp) ?_
      | refine al_op (op_len_list Try.underlying54 rfl) rfl (by simp) ?_
      | refine al_op (op_len_v Try.underlying54 rfl) rfl (by simp) ?_
      | refine al_op (op_len_nil Try.underlying54 rfl) rfl (by simp) ?_
    refine al_op (op_move rfl) rfl (by simp) ?_
    refine al_nil ?_
    refine aw_block ?_
    refine aw_forT (ι := Nat) [4, 18] [] (fun i => l.length - i) (fun i => i ≤ l.length ∧ allTo (s.litAt l) i = true) (fun i => ([(18, .v (.int .i64 (i)))] : Env)) (fun i s => s) (0) ?_ ?_ ?_ (fun i hinv => ?_)
    · exact ⟨Nat.zero_le _, rfl⟩
    · refine sub_cons (get_as rfl ?_) ?_; rotate_left; exact sub_nil
      all_goals (first | rfl | simp)
    · rfl
    have hi := hinv.1
    refine aw_seq ?_
    refine aw_region ?_
    refine al_op (op_lss rfl rfl) rfl (by simp) ?_
    refine al_nil ?_
    refine aw_seq ?_
    refine aw_cond rfl (fun h3 => ?_) (fun h3 => ?_)
    · have gh3 := h3
      try simp only [decide_eq_true_eq, decide_eq_false_iff_not, Bool.not_eq_true', Bool.not_eq_false', beq_iff_eq, bne_iff_ne, beq_eq_false_iff_ne, bne_eq_false_iff_eq, Bool.or_eq_true, Bool.and_eq_true, Bool.or_eq_false_iff, gt_iff_lt, ge_iff_le] at h3
      refine aw_skip ?_
      refine aw_seq ?_
      refine aw_block ?_
      refine aw_seq ?_
      refine aw_region ?_
      first
        | refine al_op (op_index_map default Try.underlying54 info3 rfl rfl rfl (by first | (with_reducible exact Int.toNat_natCast _) | rfl) (by omega) (by omega)) rfl (by simp) ?_
        | refine al_op (op_index_slice Try.underlying54 info3 rfl rfl rfl rfl (by omega) (by omega)) rfl (by simp) ?_
        | refine al_op (op_index_list Try.underlying54 info3 rfl rfl rfl (by decide) rfl) rfl (by simp) ?_
      first
        | refine al_op (op_load_rptr Try.underlying3 info3 rfl rfl) rfl (by simp) ?_
        | refine al_op (op_load_map Try.underlying3 info3 rfl rfl (by omega) rfl) rfl (by simp) ?_
        | refine al_op (op_load_ptr Try.underlying3 info3 rfl rfl rfl rfl) rfl (by simp) ?_
      refine al_op (op_assign rfl) rfl (by simp) ?_
      refine al_nil ?_
      refine aw_seq ?_
      refine aw_region ?_
      refine al_op (op_move rfl) rfl (by simp) ?_
      refine al_op (op_lss rfl rfl) rfl (by simp) ?_
      refine al_op (op_move rfl) rfl (by simp) ?_
      apply al_or 5 24 29 rfl
      · intro h4; have gh4 := h4
        try simp only [decide_eq_true_eq, decide_eq_false_iff_not, Bool.not_eq_true', Bool.not_eq_false', beq_iff_eq, bne_iff_ne, beq_eq_false_iff_ne, bne_eq_false_iff_eq, Bool.or_eq_true, Bool.and_eq_true, Bool.or_eq_false_iff, gt_iff_lt, ge_iff_le] at h4
        refine al_take (op_move rfl) rfl rfl rfl rfl (by simp) ?_
        refine al_take (op_move rfl) rfl rfl rfl rfl (by simp) ?_
        refine al_callp_take into72 rfl rfl rfl rfl rfl rfl (m_first _ _ _ _ _ (by assumption)) (by simp) ?_
        refine al_take (op_geq rfl rfl) rfl rfl rfl rfl (by simp) ?_
        first
          | refine al_op (op_pick rfl rfl) rfl (by simp) ?_
          | refine al_op (op_or rfl rfl rfl) rfl (by simp) ?_
        refine al_nil ⟨rfl, rfl, rfl, keep_of ?_⟩
        repeat (first | exact subx_refl | exact subx_known rfl gh4 subx_refl | refine subx_put rfl ?_)
      · intro h4; have gh4 := h4
        try simp only [decide_eq_true_eq, decide_eq_false_iff_not, Bool.not_eq_true', Bool.not_eq_false', beq_iff_eq, bne_iff_ne, beq_eq_false_iff_ne, bne_eq_false_iff_eq, Bool.or_eq_true, Bool.and_eq_true, Bool.or_eq_false_iff, gt_iff_lt, ge_iff_le] at h4
        refine al_pass rfl rfl rfl rfl (by simp) ?_
        refine al_pass rfl rfl rfl rfl (by simp) ?_
        refine al_pass rfl rfl rfl rfl (by simp) ?_
        refine al_pass rfl rfl rfl rfl (by simp) ?_
        first
          | refine al_op (op_pick rfl rfl) rfl (by simp) ?_
          | refine al_op (op_or rfl rfl rfl) rfl (by simp) ?_
        refine al_nil ⟨rfl, rfl, rfl, keep_of ?_⟩
        repeat (first | exact subx_refl | exact subx_known rfl gh4 subx_refl | refine subx_put rfl ?_)
      refine al_nil ?_
      refine aw_cond rfl (fun h5 => ?_) (fun h5 => ?_)
      · have gh5 := h5
        try simp only [decide_eq_true_eq, decide_eq_false_iff_not, Bool.not_eq_true', Bool.not_eq_false', beq_iff_eq, bne_iff_ne, beq_eq_false_iff_ne, bne_eq_false_iff_eq, Bool.or_eq_true, Bool.and_eq_true, Bool.or_eq_false_iff, gt_iff_lt, ge_iff_le] at h5
        refine aw_seq ?_
        refine aw_region ?_
        refine al_op (op_assign rfl) rfl (by simp) ?_
        refine al_nil ?_
        refine aw_ret ?_
        refine ⟨_, res_1 rfl rfl, ?_⟩
        rw [MS.no_bad i (by omega) (congrArg Bool.not gh5)]; exact ⟨rfl, rfl⟩
      · have gh5 := h5
        try simp only [decide_eq_true_eq, decide_eq_false_iff_not, Bool.not_eq_true', Bool.not_eq_false', beq_iff_eq, bne_iff_ne, beq_eq_false_iff_ne, bne_eq_false_iff_eq, Bool.or_eq_true, Bool.and_eq_true, Bool.or_eq_false_iff, gt_iff_lt, ge_iff_le] at h5
        refine aw_skip ?_
        refine aw_region ?_
        refine al_op (op_add rfl rfl (by first | exact wrap_i64 (by omega) (by omega))) rfl (by simp) ?_
        refine al_op (op_move rfl) rfl (by simp) ?_
        refine al_nil ?_
        refine ⟨i + 1, ?_, ?_, ?_, ?_, ?_⟩
        · omega
        · exact ⟨by omega, allTo_succ hinv.2 (congrArg Bool.not gh5)⟩
        · refine sub_cons (get_as rfl ?_) ?_; rotate_left; exact sub_nil
          all_goals (first | rfl | simp)
        · repeat (first | exact subx_refl | exact subx_del | refine subx_put rfl ?_)
        · rfl
    · have gh3 := h3
      try simp only [decide_eq_true_eq, decide_eq_false_iff_not, Bool.not_eq_true', Bool.not_eq_false', beq_iff_eq, bne_iff_ne, beq_eq_false_iff_ne, bne_eq_false_iff_eq, Bool.or_eq_true, Bool.and_eq_true, Bool.or_eq_false_iff, gt_iff_lt, ge_iff_le] at h3
      refine aw_exit ?_
      obtain rfl : i = l.length := by omega
      refine aw_seq ?_
      refine aw_region ?_
      refine al_op (op_assign rfl) rfl (by simp) ?_
      refine al_nil ?_
      refine aw_ret ?_
      refine ⟨_, res_1 rfl rfl, ?_⟩
      rw [MS.no_ok hinv.2]; exact ⟨rfl, rfl⟩
end Go.Proofs.Ytbpamlphacpkeaa
