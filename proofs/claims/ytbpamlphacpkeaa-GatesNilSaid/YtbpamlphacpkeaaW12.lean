/- Printed walks (gen.py, gates_ann.py): part 12. -/
import Derived.Test.YtbpamlphacpkeaaW11
import Derived.Test.YtbpamlphacpkeaaFacts
set_option linter.unusedVariables false
set_option linter.unusedSimpArgs false
set_option maxRecDepth 20000
namespace Go.Proofs.Ytbpamlphacpkeaa
open Go

theorem r_Names (l : List ByteArray) (hb : ∀ x ∈ l, x.size ≤ 140737488355328) : ACp Try.prog 61 [.list 1 (l.map encS)] (.v (.bool (okNames l))) := by
  refine acp_of rfl ?_
  refine ac_enter 34 Try.func61 rfl rfl (by simp) ?_
  refine aw_seq ?_
  refine aw_region ?_
  refine al_op (op_assign rfl) rfl (by simp) ?_
  refine al_nil ?_
  refine aw_seq ?_
  refine aw_seq ?_
  refine aw_region ?_
  refine al_op (op_move rfl) rfl (by simp) ?_
  first
    | refine al_op (op_len_map Try.underlying22 rfl) rfl (by simp) ?_
    | refine al_op (op_len_slice Try.underlying22 rfl rfl) rfl (by simp) ?_
    | refine al_op (op_len_list Try.underlying22 rfl) rfl (by simp) ?_
    | refine al_op (op_len_v Try.underlying22 rfl) rfl (by simp) ?_
    | refine al_op (op_len_nil Try.underlying22 rfl) rfl (by simp) ?_
  refine al_op (op_gtr rfl rfl) rfl (by simp) ?_
  refine al_nil ?_
  refine aw_cond rfl (fun h1 => ?_) (fun h1 => ?_)
  · have gh1 := h1
    try simp only [decide_eq_true_eq, decide_eq_false_iff_not, Bool.not_eq_true', Bool.not_eq_false', beq_iff_eq, bne_iff_ne, beq_eq_false_iff_ne, bne_eq_false_iff_eq, Bool.or_eq_true, Bool.and_eq_true, Bool.or_eq_false_iff, gt_iff_lt, ge_iff_le] at h1
    refine aw_seq ?_
    refine aw_region ?_
    refine al_op (op_assign rfl) rfl (by simp) ?_
    refine al_nil ?_
    refine aw_freeze (fun _ => false) (fsub_cons (t := 2) rfl (.leaf _ _ (.same _)) fsub_nil) ?_
    refine aw_ret ?_
    refine ⟨_, res_1 rfl rfl, ?_, rfl⟩
    rw [okNames_long (by simpa using h1)]
  · have gh1 := h1
    try simp only [decide_eq_true_eq, decide_eq_false_iff_not, Bool.not_eq_true', Bool.not_eq_false', beq_iff_eq, bne_iff_ne, beq_eq_false_iff_ne, bne_eq_false_iff_eq, Bool.or_eq_true, Bool.and_eq_true, Bool.or_eq_false_iff, gt_iff_lt, ge_iff_le] at h1
    refine aw_skip ?_
    refine aw_seq ?_
    refine aw_seq ?_
    refine aw_region ?_
    refine al_op (op_move rfl) rfl (by simp) ?_
    first
      | refine al_op (op_len_map Try.underlying22 rfl) rfl (by simp) ?_
      | refine al_op (op_len_slice Try.underlying22 rfl rfl) rfl (by simp) ?_
      | refine al_op (op_len_list Try.underlying22 rfl) rfl (by simp) ?_
      | refine al_op (op_len_v Try.underlying22 rfl) rfl (by simp) ?_
      | refine al_op (op_len_nil Try.underlying22 rfl) rfl (by simp) ?_
    refine al_op (op_move rfl) rfl (by simp) ?_
    refine al_nil ?_
    refine aw_block ?_
    refine aw_forT (ι := Nat) [2, 10] [] (fun i => l.length - i) (fun i => i ≤ l.length ∧ allTo (nameAt l) i = true) (fun i => ([(10, .v (.int .i64 (i)))] : Env)) (fun i s => s) (0) ?_ ?_ ?_ (fun i hinv => ?_)
    · exact ⟨Nat.zero_le _, rfl⟩
    · refine sub_cons (get_as rfl ?_) ?_; rotate_left; exact sub_nil
      all_goals (first | rfl | simp)
    · rfl
    have hi := hinv.1
    have hj := hinv.2
    clear hinv
    refine aw_seq ?_
    refine aw_region ?_
    refine al_op (op_lss rfl rfl) rfl (by simp) ?_
    refine al_nil ?_
    refine aw_seq ?_
    refine aw_cond rfl (fun h2 => ?_) (fun h2 => ?_)
    · have gh2 := h2
      try simp only [decide_eq_true_eq, decide_eq_false_iff_not, Bool.not_eq_true', Bool.not_eq_false', beq_iff_eq, bne_iff_ne, beq_eq_false_iff_ne, bne_eq_false_iff_eq, Bool.or_eq_true, Bool.and_eq_true, Bool.or_eq_false_iff, gt_iff_lt, ge_iff_le] at h2
      refine aw_skip ?_
      refine aw_seq ?_
      refine aw_block ?_
      refine aw_seq ?_
      refine aw_region ?_
      refine al_op (op_move rfl) rfl (by simp) ?_
      refine al_op (op_assign rfl) rfl (by simp) ?_
      refine al_nil ?_
      refine aw_seq ?_
      refine aw_seq ?_
      refine aw_region ?_
      refine al_op (op_move rfl) rfl (by simp) ?_
      refine al_op (op_move rfl) rfl (by simp) ?_
      first
        | refine al_op (op_index_map default Try.underlying22 info9 rfl rfl rfl (by first | (with_reducible exact Int.toNat_natCast _) | rfl) (by omega) (by omega)) rfl (by simp) ?_
        | refine al_op (op_index_slice Try.underlying22 info9 rfl rfl rfl rfl (by omega) (by omega)) rfl (by simp) ?_
        | refine al_op (op_index_list Try.underlying22 info9 rfl rfl rfl (by decide) rfl) rfl (by simp) ?_
      first
        | refine al_op (op_load_rptr Try.underlying9 info9 rfl rfl) rfl (by simp) ?_
        | refine al_op (op_load_map Try.underlying9 info9 rfl rfl (by omega) rfl) rfl (by simp) ?_
        | refine al_op (op_load_ptr Try.underlying9 info9 rfl rfl rfl rfl) rfl (by simp) ?_
      have hsz := hb _ (getD_mem (v := l) (i := i) (by omega))
      first
        | refine al_callp into91 rfl rfl rfl ((r_Name _ (by assumption)) _) (by simp) ?_
        | refine al_callp into91 rfl rfl rfl (acp_lent (lend_cons (by first | exact lend_same | exact .leaf _ _ (.vnil _) | exact .leaf _ _ (.nil _) | exact lend_whole rfl (by first | rfl | simp) (clo_map (fun _ => rfl))) lend_nil) (r_Name _ (by assumption)) rfl) (by simp) ?_
      refine al_op (op_not rfl) rfl (by simp) ?_
      refine al_nil ?_
      refine aw_cond rfl (fun h3 => ?_) (fun h3 => ?_)
      · have gh3 := h3
        try simp only [decide_eq_true_eq, decide_eq_false_iff_not, Bool.not_eq_true', Bool.not_eq_false', beq_iff_eq, bne_iff_ne, beq_eq_false_iff_ne, bne_eq_false_iff_eq, Bool.or_eq_true, Bool.and_eq_true, Bool.or_eq_false_iff, gt_iff_lt, ge_iff_le] at h3
        refine aw_seq ?_
        refine aw_region ?_
        refine al_op (op_assign rfl) rfl (by simp) ?_
        refine al_nil ?_
        refine aw_freeze (fun _ => false) (fsub_cons (t := 2) rfl (.leaf _ _ (.same _)) fsub_nil) ?_
        refine aw_ret ?_
        refine ⟨_, res_1 rfl rfl, ?_, rfl⟩
        rw [okNames_at i (by omega) (nameAt_bad (by simpa using gh3))]
      · have gh3 := h3
        try simp only [decide_eq_true_eq, decide_eq_false_iff_not, Bool.not_eq_true', Bool.not_eq_false', beq_iff_eq, bne_iff_ne, beq_eq_false_iff_ne, bne_eq_false_iff_eq, Bool.or_eq_true, Bool.and_eq_true, Bool.or_eq_false_iff, gt_iff_lt, ge_iff_le] at h3
        refine aw_skip ?_
        refine aw_seq ?_
        refine aw_region ?_
        refine al_op (op_assign rfl) rfl (by simp) ?_
        refine al_nil ?_
        refine aw_block ?_
        refine aw_forT (ι := Nat) [2, 4, 19, 20, 21, 22, 23, 24, 25, 26, 27, 28, 29, 30, 31, 32] [] (fun k => i - k) (fun k => k ≤ i ∧ allTo (fun k => !((l.getD k default).toList == (l.getD i default).toList)) k = true) (fun k => ([(4, .v (.int .i64 (k)))] : Env)) (fun k s => s) (0) ?_ ?_ ?_ (fun k hinv => ?_)
        · exact ⟨Nat.zero_le _, rfl⟩
        · refine sub_cons (get_as rfl ?_) ?_; rotate_left; exact sub_nil
          all_goals (first | rfl | simp)
        · rfl
        have hk := hinv.1
        refine aw_seq ?_
        refine aw_seq ?_
        refine aw_region ?_
        refine al_op (op_move rfl) rfl (by simp) ?_
        refine al_op (op_move rfl) rfl (by simp) ?_
        refine al_op (op_lss rfl rfl) rfl (by simp) ?_
        refine al_nil ?_
        refine aw_cond rfl (fun h4 => ?_) (fun h4 => ?_)
        · have gh4 := h4
          try simp only [decide_eq_true_eq, decide_eq_false_iff_not, Bool.not_eq_true', Bool.not_eq_false', beq_iff_eq, bne_iff_ne, beq_eq_false_iff_ne, bne_eq_false_iff_eq, Bool.or_eq_true, Bool.and_eq_true, Bool.or_eq_false_iff, gt_iff_lt, ge_iff_le] at h4
          refine aw_skip ?_
          refine aw_seq ?_
          refine aw_block ?_
          refine aw_seq ?_
          refine aw_any (Checked.mixed Try.checked) ?_
          apply aany_seg (p := 0) (q := 9) (by kernel_rfl) rfl (by decide)
          ·
            apply ql_plain rfl (op_move rfl)
            apply ql_plain rfl (op_move rfl)
            first
              | apply ql_plain rfl (op_index_map default Try.underlying22 info9 rfl rfl rfl (by first | (with_reducible exact Int.toNat_natCast _) | rfl) (by omega) (by omega))
              | apply ql_plain rfl (op_index_slice Try.underlying22 info9 rfl rfl rfl rfl (by omega) (by omega))
              | apply ql_plain rfl (op_index_list Try.underlying22 info9 rfl rfl rfl (by decide) rfl)
            first
              | apply ql_plain rfl (op_load_rptr Try.underlying9 info9 rfl rfl)
              | apply ql_plain rfl (op_load_map Try.underlying9 info9 rfl rfl (by omega) rfl)
              | apply ql_plain rfl (op_load_ptr Try.underlying9 info9 rfl rfl rfl rfl)
            apply ql_plain rfl (op_move rfl)
            apply ql_plain rfl (op_move rfl)
            first
              | apply ql_plain rfl (op_index_map default Try.underlying22 info9 rfl rfl rfl (by first | (with_reducible exact Int.toNat_natCast _) | rfl) (by omega) (by omega))
              | apply ql_plain rfl (op_index_slice Try.underlying22 info9 rfl rfl rfl rfl (by omega) (by omega))
              | apply ql_plain rfl (op_index_list Try.underlying22 info9 rfl rfl rfl (by decide) rfl)
            first
              | apply ql_plain rfl (op_load_rptr Try.underlying9 info9 rfl rfl)
              | apply ql_plain rfl (op_load_map Try.underlying9 info9 rfl rfl (by omega) rfl)
              | apply ql_plain rfl (op_load_ptr Try.underlying9 info9 rfl rfl rfl rfl)
            apply ql_plain rfl (op_seql rfl rfl)
            exact ql_nil
          · simp
          refine aany_end rfl (by kernel_rfl) ?_
          refine aw_cond rfl (fun h5 => ?_) (fun h5 => ?_)
          · have gh5 := h5
            try simp only [decide_eq_true_eq, decide_eq_false_iff_not, Bool.not_eq_true', Bool.not_eq_false', beq_iff_eq, bne_iff_ne, beq_eq_false_iff_ne, bne_eq_false_iff_eq, Bool.or_eq_true, Bool.and_eq_true, Bool.or_eq_false_iff, gt_iff_lt, ge_iff_le] at h5
            refine aw_seq ?_
            refine aw_region ?_
            refine al_op (op_assign rfl) rfl (by simp) ?_
            refine al_nil ?_
            refine aw_freeze (fun _ => false) (fsub_cons (t := 2) rfl (.leaf _ _ (.same _)) fsub_nil) ?_
            refine aw_ret ?_
            refine ⟨_, res_1 rfl rfl, ?_, rfl⟩
            rw [okNames_at i (by omega) (nameAt_twice k (by omega) gh5)]
          · have gh5 := h5
            try simp only [decide_eq_true_eq, decide_eq_false_iff_not, Bool.not_eq_true', Bool.not_eq_false', beq_iff_eq, bne_iff_ne, beq_eq_false_iff_ne, bne_eq_false_iff_eq, Bool.or_eq_true, Bool.and_eq_true, Bool.or_eq_false_iff, gt_iff_lt, ge_iff_le] at h5
            refine aw_skip ?_
            refine aw_region ?_
            refine al_op (op_move rfl) rfl (by simp) ?_
            refine al_op (op_add rfl rfl (by first | exact wrap_i64 (by omega) (by omega))) rfl (by simp) ?_
            refine al_op (op_assign rfl) rfl (by simp) ?_
            refine al_nil ?_
            refine ⟨k + 1, ?_, ?_, ?_, ?_, ?_⟩
            · omega
            · exact ⟨by omega, allTo_succ hinv.2 (congrArg Bool.not gh5)⟩
            · refine sub_cons (get_as rfl ?_) ?_; rotate_left; exact sub_nil
              all_goals (first | rfl | simp)
            · repeat (first | exact subx_refl | exact subx_del | refine subx_put rfl ?_)
            · rfl
        · have gh4 := h4
          try simp only [decide_eq_true_eq, decide_eq_false_iff_not, Bool.not_eq_true', Bool.not_eq_false', beq_iff_eq, bne_iff_ne, beq_eq_false_iff_ne, bne_eq_false_iff_eq, Bool.or_eq_true, Bool.and_eq_true, Bool.or_eq_false_iff, gt_iff_lt, ge_iff_le] at h4
          refine aw_exit ?_
          obtain rfl : i = k := by omega
          have a4 := hinv.2
          clear hinv
          refine aw_region ?_
          refine al_op (op_add rfl rfl (by first | exact wrap_i64 (by omega) (by omega))) rfl (by simp) ?_
          refine al_op (op_move rfl) rfl (by simp) ?_
          refine al_nil ?_
          refine ⟨i + 1, ?_, ?_, ?_, ?_, ?_⟩
          · omega
          · exact ⟨by omega, allTo_succ hj (nameAt_ok (by simpa using gh3) a4)⟩
          · refine sub_cons (get_as rfl ?_) ?_; rotate_left; exact sub_nil
            all_goals (first | rfl | simp)
          · repeat (first | exact subx_refl | exact subx_del | refine subx_put rfl ?_)
          · rfl
    · have gh2 := h2
      try simp only [decide_eq_true_eq, decide_eq_false_iff_not, Bool.not_eq_true', Bool.not_eq_false', beq_iff_eq, bne_iff_ne, beq_eq_false_iff_ne, bne_eq_false_iff_eq, Bool.or_eq_true, Bool.and_eq_true, Bool.or_eq_false_iff, gt_iff_lt, ge_iff_le] at h2
      refine aw_exit ?_
      obtain rfl : i = l.length := by omega
      refine aw_seq ?_
      refine aw_region ?_
      refine al_op (op_assign rfl) rfl (by simp) ?_
      refine al_nil ?_
      refine aw_freeze (fun _ => false) (fsub_cons (t := 2) rfl (.leaf _ _ (.same _)) fsub_nil) ?_
      refine aw_ret ?_
      refine ⟨_, res_1 rfl rfl, ?_, rfl⟩
      rw [okNames_all (by simpa using h1) hj]

theorem r_fits (l : List Int) (m : Nat) (hl : l.length ≤ 140737488355328) (h0 : ∀ x ∈ l, 0 ≤ x ∧ x ≤ 255) : ACp Try.prog 58 [.list 1 (l.map encB), .v (.int .i64 ((m : Int)))] (.v (.bool (bitsOK l m))) := by
  refine acp_of rfl ?_
  refine ac_enter 21 Try.func58 rfl rfl (by simp) ?_
  refine aw_seq ?_
  refine aw_region ?_
  refine al_op (op_assign rfl) rfl (by simp) ?_
  refine al_nil ?_
  refine aw_seq ?_
  refine aw_seq ?_
  refine aw_region ?_
  refine al_op (op_move rfl) rfl (by simp) ?_
  first
    | refine al_op (op_len_map Try.underlying28 rfl) rfl (by simp) ?_
    | refine al_op (op_len_slice Try.underlying28 rfl rfl) rfl (by simp) ?_
    | refine al_op (op_len_list Try.underlying28 rfl) rfl (by simp) ?_
    | refine al_op (op_len_v Try.underlying28 rfl) rfl (by simp) ?_
    | refine al_op (op_len_nil Try.underlying28 rfl) rfl (by simp) ?_
  refine al_op (op_move rfl) rfl (by simp) ?_
  refine al_op (op_neq rfl rfl) rfl (by simp) ?_
  refine al_nil ?_
  refine aw_cond rfl (fun h1 => ?_) (fun h1 => ?_)
  · have gh1 := h1
    try simp only [decide_eq_true_eq, decide_eq_false_iff_not, Bool.not_eq_true', Bool.not_eq_false', beq_iff_eq, bne_iff_ne, beq_eq_false_iff_ne, bne_eq_false_iff_eq, Bool.or_eq_true, Bool.and_eq_true, Bool.or_eq_false_iff, gt_iff_lt, ge_iff_le] at h1
    refine aw_seq ?_
    refine aw_region ?_
    refine al_op (op_assign rfl) rfl (by simp) ?_
    refine al_nil ?_
    refine aw_freeze (fun _ => false) (fsub_cons (t := 4) rfl (.leaf _ _ (.same _)) fsub_nil) ?_
    refine aw_ret ?_
    refine ⟨_, res_1 rfl rfl, ?_, rfl⟩
    rw [bits_length gh1]
  · have gh1 := h1
    try simp only [decide_eq_true_eq, decide_eq_false_iff_not, Bool.not_eq_true', Bool.not_eq_false', beq_iff_eq, bne_iff_ne, beq_eq_false_iff_ne, bne_eq_false_iff_eq, Bool.or_eq_true, Bool.and_eq_true, Bool.or_eq_false_iff, gt_iff_lt, ge_iff_le] at h1
    refine aw_skip ?_
    refine aw_seq ?_
    refine aw_seq ?_
    refine aw_region ?_
    refine al_op (op_move rfl) rfl (by simp) ?_
    first
      | refine al_op (op_len_map Try.underlying28 rfl) rfl (by simp) ?_
      | refine al_op (op_len_slice Try.underlying28 rfl rfl) rfl (by simp) ?_
      | refine al_op (op_len_list Try.underlying28 rfl) rfl (by simp) ?_
      | refine al_op (op_len_v Try.underlying28 rfl) rfl (by simp) ?_
      | refine al_op (op_len_nil Try.underlying28 rfl) rfl (by simp) ?_
    refine al_op (op_move rfl) rfl (by simp) ?_
    refine al_nil ?_
    refine aw_block ?_
    refine aw_forT (ι := Nat) [4, 13] [] (fun i => l.length - i) (fun i => i ≤ l.length ∧ allTo (fun k => known (l.getD k default)) i = true) (fun i => ([(13, .v (.int .i64 (i)))] : Env)) (fun i s => s) (0) ?_ ?_ ?_ (fun i hinv => ?_)
    · exact ⟨Nat.zero_le _, rfl⟩
    · refine sub_cons (get_as rfl ?_) ?_; rotate_left; exact sub_nil
      all_goals (first | rfl | simp)
    · rfl
    have hi := hinv.1
    refine aw_seq ?_
    refine aw_region ?_
    refine al_op (op_lss rfl rfl) rfl (by simp) ?_
    refine al_nil ?_
    refine aw_seq ?_
    refine aw_cond rfl (fun h2 => ?_) (fun h2 => ?_)
    · have gh2 := h2
      try simp only [decide_eq_true_eq, decide_eq_false_iff_not, Bool.not_eq_true', Bool.not_eq_false', beq_iff_eq, bne_iff_ne, beq_eq_false_iff_ne, bne_eq_false_iff_eq, Bool.or_eq_true, Bool.and_eq_true, Bool.or_eq_false_iff, gt_iff_lt, ge_iff_le] at h2
      refine aw_skip ?_
      refine aw_seq ?_
      refine aw_block ?_
      refine aw_seq ?_
      refine aw_region ?_
      first
        | refine al_op (op_index_map default Try.underlying28 info65 rfl rfl rfl (by first | (with_reducible exact Int.toNat_natCast _) | rfl) (by omega) (by omega)) rfl (by simp) ?_
        | refine al_op (op_index_slice Try.underlying28 info65 rfl rfl rfl rfl (by omega) (by omega)) rfl (by simp) ?_
        | refine al_op (op_index_list Try.underlying28 info65 rfl rfl rfl (by decide) rfl) rfl (by simp) ?_
      first
        | refine al_op (op_load_rptr Try.underlying65 info65 rfl rfl) rfl (by simp) ?_
        | refine al_op (op_load_map Try.underlying65 info65 rfl rfl (by omega) rfl) rfl (by simp) ?_
        | refine al_op (op_load_ptr Try.underlying65 info65 rfl rfl rfl rfl) rfl (by simp) ?_
      refine al_op (op_assign rfl) rfl (by simp) ?_
      refine al_nil ?_
      refine aw_seq ?_
      refine aw_region ?_
      refine al_op (op_move rfl) rfl (by simp) ?_
      first
        | refine al_callp into60 rfl rfl rfl ((r_known _) _) (by simp) ?_
        | refine al_callp into60 rfl rfl rfl (acp_lent (lend_cons (by first | exact lend_same | exact .leaf _ _ (.vnil _) | exact .leaf _ _ (.nil _) | exact lend_whole rfl (by first | rfl | simp) (clo_map (fun _ => rfl))) lend_nil) (r_known _) rfl) (by simp) ?_
      refine al_op (op_not rfl) rfl (by simp) ?_
      refine al_nil ?_
      refine aw_cond rfl (fun h3 => ?_) (fun h3 => ?_)
      · have gh3 := h3
        try simp only [decide_eq_true_eq, decide_eq_false_iff_not, Bool.not_eq_true', Bool.not_eq_false', beq_iff_eq, bne_iff_ne, beq_eq_false_iff_ne, bne_eq_false_iff_eq, Bool.or_eq_true, Bool.and_eq_true, Bool.or_eq_false_iff, gt_iff_lt, ge_iff_le] at h3
        refine aw_seq ?_
        refine aw_region ?_
        refine al_op (op_assign rfl) rfl (by simp) ?_
        refine al_nil ?_
        refine aw_freeze (fun _ => false) (fsub_cons (t := 4) rfl (.leaf _ _ (.same _)) fsub_nil) ?_
        refine aw_ret ?_
        refine ⟨_, res_1 rfl rfl, ?_, rfl⟩
        rw [bits_unknown h0 i (by omega) (by simpa using gh3)]
      · have gh3 := h3
        try simp only [decide_eq_true_eq, decide_eq_false_iff_not, Bool.not_eq_true', Bool.not_eq_false', beq_iff_eq, bne_iff_ne, beq_eq_false_iff_ne, bne_eq_false_iff_eq, Bool.or_eq_true, Bool.and_eq_true, Bool.or_eq_false_iff, gt_iff_lt, ge_iff_le] at h3
        refine aw_skip ?_
        refine aw_region ?_
        refine al_op (op_add rfl rfl (by first | exact wrap_i64 (by omega) (by omega))) rfl (by simp) ?_
        refine al_op (op_move rfl) rfl (by simp) ?_
        refine al_nil ?_
        refine ⟨i + 1, ?_, ?_, ?_, ?_, ?_⟩
        · omega
        · exact ⟨by omega, allTo_succ hinv.2 (by simpa using gh3)⟩
        · refine sub_cons (get_as rfl ?_) ?_; rotate_left; exact sub_nil
          all_goals (first | rfl | simp)
        · repeat (first | exact subx_refl | exact subx_del | refine subx_put rfl ?_)
        · rfl
    · have gh2 := h2
      try simp only [decide_eq_true_eq, decide_eq_false_iff_not, Bool.not_eq_true', Bool.not_eq_false', beq_iff_eq, bne_iff_ne, beq_eq_false_iff_ne, bne_eq_false_iff_eq, Bool.or_eq_true, Bool.and_eq_true, Bool.or_eq_false_iff, gt_iff_lt, ge_iff_le] at h2
      refine aw_exit ?_
      obtain rfl : i = l.length := by omega
      refine aw_seq ?_
      refine aw_region ?_
      refine al_op (op_assign rfl) rfl (by simp) ?_
      refine al_nil ?_
      refine aw_freeze (fun _ => false) (fsub_cons (t := 4) rfl (.leaf _ _ (.same _)) fsub_nil) ?_
      refine aw_ret ?_
      refine ⟨_, res_1 rfl rfl, ?_, rfl⟩
      rw [bits_known h0 (by omega) hinv.2]

theorem r_SameBits (l m : List Int) (hl : l.length ≤ 140737488355328) : ACp Try.prog 20 [.list 1 (l.map encB), .list 1 (m.map encB)] (.v (.bool (sameBits l m))) := by
  refine acp_of rfl ?_
  refine ac_enter 26 Try.func20 rfl rfl (by simp) ?_
  refine aw_seq ?_
  refine aw_region ?_
  refine al_op (op_assign rfl) rfl (by simp) ?_
  refine al_nil ?_
  refine aw_seq ?_
  refine aw_seq ?_
  refine aw_region ?_
  refine al_op (op_move rfl) rfl (by simp) ?_
  first
    | refine al_op (op_len_map Try.underlying28 rfl) rfl (by simp) ?_
    | refine al_op (op_len_slice Try.underlying28 rfl rfl) rfl (by simp) ?_
    | refine al_op (op_len_list Try.underlying28 rfl) rfl (by simp) ?_
    | refine al_op (op_len_v Try.underlying28 rfl) rfl (by simp) ?_
    | refine al_op (op_len_nil Try.underlying28 rfl) rfl (by simp) ?_
  refine al_op (op_move rfl) rfl (by simp) ?_
  first
    | refine al_op (op_len_map Try.underlying28 rfl) rfl (by simp) ?_
    | refine al_op (op_len_slice Try.underlying28 rfl rfl) rfl (by simp) ?_
    | refine al_op (op_len_list Try.underlying28 rfl) rfl (by simp) ?_
    | refine al_op (op_len_v Try.underlying28 rfl) rfl (by simp) ?_
    | refine al_op (op_len_nil Try.underlying28 rfl) rfl (by simp) ?_
  refine al_op (op_neq rfl rfl) rfl (by simp) ?_
  refine al_nil ?_
  refine aw_cond rfl (fun h1 => ?_) (fun h1 => ?_)
  · have gh1 := h1
    try simp only [decide_eq_true_eq, decide_eq_false_iff_not, Bool.not_eq_true', Bool.not_eq_false', beq_iff_eq, bne_iff_ne, beq_eq_false_iff_ne, bne_eq_false_iff_eq, Bool.or_eq_true, Bool.and_eq_true, Bool.or_eq_false_iff, gt_iff_lt, ge_iff_le] at h1
    refine aw_seq ?_
    refine aw_region ?_
    refine al_op (op_assign rfl) rfl (by simp) ?_
    refine al_nil ?_
    refine aw_freeze (fun _ => false) (fsub_cons (t := 4) rfl (.leaf _ _ (.same _)) fsub_nil) ?_
    refine aw_ret ?_
    refine ⟨_, res_1 rfl rfl, ?_, rfl⟩
    rw [sameBits, show ((l.length : Int) == m.length) = false from by simpa using gh1]; rfl
  · have gh1 := h1
    try simp only [decide_eq_true_eq, decide_eq_false_iff_not, Bool.not_eq_true', Bool.not_eq_false', beq_iff_eq, bne_iff_ne, beq_eq_false_iff_ne, bne_eq_false_iff_eq, Bool.or_eq_true, Bool.and_eq_true, Bool.or_eq_false_iff, gt_iff_lt, ge_iff_le] at h1
    refine aw_skip ?_
    refine aw_seq ?_
    refine aw_seq ?_
    refine aw_region ?_
    refine al_op (op_move rfl) rfl (by simp) ?_
    first
      | refine al_op (op_len_map Try.underlying28 rfl) rfl (by simp) ?_
      | refine al_op (op_len_slice Try.underlying28 rfl rfl) rfl (by simp) ?_
      | refine al_op (op_len_list Try.underlying28 rfl) rfl (by simp) ?_
      | refine al_op (op_len_v Try.underlying28 rfl) rfl (by simp) ?_
      | refine al_op (op_len_nil Try.underlying28 rfl) rfl (by simp) ?_
    refine al_op (op_move rfl) rfl (by simp) ?_
    refine al_nil ?_
    refine aw_block ?_
    refine aw_forT (ι := Nat) [4, 13] [] (fun i => l.length - i) (fun i => i ≤ l.length ∧ allTo (fun i => (l.getD i default) == (m.getD i default)) i = true) (fun i => ([(13, .v (.int .i64 (i)))] : Env)) (fun i s => s) (0) ?_ ?_ ?_ (fun i hinv => ?_)
    · exact ⟨Nat.zero_le _, rfl⟩
    · refine sub_cons (get_as rfl ?_) ?_; rotate_left; exact sub_nil
      all_goals (first | rfl | simp)
    · rfl
    have hi := hinv.1
    refine aw_seq ?_
    refine aw_region ?_
    refine al_op (op_lss rfl rfl) rfl (by simp) ?_
    refine al_nil ?_
    refine aw_seq ?_
    refine aw_cond rfl (fun h2 => ?_) (fun h2 => ?_)
    · have gh2 := h2
      try simp only [decide_eq_true_eq, decide_eq_false_iff_not, Bool.not_eq_true', Bool.not_eq_false', beq_iff_eq, bne_iff_ne, beq_eq_false_iff_ne, bne_eq_false_iff_eq, Bool.or_eq_true, Bool.and_eq_true, Bool.or_eq_false_iff, gt_iff_lt, ge_iff_le] at h2
      refine aw_skip ?_
      refine aw_seq ?_
      refine aw_block ?_
      refine aw_seq ?_
      refine aw_region ?_
      refine al_op (op_move rfl) rfl (by simp) ?_
      refine al_op (op_assign rfl) rfl (by simp) ?_
      refine al_nil ?_
      refine aw_seq ?_
      refine aw_any (Checked.mixed Try.checked) ?_
      apply aany_seg (p := 0) (q := 9) (by kernel_rfl) rfl (by decide)
      ·
        apply ql_plain rfl (op_move rfl)
        apply ql_plain rfl (op_move rfl)
        first
          | apply ql_plain rfl (op_index_map default Try.underlying28 info65 rfl rfl rfl (by first | (with_reducible exact Int.toNat_natCast _) | rfl) (by omega) (by omega))
          | apply ql_plain rfl (op_index_slice Try.underlying28 info65 rfl rfl rfl rfl (by omega) (by omega))
          | apply ql_plain rfl (op_index_list Try.underlying28 info65 rfl rfl rfl (by decide) rfl)
        first
          | apply ql_plain rfl (op_load_rptr Try.underlying65 info65 rfl rfl)
          | apply ql_plain rfl (op_load_map Try.underlying65 info65 rfl rfl (by omega) rfl)
          | apply ql_plain rfl (op_load_ptr Try.underlying65 info65 rfl rfl rfl rfl)
        apply ql_plain rfl (op_move rfl)
        apply ql_plain rfl (op_move rfl)
        first
          | apply ql_plain rfl (op_index_map default Try.underlying28 info65 rfl rfl rfl (by first | (with_reducible exact Int.toNat_natCast _) | rfl) (by omega) (by omega))
          | apply ql_plain rfl (op_index_slice Try.underlying28 info65 rfl rfl rfl rfl (by omega) (by omega))
          | apply ql_plain rfl (op_index_list Try.underlying28 info65 rfl rfl rfl (by decide) rfl)
        first
          | apply ql_plain rfl (op_load_rptr Try.underlying65 info65 rfl rfl)
          | apply ql_plain rfl (op_load_map Try.underlying65 info65 rfl rfl (by omega) rfl)
          | apply ql_plain rfl (op_load_ptr Try.underlying65 info65 rfl rfl rfl rfl)
        apply ql_plain rfl (op_neq rfl rfl)
        exact ql_nil
      · simp
      refine aany_end rfl (by kernel_rfl) ?_
      refine aw_cond rfl (fun h3 => ?_) (fun h3 => ?_)
      · have gh3 := h3
        try simp only [decide_eq_true_eq, decide_eq_false_iff_not, Bool.not_eq_true', Bool.not_eq_false', beq_iff_eq, bne_iff_ne, beq_eq_false_iff_ne, bne_eq_false_iff_eq, Bool.or_eq_true, Bool.and_eq_true, Bool.or_eq_false_iff, gt_iff_lt, ge_iff_le] at h3
        refine aw_seq ?_
        refine aw_region ?_
        refine al_op (op_assign rfl) rfl (by simp) ?_
        refine al_nil ?_
        refine aw_freeze (fun _ => false) (fsub_cons (t := 4) rfl (.leaf _ _ (.same _)) fsub_nil) ?_
        refine aw_ret ?_
        refine ⟨_, res_1 rfl rfl, ?_, rfl⟩
        rw [sameBits, allTo_false i (by omega) (by simpa using gh3), Bool.and_false]
      · have gh3 := h3
        try simp only [decide_eq_true_eq, decide_eq_false_iff_not, Bool.not_eq_true', Bool.not_eq_false', beq_iff_eq, bne_iff_ne, beq_eq_false_iff_ne, bne_eq_false_iff_eq, Bool.or_eq_true, Bool.and_eq_true, Bool.or_eq_false_iff, gt_iff_lt, ge_iff_le] at h3
        refine aw_skip ?_
        refine aw_region ?_
        refine al_op (op_add rfl rfl (by first | exact wrap_i64 (by omega) (by omega))) rfl (by simp) ?_
        refine al_op (op_move rfl) rfl (by simp) ?_
        refine al_nil ?_
        refine ⟨i + 1, ?_, ?_, ?_, ?_, ?_⟩
        · omega
        · exact ⟨by omega, allTo_succ hinv.2 (by simpa using gh3)⟩
        · refine sub_cons (get_as rfl ?_) ?_; rotate_left; exact sub_nil
          all_goals (first | rfl | simp)
        · repeat (first | exact subx_refl | exact subx_del | refine subx_put rfl ?_)
        · rfl
    · have gh2 := h2
      try simp only [decide_eq_true_eq, decide_eq_false_iff_not, Bool.not_eq_true', Bool.not_eq_false', beq_iff_eq, bne_iff_ne, beq_eq_false_iff_ne, bne_eq_false_iff_eq, Bool.or_eq_true, Bool.and_eq_true, Bool.or_eq_false_iff, gt_iff_lt, ge_iff_le] at h2
      refine aw_exit ?_
      obtain rfl : i = l.length := by omega
      refine aw_seq ?_
      refine aw_region ?_
      refine al_op (op_assign rfl) rfl (by simp) ?_
      refine al_nil ?_
      refine aw_freeze (fun _ => false) (fsub_cons (t := 4) rfl (.leaf _ _ (.same _)) fsub_nil) ?_
      refine aw_ret ?_
      refine ⟨_, res_1 rfl rfl, ?_, rfl⟩
      rw [sameBits, hinv.2, Bool.and_true, show ((l.length : Int) == m.length) = true from by simpa using gh1]

theorem l_few (n : Net) (hn : n.Small) : ACp Try.prog 14 [encN n] (.v (.bool (few n))) := by
  refine acp_of rfl ?_
  have b4 := hn.insL
  have b5 := hn.regsL
  have b6 := hn.outsL
  refine ac_enter 21 Try.func14 rfl rfl (by simp) ?_
  refine aw_seq ?_
  refine aw_region ?_
  (refine al_opR (op_box 1 rfl rfl (by first | rfl | exact live_one rfl | (repeat (first | exact all_live_nil | refine all_live_clo rfl ?_ | refine all_live_slice rfl ?_ | refine all_live_map rfl ?_ | refine all_live_ptr rfl ?_)))) rfl (by simp) ?_; rintro _ _ ⟨ver1, rfl, rfl⟩)
  refine al_op (op_assign rfl) rfl (by simp) ?_
  refine al_nil ?_
  refine aw_seq ?_
  refine aw_region ?_
  first
    | refine al_op (op_field_rptr Try.underlying27 rfl info22 (by decide) rfl rfl) rfl (by simp) ?_
    | refine al_op (op_field_ptr Try.underlying27 rfl info22 (by decide) rfl rfl rfl) rfl (by simp) ?_
  first
    | refine al_op (op_load_rptr Try.underlying22 info22 rfl rfl) rfl (by simp) ?_
    | refine al_op (op_load_map Try.underlying22 info22 rfl rfl (by omega) rfl) rfl (by simp) ?_
    | refine al_op (op_load_ptr Try.underlying22 info22 rfl rfl rfl rfl) rfl (by simp) ?_
  first
    | refine al_op (op_len_map Try.underlying22 rfl) rfl (by simp) ?_
    | refine al_op (op_len_slice Try.underlying22 rfl rfl) rfl (by simp) ?_
    | refine al_op (op_len_list Try.underlying22 rfl) rfl (by simp) ?_
    | refine al_op (op_len_v Try.underlying22 rfl) rfl (by simp) ?_
    | refine al_op (op_len_nil Try.underlying22 rfl) rfl (by simp) ?_
  first
    | refine al_op (op_field_rptr Try.underlying27 rfl info23 (by decide) rfl rfl) rfl (by simp) ?_
    | refine al_op (op_field_ptr Try.underlying27 rfl info23 (by decide) rfl rfl rfl) rfl (by simp) ?_
  first
    | refine al_op (op_load_rptr Try.underlying23 info23 rfl rfl) rfl (by simp) ?_
    | refine al_op (op_load_map Try.underlying23 info23 rfl rfl (by omega) rfl) rfl (by simp) ?_
    | refine al_op (op_load_ptr Try.underlying23 info23 rfl rfl rfl rfl) rfl (by simp) ?_
  first
    | refine al_op (op_len_map Try.underlying23 rfl) rfl (by simp) ?_
    | refine al_op (op_len_slice Try.underlying23 rfl rfl) rfl (by simp) ?_
    | refine al_op (op_len_list Try.underlying23 rfl) rfl (by simp) ?_
    | refine al_op (op_len_v Try.underlying23 rfl) rfl (by simp) ?_
    | refine al_op (op_len_nil Try.underlying23 rfl) rfl (by simp) ?_
  refine al_op (op_add rfl rfl (by first | exact wrap_i64 (by omega) (by omega))) rfl (by simp) ?_
  first
    | refine al_op (op_field_rptr Try.underlying27 rfl info25 (by decide) rfl rfl) rfl (by simp) ?_
    | refine al_op (op_field_ptr Try.underlying27 rfl info25 (by decide) rfl rfl rfl) rfl (by simp) ?_
  first
    | refine al_op (op_load_rptr Try.underlying25 info25 rfl rfl) rfl (by simp) ?_
    | refine al_op (op_load_map Try.underlying25 info25 rfl rfl (by omega) rfl) rfl (by simp) ?_
    | refine al_op (op_load_ptr Try.underlying25 info25 rfl rfl rfl rfl) rfl (by simp) ?_
  first
    | refine al_op (op_len_map Try.underlying25 rfl) rfl (by simp) ?_
    | refine al_op (op_len_slice Try.underlying25 rfl rfl) rfl (by simp) ?_
    | refine al_op (op_len_list Try.underlying25 rfl) rfl (by simp) ?_
    | refine al_op (op_len_v Try.underlying25 rfl) rfl (by simp) ?_
    | refine al_op (op_len_nil Try.underlying25 rfl) rfl (by simp) ?_
  refine al_op (op_add rfl rfl (by first | exact wrap_i64 (by omega) (by omega))) rfl (by simp) ?_
  refine al_op (op_leq rfl rfl) rfl (by simp) ?_
  refine al_op (op_move rfl) rfl (by simp) ?_
  apply al_and 5 15 20 rfl
  · intro h1; have gh1 := h1
    try simp only [decide_eq_true_eq, decide_eq_false_iff_not, Bool.not_eq_true', Bool.not_eq_false', beq_iff_eq, bne_iff_ne, beq_eq_false_iff_ne, bne_eq_false_iff_eq, Bool.or_eq_true, Bool.and_eq_true, Bool.or_eq_false_iff, gt_iff_lt, ge_iff_le] at h1
    first
      | refine al_take (op_field_rptr Try.underlying27 rfl info24 (by decide) rfl rfl) rfl rfl rfl rfl (by simp) ?_
      | refine al_take (op_field_ptr Try.underlying27 rfl info24 (by decide) rfl rfl rfl) rfl rfl rfl rfl (by simp) ?_
    first
      | refine al_take (op_load_rptr Try.underlying24 info24 rfl rfl) rfl rfl rfl rfl (by simp) ?_
      | refine al_take (op_load_map Try.underlying24 info24 rfl rfl (by omega) rfl) rfl rfl rfl rfl (by simp) ?_
      | refine al_take (op_load_ptr Try.underlying24 info24 rfl rfl rfl rfl) rfl rfl rfl rfl (by simp) ?_
    first
      | refine al_take (op_len_map Try.underlying24 rfl) rfl rfl rfl rfl (by simp) ?_
      | refine al_take (op_len_slice Try.underlying24 rfl rfl) rfl rfl rfl rfl (by simp) ?_
      | refine al_take (op_len_list Try.underlying24 rfl) rfl rfl rfl rfl (by simp) ?_
      | refine al_take (op_len_v Try.underlying24 rfl) rfl rfl rfl rfl (by simp) ?_
      | refine al_take (op_len_nil Try.underlying24 rfl) rfl rfl rfl rfl (by simp) ?_
    refine al_take (op_leq rfl rfl) rfl rfl rfl rfl (by simp) ?_
    first
      | refine al_op (op_pick rfl rfl) rfl (by simp) ?_
      | refine al_op (op_and rfl rfl rfl) rfl (by simp) ?_
    refine al_nil ⟨rfl, rfl, rfl, keep_of ?_⟩
    repeat (first | exact subx_refl | exact subx_known rfl gh1 subx_refl | refine subx_put rfl ?_)
  · intro h1; have gh1 := h1
    try simp only [decide_eq_true_eq, decide_eq_false_iff_not, Bool.not_eq_true', Bool.not_eq_false', beq_iff_eq, bne_iff_ne, beq_eq_false_iff_ne, bne_eq_false_iff_eq, Bool.or_eq_true, Bool.and_eq_true, Bool.or_eq_false_iff, gt_iff_lt, ge_iff_le] at h1
    refine al_pass rfl rfl rfl rfl (by simp) ?_
    refine al_pass rfl rfl rfl rfl (by simp) ?_
    refine al_pass rfl rfl rfl rfl (by simp) ?_
    refine al_pass rfl rfl rfl rfl (by simp) ?_
    first
      | refine al_op (op_pick rfl rfl) rfl (by simp) ?_
      | refine al_op (op_and rfl rfl rfl) rfl (by simp) ?_
    refine al_nil ⟨rfl, rfl, rfl, keep_of ?_⟩
    repeat (first | exact subx_refl | exact subx_known rfl gh1 subx_refl | refine subx_put rfl ?_)
  refine al_op (op_assign rfl) rfl (by simp) ?_
  refine al_nil ?_
  refine aw_freeze (fun _ => false) (fsub_cons (t := 2) rfl (.leaf _ _ (.same _)) fsub_nil) ?_
  refine aw_ret ?_
  refine ⟨_, res_1 rfl rfl, ?_, rfl⟩
  first | rfl | simp_all
end Go.Proofs.Ytbpamlphacpkeaa
