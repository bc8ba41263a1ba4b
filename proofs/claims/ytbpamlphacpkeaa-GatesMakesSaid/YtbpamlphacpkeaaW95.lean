/- Printed walks (gen.py, gates_ann.py): part 95. -/
import Derived.Test.YtbpamlphacpkeaaW94
import Derived.Test.YtbpamlphacpkeaaFacts
set_option linter.unusedVariables false
set_option linter.unusedSimpArgs false
set_option maxRecDepth 20000
set_option maxHeartbeats 40000000
namespace Go.Proofs.Ytbpamlphacpkeaa
open Go

theorem keep_none (σ : Store) : (σ.keep fun _ => false) = [] := by
  induction σ with
  | nil => rfl
  | cons p r ih => exact ih
theorem m_MakeBad (ins names : List ByteArray) (inits : List Int) (z1 : ∀ s ∈ ins, s.size ≤ 140737488355328) (z2 : ∀ s ∈ names, s.size ≤ 140737488355328) (z3 : ∀ x ∈ inits, 0 ≤ x ∧ x ≤ 255) (z4 : ins.length ≤ 100000) (z5 : names.length ≤ 100000) (z6 : inits.length ≤ 100000) (hok : makeOK ins names inits = false) : ACp Try.prog 28 [.list 1 (ins.map encS), .list 1 (names.map encS), .list 1 (inits.map encB)] (.tuple [.v (.pointer none), .v (.int .i64 2)]) :=
  acp_of rfl (ac_mono (ac_keep (fun _ => false) (q_mMake ins names inits z1 z2 z3 z4 z5 z6)) (by
    rintro x σ1 ⟨σ2, h, rfl⟩
    rw [if_neg (by rw [hok]; decide)] at h
    exact ⟨h, keep_none _⟩))
theorem r_MakeBad (ins names : List ByteArray) (inits : List Int) (z1 : ∀ s ∈ ins, s.size ≤ 140737488355328) (z2 : ∀ s ∈ names, s.size ≤ 140737488355328) (z3 : ∀ x ∈ inits, 0 ≤ x ∧ x ≤ 255) (z4 : ins.length ≤ 100000) (z5 : names.length ≤ 100000) (z6 : inits.length ≤ 100000) (hok : makeOK ins names inits = false) : ACp Try.prog 29 [.list 1 (ins.map encS), .list 1 (names.map encS), .list 1 (inits.map encB)] (.tuple [.v (.pointer none), .v (.int .i64 2)]) :=
  acp_of rfl (ac_mono (ac_keep (fun _ => false) (q_rMake ins names inits z1 z2 z3 z4 z5 z6)) (by
    rintro x σ1 ⟨σ2, h, rfl⟩
    rw [if_neg (by rw [hok]; decide)] at h
    exact ⟨h, keep_none _⟩))
theorem law_GatesMakes_bad (ins names : List ByteArray) (inits : List Int) (l : List OpV) (z1 : ∀ s ∈ ins, s.size ≤ 140737488355328) (z2 : ∀ s ∈ names, s.size ≤ 140737488355328) (z3 : ∀ x ∈ inits, 0 ≤ x ∧ x ≤ 255) (y1 : ins.length ≤ 140737488355328) (y2 : names.length ≤ 140737488355328) (y3 : inits.length ≤ 140737488355328) (y4 : l.length ≤ 140737488355328) (hO : ∀ o ∈ l, o.Small) (hok : makeOK ins names inits = false) : ACp Try.prog 6 [.agg [.list 1 (ins.map encS), .list 1 (names.map encS), .list 1 (inits.map encB)], .list 7 (l.map encO)] (.v (.bool (true))) := by
 refine acp_of rfl ?_
 refine ac_enter 264 Try.func6 rfl rfl (by simp) ?_
 refine aw_seq ?_
 refine aw_region ?_
 (refine al_opR (op_box 2 rfl rfl (by first | rfl | exact live_one rfl | (repeat (first | exact all_live_nil | refine all_live_clo rfl ?_ | refine all_live_slice rfl ?_ | refine all_live_map rfl ?_ | refine all_live_ptr rfl ?_)))) rfl (by simp) ?_; rintro _ _ ⟨ver2, rfl, rfl⟩)
 refine al_op (op_assign rfl) rfl (by simp) ?_
 refine al_nil ?_
 refine aw_seq ?_
 refine aw_any (Checked.mixed Try.checked) ?_
 apply aany_seg (p := 0) (q := 9) (by kernel_rfl) rfl (by decide)
 ·
  first
    | apply ql_plain rfl (op_field_rptr Try.underlying46 rfl info22 (by decide) rfl rfl)
    | apply ql_plain rfl (op_field_ptr Try.underlying46 rfl info22 (by decide) rfl rfl rfl)
  first
    | apply ql_plain rfl (op_load_rptr Try.underlying22 info22 rfl rfl)
    | apply ql_plain rfl (op_load_map Try.underlying22 info22 rfl rfl (by omega) rfl)
    | apply ql_plain rfl (op_load_ptr Try.underlying22 info22 rfl rfl rfl rfl)
  first
    | apply ql_plain rfl (op_field_rptr Try.underlying46 rfl info22 (by decide) rfl rfl)
    | apply ql_plain rfl (op_field_ptr Try.underlying46 rfl info22 (by decide) rfl rfl rfl)
  first
    | apply ql_plain rfl (op_load_rptr Try.underlying22 info22 rfl rfl)
    | apply ql_plain rfl (op_load_map Try.underlying22 info22 rfl rfl (by omega) rfl)
    | apply ql_plain rfl (op_load_ptr Try.underlying22 info22 rfl rfl rfl rfl)
  first
    | apply ql_plain rfl (op_field_rptr Try.underlying46 rfl info28 (by decide) rfl rfl)
    | apply ql_plain rfl (op_field_ptr Try.underlying46 rfl info28 (by decide) rfl rfl rfl)
  first
    | apply ql_plain rfl (op_load_rptr Try.underlying28 info28 rfl rfl)
    | apply ql_plain rfl (op_load_map Try.underlying28 info28 rfl rfl (by omega) rfl)
    | apply ql_plain rfl (op_load_ptr Try.underlying28 info28 rfl rfl rfl rfl)
  apply ql_plain rfl (op_assign rfl)
  apply ql_plain rfl (op_assign rfl)
  apply ql_plain rfl (op_assign rfl)
  exact ql_nil
 ·simp
 refine aany_end rfl (by kernel_rfl) ?_
 refine aw_seq ?_
 refine aw_seq ?_
 refine aw_region ?_
 refine al_op (op_move rfl) rfl (by simp) ?_
 first
   | refine al_op (op_len_map Try.underlying22 rfl) rfl (by simp) ?_
   | refine al_op (op_len_slice Try.underlying22 rfl rfl) rfl (by simp) ?_
   | refine al_op (op_len_list Try.underlying22 rfl) rfl (by simp) ?_
   | refine al_op (op_len_v Try.underlying22 rfl) rfl (by simp) ?_
   | refine al_op (op_len_nil Try.underlying22 rfl) rfl (by simp) ?_
 refine al_op (op_move rfl) rfl (by simp) ?_
 first
   | refine al_op (op_len_map Try.underlying22 rfl) rfl (by simp) ?_
   | refine al_op (op_len_slice Try.underlying22 rfl rfl) rfl (by simp) ?_
   | refine al_op (op_len_list Try.underlying22 rfl) rfl (by simp) ?_
   | refine al_op (op_len_v Try.underlying22 rfl) rfl (by simp) ?_
   | refine al_op (op_len_nil Try.underlying22 rfl) rfl (by simp) ?_
 refine al_op (op_add rfl rfl (by first | exact wrap_i64 (by omega) (by omega))) rfl (by simp) ?_
 refine al_op (op_gtr rfl rfl) rfl (by simp) ?_
 refine al_op (op_move rfl) rfl (by simp) ?_
 apply al_or 4 41 45 rfl
 ·intro h1; have gh1 := h1
  try simp only [decide_eq_true_eq, decide_eq_false_iff_not, Bool.not_eq_true', Bool.not_eq_false', beq_iff_eq, bne_iff_ne, beq_eq_false_iff_ne, bne_eq_false_iff_eq, Bool.or_eq_true, Bool.and_eq_true, Bool.or_eq_false_iff, gt_iff_lt, ge_iff_le] at h1
  refine al_take (op_move rfl) rfl rfl rfl rfl (by simp) ?_
  first
    | refine al_take (op_len_map Try.underlying28 rfl) rfl rfl rfl rfl (by simp) ?_
    | refine al_take (op_len_slice Try.underlying28 rfl rfl) rfl rfl rfl rfl (by simp) ?_
    | refine al_take (op_len_list Try.underlying28 rfl) rfl rfl rfl rfl (by simp) ?_
    | refine al_take (op_len_v Try.underlying28 rfl) rfl rfl rfl rfl (by simp) ?_
    | refine al_take (op_len_nil Try.underlying28 rfl) rfl rfl rfl rfl (by simp) ?_
  refine al_take (op_gtr rfl rfl) rfl rfl rfl rfl (by simp) ?_
  first
    | refine al_op (op_pick rfl rfl) rfl (by simp) ?_
    | refine al_op (op_or rfl rfl rfl) rfl (by simp) ?_
  refine al_nil ⟨rfl, rfl, rfl, keep_of ?_⟩
  repeat (first | exact subx_refl | exact subx_known rfl gh1 subx_refl | refine subx_put rfl ?_)
 ·intro h1; have gh1 := h1
  try simp only [decide_eq_true_eq, decide_eq_false_iff_not, Bool.not_eq_true', Bool.not_eq_false', beq_iff_eq, bne_iff_ne, beq_eq_false_iff_ne, bne_eq_false_iff_eq, Bool.or_eq_true, Bool.and_eq_true, Bool.or_eq_false_iff, gt_iff_lt, ge_iff_le] at h1
  refine al_pass rfl rfl rfl rfl (by simp) ?_
  refine al_pass rfl rfl rfl rfl (by simp) ?_
  refine al_pass rfl rfl rfl rfl (by simp) ?_
  first
    | refine al_op (op_pick rfl rfl) rfl (by simp) ?_
    | refine al_op (op_or rfl rfl rfl) rfl (by simp) ?_
  refine al_nil ⟨rfl, rfl, rfl, keep_of ?_⟩
  repeat (first | exact subx_refl | exact subx_known rfl gh1 subx_refl | refine subx_put rfl ?_)
 refine al_op (op_move rfl) rfl (by simp) ?_
 apply al_or 4 46 50 rfl
 ·intro h2; have gh2 := h2
  try simp only [decide_eq_true_eq, decide_eq_false_iff_not, Bool.not_eq_true', Bool.not_eq_false', beq_iff_eq, bne_iff_ne, beq_eq_false_iff_ne, bne_eq_false_iff_eq, Bool.or_eq_true, Bool.and_eq_true, Bool.or_eq_false_iff, gt_iff_lt, ge_iff_le] at h2
  refine al_take (op_move rfl) rfl rfl rfl rfl (by simp) ?_
  first
    | refine al_take (op_len_map Try.underlying47 rfl) rfl rfl rfl rfl (by simp) ?_
    | refine al_take (op_len_slice Try.underlying47 rfl rfl) rfl rfl rfl rfl (by simp) ?_
    | refine al_take (op_len_list Try.underlying47 rfl) rfl rfl rfl rfl (by simp) ?_
    | refine al_take (op_len_v Try.underlying47 rfl) rfl rfl rfl rfl (by simp) ?_
    | refine al_take (op_len_nil Try.underlying47 rfl) rfl rfl rfl rfl (by simp) ?_
  refine al_take (op_gtr rfl rfl) rfl rfl rfl rfl (by simp) ?_
  first
    | refine al_op (op_pick rfl rfl) rfl (by simp) ?_
    | refine al_op (op_or rfl rfl rfl) rfl (by simp) ?_
  refine al_nil ⟨rfl, rfl, rfl, keep_of ?_⟩
  repeat (first | exact subx_refl | exact subx_known rfl gh2 subx_refl | refine subx_put rfl ?_)
 ·intro h2; have gh2 := h2
  try simp only [decide_eq_true_eq, decide_eq_false_iff_not, Bool.not_eq_true', Bool.not_eq_false', beq_iff_eq, bne_iff_ne, beq_eq_false_iff_ne, bne_eq_false_iff_eq, Bool.or_eq_true, Bool.and_eq_true, Bool.or_eq_false_iff, gt_iff_lt, ge_iff_le] at h2
  refine al_pass rfl rfl rfl rfl (by simp) ?_
  refine al_pass rfl rfl rfl rfl (by simp) ?_
  refine al_pass rfl rfl rfl rfl (by simp) ?_
  first
    | refine al_op (op_pick rfl rfl) rfl (by simp) ?_
    | refine al_op (op_or rfl rfl rfl) rfl (by simp) ?_
  refine al_nil ⟨rfl, rfl, rfl, keep_of ?_⟩
  repeat (first | exact subx_refl | exact subx_known rfl gh2 subx_refl | refine subx_put rfl ?_)
 refine al_nil ?_
 refine aw_cond rfl (fun h3 => ?_) (fun h3 => ?_)
 ·have gh3 := h3
  try simp only [decide_eq_true_eq, decide_eq_false_iff_not, Bool.not_eq_true', Bool.not_eq_false', beq_iff_eq, bne_iff_ne, beq_eq_false_iff_ne, bne_eq_false_iff_eq, Bool.or_eq_true, Bool.and_eq_true, Bool.or_eq_false_iff, gt_iff_lt, ge_iff_le] at h3
  refine aw_seq ?_
  refine aw_region ?_
  first
    | refine al_callp into15 rfl rfl rfl ((l_awake ) _) (by simp) ?_
    | refine al_callp into15 rfl rfl rfl (acp_lent lend_nil (l_awake ) rfl) (by simp) ?_
  refine al_op (op_assign rfl) rfl (by simp) ?_
  refine al_nil ?_
  refine aw_freeze (fun _ => false) (fsub_cons (t := 4) rfl (.leaf _ _ (.same _)) fsub_nil) ?_
  refine aw_ret ?_
  refine ⟨_, res_1 rfl rfl, ?_, rfl⟩
  first | rfl | simp
 ·have gh3 := h3
  try simp only [decide_eq_true_eq, decide_eq_false_iff_not, Bool.not_eq_true', Bool.not_eq_false', beq_iff_eq, bne_iff_ne, beq_eq_false_iff_ne, bne_eq_false_iff_eq, Bool.or_eq_true, Bool.and_eq_true, Bool.or_eq_false_iff, gt_iff_lt, ge_iff_le] at h3
  refine aw_skip ?_
  refine aw_seq ?_
  refine aw_region ?_
  refine al_op (op_move rfl) rfl (by simp) ?_
  refine al_op (op_move rfl) rfl (by simp) ?_
  refine al_op (op_move rfl) rfl (by simp) ?_
  refine al_callp into28 rfl rfl rfl (m_MakeBad ins names inits z1 z2 z3 (by omega) (by omega) (by omega) hok _) (by simp) ?_
  refine al_op (op_move rfl) rfl (by simp) ?_
  refine al_op (op_extract rfl rfl rfl) rfl (by simp) ?_
  refine al_op (op_extract rfl rfl rfl) rfl (by simp) ?_
  refine al_op (op_assign rfl) rfl (by simp) ?_
  refine al_op (op_assign rfl) rfl (by simp) ?_
  refine al_nil ?_
  refine aw_seq ?_
  refine aw_region ?_
  refine al_op (op_move rfl) rfl (by simp) ?_
  refine al_op (op_move rfl) rfl (by simp) ?_
  refine al_op (op_move rfl) rfl (by simp) ?_
  refine al_callp into29 rfl rfl rfl (r_MakeBad ins names inits z1 z2 z3 (by omega) (by omega) (by omega) hok _) (by simp) ?_
  refine al_op (op_move rfl) rfl (by simp) ?_
  refine al_op (op_extract rfl rfl rfl) rfl (by simp) ?_
  refine al_op (op_extract rfl rfl rfl) rfl (by simp) ?_
  refine al_op (op_assign rfl) rfl (by simp) ?_
  refine al_op (op_assign rfl) rfl (by simp) ?_
  refine al_nil ?_
  refine aw_seq ?_
  refine aw_seq ?_
  refine aw_region ?_
  refine al_op (op_move rfl) rfl (by simp) ?_
  refine al_op (op_move rfl) rfl (by simp) ?_
  refine al_op (op_neq rfl rfl) rfl (by simp) ?_
  refine al_op (op_move rfl) rfl (by simp) ?_
  apply al_or 6 69 75 rfl
  ·intro h4; have gh4 := h4
   try simp only [decide_eq_true_eq, decide_eq_false_iff_not, Bool.not_eq_true', Bool.not_eq_false', beq_iff_eq, bne_iff_ne, beq_eq_false_iff_ne, bne_eq_false_iff_eq, Bool.or_eq_true, Bool.and_eq_true, Bool.or_eq_false_iff, gt_iff_lt, ge_iff_le] at h4
   refine al_take (op_move rfl) rfl rfl rfl rfl (by simp) ?_
   first
     | refine al_take (op_pnil_ptr Try.underlying48 rfl rfl rfl) rfl rfl rfl rfl (by simp) ?_
     | refine al_take (op_pnil_none Try.underlying48 rfl rfl) rfl rfl rfl rfl (by simp) ?_
   refine al_take (op_move rfl) rfl rfl rfl rfl (by simp) ?_
   first
     | refine al_take (op_pnil_ptr Try.underlying51 rfl rfl rfl) rfl rfl rfl rfl (by simp) ?_
     | refine al_take (op_pnil_none Try.underlying51 rfl rfl) rfl rfl rfl rfl (by simp) ?_
   refine al_take (op_bneq Try.underlying4 rfl rfl) rfl rfl rfl rfl (by simp) ?_
   first
     | refine al_op (op_pick rfl rfl) rfl (by simp) ?_
     | refine al_op (op_or rfl rfl rfl) rfl (by simp) ?_
   refine al_nil ⟨rfl, rfl, rfl, keep_of ?_⟩
   repeat (first | exact subx_refl | exact subx_known rfl gh4 subx_refl | refine subx_put rfl ?_)
  ·intro h4; have gh4 := h4
   try simp only [decide_eq_true_eq, decide_eq_false_iff_not, Bool.not_eq_true', Bool.not_eq_false', beq_iff_eq, bne_iff_ne, beq_eq_false_iff_ne, bne_eq_false_iff_eq, Bool.or_eq_true, Bool.and_eq_true, Bool.or_eq_false_iff, gt_iff_lt, ge_iff_le] at h4
   refine al_pass rfl rfl rfl rfl (by simp) ?_
   refine al_pass rfl rfl rfl rfl (by simp) ?_
   refine al_pass rfl rfl rfl rfl (by simp) ?_
   refine al_pass rfl rfl rfl rfl (by simp) ?_
   refine al_pass rfl rfl rfl rfl (by simp) ?_
   first
     | refine al_op (op_pick rfl rfl) rfl (by simp) ?_
     | refine al_op (op_or rfl rfl rfl) rfl (by simp) ?_
   refine al_nil ⟨rfl, rfl, rfl, keep_of ?_⟩
   repeat (first | exact subx_refl | exact subx_known rfl gh4 subx_refl | refine subx_put rfl ?_)
  refine al_nil ?_
  refine aw_cond rfl (fun h5 => ?_) (fun h5 => ?_)
  ·have gh5 := h5
   try simp only [decide_eq_true_eq, decide_eq_false_iff_not, Bool.not_eq_true', Bool.not_eq_false', beq_iff_eq, bne_iff_ne, beq_eq_false_iff_ne, bne_eq_false_iff_eq, Bool.or_eq_true, Bool.and_eq_true, Bool.or_eq_false_iff, gt_iff_lt, ge_iff_le] at h5
   exact absurd gh5 (by decide)
  ·have gh5 := h5
   try simp only [decide_eq_true_eq, decide_eq_false_iff_not, Bool.not_eq_true', Bool.not_eq_false', beq_iff_eq, bne_iff_ne, beq_eq_false_iff_ne, bne_eq_false_iff_eq, Bool.or_eq_true, Bool.and_eq_true, Bool.or_eq_false_iff, gt_iff_lt, ge_iff_le] at h5
   refine aw_skip ?_
   refine aw_seq ?_
   refine aw_seq ?_
   refine aw_region ?_
   refine al_op (op_move rfl) rfl (by simp) ?_
   first
     | refine al_op (op_pnil_ptr Try.underlying48 rfl rfl rfl) rfl (by simp) ?_
     | refine al_op (op_pnil_none Try.underlying48 rfl rfl) rfl (by simp) ?_
   refine al_nil ?_
   refine aw_cond rfl (fun h6 => ?_) (fun h6 => ?_)
   ·have gh6 := h6
    try simp only [decide_eq_true_eq, decide_eq_false_iff_not, Bool.not_eq_true', Bool.not_eq_false', beq_iff_eq, bne_iff_ne, beq_eq_false_iff_ne, bne_eq_false_iff_eq, Bool.or_eq_true, Bool.and_eq_true, Bool.or_eq_false_iff, gt_iff_lt, ge_iff_le] at h6
    refine aw_seq ?_
    refine aw_region ?_
    first
      | refine al_callp into15 rfl rfl rfl ((l_awake ) _) (by simp) ?_
      | refine al_callp into15 rfl rfl rfl (acp_lent lend_nil (l_awake ) rfl) (by simp) ?_
    refine al_op (op_assign rfl) rfl (by simp) ?_
    refine al_nil ?_
    refine aw_freeze (fun _ => false) (fsub_cons (t := 4) rfl (.leaf _ _ (.same _)) fsub_nil) ?_
    refine aw_ret ?_
    refine ⟨_, res_1 rfl rfl, ?_, rfl⟩
    first | rfl | simp
   ·have gh6 := h6
    try simp only [decide_eq_true_eq, decide_eq_false_iff_not, Bool.not_eq_true', Bool.not_eq_false', beq_iff_eq, bne_iff_ne, beq_eq_false_iff_ne, bne_eq_false_iff_eq, Bool.or_eq_true, Bool.and_eq_true, Bool.or_eq_false_iff, gt_iff_lt, ge_iff_le] at h6
    exact absurd gh6 (by decide)
end Go.Proofs.Ytbpamlphacpkeaa
