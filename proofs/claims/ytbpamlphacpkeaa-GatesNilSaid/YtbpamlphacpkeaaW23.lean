/- Printed walks (gen.py, gates_ann.py): part 23. -/
import Derived.Test.YtbpamlphacpkeaaW22
import Derived.Test.YtbpamlphacpkeaaFacts
set_option linter.unusedVariables false
set_option linter.unusedSimpArgs false
set_option maxRecDepth 20000
namespace Go.Proofs.Ytbpamlphacpkeaa
open Go

theorem m_Or (s : MS) (vm vg vt vr : Nat) (a b : Int) (hs : s.OK) : AC Try.prog 33 [.ptr 0 vm 0 0, .v (.int .i64 (a)), .v (.int .i64 (b))] (mk0 s vm vg vt vr) (fun r σ' => ∃ vg', r = .ret (.tuple [.v (.int .i64 ((s.or a b).1.1)), .v (.int .i64 ((s.or a b).1.2))]) ∧ σ' = mk0 (s.or a b).2 vm vg' vt vr) := by
  refine ac_enter 33 Try.func33 rfl rfl (by simp) ?_
  refine aw_seq ?_
  refine aw_region ?_
  refine al_op (op_assign rfl) rfl (by simp) ?_
  refine al_op (op_assign rfl) rfl (by simp) ?_
  refine al_nil ?_
  refine aw_seq ?_
  refine aw_seq ?_
  refine aw_region ?_
  refine al_op (op_move rfl) rfl (by simp) ?_
  refine al_op (op_move rfl) rfl (by simp) ?_
  refine al_op (op_move rfl) rfl (by simp) ?_
  refine al_op (op_list encI [a, b] Try.underlying54 info3 rfl rfl (by decide) rfl (by decide) rfl (by first | rfl | (repeat (first | exact parts_nil | refine parts_cons rfl (by repeat (first | exact all_live_nil | refine all_live_clo rfl ?_ | refine all_live_slice rfl ?_ | refine all_live_map rfl ?_ | refine all_live_ptr rfl ?_)) ?_))) rfl rfl rfl rfl) rfl (by simp) ?_
  refine al_callp into71 rfl rfl rfl (m_no _ _ _ _ _ _ (by assumption) (by first | assumption | simp)) (by simp) ?_
  refine al_op (op_assign rfl) rfl (by simp) ?_
  refine al_nil ?_
  refine aw_seq ?_
  refine aw_region ?_
  refine al_op (op_move rfl) rfl (by simp) ?_
  refine al_op (op_neq rfl rfl) rfl (by simp) ?_
  refine al_nil ?_
  refine aw_cond rfl (fun h1 => ?_) (fun h1 => ?_)
  · have gh1 := h1
    try simp only [decide_eq_true_eq, decide_eq_false_iff_not, Bool.not_eq_true', Bool.not_eq_false', beq_iff_eq, bne_iff_ne, beq_eq_false_iff_ne, bne_eq_false_iff_eq, Bool.or_eq_true, Bool.and_eq_true, Bool.or_eq_false_iff, gt_iff_lt, ge_iff_le] at h1
    refine aw_seq ?_
    refine aw_region ?_
    refine al_op (op_move rfl) rfl (by simp) ?_
    refine al_op (op_assign rfl) rfl (by simp) ?_
    refine al_op (op_assign rfl) rfl (by simp) ?_
    refine al_nil ?_
    refine aw_ret ?_
    refine ⟨_, res_2 rfl rfl rfl rfl rfl, ?_⟩
    rw [MS.or_no gh1]; exact ⟨_, rfl, rfl⟩
  · have gh1 := h1
    try simp only [decide_eq_true_eq, decide_eq_false_iff_not, Bool.not_eq_true', Bool.not_eq_false', beq_iff_eq, bne_iff_ne, beq_eq_false_iff_ne, bne_eq_false_iff_eq, Bool.or_eq_true, Bool.and_eq_true, Bool.or_eq_false_iff, gt_iff_lt, ge_iff_le] at h1
    have hno : s.no [a, b] = 0 := by simpa using gh1
    obtain ⟨q1, q2, q3, q4⟩ := MS.no_two hno
    obtain ⟨q5, q6⟩ := hs.lits
    obtain ⟨q7, q8⟩ := MS.and_lit hs (flip a) (flip b)
    refine aw_skip ?_
    refine aw_seq ?_
    refine aw_region ?_
    refine al_op (op_move rfl) rfl (by simp) ?_
    refine al_op (op_move rfl) rfl (by simp) ?_
    refine al_op (op_bitxor rfl rfl (xor_one (by omega) (by omega))) rfl (by simp) ?_
    refine al_op (op_move rfl) rfl (by simp) ?_
    refine al_op (op_bitxor rfl rfl (xor_one (by omega) (by omega))) rfl (by simp) ?_
    (refine al_call into31 rfl rfl rfl (m_And _ _ _ _ _ _ _ (by assumption)) (by simp) ?_; rintro _ _ ⟨vg25, rfl, rfl⟩)
    refine al_op (op_move rfl) rfl (by simp) ?_
    refine al_op (op_extract rfl rfl rfl) rfl (by simp) ?_
    refine al_op (op_extract rfl rfl rfl) rfl (by simp) ?_
    refine al_op (op_assign rfl) rfl (by simp) ?_
    refine al_op (op_assign rfl) rfl (by simp) ?_
    refine al_nil ?_
    refine aw_seq ?_
    refine aw_seq ?_
    refine aw_region ?_
    refine al_op (op_move rfl) rfl (by simp) ?_
    refine al_op (op_neq rfl rfl) rfl (by simp) ?_
    refine al_nil ?_
    refine aw_cond rfl (fun h2 => ?_) (fun h2 => ?_)
    · have gh2 := h2
      try simp only [decide_eq_true_eq, decide_eq_false_iff_not, Bool.not_eq_true', Bool.not_eq_false', beq_iff_eq, bne_iff_ne, beq_eq_false_iff_ne, bne_eq_false_iff_eq, Bool.or_eq_true, Bool.and_eq_true, Bool.or_eq_false_iff, gt_iff_lt, ge_iff_le] at h2
      refine aw_seq ?_
      refine aw_region ?_
      refine al_op (op_move rfl) rfl (by simp) ?_
      refine al_op (op_assign rfl) rfl (by simp) ?_
      refine al_op (op_assign rfl) rfl (by simp) ?_
      refine al_nil ?_
      refine aw_ret ?_
      refine ⟨_, res_2 rfl rfl rfl rfl rfl, ?_⟩
      rw [MS.or_err hno gh2]; exact ⟨_, rfl, rfl⟩
    · have gh2 := h2
      try simp only [decide_eq_true_eq, decide_eq_false_iff_not, Bool.not_eq_true', Bool.not_eq_false', beq_iff_eq, bne_iff_ne, beq_eq_false_iff_ne, bne_eq_false_iff_eq, Bool.or_eq_true, Bool.and_eq_true, Bool.or_eq_false_iff, gt_iff_lt, ge_iff_le] at h2
      refine aw_skip ?_
      refine aw_seq ?_
      refine aw_region ?_
      refine al_op (op_move rfl) rfl (by simp) ?_
      refine al_op (op_bitxor rfl rfl (xor_one (by omega) (by omega))) rfl (by simp) ?_
      refine al_op (op_assign rfl) rfl (by simp) ?_
      refine al_op (op_assign rfl) rfl (by simp) ?_
      refine al_nil ?_
      refine aw_ret ?_
      refine ⟨_, res_2 rfl rfl rfl rfl rfl, ?_⟩
      rw [MS.or_ok hno gh2]; exact ⟨_, rfl, rfl⟩

theorem q_clone_S (l : List ByteArray) (hl : l.length * 16 ≤ 140737488355328) : AC Try.prog 70 [.list 1 (l.map encS)] ([]) (fun r σ' => ∃ id ver, r = .ret (.slice id ver 0 (l.map encS).length) ∧ σ'.get id = some (ver, .row 1 (l.map encS))) := by
  refine ac_enter 8 Try.func70 rfl rfl (by simp) ?_
  refine aw_seq ?_
  refine aw_region ?_
  refine al_op (op_assign rfl) rfl (by simp) ?_
  refine al_nil ?_
  refine aw_seq ?_
  refine aw_seq ?_
  refine aw_region ?_
  refine al_op (op_move rfl) rfl (by simp) ?_
  (refine al_opR (op_snil Try.underlying22 rfl rfl) rfl (by simp) ?_; rintro _ _ ⟨⟨b4, rfl, hb4⟩, rfl⟩)
  refine al_nil ?_
  refine aw_cond rfl (fun h1 => ?_) (fun h1 => ?_)
  · have gh1 := h1
    try simp only [decide_eq_true_eq, decide_eq_false_iff_not, Bool.not_eq_true', Bool.not_eq_false', beq_iff_eq, bne_iff_ne, beq_eq_false_iff_ne, bne_eq_false_iff_eq, Bool.or_eq_true, Bool.and_eq_true, Bool.or_eq_false_iff, gt_iff_lt, ge_iff_le] at h1
    refine aw_seq ?_
    refine aw_region ?_
    refine al_op (op_assign rfl) rfl (by simp) ?_
    refine al_nil ?_
    refine aw_own_map encS 5 1 2 rfl rfl (fun ver2 => ?_)
    refine aw_ret ?_
    refine ⟨_, res_1 rfl rfl, ?_⟩
    have hl0 : l = [] := by simpa using hb4 gh1
    subst hl0
    exact ⟨5, ver2, rfl, rfl⟩
  · have gh1 := h1
    try simp only [decide_eq_true_eq, decide_eq_false_iff_not, Bool.not_eq_true', Bool.not_eq_false', beq_iff_eq, bne_iff_ne, beq_eq_false_iff_ne, bne_eq_false_iff_eq, Bool.or_eq_true, Bool.and_eq_true, Bool.or_eq_false_iff, gt_iff_lt, ge_iff_le] at h1
    refine aw_skip ?_
    refine aw_seq ?_
    refine aw_region ?_
    (refine al_opR (op_list_own encS ([] : List ByteArray) 5 Try.underlying22 info9 rfl rfl (by decide) rfl (by decide) rfl (by first | rfl | (repeat (first | exact parts_nil | refine parts_cons rfl (by repeat (first | exact all_live_nil | refine all_live_clo rfl ?_ | refine all_live_slice rfl ?_ | refine all_live_map rfl ?_ | refine all_live_ptr rfl ?_)) ?_))) rfl rfl (by first | rfl | (repeat (first | exact parts_nil | refine parts_cons rfl (by repeat (first | exact all_live_nil | refine all_live_clo rfl ?_ | refine all_live_slice rfl ?_ | refine all_live_map rfl ?_ | refine all_live_ptr rfl ?_)) ?_))) rfl rfl) rfl (by simp) ?_; rintro _ _ ⟨ver5, rfl, rfl⟩)
    refine al_op (op_move rfl) rfl (by simp) ?_
    (refine al_opR (op_append_map Try.underlying22 Try.underlying22 rfl info9 rfl rfl (by decide) rfl rfl rfl (by first | rfl | simp) rfl (by first | exact .list _ | exact .vnil | exact .nil | exact .row _ _ _ _ rfl (by first | rfl | simp)) rfl (by first | omega | (simp; done) | (simp; omega)) (by show _ * 16 ≤ _; first | omega | (simp; done) | (simp; omega))) rfl (by simp) ?_; rintro _ _ ⟨ver7, rfl, rfl⟩)
    refine al_op (op_assign rfl) rfl (by simp) ?_
    refine al_nil ?_
    refine aw_ret ?_
    refine ⟨_, res_1 rfl rfl, ?_⟩
    exact ⟨5, ver7, by rw [List.length_map]; rfl, rfl⟩
theorem n_clone_S (l : List ByteArray) (hl : l.length * 16 ≤ 140737488355328) : ACn Try.prog 70 [.list 1 (l.map encS)] (.list 1 (l.map encS)) := acn_of (q_clone_S l hl) (sca_map (fun _ => rfl))

theorem q_clone_R (l : List (ByteArray × Int × Int)) (hl : l.length * 32 ≤ 140737488355328) : AC Try.prog 93 [.list 3 (l.map encR)] ([]) (fun r σ' => ∃ id ver, r = .ret (.slice id ver 0 (l.map encR).length) ∧ σ'.get id = some (ver, .row 3 (l.map encR))) := by
  refine ac_enter 8 Try.func93 rfl rfl (by simp) ?_
  refine aw_seq ?_
  refine aw_region ?_
  refine al_op (op_assign rfl) rfl (by simp) ?_
  refine al_nil ?_
  refine aw_seq ?_
  refine aw_seq ?_
  refine aw_region ?_
  refine al_op (op_move rfl) rfl (by simp) ?_
  (refine al_opR (op_snil Try.underlying23 rfl rfl) rfl (by simp) ?_; rintro _ _ ⟨⟨b4, rfl, hb4⟩, rfl⟩)
  refine al_nil ?_
  refine aw_cond rfl (fun h1 => ?_) (fun h1 => ?_)
  · have gh1 := h1
    try simp only [decide_eq_true_eq, decide_eq_false_iff_not, Bool.not_eq_true', Bool.not_eq_false', beq_iff_eq, bne_iff_ne, beq_eq_false_iff_ne, bne_eq_false_iff_eq, Bool.or_eq_true, Bool.and_eq_true, Bool.or_eq_false_iff, gt_iff_lt, ge_iff_le] at h1
    refine aw_seq ?_
    refine aw_region ?_
    refine al_op (op_assign rfl) rfl (by simp) ?_
    refine al_nil ?_
    refine aw_own_map encR 5 3 2 rfl rfl (fun ver2 => ?_)
    refine aw_ret ?_
    refine ⟨_, res_1 rfl rfl, ?_⟩
    have hl0 : l = [] := by simpa using hb4 gh1
    subst hl0
    exact ⟨5, ver2, rfl, rfl⟩
  · have gh1 := h1
    try simp only [decide_eq_true_eq, decide_eq_false_iff_not, Bool.not_eq_true', Bool.not_eq_false', beq_iff_eq, bne_iff_ne, beq_eq_false_iff_ne, bne_eq_false_iff_eq, Bool.or_eq_true, Bool.and_eq_true, Bool.or_eq_false_iff, gt_iff_lt, ge_iff_le] at h1
    refine aw_skip ?_
    refine aw_seq ?_
    refine aw_region ?_
    (refine al_opR (op_list_own encR ([] : List (ByteArray × Int × Int)) 5 Try.underlying23 info93 rfl rfl (by decide) rfl (by decide) rfl (by first | rfl | (repeat (first | exact parts_nil | refine parts_cons rfl (by repeat (first | exact all_live_nil | refine all_live_clo rfl ?_ | refine all_live_slice rfl ?_ | refine all_live_map rfl ?_ | refine all_live_ptr rfl ?_)) ?_))) rfl rfl (by first | rfl | (repeat (first | exact parts_nil | refine parts_cons rfl (by repeat (first | exact all_live_nil | refine all_live_clo rfl ?_ | refine all_live_slice rfl ?_ | refine all_live_map rfl ?_ | refine all_live_ptr rfl ?_)) ?_))) rfl rfl) rfl (by simp) ?_; rintro _ _ ⟨ver5, rfl, rfl⟩)
    refine al_op (op_move rfl) rfl (by simp) ?_
    (refine al_opR (op_append_map Try.underlying23 Try.underlying23 rfl info93 rfl rfl (by decide) rfl rfl rfl (by first | rfl | simp) rfl (by first | exact .list _ | exact .vnil | exact .nil | exact .row _ _ _ _ rfl (by first | rfl | simp)) rfl (by first | omega | (simp; done) | (simp; omega)) (by show _ * 32 ≤ _; first | omega | (simp; done) | (simp; omega))) rfl (by simp) ?_; rintro _ _ ⟨ver7, rfl, rfl⟩)
    refine al_op (op_assign rfl) rfl (by simp) ?_
    refine al_nil ?_
    refine aw_ret ?_
    refine ⟨_, res_1 rfl rfl, ?_⟩
    exact ⟨5, ver7, by rw [List.length_map]; rfl, rfl⟩
theorem n_clone_R (l : List (ByteArray × Int × Int)) (hl : l.length * 32 ≤ 140737488355328) : ACn Try.prog 93 [.list 3 (l.map encR)] (.list 3 (l.map encR)) := acn_of (q_clone_R l hl) (sca_map (fun _ => rfl))

theorem q_clone_G (l : List (Int × Int)) (hl : l.length * 16 ≤ 140737488355328) : AC Try.prog 94 [.list 2 (l.map encG)] ([]) (fun r σ' => ∃ id ver, r = .ret (.slice id ver 0 (l.map encG).length) ∧ σ'.get id = some (ver, .row 2 (l.map encG))) := by
  refine ac_enter 8 Try.func94 rfl rfl (by simp) ?_
  refine aw_seq ?_
  refine aw_region ?_
  refine al_op (op_assign rfl) rfl (by simp) ?_
  refine al_nil ?_
  refine aw_seq ?_
  refine aw_seq ?_
  refine aw_region ?_
  refine al_op (op_move rfl) rfl (by simp) ?_
  (refine al_opR (op_snil Try.underlying24 rfl rfl) rfl (by simp) ?_; rintro _ _ ⟨⟨b4, rfl, hb4⟩, rfl⟩)
  refine al_nil ?_
  refine aw_cond rfl (fun h1 => ?_) (fun h1 => ?_)
  · have gh1 := h1
    try simp only [decide_eq_true_eq, decide_eq_false_iff_not, Bool.not_eq_true', Bool.not_eq_false', beq_iff_eq, bne_iff_ne, beq_eq_false_iff_ne, bne_eq_false_iff_eq, Bool.or_eq_true, Bool.and_eq_true, Bool.or_eq_false_iff, gt_iff_lt, ge_iff_le] at h1
    refine aw_seq ?_
    refine aw_region ?_
    refine al_op (op_assign rfl) rfl (by simp) ?_
    refine al_nil ?_
    refine aw_own_map encG 5 2 2 rfl rfl (fun ver2 => ?_)
    refine aw_ret ?_
    refine ⟨_, res_1 rfl rfl, ?_⟩
    have hl0 : l = [] := by simpa using hb4 gh1
    subst hl0
    exact ⟨5, ver2, rfl, rfl⟩
  · have gh1 := h1
    try simp only [decide_eq_true_eq, decide_eq_false_iff_not, Bool.not_eq_true', Bool.not_eq_false', beq_iff_eq, bne_iff_ne, beq_eq_false_iff_ne, bne_eq_false_iff_eq, Bool.or_eq_true, Bool.and_eq_true, Bool.or_eq_false_iff, gt_iff_lt, ge_iff_le] at h1
    refine aw_skip ?_
    refine aw_seq ?_
    refine aw_region ?_
    (refine al_opR (op_list_own encG ([] : List (Int × Int)) 5 Try.underlying24 info86 rfl rfl (by decide) rfl (by decide) rfl (by first | rfl | (repeat (first | exact parts_nil | refine parts_cons rfl (by repeat (first | exact all_live_nil | refine all_live_clo rfl ?_ | refine all_live_slice rfl ?_ | refine all_live_map rfl ?_ | refine all_live_ptr rfl ?_)) ?_))) rfl rfl (by first | rfl | (repeat (first | exact parts_nil | refine parts_cons rfl (by repeat (first | exact all_live_nil | refine all_live_clo rfl ?_ | refine all_live_slice rfl ?_ | refine all_live_map rfl ?_ | refine all_live_ptr rfl ?_)) ?_))) rfl rfl) rfl (by simp) ?_; rintro _ _ ⟨ver5, rfl, rfl⟩)
    refine al_op (op_move rfl) rfl (by simp) ?_
    (refine al_opR (op_append_map Try.underlying24 Try.underlying24 rfl info86 rfl rfl (by decide) rfl rfl rfl (by first | rfl | simp) rfl (by first | exact .list _ | exact .vnil | exact .nil | exact .row _ _ _ _ rfl (by first | rfl | simp)) rfl (by first | omega | (simp; done) | (simp; omega)) (by show _ * 16 ≤ _; first | omega | (simp; done) | (simp; omega))) rfl (by simp) ?_; rintro _ _ ⟨ver7, rfl, rfl⟩)
    refine al_op (op_assign rfl) rfl (by simp) ?_
    refine al_nil ?_
    refine aw_ret ?_
    refine ⟨_, res_1 rfl rfl, ?_⟩
    exact ⟨5, ver7, by rw [List.length_map]; rfl, rfl⟩
theorem n_clone_G (l : List (Int × Int)) (hl : l.length * 16 ≤ 140737488355328) : ACn Try.prog 94 [.list 2 (l.map encG)] (.list 2 (l.map encG)) := acn_of (q_clone_G l hl) (sca_map (fun _ => rfl))

theorem q_clone_P (l : List (ByteArray × Int)) (hl : l.length * 24 ≤ 140737488355328) : AC Try.prog 78 [.list 2 (l.map encP)] ([]) (fun r σ' => ∃ id ver, r = .ret (.slice id ver 0 (l.map encP).length) ∧ σ'.get id = some (ver, .row 2 (l.map encP))) := by
  refine ac_enter 8 Try.func78 rfl rfl (by simp) ?_
  refine aw_seq ?_
  refine aw_region ?_
  refine al_op (op_assign rfl) rfl (by simp) ?_
  refine al_nil ?_
  refine aw_seq ?_
  refine aw_seq ?_
  refine aw_region ?_
  refine al_op (op_move rfl) rfl (by simp) ?_
  (refine al_opR (op_snil Try.underlying25 rfl rfl) rfl (by simp) ?_; rintro _ _ ⟨⟨b4, rfl, hb4⟩, rfl⟩)
  refine al_nil ?_
  refine aw_cond rfl (fun h1 => ?_) (fun h1 => ?_)
  · have gh1 := h1
    try simp only [decide_eq_true_eq, decide_eq_false_iff_not, Bool.not_eq_true', Bool.not_eq_false', beq_iff_eq, bne_iff_ne, beq_eq_false_iff_ne, bne_eq_false_iff_eq, Bool.or_eq_true, Bool.and_eq_true, Bool.or_eq_false_iff, gt_iff_lt, ge_iff_le] at h1
    refine aw_seq ?_
    refine aw_region ?_
    refine al_op (op_assign rfl) rfl (by simp) ?_
    refine al_nil ?_
    refine aw_own_map encP 5 2 2 rfl rfl (fun ver2 => ?_)
    refine aw_ret ?_
    refine ⟨_, res_1 rfl rfl, ?_⟩
    have hl0 : l = [] := by simpa using hb4 gh1
    subst hl0
    exact ⟨5, ver2, rfl, rfl⟩
  · have gh1 := h1
    try simp only [decide_eq_true_eq, decide_eq_false_iff_not, Bool.not_eq_true', Bool.not_eq_false', beq_iff_eq, bne_iff_ne, beq_eq_false_iff_ne, bne_eq_false_iff_eq, Bool.or_eq_true, Bool.and_eq_true, Bool.or_eq_false_iff, gt_iff_lt, ge_iff_le] at h1
    refine aw_skip ?_
    refine aw_seq ?_
    refine aw_region ?_
    (refine al_opR (op_list_own encP ([] : List (ByteArray × Int)) 5 Try.underlying25 info69 rfl rfl (by decide) rfl (by decide) rfl (by first | rfl | (repeat (first | exact parts_nil | refine parts_cons rfl (by repeat (first | exact all_live_nil | refine all_live_clo rfl ?_ | refine all_live_slice rfl ?_ | refine all_live_map rfl ?_ | refine all_live_ptr rfl ?_)) ?_))) rfl rfl (by first | rfl | (repeat (first | exact parts_nil | refine parts_cons rfl (by repeat (first | exact all_live_nil | refine all_live_clo rfl ?_ | refine all_live_slice rfl ?_ | refine all_live_map rfl ?_ | refine all_live_ptr rfl ?_)) ?_))) rfl rfl) rfl (by simp) ?_; rintro _ _ ⟨ver5, rfl, rfl⟩)
    refine al_op (op_move rfl) rfl (by simp) ?_
    (refine al_opR (op_append_map Try.underlying25 Try.underlying25 rfl info69 rfl rfl (by decide) rfl rfl rfl (by first | rfl | simp) rfl (by first | exact .list _ | exact .vnil | exact .nil | exact .row _ _ _ _ rfl (by first | rfl | simp)) rfl (by first | omega | (simp; done) | (simp; omega)) (by show _ * 24 ≤ _; first | omega | (simp; done) | (simp; omega))) rfl (by simp) ?_; rintro _ _ ⟨ver7, rfl, rfl⟩)
    refine al_op (op_assign rfl) rfl (by simp) ?_
    refine al_nil ?_
    refine aw_ret ?_
    refine ⟨_, res_1 rfl rfl, ?_⟩
    exact ⟨5, ver7, by rw [List.length_map]; rfl, rfl⟩
theorem n_clone_P (l : List (ByteArray × Int)) (hl : l.length * 24 ≤ 140737488355328) : ACn Try.prog 78 [.list 2 (l.map encP)] (.list 2 (l.map encP)) := acn_of (q_clone_P l hl) (sca_map (fun _ => rfl))
end Go.Proofs.Ytbpamlphacpkeaa
