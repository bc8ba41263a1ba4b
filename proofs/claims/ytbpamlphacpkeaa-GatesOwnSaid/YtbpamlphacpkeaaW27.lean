/- Printed walks (gen.py, gates_ann.py): part 27. -/
import Derived.Test.YtbpamlphacpkeaaW16
import Derived.Test.YtbpamlphacpkeaaGMaker
import Derived.Test.YtbpamlphacpkeaaGAwake
import Derived.Test.YtbpamlphacpkeaaFacts
set_option linter.unusedVariables false
set_option linter.unusedSimpArgs false
set_option maxRecDepth 20000
set_option maxHeartbeats 40000000
namespace Go.Proofs.Ytbpamlphacpkeaa
open Go

theorem m_first (s : MS) (vm vg vt vr : Nat) (hs : s.OK) : AC Try.prog 72 [.ptr 0 vm 0 0] (mk0 s vm vg vt vr) (fun r σ' => r = .ret (.v (.int .i64 (s.lits))) ∧ σ' = mk0 s vm vg vt vr) := by
 obtain ⟨k1, k2, k3⟩ := hs
 refine ac_enter 25 Try.func72 rfl rfl (by simp) ?_
 refine aw_seq ?_
 refine aw_region ?_
 refine al_op (op_assign rfl) rfl (by simp) ?_
 refine al_nil ?_
 refine aw_seq ?_
 refine aw_any (Checked.mixed Try.checked) ?_
 apply aany_seg (p := 0) (q := 23) (by kernel_rfl) rfl (by decide)
 ·
  apply ql_plain rfl (op_move rfl)
  apply ql_plain rfl (op_nilCheck_ptr rfl rfl)
  apply ql_plain rfl (op_field_ptr Try.underlying73 rfl info27 (by decide) rfl rfl rfl)
  apply ql_plain rfl (op_field_ptr Try.underlying27 rfl info22 (by decide) rfl rfl rfl)
  apply ql_plain rfl (op_load_ptr Try.underlying22 info22 rfl rfl rfl rfl)
  apply ql_plain rfl (op_len_map Try.underlying22 rfl)
  apply ql_plain rfl (op_add rfl rfl (by first | exact wrap_i64 (by omega) (by omega)))
  apply ql_plain rfl (op_move rfl)
  apply ql_plain rfl (op_nilCheck_ptr rfl rfl)
  apply ql_plain rfl (op_field_ptr Try.underlying73 rfl info27 (by decide) rfl rfl rfl)
  apply ql_plain rfl (op_field_ptr Try.underlying27 rfl info23 (by decide) rfl rfl rfl)
  apply ql_plain rfl (op_load_ptr Try.underlying23 info23 rfl rfl rfl rfl)
  apply ql_plain rfl (op_len_slice Try.underlying23 rfl rfl)
  apply ql_plain rfl (op_add rfl rfl (by first | exact wrap_i64 (by omega) (by omega)))
  apply ql_plain rfl (op_move rfl)
  apply ql_plain rfl (op_nilCheck_ptr rfl rfl)
  apply ql_plain rfl (op_field_ptr Try.underlying73 rfl info27 (by decide) rfl rfl rfl)
  apply ql_plain rfl (op_field_ptr Try.underlying27 rfl info24 (by decide) rfl rfl rfl)
  apply ql_plain rfl (op_load_ptr Try.underlying24 info24 rfl rfl rfl rfl)
  apply ql_plain rfl (op_len_slice Try.underlying24 rfl rfl)
  apply ql_plain rfl (op_add rfl rfl (by first | exact wrap_i64 (by omega) (by omega)))
  apply ql_plain rfl (op_mul rfl rfl (by first | exact wrap_i64 (by omega) (by omega)))
  apply ql_plain rfl (op_assign rfl)
  exact ql_nil
 ·simp
 refine aany_end rfl (by kernel_rfl) ?_
 refine aw_ret ?_
 refine ⟨_, res_1 rfl rfl, ?_⟩
 exact ⟨rfl, rfl⟩

theorem m_no (s : MS) (vm vg vt vr : Nat) (l : List Int) (hs : s.OK) (hl : l.length ≤ 140737488355328) : AC Try.prog 71 [.ptr 0 vm 0 0, .list 1 (l.map encI)] (mk0 s vm vg vt vr) (fun r σ' => r = .ret (.v (.int .i64 (s.no l))) ∧ σ' = mk0 s vm vg vt vr) := by
 refine ac_enter 31 Try.func71 rfl rfl (by simp) ?_
 refine aw_seq ?_
 refine aw_region ?_
 refine al_op (op_assign rfl) rfl (by simp) ?_
 refine al_nil ?_
 refine aw_seq ?_
 refine aw_seq ?_
 refine aw_region ?_
 refine al_op (op_move rfl) rfl (by simp) ?_
 refine al_op (op_pnil_ptr Try.underlying48 rfl rfl rfl) rfl (by simp) ?_
 refine al_op (op_move rfl) rfl (by simp) ?_
 apply al_or 6 9 15 rfl
 ·intro h1; have gh1 := h1
  try simp only [nrm] at h1
  refine al_take (op_move rfl) rfl rfl rfl rfl (by simp) ?_
  refine al_take (op_nilCheck_ptr rfl rfl) rfl rfl rfl rfl (by simp) ?_
  refine al_take (op_field_ptr Try.underlying73 rfl info4 (by decide) rfl rfl rfl) rfl rfl rfl rfl (by simp) ?_
  refine al_take (op_load_ptr Try.underlying4 info4 rfl rfl rfl rfl) rfl rfl rfl rfl (by simp) ?_
  refine al_take (op_not rfl) rfl rfl rfl rfl (by simp) ?_
  refine al_op (op_pick rfl rfl) rfl (by simp) ?_
  refine al_nil ⟨rfl, rfl, rfl, keep_of ?_⟩
  repeat (first | exact subx_refl | exact subx_known rfl gh1 subx_refl | refine subx_put rfl ?_)
 ·intro h1; have gh1 := h1
  try simp only [nrm] at h1
  refine al_pass rfl rfl rfl rfl (by simp) ?_
  refine al_pass rfl rfl rfl rfl (by simp) ?_
  refine al_pass rfl rfl rfl rfl (by simp) ?_
  refine al_pass rfl rfl rfl rfl (by simp) ?_
  refine al_pass rfl rfl rfl rfl (by simp) ?_
  refine al_op (op_pick rfl rfl) rfl (by simp) ?_
  refine al_nil ⟨rfl, rfl, rfl, keep_of ?_⟩
  repeat (first | exact subx_refl | exact subx_known rfl gh1 subx_refl | refine subx_put rfl ?_)
 refine al_nil ?_
 refine aw_cond rfl (fun h2 => ?_) (fun h2 => ?_)
 ·have gh2 := h2
  try simp only [nrm] at h2
  exact absurd gh2 (by decide)
 ·have gh2 := h2
  try simp only [nrm] at h2
  refine aw_skip ?_
  refine aw_seq ?_
  refine aw_seq ?_
  refine aw_region ?_
  refine al_op (op_move rfl) rfl (by simp) ?_
  refine al_op (op_len_map Try.underlying54 rfl) rfl (by simp) ?_
  refine al_op (op_move rfl) rfl (by simp) ?_
  refine al_nil ?_
  refine aw_block ?_
  refine aw_forT (ι := Nat) [4, 18] [] (fun i => l.length - i) (fun i => i ≤ l.length ∧ allTo (s.litAt l) i = true) (fun i => ([(18, .v (.int .i64 (i)))] : Env)) (fun i s => s) (0) ?_ ?_ ?_ (fun i hinv => ?_)
  ·exact ⟨Nat.zero_le _, rfl⟩
  ·refine sub_cons (get_as rfl ?_) ?_; rotate_left; exact sub_nil
   all_goals (first | rfl | simp)
  ·rfl
  have hi := hinv.1
  refine aw_seq ?_
  refine aw_region ?_
  refine al_op (op_lss rfl rfl) rfl (by simp) ?_
  refine al_nil ?_
  refine aw_seq ?_
  refine aw_cond rfl (fun h3 => ?_) (fun h3 => ?_)
  ·have gh3 := h3
   try simp only [nrm] at h3
   refine aw_skip ?_
   refine aw_seq ?_
   refine aw_block ?_
   refine aw_seq ?_
   refine aw_region ?_
   refine al_op (op_index_map default Try.underlying54 info3 rfl rfl rfl (by first | (with_reducible exact Int.toNat_natCast _) | rfl) (by omega) (by omega)) rfl (by simp) ?_
   refine al_op (op_load_rptr Try.underlying3 info3 rfl rfl) rfl (by simp) ?_
   refine al_op (op_assign rfl) rfl (by simp) ?_
   refine al_nil ?_
   refine aw_seq ?_
   refine aw_region ?_
   refine al_op (op_move rfl) rfl (by simp) ?_
   refine al_op (op_lss rfl rfl) rfl (by simp) ?_
   refine al_op (op_move rfl) rfl (by simp) ?_
   apply al_or 5 24 29 rfl
   ·intro h4; have gh4 := h4
    try simp only [nrm] at h4
    refine al_take (op_move rfl) rfl rfl rfl rfl (by simp) ?_
    refine al_take (op_move rfl) rfl rfl rfl rfl (by simp) ?_
    refine al_callp_take into72 rfl rfl rfl rfl rfl rfl (m_first _ _ _ _ _ (by assumption)) (by simp) ?_
    refine al_take (op_geq rfl rfl) rfl rfl rfl rfl (by simp) ?_
    refine al_op (op_pick rfl rfl) rfl (by simp) ?_
    refine al_nil ⟨rfl, rfl, rfl, keep_of ?_⟩
    repeat (first | exact subx_refl | exact subx_known rfl gh4 subx_refl | refine subx_put rfl ?_)
   ·intro h4; have gh4 := h4
    try simp only [nrm] at h4
    refine al_pass rfl rfl rfl rfl (by simp) ?_
    refine al_pass rfl rfl rfl rfl (by simp) ?_
    refine al_pass rfl rfl rfl rfl (by simp) ?_
    refine al_pass rfl rfl rfl rfl (by simp) ?_
    refine al_op (op_pick rfl rfl) rfl (by simp) ?_
    refine al_nil ⟨rfl, rfl, rfl, keep_of ?_⟩
    repeat (first | exact subx_refl | exact subx_known rfl gh4 subx_refl | refine subx_put rfl ?_)
   refine al_nil ?_
   refine aw_cond rfl (fun h5 => ?_) (fun h5 => ?_)
   ·have gh5 := h5
    try simp only [nrm] at h5
    refine aw_seq ?_
    refine aw_region ?_
    refine al_op (op_assign rfl) rfl (by simp) ?_
    refine al_nil ?_
    refine aw_ret ?_
    refine ⟨_, res_1 rfl rfl, ?_⟩
    rw [MS.no_bad i (by omega) (congrArg Bool.not gh5)]; exact ⟨rfl, rfl⟩
   ·have gh5 := h5
    try simp only [nrm] at h5
    refine aw_skip ?_
    refine aw_region ?_
    refine al_op (op_add rfl rfl (by first | exact wrap_i64 (by omega) (by omega))) rfl (by simp) ?_
    refine al_op (op_move rfl) rfl (by simp) ?_
    refine al_nil ?_
    refine ⟨i + 1, ?_, ?_, ?_, ?_, ?_⟩
    ·omega
    ·exact ⟨by omega, allTo_succ hinv.2 (congrArg Bool.not gh5)⟩
    ·refine sub_cons (get_as rfl ?_) ?_; rotate_left; exact sub_nil
     all_goals (first | rfl | simp)
    ·repeat (first | exact subx_refl | exact subx_del | refine subx_put rfl ?_)
    ·rfl
  ·have gh3 := h3
   try simp only [nrm] at h3
   refine aw_exit ?_
   obtain rfl : i = l.length := by omega
   refine aw_seq ?_
   refine aw_region ?_
   refine al_op (op_assign rfl) rfl (by simp) ?_
   refine al_nil ?_
   refine aw_ret ?_
   refine ⟨_, res_1 rfl rfl, ?_⟩
   rw [MS.no_ok hinv.2]; exact ⟨rfl, rfl⟩

theorem m_And (s : MS) (vm vg vt vr : Nat) (a b : Int) (hs : s.OK) : AC Try.prog 31 [.ptr 0 vm 0 0, .v (.int .i64 (a)), .v (.int .i64 (b))] (mk0 s vm vg vt vr) (fun r σ' => ∃ vg', r = .ret (.tuple [.v (.int .i64 ((s.and a b).1.1)), .v (.int .i64 ((s.and a b).1.2))]) ∧ σ' = mk0 (s.and a b).2 vm vg' vt vr) := by
 refine ac_enter 89 Try.func31 rfl rfl (by simp) ?_
 refine aw_seq ?_
 refine aw_region ?_
 refine al_op (op_assign rfl) rfl (by simp) ?_
 refine al_op (op_assign rfl) rfl (by simp) ?_
 refine al_nil ?_
 refine aw_seq ?_
 refine aw_seq ?_
 refine aw_region ?_
 refine al_op (op_move rfl) rfl (by simp) ?_
 refine al_op (op_move rfl) rfl (by simp) ?_
 refine al_op (op_move rfl) rfl (by simp) ?_
 refine al_op (op_list encI [a, b] Try.underlying54 info3 rfl rfl (by decide) rfl (by decide) rfl (by first | rfl | (repeat (first | exact parts_nil | refine parts_cons rfl (by repeat (first | exact all_live_nil | refine all_live_clo rfl ?_ | refine all_live_slice rfl ?_ | refine all_live_map rfl ?_ | refine all_live_ptr rfl ?_)) ?_))) rfl rfl rfl rfl) rfl (by simp) ?_
 refine al_callp into71 rfl rfl rfl (m_no _ _ _ _ _ _ (by assumption) (by first | assumption | simp)) (by simp) ?_
 refine al_op (op_assign rfl) rfl (by simp) ?_
 refine al_nil ?_
 refine aw_seq ?_
 refine aw_region ?_
 refine al_op (op_move rfl) rfl (by simp) ?_
 refine al_op (op_neq rfl rfl) rfl (by simp) ?_
 refine al_nil ?_
 refine aw_cond rfl (fun h1 => ?_) (fun h1 => ?_)
 ·have gh1 := h1
  try simp only [nrm] at h1
  refine aw_seq ?_
  refine aw_region ?_
  refine al_op (op_move rfl) rfl (by simp) ?_
  refine al_op (op_assign rfl) rfl (by simp) ?_
  refine al_op (op_assign rfl) rfl (by simp) ?_
  refine al_nil ?_
  refine aw_ret ?_
  refine ⟨_, res_2 rfl rfl rfl rfl rfl, ?_⟩
  rw [MS.and_no gh1]; exact ⟨_, rfl, rfl⟩
 ·have gh1 := h1
  try simp only [nrm] at h1
  have hno : s.no [a, b] = 0 := by simpa using gh1
  obtain ⟨q1, q2, q3, q4⟩ := MS.no_two hno
  obtain ⟨q5, q6⟩ := hs.lits
  have hs0 := hs
  obtain ⟨k1, k2, k3⟩ := hs0
  refine aw_skip ?_
  refine aw_seq ?_
  refine aw_region ?_
  refine al_op (op_move rfl) rfl (by simp) ?_
  refine al_op (op_move rfl) rfl (by simp) ?_
  refine al_op (op_min rfl rfl) rfl (by simp) ?_
  refine al_op (op_move rfl) rfl (by simp) ?_
  refine al_op (op_move rfl) rfl (by simp) ?_
  refine al_op (op_max rfl rfl) rfl (by simp) ?_
  refine al_op (op_assign rfl) rfl (by simp) ?_
  refine al_op (op_assign rfl) rfl (by simp) ?_
  refine al_nil ?_
  refine aw_seq ?_
  refine aw_block ?_
  refine aw_seq ?_
  refine aw_region ?_
  refine al_op (op_move rfl) rfl (by simp) ?_
  refine al_op (op_eql rfl rfl) rfl (by simp) ?_
  refine al_op (op_move rfl) rfl (by simp) ?_
  apply al_or 5 29 34 rfl
  ·intro h2; have gh2 := h2
   try simp only [nrm] at h2
   refine al_take (op_move rfl) rfl rfl rfl rfl (by simp) ?_
   refine al_take (op_bitxor rfl rfl (xor_one (by omega) (by omega))) rfl rfl rfl rfl (by simp) ?_
   refine al_take (op_move rfl) rfl rfl rfl rfl (by simp) ?_
   refine al_take (op_eql rfl rfl) rfl rfl rfl rfl (by simp) ?_
   refine al_op (op_pick rfl rfl) rfl (by simp) ?_
   refine al_nil ⟨rfl, rfl, rfl, keep_of ?_⟩
   repeat (first | exact subx_refl | exact subx_known rfl gh2 subx_refl | refine subx_put rfl ?_)
  ·intro h2; have gh2 := h2
   try simp only [nrm] at h2
   refine al_pass rfl rfl rfl rfl (by simp) ?_
   refine al_pass rfl rfl rfl rfl (by simp) ?_
   refine al_pass rfl rfl rfl rfl (by simp) ?_
   refine al_pass rfl rfl rfl rfl (by simp) ?_
   refine al_op (op_pick rfl rfl) rfl (by simp) ?_
   refine al_nil ⟨rfl, rfl, rfl, keep_of ?_⟩
   repeat (first | exact subx_refl | exact subx_known rfl gh2 subx_refl | refine subx_put rfl ?_)
  refine al_op (op_assign rfl) rfl (by simp) ?_
  refine al_nil ?_
  refine aw_cond rfl (fun h3 => ?_) (fun h3 => ?_)
  ·have gh3 := h3
   try simp only [nrm] at h3
   refine aw_seq ?_
   refine aw_region ?_
   refine al_op (op_assign rfl) rfl (by simp) ?_
   refine al_op (op_assign rfl) rfl (by simp) ?_
   refine al_nil ?_
   refine aw_ret ?_
   refine ⟨_, res_2 rfl rfl rfl rfl rfl, ?_⟩
   rw [MS.and_zero hno gh3]; exact ⟨_, rfl, rfl⟩
  ·have gh3 := h3
   try simp only [nrm] at h3
   refine aw_seq ?_
   refine aw_region ?_
   refine al_op (op_move rfl) rfl (by simp) ?_
   refine al_op (op_eql rfl rfl) rfl (by simp) ?_
   refine al_op (op_move rfl) rfl (by simp) ?_
   apply al_or 4 38 42 rfl
   ·intro h4; have gh4 := h4
    try simp only [nrm] at h4
    refine al_take (op_move rfl) rfl rfl rfl rfl (by simp) ?_
    refine al_take (op_move rfl) rfl rfl rfl rfl (by simp) ?_
    refine al_take (op_eql rfl rfl) rfl rfl rfl rfl (by simp) ?_
    refine al_op (op_pick rfl rfl) rfl (by simp) ?_
    refine al_nil ⟨rfl, rfl, rfl, keep_of ?_⟩
    repeat (first | exact subx_refl | exact subx_known rfl gh4 subx_refl | refine subx_put rfl ?_)
   ·intro h4; have gh4 := h4
    try simp only [nrm] at h4
    refine al_pass rfl rfl rfl rfl (by simp) ?_
    refine al_pass rfl rfl rfl rfl (by simp) ?_
    refine al_pass rfl rfl rfl rfl (by simp) ?_
    refine al_op (op_pick rfl rfl) rfl (by simp) ?_
    refine al_nil ⟨rfl, rfl, rfl, keep_of ?_⟩
    repeat (first | exact subx_refl | exact subx_known rfl gh4 subx_refl | refine subx_put rfl ?_)
   refine al_op (op_assign rfl) rfl (by simp) ?_
   refine al_nil ?_
   refine aw_cond rfl (fun h5 => ?_) (fun h5 => ?_)
   ·have gh5 := h5
    try simp only [nrm] at h5
    refine aw_seq ?_
    refine aw_region ?_
    refine al_op (op_move rfl) rfl (by simp) ?_
    refine al_op (op_assign rfl) rfl (by simp) ?_
    refine al_op (op_assign rfl) rfl (by simp) ?_
    refine al_nil ?_
    refine aw_ret ?_
    refine ⟨_, res_2 rfl rfl rfl rfl rfl, ?_⟩
    rw [MS.and_one hno gh3 gh5]; exact ⟨_, rfl, rfl⟩
   ·have gh5 := h5
    try simp only [nrm] at h5
    refine aw_skip ?_
    refine aw_seq ?_
    refine aw_seq ?_
    refine aw_region ?_
    refine al_op (op_move rfl) rfl (by simp) ?_
    refine al_op (op_nilCheck_ptr rfl rfl) rfl (by simp) ?_
    refine al_op (op_field_ptr Try.underlying73 rfl info71 (by decide) rfl rfl rfl) rfl (by simp) ?_
    refine al_op (op_load_ptr Try.underlying71 info71 rfl rfl rfl rfl) rfl (by simp) ?_
    refine al_op (op_move rfl) rfl (by simp) ?_
    refine al_op (op_move rfl) rfl (by simp) ?_
    refine al_op (op_build_array Try.underlying86 info86 rfl info3 rfl (by first | rfl | (repeat (first | exact parts_nil | refine parts_cons rfl (by repeat (first | exact all_live_nil | refine all_live_clo rfl ?_ | refine all_live_slice rfl ?_ | refine all_live_map rfl ?_ | refine all_live_ptr rfl ?_)) ?_))) rfl) rfl (by simp) ?_
    refine al_op (op_lookup_th (min a b, max a b) Try.underlying71 Try.underlying86 Try.underlying3 info3 rfl info3 rfl rfl rfl rfl rfl) rfl (by simp) ?_
    refine al_op (op_move rfl) rfl (by simp) ?_
    refine al_op (op_extract rfl rfl rfl) rfl (by simp) ?_
    refine al_op (op_extract rfl rfl rfl) rfl (by simp) ?_
    refine al_op (op_assign rfl) rfl (by simp) ?_
    refine al_op (op_assign rfl) rfl (by simp) ?_
    refine al_nil ?_
    refine aw_seq ?_
    refine aw_region ?_
    refine al_op (op_move rfl) rfl (by simp) ?_
    refine al_nil ?_
    refine aw_cond rfl (fun h6 => ?_) (fun h6 => ?_)
    ·have gh6 := h6
     try simp only [nrm] at h6
     refine aw_seq ?_
     refine aw_region ?_
     refine al_op (op_move rfl) rfl (by simp) ?_
     refine al_op (op_assign rfl) rfl (by simp) ?_
     refine al_op (op_assign rfl) rfl (by simp) ?_
     refine al_nil ?_
     refine aw_ret ?_
     refine ⟨_, res_2 rfl rfl rfl rfl rfl, ?_⟩
     rw [MS.and_there hno gh3 gh5 gh6]; exact ⟨_, rfl, rfl⟩
    ·have gh6 := h6
     try simp only [nrm] at h6
     refine aw_skip ?_
     refine aw_seq ?_
     refine aw_seq ?_
     refine aw_region ?_
     refine al_op (op_move rfl) rfl (by simp) ?_
     refine al_op (op_nilCheck_ptr rfl rfl) rfl (by simp) ?_
     refine al_op (op_field_ptr Try.underlying73 rfl info27 (by decide) rfl rfl rfl) rfl (by simp) ?_
     refine al_op (op_field_ptr Try.underlying27 rfl info24 (by decide) rfl rfl rfl) rfl (by simp) ?_
     refine al_op (op_load_ptr Try.underlying24 info24 rfl rfl rfl rfl) rfl (by simp) ?_
     refine al_op (op_len_slice Try.underlying24 rfl rfl) rfl (by simp) ?_
     refine al_op (op_geq rfl rfl) rfl (by simp) ?_
     refine al_nil ?_
     refine aw_cond rfl (fun h7 => ?_) (fun h7 => ?_)
     ·have gh7 := h7
      try simp only [nrm] at h7
      refine aw_seq ?_
      refine aw_region ?_
      refine al_op (op_assign rfl) rfl (by simp) ?_
      refine al_op (op_assign rfl) rfl (by simp) ?_
      refine al_nil ?_
      refine aw_ret ?_
      refine ⟨_, res_2 rfl rfl rfl rfl rfl, ?_⟩
      rw [MS.and_full hno gh3 gh5 gh6 (by omega)]; exact ⟨_, rfl, rfl⟩
     ·have gh7 := h7
      try simp only [nrm] at h7
      refine aw_skip ?_
      refine aw_seq ?_
      refine aw_region ?_
      refine al_op (op_move rfl) rfl (by simp) ?_
      refine al_callp into72 rfl rfl rfl (m_first _ _ _ _ _ (by assumption)) (by simp) ?_
      refine al_op (op_assign rfl) rfl (by simp) ?_
      refine al_nil ?_
      refine aw_seq ?_
      refine aw_region ?_
      refine al_op (op_move rfl) rfl (by simp) ?_
      refine al_op (op_move rfl) rfl (by simp) ?_
      refine al_op (op_nilCheck_ptr rfl rfl) rfl (by simp) ?_
      refine al_op (op_field_ptr Try.underlying73 rfl info27 (by decide) rfl rfl rfl) rfl (by simp) ?_
      refine al_op (op_field_ptr Try.underlying27 rfl info24 (by decide) rfl rfl rfl) rfl (by simp) ?_
      refine al_op (op_load_ptr Try.underlying24 info24 rfl rfl rfl rfl) rfl (by simp) ?_
      refine al_op (op_move rfl) rfl (by simp) ?_
      refine al_op (op_move rfl) rfl (by simp) ?_
      refine al_op (op_build_array Try.underlying86 info86 rfl info3 rfl (by first | rfl | (repeat (first | exact parts_nil | refine parts_cons rfl (by repeat (first | exact all_live_nil | refine all_live_clo rfl ?_ | refine all_live_slice rfl ?_ | refine all_live_map rfl ?_ | refine all_live_ptr rfl ?_)) ?_))) rfl) rfl (by simp) ?_
      refine al_op (op_buildSlice Try.underlying24 info86 rfl rfl (by decide) rfl (by decide) rfl (by first | rfl | (repeat (first | exact parts_nil | refine parts_cons rfl (by repeat (first | exact all_live_nil | refine all_live_clo rfl ?_ | refine all_live_slice rfl ?_ | refine all_live_map rfl ?_ | refine all_live_ptr rfl ?_)) ?_))) rfl rfl rfl) rfl (by simp) ?_
      (refine al_opR (op_append_one (min a b, max a b) Try.underlying24 Try.underlying24 rfl info86 rfl rfl (by decide) rfl rfl rfl (by first | rfl | simp) rfl rfl (by first | omega | (simp; done) | (simp; omega)) (by show _ * 16 ≤ _; first | omega | (simp; done) | (simp; omega))) rfl (by simp) ?_; rintro _ _ ⟨ver76, rfl, rfl⟩)
      refine al_op (op_nilCheck_ptr rfl rfl) rfl (by simp) ?_
      refine al_op (op_field_ptr Try.underlying73 rfl info27 (by decide) rfl rfl rfl) rfl (by simp) ?_
      refine al_op (op_field_ptr Try.underlying27 rfl info24 (by decide) rfl rfl rfl) rfl (by simp) ?_
      refine al_op (op_store_ptr info24 rfl rfl rfl rfl rfl rfl (by first | rfl | exact live_one rfl | (repeat (first | exact all_live_nil | refine all_live_clo rfl ?_ | refine all_live_slice rfl ?_ | refine all_live_map rfl ?_ | refine all_live_ptr rfl ?_))) (Nat.le_of_ble_eq_true rfl)) rfl (by simp) ?_
      refine al_nil ?_
      refine aw_seq ?_
      refine aw_region ?_
      refine al_op (op_move rfl) rfl (by simp) ?_
      refine al_op (op_nilCheck_ptr rfl rfl) rfl (by simp) ?_
      refine al_op (op_field_ptr Try.underlying73 rfl info71 (by decide) rfl rfl rfl) rfl (by simp) ?_
      refine al_op (op_load_ptr Try.underlying71 info71 rfl rfl rfl rfl) rfl (by simp) ?_
      refine al_op (op_move rfl) rfl (by simp) ?_
      refine al_op (op_move rfl) rfl (by simp) ?_
      refine al_op (op_build_array Try.underlying86 info86 rfl info3 rfl (by first | rfl | (repeat (first | exact parts_nil | refine parts_cons rfl (by repeat (first | exact all_live_nil | refine all_live_clo rfl ?_ | refine all_live_slice rfl ?_ | refine all_live_map rfl ?_ | refine all_live_ptr rfl ?_)) ?_))) rfl) rfl (by simp) ?_
      refine al_op (op_move rfl) rfl (by simp) ?_
      refine al_op (op_update_th (min a b, max a b) Try.underlying71 Try.underlying86 Try.underlying3 info3 rfl rfl rfl rfl rfl rfl (by simpa using gh6)) rfl (by simp) ?_
      refine al_nil ?_
      refine aw_seq ?_
      refine aw_region ?_
      refine al_op (op_move rfl) rfl (by simp) ?_
      refine al_op (op_assign rfl) rfl (by simp) ?_
      refine al_op (op_assign rfl) rfl (by simp) ?_
      refine al_nil ?_
      refine aw_ret ?_
      refine ⟨_, res_2 rfl rfl rfl rfl rfl, ?_⟩
      rw [MS.and_new hno gh3 gh5 gh6 (by omega)]; exact ⟨_, rfl, rfl⟩

theorem m_Or (s : MS) (vm vg vt vr : Nat) (a b : Int) (hs : s.OK) : AC Try.prog 33 [.ptr 0 vm 0 0, .v (.int .i64 (a)), .v (.int .i64 (b))] (mk0 s vm vg vt vr) (fun r σ' => ∃ vg', r = .ret (.tuple [.v (.int .i64 ((s.or a b).1.1)), .v (.int .i64 ((s.or a b).1.2))]) ∧ σ' = mk0 (s.or a b).2 vm vg' vt vr) := by
 refine ac_enter 33 Try.func33 rfl rfl (by simp) ?_
 refine aw_seq ?_
 refine aw_region ?_
 refine al_op (op_assign rfl) rfl (by simp) ?_
 refine al_op (op_assign rfl) rfl (by simp) ?_
 refine al_nil ?_
 refine aw_seq ?_
 refine aw_seq ?_
 refine aw_region ?_
 refine al_op (op_move rfl) rfl (by simp) ?_
 refine al_op (op_move rfl) rfl (by simp) ?_
 refine al_op (op_move rfl) rfl (by simp) ?_
 refine al_op (op_list encI [a, b] Try.underlying54 info3 rfl rfl (by decide) rfl (by decide) rfl (by first | rfl | (repeat (first | exact parts_nil | refine parts_cons rfl (by repeat (first | exact all_live_nil | refine all_live_clo rfl ?_ | refine all_live_slice rfl ?_ | refine all_live_map rfl ?_ | refine all_live_ptr rfl ?_)) ?_))) rfl rfl rfl rfl) rfl (by simp) ?_
 refine al_callp into71 rfl rfl rfl (m_no _ _ _ _ _ _ (by assumption) (by first | assumption | simp)) (by simp) ?_
 refine al_op (op_assign rfl) rfl (by simp) ?_
 refine al_nil ?_
 refine aw_seq ?_
 refine aw_region ?_
 refine al_op (op_move rfl) rfl (by simp) ?_
 refine al_op (op_neq rfl rfl) rfl (by simp) ?_
 refine al_nil ?_
 refine aw_cond rfl (fun h1 => ?_) (fun h1 => ?_)
 ·have gh1 := h1
  try simp only [nrm] at h1
  refine aw_seq ?_
  refine aw_region ?_
  refine al_op (op_move rfl) rfl (by simp) ?_
  refine al_op (op_assign rfl) rfl (by simp) ?_
  refine al_op (op_assign rfl) rfl (by simp) ?_
  refine al_nil ?_
  refine aw_ret ?_
  refine ⟨_, res_2 rfl rfl rfl rfl rfl, ?_⟩
  rw [MS.or_no gh1]; exact ⟨_, rfl, rfl⟩
 ·have gh1 := h1
  try simp only [nrm] at h1
  have hno : s.no [a, b] = 0 := by simpa using gh1
  obtain ⟨q1, q2, q3, q4⟩ := MS.no_two hno
  obtain ⟨q5, q6⟩ := hs.lits
  obtain ⟨q7, q8⟩ := MS.and_lit hs (flip a) (flip b)
  refine aw_skip ?_
  refine aw_seq ?_
  refine aw_region ?_
  refine al_op (op_move rfl) rfl (by simp) ?_
  refine al_op (op_move rfl) rfl (by simp) ?_
  refine al_op (op_bitxor rfl rfl (xor_one (by omega) (by omega))) rfl (by simp) ?_
  refine al_op (op_move rfl) rfl (by simp) ?_
  refine al_op (op_bitxor rfl rfl (xor_one (by omega) (by omega))) rfl (by simp) ?_
  (refine al_call into31 rfl rfl rfl (m_And _ _ _ _ _ _ _ (by assumption)) (by simp) ?_; rintro _ _ ⟨vg25, rfl, rfl⟩)
  refine al_op (op_move rfl) rfl (by simp) ?_
  refine al_op (op_extract rfl rfl rfl) rfl (by simp) ?_
  refine al_op (op_extract rfl rfl rfl) rfl (by simp) ?_
  refine al_op (op_assign rfl) rfl (by simp) ?_
  refine al_op (op_assign rfl) rfl (by simp) ?_
  refine al_nil ?_
  refine aw_seq ?_
  refine aw_seq ?_
  refine aw_region ?_
  refine al_op (op_move rfl) rfl (by simp) ?_
  refine al_op (op_neq rfl rfl) rfl (by simp) ?_
  refine al_nil ?_
  refine aw_cond rfl (fun h2 => ?_) (fun h2 => ?_)
  ·have gh2 := h2
   try simp only [nrm] at h2
   refine aw_seq ?_
   refine aw_region ?_
   refine al_op (op_move rfl) rfl (by simp) ?_
   refine al_op (op_assign rfl) rfl (by simp) ?_
   refine al_op (op_assign rfl) rfl (by simp) ?_
   refine al_nil ?_
   refine aw_ret ?_
   refine ⟨_, res_2 rfl rfl rfl rfl rfl, ?_⟩
   rw [MS.or_err hno gh2]; exact ⟨_, rfl, rfl⟩
  ·have gh2 := h2
   try simp only [nrm] at h2
   refine aw_skip ?_
   refine aw_seq ?_
   refine aw_region ?_
   refine al_op (op_move rfl) rfl (by simp) ?_
   refine al_op (op_bitxor rfl rfl (xor_one (by omega) (by omega))) rfl (by simp) ?_
   refine al_op (op_assign rfl) rfl (by simp) ?_
   refine al_op (op_assign rfl) rfl (by simp) ?_
   refine al_nil ?_
   refine aw_ret ?_
   refine ⟨_, res_2 rfl rfl rfl rfl rfl, ?_⟩
   rw [MS.or_ok hno gh2]; exact ⟨_, rfl, rfl⟩

theorem q_clone_S (l : List ByteArray) (hl : l.length * 16 ≤ 140737488355328) : AC Try.prog 70 [.list 1 (l.map encS)] ([]) (fun r σ' => ∃ id ver, r = .ret (.slice id ver 0 (l.map encS).length) ∧ σ'.get id = some (ver, .row 1 (l.map encS))) := by
 refine ac_enter 8 Try.func70 rfl rfl (by simp) ?_
 refine aw_seq ?_
 refine aw_region ?_
 refine al_op (op_assign rfl) rfl (by simp) ?_
 refine al_nil ?_
 refine aw_seq ?_
 refine aw_seq ?_
 refine aw_region ?_
 refine al_op (op_move rfl) rfl (by simp) ?_
 (refine al_opR (op_snil Try.underlying22 rfl rfl) rfl (by simp) ?_; rintro _ _ ⟨⟨b4, rfl, hb4⟩, rfl⟩)
 refine al_nil ?_
 refine aw_cond rfl (fun h1 => ?_) (fun h1 => ?_)
 ·have gh1 := h1
  try simp only [nrm] at h1
  refine aw_seq ?_
  refine aw_region ?_
  refine al_op (op_assign rfl) rfl (by simp) ?_
  refine al_nil ?_
  refine aw_own_map encS 5 1 2 rfl rfl (fun ver2 => ?_)
  refine aw_ret ?_
  refine ⟨_, res_1 rfl rfl, ?_⟩
  have hl0 : l = [] := by simpa using hb4 gh1
  subst hl0
  exact ⟨5, ver2, rfl, rfl⟩
 ·have gh1 := h1
  try simp only [nrm] at h1
  refine aw_skip ?_
  refine aw_seq ?_
  refine aw_region ?_
  (refine al_opR (op_list_own encS ([] : List ByteArray) 5 Try.underlying22 info9 rfl rfl (by decide) rfl (by decide) rfl (by first | rfl | (repeat (first | exact parts_nil | refine parts_cons rfl (by repeat (first | exact all_live_nil | refine all_live_clo rfl ?_ | refine all_live_slice rfl ?_ | refine all_live_map rfl ?_ | refine all_live_ptr rfl ?_)) ?_))) rfl rfl (by first | rfl | (repeat (first | exact parts_nil | refine parts_cons rfl (by repeat (first | exact all_live_nil | refine all_live_clo rfl ?_ | refine all_live_slice rfl ?_ | refine all_live_map rfl ?_ | refine all_live_ptr rfl ?_)) ?_))) rfl rfl) rfl (by simp) ?_; rintro _ _ ⟨ver5, rfl, rfl⟩)
  refine al_op (op_move rfl) rfl (by simp) ?_
  (refine al_opR (op_append_map Try.underlying22 Try.underlying22 rfl info9 rfl rfl (by decide) rfl rfl rfl (by first | rfl | simp) rfl (by first | exact .list _ | exact .vnil | exact .nil | exact .row _ _ _ _ rfl (by first | rfl | simp)) rfl (by first | omega | (simp; done) | (simp; omega)) (by show _ * 16 ≤ _; first | omega | (simp; done) | (simp; omega))) rfl (by simp) ?_; rintro _ _ ⟨ver7, rfl, rfl⟩)
  refine al_op (op_assign rfl) rfl (by simp) ?_
  refine al_nil ?_
  refine aw_ret ?_
  refine ⟨_, res_1 rfl rfl, ?_⟩
  exact ⟨5, ver7, by rw [List.length_map]; rfl, rfl⟩
theorem n_clone_S (l : List ByteArray) (hl : l.length * 16 ≤ 140737488355328) : ACn Try.prog 70 [.list 1 (l.map encS)] (.list 1 (l.map encS)) := acn_of (q_clone_S l hl) (sca_map (fun _ => rfl))

theorem q_clone_R (l : List (ByteArray × Int × Int)) (hl : l.length * 32 ≤ 140737488355328) : AC Try.prog 93 [.list 3 (l.map encR)] ([]) (fun r σ' => ∃ id ver, r = .ret (.slice id ver 0 (l.map encR).length) ∧ σ'.get id = some (ver, .row 3 (l.map encR))) := by
 refine ac_enter 8 Try.func93 rfl rfl (by simp) ?_
 refine aw_seq ?_
 refine aw_region ?_
 refine al_op (op_assign rfl) rfl (by simp) ?_
 refine al_nil ?_
 refine aw_seq ?_
 refine aw_seq ?_
 refine aw_region ?_
 refine al_op (op_move rfl) rfl (by simp) ?_
 (refine al_opR (op_snil Try.underlying23 rfl rfl) rfl (by simp) ?_; rintro _ _ ⟨⟨b4, rfl, hb4⟩, rfl⟩)
 refine al_nil ?_
 refine aw_cond rfl (fun h1 => ?_) (fun h1 => ?_)
 ·have gh1 := h1
  try simp only [nrm] at h1
  refine aw_seq ?_
  refine aw_region ?_
  refine al_op (op_assign rfl) rfl (by simp) ?_
  refine al_nil ?_
  refine aw_own_map encR 5 3 2 rfl rfl (fun ver2 => ?_)
  refine aw_ret ?_
  refine ⟨_, res_1 rfl rfl, ?_⟩
  have hl0 : l = [] := by simpa using hb4 gh1
  subst hl0
  exact ⟨5, ver2, rfl, rfl⟩
 ·have gh1 := h1
  try simp only [nrm] at h1
  refine aw_skip ?_
  refine aw_seq ?_
  refine aw_region ?_
  (refine al_opR (op_list_own encR ([] : List (ByteArray × Int × Int)) 5 Try.underlying23 info93 rfl rfl (by decide) rfl (by decide) rfl (by first | rfl | (repeat (first | exact parts_nil | refine parts_cons rfl (by repeat (first | exact all_live_nil | refine all_live_clo rfl ?_ | refine all_live_slice rfl ?_ | refine all_live_map rfl ?_ | refine all_live_ptr rfl ?_)) ?_))) rfl rfl (by first | rfl | (repeat (first | exact parts_nil | refine parts_cons rfl (by repeat (first | exact all_live_nil | refine all_live_clo rfl ?_ | refine all_live_slice rfl ?_ | refine all_live_map rfl ?_ | refine all_live_ptr rfl ?_)) ?_))) rfl rfl) rfl (by simp) ?_; rintro _ _ ⟨ver5, rfl, rfl⟩)
  refine al_op (op_move rfl) rfl (by simp) ?_
  (refine al_opR (op_append_map Try.underlying23 Try.underlying23 rfl info93 rfl rfl (by decide) rfl rfl rfl (by first | rfl | simp) rfl (by first | exact .list _ | exact .vnil | exact .nil | exact .row _ _ _ _ rfl (by first | rfl | simp)) rfl (by first | omega | (simp; done) | (simp; omega)) (by show _ * 32 ≤ _; first | omega | (simp; done) | (simp; omega))) rfl (by simp) ?_; rintro _ _ ⟨ver7, rfl, rfl⟩)
  refine al_op (op_assign rfl) rfl (by simp) ?_
  refine al_nil ?_
  refine aw_ret ?_
  refine ⟨_, res_1 rfl rfl, ?_⟩
  exact ⟨5, ver7, by rw [List.length_map]; rfl, rfl⟩
theorem n_clone_R (l : List (ByteArray × Int × Int)) (hl : l.length * 32 ≤ 140737488355328) : ACn Try.prog 93 [.list 3 (l.map encR)] (.list 3 (l.map encR)) := acn_of (q_clone_R l hl) (sca_map (fun _ => rfl))

theorem q_clone_G (l : List (Int × Int)) (hl : l.length * 16 ≤ 140737488355328) : AC Try.prog 94 [.list 2 (l.map encG)] ([]) (fun r σ' => ∃ id ver, r = .ret (.slice id ver 0 (l.map encG).length) ∧ σ'.get id = some (ver, .row 2 (l.map encG))) := by
 refine ac_enter 8 Try.func94 rfl rfl (by simp) ?_
 refine aw_seq ?_
 refine aw_region ?_
 refine al_op (op_assign rfl) rfl (by simp) ?_
 refine al_nil ?_
 refine aw_seq ?_
 refine aw_seq ?_
 refine aw_region ?_
 refine al_op (op_move rfl) rfl (by simp) ?_
 (refine al_opR (op_snil Try.underlying24 rfl rfl) rfl (by simp) ?_; rintro _ _ ⟨⟨b4, rfl, hb4⟩, rfl⟩)
 refine al_nil ?_
 refine aw_cond rfl (fun h1 => ?_) (fun h1 => ?_)
 ·have gh1 := h1
  try simp only [nrm] at h1
  refine aw_seq ?_
  refine aw_region ?_
  refine al_op (op_assign rfl) rfl (by simp) ?_
  refine al_nil ?_
  refine aw_own_map encG 5 2 2 rfl rfl (fun ver2 => ?_)
  refine aw_ret ?_
  refine ⟨_, res_1 rfl rfl, ?_⟩
  have hl0 : l = [] := by simpa using hb4 gh1
  subst hl0
  exact ⟨5, ver2, rfl, rfl⟩
 ·have gh1 := h1
  try simp only [nrm] at h1
  refine aw_skip ?_
  refine aw_seq ?_
  refine aw_region ?_
  (refine al_opR (op_list_own encG ([] : List (Int × Int)) 5 Try.underlying24 info86 rfl rfl (by decide) rfl (by decide) rfl (by first | rfl | (repeat (first | exact parts_nil | refine parts_cons rfl (by repeat (first | exact all_live_nil | refine all_live_clo rfl ?_ | refine all_live_slice rfl ?_ | refine all_live_map rfl ?_ | refine all_live_ptr rfl ?_)) ?_))) rfl rfl (by first | rfl | (repeat (first | exact parts_nil | refine parts_cons rfl (by repeat (first | exact all_live_nil | refine all_live_clo rfl ?_ | refine all_live_slice rfl ?_ | refine all_live_map rfl ?_ | refine all_live_ptr rfl ?_)) ?_))) rfl rfl) rfl (by simp) ?_; rintro _ _ ⟨ver5, rfl, rfl⟩)
  refine al_op (op_move rfl) rfl (by simp) ?_
  (refine al_opR (op_append_map Try.underlying24 Try.underlying24 rfl info86 rfl rfl (by decide) rfl rfl rfl (by first | rfl | simp) rfl (by first | exact .list _ | exact .vnil | exact .nil | exact .row _ _ _ _ rfl (by first | rfl | simp)) rfl (by first | omega | (simp; done) | (simp; omega)) (by show _ * 16 ≤ _; first | omega | (simp; done) | (simp; omega))) rfl (by simp) ?_; rintro _ _ ⟨ver7, rfl, rfl⟩)
  refine al_op (op_assign rfl) rfl (by simp) ?_
  refine al_nil ?_
  refine aw_ret ?_
  refine ⟨_, res_1 rfl rfl, ?_⟩
  exact ⟨5, ver7, by rw [List.length_map]; rfl, rfl⟩
theorem n_clone_G (l : List (Int × Int)) (hl : l.length * 16 ≤ 140737488355328) : ACn Try.prog 94 [.list 2 (l.map encG)] (.list 2 (l.map encG)) := acn_of (q_clone_G l hl) (sca_map (fun _ => rfl))

theorem q_clone_P (l : List (ByteArray × Int)) (hl : l.length * 24 ≤ 140737488355328) : AC Try.prog 78 [.list 2 (l.map encP)] ([]) (fun r σ' => ∃ id ver, r = .ret (.slice id ver 0 (l.map encP).length) ∧ σ'.get id = some (ver, .row 2 (l.map encP))) := by
 refine ac_enter 8 Try.func78 rfl rfl (by simp) ?_
 refine aw_seq ?_
 refine aw_region ?_
 refine al_op (op_assign rfl) rfl (by simp) ?_
 refine al_nil ?_
 refine aw_seq ?_
 refine aw_seq ?_
 refine aw_region ?_
 refine al_op (op_move rfl) rfl (by simp) ?_
 (refine al_opR (op_snil Try.underlying25 rfl rfl) rfl (by simp) ?_; rintro _ _ ⟨⟨b4, rfl, hb4⟩, rfl⟩)
 refine al_nil ?_
 refine aw_cond rfl (fun h1 => ?_) (fun h1 => ?_)
 ·have gh1 := h1
  try simp only [nrm] at h1
  refine aw_seq ?_
  refine aw_region ?_
  refine al_op (op_assign rfl) rfl (by simp) ?_
  refine al_nil ?_
  refine aw_own_map encP 5 2 2 rfl rfl (fun ver2 => ?_)
  refine aw_ret ?_
  refine ⟨_, res_1 rfl rfl, ?_⟩
  have hl0 : l = [] := by simpa using hb4 gh1
  subst hl0
  exact ⟨5, ver2, rfl, rfl⟩
 ·have gh1 := h1
  try simp only [nrm] at h1
  refine aw_skip ?_
  refine aw_seq ?_
  refine aw_region ?_
  (refine al_opR (op_list_own encP ([] : List (ByteArray × Int)) 5 Try.underlying25 info69 rfl rfl (by decide) rfl (by decide) rfl (by first | rfl | (repeat (first | exact parts_nil | refine parts_cons rfl (by repeat (first | exact all_live_nil | refine all_live_clo rfl ?_ | refine all_live_slice rfl ?_ | refine all_live_map rfl ?_ | refine all_live_ptr rfl ?_)) ?_))) rfl rfl (by first | rfl | (repeat (first | exact parts_nil | refine parts_cons rfl (by repeat (first | exact all_live_nil | refine all_live_clo rfl ?_ | refine all_live_slice rfl ?_ | refine all_live_map rfl ?_ | refine all_live_ptr rfl ?_)) ?_))) rfl rfl) rfl (by simp) ?_; rintro _ _ ⟨ver5, rfl, rfl⟩)
  refine al_op (op_move rfl) rfl (by simp) ?_
  (refine al_opR (op_append_map Try.underlying25 Try.underlying25 rfl info69 rfl rfl (by decide) rfl rfl rfl (by first | rfl | simp) rfl (by first | exact .list _ | exact .vnil | exact .nil | exact .row _ _ _ _ rfl (by first | rfl | simp)) rfl (by first | omega | (simp; done) | (simp; omega)) (by show _ * 24 ≤ _; first | omega | (simp; done) | (simp; omega))) rfl (by simp) ?_; rintro _ _ ⟨ver7, rfl, rfl⟩)
  refine al_op (op_assign rfl) rfl (by simp) ?_
  refine al_nil ?_
  refine aw_ret ?_
  refine ⟨_, res_1 rfl rfl, ?_⟩
  exact ⟨5, ver7, by rw [List.length_map]; rfl, rfl⟩
theorem n_clone_P (l : List (ByteArray × Int)) (hl : l.length * 24 ≤ 140737488355328) : ACn Try.prog 78 [.list 2 (l.map encP)] (.list 2 (l.map encP)) := acn_of (q_clone_P l hl) (sca_map (fun _ => rfl))

theorem q_copied (v0 v1 : Nat) (ins : List ByteArray) (regs : List (ByteArray × Int × Int)) (gates : List (Int × Int)) (outs : List (ByteArray × Int)) (z1 : ins.length * 16 ≤ 140737488355328) (z2 : regs.length * 32 ≤ 140737488355328) (z3 : gates.length * 16 ≤ 140737488355328) (z4 : outs.length * 24 ≤ 140737488355328) : AC Try.prog 77 [.agg [.list 1 (ins.map encS), .slice 0 v0 0 regs.length, .slice 1 v1 0 gates.length, .list 2 (outs.map encP)]] ([(0, v0, .row 3 (regs.map encR)), (1, v1, .row 2 (gates.map encG))]) (fun r σ' => r = .ret (encN ⟨ins, regs, gates, outs⟩) ∧ σ'.keep (fun i => decide (i ≤ 1)) = [(0, v0, .row 3 (regs.map encR)), (1, v1, .row 2 (gates.map encG))]) := by
 refine ac_enter 16 Try.func77 rfl rfl (by simp) ?_
 refine aw_seq ?_
 refine aw_region ?_
 (refine al_opR (op_box 31 rfl rfl (by first | rfl | exact live_one rfl | (repeat (first | exact all_live_nil | refine all_live_clo rfl ?_ | refine all_live_slice rfl ?_ | refine all_live_map rfl ?_ | refine all_live_ptr rfl ?_)))) rfl (by simp) ?_; rintro _ _ ⟨ver1, rfl, rfl⟩)
 (refine al_opR (op_alloc 32 info27 rfl rfl) rfl (by simp) ?_; rintro _ _ ⟨ver2, rfl, rfl⟩)
 refine al_nil ?_
 refine aw_seq ?_
 refine aw_any (Checked.mixed Try.checked) ?_
 apply aany_seg (p := 0) (q := 13) (by kernel_rfl) rfl (by decide)
 ·
  apply ql_plain rfl (op_field_ptr Try.underlying27 rfl info22 (by decide) rfl rfl rfl)
  apply ql_plain rfl (op_load_ptr Try.underlying22 info22 rfl rfl rfl rfl)
  apply ql_call into70 rfl rfl rfl (acn_lend (lend_cons (by first | exact lend_same | exact .leaf _ _ (.vnil _) | exact .leaf _ _ (.nil _) | exact lend_whole rfl (by first | rfl | (simp; done) | (simp; omega)) (clo_map (fun _ => rfl)) | exact lend_netg (by first | exact .same _ | exact lendL_vnil | exact lendL_whole rfl (by first | rfl | (simp; done) | (simp; omega)) (clo_map (fun _ => rfl))) (by first | exact .same _ | exact lendL_vnil | exact lendL_whole rfl (by first | rfl | (simp; done) | (simp; omega)) (clo_map (fun _ => rfl))) (by first | exact .same _ | exact lendL_vnil | exact lendL_whole rfl (by first | rfl | (simp; done) | (simp; omega)) (clo_map (fun _ => rfl))) (by first | exact .same _ | exact lendL_vnil | exact lendL_whole rfl (by first | rfl | (simp; done) | (simp; omega)) (clo_map (fun _ => rfl)))) lend_nil) (n_clone_S _ (by omega)))
  apply ql_plain rfl (op_field_ptr Try.underlying27 rfl info23 (by decide) rfl rfl rfl)
  apply ql_plain rfl (op_load_ptr Try.underlying23 info23 rfl rfl rfl rfl)
  apply ql_call into93 rfl rfl rfl (acn_lend (lend_cons (by first | exact lend_same | exact .leaf _ _ (.vnil _) | exact .leaf _ _ (.nil _) | exact lend_whole rfl (by first | rfl | (simp; done) | (simp; omega)) (clo_map (fun _ => rfl)) | exact lend_netg (by first | exact .same _ | exact lendL_vnil | exact lendL_whole rfl (by first | rfl | (simp; done) | (simp; omega)) (clo_map (fun _ => rfl))) (by first | exact .same _ | exact lendL_vnil | exact lendL_whole rfl (by first | rfl | (simp; done) | (simp; omega)) (clo_map (fun _ => rfl))) (by first | exact .same _ | exact lendL_vnil | exact lendL_whole rfl (by first | rfl | (simp; done) | (simp; omega)) (clo_map (fun _ => rfl))) (by first | exact .same _ | exact lendL_vnil | exact lendL_whole rfl (by first | rfl | (simp; done) | (simp; omega)) (clo_map (fun _ => rfl)))) lend_nil) (n_clone_R _ (by omega)))
  apply ql_plain rfl (op_field_ptr Try.underlying27 rfl info24 (by decide) rfl rfl rfl)
  apply ql_plain rfl (op_load_ptr Try.underlying24 info24 rfl rfl rfl rfl)
  apply ql_call into94 rfl rfl rfl (acn_lend (lend_cons (by first | exact lend_same | exact .leaf _ _ (.vnil _) | exact .leaf _ _ (.nil _) | exact lend_whole rfl (by first | rfl | (simp; done) | (simp; omega)) (clo_map (fun _ => rfl)) | exact lend_netg (by first | exact .same _ | exact lendL_vnil | exact lendL_whole rfl (by first | rfl | (simp; done) | (simp; omega)) (clo_map (fun _ => rfl))) (by first | exact .same _ | exact lendL_vnil | exact lendL_whole rfl (by first | rfl | (simp; done) | (simp; omega)) (clo_map (fun _ => rfl))) (by first | exact .same _ | exact lendL_vnil | exact lendL_whole rfl (by first | rfl | (simp; done) | (simp; omega)) (clo_map (fun _ => rfl))) (by first | exact .same _ | exact lendL_vnil | exact lendL_whole rfl (by first | rfl | (simp; done) | (simp; omega)) (clo_map (fun _ => rfl)))) lend_nil) (n_clone_G _ (by omega)))
  apply ql_plain rfl (op_field_ptr Try.underlying27 rfl info25 (by decide) rfl rfl rfl)
  apply ql_plain rfl (op_load_ptr Try.underlying25 info25 rfl rfl rfl rfl)
  apply ql_call into78 rfl rfl rfl (acn_lend (lend_cons (by first | exact lend_same | exact .leaf _ _ (.vnil _) | exact .leaf _ _ (.nil _) | exact lend_whole rfl (by first | rfl | (simp; done) | (simp; omega)) (clo_map (fun _ => rfl)) | exact lend_netg (by first | exact .same _ | exact lendL_vnil | exact lendL_whole rfl (by first | rfl | (simp; done) | (simp; omega)) (clo_map (fun _ => rfl))) (by first | exact .same _ | exact lendL_vnil | exact lendL_whole rfl (by first | rfl | (simp; done) | (simp; omega)) (clo_map (fun _ => rfl))) (by first | exact .same _ | exact lendL_vnil | exact lendL_whole rfl (by first | rfl | (simp; done) | (simp; omega)) (clo_map (fun _ => rfl))) (by first | exact .same _ | exact lendL_vnil | exact lendL_whole rfl (by first | rfl | (simp; done) | (simp; omega)) (clo_map (fun _ => rfl)))) lend_nil) (n_clone_P _ (by omega)))
  apply ql_plain rfl (op_build_struct Try.underlying27 info27 rfl place27 rfl (by first | rfl | (repeat (first | exact parts_nil | refine parts_cons rfl (by repeat (first | exact all_live_nil | refine all_live_clo rfl ?_ | refine all_live_slice rfl ?_ | refine all_live_map rfl ?_ | refine all_live_ptr rfl ?_)) ?_))) rfl)
  exact ql_nil
 ·simp
 refine aany_op (by kernel_rfl) rfl rfl (op_store_ptr info27 rfl rfl rfl rfl rfl rfl (by first | rfl | exact live_one rfl | (repeat (first | exact all_live_nil | refine all_live_clo rfl ?_ | refine all_live_slice rfl ?_ | refine all_live_map rfl ?_ | refine all_live_ptr rfl ?_))) (Nat.le_of_ble_eq_true rfl)) (by simp) ?_
 refine aany_end rfl (by kernel_rfl) ?_
 refine aw_ret ?_
 refine ⟨_, res_cell rfl Try.underlying27 info27 rfl rfl rfl rfl, ?_⟩
 exact ⟨rfl, rfl⟩
theorem m_copied {σ : Store} (r g v0 v1 : Nat) (ins : List ByteArray) (regs : List (ByteArray × Int × Int)) (gates : List (Int × Int)) (outs : List (ByteArray × Int)) (z1 : ins.length * 16 ≤ 140737488355328) (z2 : regs.length * 32 ≤ 140737488355328) (z3 : gates.length * 16 ≤ 140737488355328) (z4 : outs.length * 24 ≤ 140737488355328) (ht : tabOK [r, g] = true) (hb : σ.below 1000 = true) (h1 : σ.get r = some (v0, .row 3 (regs.map encR))) (h2 : σ.get g = some (v1, .row 2 (gates.map encG))) :
    AC Try.prog 77 [.agg [.list 1 (ins.map encS), .slice r v0 0 regs.length, .slice g v1 0 gates.length, .list 2 (outs.map encP)]] σ (fun x σ' => x = .ret (encN ⟨ins, regs, gates, outs⟩) ∧ σ' = σ) := by
  have h := ac_keep (fun i => decide (i ≤ 1)) (q_copied v0 v1 ins regs gates outs z1 z2 z3 z4)
  exact ac_ro [r, g] ht (ac_mono h (by rintro x σ1 ⟨σ2, ⟨rfl, e⟩, rfl⟩; exact ⟨rfl, e⟩)) (copied_match h1 h2) copied_free hb

theorem q_Net0 (s : MS) (vm vg vt vr : Nat) (outs : List (ByteArray × Int)) (hs : s.OK) (hreg : s.regs = []) (hn : (s.made outs).Small) (z4 : outs.length * 24 ≤ 140737488355328) : AC Try.prog 39 [.ptr 0 vm 0 0, .list 1 (([] : List Int).map encI), .list 2 (outs.map encP)] (mk0 s vm vg vt vr) (fun r σ' => r = .ret (.tuple [encN (s.net0 outs).1, .v (.int .i64 ((s.net0 outs).2))]) ∧ σ'.keep (fun i => decide (i ≤ 3)) = mk0 s vm vg vt vr) := by
 have hs0 := hs
 obtain ⟨k1, k2, k3, _⟩ := hs0
 refine ac_enter 55 Try.func39 rfl rfl (by simp) ?_
 refine aw_seq ?_
 refine aw_region ?_
 (refine al_opR (op_alloc 6 info27 rfl rfl) rfl (by simp) ?_; rintro _ _ ⟨ver6, rfl, rfl⟩)
 refine al_op (op_assign rfl) rfl (by simp) ?_
 refine al_nil ?_
 refine aw_seq ?_
 refine aw_seq ?_
 refine aw_region ?_
 refine al_op (op_move rfl) rfl (by simp) ?_
 refine al_callp into71 rfl rfl rfl (ac_told (re_cons (.leaf _ _ (.same _)) (re_cons (.leaf _ _ (.vnil 1)) re_nil)) (mk_ro (m := 0) (g := 1) (t := 2) (r := 3) (m_no s vm vg vt vr [] hs (by simp)) rfl rfl rfl rfl rfl rfl rfl rfl)) (by simp) ?_
 refine al_op (op_assign rfl) rfl (by simp) ?_
 refine al_nil ?_
 refine aw_seq ?_
 refine aw_region ?_
 refine al_op (op_move rfl) rfl (by simp) ?_
 refine al_op (op_neq rfl rfl) rfl (by simp) ?_
 refine al_nil ?_
 refine aw_cond rfl (fun h1 => ?_) (fun h1 => ?_)
 ·have gh1 := h1
  try simp only [nrm] at h1
  exact absurd gh1 (by simp [MS.no, allTo])
 ·have gh1 := h1
  try simp only [nrm] at h1
  refine aw_skip ?_
  refine aw_seq ?_
  refine aw_seq ?_
  refine aw_region ?_
  refine al_op (op_move rfl) rfl (by simp) ?_
  refine al_op (op_len_map Try.underlying54 rfl) rfl (by simp) ?_
  refine al_op (op_move rfl) rfl (by simp) ?_
  refine al_op (op_nilCheck_ptr rfl rfl) rfl (by simp) ?_
  refine al_op (op_field_ptr Try.underlying73 rfl info27 (by decide) rfl rfl rfl) rfl (by simp) ?_
  refine al_op (op_field_ptr Try.underlying27 rfl info23 (by decide) rfl rfl rfl) rfl (by simp) ?_
  refine al_op (op_load_ptr Try.underlying23 info23 rfl rfl rfl rfl) rfl (by simp) ?_
  refine al_op (op_len_slice Try.underlying23 rfl rfl) rfl (by simp) ?_
  refine al_op (op_neq rfl rfl) rfl (by simp) ?_
  refine al_nil ?_
  refine aw_cond rfl (fun h2 => ?_) (fun h2 => ?_)
  ·have gh2 := h2
   try simp only [nrm] at h2
   rw [hreg] at gh2; exact absurd gh2 (by decide)
  ·have gh2 := h2
   try simp only [nrm] at h2
   refine aw_skip ?_
   refine aw_seq ?_
   refine aw_region ?_
   refine al_op (op_move rfl) rfl (by simp) ?_
   refine al_op (op_nilCheck_ptr rfl rfl) rfl (by simp) ?_
   refine al_op (op_field_ptr Try.underlying73 rfl info27 (by decide) rfl rfl rfl) rfl (by simp) ?_
   refine al_op (op_load_ptr Try.underlying27 info27 rfl rfl rfl rfl) rfl (by simp) ?_
   refine al_callp into77 rfl rfl rfl (ac_told (re_cons (re2_agg (re2_cons (.same _) (re2_cons (.same _) (re2_cons (.same _) (re2_cons (.vnil 2) re2_nil))))) re_nil) (m_copied 3 1 vr vg s.ins s.regs s.gates [] (by omega) (by omega) (by omega) (by simp) rfl rfl rfl rfl)) (by simp) ?_
   (refine al_opR (op_alloc 9 info27 rfl rfl) rfl (by simp) ?_; rintro _ _ ⟨ver9, rfl, rfl⟩)
   refine al_op (op_store_ptr info27 rfl rfl rfl rfl rfl rfl (by first | rfl | exact live_one rfl | (repeat (first | exact all_live_nil | refine all_live_clo rfl ?_ | refine all_live_slice rfl ?_ | refine all_live_map rfl ?_ | refine all_live_ptr rfl ?_))) (Nat.le_of_ble_eq_true rfl)) rfl (by simp) ?_
   refine al_nil ?_
   refine aw_seq ?_
   refine aw_region ?_
   refine al_op (op_move rfl) rfl (by simp) ?_
   refine al_callp into78 rfl rfl rfl (acn_lend (lend_cons (by first | exact lend_same | exact .leaf _ _ (.vnil _) | exact .leaf _ _ (.nil _) | exact lend_whole rfl (by first | rfl | (simp; done) | (simp; omega)) (clo_map (fun _ => rfl)) | exact lend_netg (by first | exact .same _ | exact lendL_vnil | exact lendL_whole rfl (by first | rfl | (simp; done) | (simp; omega)) (clo_map (fun _ => rfl))) (by first | exact .same _ | exact lendL_vnil | exact lendL_whole rfl (by first | rfl | (simp; done) | (simp; omega)) (clo_map (fun _ => rfl))) (by first | exact .same _ | exact lendL_vnil | exact lendL_whole rfl (by first | rfl | (simp; done) | (simp; omega)) (clo_map (fun _ => rfl))) (by first | exact .same _ | exact lendL_vnil | exact lendL_whole rfl (by first | rfl | (simp; done) | (simp; omega)) (clo_map (fun _ => rfl)))) lend_nil) (n_clone_P _ (by omega))) (by simp) ?_
   refine al_op (op_field_ptr Try.underlying27 rfl info25 (by decide) rfl rfl rfl) rfl (by simp) ?_
   refine al_op (op_store_ptr info25 rfl rfl rfl rfl rfl rfl (by first | rfl | exact live_one rfl | (repeat (first | exact all_live_nil | refine all_live_clo rfl ?_ | refine all_live_slice rfl ?_ | refine all_live_map rfl ?_ | refine all_live_ptr rfl ?_))) (Nat.le_of_ble_eq_true rfl)) rfl (by simp) ?_
   refine al_nil ?_
   refine aw_seq ?_
   refine aw_seq ?_
   refine aw_region ?_
   refine al_op (op_move rfl) rfl (by simp) ?_
   refine al_op (op_len_map Try.underlying54 rfl) rfl (by simp) ?_
   refine al_op (op_move rfl) rfl (by simp) ?_
   refine al_nil ?_
   refine aw_block ?_
   refine aw_forT (ι := Nat) [38] [] (fun i => 0 - i) (fun i => True) (fun i => ([(38, .v (.int .i64 (i)))] : Env)) (fun i s => s) (0) ?_ ?_ ?_ (fun i hinv => ?_)
   ·first | trivial | omega | simp
   ·refine sub_cons (get_as rfl ?_) ?_; rotate_left; exact sub_nil
    all_goals (first | rfl | simp)
   ·rfl
   refine aw_seq ?_
   refine aw_region ?_
   refine al_op (op_lss rfl rfl) rfl (by simp) ?_
   refine al_nil ?_
   refine aw_seq ?_
   refine aw_cond rfl (fun h3 => ?_) (fun h3 => ?_)
   ·have gh3 := h3
    try simp only [nrm] at h3
    exact absurd h3 (by simp)
   ·have gh3 := h3
    try simp only [nrm] at h3
    refine aw_exit ?_
    refine aw_seq ?_
    refine aw_seq ?_
    refine aw_region ?_
    refine al_op (op_load_ptr Try.underlying27 info27 rfl rfl rfl rfl) rfl (by simp) ?_
    refine al_callp into27 rfl rfl rfl (c_valid (s.made outs) hn _) (by simp) ?_
    refine al_op (op_not rfl) rfl (by simp) ?_
    refine al_nil ?_
    refine aw_cond rfl (fun h4 => ?_) (fun h4 => ?_)
    ·have gh4 := h4
     try simp only [nrm] at h4
     refine aw_seq ?_
     refine aw_region ?_
     refine al_op (op_build_struct Try.underlying27 info27 rfl place27 rfl (by first | rfl | (repeat (first | exact parts_nil | refine parts_cons rfl (by repeat (first | exact all_live_nil | refine all_live_clo rfl ?_ | refine all_live_slice rfl ?_ | refine all_live_map rfl ?_ | refine all_live_ptr rfl ?_)) ?_))) rfl) rfl (by simp) ?_
     refine al_op (op_store_ptr info27 rfl rfl rfl rfl rfl rfl (by first | rfl | exact live_one rfl | (repeat (first | exact all_live_nil | refine all_live_clo rfl ?_ | refine all_live_slice rfl ?_ | refine all_live_map rfl ?_ | refine all_live_ptr rfl ?_))) (by decide)) rfl (by simp) ?_
     refine al_op (op_assign rfl) rfl (by simp) ?_
     refine al_nil ?_
     refine aw_ret ?_
     refine ⟨_, res_re2 (res_cell_tmp rfl Try.underlying27 info27 rfl rfl rfl rfl rfl rfl rfl) (re2_agg (re2_cons (.vnil 1) (re2_cons (.vnil 3) (re2_cons (.vnil 2) (re2_cons (.vnil 2) re2_nil))))) rfl rfl, ?_⟩
     rw [MS.net0, if_neg (by simpa using gh4)]; exact ⟨rfl, rfl⟩
    ·have gh4 := h4
     try simp only [nrm] at h4
     refine aw_skip ?_
     refine aw_seq ?_
     refine aw_region ?_
     refine al_op (op_load_ptr Try.underlying27 info27 rfl rfl rfl rfl) rfl (by simp) ?_
     refine al_op (op_store_ptr info27 rfl rfl rfl rfl rfl rfl (by first | rfl | exact live_one rfl | (repeat (first | exact all_live_nil | refine all_live_clo rfl ?_ | refine all_live_slice rfl ?_ | refine all_live_map rfl ?_ | refine all_live_ptr rfl ?_))) (Nat.le_of_ble_eq_true rfl)) rfl (by simp) ?_
     refine al_op (op_assign rfl) rfl (by simp) ?_
     refine al_nil ?_
     refine aw_ret ?_
     refine ⟨_, res_cell_tmp rfl Try.underlying27 info27 rfl rfl rfl rfl rfl rfl rfl, ?_⟩
     rw [MS.net0, if_pos (by simpa using gh4)]; exact ⟨rfl, rfl⟩

theorem m_Make0 (ins : List ByteArray) (hv : ((MS.start ins).made []).valid = true) (hn : ((MS.start ins).made []).Small) : AC Try.prog 28 [.list 1 (ins.map encS), .list 1 (([] : List ByteArray).map encS), .list 1 (([] : List Int).map encB)] ([]) (fun r σ' => ∃ vm vg vt vr, r = .ret (.tuple [.ptr 21 vm 0 0, .v (.int .i64 0)]) ∧ σ' = [(19, vt, .map (thEnts [])), (21, vm, .row 6 [(MS.start ins).cells 51 19 52 vg vt vr]), (51, vg, .row 2 (([] : List (Int × Int)).map encG)), (52, vr, .row 3 (([] : List (ByteArray × Int × Int)).map encR))]) := by
 have b1 := hn.insL
 refine ac_enter 54 Try.func28 rfl rfl (by simp) ?_
 refine aw_seq ?_
 refine aw_region ?_
 refine al_op (op_assign rfl) rfl (by simp) ?_
 refine al_op (op_assign rfl) rfl (by simp) ?_
 refine al_nil ?_
 refine aw_seq ?_
 refine aw_seq ?_
 refine aw_region ?_
 refine al_op (op_move rfl) rfl (by simp) ?_
 refine al_op (op_len_map Try.underlying28 rfl) rfl (by simp) ?_
 refine al_op (op_move rfl) rfl (by simp) ?_
 refine al_op (op_len_map Try.underlying22 rfl) rfl (by simp) ?_
 refine al_op (op_neq rfl rfl) rfl (by simp) ?_
 refine al_nil ?_
 refine aw_cond rfl (fun h1 => ?_) (fun h1 => ?_)
 ·have gh1 := h1
  try simp only [nrm] at h1
  exact absurd gh1 (by decide)
 ·have gh1 := h1
  try simp only [nrm] at h1
  refine aw_skip ?_
  refine aw_seq ?_
  refine aw_region ?_
  have b2 : ins.length ≤ 8796093022208 := b1
  refine al_op (op_move rfl) rfl (by simp) ?_
  refine al_callp into70 rfl rfl rfl (acn_lend (lend_cons (by first | exact lend_same | exact .leaf _ _ (.vnil _) | exact .leaf _ _ (.nil _) | exact lend_whole rfl (by first | rfl | (simp; done) | (simp; omega)) (clo_map (fun _ => rfl)) | exact lend_netg (by first | exact .same _ | exact lendL_vnil | exact lendL_whole rfl (by first | rfl | (simp; done) | (simp; omega)) (clo_map (fun _ => rfl))) (by first | exact .same _ | exact lendL_vnil | exact lendL_whole rfl (by first | rfl | (simp; done) | (simp; omega)) (clo_map (fun _ => rfl))) (by first | exact .same _ | exact lendL_vnil | exact lendL_whole rfl (by first | rfl | (simp; done) | (simp; omega)) (clo_map (fun _ => rfl))) (by first | exact .same _ | exact lendL_vnil | exact lendL_whole rfl (by first | rfl | (simp; done) | (simp; omega)) (clo_map (fun _ => rfl)))) lend_nil) (n_clone_S _ (by omega))) (by simp) ?_
  refine al_op (op_build_struct Try.underlying27 info27 rfl place27 rfl (by first | rfl | (repeat (first | exact parts_nil | refine parts_cons rfl (by repeat (first | exact all_live_nil | refine all_live_clo rfl ?_ | refine all_live_slice rfl ?_ | refine all_live_map rfl ?_ | refine all_live_ptr rfl ?_)) ?_))) rfl) rfl (by simp) ?_
  (refine al_opR (op_makeMap 19 Try.underlying71 (.inl rfl)) rfl (by simp) ?_; rintro _ _ ⟨ver19, rfl, rfl⟩)
  refine al_op (op_build_struct Try.underlying73 info73 rfl place73 rfl (by first | rfl | (repeat (first | exact parts_nil | refine parts_cons rfl (by repeat (first | exact all_live_nil | refine all_live_clo rfl ?_ | refine all_live_slice rfl ?_ | refine all_live_map rfl ?_ | refine all_live_ptr rfl ?_)) ?_))) rfl) rfl (by simp) ?_
  (refine al_opR (op_box 21 rfl rfl (by first | rfl | exact live_one rfl | (repeat (first | exact all_live_nil | refine all_live_clo rfl ?_ | refine all_live_slice rfl ?_ | refine all_live_map rfl ?_ | refine all_live_ptr rfl ?_)))) rfl (by simp) ?_; rintro _ _ ⟨ver21, rfl, rfl⟩)
  refine al_op (op_assign rfl) rfl (by simp) ?_
  refine al_nil ?_
  refine aw_seq ?_
  refine aw_seq ?_
  refine aw_region ?_
  refine al_op (op_move rfl) rfl (by simp) ?_
  refine al_op (op_len_map Try.underlying22 rfl) rfl (by simp) ?_
  refine al_op (op_move rfl) rfl (by simp) ?_
  refine al_nil ?_
  refine aw_block ?_
  refine aw_forT (ι := Nat) [24] [] (fun i => 0 - i) (fun i => True) (fun i => ([(24, .v (.int .i64 (i)))] : Env)) (fun i s => s) (0) ?_ ?_ ?_ (fun i hinv => ?_)
  ·first | trivial | omega | simp
  ·refine sub_cons (get_as rfl ?_) ?_; rotate_left; exact sub_nil
   all_goals (first | rfl | simp)
  ·rfl
  refine aw_seq ?_
  refine aw_region ?_
  refine al_op (op_lss rfl rfl) rfl (by simp) ?_
  refine al_nil ?_
  refine aw_seq ?_
  refine aw_cond rfl (fun h2 => ?_) (fun h2 => ?_)
  ·have gh2 := h2
   try simp only [nrm] at h2
   exact absurd h2 (by simp)
  ·have gh2 := h2
   try simp only [nrm] at h2
   refine aw_exit ?_
   refine aw_seq ?_
   refine aw_seq ?_
   refine aw_region ?_
   refine al_op (op_move rfl) rfl (by simp) ?_
   refine al_op (op_nilCheck_ptr rfl rfl) rfl (by simp) ?_
   refine al_op (op_field_ptr Try.underlying73 rfl info27 (by decide) rfl rfl rfl) rfl (by simp) ?_
   refine al_op (op_load_ptr Try.underlying27 info27 rfl rfl rfl rfl) rfl (by simp) ?_
   refine al_callp into27 rfl rfl rfl (ac_told (re_cons (re2_agg (re2_cons (.same _) (re2_cons (.vnil 3) (re2_cons (.vnil 2) (re2_cons (.vnil 2) re2_nil))))) re_nil) (c_valid ((MS.start ins).made []) hn _)) (by simp) ?_
   refine al_op (op_not rfl) rfl (by simp) ?_
   refine al_nil ?_
   refine aw_cond rfl (fun h3 => ?_) (fun h3 => ?_)
   ·have gh3 := h3
    try simp only [nrm] at h3
    rw [hv] at gh3; exact absurd gh3 (by decide)
   ·have gh3 := h3
    try simp only [nrm] at h3
    refine aw_skip ?_
    refine aw_seq ?_
    refine aw_region ?_
    refine al_op (op_move rfl) rfl (by simp) ?_
    refine al_op (op_assign rfl) rfl (by simp) ?_
    refine al_op (op_assign rfl) rfl (by simp) ?_
    refine al_nil ?_
    refine aw_own_in encG 21 51 2 3 (by decide) rfl rfl rfl (fun vg => ?_)
    refine aw_own_in encR 21 52 3 2 (by decide) rfl rfl rfl (fun vr => ?_)
    refine aw_ret ?_
    refine ⟨_, res_2 rfl rfl rfl rfl rfl, ?_⟩
    exact ⟨_, _, _, _, rfl, rfl⟩

theorem m_Net0 (s : MS) (vm vg vt vr : Nat) (outs : List (ByteArray × Int)) (hs : s.OK) (hreg : s.regs = []) (hn : (s.made outs).Small) (z4 : outs.length * 24 ≤ 140737488355328) :
    AC Try.prog 39 [.ptr 0 vm 0 0, .list 1 (([] : List Int).map encI), .list 2 (outs.map encP)] (mk0 s vm vg vt vr) (fun r σ' => r = .ret (.tuple [encN (s.net0 outs).1, .v (.int .i64 (s.net0 outs).2)]) ∧ σ' = mk0 s vm vg vt vr) :=
  ac_mono (ac_keep (fun i => decide (i ≤ 3)) (q_Net0 s vm vg vt vr outs hs hreg hn z4)) (by rintro x σ1 ⟨σ2, ⟨rfl, e⟩, rfl⟩; exact ⟨rfl, e⟩)
def aw (s : MS) (vm vg vt vr : Nat) : Store := [(19, vt, .map (thEnts s.th)), (21, vm, .row 6 [s.cells 51 19 52 vg vt vr]), (51, vg, .row 2 (s.gates.map encG)), (52, vr, .row 3 (s.regs.map encR))]
theorem setM_aw {s s' : MS} {vm vg vg' vt vr : Nat} : setM (aw s vm vg vt vr) 21 51 19 52 s' vm vg' vt vr = aw s' vm vg' vt vr := rfl
theorem aw_And (s : MS) (vm vg vt vr : Nat) (a b : Int) (hs : s.OK) : AC Try.prog 31 [.ptr 21 vm 0 0, .v (.int .i64 a), .v (.int .i64 b)] (aw s vm vg vt vr) (fun x σ' => ∃ vg', x = .ret (.tuple [.v (.int .i64 (s.and a b).1.1), .v (.int .i64 (s.and a b).1.2)]) ∧ σ' = aw (s.and a b).2 vm vg' vt vr) :=
  ac_mono (mk_at (m := 21) (g := 51) (t := 19) (r := 52) (m_And s vm vg vt vr a b hs) rfl rfl rfl rfl rfl rfl rfl rfl) (by rintro x σ' ⟨vg', rfl, rfl⟩; exact ⟨vg', rfl, setM_aw⟩)
theorem aw_Or (s : MS) (vm vg vt vr : Nat) (a b : Int) (hs : s.OK) : AC Try.prog 33 [.ptr 21 vm 0 0, .v (.int .i64 a), .v (.int .i64 b)] (aw s vm vg vt vr) (fun x σ' => ∃ vg', x = .ret (.tuple [.v (.int .i64 (s.or a b).1.1), .v (.int .i64 (s.or a b).1.2)]) ∧ σ' = aw (s.or a b).2 vm vg' vt vr) :=
  ac_mono (mk_at (m := 21) (g := 51) (t := 19) (r := 52) (m_Or s vm vg vt vr a b hs) rfl rfl rfl rfl rfl rfl rfl rfl) (by rintro x σ' ⟨vg', rfl, rfl⟩; exact ⟨vg', rfl, setM_aw⟩)
theorem aw_Net (s : MS) (vm vg vt vr : Nat) (outs : List (ByteArray × Int)) (hs : s.OK) (hreg : s.regs = []) (hn : (s.made outs).Small) (z4 : outs.length * 24 ≤ 140737488355328) :
    AC Try.prog 39 [.ptr 21 vm 0 0, .list 1 (([] : List Int).map encI), .list 2 (outs.map encP)] (aw s vm vg vt vr) (fun r σ' => r = .ret (.tuple [encN (s.net0 outs).1, .v (.int .i64 (s.net0 outs).2)]) ∧ σ' = aw s vm vg vt vr) :=
  mk_ro (m := 21) (g := 51) (t := 19) (r := 52) (m_Net0 s vm vg vt vr outs hs hreg hn z4) rfl rfl rfl rfl rfl rfl rfl rfl

theorem l_awake  : ACp Try.prog 15 [] (.v (.bool (true))) := by
 refine acp_of rfl ?_
 have hn5 : (W5.net0 outs5).1.Small := by rw [net5]; exact small5
 refine ac_enter 119 Try.func15 rfl rfl (by simp) ?_
 refine aw_seq ?_
 refine aw_region ?_
 refine al_op (op_assign rfl) rfl (by simp) ?_
 refine al_nil ?_
 refine aw_seq ?_
 refine aw_region ?_
 refine al_op (op_list encS [sA, sB] Try.underlying22 info9 rfl rfl (by decide) rfl (by decide) rfl (by first | rfl | (repeat (first | exact parts_nil | refine parts_cons rfl (by repeat (first | exact all_live_nil | refine all_live_clo rfl ?_ | refine all_live_slice rfl ?_ | refine all_live_map rfl ?_ | refine all_live_ptr rfl ?_)) ?_))) rfl rfl rfl rfl) rfl (by simp) ?_
 (refine al_call into28 rfl rfl rfl (ac_told (re_cons (.leaf _ _ (.same _)) (re_cons (.leaf _ _ (.vnil 1)) (re_cons (.leaf _ _ (.vnil 1)) re_nil))) (m_Make0 [sA, sB] valid_ab small_ab)) (by simp) ?_; rintro _ _ ⟨vm, vg, vt, vr, rfl, rfl⟩)
 refine al_op (op_move rfl) rfl (by simp) ?_
 refine al_op (op_extract rfl rfl rfl) rfl (by simp) ?_
 refine al_op (op_extract rfl rfl rfl) rfl (by simp) ?_
 refine al_op (op_assign rfl) rfl (by simp) ?_
 refine al_op (op_assign rfl) rfl (by simp) ?_
 refine al_nil ?_
 refine aw_seq ?_
 refine aw_seq ?_
 refine aw_region ?_
 refine al_op (op_move rfl) rfl (by simp) ?_
 refine al_op (op_neq rfl rfl) rfl (by simp) ?_
 refine al_op (op_move rfl) rfl (by simp) ?_
 apply al_or 3 25 28 rfl
 ·intro h1; have gh1 := h1
  try simp only [nrm] at h1
  refine al_take (op_move rfl) rfl rfl rfl rfl (by simp) ?_
  refine al_take (op_pnil_ptr Try.underlying48 rfl rfl rfl) rfl rfl rfl rfl (by simp) ?_
  refine al_op (op_pick rfl rfl) rfl (by simp) ?_
  refine al_nil ⟨rfl, rfl, rfl, keep_of ?_⟩
  repeat (first | exact subx_refl | exact subx_known rfl gh1 subx_refl | refine subx_put rfl ?_)
 ·intro h1; have gh1 := h1
  try simp only [nrm] at h1
  refine al_pass rfl rfl rfl rfl (by simp) ?_
  refine al_pass rfl rfl rfl rfl (by simp) ?_
  refine al_op (op_pick rfl rfl) rfl (by simp) ?_
  refine al_nil ⟨rfl, rfl, rfl, keep_of ?_⟩
  repeat (first | exact subx_refl | exact subx_known rfl gh1 subx_refl | refine subx_put rfl ?_)
 refine al_nil ?_
 refine aw_cond rfl (fun h2 => ?_) (fun h2 => ?_)
 ·have gh2 := h2
  try simp only [nrm] at h2
  exact absurd gh2 (by decide)
 ·have gh2 := h2
  try simp only [nrm] at h2
  refine aw_skip ?_
  refine aw_seq ?_
  refine aw_region ?_
  refine al_op (op_move rfl) rfl (by simp) ?_
  (refine al_call into31 rfl rfl rfl (aw_And W0 vm vg vt vr 2 5 w0_ok) (by simp) ?_; rintro _ _ ⟨vg31, rfl, rfl⟩)
  refine al_op (op_move rfl) rfl (by simp) ?_
  refine al_op (op_extract rfl rfl rfl) rfl (by simp) ?_
  refine al_op (op_extract rfl rfl rfl) rfl (by simp) ?_
  refine al_op (op_assign rfl) rfl (by simp) ?_
  refine al_op (op_assign rfl) rfl (by simp) ?_
  refine al_nil ?_
  refine aw_seq ?_
  refine aw_region ?_
  refine al_op (op_move rfl) rfl (by simp) ?_
  (refine al_call into31 rfl rfl rfl (aw_And W1 vm vg31 vt vr 5 2 w1_ok) (by simp) ?_; rintro _ _ ⟨vg36, rfl, rfl⟩)
  refine al_op (op_move rfl) rfl (by simp) ?_
  refine al_op (op_extract rfl rfl rfl) rfl (by simp) ?_
  refine al_op (op_extract rfl rfl rfl) rfl (by simp) ?_
  refine al_op (op_assign rfl) rfl (by simp) ?_
  refine al_op (op_assign rfl) rfl (by simp) ?_
  refine al_nil ?_
  refine aw_seq ?_
  refine aw_region ?_
  refine al_op (op_move rfl) rfl (by simp) ?_
  (refine al_call into31 rfl rfl rfl (aw_And W2 vm vg36 vt vr 2 3 w2_ok) (by simp) ?_; rintro _ _ ⟨vg41, rfl, rfl⟩)
  refine al_op (op_move rfl) rfl (by simp) ?_
  refine al_op (op_extract rfl rfl rfl) rfl (by simp) ?_
  refine al_op (op_extract rfl rfl rfl) rfl (by simp) ?_
  refine al_op (op_assign rfl) rfl (by simp) ?_
  refine al_op (op_assign rfl) rfl (by simp) ?_
  refine al_nil ?_
  refine aw_seq ?_
  refine aw_region ?_
  refine al_op (op_move rfl) rfl (by simp) ?_
  (refine al_call into33 rfl rfl rfl (aw_Or W3 vm vg41 vt vr 2 4 w3_ok) (by simp) ?_; rintro _ _ ⟨vg46, rfl, rfl⟩)
  refine al_op (op_move rfl) rfl (by simp) ?_
  refine al_op (op_extract rfl rfl rfl) rfl (by simp) ?_
  refine al_op (op_extract rfl rfl rfl) rfl (by simp) ?_
  refine al_op (op_assign rfl) rfl (by simp) ?_
  refine al_op (op_assign rfl) rfl (by simp) ?_
  refine al_nil ?_
  refine aw_seq ?_
  refine aw_region ?_
  refine al_op (op_move rfl) rfl (by simp) ?_
  (refine al_call into31 rfl rfl rfl (aw_And W4 vm vg46 vt vr 2 12 w4_ok) (by simp) ?_; rintro _ _ ⟨vg51, rfl, rfl⟩)
  refine al_op (op_move rfl) rfl (by simp) ?_
  refine al_op (op_extract rfl rfl rfl) rfl (by simp) ?_
  refine al_op (op_extract rfl rfl rfl) rfl (by simp) ?_
  refine al_op (op_assign rfl) rfl (by simp) ?_
  refine al_op (op_assign rfl) rfl (by simp) ?_
  refine al_nil ?_
  refine aw_seq ?_
  refine aw_region ?_
  refine al_op (op_move rfl) rfl (by simp) ?_
  refine al_op (op_build_struct Try.underlying69 info69 rfl place69 rfl (by first | rfl | (repeat (first | exact parts_nil | refine parts_cons rfl (by repeat (first | exact all_live_nil | refine all_live_clo rfl ?_ | refine all_live_slice rfl ?_ | refine all_live_map rfl ?_ | refine all_live_ptr rfl ?_)) ?_))) rfl) rfl (by simp) ?_
  refine al_op (op_list encP outs5 Try.underlying25 info69 rfl rfl (by decide) rfl (by decide) rfl (by first | rfl | (repeat (first | exact parts_nil | refine parts_cons rfl (by repeat (first | exact all_live_nil | refine all_live_clo rfl ?_ | refine all_live_slice rfl ?_ | refine all_live_map rfl ?_ | refine all_live_ptr rfl ?_)) ?_))) rfl rfl rfl rfl) rfl (by simp) ?_
  refine al_callp into39 rfl rfl rfl (ac_told (re_cons (.leaf _ _ (.same _)) (re_cons (.leaf _ _ (.vnil 1)) (re_cons (.leaf _ _ (.same _)) re_nil))) (aw_Net W5 vm vg51 vt vr outs5 w5_ok w5_regs small5 (by decide))) (by simp) ?_
  refine al_op (op_move rfl) rfl (by simp) ?_
  refine al_op (op_extract rfl rfl rfl) rfl (by simp) ?_
  refine al_op (op_extract rfl rfl rfl) rfl (by simp) ?_
  (refine al_opR (op_alloc 13 info27 rfl rfl) rfl (by simp) ?_; rintro _ _ ⟨ver13, rfl, rfl⟩)
  refine al_op (op_store_ptr info27 rfl rfl rfl rfl rfl rfl (by first | rfl | exact live_one rfl | (repeat (first | exact all_live_nil | refine all_live_clo rfl ?_ | refine all_live_slice rfl ?_ | refine all_live_map rfl ?_ | refine all_live_ptr rfl ?_))) (by decide)) rfl (by simp) ?_
  refine al_op (op_assign rfl) rfl (by simp) ?_
  refine al_nil ?_
  refine aw_seq ?_
  refine aw_region ?_
  refine al_op (op_load_ptr Try.underlying27 info27 rfl rfl rfl rfl) rfl (by simp) ?_
  refine al_op (op_list encB ([0, 1] : List Int) Try.underlying28 info65 rfl rfl (by decide) rfl (by decide) rfl (by first | rfl | (repeat (first | exact parts_nil | refine parts_cons rfl (by repeat (first | exact all_live_nil | refine all_live_clo rfl ?_ | refine all_live_slice rfl ?_ | refine all_live_map rfl ?_ | refine all_live_ptr rfl ?_)) ?_))) rfl rfl rfl rfl) rfl (by simp) ?_
  refine al_callp into16 rfl rfl rfl (ac_told (re_cons (.leaf _ _ (.same _)) (re_cons (.leaf _ _ (.same _)) (re_cons (.leaf _ _ (.vnil 1)) re_nil))) (c_eval (W5.net0 outs5).1 hn5 [0, 1] [] (by decide) (by decide) (by decide) (by decide) _)) (by simp) ?_
  refine al_op (op_move rfl) rfl (by simp) ?_
  refine al_op (op_extract rfl rfl rfl) rfl (by simp) ?_
  refine al_op (op_extract rfl rfl rfl) rfl (by simp) ?_
  refine al_op (op_extract rfl rfl rfl) rfl (by simp) ?_
  refine al_op (op_assign rfl) rfl (by simp) ?_
  refine al_op (op_assign rfl) rfl (by simp) ?_
  refine al_op (op_assign rfl) rfl (by simp) ?_
  refine al_nil ?_
  refine aw_seq ?_
  refine aw_region ?_
  refine al_op (op_move rfl) rfl (by simp) ?_
  refine al_op (op_eql rfl rfl) rfl (by simp) ?_
  refine al_op (op_move rfl) rfl (by simp) ?_
  apply al_and 3 70 73 rfl
  ·intro h3; have gh3 := h3
   try simp only [nrm] at h3
   refine al_take (op_move rfl) rfl rfl rfl rfl (by simp) ?_
   refine al_take (op_eql rfl rfl) rfl rfl rfl rfl (by simp) ?_
   refine al_op (op_pick rfl rfl) rfl (by simp) ?_
   refine al_nil ⟨rfl, rfl, rfl, keep_of ?_⟩
   repeat (first | exact subx_refl | exact subx_known rfl gh3 subx_refl | refine subx_put rfl ?_)
  ·intro h3; have gh3 := h3
   try simp only [nrm] at h3
   refine al_pass rfl rfl rfl rfl (by simp) ?_
   refine al_pass rfl rfl rfl rfl (by simp) ?_
   refine al_op (op_pick rfl rfl) rfl (by simp) ?_
   refine al_nil ⟨rfl, rfl, rfl, keep_of ?_⟩
   repeat (first | exact subx_refl | exact subx_known rfl gh3 subx_refl | refine subx_put rfl ?_)
  refine al_op (op_move rfl) rfl (by simp) ?_
  apply al_and 3 74 77 rfl
  ·intro h4; have gh4 := h4
   try simp only [nrm] at h4
   refine al_take (op_move rfl) rfl rfl rfl rfl (by simp) ?_
   refine al_take (op_eql rfl rfl) rfl rfl rfl rfl (by simp) ?_
   refine al_op (op_pick rfl rfl) rfl (by simp) ?_
   refine al_nil ⟨rfl, rfl, rfl, keep_of ?_⟩
   repeat (first | exact subx_refl | exact subx_known rfl gh4 subx_refl | refine subx_put rfl ?_)
  ·intro h4; have gh4 := h4
   try simp only [nrm] at h4
   refine al_pass rfl rfl rfl rfl (by simp) ?_
   refine al_pass rfl rfl rfl rfl (by simp) ?_
   refine al_op (op_pick rfl rfl) rfl (by simp) ?_
   refine al_nil ⟨rfl, rfl, rfl, keep_of ?_⟩
   repeat (first | exact subx_refl | exact subx_known rfl gh4 subx_refl | refine subx_put rfl ?_)
  refine al_op (op_move rfl) rfl (by simp) ?_
  apply al_and 3 78 81 rfl
  ·intro h5; have gh5 := h5
   try simp only [nrm] at h5
   refine al_take (op_move rfl) rfl rfl rfl rfl (by simp) ?_
   refine al_take (op_eql rfl rfl) rfl rfl rfl rfl (by simp) ?_
   refine al_op (op_pick rfl rfl) rfl (by simp) ?_
   refine al_nil ⟨rfl, rfl, rfl, keep_of ?_⟩
   repeat (first | exact subx_refl | exact subx_known rfl gh5 subx_refl | refine subx_put rfl ?_)
  ·intro h5; have gh5 := h5
   try simp only [nrm] at h5
   refine al_pass rfl rfl rfl rfl (by simp) ?_
   refine al_pass rfl rfl rfl rfl (by simp) ?_
   refine al_op (op_pick rfl rfl) rfl (by simp) ?_
   refine al_nil ⟨rfl, rfl, rfl, keep_of ?_⟩
   repeat (first | exact subx_refl | exact subx_known rfl gh5 subx_refl | refine subx_put rfl ?_)
  refine al_op (op_move rfl) rfl (by simp) ?_
  apply al_and 3 82 85 rfl
  ·intro h6; have gh6 := h6
   try simp only [nrm] at h6
   refine al_take (op_move rfl) rfl rfl rfl rfl (by simp) ?_
   refine al_take (op_eql rfl rfl) rfl rfl rfl rfl (by simp) ?_
   refine al_op (op_pick rfl rfl) rfl (by simp) ?_
   refine al_nil ⟨rfl, rfl, rfl, keep_of ?_⟩
   repeat (first | exact subx_refl | exact subx_known rfl gh6 subx_refl | refine subx_put rfl ?_)
  ·intro h6; have gh6 := h6
   try simp only [nrm] at h6
   refine al_pass rfl rfl rfl rfl (by simp) ?_
   refine al_pass rfl rfl rfl rfl (by simp) ?_
   refine al_op (op_pick rfl rfl) rfl (by simp) ?_
   refine al_nil ⟨rfl, rfl, rfl, keep_of ?_⟩
   repeat (first | exact subx_refl | exact subx_known rfl gh6 subx_refl | refine subx_put rfl ?_)
  refine al_op (op_move rfl) rfl (by simp) ?_
  apply al_and 3 86 89 rfl
  ·intro h7; have gh7 := h7
   try simp only [nrm] at h7
   refine al_take (op_move rfl) rfl rfl rfl rfl (by simp) ?_
   refine al_take (op_eql rfl rfl) rfl rfl rfl rfl (by simp) ?_
   refine al_op (op_pick rfl rfl) rfl (by simp) ?_
   refine al_nil ⟨rfl, rfl, rfl, keep_of ?_⟩
   repeat (first | exact subx_refl | exact subx_known rfl gh7 subx_refl | refine subx_put rfl ?_)
  ·intro h7; have gh7 := h7
   try simp only [nrm] at h7
   refine al_pass rfl rfl rfl rfl (by simp) ?_
   refine al_pass rfl rfl rfl rfl (by simp) ?_
   refine al_op (op_pick rfl rfl) rfl (by simp) ?_
   refine al_nil ⟨rfl, rfl, rfl, keep_of ?_⟩
   repeat (first | exact subx_refl | exact subx_known rfl gh7 subx_refl | refine subx_put rfl ?_)
  refine al_op (op_move rfl) rfl (by simp) ?_
  apply al_and 3 90 93 rfl
  ·intro h8; have gh8 := h8
   try simp only [nrm] at h8
   refine al_take (op_move rfl) rfl rfl rfl rfl (by simp) ?_
   refine al_take (op_eql rfl rfl) rfl rfl rfl rfl (by simp) ?_
   refine al_op (op_pick rfl rfl) rfl (by simp) ?_
   refine al_nil ⟨rfl, rfl, rfl, keep_of ?_⟩
   repeat (first | exact subx_refl | exact subx_known rfl gh8 subx_refl | refine subx_put rfl ?_)
  ·intro h8; have gh8 := h8
   try simp only [nrm] at h8
   refine al_pass rfl rfl rfl rfl (by simp) ?_
   refine al_pass rfl rfl rfl rfl (by simp) ?_
   refine al_op (op_pick rfl rfl) rfl (by simp) ?_
   refine al_nil ⟨rfl, rfl, rfl, keep_of ?_⟩
   repeat (first | exact subx_refl | exact subx_known rfl gh8 subx_refl | refine subx_put rfl ?_)
  refine al_op (op_move rfl) rfl (by simp) ?_
  apply al_and 3 94 97 rfl
  ·intro h9; have gh9 := h9
   try simp only [nrm] at h9
   refine al_take (op_move rfl) rfl rfl rfl rfl (by simp) ?_
   refine al_take (op_eql rfl rfl) rfl rfl rfl rfl (by simp) ?_
   refine al_op (op_pick rfl rfl) rfl (by simp) ?_
   refine al_nil ⟨rfl, rfl, rfl, keep_of ?_⟩
   repeat (first | exact subx_refl | exact subx_known rfl gh9 subx_refl | refine subx_put rfl ?_)
  ·intro h9; have gh9 := h9
   try simp only [nrm] at h9
   refine al_pass rfl rfl rfl rfl (by simp) ?_
   refine al_pass rfl rfl rfl rfl (by simp) ?_
   refine al_op (op_pick rfl rfl) rfl (by simp) ?_
   refine al_nil ⟨rfl, rfl, rfl, keep_of ?_⟩
   repeat (first | exact subx_refl | exact subx_known rfl gh9 subx_refl | refine subx_put rfl ?_)
  refine al_op (op_move rfl) rfl (by simp) ?_
  apply al_and 3 98 101 rfl
  ·intro h10; have gh10 := h10
   try simp only [nrm] at h10
   refine al_take (op_move rfl) rfl rfl rfl rfl (by simp) ?_
   refine al_take (op_eql rfl rfl) rfl rfl rfl rfl (by simp) ?_
   refine al_op (op_pick rfl rfl) rfl (by simp) ?_
   refine al_nil ⟨rfl, rfl, rfl, keep_of ?_⟩
   repeat (first | exact subx_refl | exact subx_known rfl gh10 subx_refl | refine subx_put rfl ?_)
  ·intro h10; have gh10 := h10
   try simp only [nrm] at h10
   refine al_pass rfl rfl rfl rfl (by simp) ?_
   refine al_pass rfl rfl rfl rfl (by simp) ?_
   refine al_op (op_pick rfl rfl) rfl (by simp) ?_
   refine al_nil ⟨rfl, rfl, rfl, keep_of ?_⟩
   repeat (first | exact subx_refl | exact subx_known rfl gh10 subx_refl | refine subx_put rfl ?_)
  refine al_op (op_move rfl) rfl (by simp) ?_
  apply al_and 3 102 105 rfl
  ·intro h11; have gh11 := h11
   try simp only [nrm] at h11
   refine al_take (op_move rfl) rfl rfl rfl rfl (by simp) ?_
   refine al_take (op_eql rfl rfl) rfl rfl rfl rfl (by simp) ?_
   refine al_op (op_pick rfl rfl) rfl (by simp) ?_
   refine al_nil ⟨rfl, rfl, rfl, keep_of ?_⟩
   repeat (first | exact subx_refl | exact subx_known rfl gh11 subx_refl | refine subx_put rfl ?_)
  ·intro h11; have gh11 := h11
   try simp only [nrm] at h11
   refine al_pass rfl rfl rfl rfl (by simp) ?_
   refine al_pass rfl rfl rfl rfl (by simp) ?_
   refine al_op (op_pick rfl rfl) rfl (by simp) ?_
   refine al_nil ⟨rfl, rfl, rfl, keep_of ?_⟩
   repeat (first | exact subx_refl | exact subx_known rfl gh11 subx_refl | refine subx_put rfl ?_)
  refine al_op (op_move rfl) rfl (by simp) ?_
  apply al_and 3 106 109 rfl
  ·intro h12; have gh12 := h12
   try simp only [nrm] at h12
   refine al_take (op_move rfl) rfl rfl rfl rfl (by simp) ?_
   refine al_take (op_eql rfl rfl) rfl rfl rfl rfl (by simp) ?_
   refine al_op (op_pick rfl rfl) rfl (by simp) ?_
   refine al_nil ⟨rfl, rfl, rfl, keep_of ?_⟩
   repeat (first | exact subx_refl | exact subx_known rfl gh12 subx_refl | refine subx_put rfl ?_)
  ·intro h12; have gh12 := h12
   try simp only [nrm] at h12
   refine al_pass rfl rfl rfl rfl (by simp) ?_
   refine al_pass rfl rfl rfl rfl (by simp) ?_
   refine al_op (op_pick rfl rfl) rfl (by simp) ?_
   refine al_nil ⟨rfl, rfl, rfl, keep_of ?_⟩
   repeat (first | exact subx_refl | exact subx_known rfl gh12 subx_refl | refine subx_put rfl ?_)
  refine al_op (op_move rfl) rfl (by simp) ?_
  apply al_and 4 110 114 rfl
  ·intro h13; have gh13 := h13
   try simp only [nrm] at h13
   refine al_take (op_move rfl) rfl rfl rfl rfl (by simp) ?_
   refine al_take (op_list encB ([1] : List Int) Try.underlying28 info65 rfl rfl (by decide) rfl (by decide) rfl (by first | rfl | (repeat (first | exact parts_nil | refine parts_cons rfl (by repeat (first | exact all_live_nil | refine all_live_clo rfl ?_ | refine all_live_slice rfl ?_ | refine all_live_map rfl ?_ | refine all_live_ptr rfl ?_)) ?_))) rfl rfl rfl rfl) rfl rfl rfl rfl (by simp) ?_
   refine al_callp_take into20 rfl rfl rfl rfl rfl rfl (r_SameBits ((W5.net0 outs5).1.eval [0, 1] []).1 [1] (by rw [net5, eval5]; decide) _) (by simp) ?_
   refine al_op (op_pick rfl rfl) rfl (by simp) ?_
   refine al_nil ⟨rfl, rfl, rfl, keep_of ?_⟩
   repeat (first | exact subx_refl | exact subx_known rfl gh13 subx_refl | refine subx_put rfl ?_)
  ·intro h13; have gh13 := h13
   try simp only [nrm] at h13
   refine al_pass rfl rfl rfl rfl (by simp) ?_
   refine al_pass rfl rfl rfl rfl (by simp) ?_
   refine al_pass rfl rfl rfl rfl (by simp) ?_
   refine al_op (op_pick rfl rfl) rfl (by simp) ?_
   refine al_nil ⟨rfl, rfl, rfl, keep_of ?_⟩
   repeat (first | exact subx_refl | exact subx_known rfl gh13 subx_refl | refine subx_put rfl ?_)
  refine al_op (op_move rfl) rfl (by simp) ?_
  apply al_and 3 115 118 rfl
  ·intro h14; have gh14 := h14
   try simp only [nrm] at h14
   refine al_take (op_load_ptr Try.underlying27 info27 rfl rfl rfl rfl) rfl rfl rfl rfl (by simp) ?_
   refine al_callp_take into27 rfl rfl rfl rfl rfl rfl (c_valid (W5.net0 outs5).1 hn5 _) (by simp) ?_
   refine al_op (op_pick rfl rfl) rfl (by simp) ?_
   refine al_nil ⟨rfl, rfl, rfl, keep_of ?_⟩
   repeat (first | exact subx_refl | exact subx_known rfl gh14 subx_refl | refine subx_put rfl ?_)
  ·intro h14; have gh14 := h14
   try simp only [nrm] at h14
   refine al_pass rfl rfl rfl rfl (by simp) ?_
   refine al_pass rfl rfl rfl rfl (by simp) ?_
   refine al_op (op_pick rfl rfl) rfl (by simp) ?_
   refine al_nil ⟨rfl, rfl, rfl, keep_of ?_⟩
   repeat (first | exact subx_refl | exact subx_known rfl gh14 subx_refl | refine subx_put rfl ?_)
  refine al_op (op_assign rfl) rfl (by simp) ?_
  refine al_nil ?_
  refine aw_freeze (fun _ => false) (fsub_cons (t := 0) rfl (.leaf _ _ (.same _)) fsub_nil) ?_
  refine aw_ret ?_
  refine ⟨_, res_1 rfl rfl, ?_, rfl⟩
  simp only [v1, v2, v3, v4, v5, net5, eval5, valid5]; rfl
end Go.Proofs.Ytbpamlphacpkeaa
