/- Printed walks (gen.py, gates_ann.py): part 86. -/
import Derived.Test.YtbpamlphacpkeaaW81
import Derived.Test.YtbpamlphacpkeaaFacts
set_option linter.unusedVariables false
set_option linter.unusedSimpArgs false
set_option maxRecDepth 20000
set_option maxHeartbeats 40000000
namespace Go.Proofs.Ytbpamlphacpkeaa
open Go

theorem r_inverse (a : Int) (ha0 : 0 ≤ a) (ha1 : a ≤ 4611686018427387904) : ACp Try.prog 74 [.v (.int .i64 (a))] (.v (.int .i64 (flip a))) := by
 refine acp_of rfl ?_
 refine ac_enter 10 Try.func74 rfl rfl (by simp) ?_
 refine aw_seq ?_
 refine aw_region ?_
 refine al_op (op_assign rfl) rfl (by simp) ?_
 refine al_nil ?_
 refine aw_seq ?_
 refine aw_seq ?_
 refine aw_region ?_
 refine al_op (op_move rfl) rfl (by simp) ?_
 refine al_op (op_rem rfl rfl (by omega) (rem_nn (by omega))) rfl (by simp) ?_
 refine al_op (op_eql rfl rfl) rfl (by simp) ?_
 refine al_nil ?_
 refine aw_cond rfl (fun h1 => ?_) (fun h1 => ?_)
 ·have gh1 := h1
  try simp only [nrm] at h1
  refine aw_seq ?_
  refine aw_region ?_
  refine al_op (op_move rfl) rfl (by simp) ?_
  refine al_op (op_sub rfl rfl (by first | exact wrap_i64 (by omega) (by omega))) rfl (by simp) ?_
  refine al_op (op_assign rfl) rfl (by simp) ?_
  refine al_nil ?_
  refine aw_freeze (fun _ => false) (fsub_cons (t := 2) rfl (.leaf _ _ (.same _)) fsub_nil) ?_
  refine aw_ret ?_
  refine ⟨_, res_1 rfl rfl, ?_, rfl⟩
  rw [flip_eq, if_neg (by omega)]
 ·have gh1 := h1
  try simp only [nrm] at h1
  refine aw_skip ?_
  refine aw_seq ?_
  refine aw_region ?_
  refine al_op (op_move rfl) rfl (by simp) ?_
  refine al_op (op_add rfl rfl (by first | exact wrap_i64 (by omega) (by omega))) rfl (by simp) ?_
  refine al_op (op_assign rfl) rfl (by simp) ?_
  refine al_nil ?_
  refine aw_freeze (fun _ => false) (fsub_cons (t := 2) rfl (.leaf _ _ (.same _)) fsub_nil) ?_
  refine aw_ret ?_
  refine ⟨_, res_1 rfl rfl, ?_, rfl⟩
  rw [flip_eq, if_pos (by omega)]

theorem r_lits (s : MS) (vm vg vr vi : Nat) (l : List Int) (hs : s.Good) (hl : l.length ≤ 140737488355328) (hx : ∀ x ∈ l, x ≤ 9223372036854775807) : AC Try.prog 73 [.ptr 0 vm 0 0, .list 1 (l.map encI)] (rk0 s vm vg vr vi) (fun r σ' => r = .ret (.v (.bool (s.no l == 0))) ∧ σ' = rk0 s vm vg vr vi) := by
 have hsm : (⟨s.ins, s.regs, s.gates, []⟩ : Net).Small := hs.small
 obtain ⟨k1, k2, k3, _⟩ := hs.ok
 have k4 : (⟨s.ins, s.regs, s.gates, []⟩ : Net).first = 1 + s.ins.length + s.regs.length := rfl
 refine ac_enter 29 Try.func73 rfl rfl (by simp) ?_
 refine aw_seq ?_
 refine aw_region ?_
 refine al_op (op_assign rfl) rfl (by simp) ?_
 refine al_nil ?_
 refine aw_seq ?_
 refine aw_seq ?_
 refine aw_region ?_
 refine al_op (op_move rfl) rfl (by simp) ?_
 refine al_op (op_len_map Try.underlying54 rfl) rfl (by simp) ?_
 refine al_op (op_move rfl) rfl (by simp) ?_
 refine al_nil ?_
 refine aw_block ?_
 refine aw_forT (ι := Nat) [4, 9] [] (fun i => l.length - i) (fun i => i ≤ l.length ∧ allTo (s.litAt l) i = true) (fun i => ([(9, .v (.int .i64 (i)))] : Env)) (fun i s => s) (0) ?_ ?_ ?_ (fun i hinv => ?_)
 ·exact ⟨Nat.zero_le _, rfl⟩
 ·refine sub_cons (get_as rfl ?_) ?_; rotate_left; exact sub_nil
  all_goals (first | rfl | simp)
 ·rfl
 have hi := hinv.1
 refine aw_seq ?_
 refine aw_region ?_
 refine al_op (op_lss rfl rfl) rfl (by simp) ?_
 refine al_nil ?_
 refine aw_seq ?_
 refine aw_cond rfl (fun h1 => ?_) (fun h1 => ?_)
 ·have gh1 := h1
  try simp only [nrm] at h1
  refine aw_skip ?_
  refine aw_seq ?_
  refine aw_block ?_
  refine aw_seq ?_
  refine aw_region ?_
  refine al_op (op_index_map default Try.underlying54 info3 rfl rfl rfl (by first | (with_reducible exact Int.toNat_natCast _) | rfl) (by omega) (by omega)) rfl (by simp) ?_
  refine al_op (op_load_rptr Try.underlying3 info3 rfl rfl) rfl (by simp) ?_
  refine al_op (op_assign rfl) rfl (by simp) ?_
  refine al_nil ?_
  refine aw_seq ?_
  have hxi := hx _ (getD_mem (v := l) (i := i) (by omega))
  refine aw_any (Checked.mixed Try.checked) ?_
  apply aany_seg (p := 0) (q := 15) (by kernel_rfl) rfl (by decide)
  ·
   apply ql_plain rfl (op_move rfl)
   apply ql_plain rfl (op_move rfl)
   apply ql_plain rfl (op_nilCheck_ptr rfl rfl)
   apply ql_plain rfl (op_field_ptr Try.underlying111 rfl info27 (by decide) rfl rfl rfl)
   apply ql_plain rfl (op_load_ptr Try.underlying27 info27 rfl rfl rfl rfl)
   apply ql_call into63 rfl rfl rfl (acp_lent (lend_cons (by first | exact lend_same | exact .leaf _ _ (.vnil _) | exact .leaf _ _ (.nil _) | exact lend_whole rfl (by first | rfl | (simp; done) | (simp; omega)) (clo_map (fun _ => rfl)) | exact lend_netg (by first | exact .same _ | exact lendL_vnil | exact lendL_whole rfl (by first | rfl | (simp; done) | (simp; omega)) (clo_map (fun _ => rfl))) (by first | exact .same _ | exact lendL_vnil | exact lendL_whole rfl (by first | rfl | (simp; done) | (simp; omega)) (clo_map (fun _ => rfl))) (by first | exact .same _ | exact lendL_vnil | exact lendL_whole rfl (by first | rfl | (simp; done) | (simp; omega)) (clo_map (fun _ => rfl))) (by first | exact .same _ | exact lendL_vnil | exact lendL_whole rfl (by first | rfl | (simp; done) | (simp; omega)) (clo_map (fun _ => rfl)))) lend_nil) (r_first _ (by assumption)) rfl)
   apply ql_plain rfl (op_move rfl)
   apply ql_plain rfl (op_nilCheck_ptr rfl rfl)
   apply ql_plain rfl (op_field_ptr Try.underlying111 rfl info27 (by decide) rfl rfl rfl)
   apply ql_plain rfl (op_field_ptr Try.underlying27 rfl info24 (by decide) rfl rfl rfl)
   apply ql_plain rfl (op_load_ptr Try.underlying24 info24 rfl rfl rfl rfl)
   apply ql_plain rfl (op_len_slice Try.underlying24 rfl rfl)
   apply ql_plain rfl (op_add rfl rfl (by first | exact wrap_i64 (by omega) (by omega)))
   apply ql_call into62 rfl rfl rfl ((r_lit _ _ (by omega)) _)
   apply ql_plain rfl (op_not rfl)
   exact ql_nil
  ·simp
  refine aany_end rfl (by kernel_rfl) ?_
  refine aw_cond rfl (fun h2 => ?_) (fun h2 => ?_)
  ·have gh2 := h2
   try simp only [nrm] at h2
   refine aw_seq ?_
   refine aw_region ?_
   refine al_op (op_assign rfl) rfl (by simp) ?_
   refine al_nil ?_
   refine aw_ret ?_
   refine ⟨_, res_1 rfl rfl, ?_⟩
   rw [MS.no_lits, allTo_false i (by omega) (by rw [MS.lit_litOK]; rw [Bool.not_eq_true'] at gh2; exact gh2)]; exact ⟨rfl, rfl⟩
  ·have gh2 := h2
   try simp only [nrm] at h2
   refine aw_skip ?_
   refine aw_region ?_
   refine al_op (op_add rfl rfl (by first | exact wrap_i64 (by omega) (by omega))) rfl (by simp) ?_
   refine al_op (op_move rfl) rfl (by simp) ?_
   refine al_nil ?_
   refine ⟨i + 1, ?_, ?_, ?_, ?_, ?_⟩
   ·omega
   ·exact ⟨by omega, allTo_succ hinv.2 (by rw [MS.lit_litOK]; rw [Bool.not_eq_false'] at gh2; exact gh2)⟩
   ·refine sub_cons (get_as rfl ?_) ?_; rotate_left; exact sub_nil
    all_goals (first | rfl | simp)
   ·repeat (first | exact subx_refl | exact subx_del | refine subx_put rfl ?_)
   ·rfl
 ·have gh1 := h1
  try simp only [nrm] at h1
  refine aw_exit ?_
  obtain rfl : i = l.length := by omega
  refine aw_seq ?_
  refine aw_region ?_
  refine al_op (op_assign rfl) rfl (by simp) ?_
  refine al_nil ?_
  refine aw_ret ?_
  refine ⟨_, res_1 rfl rfl, ?_⟩
  rw [MS.no_lits, hinv.2]; exact ⟨rfl, rfl⟩

theorem q_rAnd (s : MS) (vm vg vr vi : Nat) (a b : Int) (hs : s.Good) (ha : a ≤ 9223372036854775807) (hb : b ≤ 9223372036854775807) : AC Try.prog 32 [.ptr 0 vm 0 0, .v (.int .i64 (a)), .v (.int .i64 (b))] (rk0 s vm vg vr vi) (fun r σ' => ∃ vg', r = .ret (.tuple [.v (.int .i64 ((s.and a b).1.1)), .v (.int .i64 ((s.and a b).1.2))]) ∧ σ'.keep (fun i => decide (i ≤ 3)) = rk0 (s.and a b).2 vm vg' vr vi) := by
 have hsm : (⟨s.ins, s.regs, s.gates, []⟩ : Net).Small := hs.small
 obtain ⟨k1, k2, k3, _⟩ := hs.ok
 have k4 : (⟨s.ins, s.regs, s.gates, []⟩ : Net).first = 1 + s.ins.length + s.regs.length := rfl
 have hx2 : ∀ x ∈ [a, b], x ≤ 9223372036854775807 := by intro x hx; simp at hx; omega
 refine ac_enter 112 Try.func32 rfl rfl (by simp) ?_
 refine aw_seq ?_
 refine aw_region ?_
 refine al_op (op_assign rfl) rfl (by simp) ?_
 refine al_op (op_assign rfl) rfl (by simp) ?_
 refine al_nil ?_
 refine aw_seq ?_
 refine aw_seq ?_
 refine aw_region ?_
 refine al_op (op_move rfl) rfl (by simp) ?_
 refine al_op (op_move rfl) rfl (by simp) ?_
 refine al_op (op_move rfl) rfl (by simp) ?_
 refine al_op (op_list encI [a, b] Try.underlying54 info3 rfl rfl (by decide) rfl (by decide) rfl (by first | rfl | (repeat (first | exact parts_nil | refine parts_cons rfl (by repeat (first | exact all_live_nil | refine all_live_clo rfl ?_ | refine all_live_slice rfl ?_ | refine all_live_map rfl ?_ | refine all_live_ptr rfl ?_)) ?_))) rfl rfl rfl rfl) rfl (by simp) ?_
 refine al_callp into73 rfl rfl rfl (r_lits _ _ _ _ _ _ (by assumption) (by simp) (by assumption)) (by simp) ?_
 refine al_op (op_not rfl) rfl (by simp) ?_
 refine al_nil ?_
 refine aw_cond rfl (fun h1 => ?_) (fun h1 => ?_)
 ·have gh1 := h1
  try simp only [nrm] at h1
  refine aw_seq ?_
  refine aw_region ?_
  refine al_op (op_assign rfl) rfl (by simp) ?_
  refine al_op (op_assign rfl) rfl (by simp) ?_
  refine al_nil ?_
  refine aw_ret ?_
  refine ⟨_, res_2 rfl rfl rfl rfl rfl, ?_⟩
  have e := MS.no_err (s := s) (l := [a, b]) (by simpa using gh1)
  rw [MS.and_no (by rw [e]; rfl), e]; exact ⟨_, rfl, rfl⟩
 ·have gh1 := h1
  try simp only [nrm] at h1
  have hno : s.no [a, b] = 0 := by simpa using gh1
  obtain ⟨q1, q2, q3, q4⟩ := MS.no_two hno
  obtain ⟨q5, q6⟩ := hs.ok.lits
  refine aw_skip ?_
  refine aw_seq ?_
  refine aw_block ?_
  refine aw_seq ?_
  refine aw_region ?_
  refine al_op (op_move rfl) rfl (by simp) ?_
  refine al_op (op_eql rfl rfl) rfl (by simp) ?_
  refine al_op (op_move rfl) rfl (by simp) ?_
  apply al_or 3 20 23 rfl
  ·intro h2; have gh2 := h2
   try simp only [nrm] at h2
   refine al_take (op_move rfl) rfl rfl rfl rfl (by simp) ?_
   refine al_take (op_eql rfl rfl) rfl rfl rfl rfl (by simp) ?_
   refine al_op (op_pick rfl rfl) rfl (by simp) ?_
   refine al_nil ⟨rfl, rfl, rfl, keep_of ?_⟩
   repeat (first | exact subx_refl | exact subx_known rfl gh2 subx_refl | refine subx_put rfl ?_)
  ·intro h2; have gh2 := h2
   try simp only [nrm] at h2
   refine al_pass rfl rfl rfl rfl (by simp) ?_
   refine al_pass rfl rfl rfl rfl (by simp) ?_
   refine al_op (op_pick rfl rfl) rfl (by simp) ?_
   refine al_nil ⟨rfl, rfl, rfl, keep_of ?_⟩
   repeat (first | exact subx_refl | exact subx_known rfl gh2 subx_refl | refine subx_put rfl ?_)
  refine al_op (op_move rfl) rfl (by simp) ?_
  apply al_or 11 24 35 rfl
  ·intro h3; have gh3 := h3
   try simp only [nrm] at h3
   refine al_take (op_move rfl) rfl rfl rfl rfl (by simp) ?_
   refine al_take (op_quo rfl rfl (by omega) (quo_nn (by omega) (by omega) (by omega))) rfl rfl rfl rfl (by simp) ?_
   refine al_take (op_move rfl) rfl rfl rfl rfl (by simp) ?_
   refine al_take (op_quo rfl rfl (by omega) (quo_nn (by omega) (by omega) (by omega))) rfl rfl rfl rfl (by simp) ?_
   refine al_take (op_eql rfl rfl) rfl rfl rfl rfl (by simp) ?_
   refine al_take (op_move rfl) rfl rfl rfl rfl (by simp) ?_
   apply al_and 4 30 34 rfl
   ·intro h4; have gh4 := h4
    try simp only [nrm] at h4
    refine al_take (op_move rfl) rfl rfl rfl rfl (by simp) ?_
    refine al_take (op_move rfl) rfl rfl rfl rfl (by simp) ?_
    refine al_take (op_neq rfl rfl) rfl rfl rfl rfl (by simp) ?_
    refine al_take (op_pick rfl rfl) rfl rfl rfl rfl (by simp) ?_
    refine al_nil ⟨rfl, rfl, rfl, keep_of ?_⟩
    repeat (first | exact subx_refl | exact subx_known rfl gh4 subx_refl | refine subx_put rfl ?_)
   ·intro h4; have gh4 := h4
    try simp only [nrm] at h4
    refine al_pass rfl rfl rfl rfl (by simp) ?_
    refine al_pass rfl rfl rfl rfl (by simp) ?_
    refine al_pass rfl rfl rfl rfl (by simp) ?_
    refine al_take (op_pick rfl rfl) rfl rfl rfl rfl (by simp) ?_
    refine al_nil ⟨rfl, rfl, rfl, keep_of ?_⟩
    repeat (first | exact subx_refl | exact subx_known rfl gh4 subx_refl | refine subx_put rfl ?_)
   refine al_op (op_pick rfl rfl) rfl (by simp) ?_
   refine al_nil ⟨rfl, rfl, rfl, keep_of ?_⟩
   repeat (first | exact subx_refl | exact subx_known rfl gh3 subx_refl | refine subx_put rfl ?_)
  ·intro h3; have gh3 := h3
   try simp only [nrm] at h3
   refine al_pass rfl rfl rfl rfl (by simp) ?_
   refine al_pass rfl rfl rfl rfl (by simp) ?_
   refine al_pass rfl rfl rfl rfl (by simp) ?_
   refine al_pass rfl rfl rfl rfl (by simp) ?_
   refine al_pass rfl rfl rfl rfl (by simp) ?_
   refine al_pass rfl rfl rfl rfl (by simp) ?_
   refine al_pass_undef rfl rfl rfl rfl (by simp) ?_
   refine al_pass_undef rfl rfl rfl rfl (by simp) ?_
   refine al_pass_undef rfl rfl rfl rfl (by simp) ?_
   refine al_pass rfl rfl rfl rfl (by simp) ?_
   refine al_op (op_pick rfl rfl) rfl (by simp) ?_
   refine al_nil ⟨rfl, rfl, rfl, keep_of ?_⟩
   repeat (first | exact subx_refl | exact subx_known rfl gh3 subx_refl | refine subx_put rfl ?_)
  refine al_op (op_assign rfl) rfl (by simp) ?_
  refine al_nil ?_
  refine aw_cond rfl (fun h5 => ?_) (fun h5 => ?_)
  ·have gh5 := h5
   try simp only [nrm] at h5
   refine aw_seq ?_
   refine aw_region ?_
   refine al_op (op_assign rfl) rfl (by simp) ?_
   refine al_op (op_assign rfl) rfl (by simp) ?_
   refine al_nil ?_
   refine aw_ret ?_
   refine ⟨_, res_2 rfl rfl rfl rfl rfl, ?_⟩
   rw [MS.rand_zero hno gh5]; exact ⟨_, rfl, rfl⟩
  ·have gh5 := h5
   try simp only [nrm] at h5
   refine aw_seq ?_
   refine aw_region ?_
   refine al_op (op_move rfl) rfl (by simp) ?_
   refine al_op (op_eql rfl rfl) rfl (by simp) ?_
   refine al_op (op_assign rfl) rfl (by simp) ?_
   refine al_nil ?_
   refine aw_cond rfl (fun h6 => ?_) (fun h6 => ?_)
   ·have gh6 := h6
    try simp only [nrm] at h6
    refine aw_seq ?_
    refine aw_region ?_
    refine al_op (op_move rfl) rfl (by simp) ?_
    refine al_op (op_assign rfl) rfl (by simp) ?_
    refine al_op (op_assign rfl) rfl (by simp) ?_
    refine al_nil ?_
    refine aw_ret ?_
    refine ⟨_, res_2 rfl rfl rfl rfl rfl, ?_⟩
    rw [MS.rand_one hno gh5 gh6]; exact ⟨_, rfl, rfl⟩
   ·have gh6 := h6
    try simp only [nrm] at h6
    refine aw_seq ?_
    refine aw_region ?_
    refine al_op (op_move rfl) rfl (by simp) ?_
    refine al_op (op_eql rfl rfl) rfl (by simp) ?_
    refine al_op (op_move rfl) rfl (by simp) ?_
    apply al_or 4 43 47 rfl
    ·intro h7; have gh7 := h7
     try simp only [nrm] at h7
     refine al_take (op_move rfl) rfl rfl rfl rfl (by simp) ?_
     refine al_take (op_move rfl) rfl rfl rfl rfl (by simp) ?_
     refine al_take (op_eql rfl rfl) rfl rfl rfl rfl (by simp) ?_
     refine al_op (op_pick rfl rfl) rfl (by simp) ?_
     refine al_nil ⟨rfl, rfl, rfl, keep_of ?_⟩
     repeat (first | exact subx_refl | exact subx_known rfl gh7 subx_refl | refine subx_put rfl ?_)
    ·intro h7; have gh7 := h7
     try simp only [nrm] at h7
     refine al_pass rfl rfl rfl rfl (by simp) ?_
     refine al_pass rfl rfl rfl rfl (by simp) ?_
     refine al_pass rfl rfl rfl rfl (by simp) ?_
     refine al_op (op_pick rfl rfl) rfl (by simp) ?_
     refine al_nil ⟨rfl, rfl, rfl, keep_of ?_⟩
     repeat (first | exact subx_refl | exact subx_known rfl gh7 subx_refl | refine subx_put rfl ?_)
    refine al_op (op_assign rfl) rfl (by simp) ?_
    refine al_nil ?_
    refine aw_cond rfl (fun h8 => ?_) (fun h8 => ?_)
    ·have gh8 := h8
     try simp only [nrm] at h8
     refine aw_seq ?_
     refine aw_region ?_
     refine al_op (op_move rfl) rfl (by simp) ?_
     refine al_op (op_assign rfl) rfl (by simp) ?_
     refine al_op (op_assign rfl) rfl (by simp) ?_
     refine al_nil ?_
     refine aw_ret ?_
     refine ⟨_, res_2 rfl rfl rfl rfl rfl, ?_⟩
     rw [MS.rand_two hno gh5 gh8]; exact ⟨_, rfl, rfl⟩
    ·have gh8 := h8
     try simp only [nrm] at h8
     refine aw_skip ?_
     refine aw_seq ?_
     refine aw_region ?_
     refine al_op (op_move rfl) rfl (by simp) ?_
     refine al_op (op_move rfl) rfl (by simp) ?_
     refine al_op (op_min rfl rfl) rfl (by simp) ?_
     refine al_op (op_move rfl) rfl (by simp) ?_
     refine al_op (op_move rfl) rfl (by simp) ?_
     refine al_op (op_max rfl rfl) rfl (by simp) ?_
     refine al_op (op_build_array Try.underlying86 info86 rfl info3 rfl (by first | rfl | (repeat (first | exact parts_nil | refine parts_cons rfl (by repeat (first | exact all_live_nil | refine all_live_clo rfl ?_ | refine all_live_slice rfl ?_ | refine all_live_map rfl ?_ | refine all_live_ptr rfl ?_)) ?_))) rfl) rfl (by simp) ?_
     (refine al_opR (op_alloc 8 info86 rfl rfl) rfl (by simp) ?_; rintro _ _ ⟨ver8, rfl, rfl⟩)
     refine al_op (op_store_ptr info86 rfl rfl rfl rfl rfl rfl (by first | rfl | exact live_one rfl | (repeat (first | exact all_live_nil | refine all_live_clo rfl ?_ | refine all_live_slice rfl ?_ | refine all_live_map rfl ?_ | refine all_live_ptr rfl ?_))) (Nat.le_of_ble_eq_true rfl)) rfl (by simp) ?_
     refine al_nil ?_
     refine aw_seq ?_
     refine aw_seq ?_
     refine aw_region ?_
     refine al_op (op_move rfl) rfl (by simp) ?_
     refine al_op (op_nilCheck_ptr rfl rfl) rfl (by simp) ?_
     refine al_op (op_field_ptr Try.underlying111 rfl info27 (by decide) rfl rfl rfl) rfl (by simp) ?_
     refine al_op (op_field_ptr Try.underlying27 rfl info24 (by decide) rfl rfl rfl) rfl (by simp) ?_
     refine al_op (op_load_ptr Try.underlying24 info24 rfl rfl rfl rfl) rfl (by simp) ?_
     refine al_op (op_len_slice Try.underlying24 rfl rfl) rfl (by simp) ?_
     refine al_op (op_move rfl) rfl (by simp) ?_
     refine al_nil ?_
     refine aw_block ?_
     refine aw_forT (ι := Nat) [6, 7, 62] [10] (fun i => s.gates.length - i) (fun i => i ≤ s.gates.length ∧ firstTo (s.at (min a b, max a b)) i = none) (fun i => ([(62, .v (.int .i64 (i)))] : Env)) (fun i s => s) (0) ?_ ?_ ?_ (fun i hinv => ?_)
     ·exact ⟨Nat.zero_le _, rfl⟩
     ·refine sub_cons (get_as rfl ?_) ?_; rotate_left; exact sub_nil
      all_goals (first | rfl | simp)
     ·rfl
     have hi := hinv.1
     refine aw_seq ?_
     refine aw_region ?_
     refine al_op (op_lss rfl rfl) rfl (by simp) ?_
     refine al_nil ?_
     refine aw_seq ?_
     refine aw_cond rfl (fun h9 => ?_) (fun h9 => ?_)
     ·have gh9 := h9
      try simp only [nrm] at h9
      refine aw_skip ?_
      refine aw_seq ?_
      refine aw_block ?_
      refine aw_seq ?_
      refine aw_region ?_
      refine al_op (op_move rfl) rfl (by simp) ?_
      refine al_op (op_index_slice Try.underlying24 info86 rfl rfl rfl rfl (by omega) (by omega)) rfl (by simp) ?_
      refine al_op (op_load_map Try.underlying86 info86 rfl rfl (by omega) rfl) rfl (by simp) ?_
      (refine al_opR (op_alloc 10 info86 rfl rfl) rfl (by simp) ?_; rintro _ _ ⟨ver10, rfl, rfl⟩)
      refine al_op (op_assign rfl) rfl (by simp) ?_
      refine al_op (op_store_ptr info86 rfl rfl rfl rfl rfl rfl (by first | rfl | exact live_one rfl | (repeat (first | exact all_live_nil | refine all_live_clo rfl ?_ | refine all_live_slice rfl ?_ | refine all_live_map rfl ?_ | refine all_live_ptr rfl ?_))) (Nat.le_of_ble_eq_true rfl)) rfl (by simp) ?_
      refine al_nil ?_
      refine aw_seq ?_
      refine aw_region ?_
      refine al_op (op_load_ptr Try.underlying86 info86 rfl rfl rfl rfl) rfl (by simp) ?_
      refine al_op (op_load_ptr Try.underlying86 info86 rfl rfl rfl rfl) rfl (by simp) ?_
      refine al_op (op_aeq rfl rfl rfl rfl guard86 (eq_pair (s.gates.getD (0 + (i : Int).toNat) default) (min a b, max a b))) rfl (by simp) ?_
      refine al_nil ?_
      refine aw_cond rfl (fun h10 => ?_) (fun h10 => ?_)
      ·have gh10 := h10
       try simp only [nrm] at h10
       have e0 : 0 + (i : Int).toNat = i := by omega
       rw [e0] at gh10
       refine aw_seq ?_
       refine aw_region ?_
       refine al_op (op_move rfl) rfl (by simp) ?_
       refine al_op (op_nilCheck_ptr rfl rfl) rfl (by simp) ?_
       refine al_op (op_field_ptr Try.underlying111 rfl info27 (by decide) rfl rfl rfl) rfl (by simp) ?_
       refine al_op (op_load_ptr Try.underlying27 info27 rfl rfl rfl rfl) rfl (by simp) ?_
       refine al_callp into63 rfl rfl rfl (acp_lent (lend_cons (by first | exact lend_same | exact .leaf _ _ (.vnil _) | exact .leaf _ _ (.nil _) | exact lend_whole rfl (by first | rfl | (simp; done) | (simp; omega)) (clo_map (fun _ => rfl)) | exact lend_netg (by first | exact .same _ | exact lendL_vnil | exact lendL_whole rfl (by first | rfl | (simp; done) | (simp; omega)) (clo_map (fun _ => rfl))) (by first | exact .same _ | exact lendL_vnil | exact lendL_whole rfl (by first | rfl | (simp; done) | (simp; omega)) (clo_map (fun _ => rfl))) (by first | exact .same _ | exact lendL_vnil | exact lendL_whole rfl (by first | rfl | (simp; done) | (simp; omega)) (clo_map (fun _ => rfl))) (by first | exact .same _ | exact lendL_vnil | exact lendL_whole rfl (by first | rfl | (simp; done) | (simp; omega)) (clo_map (fun _ => rfl)))) lend_nil) (r_first _ (by assumption)) rfl) (by simp) ?_
       refine al_op (op_move rfl) rfl (by simp) ?_
       refine al_op (op_add rfl rfl (by first | exact wrap_i64 (by omega) (by omega))) rfl (by simp) ?_
       refine al_op (op_mul rfl rfl (by first | exact wrap_i64 (by omega) (by omega))) rfl (by simp) ?_
       refine al_op (op_assign rfl) rfl (by simp) ?_
       refine al_op (op_assign rfl) rfl (by simp) ?_
       refine al_nil ?_
       refine aw_ret ?_
       refine ⟨_, res_2 rfl rfl rfl rfl rfl, ?_⟩
       rw [MS.rand_there hs hno gh5 gh6 gh8 (by omega) hinv.2 gh10]; exact ⟨_, rfl, rfl⟩
      ·have gh10 := h10
       try simp only [nrm] at h10
       have e0 : 0 + (i : Int).toNat = i := by omega
       rw [e0] at gh10
       refine aw_skip ?_
       refine aw_region ?_
       refine al_op (op_add rfl rfl (by first | exact wrap_i64 (by omega) (by omega))) rfl (by simp) ?_
       refine al_op (op_move rfl) rfl (by simp) ?_
       refine al_nil ?_
       refine ⟨i + 1, ?_, ?_, ?_, ?_, ?_⟩
       ·omega
       ·exact ⟨by omega, firstTo_succ hinv.2 gh10⟩
       ·refine sub_cons (get_as rfl ?_) ?_; rotate_left; exact sub_nil
        all_goals (first | rfl | simp)
       ·repeat (first | exact subx_refl | exact subx_del | refine subx_put rfl ?_)
       ·rfl
     ·have gh9 := h9
      try simp only [nrm] at h9
      refine aw_exit ?_
      obtain rfl : i = s.gates.length := by omega
      refine aw_seq ?_
      refine aw_seq ?_
      refine aw_region ?_
      refine al_op (op_move rfl) rfl (by simp) ?_
      refine al_op (op_nilCheck_ptr rfl rfl) rfl (by simp) ?_
      refine al_op (op_field_ptr Try.underlying111 rfl info27 (by decide) rfl rfl rfl) rfl (by simp) ?_
      refine al_op (op_field_ptr Try.underlying27 rfl info24 (by decide) rfl rfl rfl) rfl (by simp) ?_
      refine al_op (op_load_ptr Try.underlying24 info24 rfl rfl rfl rfl) rfl (by simp) ?_
      refine al_op (op_len_slice Try.underlying24 rfl rfl) rfl (by simp) ?_
      refine al_op (op_geq rfl rfl) rfl (by simp) ?_
      refine al_nil ?_
      refine aw_cond rfl (fun h11 => ?_) (fun h11 => ?_)
      ·have gh11 := h11
       try simp only [nrm] at h11
       refine aw_seq ?_
       refine aw_region ?_
       refine al_op (op_assign rfl) rfl (by simp) ?_
       refine al_op (op_assign rfl) rfl (by simp) ?_
       refine al_nil ?_
       refine aw_ret ?_
       refine ⟨_, res_2 rfl rfl rfl rfl rfl, ?_⟩
       rw [MS.rand_full hs hno gh5 gh6 gh8 hinv.2 (by omega)]; exact ⟨_, rfl, rfl⟩
      ·have gh11 := h11
       try simp only [nrm] at h11
       have hg2 : (s.add (min a b, max a b)).Good := MS.add_good hs (by omega) (by simp only; omega) (by simp only; omega) (by rw [hs.there, hinv.2]; rfl)
       have hsm2 : (⟨s.ins, s.regs, s.gates ++ [(min a b, max a b)], []⟩ : Net).Small := hg2.small
       have k5 : (⟨s.ins, s.regs, s.gates ++ [(min a b, max a b)], []⟩ : Net).first = 1 + s.ins.length + s.regs.length := rfl
       have k6 : (s.gates ++ [(min a b, max a b)]).length = s.gates.length + 1 := by simp
       refine aw_skip ?_
       refine aw_seq ?_
       refine aw_plan [0, 1, 2, 3, 4, 5, 6, 7, 8, 9, 10, 11, 12] (Checked.mixed Try.checked) (by kernel_rfl) ?_
       refine afl_float rfl rfl (opk_of (op_move rfl)) (by simp) ?_
       refine afl_float rfl rfl (opk_of (op_move rfl)) (by simp) ?_
       refine afl_float rfl rfl (opk_of (op_nilCheck_ptr rfl rfl)) (by simp) ?_
       refine afl_float rfl rfl (opk_of (op_field_ptr Try.underlying111 rfl info27 (by decide) rfl rfl rfl)) (by simp) ?_
       refine afl_float rfl rfl (opk_of (op_field_ptr Try.underlying27 rfl info24 (by decide) rfl rfl rfl)) (by simp) ?_
       refine afl_float rfl rfl (opk_of (op_load_ptr Try.underlying24 info24 rfl rfl rfl rfl)) (by simp) ?_
       refine afl_float rfl rfl (opk_of (op_load_ptr Try.underlying86 info86 rfl rfl rfl rfl)) (by simp) ?_
       refine afl_float rfl rfl (opk_of (op_buildSlice Try.underlying24 info86 rfl rfl (by decide) rfl (by decide) rfl (by first | rfl | (repeat (first | exact parts_nil | refine parts_cons rfl (by repeat (first | exact all_live_nil | refine all_live_clo rfl ?_ | refine all_live_slice rfl ?_ | refine all_live_map rfl ?_ | refine all_live_ptr rfl ?_)) ?_))) rfl rfl rfl)) (by simp) ?_
       (refine afl_effR rfl rfl (by kernel_rfl) (op_append_one (min a b, max a b) Try.underlying24 Try.underlying24 rfl info86 rfl rfl (by decide) rfl rfl rfl (by first | rfl | simp) rfl rfl (by first | omega | (simp; done) | (simp; omega)) (by show _ * 16 ≤ _; first | omega | (simp; done) | (simp; omega))) (by simp) ?_; rintro _ _ ⟨ver94, rfl, rfl⟩; refine ⟨?_, ?_⟩)
       ·
        refine loose_anc 7 rfl (by kernel_rfl) ?_
        refine loose_anc 6 rfl (by kernel_rfl) ?_
        refine loose_anc 5 rfl (by kernel_rfl) ?_
        refine loose_anc 4 rfl (by kernel_rfl) ?_
        refine loose_anc 3 rfl (by kernel_rfl) ?_
        refine loose_anc 2 rfl (by kernel_rfl) ?_
        refine loose_anc 1 rfl (by kernel_rfl) ?_
        refine loose_k rfl (opk_of (op_move rfl)) ?_
        exact loose_nil
       refine afl_float rfl rfl (opk_of (op_nilCheck_ptr rfl rfl)) (by simp) ?_
       refine afl_float rfl rfl (opk_of (op_field_ptr Try.underlying111 rfl info27 (by decide) rfl rfl rfl)) (by simp) ?_
       refine afl_float rfl rfl (opk_of (op_field_ptr Try.underlying27 rfl info24 (by decide) rfl rfl rfl)) (by simp) ?_
       (refine afl_eff rfl rfl (by kernel_rfl) (op_store_ptr info24 rfl rfl rfl rfl rfl rfl (by first | rfl | exact live_one rfl | (repeat (first | exact all_live_nil | refine all_live_clo rfl ?_ | refine all_live_slice rfl ?_ | refine all_live_map rfl ?_ | refine all_live_ptr rfl ?_))) (Nat.le_of_ble_eq_true rfl)) (by simp) ?_ ?_)
       ·
        refine loose_anc 11 rfl (by kernel_rfl) ?_
        refine loose_anc 10 rfl (by kernel_rfl) ?_
        refine loose_anc 9 rfl (by kernel_rfl) ?_
        refine loose_anc 8 rfl (by kernel_rfl) ?_
        refine loose_anc 7 rfl (by kernel_rfl) ?_
        refine loose_anc 6 rfl (by kernel_rfl) ?_
        refine loose_anc 5 rfl (by kernel_rfl) ?_
        refine loose_anc 4 rfl (by kernel_rfl) ?_
        refine loose_anc 3 rfl (by kernel_rfl) ?_
        refine loose_anc 2 rfl (by kernel_rfl) ?_
        refine loose_anc 1 rfl (by kernel_rfl) ?_
        refine loose_anc 0 rfl (by kernel_rfl) ?_
        exact loose_nil
       refine afl_end ?_
       refine aw_seq ?_
       refine aw_any (Checked.mixed Try.checked) ?_
       apply aany_seg (p := 0) (q := 16) (by kernel_rfl) rfl (by decide)
       ·
        apply ql_plain rfl (op_move rfl)
        apply ql_plain rfl (op_nilCheck_ptr rfl rfl)
        apply ql_plain rfl (op_field_ptr Try.underlying111 rfl info27 (by decide) rfl rfl rfl)
        apply ql_plain rfl (op_load_ptr Try.underlying27 info27 rfl rfl rfl rfl)
        apply ql_call into63 rfl rfl rfl (acp_lent (lend_cons (by first | exact lend_same | exact .leaf _ _ (.vnil _) | exact .leaf _ _ (.nil _) | exact lend_whole rfl (by first | rfl | (simp; done) | (simp; omega)) (clo_map (fun _ => rfl)) | exact lend_netg (by first | exact .same _ | exact lendL_vnil | exact lendL_whole rfl (by first | rfl | (simp; done) | (simp; omega)) (clo_map (fun _ => rfl))) (by first | exact .same _ | exact lendL_vnil | exact lendL_whole rfl (by first | rfl | (simp; done) | (simp; omega)) (clo_map (fun _ => rfl))) (by first | exact .same _ | exact lendL_vnil | exact lendL_whole rfl (by first | rfl | (simp; done) | (simp; omega)) (clo_map (fun _ => rfl))) (by first | exact .same _ | exact lendL_vnil | exact lendL_whole rfl (by first | rfl | (simp; done) | (simp; omega)) (clo_map (fun _ => rfl)))) lend_nil) (r_first _ (by assumption)) rfl)
        apply ql_plain rfl (op_move rfl)
        apply ql_plain rfl (op_nilCheck_ptr rfl rfl)
        apply ql_plain rfl (op_field_ptr Try.underlying111 rfl info27 (by decide) rfl rfl rfl)
        apply ql_plain rfl (op_field_ptr Try.underlying27 rfl info24 (by decide) rfl rfl rfl)
        apply ql_plain rfl (op_load_ptr Try.underlying24 info24 rfl rfl rfl rfl)
        apply ql_plain rfl (op_len_slice Try.underlying24 rfl rfl)
        apply ql_plain rfl (op_add rfl rfl (by first | exact wrap_i64 (by omega) (by omega)))
        apply ql_plain rfl (op_sub rfl rfl (by first | exact wrap_i64 (by omega) (by omega)))
        apply ql_plain rfl (op_mul rfl rfl (by first | exact wrap_i64 (by omega) (by omega)))
        apply ql_plain rfl (op_assign rfl)
        apply ql_plain rfl (op_assign rfl)
        exact ql_nil
       ·simp
       refine aany_end rfl (by kernel_rfl) ?_
       refine aw_ret ?_
       refine ⟨_, res_2 rfl rfl rfl rfl rfl, ?_⟩
       rw [MS.rand_new hs hno gh5 gh6 gh8 hinv.2 (by omega)]; refine ⟨_, congrArg (fun z => AEnd.ret (.tuple [.v (.int .i64 z), .v (.int .i64 0)])) ?_, rfl⟩
       rw [MS.lits_first, MS.first_eq]
       show 2 * (_ : Int) = 2 * (1 + (s.ins.length : Int) + s.regs.length + s.gates.length)
       omega
theorem r_And (s : MS) (vm vg vr vi : Nat) (a b : Int) (hs : s.Good) (ha : a ≤ 9223372036854775807) (hb : b ≤ 9223372036854775807) : AC Try.prog 32 [.ptr 0 vm 0 0, .v (.int .i64 (a)), .v (.int .i64 (b))] (rk0 s vm vg vr vi) (fun r σ' => ∃ vg', r = .ret (.tuple [.v (.int .i64 ((s.and a b).1.1)), .v (.int .i64 ((s.and a b).1.2))]) ∧ σ' = rk0 (s.and a b).2 vm vg' vr vi) :=
  ac_mono (ac_keep (fun i => decide (i ≤ 3)) (q_rAnd s vm vg vr vi a b hs ha hb)) (by rintro x σ1 ⟨σ2, ⟨vg', rfl, e⟩, rfl⟩; exact ⟨vg', rfl, e⟩)

theorem r_Or (s : MS) (vm vg vr vi : Nat) (a b : Int) (hs : s.Good) (h_a : a ≤ 9223372036854775807) (h_b : b ≤ 9223372036854775807) : AC Try.prog 34 [.ptr 0 vm 0 0, .v (.int .i64 (a)), .v (.int .i64 (b))] (rk0 s vm vg vr vi) (fun r σ' => ∃ vg', r = .ret (.tuple [.v (.int .i64 ((s.or a b).1.1)), .v (.int .i64 ((s.or a b).1.2))]) ∧ σ' = rk0 (s.or a b).2 vm vg' vr vi) := by
 have hx2 : ∀ x ∈ [a, b], x ≤ 9223372036854775807 := by intro x hx; simp at hx; omega
 refine ac_enter 30 Try.func34 rfl rfl (by simp) ?_
 refine aw_seq ?_
 refine aw_region ?_
 refine al_op (op_assign rfl) rfl (by simp) ?_
 refine al_op (op_assign rfl) rfl (by simp) ?_
 refine al_nil ?_
 refine aw_seq ?_
 refine aw_seq ?_
 refine aw_region ?_
 refine al_op (op_move rfl) rfl (by simp) ?_
 refine al_op (op_move rfl) rfl (by simp) ?_
 refine al_op (op_move rfl) rfl (by simp) ?_
 refine al_op (op_list encI [a, b] Try.underlying54 info3 rfl rfl (by decide) rfl (by decide) rfl (by first | rfl | (repeat (first | exact parts_nil | refine parts_cons rfl (by repeat (first | exact all_live_nil | refine all_live_clo rfl ?_ | refine all_live_slice rfl ?_ | refine all_live_map rfl ?_ | refine all_live_ptr rfl ?_)) ?_))) rfl rfl rfl rfl) rfl (by simp) ?_
 refine al_callp into73 rfl rfl rfl (r_lits _ _ _ _ _ _ (by assumption) (by simp) (by assumption)) (by simp) ?_
 refine al_op (op_not rfl) rfl (by simp) ?_
 refine al_nil ?_
 refine aw_cond rfl (fun h1 => ?_) (fun h1 => ?_)
 ·have gh1 := h1
  try simp only [nrm] at h1
  refine aw_seq ?_
  refine aw_region ?_
  refine al_op (op_assign rfl) rfl (by simp) ?_
  refine al_op (op_assign rfl) rfl (by simp) ?_
  refine al_nil ?_
  refine aw_ret ?_
  refine ⟨_, res_2 rfl rfl rfl rfl rfl, ?_⟩
  have e := MS.no_err (s := s) (l := [a, b]) (by simpa using gh1)
  rw [MS.or_no (by rw [e]; rfl), e]; exact ⟨_, rfl, rfl⟩
 ·have gh1 := h1
  try simp only [nrm] at h1
  have hno : s.no [a, b] = 0 := by simpa using gh1
  obtain ⟨q1, q2, q3, q4⟩ := MS.no_two hno
  obtain ⟨q5, q6⟩ := hs.ok.lits
  obtain ⟨q7, q8⟩ := MS.and_lit hs.ok (flip a) (flip b)
  have w1 := flip_le (x := a) (by omega)
  have w2 := flip_le (x := b) (by omega)
  refine aw_skip ?_
  refine aw_seq ?_
  refine aw_region ?_
  refine al_op (op_move rfl) rfl (by simp) ?_
  refine al_op (op_move rfl) rfl (by simp) ?_
  refine al_callp into74 rfl rfl rfl ((r_inverse _ (by omega) (by omega)) _) (by simp) ?_
  refine al_op (op_move rfl) rfl (by simp) ?_
  refine al_callp into74 rfl rfl rfl ((r_inverse _ (by omega) (by omega)) _) (by simp) ?_
  (refine al_call into32 rfl rfl rfl (r_And _ _ _ _ _ _ _ (by assumption) (by omega) (by omega)) (by simp) ?_; rintro _ _ ⟨vg22, rfl, rfl⟩)
  refine al_op (op_move rfl) rfl (by simp) ?_
  refine al_op (op_extract rfl rfl rfl) rfl (by simp) ?_
  refine al_op (op_extract rfl rfl rfl) rfl (by simp) ?_
  refine al_op (op_assign rfl) rfl (by simp) ?_
  refine al_op (op_assign rfl) rfl (by simp) ?_
  refine al_nil ?_
  refine aw_seq ?_
  refine aw_seq ?_
  refine aw_region ?_
  refine al_op (op_move rfl) rfl (by simp) ?_
  refine al_op (op_neq rfl rfl) rfl (by simp) ?_
  refine al_nil ?_
  refine aw_cond rfl (fun h2 => ?_) (fun h2 => ?_)
  ·have gh2 := h2
   try simp only [nrm] at h2
   refine aw_seq ?_
   refine aw_region ?_
   refine al_op (op_move rfl) rfl (by simp) ?_
   refine al_op (op_assign rfl) rfl (by simp) ?_
   refine al_op (op_assign rfl) rfl (by simp) ?_
   refine al_nil ?_
   refine aw_ret ?_
   refine ⟨_, res_2 rfl rfl rfl rfl rfl, ?_⟩
   rw [MS.or_err hno gh2]; exact ⟨_, rfl, rfl⟩
  ·have gh2 := h2
   try simp only [nrm] at h2
   refine aw_skip ?_
   refine aw_seq ?_
   refine aw_region ?_
   refine al_op (op_move rfl) rfl (by simp) ?_
   refine al_callp into74 rfl rfl rfl ((r_inverse _ (by omega) (by omega)) _) (by simp) ?_
   refine al_op (op_assign rfl) rfl (by simp) ?_
   refine al_op (op_assign rfl) rfl (by simp) ?_
   refine al_nil ?_
   refine aw_ret ?_
   refine ⟨_, res_2 rfl rfl rfl rfl rfl, ?_⟩
   rw [MS.or_ok hno gh2]; exact ⟨_, rfl, rfl⟩

theorem r_either (s : MS) (vm vg vr vi : Nat) (a b c d : Int) (hs : s.Good) (h_a : a ≤ 9223372036854775807) (h_b : b ≤ 9223372036854775807) (h_c : c ≤ 9223372036854775807) (h_d : d ≤ 9223372036854775807) : AC Try.prog 76 [.ptr 0 vm 0 0, .v (.int .i64 (a)), .v (.int .i64 (b)), .v (.int .i64 (c)), .v (.int .i64 (d))] (rk0 s vm vg vr vi) (fun r σ' => ∃ vg', r = .ret (.tuple [.v (.int .i64 ((s.either a b c d).1.1)), .v (.int .i64 ((s.either a b c d).1.2))]) ∧ σ' = rk0 (s.either a b c d).2 vm vg' vr vi) := by
 have hs1 := MS.and_good hs a b
 have hs2 := MS.and_good hs1 c d
 obtain ⟨w1, w2⟩ := MS.and_lit hs.ok a b
 obtain ⟨w3, w4⟩ := MS.and_lit hs1.ok c d
 refine ac_enter 41 Try.func76 rfl rfl (by simp) ?_
 refine aw_seq ?_
 refine aw_region ?_
 refine al_op (op_assign rfl) rfl (by simp) ?_
 refine al_op (op_assign rfl) rfl (by simp) ?_
 refine al_nil ?_
 refine aw_seq ?_
 refine aw_region ?_
 refine al_op (op_move rfl) rfl (by simp) ?_
 refine al_op (op_move rfl) rfl (by simp) ?_
 refine al_op (op_move rfl) rfl (by simp) ?_
 (refine al_call into32 rfl rfl rfl (r_And _ _ _ _ _ _ _ (by assumption) (by omega) (by omega)) (by simp) ?_; rintro _ _ ⟨vg19, rfl, rfl⟩)
 refine al_op (op_move rfl) rfl (by simp) ?_
 refine al_op (op_extract rfl rfl rfl) rfl (by simp) ?_
 refine al_op (op_extract rfl rfl rfl) rfl (by simp) ?_
 refine al_op (op_assign rfl) rfl (by simp) ?_
 refine al_op (op_assign rfl) rfl (by simp) ?_
 refine al_nil ?_
 refine aw_seq ?_
 refine aw_seq ?_
 refine aw_region ?_
 refine al_op (op_move rfl) rfl (by simp) ?_
 refine al_op (op_neq rfl rfl) rfl (by simp) ?_
 refine al_nil ?_
 refine aw_cond rfl (fun h1 => ?_) (fun h1 => ?_)
 ·have gh1 := h1
  try simp only [nrm] at h1
  refine aw_seq ?_
  refine aw_region ?_
  refine al_op (op_move rfl) rfl (by simp) ?_
  refine al_op (op_assign rfl) rfl (by simp) ?_
  refine al_op (op_assign rfl) rfl (by simp) ?_
  refine al_nil ?_
  refine aw_ret ?_
  refine ⟨_, res_2 rfl rfl rfl rfl rfl, ?_⟩
  rw [MS.either_1 gh1]; exact ⟨_, rfl, rfl⟩
 ·have gh1 := h1
  try simp only [nrm] at h1
  refine aw_skip ?_
  refine aw_seq ?_
  refine aw_region ?_
  refine al_op (op_move rfl) rfl (by simp) ?_
  refine al_op (op_move rfl) rfl (by simp) ?_
  refine al_op (op_move rfl) rfl (by simp) ?_
  (refine al_call into32 rfl rfl rfl (r_And _ _ _ _ _ _ _ (by assumption) (by omega) (by omega)) (by simp) ?_; rintro _ _ ⟨vg29, rfl, rfl⟩)
  refine al_op (op_move rfl) rfl (by simp) ?_
  refine al_op (op_extract rfl rfl rfl) rfl (by simp) ?_
  refine al_op (op_extract rfl rfl rfl) rfl (by simp) ?_
  refine al_op (op_assign rfl) rfl (by simp) ?_
  refine al_op (op_assign rfl) rfl (by simp) ?_
  refine al_nil ?_
  refine aw_seq ?_
  refine aw_seq ?_
  refine aw_region ?_
  refine al_op (op_move rfl) rfl (by simp) ?_
  refine al_op (op_neq rfl rfl) rfl (by simp) ?_
  refine al_nil ?_
  refine aw_cond rfl (fun h2 => ?_) (fun h2 => ?_)
  ·have gh2 := h2
   try simp only [nrm] at h2
   refine aw_seq ?_
   refine aw_region ?_
   refine al_op (op_move rfl) rfl (by simp) ?_
   refine al_op (op_assign rfl) rfl (by simp) ?_
   refine al_op (op_assign rfl) rfl (by simp) ?_
   refine al_nil ?_
   refine aw_ret ?_
   refine ⟨_, res_2 rfl rfl rfl rfl rfl, ?_⟩
   rw [MS.either_2 gh1 gh2]; exact ⟨_, rfl, rfl⟩
  ·have gh2 := h2
   try simp only [nrm] at h2
   refine aw_skip ?_
   refine aw_seq ?_
   refine aw_region ?_
   refine al_op (op_move rfl) rfl (by simp) ?_
   refine al_op (op_move rfl) rfl (by simp) ?_
   refine al_op (op_move rfl) rfl (by simp) ?_
   (refine al_call into34 rfl rfl rfl (r_Or _ _ _ _ _ _ _ (by assumption) (by omega) (by omega)) (by simp) ?_; rintro _ _ ⟨vg38, rfl, rfl⟩)
   refine al_op (op_extract rfl rfl rfl) rfl (by simp) ?_
   refine al_op (op_extract rfl rfl rfl) rfl (by simp) ?_
   refine al_op (op_assign rfl) rfl (by simp) ?_
   refine al_op (op_assign rfl) rfl (by simp) ?_
   refine al_nil ?_
   refine aw_ret ?_
   refine ⟨_, res_2 rfl rfl rfl rfl rfl, ?_⟩
   rw [MS.either_3 gh1 gh2]; exact ⟨_, rfl, rfl⟩

theorem r_Xor (s : MS) (vm vg vr vi : Nat) (a b : Int) (hs : s.Good) (h_a : a ≤ 9223372036854775807) (h_b : b ≤ 9223372036854775807) : AC Try.prog 36 [.ptr 0 vm 0 0, .v (.int .i64 (a)), .v (.int .i64 (b))] (rk0 s vm vg vr vi) (fun r σ' => ∃ vg', r = .ret (.tuple [.v (.int .i64 ((s.xor a b).1.1)), .v (.int .i64 ((s.xor a b).1.2))]) ∧ σ' = rk0 (s.xor a b).2 vm vg' vr vi) := by
 have hx2 : ∀ x ∈ [a, b], x ≤ 9223372036854775807 := by intro x hx; simp at hx; omega
 refine ac_enter 24 Try.func36 rfl rfl (by simp) ?_
 refine aw_seq ?_
 refine aw_region ?_
 refine al_op (op_assign rfl) rfl (by simp) ?_
 refine al_op (op_assign rfl) rfl (by simp) ?_
 refine al_nil ?_
 refine aw_seq ?_
 refine aw_seq ?_
 refine aw_region ?_
 refine al_op (op_move rfl) rfl (by simp) ?_
 refine al_op (op_move rfl) rfl (by simp) ?_
 refine al_op (op_move rfl) rfl (by simp) ?_
 refine al_op (op_list encI [a, b] Try.underlying54 info3 rfl rfl (by decide) rfl (by decide) rfl (by first | rfl | (repeat (first | exact parts_nil | refine parts_cons rfl (by repeat (first | exact all_live_nil | refine all_live_clo rfl ?_ | refine all_live_slice rfl ?_ | refine all_live_map rfl ?_ | refine all_live_ptr rfl ?_)) ?_))) rfl rfl rfl rfl) rfl (by simp) ?_
 refine al_callp into73 rfl rfl rfl (r_lits _ _ _ _ _ _ (by assumption) (by simp) (by assumption)) (by simp) ?_
 refine al_op (op_not rfl) rfl (by simp) ?_
 refine al_nil ?_
 refine aw_cond rfl (fun h1 => ?_) (fun h1 => ?_)
 ·have gh1 := h1
  try simp only [nrm] at h1
  refine aw_seq ?_
  refine aw_region ?_
  refine al_op (op_assign rfl) rfl (by simp) ?_
  refine al_op (op_assign rfl) rfl (by simp) ?_
  refine al_nil ?_
  refine aw_ret ?_
  refine ⟨_, res_2 rfl rfl rfl rfl rfl, ?_⟩
  have e := MS.no_err (s := s) (l := [a, b]) (by simpa using gh1)
  rw [MS.xor_no (by rw [e]; rfl), e]; exact ⟨_, rfl, rfl⟩
 ·have gh1 := h1
  try simp only [nrm] at h1
  have hno : s.no [a, b] = 0 := by simpa using gh1
  obtain ⟨q1, q2, q3, q4⟩ := MS.no_two hno
  obtain ⟨q5, q6⟩ := hs.ok.lits
  have w1 := flip_le (x := a) (by omega)
  have w2 := flip_le (x := b) (by omega)
  refine aw_skip ?_
  refine aw_seq ?_
  refine aw_region ?_
  refine al_op (op_move rfl) rfl (by simp) ?_
  refine al_op (op_move rfl) rfl (by simp) ?_
  refine al_op (op_move rfl) rfl (by simp) ?_
  refine al_callp into74 rfl rfl rfl ((r_inverse _ (by omega) (by omega)) _) (by simp) ?_
  refine al_op (op_move rfl) rfl (by simp) ?_
  refine al_callp into74 rfl rfl rfl ((r_inverse _ (by omega) (by omega)) _) (by simp) ?_
  refine al_op (op_move rfl) rfl (by simp) ?_
  (refine al_call into76 rfl rfl rfl (r_either _ _ _ _ _ _ _ _ _ (by assumption) (by omega) (by omega) (by omega) (by omega)) (by simp) ?_; rintro _ _ ⟨vg21, rfl, rfl⟩)
  refine al_op (op_extract rfl rfl rfl) rfl (by simp) ?_
  refine al_op (op_extract rfl rfl rfl) rfl (by simp) ?_
  refine al_op (op_assign rfl) rfl (by simp) ?_
  refine al_op (op_assign rfl) rfl (by simp) ?_
  refine al_nil ?_
  refine aw_ret ?_
  refine ⟨_, res_2 rfl rfl rfl rfl rfl, ?_⟩
  rw [MS.xor_ok hno]; exact ⟨_, rfl, rfl⟩

theorem r_Mux (s : MS) (vm vg vr vi : Nat) (x a b : Int) (hs : s.Good) (h_x : x ≤ 9223372036854775807) (h_a : a ≤ 9223372036854775807) (h_b : b ≤ 9223372036854775807) : AC Try.prog 38 [.ptr 0 vm 0 0, .v (.int .i64 (x)), .v (.int .i64 (a)), .v (.int .i64 (b))] (rk0 s vm vg vr vi) (fun r σ' => ∃ vg', r = .ret (.tuple [.v (.int .i64 ((s.mux x a b).1.1)), .v (.int .i64 ((s.mux x a b).1.2))]) ∧ σ' = rk0 (s.mux x a b).2 vm vg' vr vi) := by
 have hx2 : ∀ y ∈ [x, a, b], y ≤ 9223372036854775807 := by intro y hx; simp at hx; omega
 refine ac_enter 26 Try.func38 rfl rfl (by simp) ?_
 refine aw_seq ?_
 refine aw_region ?_
 refine al_op (op_assign rfl) rfl (by simp) ?_
 refine al_op (op_assign rfl) rfl (by simp) ?_
 refine al_nil ?_
 refine aw_seq ?_
 refine aw_seq ?_
 refine aw_region ?_
 refine al_op (op_move rfl) rfl (by simp) ?_
 refine al_op (op_move rfl) rfl (by simp) ?_
 refine al_op (op_move rfl) rfl (by simp) ?_
 refine al_op (op_move rfl) rfl (by simp) ?_
 refine al_op (op_list encI [x, a, b] Try.underlying54 info3 rfl rfl (by decide) rfl (by decide) rfl (by first | rfl | (repeat (first | exact parts_nil | refine parts_cons rfl (by repeat (first | exact all_live_nil | refine all_live_clo rfl ?_ | refine all_live_slice rfl ?_ | refine all_live_map rfl ?_ | refine all_live_ptr rfl ?_)) ?_))) rfl rfl rfl rfl) rfl (by simp) ?_
 refine al_callp into73 rfl rfl rfl (r_lits _ _ _ _ _ _ (by assumption) (by simp) (by assumption)) (by simp) ?_
 refine al_op (op_not rfl) rfl (by simp) ?_
 refine al_nil ?_
 refine aw_cond rfl (fun h1 => ?_) (fun h1 => ?_)
 ·have gh1 := h1
  try simp only [nrm] at h1
  refine aw_seq ?_
  refine aw_region ?_
  refine al_op (op_assign rfl) rfl (by simp) ?_
  refine al_op (op_assign rfl) rfl (by simp) ?_
  refine al_nil ?_
  refine aw_ret ?_
  refine ⟨_, res_2 rfl rfl rfl rfl rfl, ?_⟩
  have e := MS.no_err (s := s) (l := [x, a, b]) (by simpa using gh1)
  rw [MS.mux_no (by rw [e]; rfl), e]; exact ⟨_, rfl, rfl⟩
 ·have gh1 := h1
  try simp only [nrm] at h1
  have hno : s.no [x, a, b] = 0 := by simpa using gh1
  obtain ⟨⟨q1, q2⟩, ⟨q3, q4⟩, q5, q6⟩ := MS.no_three hno
  obtain ⟨q7, q8⟩ := hs.ok.lits
  have w1 := flip_le (x := x) (by omega)
  refine aw_skip ?_
  refine aw_seq ?_
  refine aw_region ?_
  refine al_op (op_move rfl) rfl (by simp) ?_
  refine al_op (op_move rfl) rfl (by simp) ?_
  refine al_op (op_move rfl) rfl (by simp) ?_
  refine al_op (op_move rfl) rfl (by simp) ?_
  refine al_callp into74 rfl rfl rfl ((r_inverse _ (by omega) (by omega)) _) (by simp) ?_
  refine al_op (op_move rfl) rfl (by simp) ?_
  (refine al_call into76 rfl rfl rfl (r_either _ _ _ _ _ _ _ _ _ (by assumption) (by omega) (by omega) (by omega) (by omega)) (by simp) ?_; rintro _ _ ⟨vg23, rfl, rfl⟩)
  refine al_op (op_extract rfl rfl rfl) rfl (by simp) ?_
  refine al_op (op_extract rfl rfl rfl) rfl (by simp) ?_
  refine al_op (op_assign rfl) rfl (by simp) ?_
  refine al_op (op_assign rfl) rfl (by simp) ?_
  refine al_nil ?_
  refine aw_ret ?_
  refine ⟨_, res_2 rfl rfl rfl rfl rfl, ?_⟩
  rw [MS.mux_ok hno]; exact ⟨_, rfl, rfl⟩
end Go.Proofs.Ytbpamlphacpkeaa
