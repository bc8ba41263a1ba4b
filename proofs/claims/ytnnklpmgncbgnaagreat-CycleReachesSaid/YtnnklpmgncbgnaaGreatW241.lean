/- Printed walks (gen.py, gates_ann.py): part 241. -/
import Derived.Test.YtnnklpmgncbgnaaGreatW225
import Derived.Test.YtnnklpmgncbgnaaGreatCLawR
import Derived.Test.YtnnklpmgncbgnaaGreatCLane
import Derived.Test.YtnnklpmgncbgnaaGreatCMany
import Derived.Test.YtnnklpmgncbgnaaGreatFacts
set_option linter.unusedVariables false
set_option linter.unusedSimpArgs false
set_option maxRecDepth 20000
set_option maxHeartbeats 40000000
namespace Go.Proofs.YtnnklpmgncbgnaaGreat
open Go

theorem r_Known4 (n : Net) (hn : n.Small) : ACp Tryz.prog 15 [encN n] (.v (.bool (n.known4))) := by
 refine acp_of rfl ?_
 have z2 := hn.regsL
 refine ac_enter 21 Tryz.func15 rfl rfl (by simp) ?_
 refine aw_seq ?_
 refine aw_region ?_
 (refine al_opR (op_box 1 rfl rfl (by first | rfl | exact live_one rfl | (repeat (first | exact all_live_nil | refine all_live_clo rfl ?_ | refine all_live_slice rfl ?_ | refine all_live_map rfl ?_ | refine all_live_ptr rfl ?_)))) rfl (by simp) ?_; rintro _ _ ⟨ver1, rfl, rfl⟩)
 refine al_op (op_assign rfl) rfl (by simp) ?_
 refine al_nil ?_
 refine aw_seq ?_
 refine aw_seq ?_
 refine aw_region ?_
 refine al_op (op_field_ptr Tryz.underlying27 rfl info23 (by decide) rfl rfl rfl) rfl (by simp) ?_
 refine al_op (op_load_ptr Tryz.underlying23 info23 rfl rfl rfl rfl) rfl (by simp) ?_
 refine al_op (op_len_map Tryz.underlying23 rfl) rfl (by simp) ?_
 refine al_op (op_move rfl) rfl (by simp) ?_
 refine al_nil ?_
 refine aw_block ?_
 refine aw_forT (ι := Nat) [2, 8] [4] (fun i => n.regs.length - i) (fun i => i ≤ n.regs.length ∧ allTo (known4At n) i = true) (fun i => ([(8, .v (.int .i64 (i)))] : Env)) (fun i s => s) (0) ?_ ?_ ?_ (fun i hinv => ?_)
 ·exact ⟨Nat.zero_le _, rfl⟩
 ·refine sub_cons (get_as rfl ?_) ?_; rotate_left; exact sub_nil
  all_goals (first | rfl | simp)
 ·rfl
 have hii := hinv.1
 refine aw_seq ?_
 refine aw_region ?_
 refine al_op (op_lss rfl rfl) rfl (by simp) ?_
 refine al_nil ?_
 refine aw_seq ?_
 refine aw_cond rfl (fun h1 => ?_) (fun h1 => ?_)
 ·have gh1 := h1
  try simp only [nrm] at h1
  refine aw_skip ?_
  refine aw_seq ?_
  refine aw_block ?_
  refine aw_seq ?_
  refine aw_region ?_
  refine al_op (op_index_map default Tryz.underlying23 info77 rfl rfl rfl (by first | (with_reducible exact Int.toNat_natCast _) | rfl) (by omega) (by omega)) rfl (by simp) ?_
  refine al_op (op_load_rptr Tryz.underlying77 info77 rfl rfl) rfl (by simp) ?_
  (refine al_opR (op_alloc 4 info77 rfl rfl) rfl (by simp) ?_; rintro _ _ ⟨ver4, rfl, rfl⟩)
  refine al_op (op_store_ptr info77 rfl rfl rfl rfl rfl rfl (by first | rfl | exact live_one rfl | (repeat (first | exact all_live_nil | refine all_live_clo rfl ?_ | refine all_live_slice rfl ?_ | refine all_live_map rfl ?_ | refine all_live_ptr rfl ?_))) (Nat.le_of_ble_eq_true rfl)) rfl (by simp) ?_
  refine al_nil ?_
  refine aw_seq ?_
  refine aw_region ?_
  refine al_op (op_field_ptr Tryz.underlying77 rfl info44 (by decide) rfl rfl rfl) rfl (by simp) ?_
  refine al_op (op_load_ptr Tryz.underlying44 info44 rfl rfl rfl rfl) rfl (by simp) ?_
  refine al_op (op_neq rfl rfl) rfl (by simp) ?_
  refine al_op (op_move rfl) rfl (by simp) ?_
  apply al_and 4 15 19 rfl
  ·intro h2; have gh2 := h2
   try simp only [nrm] at h2
   refine al_take (op_field_ptr Tryz.underlying77 rfl info44 (by decide) rfl rfl rfl) rfl rfl rfl rfl (by simp) ?_
   refine al_take (op_load_ptr Tryz.underlying44 info44 rfl rfl rfl rfl) rfl rfl rfl rfl (by simp) ?_
   refine al_take (op_neq rfl rfl) rfl rfl rfl rfl (by simp) ?_
   refine al_op (op_pick rfl rfl) rfl (by simp) ?_
   refine al_nil ⟨rfl, rfl, rfl, keep_of ?_⟩
   repeat (first | exact subx_refl | exact subx_known rfl gh2 subx_refl | refine subx_put rfl ?_)
  ·intro h2; have gh2 := h2
   try simp only [nrm] at h2
   refine al_pass rfl rfl rfl rfl (by simp) ?_
   refine al_pass rfl rfl rfl rfl (by simp) ?_
   refine al_pass rfl rfl rfl rfl (by simp) ?_
   refine al_op (op_pick rfl rfl) rfl (by simp) ?_
   refine al_nil ⟨rfl, rfl, rfl, keep_of ?_⟩
   repeat (first | exact subx_refl | exact subx_known rfl gh2 subx_refl | refine subx_put rfl ?_)
  refine al_nil ?_
  refine aw_cond rfl (fun h3 => ?_) (fun h3 => ?_)
  ·have gh3 := h3
   try simp only [nrm] at h3
   refine aw_seq ?_
   refine aw_region ?_
   refine al_op (op_assign rfl) rfl (by simp) ?_
   refine al_nil ?_
   refine aw_freeze (fun _ => false) (fsub_cons (t := 2) rfl (.leaf _ _ (.same _)) fsub_nil) ?_
   refine aw_ret ?_
   refine ⟨_, res_1 rfl rfl, ?_, rfl⟩
   rw [Net.known4_false i (by omega) (by rw [known4At, gh3]; rfl)]
  ·have gh3 := h3
   try simp only [nrm] at h3
   refine aw_skip ?_
   refine aw_region ?_
   refine al_op (op_add rfl rfl (by first | exact wrap_i64 (by omega) (by omega))) rfl (by simp) ?_
   refine al_op (op_move rfl) rfl (by simp) ?_
   refine al_nil ?_
   refine ⟨i + 1, ?_, ?_, ?_, ?_, ?_⟩
   ·omega
   ·exact ⟨by omega, allTo_succ hinv.2 (by rw [known4At, gh3]; rfl)⟩
   ·refine sub_cons (get_as rfl ?_) ?_; rotate_left; exact sub_nil
    all_goals (first | rfl | simp)
   ·repeat (first | exact subx_refl | exact subx_del | refine subx_put rfl ?_)
   ·rfl
 ·have gh1 := h1
  try simp only [nrm] at h1
  refine aw_exit ?_
  obtain rfl : i = n.regs.length := by omega
  have hall := hinv.2
  refine aw_seq ?_
  refine aw_region ?_
  refine al_op (op_assign rfl) rfl (by simp) ?_
  refine al_nil ?_
  refine aw_freeze (fun _ => false) (fsub_cons (t := 2) rfl (.leaf _ _ (.same _)) fsub_nil) ?_
  refine aw_ret ?_
  refine ⟨_, res_1 rfl rfl, ?_, rfl⟩
  rw [Net.known4, hall]

theorem l_light (n : Net) (hn : n.Small) : ACp Tryz.prog 4 [encN n] (.v (.bool (n.light))) := by
 refine acp_of rfl ?_
 have z1 := hn.insL
 have z2 := hn.regsL
 have z4 := hn.gatesL
 refine ac_enter 40 Tryz.func4 rfl rfl (by simp) ?_
 refine aw_seq ?_
 refine aw_region ?_
 (refine al_opR (op_box 1 rfl rfl (by first | rfl | exact live_one rfl | (repeat (first | exact all_live_nil | refine all_live_clo rfl ?_ | refine all_live_slice rfl ?_ | refine all_live_map rfl ?_ | refine all_live_ptr rfl ?_)))) rfl (by simp) ?_; rintro _ _ ⟨ver1, rfl, rfl⟩)
 refine al_op (op_assign rfl) rfl (by simp) ?_
 refine al_nil ?_
 refine aw_seq ?_
 refine aw_region ?_
 refine al_op (op_load_ptr Tryz.underlying27 info27 rfl rfl rfl rfl) rfl (by simp) ?_
 refine al_callp into14 rfl rfl rfl (ac_told (re_cons (.leaf _ _ (.same _)) (re_cons (.leaf _ _ (.vnil 1)) re_nil)) (l_few n hn [] ins_nil _)) (by simp) ?_
 refine al_op (op_move rfl) rfl (by simp) ?_
 apply al_and 34 5 39 rfl
 ·intro h1; have gh1 := h1
  try simp only [nrm] at h1
  refine al_take (op_field_ptr Tryz.underlying27 rfl info22 (by decide) rfl rfl rfl) rfl rfl rfl rfl (by simp) ?_
  refine al_take (op_load_ptr Tryz.underlying22 info22 rfl rfl rfl rfl) rfl rfl rfl rfl (by simp) ?_
  refine al_take (op_len_map Tryz.underlying22 rfl) rfl rfl rfl rfl (by simp) ?_
  refine al_take (op_leq rfl rfl) rfl rfl rfl rfl (by simp) ?_
  refine al_take (op_move rfl) rfl rfl rfl rfl (by simp) ?_
  apply al_and 5 10 15 rfl
  ·intro h2; have gh2 := h2
   try simp only [nrm] at h2
   refine al_take (op_field_ptr Tryz.underlying27 rfl info23 (by decide) rfl rfl rfl) rfl rfl rfl rfl (by simp) ?_
   refine al_take (op_load_ptr Tryz.underlying23 info23 rfl rfl rfl rfl) rfl rfl rfl rfl (by simp) ?_
   refine al_take (op_len_map Tryz.underlying23 rfl) rfl rfl rfl rfl (by simp) ?_
   refine al_take (op_leq rfl rfl) rfl rfl rfl rfl (by simp) ?_
   refine al_take (op_pick rfl rfl) rfl rfl rfl rfl (by simp) ?_
   refine al_nil ⟨rfl, rfl, rfl, keep_of ?_⟩
   repeat (first | exact subx_refl | exact subx_known rfl gh2 subx_refl | refine subx_put rfl ?_)
  ·intro h2; have gh2 := h2
   try simp only [nrm] at h2
   refine al_pass rfl rfl rfl rfl (by simp) ?_
   refine al_pass rfl rfl rfl rfl (by simp) ?_
   refine al_pass rfl rfl rfl rfl (by simp) ?_
   refine al_pass rfl rfl rfl rfl (by simp) ?_
   refine al_take (op_pick rfl rfl) rfl rfl rfl rfl (by simp) ?_
   refine al_nil ⟨rfl, rfl, rfl, keep_of ?_⟩
   repeat (first | exact subx_refl | exact subx_known rfl gh2 subx_refl | refine subx_put rfl ?_)
  refine al_take (op_move rfl) rfl rfl rfl rfl (by simp) ?_
  apply al_and 5 16 21 rfl
  ·intro h3; have gh3 := h3
   try simp only [nrm] at h3
   refine al_take (op_field_ptr Tryz.underlying27 rfl info24 (by decide) rfl rfl rfl) rfl rfl rfl rfl (by simp) ?_
   refine al_take (op_load_ptr Tryz.underlying24 info24 rfl rfl rfl rfl) rfl rfl rfl rfl (by simp) ?_
   refine al_take (op_len_map Tryz.underlying24 rfl) rfl rfl rfl rfl (by simp) ?_
   refine al_take (op_leq rfl rfl) rfl rfl rfl rfl (by simp) ?_
   refine al_take (op_pick rfl rfl) rfl rfl rfl rfl (by simp) ?_
   refine al_nil ⟨rfl, rfl, rfl, keep_of ?_⟩
   repeat (first | exact subx_refl | exact subx_known rfl gh3 subx_refl | refine subx_put rfl ?_)
  ·intro h3; have gh3 := h3
   try simp only [nrm] at h3
   refine al_pass rfl rfl rfl rfl (by simp) ?_
   refine al_pass rfl rfl rfl rfl (by simp) ?_
   refine al_pass rfl rfl rfl rfl (by simp) ?_
   refine al_pass rfl rfl rfl rfl (by simp) ?_
   refine al_take (op_pick rfl rfl) rfl rfl rfl rfl (by simp) ?_
   refine al_nil ⟨rfl, rfl, rfl, keep_of ?_⟩
   repeat (first | exact subx_refl | exact subx_known rfl gh3 subx_refl | refine subx_put rfl ?_)
  refine al_take (op_move rfl) rfl rfl rfl rfl (by simp) ?_
  apply al_or 5 22 27 rfl
  ·intro h4; have gh4 := h4
   try simp only [nrm] at h4
   refine al_take (op_field_ptr Tryz.underlying27 rfl info22 (by decide) rfl rfl rfl) rfl rfl rfl rfl (by simp) ?_
   refine al_take (op_load_ptr Tryz.underlying22 info22 rfl rfl rfl rfl) rfl rfl rfl rfl (by simp) ?_
   refine al_take (op_len_map Tryz.underlying22 rfl) rfl rfl rfl rfl (by simp) ?_
   refine al_take (op_gtr rfl rfl) rfl rfl rfl rfl (by simp) ?_
   refine al_take (op_pick rfl rfl) rfl rfl rfl rfl (by simp) ?_
   refine al_nil ⟨rfl, rfl, rfl, keep_of ?_⟩
   repeat (first | exact subx_refl | exact subx_known rfl gh4 subx_refl | refine subx_put rfl ?_)
  ·intro h4; have gh4 := h4
   try simp only [nrm] at h4
   refine al_pass rfl rfl rfl rfl (by simp) ?_
   refine al_pass rfl rfl rfl rfl (by simp) ?_
   refine al_pass rfl rfl rfl rfl (by simp) ?_
   refine al_pass rfl rfl rfl rfl (by simp) ?_
   refine al_take (op_pick rfl rfl) rfl rfl rfl rfl (by simp) ?_
   refine al_nil ⟨rfl, rfl, rfl, keep_of ?_⟩
   repeat (first | exact subx_refl | exact subx_known rfl gh4 subx_refl | refine subx_put rfl ?_)
  refine al_take (op_move rfl) rfl rfl rfl rfl (by simp) ?_
  apply al_or 5 28 33 rfl
  ·intro h5; have gh5 := h5
   try simp only [nrm] at h5
   refine al_take (op_field_ptr Tryz.underlying27 rfl info23 (by decide) rfl rfl rfl) rfl rfl rfl rfl (by simp) ?_
   refine al_take (op_load_ptr Tryz.underlying23 info23 rfl rfl rfl rfl) rfl rfl rfl rfl (by simp) ?_
   refine al_take (op_len_map Tryz.underlying23 rfl) rfl rfl rfl rfl (by simp) ?_
   refine al_take (op_gtr rfl rfl) rfl rfl rfl rfl (by simp) ?_
   refine al_take (op_pick rfl rfl) rfl rfl rfl rfl (by simp) ?_
   refine al_nil ⟨rfl, rfl, rfl, keep_of ?_⟩
   repeat (first | exact subx_refl | exact subx_known rfl gh5 subx_refl | refine subx_put rfl ?_)
  ·intro h5; have gh5 := h5
   try simp only [nrm] at h5
   refine al_pass rfl rfl rfl rfl (by simp) ?_
   refine al_pass rfl rfl rfl rfl (by simp) ?_
   refine al_pass rfl rfl rfl rfl (by simp) ?_
   refine al_pass rfl rfl rfl rfl (by simp) ?_
   refine al_take (op_pick rfl rfl) rfl rfl rfl rfl (by simp) ?_
   refine al_nil ⟨rfl, rfl, rfl, keep_of ?_⟩
   repeat (first | exact subx_refl | exact subx_known rfl gh5 subx_refl | refine subx_put rfl ?_)
  refine al_take (op_move rfl) rfl rfl rfl rfl (by simp) ?_
  apply al_or 4 34 38 rfl
  ·intro h6; have gh6 := h6
   try simp only [nrm] at h6
   refine al_take (op_load_ptr Tryz.underlying27 info27 rfl rfl rfl rfl) rfl rfl rfl rfl (by simp) ?_
   refine al_callp_take into15 rfl rfl rfl rfl rfl rfl ((r_Known4 _ (by assumption)) _) (by simp) ?_
   refine al_take (op_not rfl) rfl rfl rfl rfl (by simp) ?_
   refine al_take (op_pick rfl rfl) rfl rfl rfl rfl (by simp) ?_
   refine al_nil ⟨rfl, rfl, rfl, keep_of ?_⟩
   repeat (first | exact subx_refl | exact subx_known rfl gh6 subx_refl | refine subx_put rfl ?_)
  ·intro h6; have gh6 := h6
   try simp only [nrm] at h6
   refine al_pass rfl rfl rfl rfl (by simp) ?_
   refine al_pass rfl rfl rfl rfl (by simp) ?_
   refine al_pass rfl rfl rfl rfl (by simp) ?_
   refine al_take (op_pick rfl rfl) rfl rfl rfl rfl (by simp) ?_
   refine al_nil ⟨rfl, rfl, rfl, keep_of ?_⟩
   repeat (first | exact subx_refl | exact subx_known rfl gh6 subx_refl | refine subx_put rfl ?_)
  refine al_op (op_pick rfl rfl) rfl (by simp) ?_
  refine al_nil ⟨rfl, rfl, rfl, keep_of ?_⟩
  repeat (first | exact subx_refl | exact subx_known rfl gh1 subx_refl | refine subx_put rfl ?_)
 ·intro h1; have gh1 := h1
  try simp only [nrm] at h1
  refine al_pass rfl rfl rfl rfl (by simp) ?_
  refine al_pass rfl rfl rfl rfl (by simp) ?_
  refine al_pass rfl rfl rfl rfl (by simp) ?_
  refine al_pass rfl rfl rfl rfl (by simp) ?_
  refine al_pass rfl rfl rfl rfl (by simp) ?_
  refine al_pass_undef rfl rfl rfl rfl (by simp) ?_
  refine al_pass_undef rfl rfl rfl rfl (by simp) ?_
  refine al_pass_undef rfl rfl rfl rfl (by simp) ?_
  refine al_pass_undef rfl rfl rfl rfl (by simp) ?_
  refine al_pass rfl rfl rfl rfl (by simp) ?_
  refine al_pass rfl rfl rfl rfl (by simp) ?_
  refine al_pass_undef rfl rfl rfl rfl (by simp) ?_
  refine al_pass_undef rfl rfl rfl rfl (by simp) ?_
  refine al_pass_undef rfl rfl rfl rfl (by simp) ?_
  refine al_pass_undef rfl rfl rfl rfl (by simp) ?_
  refine al_pass rfl rfl rfl rfl (by simp) ?_
  refine al_pass rfl rfl rfl rfl (by simp) ?_
  refine al_pass_undef rfl rfl rfl rfl (by simp) ?_
  refine al_pass_undef rfl rfl rfl rfl (by simp) ?_
  refine al_pass_undef rfl rfl rfl rfl (by simp) ?_
  refine al_pass_undef rfl rfl rfl rfl (by simp) ?_
  refine al_pass rfl rfl rfl rfl (by simp) ?_
  refine al_pass rfl rfl rfl rfl (by simp) ?_
  refine al_pass_undef rfl rfl rfl rfl (by simp) ?_
  refine al_pass_undef rfl rfl rfl rfl (by simp) ?_
  refine al_pass_undef rfl rfl rfl rfl (by simp) ?_
  refine al_pass_undef rfl rfl rfl rfl (by simp) ?_
  refine al_pass rfl rfl rfl rfl (by simp) ?_
  refine al_pass rfl rfl rfl rfl (by simp) ?_
  refine al_pass_undef rfl rfl rfl rfl (by simp) ?_
  refine al_pass_undef rfl rfl rfl rfl (by simp) ?_
  refine al_pass_undef rfl rfl rfl rfl (by simp) ?_
  refine al_pass rfl rfl rfl rfl (by simp) ?_
  refine al_op (op_pick rfl rfl) rfl (by simp) ?_
  refine al_nil ⟨rfl, rfl, rfl, keep_of ?_⟩
  repeat (first | exact subx_refl | exact subx_known rfl gh1 subx_refl | refine subx_put rfl ?_)
 refine al_op (op_assign rfl) rfl (by simp) ?_
 refine al_nil ?_
 refine aw_freeze (fun _ => false) (fsub_cons (t := 2) rfl (.leaf _ _ (.same _)) fsub_nil) ?_
 refine aw_ret ?_
 refine ⟨_, res_1 rfl rfl, ?_, rfl⟩
 first | rfl | (rw [Net.light, Net.lightA])
end Go.Proofs.YtnnklpmgncbgnaaGreat
