/- Printed walks (gen.py, gates_ann.py): part 257. -/
import Derived.Test.YtnnklpmgncbgnaaGreatW256


import Derived.Test.YtnnklpmgncbgnaaGreatCReaches
import Derived.Test.YtnnklpmgncbgnaaGreatFacts
set_option linter.unusedVariables false
set_option linter.unusedSimpArgs false
set_option maxRecDepth 20000
set_option maxHeartbeats 40000000
namespace Go.Proofs.YtnnklpmgncbgnaaGreat
open Go

theorem law_CycleReaches (n : Net) (hn : n.Small) (x : Int) (ins : List Int) (hb : Bytes ins) : ACp Tryz.prog 3 [encN n, .v (.int .i64 (x)), .list 1 (ins.map encB)] (.v (.bool (true))) := by
 refine acp_of rfl ?_
 obtain ⟨b1, b2⟩ := hb
 have hb : Bytes ins := ⟨b1, b2⟩
 refine ac_enter 102 Tryz.func3 rfl rfl (by simp) ?_
 refine aw_seq ?_
 refine aw_region ?_
 (refine al_opR (op_box 3 rfl rfl (by first | rfl | exact live_one rfl | (repeat (first | exact all_live_nil | refine all_live_clo rfl ?_ | refine all_live_slice rfl ?_ | refine all_live_map rfl ?_ | refine all_live_ptr rfl ?_)))) rfl (by simp) ?_; rintro _ _ ⟨ver3, rfl, rfl⟩)
 refine al_op (op_assign rfl) rfl (by simp) ?_
 refine al_nil ?_
 refine aw_seq ?_
 refine aw_seq ?_
 refine aw_region ?_
 refine al_op (op_load_ptr Tryz.underlying27 info27 rfl rfl rfl rfl) rfl (by simp) ?_
 refine al_callp into4 rfl rfl rfl ((l_light _ (by assumption)) _) (by simp) ?_
 refine al_op (op_not rfl) rfl (by simp) ?_
 refine al_op (op_move rfl) rfl (by simp) ?_
 apply al_or 4 24 28 rfl
 ·intro h1; have gh1 := h1
  try simp only [nrm] at h1
  refine al_take (op_move rfl) rfl rfl rfl rfl (by simp) ?_
  refine al_take (op_len_map Tryz.underlying28 rfl) rfl rfl rfl rfl (by simp) ?_
  refine al_take (op_gtr rfl rfl) rfl rfl rfl rfl (by simp) ?_
  refine al_op (op_pick rfl rfl) rfl (by simp) ?_
  refine al_nil ⟨rfl, rfl, rfl, keep_of ?_⟩
  repeat (first | exact subx_refl | exact subx_known rfl gh1 subx_refl | refine subx_put rfl ?_)
 ·intro h1; have gh1 := h1
  try simp only [nrm] at h1
  refine al_pass rfl rfl rfl rfl (by simp) ?_
  refine al_pass rfl rfl rfl rfl (by simp) ?_
  refine al_pass rfl rfl rfl rfl (by simp) ?_
  refine al_op (op_pick rfl rfl) rfl (by simp) ?_
  refine al_nil ⟨rfl, rfl, rfl, keep_of ?_⟩
  repeat (first | exact subx_refl | exact subx_known rfl gh1 subx_refl | refine subx_put rfl ?_)
 refine al_nil ?_
 refine aw_cond rfl (fun h2 => ?_) (fun h2 => ?_)
 ·have gh2 := h2
  try simp only [nrm] at h2
  refine aw_seq ?_
  refine aw_region ?_
  refine al_callp into5 rfl rfl rfl ((l_awake4 ) _) (by simp) ?_
  refine al_op (op_assign rfl) rfl (by simp) ?_
  refine al_nil ?_
  refine aw_freeze (fun _ => false) (fsub_cons (t := 6) rfl (.leaf _ _ (.same _)) fsub_nil) ?_
  refine aw_ret ?_
  refine ⟨_, res_1 rfl rfl, ?_, rfl⟩
  rfl
 ·have gh2 := h2
  try simp only [nrm] at h2
  refine aw_skip ?_
  refine aw_seq ?_
  have hil : ins.length ≤ 300 := by have h9 := (Bool.or_eq_false_iff.1 gh2).2; have := of_decide_eq_false h9; omega
  have hil2 : ins.length ≤ 1000 := by omega
  have hli : n.light = true := by have h9 := (Bool.or_eq_false_iff.1 gh2).1; simpa using h9
  obtain ⟨hq1, hq2⟩ := Net.reaches_sizes hn hli x
  have hq3 : Ins (n.way x).1 := hq2
  refine aw_region ?_
  refine al_op (op_load_ptr Tryz.underlying27 info27 rfl rfl rfl rfl) rfl (by simp) ?_
  refine al_callp into6 rfl rfl rfl ((c_Reach _ (by assumption)) _) (by simp) ?_
  refine al_op (op_move rfl) rfl (by simp) ?_
  refine al_op (op_extract rfl rfl rfl) rfl (by simp) ?_
  refine al_op (op_extract rfl rfl rfl) rfl (by simp) ?_
  refine al_op (op_assign rfl) rfl (by simp) ?_
  refine al_op (op_assign rfl) rfl (by simp) ?_
  refine al_nil ?_
  refine aw_seq ?_
  refine aw_region ?_
  refine al_op (op_load_ptr Tryz.underlying27 info27 rfl rfl rfl rfl) rfl (by simp) ?_
  refine al_callp into7 rfl rfl rfl ((r_Reach4 _ (by assumption)) _) (by simp) ?_
  refine al_op (op_move rfl) rfl (by simp) ?_
  refine al_op (op_extract rfl rfl rfl) rfl (by simp) ?_
  refine al_op (op_extract rfl rfl rfl) rfl (by simp) ?_
  refine al_op (op_assign rfl) rfl (by simp) ?_
  refine al_op (op_assign rfl) rfl (by simp) ?_
  refine al_nil ?_
  refine aw_seq ?_
  refine aw_region ?_
  refine al_op (op_load_ptr Tryz.underlying27 info27 rfl rfl rfl rfl) rfl (by simp) ?_
  refine al_op (op_move rfl) rfl (by simp) ?_
  refine al_callp into8 rfl rfl rfl ((c_Way _ (by assumption) _) _) (by simp) ?_
  refine al_op (op_move rfl) rfl (by simp) ?_
  refine al_op (op_extract rfl rfl rfl) rfl (by simp) ?_
  refine al_op (op_extract rfl rfl rfl) rfl (by simp) ?_
  refine al_op (op_assign rfl) rfl (by simp) ?_
  refine al_op (op_assign rfl) rfl (by simp) ?_
  refine al_nil ?_
  refine aw_seq ?_
  refine aw_region ?_
  refine al_op (op_load_ptr Tryz.underlying27 info27 rfl rfl rfl rfl) rfl (by simp) ?_
  refine al_op (op_move rfl) rfl (by simp) ?_
  refine al_callp into9 rfl rfl rfl ((r_Way4 _ (by assumption) _) _) (by simp) ?_
  refine al_op (op_move rfl) rfl (by simp) ?_
  refine al_op (op_extract rfl rfl rfl) rfl (by simp) ?_
  refine al_op (op_extract rfl rfl rfl) rfl (by simp) ?_
  refine al_op (op_assign rfl) rfl (by simp) ?_
  refine al_op (op_assign rfl) rfl (by simp) ?_
  refine al_nil ?_
  refine aw_seq ?_
  refine aw_region ?_
  refine al_op (op_load_ptr Tryz.underlying27 info27 rfl rfl rfl rfl) rfl (by simp) ?_
  refine al_op (op_move rfl) rfl (by simp) ?_
  refine al_callp into10 rfl rfl rfl ((c_Round _ (by assumption) _ (by assumption)) _) (by simp) ?_
  refine al_op (op_move rfl) rfl (by simp) ?_
  refine al_op (op_extract rfl rfl rfl) rfl (by simp) ?_
  refine al_op (op_extract rfl rfl rfl) rfl (by simp) ?_
  refine al_op (op_extract rfl rfl rfl) rfl (by simp) ?_
  refine al_op (op_assign rfl) rfl (by simp) ?_
  refine al_op (op_assign rfl) rfl (by simp) ?_
  refine al_op (op_assign rfl) rfl (by simp) ?_
  refine al_nil ?_
  refine aw_seq ?_
  refine aw_region ?_
  refine al_op (op_load_ptr Tryz.underlying27 info27 rfl rfl rfl rfl) rfl (by simp) ?_
  refine al_op (op_move rfl) rfl (by simp) ?_
  refine al_callp into11 rfl rfl rfl ((r_Round4 _ (by assumption) _ (by assumption) (by assumption)) _) (by simp) ?_
  refine al_op (op_move rfl) rfl (by simp) ?_
  refine al_op (op_extract rfl rfl rfl) rfl (by simp) ?_
  refine al_op (op_extract rfl rfl rfl) rfl (by simp) ?_
  refine al_op (op_extract rfl rfl rfl) rfl (by simp) ?_
  refine al_op (op_assign rfl) rfl (by simp) ?_
  refine al_op (op_assign rfl) rfl (by simp) ?_
  refine al_op (op_assign rfl) rfl (by simp) ?_
  refine al_nil ?_
  refine aw_seq ?_
  refine aw_region ?_
  refine al_op (op_move rfl) rfl (by simp) ?_
  refine al_op (op_move rfl) rfl (by simp) ?_
  refine al_callp into12 rfl rfl rfl ((l_ints _ (by omega)) _) (by simp) ?_
  refine al_op (op_move rfl) rfl (by simp) ?_
  refine al_as 69 (.v (.bool true)) rfl (by rfl) ?_
  refine al_take (op_move rfl) rfl rfl rfl rfl (by simp) ?_
  refine al_take (op_move rfl) rfl rfl rfl rfl (by simp) ?_
  refine al_take (op_eql rfl rfl) rfl rfl rfl rfl (by simp) ?_
  refine al_op (op_pick rfl rfl) rfl (by simp) ?_
  refine al_op (op_move rfl) rfl (by simp) ?_
  refine al_as 74 (.v (.bool true)) rfl (by rw [beq_self_eq_true]) ?_
  refine al_take (op_move rfl) rfl rfl rfl rfl (by simp) ?_
  refine al_take (op_move rfl) rfl rfl rfl rfl (by simp) ?_
  refine al_callp_take into13 rfl rfl rfl rfl rfl rfl ((l_all _ _ (by assumption) (by assumption)) _) (by simp) ?_
  refine al_op (op_pick rfl rfl) rfl (by simp) ?_
  refine al_op (op_move rfl) rfl (by simp) ?_
  refine al_as 79 (.v (.bool true)) rfl (by rw [sameL_refl]) ?_
  refine al_take (op_move rfl) rfl rfl rfl rfl (by simp) ?_
  refine al_take (op_move rfl) rfl rfl rfl rfl (by simp) ?_
  refine al_take (op_eql rfl rfl) rfl rfl rfl rfl (by simp) ?_
  refine al_op (op_pick rfl rfl) rfl (by simp) ?_
  refine al_op (op_move rfl) rfl (by simp) ?_
  refine al_as 84 (.v (.bool true)) rfl (by rw [beq_self_eq_true]) ?_
  refine al_take (op_move rfl) rfl rfl rfl rfl (by simp) ?_
  refine al_take (op_move rfl) rfl rfl rfl rfl (by simp) ?_
  refine al_take (op_eql rfl rfl) rfl rfl rfl rfl (by simp) ?_
  refine al_op (op_pick rfl rfl) rfl (by simp) ?_
  refine al_op (op_move rfl) rfl (by simp) ?_
  refine al_as 89 (.v (.bool true)) rfl (by rw [beq_self_eq_true]) ?_
  refine al_take (op_move rfl) rfl rfl rfl rfl (by simp) ?_
  refine al_take (op_move rfl) rfl rfl rfl rfl (by simp) ?_
  refine al_take (op_eql rfl rfl) rfl rfl rfl rfl (by simp) ?_
  refine al_op (op_pick rfl rfl) rfl (by simp) ?_
  refine al_op (op_move rfl) rfl (by simp) ?_
  refine al_as 94 (.v (.bool true)) rfl (by rw [beq_self_eq_true]) ?_
  refine al_take (op_move rfl) rfl rfl rfl rfl (by simp) ?_
  refine al_take (op_move rfl) rfl rfl rfl rfl (by simp) ?_
  refine al_take (op_eql rfl rfl) rfl rfl rfl rfl (by simp) ?_
  refine al_op (op_pick rfl rfl) rfl (by simp) ?_
  refine al_op (op_move rfl) rfl (by simp) ?_
  refine al_as 99 (.v (.bool true)) rfl (by rw [beq_self_eq_true]) ?_
  refine al_callp_take into5 rfl rfl rfl rfl rfl rfl ((l_awake4 ) _) (by simp) ?_
  refine al_op (op_pick rfl rfl) rfl (by simp) ?_
  refine al_op (op_assign rfl) rfl (by simp) ?_
  refine al_nil ?_
  refine aw_freeze (fun _ => false) (fsub_cons (t := 6) rfl (.leaf _ _ (.same _)) fsub_nil) ?_
  refine aw_ret ?_
  refine ⟨_, res_1 rfl rfl, ?_, rfl⟩
  rfl
end Go.Proofs.YtnnklpmgncbgnaaGreat
