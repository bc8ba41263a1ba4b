import Derived.Test.YtcgdlhkiecommaaGreatDoorXShape
import Derived.Test.YtcgdlhkiecommaaGreatDoorW409
import Derived.Test.YtcgdlhkiecommaaGreatDoorLPlace
import Derived.Test.YtcgdlhkiecommaaGreatDoorFacts
import Derived.Test.YtcgdlhkiecommaaGreatDoorXSize

/- Printed walks (gen.py, lexer_ann.py): part 411. -/




set_option linter.unusedVariables false
set_option linter.unusedSimpArgs false
set_option maxRecDepth 20000
set_option maxHeartbeats 40000000
namespace Go.Proofs.YtcgdlhkiecommaaGreatDoor
open Go
theorem e_strength (s : Bs) : ACp Tryz.prog 165 [.v (.string (str (s)))] (.v (.int .i64 (strengthI s))) := by
 refine acp_of rfl ?_
 refine ac_enter 21 Tryz.func165 rfl rfl (by simp) ?_
 refine aw_seq ?_
 refine aw_region ?_
 refine al_op (op_assign rfl) rfl (by simp) ?_
 refine al_nil ?_
 refine aw_seq ?_
 refine aw_seq ?_
 refine aw_region ?_
 refine al_op (op_list encBs (levelL 0) Tryz.underlying32 info9 rfl rfl (by decide) rfl (by decide) rfl (by first | rfl | (repeat (first | exact parts_nil | refine parts_cons rfl (by repeat (first | exact all_live_nil | refine all_live_clo rfl ?_ | refine all_live_slice rfl ?_ | refine all_live_map rfl ?_ | refine all_live_ptr rfl ?_)) ?_))) rfl rfl rfl rfl) rfl (by simp) ?_
 refine al_op (op_list encBs (levelL 1) Tryz.underlying32 info9 rfl rfl (by decide) rfl (by decide) rfl (by first | rfl | (repeat (first | exact parts_nil | refine parts_cons rfl (by repeat (first | exact all_live_nil | refine all_live_clo rfl ?_ | refine all_live_slice rfl ?_ | refine all_live_map rfl ?_ | refine all_live_ptr rfl ?_)) ?_))) rfl rfl rfl rfl) rfl (by simp) ?_
 refine al_op (op_list encBs (levelL 2) Tryz.underlying32 info9 rfl rfl (by decide) rfl (by decide) rfl (by first | rfl | (repeat (first | exact parts_nil | refine parts_cons rfl (by repeat (first | exact all_live_nil | refine all_live_clo rfl ?_ | refine all_live_slice rfl ?_ | refine all_live_map rfl ?_ | refine all_live_ptr rfl ?_)) ?_))) rfl rfl rfl rfl) rfl (by simp) ?_
 refine al_op (op_list encBs (levelL 3) Tryz.underlying32 info9 rfl rfl (by decide) rfl (by decide) rfl (by first | rfl | (repeat (first | exact parts_nil | refine parts_cons rfl (by repeat (first | exact all_live_nil | refine all_live_clo rfl ?_ | refine all_live_slice rfl ?_ | refine all_live_map rfl ?_ | refine all_live_ptr rfl ?_)) ?_))) rfl rfl rfl rfl) rfl (by simp) ?_
 refine al_op (op_list encSL levelsL Tryz.underlying177 info32 rfl rfl (by decide) rfl (by decide) rfl (by first | rfl | (repeat (first | exact parts_nil | refine parts_cons rfl (by repeat (first | exact all_live_nil | refine all_live_clo rfl ?_ | refine all_live_slice rfl ?_ | refine all_live_map rfl ?_ | refine all_live_ptr rfl ?_)) ?_))) rfl rfl rfl rfl) rfl (by simp) ?_
 refine al_op (op_len_map Tryz.underlying177 rfl) rfl (by simp) ?_
 refine al_op (op_move rfl) rfl (by simp) ?_
 refine al_nil ?_
 refine aw_block ?_
 refine aw_forT (ι := Nat) [2, 11] [] (fun i => 4 - i) (fun i => i ≤ 4 ∧ ∀ k, k < i → (levelL k).contains s = false) (fun i => ([(11, .v (.int .i64 ((i : Nat) : Int)))] : Env)) (fun i s => s) (0) ?_ ?_ ?_ (fun i hinv => ?_)
 ·exact ⟨by omega, fun k hk => absurd hk (Nat.not_lt_zero k)⟩
 ·refine sub_cons (get_as rfl ?_) ?_; rotate_left; exact sub_nil
  all_goals (first | rfl | simp)
 ·rfl
 have hi := hinv.1
 have hlen : (levelsL.length : Int) = 4 := rfl
 refine aw_seq ?_
 refine aw_region ?_
 refine al_op (op_lss rfl rfl) rfl (by simp) ?_
 refine al_nil ?_
 refine aw_seq ?_
 refine aw_cond rfl (fun h1 => ?_) (fun h1 => ?_)
 ·have gh1 := h1
  try simp only [nrm] at h1
  refine aw_skip ?_
  refine aw_seq ?_
  refine aw_block ?_
  refine aw_seq ?_
  refine aw_region ?_
  refine al_op (op_move rfl) rfl (by simp) ?_
  refine al_op (op_index_map default Tryz.underlying177 info32 rfl rfl rfl (by first | (with_reducible exact Int.toNat_natCast _) | rfl) (by omega) (by show _ < 4; omega)) rfl (by simp) ?_
  refine al_op (op_load_rptr Tryz.underlying32 info32 rfl rfl) rfl (by simp) ?_
  refine al_op (op_assign rfl) rfl (by simp) ?_
  refine al_op (op_assign rfl) rfl (by simp) ?_
  refine al_nil ?_
  refine aw_seq ?_
  refine aw_region ?_
  refine al_op (op_move rfl) rfl (by simp) ?_
  refine al_op (op_move rfl) rfl (by simp) ?_
  refine al_callp into61 rfl rfl rfl (q_member (levelL i) s (level_len i) _) (by simp) ?_
  refine al_nil ?_
  refine aw_cond rfl (fun h2 => ?_) (fun h2 => ?_)
  ·have gh2 := h2
   try simp only [nrm] at h2
   refine aw_seq ?_
   refine aw_region ?_
   refine al_op (op_move rfl) rfl (by simp) ?_
   refine al_op (op_assign rfl) rfl (by simp) ?_
   refine al_nil ?_
   refine aw_freeze (fun _ => false) (fsub_cons (t := 2) rfl (.leaf _ _ (.same _)) fsub_nil) ?_
   refine aw_ret ?_
   refine ⟨_, res_1 rfl rfl, ?_, rfl⟩
   rw [str_found i (by omega) hinv.2 gh2]
  ·have gh2 := h2
   try simp only [nrm] at h2
   refine aw_skip ?_
   refine aw_region ?_
   refine al_op (op_add rfl rfl (by first | exact wrap_i64 (by omega) (by omega))) rfl (by simp) ?_
   refine al_op (op_move rfl) rfl (by simp) ?_
   refine al_nil ?_
   refine ⟨i + 1, ?_, ?_, ?_, ?_, ?_⟩
   ·omega
   ·exact ⟨by omega, str_more hinv.2 gh2⟩
   ·refine sub_cons (get_as rfl ?_) ?_; rotate_left; exact sub_nil
    all_goals (first | rfl | simp)
   ·repeat (first | exact subx_refl | exact subx_del | refine subx_put rfl ?_)
   ·rfl
 ·have gh1 := h1
  try simp only [nrm] at h1
  refine aw_exit ?_
  refine aw_seq ?_
  refine aw_region ?_
  refine al_op (op_assign rfl) rfl (by simp) ?_
  refine al_nil ?_
  refine aw_freeze (fun _ => false) (fsub_cons (t := 2) rfl (.leaf _ _ (.same _)) fsub_nil) ?_
  refine aw_ret ?_
  refine ⟨_, res_1 rfl rfl, ?_, rfl⟩
  rw [str_none (fun k hk => hinv.2 k (by omega))]
theorem e_binds (e : Ex) (hs : e.name.length ≤ 1000000000) : ACp Tryz.prog 144 [.agg (cellsE (e))] (.v (.int .i64 (bindsP e))) := by
 refine acp_of rfl ?_
 refine ac_enter 20 Tryz.func144 rfl rfl (by simp) ?_
 refine aw_seq ?_
 refine aw_region ?_
 (refine al_opR (op_box 1 rfl rfl (by first | rfl | exact live_one rfl | (repeat (first | exact all_live_nil | refine all_live_clo rfl ?_ | refine all_live_slice rfl ?_ | refine all_live_map rfl ?_ | refine all_live_ptr rfl ?_)))) rfl (by simp) ?_; rintro _ _ ⟨ver1, rfl, rfl⟩)
 refine al_op (op_assign rfl) rfl (by simp) ?_
 refine al_nil ?_
 refine aw_seq ?_
 refine aw_block ?_
 refine aw_seq ?_
 refine aw_region ?_
 refine al_op (op_field_ptr Tryz.underlying37 rfl info25 (by decide) rfl rfl rfl) rfl (by simp) ?_
 refine al_op (op_load_ptr Tryz.underlying25 info25 rfl rfl rfl rfl) rfl (by simp) ?_
 refine al_op (op_neq rfl rfl) rfl (by simp) ?_
 refine al_op (op_move rfl) rfl (by simp) ?_
 apply al_or 4 7 11 rfl
 ·intro h1; have gh1 := h1
  try simp only [nrm] at h1
  refine al_take (op_field_ptr Tryz.underlying37 rfl info9 (by decide) rfl rfl rfl) rfl rfl rfl rfl (by simp) ?_
  refine al_take (op_load_ptr Tryz.underlying9 info9 rfl rfl rfl rfl) rfl rfl rfl rfl (by simp) ?_
  refine al_callp_take into66 rfl rfl rfl rfl rfl rfl ((c_isName _ (by first | assumption | omega | (simp; done) | (simp; omega) | decide)) _) (by simp) ?_
  refine al_op (op_pick rfl rfl) rfl (by simp) ?_
  refine al_nil ⟨rfl, rfl, rfl, keep_of ?_⟩
  repeat (first | exact subx_refl | exact subx_known rfl gh1 subx_refl | refine subx_put rfl ?_)
 ·intro h1; have gh1 := h1
  try simp only [nrm] at h1
  refine al_pass rfl rfl rfl rfl (by simp) ?_
  refine al_pass rfl rfl rfl rfl (by simp) ?_
  refine al_pass rfl rfl rfl rfl (by simp) ?_
  refine al_op (op_pick rfl rfl) rfl (by simp) ?_
  refine al_nil ⟨rfl, rfl, rfl, keep_of ?_⟩
  repeat (first | exact subx_refl | exact subx_known rfl gh1 subx_refl | refine subx_put rfl ?_)
 refine al_op (op_assign rfl) rfl (by simp) ?_
 refine al_nil ?_
 refine aw_cond rfl (fun h2 => ?_) (fun h2 => ?_)
 ·have gh2 := h2
  try simp only [nrm] at h2
  refine aw_seq ?_
  refine aw_region ?_
  refine al_op (op_assign rfl) rfl (by simp) ?_
  refine al_nil ?_
  refine aw_freeze (fun _ => false) (fsub_cons (t := 2) rfl (.leaf _ _ (.same _)) fsub_nil) ?_
  refine aw_ret ?_
  refine ⟨_, res_1 rfl rfl, ?_, rfl⟩
  rw [bindsP, gh2]; rfl
 ·have gh2 := h2
  try simp only [nrm] at h2
  refine aw_seq ?_
  refine aw_region ?_
  refine al_op (op_field_ptr Tryz.underlying37 rfl info31 (by decide) rfl rfl rfl) rfl (by simp) ?_
  refine al_op (op_load_ptr Tryz.underlying31 info31 rfl rfl rfl rfl) rfl (by simp) ?_
  refine al_op (op_len_map Tryz.underlying31 rfl) rfl (by simp) ?_
  refine al_op (op_eql rfl rfl) rfl (by simp) ?_
  refine al_op (op_assign rfl) rfl (by simp) ?_
  refine al_nil ?_
  refine aw_cond rfl (fun h3 => ?_) (fun h3 => ?_)
  ·have gh3 := h3
   try simp only [nrm] at h3
   refine aw_seq ?_
   refine aw_region ?_
   refine al_op (op_assign rfl) rfl (by simp) ?_
   refine al_nil ?_
   refine aw_freeze (fun _ => false) (fsub_cons (t := 2) rfl (.leaf _ _ (.same _)) fsub_nil) ?_
   refine aw_ret ?_
   refine ⟨_, res_1 rfl rfl, ?_, rfl⟩
   rw [bindsP, gh2, gh3]; rfl
  ·have gh3 := h3
   try simp only [nrm] at h3
   refine aw_skip ?_
   refine aw_seq ?_
   refine aw_region ?_
   refine al_op (op_field_ptr Tryz.underlying37 rfl info9 (by decide) rfl rfl rfl) rfl (by simp) ?_
   refine al_op (op_load_ptr Tryz.underlying9 info9 rfl rfl rfl rfl) rfl (by simp) ?_
   refine al_callp into165 rfl rfl rfl ((e_strength _) _) (by simp) ?_
   refine al_op (op_assign rfl) rfl (by simp) ?_
   refine al_nil ?_
   refine aw_freeze (fun _ => false) (fsub_cons (t := 2) rfl (.leaf _ _ (.same _)) fsub_nil) ?_
   refine aw_ret ?_
   refine ⟨_, res_1 rfl rfl, ?_, rfl⟩
   rw [bindsP, gh2, gh3]; rfl
theorem e_none (v : Va) : ACp Tryz.prog 162 [.agg (cellsV v)] (.v (.bool (noneV v))) := by
 refine acp_of rfl ?_
 refine ac_enter 23 Tryz.func162 rfl rfl (by simp) ?_
 refine aw_seq ?_
 refine aw_region ?_
 (refine al_opR (op_box 1 rfl rfl (by first | rfl | exact live_one rfl | (repeat (first | exact all_live_nil | refine all_live_clo rfl ?_ | refine all_live_slice rfl ?_ | refine all_live_map rfl ?_ | refine all_live_ptr rfl ?_)))) rfl (by simp) ?_; rintro _ _ ⟨ver1, rfl, rfl⟩)
 refine al_op (op_assign rfl) rfl (by simp) ?_
 refine al_nil ?_
 refine aw_seq ?_
 refine aw_region ?_
 refine al_op (op_field_ptr Tryz.underlying30 rfl info27 (by decide) rfl rfl rfl) rfl (by simp) ?_
 refine al_op (op_load_ptr Tryz.underlying27 info27 rfl rfl rfl rfl) rfl (by simp) ?_
 refine al_op (op_eql rfl rfl) rfl (by simp) ?_
 refine al_op (op_move rfl) rfl (by simp) ?_
 apply al_and 4 6 10 rfl
 ·intro h1; have gh1 := h1
  try simp only [nrm] at h1
  refine al_take (op_field_ptr Tryz.underlying30 rfl info3 (by decide) rfl rfl rfl) rfl rfl rfl rfl (by simp) ?_
  refine al_take (op_load_ptr Tryz.underlying3 info3 rfl rfl rfl rfl) rfl rfl rfl rfl (by simp) ?_
  refine al_take (op_eql rfl rfl) rfl rfl rfl rfl (by simp) ?_
  refine al_op (op_pick rfl rfl) rfl (by simp) ?_
  refine al_nil ⟨rfl, rfl, rfl, keep_of ?_⟩
  repeat (first | exact subx_refl | exact subx_known rfl gh1 subx_refl | refine subx_put rfl ?_)
 ·intro h1; have gh1 := h1
  try simp only [nrm] at h1
  refine al_pass rfl rfl rfl rfl (by simp) ?_
  refine al_pass rfl rfl rfl rfl (by simp) ?_
  refine al_pass rfl rfl rfl rfl (by simp) ?_
  refine al_op (op_pick rfl rfl) rfl (by simp) ?_
  refine al_nil ⟨rfl, rfl, rfl, keep_of ?_⟩
  repeat (first | exact subx_refl | exact subx_known rfl gh1 subx_refl | refine subx_put rfl ?_)
 refine al_op (op_move rfl) rfl (by simp) ?_
 apply al_and 5 11 16 rfl
 ·intro h2; have gh2 := h2
  try simp only [nrm] at h2
  refine al_take (op_field_ptr Tryz.underlying30 rfl info26 (by decide) rfl rfl rfl) rfl rfl rfl rfl (by simp) ?_
  refine al_take (op_load_ptr Tryz.underlying26 info26 rfl rfl rfl rfl) rfl rfl rfl rfl (by simp) ?_
  refine al_take (op_len_map Tryz.underlying26 rfl) rfl rfl rfl rfl (by simp) ?_
  refine al_take (op_eql rfl rfl) rfl rfl rfl rfl (by simp) ?_
  refine al_op (op_pick rfl rfl) rfl (by simp) ?_
  refine al_nil ⟨rfl, rfl, rfl, keep_of ?_⟩
  repeat (first | exact subx_refl | exact subx_known rfl gh2 subx_refl | refine subx_put rfl ?_)
 ·intro h2; have gh2 := h2
  try simp only [nrm] at h2
  refine al_pass rfl rfl rfl rfl (by simp) ?_
  refine al_pass rfl rfl rfl rfl (by simp) ?_
  refine al_pass rfl rfl rfl rfl (by simp) ?_
  refine al_pass rfl rfl rfl rfl (by simp) ?_
  refine al_op (op_pick rfl rfl) rfl (by simp) ?_
  refine al_nil ⟨rfl, rfl, rfl, keep_of ?_⟩
  repeat (first | exact subx_refl | exact subx_known rfl gh2 subx_refl | refine subx_put rfl ?_)
 refine al_op (op_move rfl) rfl (by simp) ?_
 apply al_and 5 17 22 rfl
 ·intro h3; have gh3 := h3
  try simp only [nrm] at h3
  refine al_take (op_field_ptr Tryz.underlying30 rfl info28 (by decide) rfl rfl rfl) rfl rfl rfl rfl (by simp) ?_
  refine al_take (op_load_ptr Tryz.underlying28 info28 rfl rfl rfl rfl) rfl rfl rfl rfl (by simp) ?_
  refine al_take (op_len_map Tryz.underlying28 rfl) rfl rfl rfl rfl (by simp) ?_
  refine al_take (op_eql rfl rfl) rfl rfl rfl rfl (by simp) ?_
  refine al_op (op_pick rfl rfl) rfl (by simp) ?_
  refine al_nil ⟨rfl, rfl, rfl, keep_of ?_⟩
  repeat (first | exact subx_refl | exact subx_known rfl gh3 subx_refl | refine subx_put rfl ?_)
 ·intro h3; have gh3 := h3
  try simp only [nrm] at h3
  refine al_pass rfl rfl rfl rfl (by simp) ?_
  refine al_pass rfl rfl rfl rfl (by simp) ?_
  refine al_pass rfl rfl rfl rfl (by simp) ?_
  refine al_pass rfl rfl rfl rfl (by simp) ?_
  refine al_op (op_pick rfl rfl) rfl (by simp) ?_
  refine al_nil ⟨rfl, rfl, rfl, keep_of ?_⟩
  repeat (first | exact subx_refl | exact subx_known rfl gh3 subx_refl | refine subx_put rfl ?_)
 refine al_op (op_assign rfl) rfl (by simp) ?_
 refine al_nil ?_
 refine aw_freeze (fun _ => false) (fsub_cons (t := 2) rfl (.leaf _ _ (.same _)) fsub_nil) ?_
 refine aw_ret ?_
 refine ⟨_, res_1 rfl rfl, ?_, rfl⟩
 rfl
theorem e_untyped (t : Ty) : ACp Tryz.prog 163 [.agg (cellsT t)] (.v (.bool (untyped t))) := by
 refine acp_of rfl ?_
 refine ac_enter 28 Tryz.func163 rfl rfl (by simp) ?_
 refine aw_seq ?_
 refine aw_region ?_
 (refine al_opR (op_box 1 rfl rfl (by first | rfl | exact live_one rfl | (repeat (first | exact all_live_nil | refine all_live_clo rfl ?_ | refine all_live_slice rfl ?_ | refine all_live_map rfl ?_ | refine all_live_ptr rfl ?_)))) rfl (by simp) ?_; rintro _ _ ⟨ver1, rfl, rfl⟩)
 refine al_op (op_assign rfl) rfl (by simp) ?_
 refine al_nil ?_
 refine aw_seq ?_
 refine aw_region ?_
 refine al_op (op_field_ptr Tryz.underlying35 rfl info27 (by decide) rfl rfl rfl) rfl (by simp) ?_
 refine al_op (op_load_ptr Tryz.underlying27 info27 rfl rfl rfl rfl) rfl (by simp) ?_
 refine al_op (op_eql rfl rfl) rfl (by simp) ?_
 refine al_op (op_move rfl) rfl (by simp) ?_
 apply al_and 4 6 10 rfl
 ·intro h1; have gh1 := h1
  try simp only [nrm] at h1
  refine al_take (op_field_ptr Tryz.underlying35 rfl info3 (by decide) rfl rfl rfl) rfl rfl rfl rfl (by simp) ?_
  refine al_take (op_load_ptr Tryz.underlying3 info3 rfl rfl rfl rfl) rfl rfl rfl rfl (by simp) ?_
  refine al_take (op_eql rfl rfl) rfl rfl rfl rfl (by simp) ?_
  refine al_op (op_pick rfl rfl) rfl (by simp) ?_
  refine al_nil ⟨rfl, rfl, rfl, keep_of ?_⟩
  repeat (first | exact subx_refl | exact subx_known rfl gh1 subx_refl | refine subx_put rfl ?_)
 ·intro h1; have gh1 := h1
  try simp only [nrm] at h1
  refine al_pass rfl rfl rfl rfl (by simp) ?_
  refine al_pass rfl rfl rfl rfl (by simp) ?_
  refine al_pass rfl rfl rfl rfl (by simp) ?_
  refine al_op (op_pick rfl rfl) rfl (by simp) ?_
  refine al_nil ⟨rfl, rfl, rfl, keep_of ?_⟩
  repeat (first | exact subx_refl | exact subx_known rfl gh1 subx_refl | refine subx_put rfl ?_)
 refine al_op (op_move rfl) rfl (by simp) ?_
 apply al_and 4 11 15 rfl
 ·intro h2; have gh2 := h2
  try simp only [nrm] at h2
  refine al_take (op_field_ptr Tryz.underlying35 rfl info9 (by decide) rfl rfl rfl) rfl rfl rfl rfl (by simp) ?_
  refine al_take (op_load_ptr Tryz.underlying9 info9 rfl rfl rfl rfl) rfl rfl rfl rfl (by simp) ?_
  refine al_take (op_seql_str rfl rfl) rfl rfl rfl rfl (by simp) ?_
  refine al_op (op_pick rfl rfl) rfl (by simp) ?_
  refine al_nil ⟨rfl, rfl, rfl, keep_of ?_⟩
  repeat (first | exact subx_refl | exact subx_known rfl gh2 subx_refl | refine subx_put rfl ?_)
 ·intro h2; have gh2 := h2
  try simp only [nrm] at h2
  refine al_pass rfl rfl rfl rfl (by simp) ?_
  refine al_pass rfl rfl rfl rfl (by simp) ?_
  refine al_pass rfl rfl rfl rfl (by simp) ?_
  refine al_op (op_pick rfl rfl) rfl (by simp) ?_
  refine al_nil ⟨rfl, rfl, rfl, keep_of ?_⟩
  repeat (first | exact subx_refl | exact subx_known rfl gh2 subx_refl | refine subx_put rfl ?_)
 refine al_op (op_move rfl) rfl (by simp) ?_
 apply al_and 5 16 21 rfl
 ·intro h3; have gh3 := h3
  try simp only [nrm] at h3
  refine al_take (op_field_ptr Tryz.underlying35 rfl info32 (by decide) rfl rfl rfl) rfl rfl rfl rfl (by simp) ?_
  refine al_take (op_load_ptr Tryz.underlying32 info32 rfl rfl rfl rfl) rfl rfl rfl rfl (by simp) ?_
  refine al_take (op_len_map Tryz.underlying32 rfl) rfl rfl rfl rfl (by simp) ?_
  refine al_take (op_eql rfl rfl) rfl rfl rfl rfl (by simp) ?_
  refine al_op (op_pick rfl rfl) rfl (by simp) ?_
  refine al_nil ⟨rfl, rfl, rfl, keep_of ?_⟩
  repeat (first | exact subx_refl | exact subx_known rfl gh3 subx_refl | refine subx_put rfl ?_)
 ·intro h3; have gh3 := h3
  try simp only [nrm] at h3
  refine al_pass rfl rfl rfl rfl (by simp) ?_
  refine al_pass rfl rfl rfl rfl (by simp) ?_
  refine al_pass rfl rfl rfl rfl (by simp) ?_
  refine al_pass rfl rfl rfl rfl (by simp) ?_
  refine al_op (op_pick rfl rfl) rfl (by simp) ?_
  refine al_nil ⟨rfl, rfl, rfl, keep_of ?_⟩
  repeat (first | exact subx_refl | exact subx_known rfl gh3 subx_refl | refine subx_put rfl ?_)
 refine al_op (op_move rfl) rfl (by simp) ?_
 apply al_and 5 22 27 rfl
 ·intro h4; have gh4 := h4
  try simp only [nrm] at h4
  refine al_take (op_field_ptr Tryz.underlying35 rfl info33 (by decide) rfl rfl rfl) rfl rfl rfl rfl (by simp) ?_
  refine al_take (op_load_ptr Tryz.underlying33 info33 rfl rfl rfl rfl) rfl rfl rfl rfl (by simp) ?_
  refine al_take (op_len_map Tryz.underlying33 rfl) rfl rfl rfl rfl (by simp) ?_
  refine al_take (op_eql rfl rfl) rfl rfl rfl rfl (by simp) ?_
  refine al_op (op_pick rfl rfl) rfl (by simp) ?_
  refine al_nil ⟨rfl, rfl, rfl, keep_of ?_⟩
  repeat (first | exact subx_refl | exact subx_known rfl gh4 subx_refl | refine subx_put rfl ?_)
 ·intro h4; have gh4 := h4
  try simp only [nrm] at h4
  refine al_pass rfl rfl rfl rfl (by simp) ?_
  refine al_pass rfl rfl rfl rfl (by simp) ?_
  refine al_pass rfl rfl rfl rfl (by simp) ?_
  refine al_pass rfl rfl rfl rfl (by simp) ?_
  refine al_op (op_pick rfl rfl) rfl (by simp) ?_
  refine al_nil ⟨rfl, rfl, rfl, keep_of ?_⟩
  repeat (first | exact subx_refl | exact subx_known rfl gh4 subx_refl | refine subx_put rfl ?_)
 refine al_op (op_assign rfl) rfl (by simp) ?_
 refine al_nil ?_
 refine aw_freeze (fun _ => false) (fsub_cons (t := 2) rfl (.leaf _ _ (.same _)) fsub_nil) ?_
 refine aw_ret ?_
 refine ⟨_, res_1 rfl rfl, ?_, rfl⟩
 rfl
theorem e_isBit (x : Int) : ACp Tryz.prog 193 [.v (.int .u8 (x))] (.v (.bool (decide (x ≤ 3)))) := by
 refine acp_of rfl ?_
 refine ac_enter 5 Tryz.func193 rfl rfl (by simp) ?_
 refine aw_seq ?_
 refine aw_region ?_
 refine al_op (op_assign rfl) rfl (by simp) ?_
 refine al_nil ?_
 refine aw_seq ?_
 refine aw_region ?_
 refine al_op (op_move rfl) rfl (by simp) ?_
 refine al_op (op_leq rfl rfl) rfl (by simp) ?_
 refine al_op (op_assign rfl) rfl (by simp) ?_
 refine al_nil ?_
 refine aw_freeze (fun _ => false) (fsub_cons (t := 2) rfl (.leaf _ _ (.same _)) fsub_nil) ?_
 refine aw_ret ?_
 refine ⟨_, res_1 rfl rfl, ?_, rfl⟩
 rfl
theorem e_is1 (x : Int) : ACp Tryz.prog 192 [.v (.int .u8 (x))] (.v (.bool (!decide (x ≤ 3)))) := by
 refine acp_of rfl ?_
 refine ac_enter 6 Tryz.func192 rfl rfl (by simp) ?_
 refine aw_seq ?_
 refine aw_region ?_
 refine al_op (op_assign rfl) rfl (by simp) ?_
 refine al_nil ?_
 refine aw_seq ?_
 refine aw_region ?_
 refine al_op (op_move rfl) rfl (by simp) ?_
 refine al_callp into193 rfl rfl rfl ((e_isBit _) _) (by simp) ?_
 refine al_op (op_not rfl) rfl (by simp) ?_
 refine al_op (op_assign rfl) rfl (by simp) ?_
 refine al_nil ?_
 refine aw_freeze (fun _ => false) (fsub_cons (t := 2) rfl (.leaf _ _ (.same _)) fsub_nil) ?_
 refine aw_ret ?_
 refine ⟨_, res_1 rfl rfl, ?_, rfl⟩
 rfl
theorem e_idxB (b : List Int) (hb : b.length ≤ 1000000000) : ACp Tryz.prog 205 [.list 1 (b.map encB), .v (.func (.func 192) #[] #[])] (.v (.int .i64 ((if b.any (fun x => !(decide (x ≤ 3))) then ((b.findIdx (fun x => !(decide (x ≤ 3))) : Nat) : Int) else -1)))) := by
 refine acp_of rfl ?_
 refine ac_enter 19 Tryz.func205 rfl rfl (by simp) ?_
 refine aw_seq ?_
 refine aw_region ?_
 refine al_op (op_assign rfl) rfl (by simp) ?_
 refine al_nil ?_
 refine aw_seq ?_
 refine aw_seq ?_
 refine aw_region ?_
 refine al_op (op_move rfl) rfl (by simp) ?_
 refine al_op (op_len_map Tryz.underlying26 rfl) rfl (by simp) ?_
 refine al_op (op_move rfl) rfl (by simp) ?_
 refine al_nil ?_
 refine aw_block ?_
 refine aw_forT (ι := Nat) [4, 8] [] (fun i => b.length - i) (fun i => i ≤ b.length ∧ ∀ k, k < i → (fun x => !(decide (x ≤ 3))) (b.getD k default) = false) (fun i => ([(8, .v (.int .i64 ((i : Nat) : Int)))] : Env)) (fun i s => s) (0) ?_ ?_ ?_ (fun i hinv => ?_)
 ·exact ⟨Nat.zero_le _, fun k hk => absurd hk (Nat.not_lt_zero k)⟩
 ·refine sub_cons (get_as rfl ?_) ?_; rotate_left; exact sub_nil
  all_goals (first | rfl | simp)
 ·rfl
 have hi := hinv.1
 refine aw_seq ?_
 refine aw_region ?_
 refine al_op (op_lss rfl rfl) rfl (by simp) ?_
 refine al_nil ?_
 refine aw_seq ?_
 refine aw_cond rfl (fun h1 => ?_) (fun h1 => ?_)
 ·have gh1 := h1
  try simp only [nrm] at h1
  refine aw_skip ?_
  refine aw_seq ?_
  refine aw_block ?_
  refine aw_seq ?_
  refine aw_region ?_
  refine al_op (op_move rfl) rfl (by simp) ?_
  refine al_op (op_assign rfl) rfl (by simp) ?_
  refine al_nil ?_
  refine aw_seq ?_
  refine aw_region ?_
  refine al_op (op_move rfl) rfl (by simp) ?_
  refine al_op (op_move rfl) rfl (by simp) ?_
  refine al_op (op_move rfl) rfl (by simp) ?_
  refine al_op (op_index_map default Tryz.underlying26 info97 rfl rfl rfl (by first | (with_reducible exact Int.toNat_natCast _) | rfl) (by omega) (by omega)) rfl (by simp) ?_
  refine al_op (op_load_rptr Tryz.underlying97 info97 rfl rfl) rfl (by simp) ?_
  refine al_callp into192 rfl rfl rfl ((e_is1 _) _) (by simp) ?_
  refine al_nil ?_
  refine aw_cond rfl (fun h2 => ?_) (fun h2 => ?_)
  ·have gh2 := h2
   try simp only [nrm] at h2
   refine aw_seq ?_
   refine aw_region ?_
   refine al_op (op_move rfl) rfl (by simp) ?_
   refine al_op (op_assign rfl) rfl (by simp) ?_
   refine al_nil ?_
   refine aw_freeze (fun _ => false) (fsub_cons (t := 4) rfl (.leaf _ _ (.same _)) fsub_nil) ?_
   refine aw_ret ?_
   refine ⟨_, res_1 rfl rfl, ?_, rfl⟩
   rw [if_pos (any_found i (by omega) gh2), findIdx_at i (by omega) hinv.2 gh2]
  ·have gh2 := h2
   try simp only [nrm] at h2
   refine aw_skip ?_
   refine aw_region ?_
   refine al_op (op_add rfl rfl (by first | exact wrap_i64 (by omega) (by omega))) rfl (by simp) ?_
   refine al_op (op_move rfl) rfl (by simp) ?_
   refine al_nil ?_
   refine ⟨i + 1, ?_, ?_, ?_, ?_, ?_⟩
   ·omega
   ·exact ⟨by omega, idx_more (p := fun k => (fun x => !(decide (x ≤ 3))) (b.getD k default)) hinv.2 gh2⟩
   ·refine sub_cons (get_as rfl ?_) ?_; rotate_left; exact sub_nil
    all_goals (first | rfl | simp)
   ·repeat (first | exact subx_refl | exact subx_del | refine subx_put rfl ?_)
   ·rfl
 ·have gh1 := h1
  try simp only [nrm] at h1
  refine aw_exit ?_
  refine aw_seq ?_
  refine aw_region ?_
  refine al_op (op_assign rfl) rfl (by simp) ?_
  refine al_nil ?_
  refine aw_freeze (fun _ => false) (fsub_cons (t := 4) rfl (.leaf _ _ (.same _)) fsub_nil) ?_
  refine aw_ret ?_
  refine ⟨_, res_1 rfl rfl, ?_, rfl⟩
  rw [if_neg (by rw [any_none (p := fun x => !(decide (x ≤ 3))) (fun k hk => hinv.2 k (by omega))]; exact Bool.false_ne_true)]
theorem e_conB (b : List Int) (hb : b.length ≤ 1000000000) : ACp Tryz.prog 191 [.list 1 (b.map encB), .v (.func (.func 192) #[] #[])] (.v (.bool (b.any (fun x => !(decide (x ≤ 3)))))) := by
 refine acp_of rfl ?_
 refine ac_enter 9 Tryz.func191 rfl rfl (by simp) ?_
 refine aw_seq ?_
 refine aw_region ?_
 refine al_op (op_assign rfl) rfl (by simp) ?_
 refine al_nil ?_
 refine aw_seq ?_
 refine aw_region ?_
 refine al_op (op_move rfl) rfl (by simp) ?_
 refine al_op (op_move rfl) rfl (by simp) ?_
 refine al_callp into205 rfl rfl rfl ((e_idxB _ (by first | assumption | omega | (simp; done) | (simp; omega) | decide)) _) (by simp) ?_
 refine al_op (op_geq rfl rfl) rfl (by simp) ?_
 refine al_op (op_assign rfl) rfl (by simp) ?_
 refine al_nil ?_
 refine aw_freeze (fun _ => false) (fsub_cons (t := 4) rfl (.leaf _ _ (.same _)) fsub_nil) ?_
 refine aw_ret ?_
 refine ⟨_, res_1 rfl rfl, ?_, rfl⟩
 cases hany : b.any (fun x => !(decide (x ≤ 3))) <;> simp <;> omega
theorem e_isBits (b : List Int) (hb : b.length ≤ 1000000000) : ACp Tryz.prog 164 [.list 1 (b.map encB)] (.v (.bool (isBits b))) := by
 refine acp_of rfl ?_
 refine ac_enter 16 Tryz.func164 rfl rfl (by simp) ?_
 refine aw_seq ?_
 refine aw_region ?_
 refine al_op (op_assign rfl) rfl (by simp) ?_
 refine al_nil ?_
 refine aw_seq ?_
 refine aw_region ?_
 refine al_op (op_move rfl) rfl (by simp) ?_
 refine al_op (op_len_map Tryz.underlying26 rfl) rfl (by simp) ?_
 refine al_op (op_geq rfl rfl) rfl (by simp) ?_
 refine al_op (op_move rfl) rfl (by simp) ?_
 apply al_and 4 6 10 rfl
 ·intro h1; have gh1 := h1
  try simp only [nrm] at h1
  refine al_take (op_move rfl) rfl rfl rfl rfl (by simp) ?_
  refine al_take (op_len_map Tryz.underlying26 rfl) rfl rfl rfl rfl (by simp) ?_
  refine al_take (op_leq rfl rfl) rfl rfl rfl rfl (by simp) ?_
  refine al_op (op_pick rfl rfl) rfl (by simp) ?_
  refine al_nil ⟨rfl, rfl, rfl, keep_of ?_⟩
  repeat (first | exact subx_refl | exact subx_known rfl gh1 subx_refl | refine subx_put rfl ?_)
 ·intro h1; have gh1 := h1
  try simp only [nrm] at h1
  refine al_pass rfl rfl rfl rfl (by simp) ?_
  refine al_pass rfl rfl rfl rfl (by simp) ?_
  refine al_pass rfl rfl rfl rfl (by simp) ?_
  refine al_op (op_pick rfl rfl) rfl (by simp) ?_
  refine al_nil ⟨rfl, rfl, rfl, keep_of ?_⟩
  repeat (first | exact subx_refl | exact subx_known rfl gh1 subx_refl | refine subx_put rfl ?_)
 refine al_op (op_move rfl) rfl (by simp) ?_
 apply al_and 4 11 15 rfl
 ·intro h2; have gh2 := h2
  try simp only [nrm] at h2
  refine al_take (op_move rfl) rfl rfl rfl rfl (by simp) ?_
  refine al_callp_take into191 rfl rfl rfl rfl rfl rfl ((e_conB _ (by first | assumption | omega | (simp; done) | (simp; omega) | decide)) _) (by simp) ?_
  refine al_take (op_not rfl) rfl rfl rfl rfl (by simp) ?_
  refine al_op (op_pick rfl rfl) rfl (by simp) ?_
  refine al_nil ⟨rfl, rfl, rfl, keep_of ?_⟩
  repeat (first | exact subx_refl | exact subx_known rfl gh2 subx_refl | refine subx_put rfl ?_)
 ·intro h2; have gh2 := h2
  try simp only [nrm] at h2
  refine al_pass rfl rfl rfl rfl (by simp) ?_
  refine al_pass rfl rfl rfl rfl (by simp) ?_
  refine al_pass rfl rfl rfl rfl (by simp) ?_
  refine al_op (op_pick rfl rfl) rfl (by simp) ?_
  refine al_nil ⟨rfl, rfl, rfl, keep_of ?_⟩
  repeat (first | exact subx_refl | exact subx_known rfl gh2 subx_refl | refine subx_put rfl ?_)
 refine al_op (op_assign rfl) rfl (by simp) ?_
 refine al_nil ?_
 refine aw_freeze (fun _ => false) (fsub_cons (t := 2) rfl (.leaf _ _ (.same _)) fsub_nil) ?_
 refine aw_ret ?_
 refine ⟨_, res_1 rfl rfl, ?_, rfl⟩
 rfl
theorem e_shape (e : Ex) (hs : e.name.length ≤ 1000000000) (hb : e.bits.length ≤ 1000000000) : ACp Tryz.prog 106 [.agg (cellsE (e))] (.v (.bool (shapeP e))) := by
 refine acp_of rfl ?_
 refine ac_enter 175 Tryz.func106 rfl rfl (by simp) ?_
 refine aw_seq ?_
 refine aw_region ?_
 (refine al_opR (op_box 1 rfl rfl (by first | rfl | exact live_one rfl | (repeat (first | exact all_live_nil | refine all_live_clo rfl ?_ | refine all_live_slice rfl ?_ | refine all_live_map rfl ?_ | refine all_live_ptr rfl ?_)))) rfl (by simp) ?_; rintro _ _ ⟨ver1, rfl, rfl⟩)
 refine al_op (op_assign rfl) rfl (by simp) ?_
 refine al_nil ?_
 refine aw_seq ?_
 refine aw_seq ?_
 refine aw_region ?_
 refine al_op (op_field_ptr Tryz.underlying37 rfl info30 (by decide) rfl rfl rfl) rfl (by simp) ?_
 refine al_op (op_load_ptr Tryz.underlying30 info30 rfl rfl rfl rfl) rfl (by simp) ?_
 refine al_callp into162 rfl rfl rfl ((e_none _) _) (by simp) ?_
 refine al_op (op_not rfl) rfl (by simp) ?_
 refine al_op (op_move rfl) rfl (by simp) ?_
 apply al_or 5 11 16 rfl
 ·intro h1; have gh1 := h1
  try simp only [nrm] at h1
  refine al_take (op_field_ptr Tryz.underlying37 rfl info35 (by decide) rfl rfl rfl) rfl rfl rfl rfl (by simp) ?_
  refine al_take (op_load_ptr Tryz.underlying35 info35 rfl rfl rfl rfl) rfl rfl rfl rfl (by simp) ?_
  refine al_callp_take into163 rfl rfl rfl rfl rfl rfl ((e_untyped _) _) (by simp) ?_
  refine al_take (op_not rfl) rfl rfl rfl rfl (by simp) ?_
  refine al_op (op_pick rfl rfl) rfl (by simp) ?_
  refine al_nil ⟨rfl, rfl, rfl, keep_of ?_⟩
  repeat (first | exact subx_refl | exact subx_known rfl gh1 subx_refl | refine subx_put rfl ?_)
 ·intro h1; have gh1 := h1
  try simp only [nrm] at h1
  refine al_pass rfl rfl rfl rfl (by simp) ?_
  refine al_pass rfl rfl rfl rfl (by simp) ?_
  refine al_pass rfl rfl rfl rfl (by simp) ?_
  refine al_pass rfl rfl rfl rfl (by simp) ?_
  refine al_op (op_pick rfl rfl) rfl (by simp) ?_
  refine al_nil ⟨rfl, rfl, rfl, keep_of ?_⟩
  repeat (first | exact subx_refl | exact subx_known rfl gh1 subx_refl | refine subx_put rfl ?_)
 refine al_op (op_move rfl) rfl (by simp) ?_
 apply al_or 9 17 26 rfl
 ·intro h2; have gh2 := h2
  try simp only [nrm] at h2
  refine al_take (op_field_ptr Tryz.underlying37 rfl info25 (by decide) rfl rfl rfl) rfl rfl rfl rfl (by simp) ?_
  refine al_take (op_load_ptr Tryz.underlying25 info25 rfl rfl rfl rfl) rfl rfl rfl rfl (by simp) ?_
  refine al_take (op_neq rfl rfl) rfl rfl rfl rfl (by simp) ?_
  refine al_take (op_move rfl) rfl rfl rfl rfl (by simp) ?_
  apply al_and 4 21 25 rfl
  ·intro h3; have gh3 := h3
   try simp only [nrm] at h3
   refine al_take (op_field_ptr Tryz.underlying37 rfl info3 (by decide) rfl rfl rfl) rfl rfl rfl rfl (by simp) ?_
   refine al_take (op_load_ptr Tryz.underlying3 info3 rfl rfl rfl rfl) rfl rfl rfl rfl (by simp) ?_
   refine al_take (op_neq rfl rfl) rfl rfl rfl rfl (by simp) ?_
   refine al_take (op_pick rfl rfl) rfl rfl rfl rfl (by simp) ?_
   refine al_nil ⟨rfl, rfl, rfl, keep_of ?_⟩
   repeat (first | exact subx_refl | exact subx_known rfl gh3 subx_refl | refine subx_put rfl ?_)
  ·intro h3; have gh3 := h3
   try simp only [nrm] at h3
   refine al_pass rfl rfl rfl rfl (by simp) ?_
   refine al_pass rfl rfl rfl rfl (by simp) ?_
   refine al_pass rfl rfl rfl rfl (by simp) ?_
   refine al_take (op_pick rfl rfl) rfl rfl rfl rfl (by simp) ?_
   refine al_nil ⟨rfl, rfl, rfl, keep_of ?_⟩
   repeat (first | exact subx_refl | exact subx_known rfl gh3 subx_refl | refine subx_put rfl ?_)
  refine al_op (op_pick rfl rfl) rfl (by simp) ?_
  refine al_nil ⟨rfl, rfl, rfl, keep_of ?_⟩
  repeat (first | exact subx_refl | exact subx_known rfl gh2 subx_refl | refine subx_put rfl ?_)
 ·intro h2; have gh2 := h2
  try simp only [nrm] at h2
  refine al_pass rfl rfl rfl rfl (by simp) ?_
  refine al_pass rfl rfl rfl rfl (by simp) ?_
  refine al_pass rfl rfl rfl rfl (by simp) ?_
  refine al_pass rfl rfl rfl rfl (by simp) ?_
  refine al_pass_undef rfl rfl rfl rfl (by simp) ?_
  refine al_pass_undef rfl rfl rfl rfl (by simp) ?_
  refine al_pass_undef rfl rfl rfl rfl (by simp) ?_
  refine al_pass rfl rfl rfl rfl (by simp) ?_
  refine al_op (op_pick rfl rfl) rfl (by simp) ?_
  refine al_nil ⟨rfl, rfl, rfl, keep_of ?_⟩
  repeat (first | exact subx_refl | exact subx_known rfl gh2 subx_refl | refine subx_put rfl ?_)
 refine al_nil ?_
 refine aw_cond rfl (fun h4 => ?_) (fun h4 => ?_)
 ·have gh4 := h4
  try simp only [nrm] at h4
  refine aw_seq ?_
  refine aw_region ?_
  refine al_op (op_assign rfl) rfl (by simp) ?_
  refine al_nil ?_
  refine aw_freeze (fun _ => false) (fsub_cons (t := 2) rfl (.leaf _ _ (.same _)) fsub_nil) ?_
  refine aw_ret ?_
  refine ⟨_, res_1 rfl rfl, ?_, rfl⟩
  rw [shapeP, gh4]; rfl
 ·have gh4 := h4
  try simp only [nrm] at h4
  refine aw_skip ?_
  refine aw_seq ?_
  refine aw_any (Checked.mixed Tryz.checked) ?_
  apply aany_seg (p := 0) (q := 12) (by kernel_rfl) rfl (by decide)
  ·
   apply ql_plain rfl (op_field_ptr Tryz.underlying37 rfl info9 (by decide) rfl rfl rfl)
   apply ql_plain rfl (op_load_ptr Tryz.underlying9 info9 rfl rfl rfl rfl)
   apply ql_plain rfl (op_sneq_str rfl rfl)
   apply ql_plain rfl (op_field_ptr Tryz.underlying37 rfl info26 (by decide) rfl rfl rfl)
   apply ql_plain rfl (op_load_ptr Tryz.underlying26 info26 rfl rfl rfl rfl)
   apply ql_plain rfl (op_len_map Tryz.underlying26 rfl)
   apply ql_plain rfl (op_field_ptr Tryz.underlying37 rfl info31 (by decide) rfl rfl rfl)
   apply ql_plain rfl (op_load_ptr Tryz.underlying31 info31 rfl rfl rfl rfl)
   apply ql_plain rfl (op_len_map Tryz.underlying31 rfl)
   apply ql_plain rfl (op_assign rfl)
   apply ql_plain rfl (op_assign rfl)
   apply ql_plain rfl (op_assign rfl)
   exact ql_nil
  ·simp
  refine aany_end rfl (by kernel_rfl) ?_
  refine aw_seq ?_
  refine aw_seq ?_
  refine aw_region ?_
  refine al_op (op_field_ptr Tryz.underlying37 rfl info25 (by decide) rfl rfl rfl) rfl (by simp) ?_
  refine al_op (op_load_ptr Tryz.underlying25 info25 rfl rfl rfl rfl) rfl (by simp) ?_
  refine al_nil ?_
  refine aw_block ?_
  refine aw_seq ?_
  refine aw_region ?_
  refine al_op (op_eql rfl rfl) rfl (by simp) ?_
  refine al_op (op_assign rfl) rfl (by simp) ?_
  refine al_nil ?_
  refine aw_cond rfl (fun h5 => ?_) (fun h5 => ?_)
  ·have gh5 := h5
   try simp only [nrm] at h5
   refine aw_seq ?_
   refine aw_region ?_
   refine al_op (op_move rfl) rfl (by simp) ?_
   refine al_op (op_not rfl) rfl (by simp) ?_
   refine al_op (op_move rfl) rfl (by simp) ?_
   apply al_and 3 42 45 rfl
   ·intro h6; have gh6 := h6
    try simp only [nrm] at h6
    refine al_take (op_move rfl) rfl rfl rfl rfl (by simp) ?_
    refine al_take (op_eql rfl rfl) rfl rfl rfl rfl (by simp) ?_
    refine al_op (op_pick rfl rfl) rfl (by simp) ?_
    refine al_nil ⟨rfl, rfl, rfl, keep_of ?_⟩
    repeat (first | exact subx_refl | exact subx_known rfl gh6 subx_refl | refine subx_put rfl ?_)
   ·intro h6; have gh6 := h6
    try simp only [nrm] at h6
    refine al_pass rfl rfl rfl rfl (by simp) ?_
    refine al_pass rfl rfl rfl rfl (by simp) ?_
    refine al_op (op_pick rfl rfl) rfl (by simp) ?_
    refine al_nil ⟨rfl, rfl, rfl, keep_of ?_⟩
    repeat (first | exact subx_refl | exact subx_known rfl gh6 subx_refl | refine subx_put rfl ?_)
   refine al_op (op_move rfl) rfl (by simp) ?_
   apply al_and 3 46 49 rfl
   ·intro h7; have gh7 := h7
    try simp only [nrm] at h7
    refine al_take (op_move rfl) rfl rfl rfl rfl (by simp) ?_
    refine al_take (op_eql rfl rfl) rfl rfl rfl rfl (by simp) ?_
    refine al_op (op_pick rfl rfl) rfl (by simp) ?_
    refine al_nil ⟨rfl, rfl, rfl, keep_of ?_⟩
    repeat (first | exact subx_refl | exact subx_known rfl gh7 subx_refl | refine subx_put rfl ?_)
   ·intro h7; have gh7 := h7
    try simp only [nrm] at h7
    refine al_pass rfl rfl rfl rfl (by simp) ?_
    refine al_pass rfl rfl rfl rfl (by simp) ?_
    refine al_op (op_pick rfl rfl) rfl (by simp) ?_
    refine al_nil ⟨rfl, rfl, rfl, keep_of ?_⟩
    repeat (first | exact subx_refl | exact subx_known rfl gh7 subx_refl | refine subx_put rfl ?_)
   refine al_op (op_move rfl) rfl (by simp) ?_
   apply al_and 4 50 54 rfl
   ·intro h8; have gh8 := h8
    try simp only [nrm] at h8
    refine al_take (op_field_ptr Tryz.underlying37 rfl info3 (by decide) rfl rfl rfl) rfl rfl rfl rfl (by simp) ?_
    refine al_take (op_load_ptr Tryz.underlying3 info3 rfl rfl rfl rfl) rfl rfl rfl rfl (by simp) ?_
    refine al_take (op_geq rfl rfl) rfl rfl rfl rfl (by simp) ?_
    refine al_op (op_pick rfl rfl) rfl (by simp) ?_
    refine al_nil ⟨rfl, rfl, rfl, keep_of ?_⟩
    repeat (first | exact subx_refl | exact subx_known rfl gh8 subx_refl | refine subx_put rfl ?_)
   ·intro h8; have gh8 := h8
    try simp only [nrm] at h8
    refine al_pass rfl rfl rfl rfl (by simp) ?_
    refine al_pass rfl rfl rfl rfl (by simp) ?_
    refine al_pass rfl rfl rfl rfl (by simp) ?_
    refine al_op (op_pick rfl rfl) rfl (by simp) ?_
    refine al_nil ⟨rfl, rfl, rfl, keep_of ?_⟩
    repeat (first | exact subx_refl | exact subx_known rfl gh8 subx_refl | refine subx_put rfl ?_)
   refine al_op (op_move rfl) rfl (by simp) ?_
   apply al_and 4 55 59 rfl
   ·intro h9; have gh9 := h9
    try simp only [nrm] at h9
    refine al_take (op_field_ptr Tryz.underlying37 rfl info3 (by decide) rfl rfl rfl) rfl rfl rfl rfl (by simp) ?_
    refine al_take (op_load_ptr Tryz.underlying3 info3 rfl rfl rfl rfl) rfl rfl rfl rfl (by simp) ?_
    refine al_take (op_leq rfl rfl) rfl rfl rfl rfl (by simp) ?_
    refine al_op (op_pick rfl rfl) rfl (by simp) ?_
    refine al_nil ⟨rfl, rfl, rfl, keep_of ?_⟩
    repeat (first | exact subx_refl | exact subx_known rfl gh9 subx_refl | refine subx_put rfl ?_)
   ·intro h9; have gh9 := h9
    try simp only [nrm] at h9
    refine al_pass rfl rfl rfl rfl (by simp) ?_
    refine al_pass rfl rfl rfl rfl (by simp) ?_
    refine al_pass rfl rfl rfl rfl (by simp) ?_
    refine al_op (op_pick rfl rfl) rfl (by simp) ?_
    refine al_nil ⟨rfl, rfl, rfl, keep_of ?_⟩
    repeat (first | exact subx_refl | exact subx_known rfl gh9 subx_refl | refine subx_put rfl ?_)
   refine al_op (op_assign rfl) rfl (by simp) ?_
   refine al_nil ?_
   refine aw_freeze (fun _ => false) (fsub_cons (t := 2) rfl (.leaf _ _ (.same _)) fsub_nil) ?_
   refine aw_ret ?_
   refine ⟨_, res_1 rfl rfl, ?_, rfl⟩
   rw [shapeP, gh4, gh5]; rfl
  ·have gh5 := h5
   try simp only [nrm] at h5
   refine aw_seq ?_
   refine aw_region ?_
   refine al_op (op_eql rfl rfl) rfl (by simp) ?_
   refine al_op (op_assign rfl) rfl (by simp) ?_
   refine al_nil ?_
   refine aw_cond rfl (fun h10 => ?_) (fun h10 => ?_)
   ·have gh10 := h10
    try simp only [nrm] at h10
    refine aw_seq ?_
    refine aw_region ?_
    refine al_op (op_move rfl) rfl (by simp) ?_
    refine al_op (op_not rfl) rfl (by simp) ?_
    refine al_op (op_move rfl) rfl (by simp) ?_
    apply al_and 3 64 67 rfl
    ·intro h11; have gh11 := h11
     try simp only [nrm] at h11
     refine al_take (op_move rfl) rfl rfl rfl rfl (by simp) ?_
     refine al_take (op_eql rfl rfl) rfl rfl rfl rfl (by simp) ?_
     refine al_op (op_pick rfl rfl) rfl (by simp) ?_
     refine al_nil ⟨rfl, rfl, rfl, keep_of ?_⟩
     repeat (first | exact subx_refl | exact subx_known rfl gh11 subx_refl | refine subx_put rfl ?_)
    ·intro h11; have gh11 := h11
     try simp only [nrm] at h11
     refine al_pass rfl rfl rfl rfl (by simp) ?_
     refine al_pass rfl rfl rfl rfl (by simp) ?_
     refine al_op (op_pick rfl rfl) rfl (by simp) ?_
     refine al_nil ⟨rfl, rfl, rfl, keep_of ?_⟩
     repeat (first | exact subx_refl | exact subx_known rfl gh11 subx_refl | refine subx_put rfl ?_)
    refine al_op (op_move rfl) rfl (by simp) ?_
    apply al_and 3 68 71 rfl
    ·intro h12; have gh12 := h12
     try simp only [nrm] at h12
     refine al_take (op_move rfl) rfl rfl rfl rfl (by simp) ?_
     refine al_take (op_eql rfl rfl) rfl rfl rfl rfl (by simp) ?_
     refine al_op (op_pick rfl rfl) rfl (by simp) ?_
     refine al_nil ⟨rfl, rfl, rfl, keep_of ?_⟩
     repeat (first | exact subx_refl | exact subx_known rfl gh12 subx_refl | refine subx_put rfl ?_)
    ·intro h12; have gh12 := h12
     try simp only [nrm] at h12
     refine al_pass rfl rfl rfl rfl (by simp) ?_
     refine al_pass rfl rfl rfl rfl (by simp) ?_
     refine al_op (op_pick rfl rfl) rfl (by simp) ?_
     refine al_nil ⟨rfl, rfl, rfl, keep_of ?_⟩
     repeat (first | exact subx_refl | exact subx_known rfl gh12 subx_refl | refine subx_put rfl ?_)
    refine al_op (op_move rfl) rfl (by simp) ?_
    apply al_and 4 72 76 rfl
    ·intro h13; have gh13 := h13
     try simp only [nrm] at h13
     refine al_take (op_field_ptr Tryz.underlying37 rfl info26 (by decide) rfl rfl rfl) rfl rfl rfl rfl (by simp) ?_
     refine al_take (op_load_ptr Tryz.underlying26 info26 rfl rfl rfl rfl) rfl rfl rfl rfl (by simp) ?_
     refine al_callp_take into164 rfl rfl rfl rfl rfl rfl ((e_isBits _ (by first | assumption | omega)) _) (by simp) ?_
     refine al_op (op_pick rfl rfl) rfl (by simp) ?_
     refine al_nil ⟨rfl, rfl, rfl, keep_of ?_⟩
     repeat (first | exact subx_refl | exact subx_known rfl gh13 subx_refl | refine subx_put rfl ?_)
    ·intro h13; have gh13 := h13
     try simp only [nrm] at h13
     refine al_pass rfl rfl rfl rfl (by simp) ?_
     refine al_pass rfl rfl rfl rfl (by simp) ?_
     refine al_pass rfl rfl rfl rfl (by simp) ?_
     refine al_op (op_pick rfl rfl) rfl (by simp) ?_
     refine al_nil ⟨rfl, rfl, rfl, keep_of ?_⟩
     repeat (first | exact subx_refl | exact subx_known rfl gh13 subx_refl | refine subx_put rfl ?_)
    refine al_op (op_assign rfl) rfl (by simp) ?_
    refine al_nil ?_
    refine aw_freeze (fun _ => false) (fsub_cons (t := 2) rfl (.leaf _ _ (.same _)) fsub_nil) ?_
    refine aw_ret ?_
    refine ⟨_, res_1 rfl rfl, ?_, rfl⟩
    rw [shapeP, gh4, gh5, gh10]; rfl
   ·have gh10 := h10
    try simp only [nrm] at h10
    refine aw_seq ?_
    refine aw_region ?_
    refine al_op (op_eql rfl rfl) rfl (by simp) ?_
    refine al_op (op_assign rfl) rfl (by simp) ?_
    refine al_nil ?_
    refine aw_cond rfl (fun h14 => ?_) (fun h14 => ?_)
    ·have gh14 := h14
     try simp only [nrm] at h14
     refine aw_seq ?_
     refine aw_region ?_
     refine al_op (op_move rfl) rfl (by simp) ?_
     refine al_op (op_not rfl) rfl (by simp) ?_
     refine al_op (op_move rfl) rfl (by simp) ?_
     apply al_and 3 81 84 rfl
     ·intro h15; have gh15 := h15
      try simp only [nrm] at h15
      refine al_take (op_move rfl) rfl rfl rfl rfl (by simp) ?_
      refine al_take (op_eql rfl rfl) rfl rfl rfl rfl (by simp) ?_
      refine al_op (op_pick rfl rfl) rfl (by simp) ?_
      refine al_nil ⟨rfl, rfl, rfl, keep_of ?_⟩
      repeat (first | exact subx_refl | exact subx_known rfl gh15 subx_refl | refine subx_put rfl ?_)
     ·intro h15; have gh15 := h15
      try simp only [nrm] at h15
      refine al_pass rfl rfl rfl rfl (by simp) ?_
      refine al_pass rfl rfl rfl rfl (by simp) ?_
      refine al_op (op_pick rfl rfl) rfl (by simp) ?_
      refine al_nil ⟨rfl, rfl, rfl, keep_of ?_⟩
      repeat (first | exact subx_refl | exact subx_known rfl gh15 subx_refl | refine subx_put rfl ?_)
     refine al_op (op_move rfl) rfl (by simp) ?_
     apply al_and 4 85 89 rfl
     ·intro h16; have gh16 := h16
      try simp only [nrm] at h16
      refine al_take (op_field_ptr Tryz.underlying37 rfl info26 (by decide) rfl rfl rfl) rfl rfl rfl rfl (by simp) ?_
      refine al_take (op_load_ptr Tryz.underlying26 info26 rfl rfl rfl rfl) rfl rfl rfl rfl (by simp) ?_
      refine al_callp_take into164 rfl rfl rfl rfl rfl rfl ((e_isBits _ (by first | assumption | omega)) _) (by simp) ?_
      refine al_op (op_pick rfl rfl) rfl (by simp) ?_
      refine al_nil ⟨rfl, rfl, rfl, keep_of ?_⟩
      repeat (first | exact subx_refl | exact subx_known rfl gh16 subx_refl | refine subx_put rfl ?_)
     ·intro h16; have gh16 := h16
      try simp only [nrm] at h16
      refine al_pass rfl rfl rfl rfl (by simp) ?_
      refine al_pass rfl rfl rfl rfl (by simp) ?_
      refine al_pass rfl rfl rfl rfl (by simp) ?_
      refine al_op (op_pick rfl rfl) rfl (by simp) ?_
      refine al_nil ⟨rfl, rfl, rfl, keep_of ?_⟩
      repeat (first | exact subx_refl | exact subx_known rfl gh16 subx_refl | refine subx_put rfl ?_)
     refine al_op (op_assign rfl) rfl (by simp) ?_
     refine al_nil ?_
     refine aw_freeze (fun _ => false) (fsub_cons (t := 2) rfl (.leaf _ _ (.same _)) fsub_nil) ?_
     refine aw_ret ?_
     refine ⟨_, res_1 rfl rfl, ?_, rfl⟩
     rw [shapeP, gh4, gh5, gh10, gh14]; rfl
    ·have gh14 := h14
     try simp only [nrm] at h14
     refine aw_seq ?_
     refine aw_region ?_
     refine al_op (op_eql rfl rfl) rfl (by simp) ?_
     refine al_op (op_assign rfl) rfl (by simp) ?_
     refine al_nil ?_
     refine aw_cond rfl (fun h17 => ?_) (fun h17 => ?_)
     ·have gh17 := h17
      try simp only [nrm] at h17
      refine aw_seq ?_
      refine aw_region ?_
      refine al_op (op_move rfl) rfl (by simp) ?_
      refine al_op (op_eql rfl rfl) rfl (by simp) ?_
      refine al_op (op_move rfl) rfl (by simp) ?_
      apply al_and 3 94 97 rfl
      ·intro h18; have gh18 := h18
       try simp only [nrm] at h18
       refine al_take (op_move rfl) rfl rfl rfl rfl (by simp) ?_
       refine al_take (op_eql rfl rfl) rfl rfl rfl rfl (by simp) ?_
       refine al_op (op_pick rfl rfl) rfl (by simp) ?_
       refine al_nil ⟨rfl, rfl, rfl, keep_of ?_⟩
       repeat (first | exact subx_refl | exact subx_known rfl gh18 subx_refl | refine subx_put rfl ?_)
      ·intro h18; have gh18 := h18
       try simp only [nrm] at h18
       refine al_pass rfl rfl rfl rfl (by simp) ?_
       refine al_pass rfl rfl rfl rfl (by simp) ?_
       refine al_op (op_pick rfl rfl) rfl (by simp) ?_
       refine al_nil ⟨rfl, rfl, rfl, keep_of ?_⟩
       repeat (first | exact subx_refl | exact subx_known rfl gh18 subx_refl | refine subx_put rfl ?_)
      refine al_op (op_move rfl) rfl (by simp) ?_
      apply al_and 4 98 102 rfl
      ·intro h19; have gh19 := h19
       try simp only [nrm] at h19
       refine al_take (op_field_ptr Tryz.underlying37 rfl info9 (by decide) rfl rfl rfl) rfl rfl rfl rfl (by simp) ?_
       refine al_take (op_load_ptr Tryz.underlying9 info9 rfl rfl rfl rfl) rfl rfl rfl rfl (by simp) ?_
       refine al_callp_take into66 rfl rfl rfl rfl rfl rfl ((c_isName _ (by first | assumption | omega | (simp; done) | (simp; omega) | decide)) _) (by simp) ?_
       refine al_op (op_pick rfl rfl) rfl (by simp) ?_
       refine al_nil ⟨rfl, rfl, rfl, keep_of ?_⟩
       repeat (first | exact subx_refl | exact subx_known rfl gh19 subx_refl | refine subx_put rfl ?_)
      ·intro h19; have gh19 := h19
       try simp only [nrm] at h19
       refine al_pass rfl rfl rfl rfl (by simp) ?_
       refine al_pass rfl rfl rfl rfl (by simp) ?_
       refine al_pass rfl rfl rfl rfl (by simp) ?_
       refine al_op (op_pick rfl rfl) rfl (by simp) ?_
       refine al_nil ⟨rfl, rfl, rfl, keep_of ?_⟩
       repeat (first | exact subx_refl | exact subx_known rfl gh19 subx_refl | refine subx_put rfl ?_)
      refine al_op (op_assign rfl) rfl (by simp) ?_
      refine al_nil ?_
      refine aw_freeze (fun _ => false) (fsub_cons (t := 2) rfl (.leaf _ _ (.same _)) fsub_nil) ?_
      refine aw_ret ?_
      refine ⟨_, res_1 rfl rfl, ?_, rfl⟩
      rw [shapeP, gh4, gh5, gh10, gh14, gh17]; rfl
     ·have gh17 := h17
      try simp only [nrm] at h17
      refine aw_seq ?_
      refine aw_region ?_
      refine al_op (op_eql rfl rfl) rfl (by simp) ?_
      refine al_op (op_assign rfl) rfl (by simp) ?_
      refine al_nil ?_
      refine aw_cond rfl (fun h20 => ?_) (fun h20 => ?_)
      ·have gh20 := h20
       try simp only [nrm] at h20
       refine aw_seq ?_
       refine aw_seq ?_
       refine aw_region ?_
       refine al_op (op_move rfl) rfl (by simp) ?_
       refine al_op (op_gtr rfl rfl) rfl (by simp) ?_
       refine al_nil ?_
       refine aw_cond rfl (fun h21 => ?_) (fun h21 => ?_)
       ·have gh21 := h21
        try simp only [nrm] at h21
        refine aw_seq ?_
        refine aw_region ?_
        refine al_op (op_assign rfl) rfl (by simp) ?_
        refine al_nil ?_
        refine aw_freeze (fun _ => false) (fsub_cons (t := 2) rfl (.leaf _ _ (.same _)) fsub_nil) ?_
        refine aw_ret ?_
        refine ⟨_, res_1 rfl rfl, ?_, rfl⟩
        rw [shapeP, gh4, gh5, gh10, gh14, gh17, gh20, gh21]; rfl
       ·have gh21 := h21
        try simp only [nrm] at h21
        refine aw_skip ?_
        refine aw_seq ?_
        refine aw_region ?_
        refine al_op (op_move rfl) rfl (by simp) ?_
        refine al_op (op_eql rfl rfl) rfl (by simp) ?_
        refine al_op (op_move rfl) rfl (by simp) ?_
        apply al_and 9 109 118 rfl
        ·intro h22; have gh22 := h22
         try simp only [nrm] at h22
         refine al_take (op_field_ptr Tryz.underlying37 rfl info9 (by decide) rfl rfl rfl) rfl rfl rfl rfl (by simp) ?_
         refine al_take (op_load_ptr Tryz.underlying9 info9 rfl rfl rfl rfl) rfl rfl rfl rfl (by simp) ?_
         refine al_take (op_seql_str rfl rfl) rfl rfl rfl rfl (by simp) ?_
         refine al_take (op_move rfl) rfl rfl rfl rfl (by simp) ?_
         apply al_or 4 113 117 rfl
         ·intro h23; have gh23 := h23
          try simp only [nrm] at h23
          refine al_take (op_field_ptr Tryz.underlying37 rfl info9 (by decide) rfl rfl rfl) rfl rfl rfl rfl (by simp) ?_
          refine al_take (op_load_ptr Tryz.underlying9 info9 rfl rfl rfl rfl) rfl rfl rfl rfl (by simp) ?_
          refine al_take (op_seql_str rfl rfl) rfl rfl rfl rfl (by simp) ?_
          refine al_take (op_pick rfl rfl) rfl rfl rfl rfl (by simp) ?_
          refine al_nil ⟨rfl, rfl, rfl, keep_of ?_⟩
          repeat (first | exact subx_refl | exact subx_known rfl gh23 subx_refl | refine subx_put rfl ?_)
         ·intro h23; have gh23 := h23
          try simp only [nrm] at h23
          refine al_pass rfl rfl rfl rfl (by simp) ?_
          refine al_pass rfl rfl rfl rfl (by simp) ?_
          refine al_pass rfl rfl rfl rfl (by simp) ?_
          refine al_take (op_pick rfl rfl) rfl rfl rfl rfl (by simp) ?_
          refine al_nil ⟨rfl, rfl, rfl, keep_of ?_⟩
          repeat (first | exact subx_refl | exact subx_known rfl gh23 subx_refl | refine subx_put rfl ?_)
         refine al_op (op_pick rfl rfl) rfl (by simp) ?_
         refine al_nil ⟨rfl, rfl, rfl, keep_of ?_⟩
         repeat (first | exact subx_refl | exact subx_known rfl gh22 subx_refl | refine subx_put rfl ?_)
        ·intro h22; have gh22 := h22
         try simp only [nrm] at h22
         refine al_pass rfl rfl rfl rfl (by simp) ?_
         refine al_pass rfl rfl rfl rfl (by simp) ?_
         refine al_pass rfl rfl rfl rfl (by simp) ?_
         refine al_pass rfl rfl rfl rfl (by simp) ?_
         refine al_pass_undef rfl rfl rfl rfl (by simp) ?_
         refine al_pass_undef rfl rfl rfl rfl (by simp) ?_
         refine al_pass_undef rfl rfl rfl rfl (by simp) ?_
         refine al_pass rfl rfl rfl rfl (by simp) ?_
         refine al_op (op_pick rfl rfl) rfl (by simp) ?_
         refine al_nil ⟨rfl, rfl, rfl, keep_of ?_⟩
         repeat (first | exact subx_refl | exact subx_known rfl gh22 subx_refl | refine subx_put rfl ?_)
        refine al_op (op_assign rfl) rfl (by simp) ?_
        refine al_nil ?_
        refine aw_seq ?_
        refine aw_region ?_
        refine al_op (op_move rfl) rfl (by simp) ?_
        refine al_op (op_move rfl) rfl (by simp) ?_
        apply al_or 9 120 129 rfl
        ·intro h24; have gh24 := h24
         try simp only [nrm] at h24
         refine al_take (op_move rfl) rfl rfl rfl rfl (by simp) ?_
         refine al_take (op_eql rfl rfl) rfl rfl rfl rfl (by simp) ?_
         refine al_take (op_move rfl) rfl rfl rfl rfl (by simp) ?_
         apply al_and 5 123 128 rfl
         ·intro h25; have gh25 := h25
          try simp only [nrm] at h25
          refine al_take (op_field_ptr Tryz.underlying37 rfl info9 (by decide) rfl rfl rfl) rfl rfl rfl rfl (by simp) ?_
          refine al_take (op_load_ptr Tryz.underlying9 info9 rfl rfl rfl rfl) rfl rfl rfl rfl (by simp) ?_
          refine al_callp_take into165 rfl rfl rfl rfl rfl rfl ((e_strength _) _) (by simp) ?_
          refine al_take (op_geq rfl rfl) rfl rfl rfl rfl (by simp) ?_
          refine al_take (op_pick rfl rfl) rfl rfl rfl rfl (by simp) ?_
          refine al_nil ⟨rfl, rfl, rfl, keep_of ?_⟩
          repeat (first | exact subx_refl | exact subx_known rfl gh25 subx_refl | refine subx_put rfl ?_)
         ·intro h25; have gh25 := h25
          try simp only [nrm] at h25
          refine al_pass rfl rfl rfl rfl (by simp) ?_
          refine al_pass rfl rfl rfl rfl (by simp) ?_
          refine al_pass rfl rfl rfl rfl (by simp) ?_
          refine al_pass rfl rfl rfl rfl (by simp) ?_
          refine al_take (op_pick rfl rfl) rfl rfl rfl rfl (by simp) ?_
          refine al_nil ⟨rfl, rfl, rfl, keep_of ?_⟩
          repeat (first | exact subx_refl | exact subx_known rfl gh25 subx_refl | refine subx_put rfl ?_)
         refine al_op (op_pick rfl rfl) rfl (by simp) ?_
         refine al_nil ⟨rfl, rfl, rfl, keep_of ?_⟩
         repeat (first | exact subx_refl | exact subx_known rfl gh24 subx_refl | refine subx_put rfl ?_)
        ·intro h24; have gh24 := h24
         try simp only [nrm] at h24
         refine al_pass rfl rfl rfl rfl (by simp) ?_
         refine al_pass rfl rfl rfl rfl (by simp) ?_
         refine al_pass rfl rfl rfl rfl (by simp) ?_
         refine al_pass_undef rfl rfl rfl rfl (by simp) ?_
         refine al_pass_undef rfl rfl rfl rfl (by simp) ?_
         refine al_pass_undef rfl rfl rfl rfl (by simp) ?_
         refine al_pass_undef rfl rfl rfl rfl (by simp) ?_
         refine al_pass rfl rfl rfl rfl (by simp) ?_
         refine al_op (op_pick rfl rfl) rfl (by simp) ?_
         refine al_nil ⟨rfl, rfl, rfl, keep_of ?_⟩
         repeat (first | exact subx_refl | exact subx_known rfl gh24 subx_refl | refine subx_put rfl ?_)
        refine al_op (op_move rfl) rfl (by simp) ?_
        apply al_or 12 130 142 rfl
        ·intro h26; have gh26 := h26
         try simp only [nrm] at h26
         refine al_take (op_move rfl) rfl rfl rfl rfl (by simp) ?_
         refine al_take (op_geq rfl rfl) rfl rfl rfl rfl (by simp) ?_
         refine al_take (op_move rfl) rfl rfl rfl rfl (by simp) ?_
         apply al_and 3 133 136 rfl
         ·intro h27; have gh27 := h27
          try simp only [nrm] at h27
          refine al_take (op_move rfl) rfl rfl rfl rfl (by simp) ?_
          refine al_take (op_leq rfl rfl) rfl rfl rfl rfl (by simp) ?_
          refine al_take (op_pick rfl rfl) rfl rfl rfl rfl (by simp) ?_
          refine al_nil ⟨rfl, rfl, rfl, keep_of ?_⟩
          repeat (first | exact subx_refl | exact subx_known rfl gh27 subx_refl | refine subx_put rfl ?_)
         ·intro h27; have gh27 := h27
          try simp only [nrm] at h27
          refine al_pass rfl rfl rfl rfl (by simp) ?_
          refine al_pass rfl rfl rfl rfl (by simp) ?_
          refine al_take (op_pick rfl rfl) rfl rfl rfl rfl (by simp) ?_
          refine al_nil ⟨rfl, rfl, rfl, keep_of ?_⟩
          repeat (first | exact subx_refl | exact subx_known rfl gh27 subx_refl | refine subx_put rfl ?_)
         refine al_take (op_move rfl) rfl rfl rfl rfl (by simp) ?_
         apply al_and 4 137 141 rfl
         ·intro h28; have gh28 := h28
          try simp only [nrm] at h28
          refine al_take (op_field_ptr Tryz.underlying37 rfl info9 (by decide) rfl rfl rfl) rfl rfl rfl rfl (by simp) ?_
          refine al_take (op_load_ptr Tryz.underlying9 info9 rfl rfl rfl rfl) rfl rfl rfl rfl (by simp) ?_
          refine al_callp_take into66 rfl rfl rfl rfl rfl rfl ((c_isName _ (by first | assumption | omega | (simp; done) | (simp; omega) | decide)) _) (by simp) ?_
          refine al_take (op_pick rfl rfl) rfl rfl rfl rfl (by simp) ?_
          refine al_nil ⟨rfl, rfl, rfl, keep_of ?_⟩
          repeat (first | exact subx_refl | exact subx_known rfl gh28 subx_refl | refine subx_put rfl ?_)
         ·intro h28; have gh28 := h28
          try simp only [nrm] at h28
          refine al_pass rfl rfl rfl rfl (by simp) ?_
          refine al_pass rfl rfl rfl rfl (by simp) ?_
          refine al_pass rfl rfl rfl rfl (by simp) ?_
          refine al_take (op_pick rfl rfl) rfl rfl rfl rfl (by simp) ?_
          refine al_nil ⟨rfl, rfl, rfl, keep_of ?_⟩
          repeat (first | exact subx_refl | exact subx_known rfl gh28 subx_refl | refine subx_put rfl ?_)
         refine al_op (op_pick rfl rfl) rfl (by simp) ?_
         refine al_nil ⟨rfl, rfl, rfl, keep_of ?_⟩
         repeat (first | exact subx_refl | exact subx_known rfl gh26 subx_refl | refine subx_put rfl ?_)
        ·intro h26; have gh26 := h26
         try simp only [nrm] at h26
         refine al_pass rfl rfl rfl rfl (by simp) ?_
         refine al_pass rfl rfl rfl rfl (by simp) ?_
         refine al_pass rfl rfl rfl rfl (by simp) ?_
         refine al_pass_undef rfl rfl rfl rfl (by simp) ?_
         refine al_pass_undef rfl rfl rfl rfl (by simp) ?_
         refine al_pass rfl rfl rfl rfl (by simp) ?_
         refine al_pass rfl rfl rfl rfl (by simp) ?_
         refine al_pass_undef rfl rfl rfl rfl (by simp) ?_
         refine al_pass_undef rfl rfl rfl rfl (by simp) ?_
         refine al_pass_undef rfl rfl rfl rfl (by simp) ?_
         refine al_pass rfl rfl rfl rfl (by simp) ?_
         refine al_op (op_pick rfl rfl) rfl (by simp) ?_
         refine al_nil ⟨rfl, rfl, rfl, keep_of ?_⟩
         repeat (first | exact subx_refl | exact subx_known rfl gh26 subx_refl | refine subx_put rfl ?_)
        refine al_op (op_assign rfl) rfl (by simp) ?_
        refine al_nil ?_
        refine aw_freeze (fun _ => false) (fsub_cons (t := 2) rfl (.leaf _ _ (.same _)) fsub_nil) ?_
        refine aw_ret ?_
        refine ⟨_, res_1 rfl rfl, ?_, rfl⟩
        rw [shapeP, gh4, gh5, gh10, gh14, gh17, gh20, gh21]; rfl
      ·have gh20 := h20
       try simp only [nrm] at h20
       refine aw_seq ?_
       refine aw_region ?_
       refine al_op (op_eql rfl rfl) rfl (by simp) ?_
       refine al_op (op_assign rfl) rfl (by simp) ?_
       refine al_nil ?_
       refine aw_cond rfl (fun h29 => ?_) (fun h29 => ?_)
       ·have gh29 := h29
        try simp only [nrm] at h29
        refine aw_seq ?_
        refine aw_region ?_
        refine al_op (op_move rfl) rfl (by simp) ?_
        refine al_op (op_not rfl) rfl (by simp) ?_
        refine al_op (op_move rfl) rfl (by simp) ?_
        apply al_and 3 147 150 rfl
        ·intro h30; have gh30 := h30
         try simp only [nrm] at h30
         refine al_take (op_move rfl) rfl rfl rfl rfl (by simp) ?_
         refine al_take (op_eql rfl rfl) rfl rfl rfl rfl (by simp) ?_
         refine al_op (op_pick rfl rfl) rfl (by simp) ?_
         refine al_nil ⟨rfl, rfl, rfl, keep_of ?_⟩
         repeat (first | exact subx_refl | exact subx_known rfl gh30 subx_refl | refine subx_put rfl ?_)
        ·intro h30; have gh30 := h30
         try simp only [nrm] at h30
         refine al_pass rfl rfl rfl rfl (by simp) ?_
         refine al_pass rfl rfl rfl rfl (by simp) ?_
         refine al_op (op_pick rfl rfl) rfl (by simp) ?_
         refine al_nil ⟨rfl, rfl, rfl, keep_of ?_⟩
         repeat (first | exact subx_refl | exact subx_known rfl gh30 subx_refl | refine subx_put rfl ?_)
        refine al_op (op_move rfl) rfl (by simp) ?_
        apply al_and 3 151 154 rfl
        ·intro h31; have gh31 := h31
         try simp only [nrm] at h31
         refine al_take (op_move rfl) rfl rfl rfl rfl (by simp) ?_
         refine al_take (op_eql rfl rfl) rfl rfl rfl rfl (by simp) ?_
         refine al_op (op_pick rfl rfl) rfl (by simp) ?_
         refine al_nil ⟨rfl, rfl, rfl, keep_of ?_⟩
         repeat (first | exact subx_refl | exact subx_known rfl gh31 subx_refl | refine subx_put rfl ?_)
        ·intro h31; have gh31 := h31
         try simp only [nrm] at h31
         refine al_pass rfl rfl rfl rfl (by simp) ?_
         refine al_pass rfl rfl rfl rfl (by simp) ?_
         refine al_op (op_pick rfl rfl) rfl (by simp) ?_
         refine al_nil ⟨rfl, rfl, rfl, keep_of ?_⟩
         repeat (first | exact subx_refl | exact subx_known rfl gh31 subx_refl | refine subx_put rfl ?_)
        refine al_op (op_move rfl) rfl (by simp) ?_
        apply al_and 7 155 162 rfl
        ·intro h32; have gh32 := h32
         try simp only [nrm] at h32
         refine al_take (op_field_ptr Tryz.underlying37 rfl info31 (by decide) rfl rfl rfl) rfl rfl rfl rfl (by simp) ?_
         refine al_take (op_load_ptr Tryz.underlying31 info31 rfl rfl rfl rfl) rfl rfl rfl rfl (by simp) ?_
         refine al_take (val_as (.rptr (cellsE (e.kids.getD 0 default))) (op_index_map default Tryz.underlying31 info37 rfl rfl rfl (by first | (with_reducible exact Int.toNat_natCast _) | rfl) (by omega) (by omega)) (by exact congrArg AVal.rptr (encE_cells _))) rfl rfl rfl rfl (by simp) ?_
         refine al_take (op_field_rptr Tryz.underlying37 rfl info25 (by decide) rfl rfl) rfl rfl rfl rfl (by simp) ?_
         refine al_take (op_load_rptr Tryz.underlying25 info25 rfl rfl) rfl rfl rfl rfl (by simp) ?_
         refine al_take (op_neq rfl rfl) rfl rfl rfl rfl (by simp) ?_
         refine al_op (op_pick rfl rfl) rfl (by simp) ?_
         refine al_nil ⟨rfl, rfl, rfl, keep_of ?_⟩
         repeat (first | exact subx_refl | exact subx_known rfl gh32 subx_refl | refine subx_put rfl ?_)
        ·intro h32; have gh32 := h32
         try simp only [nrm] at h32
         refine al_pass rfl rfl rfl rfl (by simp) ?_
         refine al_pass rfl rfl rfl rfl (by simp) ?_
         refine al_pass rfl rfl rfl rfl (by simp) ?_
         refine al_pass rfl rfl rfl rfl (by simp) ?_
         refine al_pass rfl rfl rfl rfl (by simp) ?_
         refine al_pass rfl rfl rfl rfl (by simp) ?_
         refine al_op (op_pick rfl rfl) rfl (by simp) ?_
         refine al_nil ⟨rfl, rfl, rfl, keep_of ?_⟩
         repeat (first | exact subx_refl | exact subx_known rfl gh32 subx_refl | refine subx_put rfl ?_)
        refine al_op (op_assign rfl) rfl (by simp) ?_
        refine al_nil ?_
        refine aw_freeze (fun _ => false) (fsub_cons (t := 2) rfl (.leaf _ _ (.same _)) fsub_nil) ?_
        refine aw_ret ?_
        refine ⟨_, res_1 rfl rfl, ?_, rfl⟩
        rw [shapeP, gh4, gh5, gh10, gh14, gh17, gh20, gh29]; rfl
       ·have gh29 := h29
        try simp only [nrm] at h29
        refine aw_seq ?_
        refine aw_region ?_
        refine al_op (op_eql rfl rfl) rfl (by simp) ?_
        refine al_op (op_assign rfl) rfl (by simp) ?_
        refine al_nil ?_
        refine aw_cond rfl (fun h33 => ?_) (fun h33 => ?_)
        ·have gh33 := h33
         try simp only [nrm] at h33
         refine aw_seq ?_
         refine aw_region ?_
         refine al_op (op_move rfl) rfl (by simp) ?_
         refine al_op (op_not rfl) rfl (by simp) ?_
         refine al_op (op_move rfl) rfl (by simp) ?_
         apply al_and 3 167 170 rfl
         ·intro h34; have gh34 := h34
          try simp only [nrm] at h34
          refine al_take (op_move rfl) rfl rfl rfl rfl (by simp) ?_
          refine al_take (op_eql rfl rfl) rfl rfl rfl rfl (by simp) ?_
          refine al_op (op_pick rfl rfl) rfl (by simp) ?_
          refine al_nil ⟨rfl, rfl, rfl, keep_of ?_⟩
          repeat (first | exact subx_refl | exact subx_known rfl gh34 subx_refl | refine subx_put rfl ?_)
         ·intro h34; have gh34 := h34
          try simp only [nrm] at h34
          refine al_pass rfl rfl rfl rfl (by simp) ?_
          refine al_pass rfl rfl rfl rfl (by simp) ?_
          refine al_op (op_pick rfl rfl) rfl (by simp) ?_
          refine al_nil ⟨rfl, rfl, rfl, keep_of ?_⟩
          repeat (first | exact subx_refl | exact subx_known rfl gh34 subx_refl | refine subx_put rfl ?_)
         refine al_op (op_move rfl) rfl (by simp) ?_
         apply al_and 3 171 174 rfl
         ·intro h35; have gh35 := h35
          try simp only [nrm] at h35
          refine al_take (op_move rfl) rfl rfl rfl rfl (by simp) ?_
          refine al_take (op_eql rfl rfl) rfl rfl rfl rfl (by simp) ?_
          refine al_op (op_pick rfl rfl) rfl (by simp) ?_
          refine al_nil ⟨rfl, rfl, rfl, keep_of ?_⟩
          repeat (first | exact subx_refl | exact subx_known rfl gh35 subx_refl | refine subx_put rfl ?_)
         ·intro h35; have gh35 := h35
          try simp only [nrm] at h35
          refine al_pass rfl rfl rfl rfl (by simp) ?_
          refine al_pass rfl rfl rfl rfl (by simp) ?_
          refine al_op (op_pick rfl rfl) rfl (by simp) ?_
          refine al_nil ⟨rfl, rfl, rfl, keep_of ?_⟩
          repeat (first | exact subx_refl | exact subx_known rfl gh35 subx_refl | refine subx_put rfl ?_)
         refine al_op (op_assign rfl) rfl (by simp) ?_
         refine al_nil ?_
         refine aw_freeze (fun _ => false) (fsub_cons (t := 2) rfl (.leaf _ _ (.same _)) fsub_nil) ?_
         refine aw_ret ?_
         refine ⟨_, res_1 rfl rfl, ?_, rfl⟩
         rw [shapeP, gh4, gh5, gh10, gh14, gh17, gh20, gh29, gh33]; rfl
        ·have gh33 := h33
         try simp only [nrm] at h33
         refine aw_skip ?_
         refine aw_seq ?_
         refine aw_region ?_
         refine al_op (op_assign rfl) rfl (by simp) ?_
         refine al_nil ?_
         refine aw_freeze (fun _ => false) (fsub_cons (t := 2) rfl (.leaf _ _ (.same _)) fsub_nil) ?_
         refine aw_ret ?_
         refine ⟨_, res_1 rfl rfl, ?_, rfl⟩
         rw [shapeP, gh4, gh5, gh10, gh14, gh17, gh20, gh29, gh33]; rfl
end Go.Proofs.YtcgdlhkiecommaaGreatDoor

/- Printed walks (gen.py, lexer_ann.py): part 412. -/



set_option linter.unusedVariables false
set_option linter.unusedSimpArgs false
set_option maxRecDepth 20000
set_option maxHeartbeats 40000000
namespace Go.Proofs.YtcgdlhkiecommaaGreatDoor
open Go
theorem e_idxE (kids : List Ex) (hk : kids.length ≤ 1000000000) (v0 d : Nat) (hH : ∀ k ∈ kids, ∀ σ : Store, σ.get 0 = some (v0, .row 1 [[.v (.int .i64 ((d : Nat) : Int))]]) → σ.below 1000 = true → AC Tryz.prog 108 [.agg (cellsE (k)), .ptr 0 v0 0 0] σ (fun r σ' => r = .ret (.v (.bool (!(shapesP k (d + 1))))) ∧ σ' = σ)) : AC Tryz.prog 166 [.list 16 ((kids).map encE), .fn 108 [.ptr 0 v0 0 0]] ([(0, v0, .row 1 [[.v (.int .i64 ((d : Nat) : Int))]])]) (fun r σ' => r = .ret (.v (.int .i64 ((if kids.any (fun k => !(shapesP k (d + 1))) then ((kids.findIdx (fun k => !(shapesP k (d + 1))) : Nat) : Int) else -1)))) ∧ σ'.keep k0 = [(0, v0, .row 1 [[.v (.int .i64 ((d : Nat) : Int))]])]) := by
 refine ac_enter 19 Tryz.func166 rfl rfl (by simp) ?_
 refine aw_seq ?_
 refine aw_region ?_
 refine al_op (op_assign rfl) rfl (by simp) ?_
 refine al_nil ?_
 refine aw_seq ?_
 refine aw_seq ?_
 refine aw_region ?_
 refine al_op (op_move rfl) rfl (by simp) ?_
 refine al_op (op_len_map Tryz.underlying31 rfl) rfl (by simp) ?_
 refine al_op (op_move rfl) rfl (by simp) ?_
 refine al_nil ?_
 refine aw_block ?_
 refine aw_forT (ι := Nat) [4, 8] [] (fun i => kids.length - i) (fun i => i ≤ kids.length ∧ ∀ k, k < i → (fun k => !(shapesP k (d + 1))) (kids.getD k default) = false) (fun i => ([(8, .v (.int .i64 ((i : Nat) : Int)))] : Env)) (fun i s => s) (0) ?_ ?_ ?_ (fun i hinv => ?_)
 ·exact ⟨Nat.zero_le _, fun k hk => absurd hk (Nat.not_lt_zero k)⟩
 ·refine sub_cons (get_as rfl ?_) ?_; rotate_left; exact sub_nil
  all_goals (first | rfl | simp)
 ·rfl
 have hi := hinv.1
 refine aw_seq ?_
 refine aw_region ?_
 refine al_op (op_lss rfl rfl) rfl (by simp) ?_
 refine al_nil ?_
 refine aw_seq ?_
 refine aw_cond rfl (fun h1 => ?_) (fun h1 => ?_)
 ·have gh1 := h1
  try simp only [nrm] at h1
  refine aw_skip ?_
  refine aw_seq ?_
  refine aw_block ?_
  refine aw_seq ?_
  refine aw_region ?_
  refine al_op (op_move rfl) rfl (by simp) ?_
  refine al_op (op_assign rfl) rfl (by simp) ?_
  refine al_nil ?_
  refine aw_seq ?_
  refine aw_region ?_
  refine al_op (op_move rfl) rfl (by simp) ?_
  refine al_op (op_move rfl) rfl (by simp) ?_
  refine al_op (op_move rfl) rfl (by simp) ?_
  refine al_op (val_as (.rptr (cellsE (kids.getD i default))) (op_index_map default Tryz.underlying31 info37 rfl rfl rfl (by first | (with_reducible exact Int.toNat_natCast _) | rfl) (by omega) (by omega)) (by exact congrArg AVal.rptr (encE_cells _))) rfl (by simp) ?_
  refine al_op (op_load_rptr Tryz.underlying37 info37 rfl rfl) rfl (by simp) ?_
  refine al_callp into108 rfl rfl rfl (hH (kids.getD i default) (getD_mem (by omega)) _ rfl rfl) (by simp) ?_
  refine al_nil ?_
  refine aw_cond rfl (fun h2 => ?_) (fun h2 => ?_)
  ·have gh2 := h2
   try simp only [nrm] at h2
   refine aw_seq ?_
   refine aw_region ?_
   refine al_op (op_move rfl) rfl (by simp) ?_
   refine al_op (op_assign rfl) rfl (by simp) ?_
   refine al_nil ?_
   refine aw_ret ?_
   refine ⟨_, res_1 rfl rfl, ?_⟩
   rw [if_pos (any_found i (by omega) gh2), findIdx_at i (by omega) hinv.2 gh2]; exact ⟨rfl, rfl⟩
  ·have gh2 := h2
   try simp only [nrm] at h2
   refine aw_skip ?_
   refine aw_region ?_
   refine al_op (op_add rfl rfl (by first | exact wrap_i64 (by omega) (by omega))) rfl (by simp) ?_
   refine al_op (op_move rfl) rfl (by simp) ?_
   refine al_nil ?_
   refine ⟨i + 1, ?_, ?_, ?_, ?_, ?_⟩
   ·omega
   ·exact ⟨by omega, idx_more (p := fun k => (fun k => !(shapesP k (d + 1))) (kids.getD k default)) hinv.2 gh2⟩
   ·refine sub_cons (get_as rfl ?_) ?_; rotate_left; exact sub_nil
    all_goals (first | rfl | simp)
   ·repeat (first | exact subx_refl | exact subx_del | refine subx_put rfl ?_)
   ·rfl
 ·have gh1 := h1
  try simp only [nrm] at h1
  refine aw_exit ?_
  refine aw_seq ?_
  refine aw_region ?_
  refine al_op (op_assign rfl) rfl (by simp) ?_
  refine al_nil ?_
  refine aw_ret ?_
  refine ⟨_, res_1 rfl rfl, ?_⟩
  rw [if_neg (by rw [any_none (p := fun k => !(shapesP k (d + 1))) (fun k hk => hinv.2 k (by omega))]; exact Bool.false_ne_true)]; exact ⟨rfl, rfl⟩
theorem e_conE (kids : List Ex) (hk : kids.length ≤ 1000000000) (v0 d : Nat) (hH : ∀ k ∈ kids, ∀ σ : Store, σ.get 0 = some (v0, .row 1 [[.v (.int .i64 ((d : Nat) : Int))]]) → σ.below 1000 = true → AC Tryz.prog 108 [.agg (cellsE (k)), .ptr 0 v0 0 0] σ (fun r σ' => r = .ret (.v (.bool (!(shapesP k (d + 1))))) ∧ σ' = σ)) : AC Tryz.prog 107 [.list 16 ((kids).map encE), .fn 108 [.ptr 0 v0 0 0]] ([(0, v0, .row 1 [[.v (.int .i64 ((d : Nat) : Int))]])]) (fun r σ' => r = .ret (.v (.bool (kids.any (fun k => !(shapesP k (d + 1)))))) ∧ σ'.keep k0 = [(0, v0, .row 1 [[.v (.int .i64 ((d : Nat) : Int))]])]) := by
 refine ac_enter 9 Tryz.func107 rfl rfl (by simp) ?_
 refine aw_seq ?_
 refine aw_region ?_
 refine al_op (op_assign rfl) rfl (by simp) ?_
 refine al_nil ?_
 refine aw_seq ?_
 refine aw_region ?_
 refine al_op (op_move rfl) rfl (by simp) ?_
 refine al_op (op_move rfl) rfl (by simp) ?_
 refine al_callp into166 rfl rfl rfl (one_look 0 (by decide) rfl rfl (e_idxE kids hk v0 d hH) rfl rfl) (by simp) ?_
 refine al_op (op_geq rfl rfl) rfl (by simp) ?_
 refine al_op (op_assign rfl) rfl (by simp) ?_
 refine al_nil ?_
 refine aw_ret ?_
 refine ⟨_, res_1 rfl rfl, ?_⟩
 refine ⟨?_, rfl⟩
 cases hany : kids.any (fun k => !(shapesP k (d + 1))) <;> simp <;> omega
theorem e_shapes1 (k : Ex) (v0 d : Nat) (hd : d ≤ 20000) (ih : ACp Tryz.prog 56 [.agg (cellsE (k)), .v (.int .i64 ((d + 1 : Nat) : Int))] (.v (.bool (shapesP k (d + 1))))) : AC Tryz.prog 108 [.agg (cellsE (k)), .ptr 0 v0 0 0] ([(0, v0, .row 1 [[.v (.int .i64 ((d : Nat) : Int))]])]) (fun r σ' => r = .ret (.v (.bool (!(shapesP k (d + 1))))) ∧ σ'.keep k0 = [(0, v0, .row 1 [[.v (.int .i64 ((d : Nat) : Int))]])]) := by
 refine ac_enter 9 Tryz.func108 rfl rfl (by simp) ?_
 refine aw_seq ?_
 refine aw_region ?_
 (refine al_opR (op_box 2 rfl rfl (by first | rfl | exact live_one rfl | (repeat (first | exact all_live_nil | refine all_live_clo rfl ?_ | refine all_live_slice rfl ?_ | refine all_live_map rfl ?_ | refine all_live_ptr rfl ?_)))) rfl (by simp) ?_; rintro _ _ ⟨ver2, rfl, rfl⟩)
 refine al_op (op_assign rfl) rfl (by simp) ?_
 refine al_nil ?_
 refine aw_seq ?_
 refine aw_region ?_
 refine al_op (op_load_ptr Tryz.underlying37 info37 rfl rfl rfl rfl) rfl (by simp) ?_
 refine al_op (op_load_ptr Tryz.underlying3 info3 rfl rfl rfl rfl) rfl (by simp) ?_
 refine al_op (op_add rfl rfl (by first | exact wrap_i64 (by omega) (by omega))) rfl (by simp) ?_
 refine al_callp into56 rfl rfl rfl (ih _) (by simp) ?_
 refine al_op (op_not rfl) rfl (by simp) ?_
 refine al_op (op_assign rfl) rfl (by simp) ?_
 refine al_nil ?_
 refine aw_ret ?_
 refine ⟨_, res_1 rfl rfl, ?_⟩
 exact ⟨rfl, rfl⟩
theorem e_shapesS (e : Ex) (hz : szE e = true) (d : Nat) (ih : ∀ k ∈ e.kids, ∀ d, ACp Tryz.prog 56 [.agg (cellsE (k)), .v (.int .i64 ((d : Nat) : Int))] (.v (.bool (shapesP k d)))) : ACp Tryz.prog 56 [.agg (cellsE (e)), .v (.int .i64 ((d : Nat) : Int))] (.v (.bool (shapesP e d))) := by
 refine acp_of rfl ?_
 obtain ⟨z1, z2, z3, z4, z5⟩ := szE_facts hz
 refine ac_enter 18 Tryz.func56 rfl rfl (by simp) ?_
 refine aw_seq ?_
 refine aw_region ?_
 (refine al_opR (op_box 2 rfl rfl (by first | rfl | exact live_one rfl | (repeat (first | exact all_live_nil | refine all_live_clo rfl ?_ | refine all_live_slice rfl ?_ | refine all_live_map rfl ?_ | refine all_live_ptr rfl ?_)))) rfl (by simp) ?_; rintro _ _ ⟨ver2, rfl, rfl⟩)
 (refine al_opR (op_box 3 rfl rfl (by first | rfl | exact live_one rfl | (repeat (first | exact all_live_nil | refine all_live_clo rfl ?_ | refine all_live_slice rfl ?_ | refine all_live_map rfl ?_ | refine all_live_ptr rfl ?_)))) rfl (by simp) ?_; rintro _ _ ⟨ver3, rfl, rfl⟩)
 refine al_op (op_assign rfl) rfl (by simp) ?_
 refine al_nil ?_
 refine aw_seq ?_
 refine aw_region ?_
 refine al_op (op_load_ptr Tryz.underlying3 info3 rfl rfl rfl rfl) rfl (by simp) ?_
 refine al_op (op_leq rfl rfl) rfl (by simp) ?_
 refine al_op (op_move rfl) rfl (by simp) ?_
 apply al_and 3 7 10 rfl
 ·intro h1; have gh1 := h1
  try simp only [nrm] at h1
  refine al_take (op_load_ptr Tryz.underlying37 info37 rfl rfl rfl rfl) rfl rfl rfl rfl (by simp) ?_
  refine al_callp_take into106 rfl rfl rfl rfl rfl rfl ((e_shape _ (by first | assumption | omega) (by first | assumption | omega)) _) (by simp) ?_
  refine al_op (op_pick rfl rfl) rfl (by simp) ?_
  refine al_nil ⟨rfl, rfl, rfl, keep_of ?_⟩
  repeat (first | exact subx_refl | exact subx_known rfl gh1 subx_refl | refine subx_put rfl ?_)
 ·intro h1; have gh1 := h1
  try simp only [nrm] at h1
  refine al_pass rfl rfl rfl rfl (by simp) ?_
  refine al_pass rfl rfl rfl rfl (by simp) ?_
  refine al_op (op_pick rfl rfl) rfl (by simp) ?_
  refine al_nil ⟨rfl, rfl, rfl, keep_of ?_⟩
  repeat (first | exact subx_refl | exact subx_known rfl gh1 subx_refl | refine subx_put rfl ?_)
 refine al_op (op_move rfl) rfl (by simp) ?_
 apply al_and 6 11 17 rfl
 ·intro h2; have gh2 := h2
  try simp only [nrm] at h2
  refine al_take (op_field_ptr Tryz.underlying37 rfl info31 (by decide) rfl rfl rfl) rfl rfl rfl rfl (by simp) ?_
  refine al_take (op_load_ptr Tryz.underlying31 info31 rfl rfl rfl rfl) rfl rfl rfl rfl (by simp) ?_
  refine al_take (op_closure rfl rfl) rfl rfl rfl rfl (by simp) ?_
  refine al_callp_take into107 rfl rfl rfl rfl rfl rfl (one_look 3 (by decide) rfl rfl (e_conE e.kids z3 ver3 d (fun k hk σ h1 h2 => one_look 0 (by decide) rfl rfl (e_shapes1 k ver3 d (by omega) (ih k hk (d + 1))) h1 h2)) rfl rfl) (by simp) ?_
  refine al_take (op_not rfl) rfl rfl rfl rfl (by simp) ?_
  refine al_op (op_pick rfl rfl) rfl (by simp) ?_
  refine al_nil ⟨rfl, rfl, rfl, keep_of ?_⟩
  repeat (first | exact subx_refl | exact subx_known rfl gh2 subx_refl | refine subx_put rfl ?_)
 ·intro h2; have gh2 := h2
  try simp only [nrm] at h2
  refine al_pass rfl rfl rfl rfl (by simp) ?_
  refine al_pass rfl rfl rfl rfl (by simp) ?_
  refine al_pass rfl rfl rfl rfl (by simp) ?_
  refine al_pass rfl rfl rfl rfl (by simp) ?_
  refine al_pass rfl rfl rfl rfl (by simp) ?_
  refine al_op (op_pick rfl rfl) rfl (by simp) ?_
  refine al_nil ⟨rfl, rfl, rfl, keep_of ?_⟩
  repeat (first | exact subx_refl | exact subx_known rfl gh2 subx_refl | refine subx_put rfl ?_)
 refine al_op (op_assign rfl) rfl (by simp) ?_
 refine al_nil ?_
 refine aw_freeze (fun _ => false) (fsub_cons (t := 4) rfl (.leaf _ _ (.same _)) fsub_nil) ?_
 refine aw_ret ?_
 refine ⟨_, res_1 rfl rfl, ?_, rfl⟩
 rw [shapesP_eq] <;> rfl
theorem e_shapes (e : Ex) : szE e = true → ∀ d, ACp Tryz.prog 56 [.agg (cellsE (e)), .v (.int .i64 ((d : Nat) : Int))] (.v (.bool (shapesP e d))) := by
  induction e using Ex.ind with
  | h e ih =>
    intro hz d
    obtain ⟨z1, z2, z3, z4, z5⟩ := szE_facts hz
    exact e_shapesS e hz d (fun k hk d => ih k hk (z5 k hk) d)
end Go.Proofs.YtcgdlhkiecommaaGreatDoor
