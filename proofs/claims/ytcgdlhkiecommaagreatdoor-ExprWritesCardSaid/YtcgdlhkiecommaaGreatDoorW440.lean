import Derived.Test.YtcgdlhkiecommaaGreatDoorW435
import Derived.Test.YtcgdlhkiecommaaGreatDoorFacts
import Derived.Test.YtcgdlhkiecommaaGreatDoorEngStr
import Derived.Test.YtcgdlhkiecommaaGreatDoorXSame2


import Derived.Test.YtcgdlhkiecommaaGreatDoorXBt
/- Printed walks (gen.py, lexer_ann.py): part 436. -/



set_option linter.unusedVariables false
set_option linter.unusedSimpArgs false
set_option maxRecDepth 20000
set_option maxHeartbeats 40000000
namespace Go.Proofs.YtcgdlhkiecommaaGreatDoor
open Go
theorem r_tokensS (e : Ex) (hz : szE e = true) (hf : formP e = true) (hL : (toks e).length ≤ 1000000000) (ih : ∀ k ∈ e.kids, (toks k).length ≤ 1000000000 → TKN Tryz.prog 104 [.agg (cellsE (k))] (toks k)) : AC Tryz.prog 104 [.agg (cellsE (e))] ([]) (fun r σ' => ∃ ver, r = .ret (.slice 0 ver 0 (toks e).length) ∧ σ'.keep (fun i => i == 0) = [(0, ver, .row 5 ((toks e).map encK))]) := by
 obtain ⟨z1, z2, z3, z4, z5⟩ := szE_facts hz
 refine ace 126 Tryz.func104 ?_
 refine aw_sr ?_
 refine al_bx 1 fun ver1 => ?_
 refine al_gs ?_
 refine al_sr ?_
 refine al_gs ?_
 refine al_nil ?_
 refine aw_seq ?_
 refine aw_sr ?_
 refine al_fp Tryz.underlying37 info25 ?_
 refine al_ld Tryz.underlying25 info25 ?_
 refine al_nil ?_
 refine aw_block ?_
 refine aw_sr ?_
 refine al_eq ?_
 refine al_gs ?_
 refine al_nil ?_
 refine aw_cond rfl (fun h1 => ?_) (fun h1 => ?_)
 ·have gh1 := h1
  simp only [nrm] at h1
  refine aw_sr ?_
  refine al_fp Tryz.underlying37 info3 ?_
  refine al_ld Tryz.underlying3 info3 ?_
  refine al_op (op_bs Tryz.underlying65 info65 place65) rfl (by simp) ?_
  (refine al_opR (op_list_own encK [⟨3, [], e.n, 0, 0⟩] 0 Tryz.underlying22 info65 rfl rfl (by decide) rfl (by decide) rfl (by first | rfl | (repeat (first | exact parts_nil | refine parts_cons rfl (by repeat (first | exact all_live_nil | refine all_live_clo rfl ?_ | refine all_live_slice rfl ?_ | refine all_live_map rfl ?_ | refine all_live_ptr rfl ?_)) ?_))) rfl rfl (by first | rfl | (repeat (first | exact parts_nil | refine parts_cons rfl (by repeat (first | exact all_live_nil | refine all_live_clo rfl ?_ | refine all_live_slice rfl ?_ | refine all_live_map rfl ?_ | refine all_live_ptr rfl ?_)) ?_))) rfl rfl) rfl (by simp) ?_; rintro _ _ ⟨ver12, rfl, rfl⟩)
  refine al_gs ?_
  refine al_nil ?_
  refine aw_ret ?_
  refine ⟨_, res_1 rfl rfl, ?_⟩
  rw [(toks_int gh1).1]; exact ⟨ver12, rfl, rfl⟩
 have gh1 := h1
 simp only [nrm] at h1
 refine aw_sr ?_
 refine al_eq ?_
 refine al_gs ?_
 refine al_nil ?_
 refine aw_cond rfl (fun h2 => ?_) (fun h2 => ?_)
 ·have gh2 := h2
  simp only [nrm] at h2
  refine aw_sr ?_
  refine al_fp Tryz.underlying37 info26 ?_
  refine al_ld Tryz.underlying26 info26 ?_
  refine al_callp into159 rfl rfl rfl (r_letters e.bits z2 z4 (form_bits2 hf gh2) _) (by simp) ?_
  refine al_op (op_bs Tryz.underlying65 info65 place65) rfl (by simp) ?_
  (refine al_opR (op_list_own encK [⟨4, bitsT e.bits, 0, 0, 0⟩] 0 Tryz.underlying22 info65 rfl rfl (by decide) rfl (by decide) rfl (by first | rfl | (repeat (first | exact parts_nil | refine parts_cons rfl (by repeat (first | exact all_live_nil | refine all_live_clo rfl ?_ | refine all_live_slice rfl ?_ | refine all_live_map rfl ?_ | refine all_live_ptr rfl ?_)) ?_))) rfl rfl (by first | rfl | (repeat (first | exact parts_nil | refine parts_cons rfl (by repeat (first | exact all_live_nil | refine all_live_clo rfl ?_ | refine all_live_slice rfl ?_ | refine all_live_map rfl ?_ | refine all_live_ptr rfl ?_)) ?_))) rfl rfl) rfl (by simp) ?_; rintro _ _ ⟨ver19, rfl, rfl⟩)
  refine al_gs ?_
  refine al_nil ?_
  refine aw_ret ?_
  refine ⟨_, res_1 rfl rfl, ?_⟩
  rw [(toks_bit gh1 gh2).1]; exact ⟨ver19, rfl, rfl⟩
 have gh2 := h2
 simp only [nrm] at h2
 refine aw_sr ?_
 refine al_eq ?_
 refine al_gs ?_
 refine al_nil ?_
 refine aw_cond rfl (fun h3 => ?_) (fun h3 => ?_)
 ·have gh3 := h3
  simp only [nrm] at h3
  refine aw_sr ?_
  refine al_fp Tryz.underlying37 info26 ?_
  refine al_ld Tryz.underlying26 info26 ?_
  refine al_callp into159 rfl rfl rfl (r_letters e.bits z2 z4 (form_bits3 hf gh3) _) (by simp) ?_
  refine al_op (op_bs Tryz.underlying65 info65 place65) rfl (by simp) ?_
  (refine al_opR (op_list_own encK [⟨5, bitsT e.bits, 0, 0, 0⟩] 0 Tryz.underlying22 info65 rfl rfl (by decide) rfl (by decide) rfl (by first | rfl | (repeat (first | exact parts_nil | refine parts_cons rfl (by repeat (first | exact all_live_nil | refine all_live_clo rfl ?_ | refine all_live_slice rfl ?_ | refine all_live_map rfl ?_ | refine all_live_ptr rfl ?_)) ?_))) rfl rfl (by first | rfl | (repeat (first | exact parts_nil | refine parts_cons rfl (by repeat (first | exact all_live_nil | refine all_live_clo rfl ?_ | refine all_live_slice rfl ?_ | refine all_live_map rfl ?_ | refine all_live_ptr rfl ?_)) ?_))) rfl rfl) rfl (by simp) ?_; rintro _ _ ⟨ver26, rfl, rfl⟩)
  refine al_gs ?_
  refine al_nil ?_
  refine aw_ret ?_
  refine ⟨_, res_1 rfl rfl, ?_⟩
  rw [(toks_vec gh1 gh2 gh3).1]; exact ⟨ver26, rfl, rfl⟩
 have gh3 := h3
 simp only [nrm] at h3
 refine aw_sr ?_
 refine al_eq ?_
 refine al_gs ?_
 refine al_nil ?_
 refine aw_cond rfl (fun h4 => ?_) (fun h4 => ?_)
 ·have gh4 := h4
  simp only [nrm] at h4
  refine aw_sr ?_
  refine al_fp Tryz.underlying37 info9 ?_
  refine al_ld Tryz.underlying9 info9 ?_
  refine al_op (op_bs Tryz.underlying65 info65 place65) rfl (by simp) ?_
  (refine al_opR (op_list_own encK [tkN e.name] 0 Tryz.underlying22 info65 rfl rfl (by decide) rfl (by decide) rfl (by first | rfl | (repeat (first | exact parts_nil | refine parts_cons rfl (by repeat (first | exact all_live_nil | refine all_live_clo rfl ?_ | refine all_live_slice rfl ?_ | refine all_live_map rfl ?_ | refine all_live_ptr rfl ?_)) ?_))) rfl rfl (by first | rfl | (repeat (first | exact parts_nil | refine parts_cons rfl (by repeat (first | exact all_live_nil | refine all_live_clo rfl ?_ | refine all_live_slice rfl ?_ | refine all_live_map rfl ?_ | refine all_live_ptr rfl ?_)) ?_))) rfl rfl) rfl (by simp) ?_; rintro _ _ ⟨ver32, rfl, rfl⟩)
  refine al_gs ?_
  refine al_nil ?_
  refine aw_ret ?_
  refine ⟨_, res_1 rfl rfl, ?_⟩
  rw [(toks_name gh1 gh2 gh3 gh4).1]; exact ⟨ver32, rfl, rfl⟩
 have gh4 := h4
 simp only [nrm] at h4
 refine aw_sr ?_
 refine al_eq ?_
 refine al_gs ?_
 refine al_nil ?_
 refine aw_cond rfl (fun h5 => ?_) (fun h5 => ?_)
 ·have gh5 := h5
  simp only [nrm] at h5
  have hk := kids_6 hf gh5
  have ht := tokQ_index hf (by simpa using gh5) hk
  have hL2 := hL
  rw [← ht] at hL2
  simp only [List.length_append, List.length_cons, List.length_nil] at hL2
  refine aw_seq ?_
  refine aw_plan [0, 5, 1, 2, 3, 4, 6, 7, 8] (Checked.mixed Tryz.checked) (by kernel_rfl) ?_
  refine afl_float rfl rfl (opk_of (op_load_ptr Tryz.underlying37 info37 rfl rfl rfl rfl)) (by simp) ?_
  refine afl_float rfl rfl (opk_of (op_load_ptr Tryz.underlying37 info37 rfl rfl rfl rfl)) (by simp) ?_
  (refine afl_call rfl (by kernel_rfl) into160 rfl rfl rfl (tkn_at 0 (by decide) rfl (r_kid e hz 0 (by omega) (ih _ (getD_mem (by omega)) (by have := kidQ_len e 0; omega)) (by omega)) rfl rfl) (by simp) ?_; rintro _ _ ⟨ver36, rfl, rfl⟩; refine ⟨_, rfl, ?_, ?_⟩)
  ·
   refine loose_k rfl (opk_of (op_load_ptr Tryz.underlying37 info37 rfl rfl rfl rfl)) ?_
   refine loose_anc 0 rfl (by kernel_rfl) ?_
   exact loose_nil
  refine afl_float rfl rfl (opk_call into117 rfl rfl rfl ((r_sign _) _)) (by simp) ?_
  refine afl_float rfl rfl (opk_of (op_list encK [tkO] Tryz.underlying22 info65 rfl rfl (by decide) rfl (by decide) rfl (by first | rfl | (repeat (first | exact parts_nil | refine parts_cons rfl (by repeat (first | exact all_live_nil | refine all_live_clo rfl ?_ | refine all_live_slice rfl ?_ | refine all_live_map rfl ?_ | refine all_live_ptr rfl ?_)) ?_))) rfl rfl rfl rfl)) (by simp) ?_
  (refine afl_effR rfl rfl (by kernel_rfl) (op_am Tryz.underlying22 Tryz.underlying22 info65 48) (by simp) ?_; rintro _ _ ⟨ver39, rfl, rfl⟩; refine ⟨?_, ?_⟩)
  ·
   refine loose_anc 3 rfl (by kernel_rfl) ?_
   refine loose_anc 2 rfl (by kernel_rfl) ?_
   refine loose_fix rfl ?_
   refine loose_k rfl (opk_of (op_load_ptr Tryz.underlying37 info37 rfl rfl rfl rfl)) ?_
   refine loose_anc 0 rfl (by kernel_rfl) ?_
   exact loose_nil
  (refine afl_call rfl (by kernel_rfl) into160 rfl rfl rfl (tkn_at 41 (by decide) rfl (r_kid e hz 1 (by omega) (ih _ (getD_mem (by omega)) (by have := kidQ_len e 1; omega)) (by omega)) rfl rfl) (by simp) ?_; rintro _ _ ⟨ver41, rfl, rfl⟩; refine ⟨_, rfl, ?_, ?_⟩)
  ·
   refine loose_fix rfl ?_
   refine loose_anc 3 rfl (by kernel_rfl) ?_
   refine loose_anc 2 rfl (by kernel_rfl) ?_
   refine loose_fix rfl ?_
   refine loose_anc 5 rfl (by kernel_rfl) ?_
   refine loose_anc 0 rfl (by kernel_rfl) ?_
   exact loose_nil
  (refine afl_effR rfl rfl (by kernel_rfl) (op_am Tryz.underlying22 Tryz.underlying22 info65 48) (by simp) ?_; rintro _ _ ⟨ver42, rfl, rfl⟩; refine ⟨?_, ?_⟩)
  ·
   refine loose_fix rfl ?_
   refine loose_fix rfl ?_
   refine loose_anc 3 rfl (by kernel_rfl) ?_
   refine loose_anc 2 rfl (by kernel_rfl) ?_
   refine loose_fix rfl ?_
   refine loose_anc 5 rfl (by kernel_rfl) ?_
   refine loose_anc 0 rfl (by kernel_rfl) ?_
   exact loose_nil
  refine afl_float rfl rfl (opk_of (op_assign rfl)) (by simp) ?_
  refine afl_end ?_
  refine aw_sr ?_
  refine al_mv ?_
  refine al_callp into117 rfl rfl rfl ((r_sign _) _) (by simp) ?_
  refine al_op (op_list encK [tkC] Tryz.underlying22 info65 rfl rfl (by decide) rfl (by decide) rfl (by first | rfl | (repeat (first | exact parts_nil | refine parts_cons rfl (by repeat (first | exact all_live_nil | refine all_live_clo rfl ?_ | refine all_live_slice rfl ?_ | refine all_live_map rfl ?_ | refine all_live_ptr rfl ?_)) ?_))) rfl rfl rfl rfl) rfl (by simp) ?_
  (refine al_opR (op_am Tryz.underlying22 Tryz.underlying22 info65 48) rfl (by simp) ?_; rintro _ _ ⟨ver46, rfl, rfl⟩)
  refine al_gs ?_
  refine al_nil ?_
  refine aw_ret ?_
  refine ⟨_, res_1 rfl rfl, ?_⟩
  rw [← ht]; exact ⟨ver46, rfl, rfl⟩
 have gh5 := h5
 simp only [nrm] at h5
 refine aw_sr ?_
 refine al_eq ?_
 refine al_gs ?_
 refine al_nil ?_
 refine aw_cond rfl (fun h6 => ?_) (fun h6 => ?_)
 ·have gh6 := h6
  simp only [nrm] at h6
  have hk := kids_7 hf gh6
  have ht := tokQ_slice hf (by simpa using gh6) hk
  have hL2 := hL
  rw [← ht] at hL2
  simp only [List.length_append, List.length_cons, List.length_nil] at hL2
  refine aw_seq ?_
  refine aw_plan [0, 5, 1, 2, 3, 4, 6, 7, 8] (Checked.mixed Tryz.checked) (by kernel_rfl) ?_
  refine afl_float rfl rfl (opk_of (op_load_ptr Tryz.underlying37 info37 rfl rfl rfl rfl)) (by simp) ?_
  refine afl_float rfl rfl (opk_of (op_load_ptr Tryz.underlying37 info37 rfl rfl rfl rfl)) (by simp) ?_
  (refine afl_call rfl (by kernel_rfl) into160 rfl rfl rfl (tkn_at 0 (by decide) rfl (r_kid e hz 0 (by omega) (ih _ (getD_mem (by omega)) (by have := kidQ_len e 0; omega)) (by omega)) rfl rfl) (by simp) ?_; rintro _ _ ⟨ver50, rfl, rfl⟩; refine ⟨_, rfl, ?_, ?_⟩)
  ·
   refine loose_k rfl (opk_of (op_load_ptr Tryz.underlying37 info37 rfl rfl rfl rfl)) ?_
   refine loose_anc 0 rfl (by kernel_rfl) ?_
   exact loose_nil
  refine afl_float rfl rfl (opk_call into117 rfl rfl rfl ((r_sign _) _)) (by simp) ?_
  refine afl_float rfl rfl (opk_of (op_list encK [tkO] Tryz.underlying22 info65 rfl rfl (by decide) rfl (by decide) rfl (by first | rfl | (repeat (first | exact parts_nil | refine parts_cons rfl (by repeat (first | exact all_live_nil | refine all_live_clo rfl ?_ | refine all_live_slice rfl ?_ | refine all_live_map rfl ?_ | refine all_live_ptr rfl ?_)) ?_))) rfl rfl rfl rfl)) (by simp) ?_
  (refine afl_effR rfl rfl (by kernel_rfl) (op_am Tryz.underlying22 Tryz.underlying22 info65 48) (by simp) ?_; rintro _ _ ⟨ver53, rfl, rfl⟩; refine ⟨?_, ?_⟩)
  ·
   refine loose_anc 3 rfl (by kernel_rfl) ?_
   refine loose_anc 2 rfl (by kernel_rfl) ?_
   refine loose_fix rfl ?_
   refine loose_k rfl (opk_of (op_load_ptr Tryz.underlying37 info37 rfl rfl rfl rfl)) ?_
   refine loose_anc 0 rfl (by kernel_rfl) ?_
   exact loose_nil
  (refine afl_call rfl (by kernel_rfl) into160 rfl rfl rfl (tkn_at 55 (by decide) rfl (r_kid e hz 1 (by omega) (ih _ (getD_mem (by omega)) (by have := kidQ_len e 1; omega)) (by omega)) rfl rfl) (by simp) ?_; rintro _ _ ⟨ver55, rfl, rfl⟩; refine ⟨_, rfl, ?_, ?_⟩)
  ·
   refine loose_fix rfl ?_
   refine loose_anc 3 rfl (by kernel_rfl) ?_
   refine loose_anc 2 rfl (by kernel_rfl) ?_
   refine loose_fix rfl ?_
   refine loose_anc 5 rfl (by kernel_rfl) ?_
   refine loose_anc 0 rfl (by kernel_rfl) ?_
   exact loose_nil
  (refine afl_effR rfl rfl (by kernel_rfl) (op_am Tryz.underlying22 Tryz.underlying22 info65 48) (by simp) ?_; rintro _ _ ⟨ver56, rfl, rfl⟩; refine ⟨?_, ?_⟩)
  ·
   refine loose_fix rfl ?_
   refine loose_fix rfl ?_
   refine loose_anc 3 rfl (by kernel_rfl) ?_
   refine loose_anc 2 rfl (by kernel_rfl) ?_
   refine loose_fix rfl ?_
   refine loose_anc 5 rfl (by kernel_rfl) ?_
   refine loose_anc 0 rfl (by kernel_rfl) ?_
   exact loose_nil
  refine afl_float rfl rfl (opk_of (op_assign rfl)) (by simp) ?_
  refine afl_end ?_
  refine aw_seq ?_
  refine aw_plan [0, 1, 2, 4, 3, 5, 6, 7] (Checked.mixed Tryz.checked) (by kernel_rfl) ?_
  refine afl_float rfl rfl (opk_of (op_move rfl)) (by simp) ?_
  refine afl_float rfl rfl (opk_call into116 rfl rfl rfl (r_word sDownto (by decide) _)) (by simp) ?_
  refine afl_float rfl rfl (opk_of (op_list encK [tkS sDownto] Tryz.underlying22 info65 rfl rfl (by decide) rfl (by decide) rfl (by first | rfl | (repeat (first | exact parts_nil | refine parts_cons rfl (by repeat (first | exact all_live_nil | refine all_live_clo rfl ?_ | refine all_live_slice rfl ?_ | refine all_live_map rfl ?_ | refine all_live_ptr rfl ?_)) ?_))) rfl rfl rfl rfl)) (by simp) ?_
  refine afl_float rfl rfl (opk_of (op_load_ptr Tryz.underlying37 info37 rfl rfl rfl rfl)) (by simp) ?_
  (refine afl_effR rfl rfl (by kernel_rfl) (op_am Tryz.underlying22 Tryz.underlying22 info65 48) (by simp) ?_; rintro _ _ ⟨ver60, rfl, rfl⟩; refine ⟨?_, ?_⟩)
  ·
   refine loose_k rfl (opk_of (op_load_ptr Tryz.underlying37 info37 rfl rfl rfl rfl)) ?_
   refine loose_anc 2 rfl (by kernel_rfl) ?_
   refine loose_anc 1 rfl (by kernel_rfl) ?_
   refine loose_anc 0 rfl (by kernel_rfl) ?_
   exact loose_nil
  (refine afl_call rfl (by kernel_rfl) into160 rfl rfl rfl (tkn_at 62 (by decide) rfl (r_kid e hz 2 (by omega) (ih _ (getD_mem (by omega)) (by have := kidQ_len e 2; omega)) (by omega)) rfl rfl) (by simp) ?_; rintro _ _ ⟨ver62, rfl, rfl⟩; refine ⟨_, rfl, ?_, ?_⟩)
  ·
   refine loose_fix rfl ?_
   refine loose_anc 4 rfl (by kernel_rfl) ?_
   refine loose_anc 2 rfl (by kernel_rfl) ?_
   refine loose_anc 1 rfl (by kernel_rfl) ?_
   refine loose_anc 0 rfl (by kernel_rfl) ?_
   exact loose_nil
  (refine afl_effR rfl rfl (by kernel_rfl) (op_am Tryz.underlying22 Tryz.underlying22 info65 48) (by simp) ?_; rintro _ _ ⟨ver63, rfl, rfl⟩; refine ⟨?_, ?_⟩)
  ·
   refine loose_fix rfl ?_
   refine loose_fix rfl ?_
   refine loose_anc 4 rfl (by kernel_rfl) ?_
   refine loose_anc 2 rfl (by kernel_rfl) ?_
   refine loose_anc 1 rfl (by kernel_rfl) ?_
   refine loose_anc 0 rfl (by kernel_rfl) ?_
   exact loose_nil
  refine afl_float rfl rfl (opk_of (op_assign rfl)) (by simp) ?_
  refine afl_end ?_
  refine aw_sr ?_
  refine al_mv ?_
  refine al_callp into117 rfl rfl rfl ((r_sign _) _) (by simp) ?_
  refine al_op (op_list encK [tkC] Tryz.underlying22 info65 rfl rfl (by decide) rfl (by decide) rfl (by first | rfl | (repeat (first | exact parts_nil | refine parts_cons rfl (by repeat (first | exact all_live_nil | refine all_live_clo rfl ?_ | refine all_live_slice rfl ?_ | refine all_live_map rfl ?_ | refine all_live_ptr rfl ?_)) ?_))) rfl rfl rfl rfl) rfl (by simp) ?_
  (refine al_opR (op_am Tryz.underlying22 Tryz.underlying22 info65 48) rfl (by simp) ?_; rintro _ _ ⟨ver67, rfl, rfl⟩)
  refine al_gs ?_
  refine al_nil ?_
  refine aw_ret ?_
  refine ⟨_, res_1 rfl rfl, ?_⟩
  rw [← ht]; exact ⟨ver67, rfl, rfl⟩
 have gh6 := h6
 simp only [nrm] at h6
 refine aw_skip ?_
 refine aw_seq ?_
 refine aw_block ?_
 refine aw_sr ?_
 refine al_fp Tryz.underlying37 info9 ?_
 refine al_ld Tryz.underlying9 info9 ?_
 refine al_callp into67 rfl rfl rfl (r_isName e.name (by omega) _) (by simp) ?_
 refine al_gs ?_
 refine al_nil ?_
 refine aw_cond rfl (fun gh7 => ?_) (fun gh7 => ?_)
 ·have h5 := op_5 hf gh1 gh2 gh3 gh4 gh5 gh6
  have hk := kids_call hf h5 gh7
  have ht := tokQ_call hf h5 gh7 hk
  have hL2 := hL
  rw [← ht] at hL2
  simp only [List.length_append, List.length_cons, List.length_nil] at hL2
  refine aw_seq ?_
  refine aw_own_map encK 0 5 3 rfl rfl (fun ver3 => ?_)
  refine aw_region ?_
  refine al_mv ?_
  refine al_fp Tryz.underlying37 info9 ?_
  refine al_ld Tryz.underlying9 info9 ?_
  refine al_op (op_bs Tryz.underlying65 info65 place65) rfl (by simp) ?_
  refine al_op (op_list encK [tkN e.name] Tryz.underlying22 info65 rfl rfl (by decide) rfl (by decide) rfl (by first | rfl | (repeat (first | exact parts_nil | refine parts_cons rfl (by repeat (first | exact all_live_nil | refine all_live_clo rfl ?_ | refine all_live_slice rfl ?_ | refine all_live_map rfl ?_ | refine all_live_ptr rfl ?_)) ?_))) rfl rfl rfl rfl) rfl (by simp) ?_
  (refine al_opR (op_am Tryz.underlying22 Tryz.underlying22 info65 48) rfl (by simp) ?_; rintro _ _ ⟨ver77, rfl, rfl⟩)
  refine al_gs ?_
  refine al_nil ?_
  refine aw_seq ?_
  refine aw_sr ?_
  refine al_fp Tryz.underlying37 info31 ?_
  refine al_ld Tryz.underlying31 info31 ?_
  refine al_lm Tryz.underlying31 ?_
  refine al_mv ?_
  refine al_nil ?_
  refine aw_block ?_
  refine aw_for2T (α := Nat) (β := Nat) [3, 81] [96] (fun i v => e.kids.length - i) (fun i v => i ≤ e.kids.length) (fun i v => ([(3, .slice 0 v 0 (callQ e i).length), (81, .v (.int .i64 ((i : Nat) : Int)))] : Env)) (fun i v s => [(1, ver1, .row 16 [cellsE e]), (0, v, .row 5 ((callQ e i).map encK))]) (0) (ver77) ?_ ?_ ?_ (fun i v hinv => ?_)
  ·exact Nat.zero_le _
  ·refine sub_cons (get_as rfl ?_) ?_; rotate_left; refine sub_cons (get_as rfl ?_) ?_; rotate_left; exact sub_nil
   all_goals (first | rfl | simp)
  ·rfl
  have hi := hinv
  refine aw_sr ?_
  refine al_ls ?_
  refine al_nil ?_
  refine aw_seq ?_
  refine aw_cond rfl (fun h8 => ?_) (fun h8 => ?_)
  ·have gh8 := h8
   simp only [nrm] at h8
   have hcl := callQ_len (e := e) (i + 1) e.kids.length (by omega)
   rw [callQ] at hcl
   simp only [List.length_append, List.length_cons, List.length_nil] at hcl
   refine aw_skip ?_
   refine aw_seq ?_
   refine aw_block ?_
   refine aw_sr ?_
   refine al_mv ?_
   refine al_gs ?_
   refine al_sr ?_
   refine al_mv ?_
   refine al_op (op_list encBs [sOpen, sComma] Tryz.underlying32 info9 rfl rfl (by decide) rfl (by decide) rfl (by first | rfl | (repeat (first | exact parts_nil | refine parts_cons rfl (by repeat (first | exact all_live_nil | refine all_live_clo rfl ?_ | refine all_live_slice rfl ?_ | refine all_live_map rfl ?_ | refine all_live_ptr rfl ?_)) ?_))) rfl rfl rfl rfl) rfl (by simp) ?_
   refine al_mv ?_
   refine al_op (val_as (.v (.int .i64 (((min i 1 : Nat) : Nat) : Int))) (op_min rfl rfl) (by rw [show min (i : Int) 1 = ((min i 1 : Nat) : Int) by omega])) rfl (by simp) ?_
   refine al_op (val_as (.rptr (encBs (if i = 0 then sOpen else sComma))) (op_index_map default Tryz.underlying32 info9 rfl rfl rfl (by first | (with_reducible exact Int.toNat_natCast _) | rfl) (by omega) (by show _ < 2; omega)) (by by_cases h0 : i = 0; (subst h0; rfl); rw [if_neg h0, show min i 1 = 1 by omega]; rfl)) rfl (by simp) ?_
   refine al_lr Tryz.underlying9 info9 ?_
   refine al_callp into117 rfl rfl rfl ((r_sign _) _) (by simp) ?_
   refine al_op (op_list encK [⟨7, if i = 0 then sOpen else sComma, 0, 0, 0⟩] Tryz.underlying22 info65 rfl rfl (by decide) rfl (by decide) rfl (by first | rfl | (repeat (first | exact parts_nil | refine parts_cons rfl (by repeat (first | exact all_live_nil | refine all_live_clo rfl ?_ | refine all_live_slice rfl ?_ | refine all_live_map rfl ?_ | refine all_live_ptr rfl ?_)) ?_))) rfl rfl rfl rfl) rfl (by simp) ?_
   (refine al_opR (op_am Tryz.underlying22 Tryz.underlying22 info65 48) rfl (by simp) ?_; rintro _ _ ⟨ver92, rfl, rfl⟩)
   refine al_gs ?_
   refine al_nil ?_
   refine aw_region ?_
   refine al_mv ?_
   refine al_ld Tryz.underlying37 info37 ?_
   refine al_mv ?_
   (refine al_call into160 rfl rfl rfl (tkn_at 96 (by decide) rfl (r_kid e hz i (by omega) (ih _ (getD_mem (by omega)) (by have := kidQ_len e i; omega)) (by omega)) rfl rfl) (by simp) ?_; rintro _ _ ⟨ver96, rfl, rfl⟩)
   (refine al_opR (op_am Tryz.underlying22 Tryz.underlying22 info65 48) rfl (by simp) ?_; rintro _ _ ⟨ver97, rfl, rfl⟩)
   refine al_gs ?_
   refine al_nil ?_
   refine aw_region ?_
   refine al_ad ?_
   refine al_mv ?_
   refine al_nil ?_
   refine ⟨i + 1, ver97, ?_, ?_, ?_, ?_, ?_⟩
   ·omega
   ·omega
   ·refine sub_cons (get_as rfl ?_) ?_; rotate_left; refine sub_cons (get_as rfl ?_) ?_; rotate_left; exact sub_nil
    all_goals (first | rfl | simp)
   ·repeat (first | exact subx_refl | exact subx_del | refine subx_put rfl ?_)
   ·rfl
  have gh8 := h8
  simp only [nrm] at h8
  refine aw_exit ?_
  have hie : i = e.kids.length := by omega
  subst hie
  refine aw_sr ?_
  refine al_mv ?_
  refine al_callp into117 rfl rfl rfl ((r_sign _) _) (by simp) ?_
  refine al_op (op_list encK [tkC] Tryz.underlying22 info65 rfl rfl (by decide) rfl (by decide) rfl (by first | rfl | (repeat (first | exact parts_nil | refine parts_cons rfl (by repeat (first | exact all_live_nil | refine all_live_clo rfl ?_ | refine all_live_slice rfl ?_ | refine all_live_map rfl ?_ | refine all_live_ptr rfl ?_)) ?_))) rfl rfl rfl rfl) rfl (by simp) ?_
  (refine al_opR (op_am Tryz.underlying22 Tryz.underlying22 info65 48) rfl (by simp) ?_; rintro _ _ ⟨ver102, rfl, rfl⟩)
  refine al_gs ?_
  refine al_nil ?_
  refine aw_ret ?_
  refine ⟨_, res_1 rfl rfl, ?_⟩
  rw [← ht]; exact ⟨ver102, rfl, rfl⟩
 refine aw_sr ?_
 refine al_fp Tryz.underlying37 info31 ?_
 refine al_ld Tryz.underlying31 info31 ?_
 refine al_lm Tryz.underlying31 ?_
 refine al_eq ?_
 refine al_gs ?_
 refine al_nil ?_
 refine aw_cond rfl (fun h9 => ?_) (fun h9 => ?_)
 ·have gh9 := h9
  simp only [nrm] at h9
  have h5 := op_5 hf gh1 gh2 gh3 gh4 gh5 gh6
  have hk : e.kids.length = 1 := by have := gh9; rw [beq_iff_eq] at this; omega
  have ht := tokQ_unary h5 gh7 hk
  have hL2 := hL
  rw [← ht] at hL2
  simp only [List.length_append, List.length_cons, List.length_nil] at hL2
  refine aw_seq ?_
  refine aw_plan [0, 1, 2, 4, 3, 5, 6, 7] (Checked.mixed Tryz.checked) (by kernel_rfl) ?_
  refine afl_float rfl rfl (opk_of (op_field_ptr Tryz.underlying37 rfl info9 (by decide) rfl rfl rfl)) (by simp) ?_
  refine afl_float rfl rfl (opk_of (op_load_ptr Tryz.underlying9 info9 rfl rfl rfl rfl)) (by simp) ?_
  refine afl_float rfl rfl (opk_call into116 rfl rfl rfl (r_word e.name z1 _)) (by simp) ?_
  refine afl_float rfl rfl (opk_of (op_load_ptr Tryz.underlying37 info37 rfl rfl rfl rfl)) (by simp) ?_
  refine afl_two 5 [3, 6, 7] rfl rfl rfl rfl (by kernel_rfl) (by kernel_rfl) (by simp) (by simp) (next_opR (op_list_own encK [tkS e.name] 0 Tryz.underlying22 info65 rfl rfl (by decide) rfl (by decide) rfl (by first | rfl | (repeat (first | exact parts_nil | refine parts_cons rfl (by repeat (first | exact all_live_nil | refine all_live_clo rfl ?_ | refine all_live_slice rfl ?_ | refine all_live_map rfl ?_ | refine all_live_ptr rfl ?_)) ?_))) rfl rfl (by first | rfl | (repeat (first | exact parts_nil | refine parts_cons rfl (by repeat (first | exact all_live_nil | refine all_live_clo rfl ?_ | refine all_live_slice rfl ?_ | refine all_live_map rfl ?_ | refine all_live_ptr rfl ?_)) ?_))) rfl rfl) ?_) (next_call into160 rfl rfl rfl (tkn_at 113 (by decide) rfl (r_kid e hz 0 (by omega) (ih _ (getD_mem (by omega)) (by have := kidQ_len e 0; omega)) (by omega)) rfl rfl) ?_)
  ·rintro _ _ ⟨ver111, rfl, rfl⟩; refine ⟨?_, ?_⟩
   ·
    refine loose_k rfl (opk_of (op_load_ptr Tryz.underlying37 info37 rfl rfl rfl rfl)) ?_
    refine loose_anc 2 rfl (by kernel_rfl) ?_
    refine loose_anc 1 rfl (by kernel_rfl) ?_
    refine loose_anc 0 rfl (by kernel_rfl) ?_
    exact loose_nil
   (refine afl_call rfl (by kernel_rfl) into160 rfl rfl rfl (tkn_at 113 (by decide) rfl (r_kid e hz 0 (by omega) (ih _ (getD_mem (by omega)) (by have := kidQ_len e 0; omega)) (by omega)) rfl rfl) (by simp) ?_; rintro _ _ ⟨ver113, rfl, rfl⟩; refine ⟨_, rfl, ?_, ?_⟩)
   ·
    refine loose_fix rfl ?_
    refine loose_anc 4 rfl (by kernel_rfl) ?_
    refine loose_anc 2 rfl (by kernel_rfl) ?_
    refine loose_anc 1 rfl (by kernel_rfl) ?_
    refine loose_anc 0 rfl (by kernel_rfl) ?_
    exact loose_nil
   (refine afl_effR rfl rfl (by kernel_rfl) (op_am Tryz.underlying22 Tryz.underlying22 info65 48) (by simp) ?_; rintro _ _ ⟨ver114, rfl, rfl⟩; refine ⟨?_, ?_⟩)
   ·
    refine loose_fix rfl ?_
    refine loose_fix rfl ?_
    refine loose_anc 4 rfl (by kernel_rfl) ?_
    refine loose_anc 2 rfl (by kernel_rfl) ?_
    refine loose_anc 1 rfl (by kernel_rfl) ?_
    refine loose_anc 0 rfl (by kernel_rfl) ?_
    exact loose_nil
   refine afl_float rfl rfl (opk_of (op_assign rfl)) (by simp) ?_
   refine afl_end ?_
   refine aw_ret ?_
   refine ⟨_, res_1 rfl rfl, ?_⟩
   rw [← ht]; exact ⟨ver114, rfl, rfl⟩
  ·rintro _ _ ⟨ver113, rfl, rfl⟩; refine ⟨_, rfl, ?_, ?_⟩
   ·
    refine loose_anc 4 rfl (by kernel_rfl) ?_
    refine loose_anc 2 rfl (by kernel_rfl) ?_
    refine loose_anc 1 rfl (by kernel_rfl) ?_
    refine loose_anc 0 rfl (by kernel_rfl) ?_
    exact loose_nil
   (refine afl_effR rfl rfl (by kernel_rfl) (op_list_own encK [tkS e.name] 0 Tryz.underlying22 info65 rfl rfl (by decide) rfl (by decide) rfl (by first | rfl | (repeat (first | exact parts_nil | refine parts_cons rfl (by repeat (first | exact all_live_nil | refine all_live_clo rfl ?_ | refine all_live_slice rfl ?_ | refine all_live_map rfl ?_ | refine all_live_ptr rfl ?_)) ?_))) rfl rfl (by first | rfl | (repeat (first | exact parts_nil | refine parts_cons rfl (by repeat (first | exact all_live_nil | refine all_live_clo rfl ?_ | refine all_live_slice rfl ?_ | refine all_live_map rfl ?_ | refine all_live_ptr rfl ?_)) ?_))) rfl rfl) (by simp) ?_; rintro _ _ ⟨ver111, rfl, rfl⟩; refine ⟨?_, ?_⟩)
   ·
    refine loose_fix rfl ?_
    refine loose_k rfl (opk_of (op_load_ptr Tryz.underlying37 info37 rfl rfl rfl rfl)) ?_
    refine loose_anc 2 rfl (by kernel_rfl) ?_
    refine loose_anc 1 rfl (by kernel_rfl) ?_
    refine loose_anc 0 rfl (by kernel_rfl) ?_
    exact loose_nil
   (refine afl_effR rfl rfl (by kernel_rfl) (op_am Tryz.underlying22 Tryz.underlying22 info65 48) (by simp) ?_; rintro _ _ ⟨ver114, rfl, rfl⟩; refine ⟨?_, ?_⟩)
   ·
    refine loose_fix rfl ?_
    refine loose_fix rfl ?_
    refine loose_anc 4 rfl (by kernel_rfl) ?_
    refine loose_anc 2 rfl (by kernel_rfl) ?_
    refine loose_anc 1 rfl (by kernel_rfl) ?_
    refine loose_anc 0 rfl (by kernel_rfl) ?_
    exact loose_nil
   refine afl_float rfl rfl (opk_of (op_assign rfl)) (by simp) ?_
   refine afl_end ?_
   refine aw_ret ?_
   refine ⟨_, res_1 rfl rfl, ?_⟩
   rw [← ht]; exact ⟨ver114, rfl, rfl⟩
 have gh9 := h9
 simp only [nrm] at h9
 have h5 := op_5 hf gh1 gh2 gh3 gh4 gh5 gh6
 have hk := kids_two hf h5 gh7 gh9
 have ht := tokQ_binary h5 gh7 hk
 have hL2 := hL
 rw [← ht] at hL2
 simp only [List.length_append, List.length_cons, List.length_nil] at hL2
 refine aw_skip ?_
 refine aw_seq ?_
 refine aw_plan [0, 2, 3, 1, 4, 5, 6, 7] (Checked.mixed Tryz.checked) (by kernel_rfl) ?_
 refine afl_float rfl rfl (opk_of (op_load_ptr Tryz.underlying37 info37 rfl rfl rfl rfl)) (by simp) ?_
 refine afl_float rfl rfl (opk_of (op_field_ptr Tryz.underlying37 rfl info9 (by decide) rfl rfl rfl)) (by simp) ?_
 refine afl_float rfl rfl (opk_of (op_load_ptr Tryz.underlying9 info9 rfl rfl rfl rfl)) (by simp) ?_
 (refine afl_call rfl (by kernel_rfl) into160 rfl rfl rfl (tkn_at 0 (by decide) rfl (r_kid e hz 0 (by omega) (ih _ (getD_mem (by omega)) (by have := kidQ_len e 0; omega)) (by omega)) rfl rfl) (by simp) ?_; rintro _ _ ⟨ver116, rfl, rfl⟩; refine ⟨_, rfl, ?_, ?_⟩)
 ·
  refine loose_k rfl (opk_of (op_load_ptr Tryz.underlying9 info9 rfl rfl rfl rfl)) ?_
  refine loose_k rfl (opk_of (op_field_ptr Tryz.underlying37 rfl info9 (by decide) rfl rfl rfl)) ?_
  refine loose_anc 0 rfl (by kernel_rfl) ?_
  exact loose_nil
 refine afl_float rfl rfl (opk_call into116 rfl rfl rfl (r_word e.name z1 _)) (by simp) ?_
 refine afl_float rfl rfl (opk_of (op_list encK [tkS e.name] Tryz.underlying22 info65 rfl rfl (by decide) rfl (by decide) rfl (by first | rfl | (repeat (first | exact parts_nil | refine parts_cons rfl (by repeat (first | exact all_live_nil | refine all_live_clo rfl ?_ | refine all_live_slice rfl ?_ | refine all_live_map rfl ?_ | refine all_live_ptr rfl ?_)) ?_))) rfl rfl rfl rfl)) (by simp) ?_
 (refine afl_effR rfl rfl (by kernel_rfl) (op_am Tryz.underlying22 Tryz.underlying22 info65 48) (by simp) ?_; rintro _ _ ⟨ver121, rfl, rfl⟩; refine ⟨?_, ?_⟩)
 ·
  refine loose_anc 5 rfl (by kernel_rfl) ?_
  refine loose_anc 4 rfl (by kernel_rfl) ?_
  refine loose_fix rfl ?_
  refine loose_anc 3 rfl (by kernel_rfl) ?_
  refine loose_anc 2 rfl (by kernel_rfl) ?_
  refine loose_anc 0 rfl (by kernel_rfl) ?_
  exact loose_nil
 refine afl_float rfl rfl (opk_of (op_assign rfl)) (by simp) ?_
 refine afl_end ?_
 refine aw_sr ?_
 refine al_mv ?_
 refine al_ld Tryz.underlying37 info37 ?_
 (refine al_call into160 rfl rfl rfl (tkn_at 124 (by decide) rfl (r_kid e hz 1 (by omega) (ih _ (getD_mem (by omega)) (by have := kidQ_len e 1; omega)) (by omega)) rfl rfl) (by simp) ?_; rintro _ _ ⟨ver124, rfl, rfl⟩)
 (refine al_opR (op_am Tryz.underlying22 Tryz.underlying22 info65 48) rfl (by simp) ?_; rintro _ _ ⟨ver125, rfl, rfl⟩)
 refine al_gs ?_
 refine al_nil ?_
 refine aw_ret ?_
 refine ⟨_, res_1 rfl rfl, ?_⟩
 rw [← ht]; exact ⟨ver125, rfl, rfl⟩
theorem r_toks (e : Ex) : szE e = true → formP e = true → (toks e).length ≤ 1000000000 → TKN Tryz.prog 104 [.agg (cellsE (e))] (toks e) := by
  induction e using Ex.ind with
  | h e ih =>
    intro hz hf hL
    obtain ⟨z1, z2, z3, z4, z5⟩ := szE_facts hz
    exact tkn_of (r_tokensS e hz hf hL (fun k hk hl => ih k hk (z5 k hk) (form_kid hf k hk) hl))
end Go.Proofs.YtcgdlhkiecommaaGreatDoor
/- Printed walks (gen.py, lexer_ann.py): part 437. -/




namespace Go.Proofs.YtcgdlhkiecommaaGreatDoor
open Go
theorem r_Tokens (e : Ex) (hz : szE e = true) (hB : depQ e ≤ 1000000000) (hL : validQ e = true → (toks e).length ≤ 1000000000) : ACp Tryz.prog 54 [.agg (cellsE (e))] (.tuple [.list 5 ((tokQ e).map encK), .v (.bool (validQ e))]) := by
 refine acp_of rfl ?_
 refine ace 9 Tryz.func54 ?_
 refine aw_sr ?_
 refine al_bx 1 fun ver1 => ?_
 refine al_gs ?_
 refine al_gs ?_
 refine al_nil ?_
 refine aw_seq ?_
 refine aw_sr ?_
 refine al_ld Tryz.underlying37 info37 ?_
 refine al_callp into26 rfl rfl rfl (r_Valid e hz hB _) (by simp) ?_
 refine al_op (op_not rfl) rfl (by simp) ?_
 refine al_nil ?_
 refine aw_cond rfl (fun h1 => ?_) (fun h1 => ?_)
 ·have gh1 := h1
  simp only [nrm] at h1
  refine aw_sr ?_
  refine al_gs ?_
  refine al_gs ?_
  refine al_nil ?_
  refine aw_freeze (fun _ => false) (fsub_cons (t := 2) rfl (by first | exact .leaf _ _ (frz_whole rfl rfl (by first | rfl | (simp; done) | (simp; omega)) (clo_map (fun _ => rfl))) | exact .leaf _ _ (.vnil 5) | exact .leaf _ _ (.nil 5) | exact .leaf _ _ (.same _)) (fsub_cons (t := 3) rfl (.leaf _ _ (.same _)) fsub_nil)) ?_
  refine aw_ret ?_
  refine ⟨_, res_2 rfl rfl rfl rfl rfl, ?_, rfl⟩
  have hv : validQ e = false := by simpa using gh1
  rw [tokQ, hv]; rfl
 have gh1 := h1
 simp only [nrm] at h1
 have hv : validQ e = true := by simpa using gh1
 refine aw_skip ?_
 refine aw_sr ?_
 refine al_ld Tryz.underlying37 info37 ?_
 (refine al_call into104 rfl rfl rfl (tkn_at 8 (by decide) rfl (r_toks e hz (validQ_form hv) (hL hv)) rfl rfl) (by simp) ?_; rintro _ _ ⟨ver8, rfl, rfl⟩)
 refine al_gs ?_
 refine al_gs ?_
 refine al_nil ?_
 refine aw_freeze (fun _ => false) (fsub_cons (t := 2) rfl (by first | exact .leaf _ _ (frz_whole rfl rfl (by first | rfl | (simp; done) | (simp; omega)) (clo_map (fun _ => rfl))) | exact .leaf _ _ (.vnil 5) | exact .leaf _ _ (.nil 5) | exact .leaf _ _ (.same _)) (fsub_cons (t := 3) rfl (.leaf _ _ (.same _)) fsub_nil)) ?_
 refine aw_ret ?_
 refine ⟨_, res_2 rfl rfl rfl rfl rfl, ?_, rfl⟩
 rw [tokQ, hv]; rfl
theorem r_joined (l : List Tk) (hk : ∀ t ∈ l, OKk t) (hn : l.length ≤ 1000000000) : ACp Tryz.prog 55 [.list 5 (l.map encK)] (.v (.string (str (joinT l)))) := by
 refine acp_of rfl ?_
 refine ace 23 Tryz.func55 ?_
 refine aw_sr ?_
 refine al_gs ?_
 refine al_sr ?_
 refine al_gs ?_
 refine al_nil ?_
 refine aw_seq ?_
 refine aw_sr ?_
 refine al_mv ?_
 refine al_lm Tryz.underlying22 ?_
 refine al_mv ?_
 refine al_nil ?_
 refine aw_block ?_
 refine aw_forT (ι := Nat) [3, 8] [5] (fun i => l.length - i) (fun i => i ≤ l.length) (fun i => ([(3, .v (.string (str (joinT (l.take i))))), (8, .v (.int .i64 ((i : Nat) : Int)))] : Env)) (fun i s => s) (0) ?_ ?_ ?_ (fun i hinv => ?_)
 ·exact Nat.zero_le _
 ·refine sub_cons (get_as rfl ?_) ?_; rotate_left; refine sub_cons (get_as rfl ?_) ?_; rotate_left; exact sub_nil
  all_goals (first | rfl | simp)
 ·rfl
 have hi := hinv
 refine aw_sr ?_
 refine al_ls ?_
 refine al_nil ?_
 refine aw_seq ?_
 refine aw_cond rfl (fun h1 => ?_) (fun h1 => ?_)
 ·have gh1 := h1
  simp only [nrm] at h1
  refine aw_skip ?_
  refine aw_seq ?_
  refine aw_block ?_
  refine aw_sr ?_
  refine al_mv ?_
  refine al_op (op_index_map default Tryz.underlying22 info65 rfl rfl rfl (by first | (with_reducible exact Int.toNat_natCast _) | rfl) (by omega) (by omega)) rfl (by simp) ?_
  refine al_lr Tryz.underlying65 info65 ?_
  refine al_al 5 info65 fun ver5 => ?_
  refine al_gs ?_
  refine al_sp info65 ?_
  refine al_nil ?_
  refine aw_seq ?_
  refine aw_seq ?_
  have hti := hk (l.getD i default) (getD_mem (by omega))
  have hwl := poss_small hti.poss
  have hjb := joinT_bound (l := l) (i := i) (by omega) (fun k hk2 => (hk (l.getD k default) (getD_mem (by omega))).poss)
  refine aw_region ?_
  refine al_mv ?_
  refine al_op (op_gtr rfl rfl) rfl (by simp) ?_
  refine al_nil ?_
  refine aw_cond rfl (fun h2 => ?_) (fun h2 => ?_)
  ·have gh2 := h2
   simp only [nrm] at h2
   refine aw_region ?_
   refine al_mv ?_
   refine al_op (op_sadd_str rfl rfl (by first | omega | (simp; omega) | (simp; done) | (simp only [List.length_append, List.length_cons, List.length_nil]; omega))) rfl (by simp) ?_
   refine al_gs ?_
   refine al_nil ?_
   refine aw_region ?_
   refine al_mv ?_
   refine al_ld Tryz.underlying65 info65 ?_
   refine al_callp into105 rfl rfl rfl (r_wri (l.getD i default) hti.okt hti.int _) (by simp) ?_
   refine al_op (op_sadd_str rfl rfl (by first | omega | (simp; omega) | (simp; done) | (simp only [List.length_append, List.length_cons, List.length_nil]; omega))) rfl (by simp) ?_
   refine al_gs ?_
   refine al_nil ?_
   refine aw_region ?_
   refine al_ad ?_
   refine al_mv ?_
   refine al_nil ?_
   refine ⟨i + 1, ?_, ?_, ?_, ?_, ?_⟩
   ·omega
   ·omega
   ·refine sub_cons (get_as rfl ?_) ?_; rotate_left; refine sub_cons (get_as rfl ?_) ?_; rotate_left; exact sub_nil
    all_goals (first | rfl | (rw [joinT_more (by omega) (by omega)] <;> rfl) | (rw [joinT_zero (by omega) (by omega)] <;> rfl) | simp)
   ·repeat (first | exact subx_refl | exact subx_del | refine subx_put rfl ?_)
   ·rfl
  have gh2 := h2
  simp only [nrm] at h2
  refine aw_skip ?_
  refine aw_region ?_
  refine al_mv ?_
  refine al_ld Tryz.underlying65 info65 ?_
  refine al_callp into105 rfl rfl rfl (r_wri (l.getD i default) hti.okt hti.int _) (by simp) ?_
  refine al_op (op_sadd_str rfl rfl (by first | omega | (simp; omega) | (simp; done) | (simp only [List.length_append, List.length_cons, List.length_nil]; omega))) rfl (by simp) ?_
  refine al_gs ?_
  refine al_nil ?_
  refine aw_region ?_
  refine al_ad ?_
  refine al_mv ?_
  refine al_nil ?_
  refine ⟨i + 1, ?_, ?_, ?_, ?_, ?_⟩
  ·omega
  ·omega
  ·refine sub_cons (get_as rfl ?_) ?_; rotate_left; refine sub_cons (get_as rfl ?_) ?_; rotate_left; exact sub_nil
   all_goals (first | rfl | (rw [joinT_more (by omega) (by omega)] <;> rfl) | (rw [joinT_zero (by omega) (by omega)] <;> rfl) | simp)
  ·repeat (first | exact subx_refl | exact subx_del | refine subx_put rfl ?_)
  ·rfl
 have gh1 := h1
 simp only [nrm] at h1
 refine aw_exit ?_
 obtain rfl : i = l.length := by omega
 refine aw_sr ?_
 refine al_mv ?_
 refine al_gs ?_
 refine al_nil ?_
 refine fz1 (t := 2) ?_
 refine aw_ret ?_
 refine ⟨_, res_1 rfl rfl, ?_, rfl⟩
 rw [List.take_length]
theorem r_TextE (e : Ex) (hz : szE e = true) (hm : smE e = true) (hB : depQ e ≤ 1000000000) (hL : (toks e).length ≤ 1000000000) : ACp Tryz.prog 24 [.agg (cellsE (e))] (.tuple [.v (.string (str ((textQ e).1))), .v (.int .i64 ((textQ e).2))]) := by
 refine acp_of rfl ?_
 refine ace 15 Tryz.func24 ?_
 refine aw_sr ?_
 refine al_bx 1 fun ver1 => ?_
 refine al_gs ?_
 refine al_gs ?_
 refine al_sr ?_
 refine al_ld Tryz.underlying37 info37 ?_
 refine al_callp into54 rfl rfl rfl (r_Tokens e hz hB (fun _ => hL) _) (by simp) ?_
 refine al_mv ?_
 refine al_xt ?_
 refine al_xt ?_
 refine al_gs ?_
 refine al_gs ?_
 refine al_nil ?_
 refine aw_seq ?_
 refine aw_sr ?_
 refine al_mv ?_
 refine al_op (op_not rfl) rfl (by simp) ?_
 refine al_nil ?_
 refine aw_cond rfl (fun h1 => ?_) (fun h1 => ?_)
 ·have gh1 := h1
  simp only [nrm] at h1
  refine aw_sr ?_
  refine al_gs ?_
  refine al_gs ?_
  refine al_nil ?_
  refine fz2 (t := 2) (u := 3) ?_
  refine aw_ret ?_
  refine ⟨_, res_2 rfl rfl rfl rfl rfl, ?_, rfl⟩
  have hv : validQ e = false := by simpa using gh1
  rw [textQ, hv]; rfl
 have gh1 := h1
 simp only [nrm] at h1
 refine aw_skip ?_
 refine aw_seq ?_
 have hv : validQ e = true := by simpa using gh1
 have htk : ∀ t ∈ tokQ e, OKk t := by rw [tokQ, hv]; exact toks_ok e (validQ_form hv) hz hm
 refine aw_region ?_
 refine al_mv ?_
 refine al_callp into55 rfl rfl rfl (r_joined (tokQ e) htk (by have := tokQ_len e; omega) _) (by simp) ?_
 refine al_gs ?_
 refine al_gs ?_
 refine al_nil ?_
 refine fz2 (t := 2) (u := 3) ?_
 refine aw_ret ?_
 refine ⟨_, res_2 rfl rfl rfl rfl rfl, ?_, rfl⟩
 rw [textQ, hv, tokQ, hv]; rfl
end Go.Proofs.YtcgdlhkiecommaaGreatDoor
/- Printed walks (gen.py, lexer_ann.py): part 438. -/




namespace Go.Proofs.YtcgdlhkiecommaaGreatDoor
open Go
theorem r_namedO (out : List Bs) (v : Nat) (e : Ex) (hz : szE e = true) (hL : (namesQ out e).length ≤ 1000000000) (ih : ∀ k ∈ e.kids, ∀ o, (namesQ o k).length ≤ 1000000000 → NMD Tryz.prog 62 o k) : AC Tryz.prog 62 [.slice 0 v 0 out.length, .agg (cellsE (e))] ([(0, v, .row 1 (out.map encBs))]) (fun r σ' => ∃ ver, r = .ret (.slice 0 ver 0 (namesQ out e).length) ∧ σ'.keep (fun i => i == 0) = [(0, ver, .row 1 ((namesQ out e).map encBs))]) := by
 obtain ⟨z1, z2, z3, z4, z5⟩ := szE_facts hz
 have hol := namesQ_len e out
 refine ace 56 Tryz.func62 ?_
 refine aw_sr ?_
 refine al_bx 3 fun ver3 => ?_
 refine al_gs ?_
 refine al_nil ?_
 refine aw_seq ?_
 refine aw_sr ?_
 refine al_fp Tryz.underlying37 info25 ?_
 refine al_ld Tryz.underlying25 info25 ?_
 refine al_eq ?_
 refine al_mv ?_
 apply al_or 9 13 22 rfl
 ·intro h1; have gh1 := h1
  simp only [nrm] at h1
  refine tk_fp Tryz.underlying37 info25 ?_
  refine tk_ld Tryz.underlying25 info25 ?_
  refine tk_eq ?_
  refine tk_mv ?_
  apply al_and 4 17 21 rfl
  ·intro h2; have gh2 := h2
   simp only [nrm] at h2
   refine tk_fp Tryz.underlying37 info9 ?_
   refine tk_ld Tryz.underlying9 info9 ?_
   refine al_callp_take into67 rfl rfl rfl rfl rfl rfl (r_isName e.name (by omega) _) (by simp) ?_
   refine tk_pk ?_
   exact al_nk gh2
  ·intro h2; have gh2 := h2
   simp only [nrm] at h2
   refine al_ps ?_
   refine al_ps ?_
   refine al_ps ?_
   refine tk_pk ?_
   exact al_nk gh2
  refine al_pk ?_
  exact al_nk gh1
 ·intro h1; have gh1 := h1
  simp only [nrm] at h1
  refine al_ps ?_
  refine al_ps ?_
  refine al_ps ?_
  refine al_ps ?_
  refine al_pu ?_
  refine al_pu ?_
  refine al_pu ?_
  refine al_ps ?_
  refine al_pk ?_
  exact al_nk gh1
 refine al_nil ?_
 refine aw_cond rfl (fun h3 => ?_) (fun h3 => ?_)
 ·have gh3 := h3
  simp only [nrm] at h3
  have gnm := gh3
  refine aw_sr ?_
  refine al_gs ?_
  refine al_nil ?_
  refine aw_seq ?_
  refine aw_sr ?_
  refine al_mv ?_
  refine al_op (op_len_slice Tryz.underlying32 rfl rfl) rfl (by simp) ?_
  refine al_mv ?_
  refine al_nil ?_
  refine aw_block ?_
  refine aw_forT (ι := Nat) [5, 25] [] (fun i => out.length - i) (fun i => i ≤ out.length) (fun i => ([(5, .v (.bool ((out.take i).contains e.name))), (25, .v (.int .i64 ((i : Nat) : Int)))] : Env)) (fun i s => s) (0) ?_ ?_ ?_ (fun i hinv => ?_)
  ·exact Nat.zero_le _
  ·refine sub_cons (get_as rfl ?_) ?_; rotate_left; refine sub_cons (get_as rfl ?_) ?_; rotate_left; exact sub_nil
   all_goals (first | rfl | simp)
  ·rfl
  have hi := hinv
  refine aw_sr ?_
  refine al_ls ?_
  refine al_nil ?_
  refine aw_seq ?_
  refine aw_cond rfl (fun h4 => ?_) (fun h4 => ?_)
  ·have gh4 := h4
   simp only [nrm] at h4
   refine aw_skip ?_
   refine aw_seq ?_
   refine aw_block ?_
   refine aw_sr ?_
   refine al_op (op_index_slice Tryz.underlying32 info9 rfl rfl rfl rfl (by omega) (by omega)) rfl (by simp) ?_
   refine al_op (op_load_map Tryz.underlying9 info9 rfl rfl (by omega) rfl) rfl (by simp) ?_
   refine al_gs ?_
   refine al_nil ?_
   refine aw_region ?_
   refine al_mv ?_
   refine al_mv ?_
   apply al_or 5 30 35 rfl
   ·intro gh5
    refine tk_mv ?_
    refine tk_fp Tryz.underlying37 info9 ?_
    refine tk_ld Tryz.underlying9 info9 ?_
    refine al_take (op_seql_str rfl rfl) rfl rfl rfl rfl (by simp) ?_
    refine al_pk ?_
    exact al_nk gh5
   ·intro gh5
    refine al_ps ?_
    refine al_ps ?_
    refine al_ps ?_
    refine al_ps ?_
    refine al_pk ?_
    exact al_nk gh5
   refine al_gs ?_
   refine al_nil ?_
   refine aw_region ?_
   refine al_ad ?_
   refine al_mv ?_
   refine al_nil ?_
   refine ⟨i + 1, ?_, ?_, ?_, ?_, ?_⟩
   ·omega
   ·omega
   ·refine sub_cons (get_as rfl ?_) ?_; rotate_left; refine sub_cons (get_as rfl ?_) ?_; rotate_left; exact sub_nil
    all_goals (first | rfl | (rw [cont_take (by omega)]; done) | (simp only [Nat.zero_add, Int.toNat_natCast]; rw [cont_take (by omega)]) | (simp only [Nat.zero_add, Int.toNat_natCast]; rw [cont_take (by omega)]; rfl) | simp)
   ·repeat (first | exact subx_refl | exact subx_del | refine subx_put rfl ?_)
   ·rfl
  have gh4 := h4
  simp only [nrm] at h4
  refine aw_exit ?_
  have hio : i = out.length := by omega
  refine aw_sr ?_
  refine al_mv ?_
  refine al_op (op_not rfl) rfl (by simp) ?_
  refine al_nil ?_
  refine aw_cond rfl (fun h6 => ?_) (fun h6 => ?_)
  ·have gh6 := h6
   simp only [nrm] at h6
   have gin := gh6
   have hin : out.contains e.name = false := by have := gin; rw [hio, List.take_length] at this; first | exact bnot_t this | (simp at this; done) | rfl
   have hol2 : (out.length : Int) + 1 ≤ 1000000000 := by have := outAt_le (out := out) (e := e) (i := 0) (Nat.zero_le _); rw [outAt_zero, addN_new gnm hin, List.length_append] at this; simp only [List.length_cons, List.length_nil] at this; first | omega | (simp; done) | (simp; omega)
   refine aw_region ?_
   refine al_mv ?_
   refine al_fp Tryz.underlying37 info9 ?_
   refine al_ld Tryz.underlying9 info9 ?_
   refine al_op (op_list encBs [e.name] Tryz.underlying32 info9 rfl rfl (by decide) rfl (by decide) rfl (by first | rfl | (repeat (first | exact parts_nil | refine parts_cons rfl (by repeat (first | exact all_live_nil | refine all_live_clo rfl ?_ | refine all_live_slice rfl ?_ | refine all_live_map rfl ?_ | refine all_live_ptr rfl ?_)) ?_))) rfl rfl rfl rfl) rfl (by simp) ?_
   (refine al_opR (op_am Tryz.underlying32 Tryz.underlying32 info9 16) rfl (by simp) ?_; rintro _ _ ⟨ver43, rfl, rfl⟩)
   refine al_gs ?_
   refine al_nil ?_
   refine aw_seq ?_
   refine aw_sr ?_
   refine al_fp Tryz.underlying37 info31 ?_
   refine al_ld Tryz.underlying31 info31 ?_
   refine al_lm Tryz.underlying31 ?_
   refine al_mv ?_
   refine al_nil ?_
   refine aw_block ?_
   refine aw_for2T (α := Nat) (β := Nat) [0, 47] [9] (fun j u => e.kids.length - j) (fun j u => j ≤ e.kids.length) (fun j u => ([(0, .slice 0 u 0 (outAt out e j).length), (47, .v (.int .i64 ((j : Nat) : Int)))] : Env)) (fun j u s => [(0, u, .row 1 ((outAt out e j).map encBs)), (3, ver3, .row 16 [cellsE e])]) (0) (ver43) ?_ ?_ ?_ (fun j u hinv => ?_)
   ·exact Nat.zero_le _
   ·refine sub_cons (get_as rfl ?_) ?_; rotate_left; refine sub_cons (get_as rfl ?_) ?_; rotate_left; exact sub_nil
    all_goals (first | (rw [outAt_zero, addN_no gnm]; done) | (rw [outAt_zero, addN_in gnm hin]; done) | (rw [outAt_zero, addN_new gnm hin]; done) | (rw [outAt_zero, addN_no gnm]; rfl) | (rw [outAt_zero, addN_in gnm hin]; rfl) | (rw [outAt_zero, addN_new gnm hin]; rfl) | (rw [outAt_zero, addN_new gnm hin]; simp; done) | rfl | simp)
   ·first | (rw [outAt_zero, addN_no gnm]; done) | (rw [outAt_zero, addN_in gnm hin]; done) | (rw [outAt_zero, addN_new gnm hin]; done) | (rw [outAt_zero, addN_no gnm]; rfl) | (rw [outAt_zero, addN_in gnm hin]; rfl) | (rw [outAt_zero, addN_new gnm hin]; rfl) | (rw [outAt_zero, addN_new gnm hin]; simp; done) | rfl | simp
   have hj := hinv
   refine aw_sr ?_
   refine al_ls ?_
   refine al_nil ?_
   refine aw_seq ?_
   refine aw_cond rfl (fun h7 => ?_) (fun h7 => ?_)
   ·have gh7 := h7
    simp only [nrm] at h7
    refine aw_skip ?_
    refine aw_seq ?_
    refine aw_block ?_
    refine aw_sr ?_
    refine al_op (val_as (.rptr (cellsE (e.kids.getD j default))) (op_index_map default Tryz.underlying31 info37 rfl rfl rfl (by first | (with_reducible exact Int.toNat_natCast _) | rfl) (by omega) (by omega)) (by exact congrArg AVal.rptr (encE_cells _))) rfl (by simp) ?_
    refine al_lr Tryz.underlying37 info37 ?_
    refine al_al 9 info37 fun ver9 => ?_
    refine al_sp info37 ?_
    refine al_nil ?_
    have hst := outAt_step (out := out) (e := e) (i := j) (by omega)
    have hsl : (namesQ (outAt out e j) (e.kids.getD j default)).length ≤ 1000000000 := by rw [← hst]; have := outAt_le (out := out) (e := e) (i := j + 1) (by omega); omega
    refine aw_region ?_
    refine al_mv ?_
    refine al_ld Tryz.underlying37 info37 ?_
    (refine al_call into62 rfl rfl rfl (nmd_at (ih _ (getD_mem (by omega)) _ hsl) rfl rfl) (by simp) ?_; rintro _ _ ⟨ver53, rfl, rfl⟩)
    refine al_gs ?_
    refine al_nil ?_
    refine aw_region ?_
    refine al_ad ?_
    refine al_mv ?_
    refine al_nil ?_
    refine ⟨j + 1, ver53, ?_, ?_, ?_, ?_, ?_⟩
    ·omega
    ·omega
    ·refine sub_cons (get_as rfl ?_) ?_; rotate_left; refine sub_cons (get_as rfl ?_) ?_; rotate_left; exact sub_nil
     all_goals (first | rfl | (rw [outAt_step (by omega)]; done) | (rw [outAt_step (by omega)]; rfl) | simp)
    ·repeat (first | exact subx_refl | exact subx_del | refine subx_put rfl ?_)
    ·rw [outAt_step (by omega)]; rfl
   have gh7 := h7
   simp only [nrm] at h7
   refine aw_exit ?_
   have hjk : j = e.kids.length := by omega
   refine aw_sr ?_
   refine al_mv ?_
   refine al_gs ?_
   refine al_nil ?_
   refine aw_ret ?_
   refine ⟨_, res_1 rfl rfl, ?_⟩
   rw [← outAt_end, ← hjk]; exact ⟨u, rfl, rfl⟩
  have gh6 := h6
  simp only [nrm] at h6
  have gin := gh6
  have hin : out.contains e.name = true := by have := gin; rw [hio, List.take_length] at this; first | exact bnot_f this | (simp at this; done)
  refine aw_skip ?_
  refine aw_seq ?_
  refine aw_sr ?_
  refine al_fp Tryz.underlying37 info31 ?_
  refine al_ld Tryz.underlying31 info31 ?_
  refine al_lm Tryz.underlying31 ?_
  refine al_mv ?_
  refine al_nil ?_
  refine aw_block ?_
  refine aw_for2T (α := Nat) (β := Nat) [0, 9, 47, 48, 49, 50, 51, 52, 53, 54] [9] (fun j u => e.kids.length - j) (fun j u => j ≤ e.kids.length) (fun j u => ([(0, .slice 0 u 0 (outAt out e j).length), (47, .v (.int .i64 ((j : Nat) : Int)))] : Env)) (fun j u s => [(0, u, .row 1 ((outAt out e j).map encBs)), (3, ver3, .row 16 [cellsE e])]) (0) (v) ?_ ?_ ?_ (fun j u hinv => ?_)
  ·exact Nat.zero_le _
  ·refine sub_cons (get_as rfl ?_) ?_; rotate_left; refine sub_cons (get_as rfl ?_) ?_; rotate_left; exact sub_nil
   all_goals (first | (rw [outAt_zero, addN_no gnm]; done) | (rw [outAt_zero, addN_in gnm hin]; done) | (rw [outAt_zero, addN_new gnm hin]; done) | (rw [outAt_zero, addN_no gnm]; rfl) | (rw [outAt_zero, addN_in gnm hin]; rfl) | (rw [outAt_zero, addN_new gnm hin]; rfl) | (rw [outAt_zero, addN_new gnm hin]; simp; done) | rfl | simp)
  ·first | (rw [outAt_zero, addN_no gnm]; done) | (rw [outAt_zero, addN_in gnm hin]; done) | (rw [outAt_zero, addN_new gnm hin]; done) | (rw [outAt_zero, addN_no gnm]; rfl) | (rw [outAt_zero, addN_in gnm hin]; rfl) | (rw [outAt_zero, addN_new gnm hin]; rfl) | (rw [outAt_zero, addN_new gnm hin]; simp; done) | rfl | simp
  have hj := hinv
  refine aw_sr ?_
  refine al_ls ?_
  refine al_nil ?_
  refine aw_seq ?_
  refine aw_cond rfl (fun h8 => ?_) (fun h8 => ?_)
  ·have gh8 := h8
   simp only [nrm] at h8
   refine aw_skip ?_
   refine aw_seq ?_
   refine aw_block ?_
   refine aw_sr ?_
   refine al_op (val_as (.rptr (cellsE (e.kids.getD j default))) (op_index_map default Tryz.underlying31 info37 rfl rfl rfl (by first | (with_reducible exact Int.toNat_natCast _) | rfl) (by omega) (by omega)) (by exact congrArg AVal.rptr (encE_cells _))) rfl (by simp) ?_
   refine al_lr Tryz.underlying37 info37 ?_
   refine al_al 9 info37 fun ver9 => ?_
   refine al_sp info37 ?_
   refine al_nil ?_
   have hst := outAt_step (out := out) (e := e) (i := j) (by omega)
   have hsl : (namesQ (outAt out e j) (e.kids.getD j default)).length ≤ 1000000000 := by rw [← hst]; have := outAt_le (out := out) (e := e) (i := j + 1) (by omega); omega
   refine aw_region ?_
   refine al_mv ?_
   refine al_ld Tryz.underlying37 info37 ?_
   (refine al_call into62 rfl rfl rfl (nmd_at (ih _ (getD_mem (by omega)) _ hsl) rfl rfl) (by simp) ?_; rintro _ _ ⟨ver53, rfl, rfl⟩)
   refine al_gs ?_
   refine al_nil ?_
   refine aw_region ?_
   refine al_ad ?_
   refine al_mv ?_
   refine al_nil ?_
   refine ⟨j + 1, ver53, ?_, ?_, ?_, ?_, ?_⟩
   ·omega
   ·omega
   ·refine sub_cons (get_as rfl ?_) ?_; rotate_left; refine sub_cons (get_as rfl ?_) ?_; rotate_left; exact sub_nil
    all_goals (first | rfl | (rw [outAt_step (by omega)]; done) | (rw [outAt_step (by omega)]; rfl) | simp)
   ·repeat (first | exact subx_refl | exact subx_del | refine subx_put rfl ?_)
   ·rw [outAt_step (by omega)]; rfl
  have gh8 := h8
  simp only [nrm] at h8
  refine aw_exit ?_
  have hjk : j = e.kids.length := by omega
  refine aw_sr ?_
  refine al_mv ?_
  refine al_gs ?_
  refine al_nil ?_
  refine aw_ret ?_
  refine ⟨_, res_1 rfl rfl, ?_⟩
  rw [← outAt_end, ← hjk]; exact ⟨u, rfl, rfl⟩
 have gh3 := h3
 simp only [nrm] at h3
 have gnm := gh3
 refine aw_skip ?_
 refine aw_seq ?_
 refine aw_sr ?_
 refine al_fp Tryz.underlying37 info31 ?_
 refine al_ld Tryz.underlying31 info31 ?_
 refine al_lm Tryz.underlying31 ?_
 refine al_mv ?_
 refine al_nil ?_
 refine aw_block ?_
 refine aw_for2T (α := Nat) (β := Nat) [0, 9, 47, 48, 49, 50, 51, 52, 53, 54] [9] (fun j u => e.kids.length - j) (fun j u => j ≤ e.kids.length) (fun j u => ([(0, .slice 0 u 0 (outAt out e j).length), (47, .v (.int .i64 ((j : Nat) : Int)))] : Env)) (fun j u s => [(0, u, .row 1 ((outAt out e j).map encBs)), (3, ver3, .row 16 [cellsE e])]) (0) (v) ?_ ?_ ?_ (fun j u hinv => ?_)
 ·exact Nat.zero_le _
 ·refine sub_cons (get_as rfl ?_) ?_; rotate_left; refine sub_cons (get_as rfl ?_) ?_; rotate_left; exact sub_nil
  all_goals (first | (rw [outAt_zero, addN_no gnm]; done) | (rw [outAt_zero, addN_in gnm hin]; done) | (rw [outAt_zero, addN_new gnm hin]; done) | (rw [outAt_zero, addN_no gnm]; rfl) | (rw [outAt_zero, addN_in gnm hin]; rfl) | (rw [outAt_zero, addN_new gnm hin]; rfl) | (rw [outAt_zero, addN_new gnm hin]; simp; done) | rfl | simp)
 ·first | (rw [outAt_zero, addN_no gnm]; done) | (rw [outAt_zero, addN_in gnm hin]; done) | (rw [outAt_zero, addN_new gnm hin]; done) | (rw [outAt_zero, addN_no gnm]; rfl) | (rw [outAt_zero, addN_in gnm hin]; rfl) | (rw [outAt_zero, addN_new gnm hin]; rfl) | (rw [outAt_zero, addN_new gnm hin]; simp; done) | rfl | simp
 have hj := hinv
 refine aw_sr ?_
 refine al_ls ?_
 refine al_nil ?_
 refine aw_seq ?_
 refine aw_cond rfl (fun h9 => ?_) (fun h9 => ?_)
 ·have gh9 := h9
  simp only [nrm] at h9
  refine aw_skip ?_
  refine aw_seq ?_
  refine aw_block ?_
  refine aw_sr ?_
  refine al_op (val_as (.rptr (cellsE (e.kids.getD j default))) (op_index_map default Tryz.underlying31 info37 rfl rfl rfl (by first | (with_reducible exact Int.toNat_natCast _) | rfl) (by omega) (by omega)) (by exact congrArg AVal.rptr (encE_cells _))) rfl (by simp) ?_
  refine al_lr Tryz.underlying37 info37 ?_
  refine al_al 9 info37 fun ver9 => ?_
  refine al_sp info37 ?_
  refine al_nil ?_
  have hst := outAt_step (out := out) (e := e) (i := j) (by omega)
  have hsl : (namesQ (outAt out e j) (e.kids.getD j default)).length ≤ 1000000000 := by rw [← hst]; have := outAt_le (out := out) (e := e) (i := j + 1) (by omega); omega
  refine aw_region ?_
  refine al_mv ?_
  refine al_ld Tryz.underlying37 info37 ?_
  (refine al_call into62 rfl rfl rfl (nmd_at (ih _ (getD_mem (by omega)) _ hsl) rfl rfl) (by simp) ?_; rintro _ _ ⟨ver53, rfl, rfl⟩)
  refine al_gs ?_
  refine al_nil ?_
  refine aw_region ?_
  refine al_ad ?_
  refine al_mv ?_
  refine al_nil ?_
  refine ⟨j + 1, ver53, ?_, ?_, ?_, ?_, ?_⟩
  ·omega
  ·omega
  ·refine sub_cons (get_as rfl ?_) ?_; rotate_left; refine sub_cons (get_as rfl ?_) ?_; rotate_left; exact sub_nil
   all_goals (first | rfl | (rw [outAt_step (by omega)]; done) | (rw [outAt_step (by omega)]; rfl) | simp)
  ·repeat (first | exact subx_refl | exact subx_del | refine subx_put rfl ?_)
  ·rw [outAt_step (by omega)]; rfl
 have gh9 := h9
 simp only [nrm] at h9
 refine aw_exit ?_
 have hjk : j = e.kids.length := by omega
 refine aw_sr ?_
 refine al_mv ?_
 refine al_gs ?_
 refine al_nil ?_
 refine aw_ret ?_
 refine ⟨_, res_1 rfl rfl, ?_⟩
 rw [← outAt_end, ← hjk]; exact ⟨u, rfl, rfl⟩
theorem r_namedN (e : Ex) (hz : szE e = true) (hL : (namesQ ([] : List Bs) e).length ≤ 1000000000) (ih : ∀ k ∈ e.kids, ∀ o, (namesQ o k).length ≤ 1000000000 → NMD Tryz.prog 62 o k) : AC Tryz.prog 62 [.v (.slice none 0 0), .agg (cellsE (e))] ([]) (fun r σ' => ∃ ver, r = .ret (.slice 0 ver 0 (namesQ ([] : List Bs) e).length) ∧ σ'.keep (fun i => i == 0) = [(0, ver, .row 1 ((namesQ ([] : List Bs) e).map encBs))]) := by
 obtain ⟨z1, z2, z3, z4, z5⟩ := szE_facts hz
 have hol := namesQ_len e ([] : List Bs)
 refine ace 56 Tryz.func62 ?_
 refine aw_seq ?_
 refine aw_own_map encBs 0 1 0 rfl rfl (fun ver0 => ?_)
 refine aw_region ?_
 refine al_bx 3 fun ver3 => ?_
 refine al_gs ?_
 refine al_nil ?_
 refine aw_seq ?_
 refine aw_sr ?_
 refine al_fp Tryz.underlying37 info25 ?_
 refine al_ld Tryz.underlying25 info25 ?_
 refine al_eq ?_
 refine al_mv ?_
 apply al_or 9 13 22 rfl
 ·intro h1; have gh1 := h1
  simp only [nrm] at h1
  refine tk_fp Tryz.underlying37 info25 ?_
  refine tk_ld Tryz.underlying25 info25 ?_
  refine tk_eq ?_
  refine tk_mv ?_
  apply al_and 4 17 21 rfl
  ·intro h2; have gh2 := h2
   simp only [nrm] at h2
   refine tk_fp Tryz.underlying37 info9 ?_
   refine tk_ld Tryz.underlying9 info9 ?_
   refine al_callp_take into67 rfl rfl rfl rfl rfl rfl (r_isName e.name (by omega) _) (by simp) ?_
   refine tk_pk ?_
   exact al_nk gh2
  ·intro h2; have gh2 := h2
   simp only [nrm] at h2
   refine al_ps ?_
   refine al_ps ?_
   refine al_ps ?_
   refine tk_pk ?_
   exact al_nk gh2
  refine al_pk ?_
  exact al_nk gh1
 ·intro h1; have gh1 := h1
  simp only [nrm] at h1
  refine al_ps ?_
  refine al_ps ?_
  refine al_ps ?_
  refine al_ps ?_
  refine al_pu ?_
  refine al_pu ?_
  refine al_pu ?_
  refine al_ps ?_
  refine al_pk ?_
  exact al_nk gh1
 refine al_nil ?_
 refine aw_cond rfl (fun h3 => ?_) (fun h3 => ?_)
 ·have gh3 := h3
  simp only [nrm] at h3
  have gnm := gh3
  refine aw_sr ?_
  refine al_gs ?_
  refine al_nil ?_
  refine aw_seq ?_
  refine aw_sr ?_
  refine al_mv ?_
  refine al_op (op_len_slice Tryz.underlying32 rfl rfl) rfl (by simp) ?_
  refine al_mv ?_
  refine al_nil ?_
  refine aw_block ?_
  refine aw_forT (ι := Nat) [5, 25] [] (fun i => ([] : List Bs).length - i) (fun i => i ≤ ([] : List Bs).length) (fun i => ([(5, .v (.bool ((([] : List Bs).take i).contains e.name))), (25, .v (.int .i64 ((i : Nat) : Int)))] : Env)) (fun i s => s) (0) ?_ ?_ ?_ (fun i hinv => ?_)
  ·exact Nat.zero_le _
  ·refine sub_cons (get_as rfl ?_) ?_; rotate_left; refine sub_cons (get_as rfl ?_) ?_; rotate_left; exact sub_nil
   all_goals (first | rfl | simp)
  ·rfl
  have hi := hinv
  refine aw_sr ?_
  refine al_ls ?_
  refine al_nil ?_
  refine aw_seq ?_
  refine aw_cond rfl (fun h4 => ?_) (fun h4 => ?_)
  ·have gh4 := h4
   simp only [nrm] at h4
   refine aw_skip ?_
   refine aw_seq ?_
   refine aw_block ?_
   refine aw_sr ?_
   refine al_op (op_index_slice Tryz.underlying32 info9 rfl rfl rfl rfl (by omega) (by omega)) rfl (by simp) ?_
   refine al_op (op_load_map Tryz.underlying9 info9 rfl rfl (by omega) rfl) rfl (by simp) ?_
   refine al_gs ?_
   refine al_nil ?_
   refine aw_region ?_
   refine al_mv ?_
   refine al_mv ?_
   apply al_or 5 30 35 rfl
   ·intro gh5
    refine tk_mv ?_
    refine tk_fp Tryz.underlying37 info9 ?_
    refine tk_ld Tryz.underlying9 info9 ?_
    refine al_take (op_seql_str rfl rfl) rfl rfl rfl rfl (by simp) ?_
    refine al_pk ?_
    exact al_nk gh5
   ·intro gh5
    refine al_ps ?_
    refine al_ps ?_
    refine al_ps ?_
    refine al_ps ?_
    refine al_pk ?_
    exact al_nk gh5
   refine al_gs ?_
   refine al_nil ?_
   refine aw_region ?_
   refine al_ad ?_
   refine al_mv ?_
   refine al_nil ?_
   refine ⟨i + 1, ?_, ?_, ?_, ?_, ?_⟩
   ·omega
   ·omega
   ·refine sub_cons (get_as rfl ?_) ?_; rotate_left; refine sub_cons (get_as rfl ?_) ?_; rotate_left; exact sub_nil
    all_goals (first | rfl | (rw [cont_take (by omega)]; done) | (simp only [Nat.zero_add, Int.toNat_natCast]; rw [cont_take (by omega)]) | (simp only [Nat.zero_add, Int.toNat_natCast]; rw [cont_take (by omega)]; rfl) | simp)
   ·repeat (first | exact subx_refl | exact subx_del | refine subx_put rfl ?_)
   ·rfl
  have gh4 := h4
  simp only [nrm] at h4
  refine aw_exit ?_
  have hio : i = ([] : List Bs).length := by omega
  refine aw_sr ?_
  refine al_mv ?_
  refine al_op (op_not rfl) rfl (by simp) ?_
  refine al_nil ?_
  refine aw_cond rfl (fun h6 => ?_) (fun h6 => ?_)
  ·have gh6 := h6
   simp only [nrm] at h6
   have gin := gh6
   have hin : ([] : List Bs).contains e.name = false := by have := gin; rw [hio, List.take_length] at this; first | exact bnot_t this | (simp at this; done) | rfl
   have hol2 : (([] : List Bs).length : Int) + 1 ≤ 1000000000 := by have := outAt_le (out := ([] : List Bs)) (e := e) (i := 0) (Nat.zero_le _); rw [outAt_zero, addN_new gnm hin, List.length_append] at this; simp only [List.length_cons, List.length_nil] at this; first | omega | (simp; done) | (simp; omega)
   refine aw_region ?_
   refine al_mv ?_
   refine al_fp Tryz.underlying37 info9 ?_
   refine al_ld Tryz.underlying9 info9 ?_
   refine al_op (op_list encBs [e.name] Tryz.underlying32 info9 rfl rfl (by decide) rfl (by decide) rfl (by first | rfl | (repeat (first | exact parts_nil | refine parts_cons rfl (by repeat (first | exact all_live_nil | refine all_live_clo rfl ?_ | refine all_live_slice rfl ?_ | refine all_live_map rfl ?_ | refine all_live_ptr rfl ?_)) ?_))) rfl rfl rfl rfl) rfl (by simp) ?_
   (refine al_opR (op_am Tryz.underlying32 Tryz.underlying32 info9 16) rfl (by simp) ?_; rintro _ _ ⟨ver43, rfl, rfl⟩)
   refine al_gs ?_
   refine al_nil ?_
   refine aw_seq ?_
   refine aw_sr ?_
   refine al_fp Tryz.underlying37 info31 ?_
   refine al_ld Tryz.underlying31 info31 ?_
   refine al_lm Tryz.underlying31 ?_
   refine al_mv ?_
   refine al_nil ?_
   refine aw_block ?_
   refine aw_for2T (α := Nat) (β := Nat) [0, 47] [9] (fun j u => e.kids.length - j) (fun j u => j ≤ e.kids.length) (fun j u => ([(0, .slice 0 u 0 (outAt ([] : List Bs) e j).length), (47, .v (.int .i64 ((j : Nat) : Int)))] : Env)) (fun j u s => [(0, u, .row 1 ((outAt ([] : List Bs) e j).map encBs)), (3, ver3, .row 16 [cellsE e])]) (0) (ver43) ?_ ?_ ?_ (fun j u hinv => ?_)
   ·exact Nat.zero_le _
   ·refine sub_cons (get_as rfl ?_) ?_; rotate_left; refine sub_cons (get_as rfl ?_) ?_; rotate_left; exact sub_nil
    all_goals (first | (rw [outAt_zero, addN_no gnm]; done) | (rw [outAt_zero, addN_in gnm hin]; done) | (rw [outAt_zero, addN_new gnm hin]; done) | (rw [outAt_zero, addN_no gnm]; rfl) | (rw [outAt_zero, addN_in gnm hin]; rfl) | (rw [outAt_zero, addN_new gnm hin]; rfl) | (rw [outAt_zero, addN_new gnm hin]; simp; done) | rfl | simp)
   ·first | (rw [outAt_zero, addN_no gnm]; done) | (rw [outAt_zero, addN_in gnm hin]; done) | (rw [outAt_zero, addN_new gnm hin]; done) | (rw [outAt_zero, addN_no gnm]; rfl) | (rw [outAt_zero, addN_in gnm hin]; rfl) | (rw [outAt_zero, addN_new gnm hin]; rfl) | (rw [outAt_zero, addN_new gnm hin]; simp; done) | rfl | simp
   have hj := hinv
   refine aw_sr ?_
   refine al_ls ?_
   refine al_nil ?_
   refine aw_seq ?_
   refine aw_cond rfl (fun h7 => ?_) (fun h7 => ?_)
   ·have gh7 := h7
    simp only [nrm] at h7
    refine aw_skip ?_
    refine aw_seq ?_
    refine aw_block ?_
    refine aw_sr ?_
    refine al_op (val_as (.rptr (cellsE (e.kids.getD j default))) (op_index_map default Tryz.underlying31 info37 rfl rfl rfl (by first | (with_reducible exact Int.toNat_natCast _) | rfl) (by omega) (by omega)) (by exact congrArg AVal.rptr (encE_cells _))) rfl (by simp) ?_
    refine al_lr Tryz.underlying37 info37 ?_
    refine al_al 9 info37 fun ver9 => ?_
    refine al_sp info37 ?_
    refine al_nil ?_
    have hst := outAt_step (out := ([] : List Bs)) (e := e) (i := j) (by omega)
    have hsl : (namesQ (outAt ([] : List Bs) e j) (e.kids.getD j default)).length ≤ 1000000000 := by rw [← hst]; have := outAt_le (out := ([] : List Bs)) (e := e) (i := j + 1) (by omega); omega
    refine aw_region ?_
    refine al_mv ?_
    refine al_ld Tryz.underlying37 info37 ?_
    (refine al_call into62 rfl rfl rfl (nmd_at (ih _ (getD_mem (by omega)) _ hsl) rfl rfl) (by simp) ?_; rintro _ _ ⟨ver53, rfl, rfl⟩)
    refine al_gs ?_
    refine al_nil ?_
    refine aw_region ?_
    refine al_ad ?_
    refine al_mv ?_
    refine al_nil ?_
    refine ⟨j + 1, ver53, ?_, ?_, ?_, ?_, ?_⟩
    ·omega
    ·omega
    ·refine sub_cons (get_as rfl ?_) ?_; rotate_left; refine sub_cons (get_as rfl ?_) ?_; rotate_left; exact sub_nil
     all_goals (first | rfl | (rw [outAt_step (by omega)]; done) | (rw [outAt_step (by omega)]; rfl) | simp)
    ·repeat (first | exact subx_refl | exact subx_del | refine subx_put rfl ?_)
    ·rw [outAt_step (by omega)]; rfl
   have gh7 := h7
   simp only [nrm] at h7
   refine aw_exit ?_
   have hjk : j = e.kids.length := by omega
   refine aw_sr ?_
   refine al_mv ?_
   refine al_gs ?_
   refine al_nil ?_
   refine aw_ret ?_
   refine ⟨_, res_1 rfl rfl, ?_⟩
   rw [← outAt_end, ← hjk]; exact ⟨u, rfl, rfl⟩
  have gh6 := h6
  simp only [nrm] at h6
  have gin := gh6
  have hin : ([] : List Bs).contains e.name = true := by have := gin; rw [hio, List.take_length] at this; first | exact bnot_f this | (simp at this; done)
  refine aw_skip ?_
  refine aw_seq ?_
  refine aw_sr ?_
  refine al_fp Tryz.underlying37 info31 ?_
  refine al_ld Tryz.underlying31 info31 ?_
  refine al_lm Tryz.underlying31 ?_
  refine al_mv ?_
  refine al_nil ?_
  refine aw_block ?_
  refine aw_for2T (α := Nat) (β := Nat) [0, 9, 47, 48, 49, 50, 51, 52, 53, 54] [9] (fun j u => e.kids.length - j) (fun j u => j ≤ e.kids.length) (fun j u => ([(0, .slice 0 u 0 (outAt ([] : List Bs) e j).length), (47, .v (.int .i64 ((j : Nat) : Int)))] : Env)) (fun j u s => [(0, u, .row 1 ((outAt ([] : List Bs) e j).map encBs)), (3, ver3, .row 16 [cellsE e])]) (0) (ver0) ?_ ?_ ?_ (fun j u hinv => ?_)
  ·exact Nat.zero_le _
  ·refine sub_cons (get_as rfl ?_) ?_; rotate_left; refine sub_cons (get_as rfl ?_) ?_; rotate_left; exact sub_nil
   all_goals (first | (rw [outAt_zero, addN_no gnm]; done) | (rw [outAt_zero, addN_in gnm hin]; done) | (rw [outAt_zero, addN_new gnm hin]; done) | (rw [outAt_zero, addN_no gnm]; rfl) | (rw [outAt_zero, addN_in gnm hin]; rfl) | (rw [outAt_zero, addN_new gnm hin]; rfl) | (rw [outAt_zero, addN_new gnm hin]; simp; done) | rfl | simp)
  ·first | (rw [outAt_zero, addN_no gnm]; done) | (rw [outAt_zero, addN_in gnm hin]; done) | (rw [outAt_zero, addN_new gnm hin]; done) | (rw [outAt_zero, addN_no gnm]; rfl) | (rw [outAt_zero, addN_in gnm hin]; rfl) | (rw [outAt_zero, addN_new gnm hin]; rfl) | (rw [outAt_zero, addN_new gnm hin]; simp; done) | rfl | simp
  have hj := hinv
  refine aw_sr ?_
  refine al_ls ?_
  refine al_nil ?_
  refine aw_seq ?_
  refine aw_cond rfl (fun h8 => ?_) (fun h8 => ?_)
  ·have gh8 := h8
   simp only [nrm] at h8
   refine aw_skip ?_
   refine aw_seq ?_
   refine aw_block ?_
   refine aw_sr ?_
   refine al_op (val_as (.rptr (cellsE (e.kids.getD j default))) (op_index_map default Tryz.underlying31 info37 rfl rfl rfl (by first | (with_reducible exact Int.toNat_natCast _) | rfl) (by omega) (by omega)) (by exact congrArg AVal.rptr (encE_cells _))) rfl (by simp) ?_
   refine al_lr Tryz.underlying37 info37 ?_
   refine al_al 9 info37 fun ver9 => ?_
   refine al_sp info37 ?_
   refine al_nil ?_
   have hst := outAt_step (out := ([] : List Bs)) (e := e) (i := j) (by omega)
   have hsl : (namesQ (outAt ([] : List Bs) e j) (e.kids.getD j default)).length ≤ 1000000000 := by rw [← hst]; have := outAt_le (out := ([] : List Bs)) (e := e) (i := j + 1) (by omega); omega
   refine aw_region ?_
   refine al_mv ?_
   refine al_ld Tryz.underlying37 info37 ?_
   (refine al_call into62 rfl rfl rfl (nmd_at (ih _ (getD_mem (by omega)) _ hsl) rfl rfl) (by simp) ?_; rintro _ _ ⟨ver53, rfl, rfl⟩)
   refine al_gs ?_
   refine al_nil ?_
   refine aw_region ?_
   refine al_ad ?_
   refine al_mv ?_
   refine al_nil ?_
   refine ⟨j + 1, ver53, ?_, ?_, ?_, ?_, ?_⟩
   ·omega
   ·omega
   ·refine sub_cons (get_as rfl ?_) ?_; rotate_left; refine sub_cons (get_as rfl ?_) ?_; rotate_left; exact sub_nil
    all_goals (first | rfl | (rw [outAt_step (by omega)]; done) | (rw [outAt_step (by omega)]; rfl) | simp)
   ·repeat (first | exact subx_refl | exact subx_del | refine subx_put rfl ?_)
   ·rw [outAt_step (by omega)]; rfl
  have gh8 := h8
  simp only [nrm] at h8
  refine aw_exit ?_
  have hjk : j = e.kids.length := by omega
  refine aw_sr ?_
  refine al_mv ?_
  refine al_gs ?_
  refine al_nil ?_
  refine aw_ret ?_
  refine ⟨_, res_1 rfl rfl, ?_⟩
  rw [← outAt_end, ← hjk]; exact ⟨u, rfl, rfl⟩
 have gh3 := h3
 simp only [nrm] at h3
 have gnm := gh3
 refine aw_skip ?_
 refine aw_seq ?_
 refine aw_sr ?_
 refine al_fp Tryz.underlying37 info31 ?_
 refine al_ld Tryz.underlying31 info31 ?_
 refine al_lm Tryz.underlying31 ?_
 refine al_mv ?_
 refine al_nil ?_
 refine aw_block ?_
 refine aw_for2T (α := Nat) (β := Nat) [0, 9, 47, 48, 49, 50, 51, 52, 53, 54] [9] (fun j u => e.kids.length - j) (fun j u => j ≤ e.kids.length) (fun j u => ([(0, .slice 0 u 0 (outAt ([] : List Bs) e j).length), (47, .v (.int .i64 ((j : Nat) : Int)))] : Env)) (fun j u s => [(0, u, .row 1 ((outAt ([] : List Bs) e j).map encBs)), (3, ver3, .row 16 [cellsE e])]) (0) (ver0) ?_ ?_ ?_ (fun j u hinv => ?_)
 ·exact Nat.zero_le _
 ·refine sub_cons (get_as rfl ?_) ?_; rotate_left; refine sub_cons (get_as rfl ?_) ?_; rotate_left; exact sub_nil
  all_goals (first | (rw [outAt_zero, addN_no gnm]; done) | (rw [outAt_zero, addN_in gnm hin]; done) | (rw [outAt_zero, addN_new gnm hin]; done) | (rw [outAt_zero, addN_no gnm]; rfl) | (rw [outAt_zero, addN_in gnm hin]; rfl) | (rw [outAt_zero, addN_new gnm hin]; rfl) | (rw [outAt_zero, addN_new gnm hin]; simp; done) | rfl | simp)
 ·first | (rw [outAt_zero, addN_no gnm]; done) | (rw [outAt_zero, addN_in gnm hin]; done) | (rw [outAt_zero, addN_new gnm hin]; done) | (rw [outAt_zero, addN_no gnm]; rfl) | (rw [outAt_zero, addN_in gnm hin]; rfl) | (rw [outAt_zero, addN_new gnm hin]; rfl) | (rw [outAt_zero, addN_new gnm hin]; simp; done) | rfl | simp
 have hj := hinv
 refine aw_sr ?_
 refine al_ls ?_
 refine al_nil ?_
 refine aw_seq ?_
 refine aw_cond rfl (fun h9 => ?_) (fun h9 => ?_)
 ·have gh9 := h9
  simp only [nrm] at h9
  refine aw_skip ?_
  refine aw_seq ?_
  refine aw_block ?_
  refine aw_sr ?_
  refine al_op (val_as (.rptr (cellsE (e.kids.getD j default))) (op_index_map default Tryz.underlying31 info37 rfl rfl rfl (by first | (with_reducible exact Int.toNat_natCast _) | rfl) (by omega) (by omega)) (by exact congrArg AVal.rptr (encE_cells _))) rfl (by simp) ?_
  refine al_lr Tryz.underlying37 info37 ?_
  refine al_al 9 info37 fun ver9 => ?_
  refine al_sp info37 ?_
  refine al_nil ?_
  have hst := outAt_step (out := ([] : List Bs)) (e := e) (i := j) (by omega)
  have hsl : (namesQ (outAt ([] : List Bs) e j) (e.kids.getD j default)).length ≤ 1000000000 := by rw [← hst]; have := outAt_le (out := ([] : List Bs)) (e := e) (i := j + 1) (by omega); omega
  refine aw_region ?_
  refine al_mv ?_
  refine al_ld Tryz.underlying37 info37 ?_
  (refine al_call into62 rfl rfl rfl (nmd_at (ih _ (getD_mem (by omega)) _ hsl) rfl rfl) (by simp) ?_; rintro _ _ ⟨ver53, rfl, rfl⟩)
  refine al_gs ?_
  refine al_nil ?_
  refine aw_region ?_
  refine al_ad ?_
  refine al_mv ?_
  refine al_nil ?_
  refine ⟨j + 1, ver53, ?_, ?_, ?_, ?_, ?_⟩
  ·omega
  ·omega
  ·refine sub_cons (get_as rfl ?_) ?_; rotate_left; refine sub_cons (get_as rfl ?_) ?_; rotate_left; exact sub_nil
   all_goals (first | rfl | (rw [outAt_step (by omega)]; done) | (rw [outAt_step (by omega)]; rfl) | simp)
  ·repeat (first | exact subx_refl | exact subx_del | refine subx_put rfl ?_)
  ·rw [outAt_step (by omega)]; rfl
 have gh9 := h9
 simp only [nrm] at h9
 refine aw_exit ?_
 have hjk : j = e.kids.length := by omega
 refine aw_sr ?_
 refine al_mv ?_
 refine al_gs ?_
 refine al_nil ?_
 refine aw_ret ?_
 refine ⟨_, res_1 rfl rfl, ?_⟩
 rw [← outAt_end, ← hjk]; exact ⟨u, rfl, rfl⟩
theorem r_nmd (e : Ex) : szE e = true → ∀ out, (namesQ out e).length ≤ 1000000000 → NMD Tryz.prog 62 out e := by
  induction e using Ex.ind with
  | h e ih =>
    intro hz out hL v
    obtain ⟨z1, z2, z3, z4, z5⟩ := szE_facts hz
    exact ac_mono (ac_keep (fun i => i == 0) (r_namedO out v e hz hL (fun k hk o ho => ih k hk (z5 k hk) o ho))) (by rintro r σ' ⟨σ1, ⟨ver, e1, e2⟩, e3⟩; exact ⟨ver, e1, e3.trans e2⟩)
theorem r_nmN (e : Ex) (hz : szE e = true) (hL : (namesQ ([] : List Bs) e).length ≤ 1000000000) : AC Tryz.prog 62 [.v (.slice none 0 0), .agg (cellsE (e))] [] (fun r σ' => ∃ ver, r = .ret (.slice 0 ver 0 (namesQ ([] : List Bs) e).length) ∧ σ' = [(0, ver, .row 1 ((namesQ ([] : List Bs) e).map encBs))]) :=
  ac_mono (ac_keep (fun i => i == 0) (r_namedN e hz hL (fun k hk o ho => r_nmd k ((szE_facts hz).2.2.2.2 k hk) o ho))) (by rintro r σ' ⟨σ1, ⟨ver, e1, e2⟩, e3⟩; exact ⟨ver, e1, e3.trans e2⟩)
end Go.Proofs.YtcgdlhkiecommaaGreatDoor
/- Printed walks (gen.py, lexer_ann.py): part 439. -/





namespace Go.Proofs.YtcgdlhkiecommaaGreatDoor
open Go
theorem r_NamesE (e : Ex) (hz : szE e = true) (hB : depQ e ≤ 1000000000) (hL : (namesQ ([] : List Bs) e).length ≤ 1000000000) : ACp Tryz.prog 30 [.agg (cellsE (e))] (.tuple [.list 1 ((namesRQ e).1.map encBs), .v (.int .i64 ((namesRQ e).2))]) := by
 refine acp_of rfl ?_
 refine ace 9 Tryz.func30 ?_
 refine aw_sr ?_
 refine al_bx 1 fun ver1 => ?_
 refine al_gs ?_
 refine al_gs ?_
 refine al_nil ?_
 refine aw_seq ?_
 refine aw_sr ?_
 refine al_ld Tryz.underlying37 info37 ?_
 refine al_callp into26 rfl rfl rfl (r_Valid e hz hB _) (by simp) ?_
 refine al_op (op_not rfl) rfl (by simp) ?_
 refine al_nil ?_
 refine aw_cond rfl (fun h1 => ?_) (fun h1 => ?_)
 ·have gh1 := h1
  simp only [nrm] at h1
  refine aw_sr ?_
  refine al_gs ?_
  refine al_gs ?_
  refine al_nil ?_
  refine aw_freeze (fun _ => false) (fsub_cons (t := 2) rfl (by first | exact .leaf _ _ (frz_whole rfl rfl (by first | rfl | (simp; done) | (simp; omega)) (clo_map (fun _ => rfl))) | exact .leaf _ _ (.vnil 1) | exact .leaf _ _ (.nil 1) | exact .leaf _ _ (.same _)) (fsub_cons (t := 3) rfl (.leaf _ _ (.same _)) fsub_nil)) ?_
  refine aw_ret ?_
  refine ⟨_, res_2 rfl rfl rfl rfl rfl, ?_, rfl⟩
  have hv : validQ e = false := by simpa using gh1
  rw [namesRQ, hv]; rfl
 have gh1 := h1
 simp only [nrm] at h1
 refine aw_skip ?_
 refine aw_sr ?_
 refine al_ld Tryz.underlying37 info37 ?_
 (refine al_call into62 rfl rfl rfl (own_at 8 (by decide) rfl (by simp only [AObj.rn, encBs_rn]) (r_nmN e hz hL) rfl rfl) (by simp) ?_; rintro _ _ ⟨ver8, rfl, rfl⟩)
 refine al_gs ?_
 refine al_gs ?_
 refine al_nil ?_
 refine aw_freeze (fun _ => false) (fsub_cons (t := 2) rfl (by first | exact .leaf _ _ (frz_whole rfl rfl (by first | rfl | (simp; done) | (simp; omega)) (clo_map (fun _ => rfl))) | exact .leaf _ _ (.vnil 1) | exact .leaf _ _ (.nil 1) | exact .leaf _ _ (.same _)) (fsub_cons (t := 3) rfl (.leaf _ _ (.same _)) fsub_nil)) ?_
 refine aw_ret ?_
 refine ⟨_, res_2 rfl rfl rfl rfl rfl, ?_, rfl⟩
 have hv : validQ e = true := by simpa using gh1
 rw [namesRQ, hv]; rfl
end Go.Proofs.YtcgdlhkiecommaaGreatDoor
/- Printed walks (gen.py, lexer_ann.py): part 440. -/



namespace Go.Proofs.YtcgdlhkiecommaaGreatDoor
open Go
theorem l_ExprWrites (e : Ex) (he : szX e = true) (hn : nuE e = true) : ACp Tryz.prog 4 [.agg (cellsE (e))] (.v (.bool (true))) := by
 refine acp_of rfl ?_
 have hBT : BT Tryz.prog := bt_all (fun l hl => e_isBits l hl)
 refine ace 83 Tryz.func4 ?_
 refine aw_sr ?_
 refine al_bx 1 fun ver1 => ?_
 refine al_gs ?_
 refine al_nil ?_
 refine aw_seq ?_
 refine aw_sr ?_
 refine al_ld Tryz.underlying37 info37 ?_
 refine al_op (op_list encE [e] Tryz.underlying31 info37 rfl rfl (by decide) rfl (by decide) rfl (by first | rfl | (repeat (first | exact parts_nil | refine parts_cons rfl (by repeat (first | exact all_live_nil | refine all_live_clo rfl ?_ | refine all_live_slice rfl ?_ | refine all_live_map rfl ?_ | refine all_live_ptr rfl ?_)) ?_))) rfl rfl rfl (kids1 _)) rfl (by simp) ?_
 refine al_callp into22 rfl rfl rfl (r_Few [e] (by simp) (fun x hx => by rw [List.mem_singleton.1 hx]; exact he) _) (by simp) ?_
 refine al_op (op_not rfl) rfl (by simp) ?_
 refine al_nil ?_
 refine aw_cond rfl (fun h1 => ?_) (fun h1 => ?_)
 ·have gh1 := h1
  simp only [nrm] at h1
  refine aw_sr ?_
  refine al_callp into12 rfl rfl rfl (l_awake _) (by simp) ?_
  refine al_gs ?_
  refine al_nil ?_
  refine fz1 (t := 2) ?_
  refine aw_ret ?_
  refine ⟨_, res_1 rfl rfl, ?_, rfl⟩
  rfl
 have gh1 := h1
 simp only [nrm] at h1
 refine aw_skip ?_
 refine aw_seq ?_
 have wf : WF Tryz.prog e := wf_of hBT (by simpa using gh1) hn
 have w1 := wf.tl
 have w2 := wf.dq
 have w3 := wf.nl
 have w4 := namesE_len e
 refine aw_region ?_
 refine al_ld Tryz.underlying37 info37 ?_
 refine al_callp into23 rfl rfl rfl (e_textE e wf.w wf.tk _) (by simp) ?_
 refine al_mv ?_
 refine al_xt ?_
 refine al_xt ?_
 refine al_gs ?_
 refine al_gs ?_
 refine al_sr ?_
 refine al_ld Tryz.underlying37 info37 ?_
 refine al_callp into24 rfl rfl rfl (r_TextE e wf.z wf.m (by omega) (by omega) _) (by simp) ?_
 refine al_as 22 (.tuple [.v (.string (str ((textE e).1))), .v (.int .i64 ((textE e).2))]) rfl (by rw [wf.tx]) ?_
 refine al_mv ?_
 refine al_xt ?_
 refine al_xt ?_
 refine al_gs ?_
 refine al_gs ?_
 refine al_nil ?_
 refine aw_seq ?_
 refine aw_seq ?_
 refine aw_any (Checked.mixed Tryz.checked) ?_
 apply aany_seg (p := 0) (q := 22) (by kernel_rfl) rfl (by decide)
 ·
  apply ql_plain rfl (op_move rfl)
  apply ql_plain rfl (op_move rfl)
  apply ql_plain rfl (op_sneq_str rfl rfl)
  apply ql_plain rfl (val_as (.v (.bool false)) (op_move rfl) (by simp))
  apply ql_take rfl rfl rfl rfl (op_move rfl)
  apply ql_take rfl rfl rfl rfl (op_move rfl)
  apply ql_take rfl rfl rfl rfl (op_neq rfl rfl)
  apply ql_plain rfl (op_pick rfl rfl)
  apply ql_plain rfl (val_as (.v (.bool false)) (op_move rfl) (by simp))
  apply ql_take rfl rfl rfl rfl (op_load_ptr Tryz.underlying37 info37 rfl rfl rfl rfl)
  apply ql_call_take into25 rfl rfl rfl rfl rfl rfl (e_valid e wf.w _)
  apply ql_take rfl rfl rfl rfl (op_load_ptr Tryz.underlying37 info37 rfl rfl rfl rfl)
  apply ql_call_take into26 rfl rfl rfl rfl rfl rfl (r_Valid e wf.z (by omega) _)
  apply ql_take rfl rfl rfl rfl (op_bneq Tryz.underlying4 rfl rfl)
  apply ql_plain rfl (op_pick rfl rfl)
  apply ql_plain rfl (val_as (.v (.bool false)) (op_move rfl) (by simp [wf.v]))
  apply ql_take rfl rfl rfl rfl (op_load_ptr Tryz.underlying37 info37 rfl rfl rfl rfl)
  apply ql_call_take into27 rfl rfl rfl rfl rfl rfl (e_isTargetV e wf.w _)
  apply ql_take rfl rfl rfl rfl (op_load_ptr Tryz.underlying37 info37 rfl rfl rfl rfl)
  apply ql_call_take into28 rfl rfl rfl rfl rfl rfl (r_IsTarget e wf.z (by omega) _)
  apply ql_take rfl rfl rfl rfl (op_bneq Tryz.underlying4 rfl rfl)
  apply ql_plain rfl (val_as (.v (.bool false)) (op_pick rfl rfl) (by simp [wf.v]))
  exact ql_nil
 ·simp
 refine aany_end rfl (by kernel_rfl) ?_
 refine aw_cond rfl (fun h2 => ?_) (fun h2 => ?_)
 ·have gh2 := h2
  exact absurd gh2 (by decide)
 have gh2 := h2
 simp only [nrm] at h2
 refine aw_skip ?_
 refine aw_sr ?_
 refine al_ld Tryz.underlying37 info37 ?_
 refine al_callp into29 rfl rfl rfl (e_names e wf.w (by omega) _) (by simp) ?_
 refine al_mv ?_
 refine al_xt ?_
 refine al_xt ?_
 refine al_gs ?_
 refine al_gs ?_
 refine al_sr ?_
 refine al_ld Tryz.underlying37 info37 ?_
 refine al_callp into30 rfl rfl rfl (r_NamesE e wf.z (by omega) (by omega) _) (by simp) ?_
 refine al_as 54 (.tuple [.list 1 ((namesE e).1.map encBs), .v (.int .i64 ((namesE e).2))]) rfl (by rw [wf.nm]) ?_
 refine al_mv ?_
 refine al_xt ?_
 refine al_xt ?_
 refine al_gs ?_
 refine al_gs ?_
 refine al_nil ?_
 refine aw_seq ?_
 refine aw_sr ?_
 refine al_mv ?_
 refine al_lm Tryz.underlying32 ?_
 refine al_mv ?_
 refine al_lm Tryz.underlying32 ?_
 refine al_op (op_neq rfl rfl) rfl (by simp) ?_
 refine al_mv ?_
 apply al_or 4 62 66 rfl
 ·intro h3; have gh3 := h3
  simp only [nrm] at h3
  refine tk_mv ?_
  refine tk_mv ?_
  refine al_take (op_neq rfl rfl) rfl rfl rfl rfl (by simp) ?_
  refine al_pk ?_
  exact al_nk gh3
 ·intro h3; have gh3 := h3
  simp only [nrm] at h3
  refine al_ps ?_
  refine al_ps ?_
  refine al_ps ?_
  refine al_pk ?_
  exact al_nk gh3
 refine al_nil ?_
 refine aw_cond rfl (fun h4 => ?_) (fun h4 => ?_)
 ·have gh4 := h4
  simp only [nrm] at h4
  exact absurd gh4 (by simp)
 have gh4 := h4
 simp only [nrm] at h4
 refine aw_skip ?_
 refine aw_seq ?_
 refine aw_sr ?_
 refine al_mv ?_
 refine al_lm Tryz.underlying32 ?_
 refine al_mv ?_
 refine al_nil ?_
 refine aw_block ?_
 refine aw_forT (ι := Nat) [2, 69] [] (fun i => (namesE e).1.length - i) (fun i => i ≤ (namesE e).1.length) (fun i => ([(69, .v (.int .i64 ((i : Nat) : Int)))] : Env)) (fun i s => s) (0) ?_ ?_ ?_ (fun i hinv => ?_)
 ·exact Nat.zero_le _
 ·refine sub_cons (get_as rfl ?_) ?_; rotate_left; exact sub_nil
  all_goals (first | rfl | simp)
 ·rfl
 have hi := hinv
 refine aw_sr ?_
 refine al_ls ?_
 refine al_nil ?_
 refine aw_seq ?_
 refine aw_cond rfl (fun h5 => ?_) (fun h5 => ?_)
 ·have gh5 := h5
  simp only [nrm] at h5
  refine aw_skip ?_
  refine aw_seq ?_
  refine aw_block ?_
  refine aw_sr ?_
  refine al_mv ?_
  refine al_gs ?_
  refine al_nil ?_
  refine aw_seq ?_
  refine aw_any (Checked.mixed Tryz.checked) ?_
  apply aany_seg (p := 0) (q := 9) (by kernel_rfl) rfl (by decide)
  ·
   apply ql_plain rfl (op_move rfl)
   apply ql_plain rfl (op_move rfl)
   apply ql_plain rfl (op_index_map default Tryz.underlying32 info9 rfl rfl rfl (by first | (with_reducible exact Int.toNat_natCast _) | rfl) (by omega) (by omega))
   apply ql_plain rfl (op_load_rptr Tryz.underlying9 info9 rfl rfl)
   apply ql_plain rfl (op_move rfl)
   apply ql_plain rfl (op_move rfl)
   apply ql_plain rfl (op_index_map default Tryz.underlying32 info9 rfl rfl rfl (by first | (with_reducible exact Int.toNat_natCast _) | rfl) (by omega) (by omega))
   apply ql_plain rfl (op_load_rptr Tryz.underlying9 info9 rfl rfl)
   apply ql_plain rfl (op_sneq_str rfl rfl)
   exact ql_nil
  ·simp
  refine aany_end rfl (by kernel_rfl) ?_
  refine aw_cond rfl (fun h6 => ?_) (fun h6 => ?_)
  ·have gh6 := h6
   simp only [nrm] at h6
   exact absurd gh6 (by simp)
  have gh6 := h6
  simp only [nrm] at h6
  refine aw_skip ?_
  refine aw_region ?_
  refine al_ad ?_
  refine al_mv ?_
  refine al_nil ?_
  refine ⟨i + 1, ?_, ?_, ?_, ?_, ?_⟩
  ·omega
  ·omega
  ·refine sub_cons (get_as rfl ?_) ?_; rotate_left; exact sub_nil
   all_goals (first | rfl | simp)
  ·repeat (first | exact subx_refl | exact subx_del | refine subx_put rfl ?_)
  ·rfl
 have gh5 := h5
 simp only [nrm] at h5
 refine aw_exit ?_
 refine aw_sr ?_
 refine al_callp into12 rfl rfl rfl (l_awake _) (by simp) ?_
 refine al_gs ?_
 refine al_nil ?_
 refine fz1 (t := 2) ?_
 refine aw_ret ?_
 refine ⟨_, res_1 rfl rfl, ?_, rfl⟩
 rfl
end Go.Proofs.YtcgdlhkiecommaaGreatDoor
