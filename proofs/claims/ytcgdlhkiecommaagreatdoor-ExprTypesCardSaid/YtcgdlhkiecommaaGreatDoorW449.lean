import Derived.Test.YtcgdlhkiecommaaGreatDoorW447
import Derived.Test.YtcgdlhkiecommaaGreatDoorFacts
import Derived.Test.YtcgdlhkiecommaaGreatDoorEngNest
/- Printed walks (gen.py, lexer_ann.py): part 448. -/



set_option linter.unusedVariables false
set_option linter.unusedSimpArgs false
set_option maxRecDepth 20000
set_option maxHeartbeats 40000000
namespace Go.Proofs.YtcgdlhkiecommaaGreatDoor
open Go
theorem r_tyTok1 (r : Tr) (ho : OK1 Tryz.prog r) (hne : (r.name == sArray) = false) : ACp Tryz.prog 64 [.agg (cellsR r)] (.tuple [.list 5 ((tokRQ r).map encK), .v (.bool (validR r))]) := by
 refine acp_of rfl ?_
 skip
 have o1 := ho.n
 have o2 := ho.ln
 have o3 := ho.en
 refine ace 52 Tryz.func64 ?_
 refine aw_sr ?_
 refine al_bx 1 fun ver1 => ?_
 refine al_gs ?_
 refine al_gs ?_
 refine al_nil ?_
 refine aw_seq ?_
 refine aw_sr ?_
 refine al_ld u46 info46 ?_
 refine al_callp into34 rfl rfl rfl (r_valid1 r ho hne _) (by simp) ?_
 refine al_o (op_not rfl) ?_
 refine al_nil ?_
 refine aw_cond rfl (fun h1 => ?_) (fun h1 => ?_)
 ·have gh1 := h1
  simp only [nrm] at h1
  have gq := gh1
  refine aw_sr ?_
  refine al_gs ?_
  refine al_gs ?_
  refine al_nil ?_
  refine aw_freeze (fun _ => false) (fsub_cons (t := 2) rfl (by first | exact .leaf _ _ (frz_whole rfl rfl (by first | rfl | (simp; done) | (simp; omega)) (clo_map (fun _ => rfl))) | exact .leaf _ _ (.vnil 5) | exact .leaf _ _ (.nil 5) | exact .leaf _ _ (.same _)) (fsub_cons (t := 3) rfl (.leaf _ _ (.same _)) fsub_nil)) ?_
  refine aw_ret ?_
  refine ⟨_, res_2 rfl rfl rfl rfl rfl, ?_, rfl⟩
  rw [tokRQ, show validR r = false by simpa using gq]; rfl
 have gh1 := h1
 simp only [nrm] at h1
 have gq := gh1
 have hv : validR r = true := by simpa using gq
 refine aw_skip ?_
 refine aw_seq ?_
 refine aw_sr ?_
 refine al_fp u46 info31 ?_
 refine al_ld u31 info31 ?_
 refine al_lm u31 ?_
 refine al_eq ?_
 refine al_nil ?_
 refine aw_cond rfl (fun h2 => ?_) (fun h2 => ?_)
 ·have gh2 := h2
  simp only [nrm] at h2
  have gl := gh2
  refine aw_sr ?_
  refine al_fp u46 info9 ?_
  refine al_ld u9 info9 ?_
  refine al_o (op_bs u65 info65 place65) ?_
  refine al_o (op_ol encK [tkN r.name] u22 info65) ?_
  refine al_gs ?_
  refine al_gs ?_
  refine al_nil ?_
  refine aw_freeze (fun _ => false) (fsub_cons (t := 2) rfl (by first | exact .leaf _ _ (frz_whole rfl rfl (by first | rfl | (simp; done) | (simp; omega)) (clo_map (fun _ => rfl))) | exact .leaf _ _ (.vnil 5) | exact .leaf _ _ (.nil 5) | exact .leaf _ _ (.same _)) (fsub_cons (t := 3) rfl (.leaf _ _ (.same _)) fsub_nil)) ?_
  refine aw_ret ?_
  refine ⟨_, res_2 rfl rfl rfl rfl rfl, ?_, rfl⟩
  rw [tokRQ, hv, ← tokR_name gl]; rfl
 have gh2 := h2
 simp only [nrm] at h2
 have gl := gh2
 obtain ⟨hl1, hp1, hnm⟩ := valid_len hv gl
 have hw := ho.w (r.len.getD 0 default) (getD_mem (by omega))
 have hf0 := validQ_form (hw.v.trans hp1)
 have htl := hw.tl
 have htl2 := htl
 simp at htl2
 refine aw_skip ?_
 refine aw_seq ?_
 refine aw_plan [0, 1, 2, 3, 5, 6, 7, 8, 4, 9, 10, 11] (Checked.mixed Tryz.checked) (by kernel_rfl) ?_
 refine afl_float rfl rfl (opk_of (op_field_ptr u46 rfl info9 (by decide) rfl rfl rfl)) (by simp) ?_
 refine afl_float rfl rfl (opk_of (op_load_ptr u9 info9 rfl rfl rfl rfl)) (by simp) ?_
 refine afl_float rfl rfl (opk_call into116 rfl rfl rfl (r_word r.name (by omega) _)) (by simp) ?_
 refine afl_float rfl rfl (opk_call into117 rfl rfl rfl (r_sign sOpen _)) (by simp) ?_
 refine afl_float rfl rfl (opk_of (op_field_ptr u46 rfl info31 (by decide) rfl rfl rfl)) (by simp) ?_
 refine afl_float rfl rfl (opk_of (op_load_ptr u31 info31 rfl rfl rfl rfl)) (by simp) ?_
 refine afl_float rfl rfl (opk_of (val_as (.rptr (cellsE (r.len.getD 0 default))) (op_im u31 info37) (by exact congrArg AVal.rptr (encE_cells _)))) (by simp) ?_
 refine afl_float rfl rfl (opk_of (op_load_rptr u37 info37 rfl rfl)) (by simp) ?_
 refine afl_two 9 [4, 10, 11] rfl rfl rfl rfl (by kernel_rfl) (by kernel_rfl) (by simp) (by simp) (next_opR (op_list_own encK [tkS r.name, tkO] 0 u22 info65 rfl rfl (by decide) rfl (by decide) rfl (by first | rfl | (repeat (first | exact parts_nil | refine parts_cons rfl (by repeat (first | exact all_live_nil | refine all_live_clo rfl ?_ | refine all_live_slice rfl ?_ | refine all_live_map rfl ?_ | refine all_live_ptr rfl ?_)) ?_))) rfl rfl (by first | rfl | (repeat (first | exact parts_nil | refine parts_cons rfl (by repeat (first | exact all_live_nil | refine all_live_clo rfl ?_ | refine all_live_slice rfl ?_ | refine all_live_map rfl ?_ | refine all_live_ptr rfl ?_)) ?_))) rfl rfl) ?_) (next_call into104 rfl rfl rfl (tkn_at 27 (by decide) rfl (r_toks (r.len.getD 0 default) hw.z hf0 (by omega)) rfl rfl) ?_)
 ·rintro _ _ ⟨ver22, rfl, rfl⟩; refine ⟨?_, ?_⟩
  ·
   refine loose_k rfl (opk_of (op_load_rptr u37 info37 rfl rfl)) ?_
   refine loose_k rfl (opk_of (val_as (.rptr (cellsE (r.len.getD 0 default))) (op_im u31 info37) (by exact congrArg AVal.rptr (encE_cells _)))) ?_
   refine loose_k rfl (opk_of (op_load_ptr u31 info31 rfl rfl rfl rfl)) ?_
   refine loose_k rfl (opk_of (op_field_ptr u46 rfl info31 (by decide) rfl rfl rfl)) ?_
   refine loose_anc 3 rfl (by kernel_rfl) ?_
   refine loose_anc 2 rfl (by kernel_rfl) ?_
   refine loose_anc 1 rfl (by kernel_rfl) ?_
   refine loose_anc 0 rfl (by kernel_rfl) ?_
   exact loose_nil
  (refine afl_call rfl (by kernel_rfl) into104 rfl rfl rfl (tkn_at 27 (by decide) rfl (r_toks (r.len.getD 0 default) hw.z hf0 (by omega)) rfl rfl) (by simp) ?_; rintro _ _ ⟨ver27, rfl, rfl⟩; refine ⟨_, rfl, ?_, ?_⟩)
  ·
   refine loose_fix rfl ?_
   refine loose_anc 8 rfl (by kernel_rfl) ?_
   refine loose_anc 7 rfl (by kernel_rfl) ?_
   refine loose_anc 6 rfl (by kernel_rfl) ?_
   refine loose_anc 5 rfl (by kernel_rfl) ?_
   refine loose_anc 3 rfl (by kernel_rfl) ?_
   refine loose_anc 2 rfl (by kernel_rfl) ?_
   refine loose_anc 1 rfl (by kernel_rfl) ?_
   refine loose_anc 0 rfl (by kernel_rfl) ?_
   exact loose_nil
  (refine afl_effR rfl rfl (by kernel_rfl) (op_am u22 u22 info65 48) (by simp) ?_; rintro _ _ ⟨ver28, rfl, rfl⟩; refine ⟨?_, ?_⟩)
  ·
   refine loose_fix rfl ?_
   refine loose_fix rfl ?_
   refine loose_anc 8 rfl (by kernel_rfl) ?_
   refine loose_anc 7 rfl (by kernel_rfl) ?_
   refine loose_anc 6 rfl (by kernel_rfl) ?_
   refine loose_anc 5 rfl (by kernel_rfl) ?_
   refine loose_anc 3 rfl (by kernel_rfl) ?_
   refine loose_anc 2 rfl (by kernel_rfl) ?_
   refine loose_anc 1 rfl (by kernel_rfl) ?_
   refine loose_anc 0 rfl (by kernel_rfl) ?_
   exact loose_nil
  refine afl_float rfl rfl (opk_of (op_assign rfl)) (by simp) ?_
  refine afl_end ?_
  refine aw_sr ?_
  refine al_mv ?_
  refine al_callp into117 rfl rfl rfl (r_sign sShut _) (by simp) ?_
  refine al_o (op_ol encK [tkC] u22 info65) ?_
  (refine al_opR (op_am u22 u22 info65 48) rfl (by simp) ?_; rintro _ _ ⟨ver32, rfl, rfl⟩)
  refine al_gs ?_
  refine al_nil ?_
  refine aw_seq ?_
  refine aw_sr ?_
  refine al_fp u46 info44 ?_
  refine al_ld u44 info44 ?_
  refine al_lm u44 ?_
  refine al_o (op_gtr rfl rfl) ?_
  refine al_nil ?_
  refine aw_cond rfl (fun h3 => ?_) (fun h3 => ?_)
  ·have gh3 := h3
   simp only [nrm] at h3
   have ge := gh3
   have := valid_flat hv hne; rw [decide_eq_true_eq] at gh3; omega
  have gh3 := h3
  simp only [nrm] at h3
  have ge := gh3
  refine aw_skip ?_
  refine aw_sr ?_
  refine al_mv ?_
  refine al_gs ?_
  refine al_gs ?_
  refine al_nil ?_
  refine aw_freeze (fun _ => false) (fsub_cons (t := 2) rfl (by first | exact .leaf _ _ (frz_whole rfl rfl (by first | rfl | (simp; done) | (simp; omega)) (clo_map (fun _ => rfl))) | exact .leaf _ _ (.vnil 5) | exact .leaf _ _ (.nil 5) | exact .leaf _ _ (.same _)) (fsub_cons (t := 3) rfl (.leaf _ _ (.same _)) fsub_nil)) ?_
  refine aw_ret ?_
  refine ⟨_, res_2 rfl rfl rfl rfl rfl, ?_, rfl⟩
  rw [tokRQ, hv, ← tokR_flat hl1 (valid_flat hv hne)]; rfl
 ·rintro _ _ ⟨ver27, rfl, rfl⟩; refine ⟨_, rfl, ?_, ?_⟩
  ·
   refine loose_anc 8 rfl (by kernel_rfl) ?_
   refine loose_anc 7 rfl (by kernel_rfl) ?_
   refine loose_anc 6 rfl (by kernel_rfl) ?_
   refine loose_anc 5 rfl (by kernel_rfl) ?_
   refine loose_anc 3 rfl (by kernel_rfl) ?_
   refine loose_anc 2 rfl (by kernel_rfl) ?_
   refine loose_anc 1 rfl (by kernel_rfl) ?_
   refine loose_anc 0 rfl (by kernel_rfl) ?_
   exact loose_nil
  (refine afl_effR rfl rfl (by kernel_rfl) (op_list_own encK [tkS r.name, tkO] 0 u22 info65 rfl rfl (by decide) rfl (by decide) rfl (by first | rfl | (repeat (first | exact parts_nil | refine parts_cons rfl (by repeat (first | exact all_live_nil | refine all_live_clo rfl ?_ | refine all_live_slice rfl ?_ | refine all_live_map rfl ?_ | refine all_live_ptr rfl ?_)) ?_))) rfl rfl (by first | rfl | (repeat (first | exact parts_nil | refine parts_cons rfl (by repeat (first | exact all_live_nil | refine all_live_clo rfl ?_ | refine all_live_slice rfl ?_ | refine all_live_map rfl ?_ | refine all_live_ptr rfl ?_)) ?_))) rfl rfl) (by simp) ?_; rintro _ _ ⟨ver22, rfl, rfl⟩; refine ⟨?_, ?_⟩)
  ·
   refine loose_fix rfl ?_
   refine loose_k rfl (opk_of (op_load_rptr u37 info37 rfl rfl)) ?_
   refine loose_k rfl (opk_of (val_as (.rptr (cellsE (r.len.getD 0 default))) (op_im u31 info37) (by exact congrArg AVal.rptr (encE_cells _)))) ?_
   refine loose_k rfl (opk_of (op_load_ptr u31 info31 rfl rfl rfl rfl)) ?_
   refine loose_k rfl (opk_of (op_field_ptr u46 rfl info31 (by decide) rfl rfl rfl)) ?_
   refine loose_anc 3 rfl (by kernel_rfl) ?_
   refine loose_anc 2 rfl (by kernel_rfl) ?_
   refine loose_anc 1 rfl (by kernel_rfl) ?_
   refine loose_anc 0 rfl (by kernel_rfl) ?_
   exact loose_nil
  (refine afl_effR rfl rfl (by kernel_rfl) (op_am u22 u22 info65 48) (by simp) ?_; rintro _ _ ⟨ver28, rfl, rfl⟩; refine ⟨?_, ?_⟩)
  ·
   refine loose_fix rfl ?_
   refine loose_fix rfl ?_
   refine loose_anc 8 rfl (by kernel_rfl) ?_
   refine loose_anc 7 rfl (by kernel_rfl) ?_
   refine loose_anc 6 rfl (by kernel_rfl) ?_
   refine loose_anc 5 rfl (by kernel_rfl) ?_
   refine loose_anc 3 rfl (by kernel_rfl) ?_
   refine loose_anc 2 rfl (by kernel_rfl) ?_
   refine loose_anc 1 rfl (by kernel_rfl) ?_
   refine loose_anc 0 rfl (by kernel_rfl) ?_
   exact loose_nil
  refine afl_float rfl rfl (opk_of (op_assign rfl)) (by simp) ?_
  refine afl_end ?_
  refine aw_sr ?_
  refine al_mv ?_
  refine al_callp into117 rfl rfl rfl (r_sign sShut _) (by simp) ?_
  refine al_o (op_ol encK [tkC] u22 info65) ?_
  (refine al_opR (op_am u22 u22 info65 48) rfl (by simp) ?_; rintro _ _ ⟨ver32, rfl, rfl⟩)
  refine al_gs ?_
  refine al_nil ?_
  refine aw_seq ?_
  refine aw_sr ?_
  refine al_fp u46 info44 ?_
  refine al_ld u44 info44 ?_
  refine al_lm u44 ?_
  refine al_o (op_gtr rfl rfl) ?_
  refine al_nil ?_
  refine aw_cond rfl (fun h4 => ?_) (fun h4 => ?_)
  ·have gh4 := h4
   simp only [nrm] at h4
   have ge := gh4
   have := valid_flat hv hne; rw [decide_eq_true_eq] at gh4; omega
  have gh4 := h4
  simp only [nrm] at h4
  have ge := gh4
  refine aw_skip ?_
  refine aw_sr ?_
  refine al_mv ?_
  refine al_gs ?_
  refine al_gs ?_
  refine al_nil ?_
  refine aw_freeze (fun _ => false) (fsub_cons (t := 2) rfl (by first | exact .leaf _ _ (frz_whole rfl rfl (by first | rfl | (simp; done) | (simp; omega)) (clo_map (fun _ => rfl))) | exact .leaf _ _ (.vnil 5) | exact .leaf _ _ (.nil 5) | exact .leaf _ _ (.same _)) (fsub_cons (t := 3) rfl (.leaf _ _ (.same _)) fsub_nil)) ?_
  refine aw_ret ?_
  refine ⟨_, res_2 rfl rfl rfl rfl rfl, ?_, rfl⟩
  rw [tokRQ, hv, ← tokR_flat hl1 (valid_flat hv hne)]; rfl
theorem r_tyTok2 (r : Tr) (ho2 : OK2 Tryz.prog r) : ACp Tryz.prog 64 [.agg (cellsR r)] (.tuple [.list 5 ((tokRQ r).map encK), .v (.bool (validR r))]) := by
 refine acp_of rfl ?_
 have ho := ho2.o
 have o1 := ho.n
 have o2 := ho.ln
 have o3 := ho.en
 refine ace 52 Tryz.func64 ?_
 refine aw_sr ?_
 refine al_bx 1 fun ver1 => ?_
 refine al_gs ?_
 refine al_gs ?_
 refine al_nil ?_
 refine aw_seq ?_
 refine aw_sr ?_
 refine al_ld u46 info46 ?_
 refine al_callp into34 rfl rfl rfl (r_valid2 r ho2 _) (by simp) ?_
 refine al_o (op_not rfl) ?_
 refine al_nil ?_
 refine aw_cond rfl (fun h1 => ?_) (fun h1 => ?_)
 ·have gh1 := h1
  simp only [nrm] at h1
  have gq := gh1
  refine aw_sr ?_
  refine al_gs ?_
  refine al_gs ?_
  refine al_nil ?_
  refine aw_freeze (fun _ => false) (fsub_cons (t := 2) rfl (by first | exact .leaf _ _ (frz_whole rfl rfl (by first | rfl | (simp; done) | (simp; omega)) (clo_map (fun _ => rfl))) | exact .leaf _ _ (.vnil 5) | exact .leaf _ _ (.nil 5) | exact .leaf _ _ (.same _)) (fsub_cons (t := 3) rfl (.leaf _ _ (.same _)) fsub_nil)) ?_
  refine aw_ret ?_
  refine ⟨_, res_2 rfl rfl rfl rfl rfl, ?_, rfl⟩
  rw [tokRQ, show validR r = false by simpa using gq]; rfl
 have gh1 := h1
 simp only [nrm] at h1
 have gq := gh1
 have hv : validR r = true := by simpa using gq
 refine aw_skip ?_
 refine aw_seq ?_
 refine aw_sr ?_
 refine al_fp u46 info31 ?_
 refine al_ld u31 info31 ?_
 refine al_lm u31 ?_
 refine al_eq ?_
 refine al_nil ?_
 refine aw_cond rfl (fun h2 => ?_) (fun h2 => ?_)
 ·have gh2 := h2
  simp only [nrm] at h2
  have gl := gh2
  refine aw_sr ?_
  refine al_fp u46 info9 ?_
  refine al_ld u9 info9 ?_
  refine al_o (op_bs u65 info65 place65) ?_
  refine al_o (op_ol encK [tkN r.name] u22 info65) ?_
  refine al_gs ?_
  refine al_gs ?_
  refine al_nil ?_
  refine aw_freeze (fun _ => false) (fsub_cons (t := 2) rfl (by first | exact .leaf _ _ (frz_whole rfl rfl (by first | rfl | (simp; done) | (simp; omega)) (clo_map (fun _ => rfl))) | exact .leaf _ _ (.vnil 5) | exact .leaf _ _ (.nil 5) | exact .leaf _ _ (.same _)) (fsub_cons (t := 3) rfl (.leaf _ _ (.same _)) fsub_nil)) ?_
  refine aw_ret ?_
  refine ⟨_, res_2 rfl rfl rfl rfl rfl, ?_, rfl⟩
  rw [tokRQ, hv, ← tokR_name gl]; rfl
 have gh2 := h2
 simp only [nrm] at h2
 have gl := gh2
 obtain ⟨hl1, hp1, hnm⟩ := valid_len hv gl
 have hw := ho.w (r.len.getD 0 default) (getD_mem (by omega))
 have hf0 := validQ_form (hw.v.trans hp1)
 have htl := hw.tl
 have htl2 := htl
 simp at htl2
 refine aw_skip ?_
 refine aw_seq ?_
 refine aw_plan [0, 1, 2, 3, 5, 6, 7, 8, 4, 9, 10, 11] (Checked.mixed Tryz.checked) (by kernel_rfl) ?_
 refine afl_float rfl rfl (opk_of (op_field_ptr u46 rfl info9 (by decide) rfl rfl rfl)) (by simp) ?_
 refine afl_float rfl rfl (opk_of (op_load_ptr u9 info9 rfl rfl rfl rfl)) (by simp) ?_
 refine afl_float rfl rfl (opk_call into116 rfl rfl rfl (r_word r.name (by omega) _)) (by simp) ?_
 refine afl_float rfl rfl (opk_call into117 rfl rfl rfl (r_sign sOpen _)) (by simp) ?_
 refine afl_float rfl rfl (opk_of (op_field_ptr u46 rfl info31 (by decide) rfl rfl rfl)) (by simp) ?_
 refine afl_float rfl rfl (opk_of (op_load_ptr u31 info31 rfl rfl rfl rfl)) (by simp) ?_
 refine afl_float rfl rfl (opk_of (val_as (.rptr (cellsE (r.len.getD 0 default))) (op_im u31 info37) (by exact congrArg AVal.rptr (encE_cells _)))) (by simp) ?_
 refine afl_float rfl rfl (opk_of (op_load_rptr u37 info37 rfl rfl)) (by simp) ?_
 refine afl_two 9 [4, 10, 11] rfl rfl rfl rfl (by kernel_rfl) (by kernel_rfl) (by simp) (by simp) (next_opR (op_list_own encK [tkS r.name, tkO] 0 u22 info65 rfl rfl (by decide) rfl (by decide) rfl (by first | rfl | (repeat (first | exact parts_nil | refine parts_cons rfl (by repeat (first | exact all_live_nil | refine all_live_clo rfl ?_ | refine all_live_slice rfl ?_ | refine all_live_map rfl ?_ | refine all_live_ptr rfl ?_)) ?_))) rfl rfl (by first | rfl | (repeat (first | exact parts_nil | refine parts_cons rfl (by repeat (first | exact all_live_nil | refine all_live_clo rfl ?_ | refine all_live_slice rfl ?_ | refine all_live_map rfl ?_ | refine all_live_ptr rfl ?_)) ?_))) rfl rfl) ?_) (next_call into104 rfl rfl rfl (tkn_at 27 (by decide) rfl (r_toks (r.len.getD 0 default) hw.z hf0 (by omega)) rfl rfl) ?_)
 ·rintro _ _ ⟨ver22, rfl, rfl⟩; refine ⟨?_, ?_⟩
  ·
   refine loose_k rfl (opk_of (op_load_rptr u37 info37 rfl rfl)) ?_
   refine loose_k rfl (opk_of (val_as (.rptr (cellsE (r.len.getD 0 default))) (op_im u31 info37) (by exact congrArg AVal.rptr (encE_cells _)))) ?_
   refine loose_k rfl (opk_of (op_load_ptr u31 info31 rfl rfl rfl rfl)) ?_
   refine loose_k rfl (opk_of (op_field_ptr u46 rfl info31 (by decide) rfl rfl rfl)) ?_
   refine loose_anc 3 rfl (by kernel_rfl) ?_
   refine loose_anc 2 rfl (by kernel_rfl) ?_
   refine loose_anc 1 rfl (by kernel_rfl) ?_
   refine loose_anc 0 rfl (by kernel_rfl) ?_
   exact loose_nil
  (refine afl_call rfl (by kernel_rfl) into104 rfl rfl rfl (tkn_at 27 (by decide) rfl (r_toks (r.len.getD 0 default) hw.z hf0 (by omega)) rfl rfl) (by simp) ?_; rintro _ _ ⟨ver27, rfl, rfl⟩; refine ⟨_, rfl, ?_, ?_⟩)
  ·
   refine loose_fix rfl ?_
   refine loose_anc 8 rfl (by kernel_rfl) ?_
   refine loose_anc 7 rfl (by kernel_rfl) ?_
   refine loose_anc 6 rfl (by kernel_rfl) ?_
   refine loose_anc 5 rfl (by kernel_rfl) ?_
   refine loose_anc 3 rfl (by kernel_rfl) ?_
   refine loose_anc 2 rfl (by kernel_rfl) ?_
   refine loose_anc 1 rfl (by kernel_rfl) ?_
   refine loose_anc 0 rfl (by kernel_rfl) ?_
   exact loose_nil
  (refine afl_effR rfl rfl (by kernel_rfl) (op_am u22 u22 info65 48) (by simp) ?_; rintro _ _ ⟨ver28, rfl, rfl⟩; refine ⟨?_, ?_⟩)
  ·
   refine loose_fix rfl ?_
   refine loose_fix rfl ?_
   refine loose_anc 8 rfl (by kernel_rfl) ?_
   refine loose_anc 7 rfl (by kernel_rfl) ?_
   refine loose_anc 6 rfl (by kernel_rfl) ?_
   refine loose_anc 5 rfl (by kernel_rfl) ?_
   refine loose_anc 3 rfl (by kernel_rfl) ?_
   refine loose_anc 2 rfl (by kernel_rfl) ?_
   refine loose_anc 1 rfl (by kernel_rfl) ?_
   refine loose_anc 0 rfl (by kernel_rfl) ?_
   exact loose_nil
  refine afl_float rfl rfl (opk_of (op_assign rfl)) (by simp) ?_
  refine afl_end ?_
  refine aw_sr ?_
  refine al_mv ?_
  refine al_callp into117 rfl rfl rfl (r_sign sShut _) (by simp) ?_
  refine al_o (op_ol encK [tkC] u22 info65) ?_
  (refine al_opR (op_am u22 u22 info65 48) rfl (by simp) ?_; rintro _ _ ⟨ver32, rfl, rfl⟩)
  refine al_gs ?_
  refine al_nil ?_
  refine aw_seq ?_
  refine aw_sr ?_
  refine al_fp u46 info44 ?_
  refine al_ld u44 info44 ?_
  refine al_lm u44 ?_
  refine al_o (op_gtr rfl rfl) ?_
  refine al_nil ?_
  refine aw_cond rfl (fun h3 => ?_) (fun h3 => ?_)
  ·have gh3 := h3
   simp only [nrm] at h3
   have ge := gh3
   obtain ⟨he1, he2, he3⟩ := valid_elem hv ge
   have htu := (okr_flat (ho2.u (r.elem.getD 0 default) (getD_mem (by omega))) (valid_flat he3 (by simpa using he2))).2.1
   have htu2 := htu
   simp at htu2
   refine aw_sr ?_
   refine al_fp u46 info44 ?_
   refine al_ld u44 info44 ?_
   refine al_o (val_as (.rptr (cellsR (r.elem.getD 0 default))) (op_im u44 info46) (by exact congrArg AVal.rptr (encR_cells _))) ?_
   refine al_lr u46 info46 ?_
   refine al_callp into64 rfl rfl rfl (r_tyTok1 (r.elem.getD 0 default) (ho2.u _ (getD_mem (by omega))) (by simpa using he2) _) (by simp) ?_
   refine al_as 42 (.tuple [.list 5 ((toksR (r.elem.getD 0 default)).map encK), .v (.bool (true))]) rfl (by rw [tokRQ, he3]; rfl) ?_
   refine al_mv ?_
   refine al_xt ?_
   refine al_xt ?_
   refine al_gs ?_
   refine al_gs ?_
   refine al_nil ?_
   refine aw_region ?_
   refine al_mv ?_
   refine al_callp into116 rfl rfl rfl (r_word sOf (by decide) _) (by simp) ?_
   refine al_o (op_ol encK [tkS sOf] u22 info65) ?_
   (refine al_opR (op_am u22 u22 info65 48) rfl (by simp) ?_; rintro _ _ ⟨ver48, rfl, rfl⟩)
   refine al_mv ?_
   (refine al_opR (op_am u22 u22 info65 48) rfl (by simp) ?_; rintro _ _ ⟨ver50, rfl, rfl⟩)
   refine al_gs ?_
   refine al_sr ?_
   refine al_mv ?_
   refine al_gs ?_
   refine al_gs ?_
   refine al_nil ?_
   refine aw_freeze (fun _ => false) (fsub_cons (t := 2) rfl (by first | exact .leaf _ _ (frz_whole rfl rfl (by first | rfl | (simp; done) | (simp; omega)) (clo_map (fun _ => rfl))) | exact .leaf _ _ (.vnil 5) | exact .leaf _ _ (.nil 5) | exact .leaf _ _ (.same _)) (fsub_cons (t := 3) rfl (.leaf _ _ (.same _)) fsub_nil)) ?_
   refine aw_ret ?_
   refine ⟨_, res_2 rfl rfl rfl rfl rfl, ?_, rfl⟩
   rw [tokRQ, hv, ← tokR_arr hl1 he1]; rfl
  have gh3 := h3
  simp only [nrm] at h3
  have ge := gh3
  refine aw_skip ?_
  refine aw_sr ?_
  refine al_mv ?_
  refine al_gs ?_
  refine al_gs ?_
  refine al_nil ?_
  refine aw_freeze (fun _ => false) (fsub_cons (t := 2) rfl (by first | exact .leaf _ _ (frz_whole rfl rfl (by first | rfl | (simp; done) | (simp; omega)) (clo_map (fun _ => rfl))) | exact .leaf _ _ (.vnil 5) | exact .leaf _ _ (.nil 5) | exact .leaf _ _ (.same _)) (fsub_cons (t := 3) rfl (.leaf _ _ (.same _)) fsub_nil)) ?_
  refine aw_ret ?_
  refine ⟨_, res_2 rfl rfl rfl rfl rfl, ?_, rfl⟩
  rw [tokRQ, hv, ← tokR_flat hl1 (by simp at ge; omega)]; rfl
 ·rintro _ _ ⟨ver27, rfl, rfl⟩; refine ⟨_, rfl, ?_, ?_⟩
  ·
   refine loose_anc 8 rfl (by kernel_rfl) ?_
   refine loose_anc 7 rfl (by kernel_rfl) ?_
   refine loose_anc 6 rfl (by kernel_rfl) ?_
   refine loose_anc 5 rfl (by kernel_rfl) ?_
   refine loose_anc 3 rfl (by kernel_rfl) ?_
   refine loose_anc 2 rfl (by kernel_rfl) ?_
   refine loose_anc 1 rfl (by kernel_rfl) ?_
   refine loose_anc 0 rfl (by kernel_rfl) ?_
   exact loose_nil
  (refine afl_effR rfl rfl (by kernel_rfl) (op_list_own encK [tkS r.name, tkO] 0 u22 info65 rfl rfl (by decide) rfl (by decide) rfl (by first | rfl | (repeat (first | exact parts_nil | refine parts_cons rfl (by repeat (first | exact all_live_nil | refine all_live_clo rfl ?_ | refine all_live_slice rfl ?_ | refine all_live_map rfl ?_ | refine all_live_ptr rfl ?_)) ?_))) rfl rfl (by first | rfl | (repeat (first | exact parts_nil | refine parts_cons rfl (by repeat (first | exact all_live_nil | refine all_live_clo rfl ?_ | refine all_live_slice rfl ?_ | refine all_live_map rfl ?_ | refine all_live_ptr rfl ?_)) ?_))) rfl rfl) (by simp) ?_; rintro _ _ ⟨ver22, rfl, rfl⟩; refine ⟨?_, ?_⟩)
  ·
   refine loose_fix rfl ?_
   refine loose_k rfl (opk_of (op_load_rptr u37 info37 rfl rfl)) ?_
   refine loose_k rfl (opk_of (val_as (.rptr (cellsE (r.len.getD 0 default))) (op_im u31 info37) (by exact congrArg AVal.rptr (encE_cells _)))) ?_
   refine loose_k rfl (opk_of (op_load_ptr u31 info31 rfl rfl rfl rfl)) ?_
   refine loose_k rfl (opk_of (op_field_ptr u46 rfl info31 (by decide) rfl rfl rfl)) ?_
   refine loose_anc 3 rfl (by kernel_rfl) ?_
   refine loose_anc 2 rfl (by kernel_rfl) ?_
   refine loose_anc 1 rfl (by kernel_rfl) ?_
   refine loose_anc 0 rfl (by kernel_rfl) ?_
   exact loose_nil
  (refine afl_effR rfl rfl (by kernel_rfl) (op_am u22 u22 info65 48) (by simp) ?_; rintro _ _ ⟨ver28, rfl, rfl⟩; refine ⟨?_, ?_⟩)
  ·
   refine loose_fix rfl ?_
   refine loose_fix rfl ?_
   refine loose_anc 8 rfl (by kernel_rfl) ?_
   refine loose_anc 7 rfl (by kernel_rfl) ?_
   refine loose_anc 6 rfl (by kernel_rfl) ?_
   refine loose_anc 5 rfl (by kernel_rfl) ?_
   refine loose_anc 3 rfl (by kernel_rfl) ?_
   refine loose_anc 2 rfl (by kernel_rfl) ?_
   refine loose_anc 1 rfl (by kernel_rfl) ?_
   refine loose_anc 0 rfl (by kernel_rfl) ?_
   exact loose_nil
  refine afl_float rfl rfl (opk_of (op_assign rfl)) (by simp) ?_
  refine afl_end ?_
  refine aw_sr ?_
  refine al_mv ?_
  refine al_callp into117 rfl rfl rfl (r_sign sShut _) (by simp) ?_
  refine al_o (op_ol encK [tkC] u22 info65) ?_
  (refine al_opR (op_am u22 u22 info65 48) rfl (by simp) ?_; rintro _ _ ⟨ver32, rfl, rfl⟩)
  refine al_gs ?_
  refine al_nil ?_
  refine aw_seq ?_
  refine aw_sr ?_
  refine al_fp u46 info44 ?_
  refine al_ld u44 info44 ?_
  refine al_lm u44 ?_
  refine al_o (op_gtr rfl rfl) ?_
  refine al_nil ?_
  refine aw_cond rfl (fun h4 => ?_) (fun h4 => ?_)
  ·have gh4 := h4
   simp only [nrm] at h4
   have ge := gh4
   obtain ⟨he1, he2, he3⟩ := valid_elem hv ge
   have htu := (okr_flat (ho2.u (r.elem.getD 0 default) (getD_mem (by omega))) (valid_flat he3 (by simpa using he2))).2.1
   have htu2 := htu
   simp at htu2
   refine aw_sr ?_
   refine al_fp u46 info44 ?_
   refine al_ld u44 info44 ?_
   refine al_o (val_as (.rptr (cellsR (r.elem.getD 0 default))) (op_im u44 info46) (by exact congrArg AVal.rptr (encR_cells _))) ?_
   refine al_lr u46 info46 ?_
   refine al_callp into64 rfl rfl rfl (r_tyTok1 (r.elem.getD 0 default) (ho2.u _ (getD_mem (by omega))) (by simpa using he2) _) (by simp) ?_
   refine al_as 42 (.tuple [.list 5 ((toksR (r.elem.getD 0 default)).map encK), .v (.bool (true))]) rfl (by rw [tokRQ, he3]; rfl) ?_
   refine al_mv ?_
   refine al_xt ?_
   refine al_xt ?_
   refine al_gs ?_
   refine al_gs ?_
   refine al_nil ?_
   refine aw_region ?_
   refine al_mv ?_
   refine al_callp into116 rfl rfl rfl (r_word sOf (by decide) _) (by simp) ?_
   refine al_o (op_ol encK [tkS sOf] u22 info65) ?_
   (refine al_opR (op_am u22 u22 info65 48) rfl (by simp) ?_; rintro _ _ ⟨ver48, rfl, rfl⟩)
   refine al_mv ?_
   (refine al_opR (op_am u22 u22 info65 48) rfl (by simp) ?_; rintro _ _ ⟨ver50, rfl, rfl⟩)
   refine al_gs ?_
   refine al_sr ?_
   refine al_mv ?_
   refine al_gs ?_
   refine al_gs ?_
   refine al_nil ?_
   refine aw_freeze (fun _ => false) (fsub_cons (t := 2) rfl (by first | exact .leaf _ _ (frz_whole rfl rfl (by first | rfl | (simp; done) | (simp; omega)) (clo_map (fun _ => rfl))) | exact .leaf _ _ (.vnil 5) | exact .leaf _ _ (.nil 5) | exact .leaf _ _ (.same _)) (fsub_cons (t := 3) rfl (.leaf _ _ (.same _)) fsub_nil)) ?_
   refine aw_ret ?_
   refine ⟨_, res_2 rfl rfl rfl rfl rfl, ?_, rfl⟩
   rw [tokRQ, hv, ← tokR_arr hl1 he1]; rfl
  have gh4 := h4
  simp only [nrm] at h4
  have ge := gh4
  refine aw_skip ?_
  refine aw_sr ?_
  refine al_mv ?_
  refine al_gs ?_
  refine al_gs ?_
  refine al_nil ?_
  refine aw_freeze (fun _ => false) (fsub_cons (t := 2) rfl (by first | exact .leaf _ _ (frz_whole rfl rfl (by first | rfl | (simp; done) | (simp; omega)) (clo_map (fun _ => rfl))) | exact .leaf _ _ (.vnil 5) | exact .leaf _ _ (.nil 5) | exact .leaf _ _ (.same _)) (fsub_cons (t := 3) rfl (.leaf _ _ (.same _)) fsub_nil)) ?_
  refine aw_ret ?_
  refine ⟨_, res_2 rfl rfl rfl rfl rfl, ?_, rfl⟩
  rw [tokRQ, hv, ← tokR_flat hl1 (by simp at ge; omega)]; rfl
theorem r_textR2 (r : Tr) (ho : OK2 Tryz.prog r) : ACp Tryz.prog 32 [.agg (cellsR r)] (.tuple [.v (.string (str ((textR r).1))), .v (.int .i64 ((textR r).2))]) := by
 refine acp_of rfl ?_
 refine ace 15 Tryz.func32 ?_
 refine aw_sr ?_
 refine al_bx 1 fun ver1 => ?_
 refine al_gs ?_
 refine al_gs ?_
 refine al_sr ?_
 refine al_ld u46 info46 ?_
 refine al_callp into64 rfl rfl rfl (r_tyTok2 r ho _) (by simp) ?_
 refine al_mv ?_
 refine al_xt ?_
 refine al_xt ?_
 refine al_gs ?_
 refine al_gs ?_
 refine al_nil ?_
 refine aw_seq ?_
 refine aw_sr ?_
 refine al_mv ?_
 refine al_o (op_not rfl) ?_
 refine al_nil ?_
 refine aw_cond rfl (fun h1 => ?_) (fun h1 => ?_)
 ·have gh1 := h1
  simp only [nrm] at h1
  have gq := gh1
  refine aw_sr ?_
  refine al_gs ?_
  refine al_gs ?_
  refine al_nil ?_
  refine fz2 (t := 2) (u := 3) ?_
  refine aw_ret ?_
  refine ⟨_, res_2 rfl rfl rfl rfl rfl, ?_, rfl⟩
  have hv : validR r = false := by simpa using gq
  rw [textR, hv]; rfl
 have gh1 := h1
 simp only [nrm] at h1
 have gq := gh1
 have hv : validR r = true := by simpa using gq
 refine aw_skip ?_
 refine aw_sr ?_
 refine al_mv ?_
 refine al_callp into55 rfl rfl rfl (r_joined (tokRQ r) (by rw [tokRQ, hv]; exact okk_all ho hv) (by rw [tokRQ, hv]; have := toksR_short ho hv; show (toksR r).length ≤ _; omega) _) (by simp) ?_
 refine al_gs ?_
 refine al_gs ?_
 refine al_nil ?_
 refine fz2 (t := 2) (u := 3) ?_
 refine aw_ret ?_
 refine ⟨_, res_2 rfl rfl rfl rfl rfl, ?_, rfl⟩
 rw [text_all ho hv, tokRQ, hv]; rfl
end Go.Proofs.YtcgdlhkiecommaaGreatDoor
/- Printed walks (gen.py, lexer_ann.py): part 449. -/



namespace Go.Proofs.YtcgdlhkiecommaaGreatDoor
open Go
theorem l_ExprTypes (r : Tr) (hr : szW r = true) : ACp Tryz.prog 5 [.agg (cellsR r)] (.v (.bool (true))) := by
 refine acp_of rfl ?_
 have hBT : BT Tryz.prog := bt_all (fun l hl => e_isBits l hl)
 obtain ⟨s1, s2, s3, s4, s5, s6⟩ := szW_facts hr
 refine ace 113 Tryz.func5 ?_
 refine aw_sr ?_
 refine al_bx 1 fun ver1 => ?_
 refine al_gs ?_
 refine al_sr ?_
 refine al_gs ?_
 refine al_nil ?_
 refine aw_seq ?_
 refine aw_sr ?_
 refine al_ld u46 info46 ?_
 refine al_al 4 info46 fun ver4 => ?_
 refine al_sp info46 ?_
 refine al_nil ?_
 refine aw_block ?_
 refine aw_for3T (α := Nat) (β := Tr) (γ := Nat) [3, 4] [] (fun n c v => 10 - n) (fun n c v => n ≤ 10) (fun n c v => ([(3, .v (.int .i64 ((n : Nat) : Int))), (4, .ptr 4 v 0 0)] : Env)) (fun n c v st => ([(1, ver1, .row 5 [cellsR r]), (4, v, .row 5 [cellsR c])] : Store)) (0) (r) (ver4) ?_ ?_ ?_ (fun n c v hinv => ?_)
 ·exact Nat.zero_le _
 ·refine sub_2 ?_ ?_
  all_goals (first | rfl | simp)
 ·rfl
 have hi := hinv
 refine aw_seq ?_
 refine aw_sr ?_
 refine al_mv ?_
 refine al_ls ?_
 refine al_mv ?_
 apply al_and 5 14 19 rfl
 ·intro h1; have gh1 := h1
  simp only [nrm] at h1
  refine tk_fp u46 info44 ?_
  refine tk_ld u44 info44 ?_
  refine al_t (op_len_map u44 rfl) ?_
  refine tk_eq ?_
  refine al_pk ?_
  exact al_nk gh1
 ·intro h1; have gh1 := h1
  simp only [nrm] at h1
  iterate 4 refine al_ps ?_
  refine al_pk ?_
  exact al_nk gh1
 refine al_nil ?_
 refine aw_cond rfl (fun h2 => ?_) (fun h2 => ?_)
 ·have gh2 := h2
  simp only [nrm] at h2
  refine aw_skip ?_
  refine aw_seq ?_
  refine aw_block ?_
  refine aw_region ?_
  refine al_fp u46 info44 ?_
  refine al_ld u44 info44 ?_
  refine al_o (val_as (.rptr (cellsR (c.elem.getD 0 default))) (op_im u44 info46) (by exact congrArg AVal.rptr (encR_cells _))) ?_
  refine al_lr u46 info46 ?_
  refine al_sp info46 ?_
  refine al_nil ?_
  refine aw_seq ?_
  refine aw_sr ?_
  refine al_ld u46 info46 ?_
  refine al_nil ?_
  refine aw_region ?_
  refine al_al 4 info46 fun ver4 => ?_
  refine al_sp info46 ?_
  refine al_nil ?_
  refine aw_region ?_
  refine al_mv ?_
  refine al_ad ?_
  refine al_gs ?_
  refine al_nil ?_
  refine ⟨n + 1, c.elem.getD 0 default, ver4, ?_, ?_, ?_, ?_, ?_⟩
  ·omega
  ·omega
  ·refine sub_2 ?_ ?_
   all_goals (first | rfl | simp)
  ·exact sbl
  ·rfl
 have gh2 := h2
 refine aw_exit ?_
 refine aw_seq ?_
 refine aw_sr ?_
 refine al_mv ?_
 refine al_o (op_gtr rfl rfl) ?_
 refine al_mv ?_
 apply al_or 5 29 34 rfl
 ·intro h3; have gh3 := h3
  simp only [nrm] at h3
  refine tk_fp u46 info9 ?_
  refine tk_ld u9 info9 ?_
  refine al_t (op_slen_str (ts := #[]) u9 rfl) ?_
  refine al_t (op_gtr rfl rfl) ?_
  refine al_pk ?_
  exact al_nk gh3
 ·intro h3; have gh3 := h3
  simp only [nrm] at h3
  iterate 4 refine al_ps ?_
  refine al_pk ?_
  exact al_nk gh3
 refine al_mv ?_
 apply al_or 5 35 40 rfl
 ·intro h4; have gh4 := h4
  simp only [nrm] at h4
  refine tk_fp u46 info31 ?_
  refine tk_ld u31 info31 ?_
  refine al_t (op_len_map u31 rfl) ?_
  refine al_t (op_gtr rfl rfl) ?_
  refine al_pk ?_
  exact al_nk gh4
 ·intro h4; have gh4 := h4
  simp only [nrm] at h4
  iterate 4 refine al_ps ?_
  refine al_pk ?_
  exact al_nk gh4
 refine al_mv ?_
 apply al_or 5 41 46 rfl
 ·intro h5; have gh5 := h5
  simp only [nrm] at h5
  refine tk_fp u46 info44 ?_
  refine tk_ld u44 info44 ?_
  refine al_t (op_len_map u44 rfl) ?_
  refine al_t (op_gtr rfl rfl) ?_
  refine al_pk ?_
  exact al_nk gh5
 ·intro h5; have gh5 := h5
  simp only [nrm] at h5
  iterate 4 refine al_ps ?_
  refine al_pk ?_
  exact al_nk gh5
 refine al_mv ?_
 apply al_or 5 47 52 rfl
 ·intro h6; have gh6 := h6
  simp only [nrm] at h6
  refine tk_fp u46 info31 ?_
  refine tk_ld u31 info31 ?_
  refine al_callp_take into22 rfl rfl rfl rfl rfl rfl (r_Few r.len s2 s4 _) (by simp) ?_
  refine al_t (op_not rfl) ?_
  refine al_pk ?_
  exact al_nk gh6
 ·intro h6; have gh6 := h6
  simp only [nrm] at h6
  iterate 4 refine al_ps ?_
  refine al_pk ?_
  exact al_nk gh6
 refine al_nil ?_
 refine aw_cond rfl (fun h7 => ?_) (fun h7 => ?_)
 ·have gh7 := h7
  simp only [nrm] at h7
  have gq := gh7
  refine aw_sr ?_
  refine al_callp into12 rfl rfl rfl (l_awake _) (by simp) ?_
  refine al_gs ?_
  refine al_nil ?_
  refine fz1 (t := 2) ?_
  refine aw_ret ?_
  refine ⟨_, res_1 rfl rfl, ?_, rfl⟩
  rfl
 have gh7 := h7
 simp only [nrm] at h7
 have gq := gh7
 obtain ⟨q1, q2, q3, q4⟩ := ty_guard gq
 refine aw_skip ?_
 refine aw_seq ?_
 refine aw_sr ?_
 refine al_fp u46 info44 ?_
 refine al_ld u44 info44 ?_
 refine al_lm u44 ?_
 refine al_mv ?_
 refine al_nil ?_
 refine aw_block ?_
 refine aw_forT (ι := Nat) [2, 57] [6] (fun i => r.elem.length - i) (fun i => i ≤ r.elem.length ∧ ∀ k, k < i → tyOK (r.elem.getD k default) = true) (fun i => ([(57, .v (.int .i64 ((i : Nat) : Int)))] : Env)) (fun i s => s) (0) ?_ ?_ ?_ (fun i hinv => ?_)
 ·exact ⟨Nat.zero_le _, fun k hk => absurd hk (Nat.not_lt_zero k)⟩
 ·refine sub_1 ?_
  all_goals (first | rfl | simp)
 ·rfl
 have hi := hinv.1
 refine aw_sr ?_
 refine al_ls ?_
 refine al_nil ?_
 refine aw_seq ?_
 refine aw_cond rfl (fun h8 => ?_) (fun h8 => ?_)
 ·have gh8 := h8
  simp only [nrm] at h8
  refine aw_skip ?_
  refine aw_seq ?_
  refine aw_block ?_
  refine aw_sr ?_
  refine al_o (val_as (.rptr (cellsR (r.elem.getD i default))) (op_im u44 info46) (by exact congrArg AVal.rptr (encR_cells _))) ?_
  refine al_lr u46 info46 ?_
  refine al_al 6 info46 fun ver6 => ?_
  refine al_sp info46 ?_
  refine al_sr ?_
  refine al_fp u46 info9 ?_
  refine al_ld u9 info9 ?_
  refine al_o (op_slen_str (ts := #[]) u9 rfl) ?_
  refine al_o (op_gtr rfl rfl) ?_
  refine al_mv ?_
  apply al_or 5 65 70 rfl
  ·intro h9; have gh9 := h9
   simp only [nrm] at h9
   refine tk_fp u46 info31 ?_
   refine tk_ld u31 info31 ?_
   refine al_t (op_len_map u31 rfl) ?_
   refine al_t (op_gtr rfl rfl) ?_
   refine al_pk ?_
   exact al_nk gh9
  ·intro h9; have gh9 := h9
   simp only [nrm] at h9
   iterate 4 refine al_ps ?_
   refine al_pk ?_
   exact al_nk gh9
  refine al_mv ?_
  apply al_or 5 71 76 rfl
  ·intro h10; have gh10 := h10
   simp only [nrm] at h10
   refine tk_fp u46 info44 ?_
   refine tk_ld u44 info44 ?_
   refine al_t (op_len_map u44 rfl) ?_
   refine al_t (op_gtr rfl rfl) ?_
   refine al_pk ?_
   exact al_nk gh10
  ·intro h10; have gh10 := h10
   simp only [nrm] at h10
   iterate 4 refine al_ps ?_
   refine al_pk ?_
   exact al_nk gh10
  refine al_mv ?_
  apply al_or 5 77 82 rfl
  ·intro h11; have gh11 := h11
   simp only [nrm] at h11
   refine tk_fp u46 info31 ?_
   refine tk_ld u31 info31 ?_
   refine al_callp_take into22 rfl rfl rfl rfl rfl rfl (r_Few (r.elem.getD i default).len (szW_facts (s6 _ (getD_mem (by omega)))).2.1 (szW_facts (s6 _ (getD_mem (by omega)))).2.2.2.1 _) (by simp) ?_
   refine al_t (op_not rfl) ?_
   refine al_pk ?_
   exact al_nk gh11
  ·intro h11; have gh11 := h11
   simp only [nrm] at h11
   iterate 4 refine al_ps ?_
   refine al_pk ?_
   exact al_nk gh11
  refine al_nil ?_
  refine aw_cond rfl (fun h12 => ?_) (fun h12 => ?_)
  ·have gh12 := h12
   simp only [nrm] at h12
   have gu := gh12
   refine aw_sr ?_
   refine al_callp into12 rfl rfl rfl (l_awake _) (by simp) ?_
   refine al_gs ?_
   refine al_nil ?_
   refine fz1 (t := 2) ?_
   refine aw_ret ?_
   refine ⟨_, res_1 rfl rfl, ?_, rfl⟩
   rfl
  have gh12 := h12
  simp only [nrm] at h12
  have gu := gh12
  have hu := ty_guard1 gu
  refine aw_skip ?_
  refine aw_region ?_
  refine al_ad ?_
  refine al_mv ?_
  refine al_nil ?_
  refine ⟨i + 1, ?_, ?_, ?_, ?_, ?_⟩
  ·omega
  ·exact ⟨by omega, ty_more hinv.2 hu⟩
  ·refine sub_1 ?_
   all_goals (first | rfl | simp)
  ·exact sbl
  ·rfl
 have gh8 := h8
 simp only [nrm] at h8
 refine aw_exit ?_
 have ho : OK2 Tryz.prog r := ok2_of hBT hr q1 q2 q3 q4 (fun k hk => hinv.2 k (by omega))
 refine aw_sr ?_
 refine al_ld u46 info46 ?_
 refine al_callp into31 rfl rfl rfl (e_textR2 r ho _) (by simp) ?_
 refine al_mv ?_
 refine al_xt ?_
 refine al_xt ?_
 refine al_gs ?_
 refine al_gs ?_
 refine al_sr ?_
 refine al_ld u46 info46 ?_
 refine al_callp into32 rfl rfl rfl (r_textR2 r ho _) (by simp) ?_
 refine al_mv ?_
 refine al_xt ?_
 refine al_xt ?_
 refine al_gs ?_
 refine al_gs ?_
 refine al_nil ?_
 refine aw_seq ?_
 refine aw_any (Checked.mixed Tryz.checked) ?_
 apply aany_seg (p := 0) (q := 19) (by kernel_rfl) rfl (by decide)
 ·
  apply ql_plain rfl (op_move rfl)
  apply ql_plain rfl (op_move rfl)
  apply ql_plain rfl (op_seql_str rfl rfl)
  apply ql_plain rfl (val_as (.v (.bool true)) (op_move rfl) (by simp))
  apply ql_take rfl rfl rfl rfl (op_move rfl)
  apply ql_take rfl rfl rfl rfl (op_move rfl)
  apply ql_take rfl rfl rfl rfl (op_eql rfl rfl)
  apply ql_plain rfl (op_pick rfl rfl)
  apply ql_plain rfl (val_as (.v (.bool true)) (op_move rfl) (by simp))
  apply ql_take rfl rfl rfl rfl (op_load_ptr u46 info46 rfl rfl rfl rfl)
  apply ql_call_take into33 rfl rfl rfl rfl rfl rfl (e_valid2 r ho _)
  apply ql_take rfl rfl rfl rfl (op_load_ptr u46 info46 rfl rfl rfl rfl)
  apply ql_call_take into34 rfl rfl rfl rfl rfl rfl (r_valid2 r ho _)
  apply ql_take rfl rfl rfl rfl (op_beql u4 rfl rfl)
  apply ql_plain rfl (op_pick rfl rfl)
  apply ql_plain rfl (val_as (.v (.bool true)) (op_move rfl) (by simp))
  apply ql_call_take into12 rfl rfl rfl rfl rfl rfl (l_awake _)
  apply ql_plain rfl (val_as (.v (.bool true)) (op_pick rfl rfl) (by rfl))
  apply ql_plain rfl (op_assign rfl)
  exact ql_nil
 ·simp
 refine aany_end rfl (by kernel_rfl) ?_
 refine fz1 (t := 2) ?_
 refine aw_ret ?_
 refine ⟨_, res_1 rfl rfl, ?_, rfl⟩
 rfl
end Go.Proofs.YtcgdlhkiecommaaGreatDoor
