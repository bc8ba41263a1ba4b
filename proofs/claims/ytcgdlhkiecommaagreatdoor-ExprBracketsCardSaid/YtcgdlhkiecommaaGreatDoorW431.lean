import Derived.Test.YtcgdlhkiecommaaGreatDoorW420
import Derived.Test.YtcgdlhkiecommaaGreatDoorFacts
import Derived.Test.YtcgdlhkiecommaaGreatDoorEngNest
import Derived.Test.YtcgdlhkiecommaaGreatDoorW406
import Derived.Test.YtcgdlhkiecommaaGreatDoorXWr

import Derived.Test.YtcgdlhkiecommaaGreatDoorXRef3
import Derived.Test.YtcgdlhkiecommaaGreatDoorXSame2


/- Printed walks (gen.py, lexer_ann.py): part 421. -/



set_option linter.unusedVariables false
set_option linter.unusedSimpArgs false
set_option maxRecDepth 20000
set_option maxHeartbeats 40000000
namespace Go.Proofs.YtcgdlhkiecommaaGreatDoor
open Go
theorem e_isTarget (e : Ex) (hz : szE e = true) (n : Nat) (hs : shapesP e n = true) : ACp Tryz.prog 59 [.agg (cellsE (e))] (.v (.bool (isTargP e))) := by
 refine acp_of rfl ?_
 refine ace 34 Tryz.func59 ?_
 refine aw_sr ?_
 refine al_bx 1 fun ver1 => ?_
 refine al_gs ?_
 refine al_nil ?_
 refine aw_seq ?_
 refine aw_block ?_
 refine aw_forT (ι := Ex) [] [] (fun c => SizeOf.sizeOf c) (fun c => szE c = true ∧ (∃ n, shapesP c n = true) ∧ isTargP c = isTargP e) (fun c => ([] : Env)) (fun c st => ([(1, ver1, .row 16 [cellsE c])] : Store)) (e) ?_ ?_ ?_ (fun c hinv => ?_)
 ·exact ⟨hz, ⟨n, hs⟩, rfl⟩
 ·exact sub_nil
 ·rfl
 refine aw_seq ?_
 refine aw_sr ?_
 refine al_fp u37 info25 ?_
 refine al_ld u25 info25 ?_
 refine al_eq ?_
 refine al_mv ?_
 apply al_or 4 6 10 rfl
 ·intro h1; have gh1 := h1
  simp only [nrm] at h1
  refine tk_fp u37 info25 ?_
  refine tk_ld u25 info25 ?_
  refine tk_eq ?_
  refine al_pk ?_
  exact al_nk gh1
 ·intro h1; have gh1 := h1
  simp only [nrm] at h1
  iterate 3 refine al_ps ?_
  refine al_pk ?_
  exact al_nk gh1
 refine al_nil ?_
 refine aw_cond rfl (fun h2 => ?_) (fun h2 => ?_)
 ·have gh2 := h2
  simp only [nrm] at h2
  refine aw_skip ?_
  refine aw_block ?_
  obtain ⟨n, hn⟩ := hinv.2.1
  have hk := targ_kid hn gh2
  have hk0 := hk.1
  refine aw_region ?_
  refine al_fp u37 info31 ?_
  refine al_ld u31 info31 ?_
  refine al_o (val_as (.rptr (cellsE (c.kids.getD 0 default))) (op_im u31 info37) (by exact congrArg AVal.rptr (encE_cells _))) ?_
  refine al_lr u37 info37 ?_
  refine al_sp info37 ?_
  refine al_nil ?_
  refine ⟨c.kids.getD 0 default, ?_, ?_, ?_, ?_, ?_⟩
  ·exact Ex.sz_kid (getD_mem hk.1)
  ·exact ⟨(szE_facts hinv.1).2.2.2.2 _ (getD_mem hk.1), hk.2.1, hk.2.2.trans hinv.2.2⟩
  ·exact sub_nil
  ·exact sbl
  ·rfl
 have gh2 := h2
 simp only [nrm] at h2
 refine aw_exit ?_
 refine aw_seq ?_
 obtain ⟨z1, _⟩ := szE_facts hinv.1
 refine aw_region ?_
 refine al_fp u37 info25 ?_
 refine al_ld u25 info25 ?_
 refine al_eq ?_
 refine al_mv ?_
 apply al_or 15 18 33 rfl
 ·intro h3; have gh3 := h3
  simp only [nrm] at h3
  refine tk_fp u37 info25 ?_
  refine tk_ld u25 info25 ?_
  refine tk_eq ?_
  refine tk_mv ?_
  apply al_and 5 22 27 rfl
  ·intro h4; have gh4 := h4
   simp only [nrm] at h4
   refine tk_fp u37 info31 ?_
   refine tk_ld u31 info31 ?_
   refine al_t (op_len_map u31 rfl) ?_
   refine tk_eq ?_
   refine tk_pk ?_
   exact al_nk gh4
  ·intro h4; have gh4 := h4
   simp only [nrm] at h4
   iterate 4 refine al_ps ?_
   refine tk_pk ?_
   exact al_nk gh4
  refine tk_mv ?_
  apply al_and 4 28 32 rfl
  ·intro h5; have gh5 := h5
   simp only [nrm] at h5
   refine tk_fp u37 info9 ?_
   refine tk_ld u9 info9 ?_
   refine al_callp_take into66 rfl rfl rfl rfl rfl rfl (c_isName c.name (by omega) _) (by simp) ?_
   refine tk_pk ?_
   exact al_nk gh5
  ·intro h5; have gh5 := h5
   iterate 3 refine al_ps ?_
   refine tk_pk ?_
   exact al_nk gh5
  refine al_pk ?_
  exact al_nk gh3
 ·intro h3; have gh3 := h3
  simp only [nrm] at h3
  iterate 4 refine al_ps ?_
  refine al_pu ?_
  refine al_pu ?_
  refine al_pu ?_
  refine al_pu ?_
  iterate 2 refine al_ps ?_
  refine al_pu ?_
  refine al_pu ?_
  refine al_pu ?_
  refine al_ps ?_
  refine al_pk ?_
  exact al_nk gh3
 refine al_gs ?_
 refine al_nil ?_
 refine fz1 (t := 2) ?_
 refine aw_ret ?_
 refine ⟨_, res_1 rfl rfl, ?_, rfl⟩
 rw [← hinv.2.2, targ_end gh2] <;> rfl
theorem e_isTargetV (e : Ex) (hw : OKW Tryz.prog e) : ACp Tryz.prog 27 [.agg (cellsE (e))] (.v (.bool (validP e && isTargP e))) := by
 refine acp_of rfl ?_
 refine ace 9 Tryz.func27 ?_
 refine aw_sr ?_
 refine al_bx 1 fun ver1 => ?_
 refine al_gs ?_
 refine al_sr ?_
 refine al_ld u37 info37 ?_
 refine al_callp into25 rfl rfl rfl (e_valid e hw _) (by simp) ?_
 refine al_mv ?_
 apply al_and 3 5 8 rfl
 ·intro gh1
  try (have hv0 : shapesP e 0 = true := by have := gh1; rw [validP, Bool.and_eq_true] at this; exact this.1)
  refine tk_ld u37 info37 ?_
  refine al_callp_take into59 rfl rfl rfl rfl rfl rfl (e_isTarget e hw.z 0 hv0 _) (by simp) ?_
  refine al_pk ?_
  exact al_nk gh1
 ·intro gh1
  try (have hv0 : shapesP e 0 = true := by have := gh1; rw [validP, Bool.and_eq_true] at this; exact this.1)
  iterate 2 refine al_ps ?_
  refine al_pk ?_
  exact al_nk gh1
 refine al_gs ?_
 refine al_nil ?_
 refine fz1 (t := 2) ?_
 refine aw_ret ?_
 refine ⟨_, res_1 rfl rfl, ?_, rfl⟩
 rfl
theorem e_names (e : Ex) (hw : OKW Tryz.prog e) (hlk : (toks e).length ≤ 1000000) : ACp Tryz.prog 29 [.agg (cellsE (e))] (.tuple [.list 1 ((namesE e).1.map encBs), .v (.int .i64 ((namesE e).2))]) := by
 refine acp_of rfl ?_
 refine ace 40 Tryz.func29 ?_
 refine aw_sr ?_
 refine al_bx 1 fun ver1 => ?_
 refine al_gs ?_
 refine al_gs ?_
 refine al_nil ?_
 refine aw_seq ?_
 refine aw_sr ?_
 refine al_ld u37 info37 ?_
 refine al_callp into25 rfl rfl rfl (e_valid e hw _) (by simp) ?_
 refine al_o (op_not rfl) ?_
 refine al_nil ?_
 refine aw_cond rfl (fun h1 => ?_) (fun h1 => ?_)
 ·have gh1 := h1
  simp only [nrm] at h1
  refine aw_sr ?_
  refine al_gs ?_
  refine al_gs ?_
  refine al_nil ?_
  refine aw_freeze (fun _ => false) (fsub_cons (t := 2) rfl (by first | exact .leaf _ _ (frz_whole rfl rfl (by first | rfl | (simp; done) | (simp; omega)) (clo_map (fun _ => rfl))) | exact .leaf _ _ (.vnil 1) | exact .leaf _ _ (.nil 1) | exact .leaf _ _ (.same _)) (fsub_cons (t := 3) rfl (.leaf _ _ (.same _)) fsub_nil)) ?_
  refine aw_ret ?_
  refine ⟨_, res_2 rfl rfl rfl rfl rfl, ?_, rfl⟩
  rw [namesE, show validP e = false by simpa using gh1]; rfl
 have gh1 := h1
 simp only [nrm] at h1
 refine aw_skip ?_
 refine aw_sr ?_
 refine al_gs ?_
 refine al_nil ?_
 refine aw_seq ?_
 have hv : validP e = true := by simpa using gh1
 have hv0 : shapesP e 0 = true := by have := hv; rw [validP, Bool.and_eq_true] at this; exact this.1
 refine aw_region ?_
 refine al_ld u37 info37 ?_
 refine al_callp into52 rfl rfl rfl (e_write e hw ⟨0, hv0⟩ _) (by simp) ?_
 refine al_mv ?_
 refine al_xt ?_
 refine al_xt ?_
 refine al_gs ?_
 refine al_gs ?_
 refine al_nil ?_
 refine aw_seq ?_
 refine aw_sr ?_
 refine al_mv ?_
 refine al_lm u22 ?_
 refine al_mv ?_
 refine al_nil ?_
 refine aw_block ?_
 refine aw_own_map encBs 4 1 4 rfl rfl (fun ver4 => ?_)
 refine aw_for2T (α := Nat) (β := Nat) [4, 19] [8] (fun i ver => (toks e).length - i) (fun i ver => i ≤ (toks e).length) (fun i ver => ([(4, .slice 4 ver 0 (namesT ((toks e).take i)).length), (19, .v (.int .i64 ((i : Nat) : Int)))] : Env)) (fun i ver s => s.put 4 ver (.row 1 ((namesT ((toks e).take i)).map encBs))) (0) (ver4) ?_ ?_ ?_ (fun i ver hinv => ?_)
 ·exact Nat.zero_le _
 ·refine sub_2 ?_ ?_
  all_goals (first | rfl | (simp; done) | (rw [names_add hil gh4] <;> rfl) | (rw [names_skip hil gh4] <;> rfl))
 ·rfl
 refine aw_sr ?_
 refine al_ls ?_
 refine al_nil ?_
 refine aw_seq ?_
 refine aw_cond rfl (fun h2 => ?_) (fun h2 => ?_)
 ·have gh2 := h2
  simp only [nrm] at h2
  refine aw_skip ?_
  refine aw_seq ?_
  refine aw_block ?_
  refine aw_seq ?_
  have hil : i < (toks e).length := by omega
  have hnl := namesT_len ((toks e).take i)
  rw [List.length_take] at hnl
  refine aw_region ?_
  refine al_o (op_im u22 info65) ?_
  refine al_lr u65 info65 ?_
  refine al_al 8 info65 fun ver8 => ?_
  refine al_sp info65 ?_
  refine al_sr ?_
  refine al_fp u65 info63 ?_
  refine al_ld u63 info63 ?_
  refine al_eq ?_
  refine al_mv ?_
  apply al_and 6 26 32 rfl
  ·intro h3; have gh3 := h3
   simp only [nrm] at h3
   refine tk_mv ?_
   refine tk_fp u65 info9 ?_
   refine tk_ld u9 info9 ?_
   refine al_callp_take into61 rfl rfl rfl rfl rfl rfl (acp_lent (lend_cons (by first | exact lend_same | exact .leaf _ _ (.vnil _) | exact .leaf _ _ (.nil _) | exact lend_whole rfl (by first | rfl | (simp; done) | (simp; omega)) (clo_map (fun _ => rfl))) (lend_cons (by first | exact lend_same | exact .leaf _ _ (.vnil _) | exact .leaf _ _ (.nil _) | exact lend_whole rfl (by first | rfl | (simp; done) | (simp; omega)) (clo_map (fun _ => rfl))) lend_nil)) (q_member _ _ (by first | assumption | omega | (simp; done) | (simp; omega) | decide)) rfl) (by simp) ?_
   refine al_t (op_not rfl) ?_
   refine al_pk ?_
   exact al_nk gh3
  ·intro h3; have gh3 := h3
   simp only [nrm] at h3
   iterate 5 refine al_ps ?_
   refine al_pk ?_
   exact al_nk gh3
  refine al_nil ?_
  refine aw_cond rfl (fun h4 => ?_) (fun h4 => ?_)
  ·have gh4 := h4
   simp only [nrm] at h4
   refine aw_region ?_
   refine al_mv ?_
   refine al_fp u65 info9 ?_
   refine al_ld u9 info9 ?_
   refine al_o (op_buildSlice u32 info9 rfl rfl (by decide) rfl (by decide) rfl (by first | rfl | (repeat (first | exact parts_nil | refine parts_cons rfl (by repeat (first | exact all_live_nil | refine all_live_clo rfl ?_ | refine all_live_slice rfl ?_ | refine all_live_map rfl ?_ | refine all_live_ptr rfl ?_)) ?_))) rfl rfl rfl) ?_
   (refine al_opR (op_append_one ((toks e).getD i default).text u32 u32 rfl info9 rfl rfl (by decide) rfl rfl rfl (by first | rfl | simp) rfl rfl (by first | omega | (simp; done) | (simp; omega)) (by show _ * 16 ≤ _; first | omega | (simp; done) | (simp; omega))) rfl (by simp) ?_; rintro _ _ ⟨ver37, rfl, rfl⟩)
   refine al_gs ?_
   refine al_nil ?_
   refine aw_region ?_
   refine al_ad ?_
   refine al_mv ?_
   refine al_nil ?_
   refine ⟨i + 1, ver37, ?_, ?_, ?_, ?_, ?_⟩
   ·omega
   ·omega
   ·refine sub_2 ?_ ?_
    all_goals (first | rfl | (simp; done) | (rw [names_add hil gh4] <;> rfl) | (rw [names_skip hil gh4] <;> rfl))
   ·exact sbl
   ·first | (rw [names_add hil gh4] <;> rfl) | (rw [names_skip hil gh4] <;> rfl)
  have gh4 := h4
  refine aw_skip ?_
  refine aw_region ?_
  refine al_ad ?_
  refine al_mv ?_
  refine al_nil ?_
  refine ⟨i + 1, ver, ?_, ?_, ?_, ?_, ?_⟩
  ·omega
  ·omega
  ·refine sub_2 ?_ ?_
   all_goals (first | rfl | (simp; done) | (rw [names_add hil gh4] <;> rfl) | (rw [names_skip hil gh4] <;> rfl))
  ·exact sbl
  ·first | (rw [names_add hil gh4] <;> rfl) | (rw [names_skip hil gh4] <;> rfl)
 have gh2 := h2
 simp only [nrm] at h2
 refine aw_exit ?_
 obtain rfl : i = (toks e).length := by omega
 refine aw_as 4 (.slice 4 ver 0 (namesT (toks e)).length) rfl (by rw [List.take_length]) ?_
 refine aw_sr ?_
 refine al_mv ?_
 refine al_gs ?_
 refine al_gs ?_
 refine al_nil ?_
 refine aw_freeze (fun _ => false) (fsub_cons (t := 2) rfl (by first | exact .leaf _ _ (frz_whole rfl rfl (by first | rfl | (simp; done) | (simp; omega)) (clo_map (fun _ => rfl))) | exact .leaf _ _ (.vnil 1) | exact .leaf _ _ (.nil 1) | exact .leaf _ _ (.same _)) (fsub_cons (t := 3) rfl (.leaf _ _ (.same _)) fsub_nil)) ?_
 refine aw_ret ?_
 refine ⟨_, res_2 rfl rfl rfl rfl rfl, ?_, rfl⟩
 rw [namesE, hv, List.take_length]; rfl
end Go.Proofs.YtcgdlhkiecommaaGreatDoor
/- Printed walks (gen.py, lexer_ann.py): part 422. -/



namespace Go.Proofs.YtcgdlhkiecommaaGreatDoor
open Go
theorem e_ref (r : Tr) : OKR Tryz.prog r → shR r → WRX Tryz.prog r := by
  induction r using Tr.ind with
  | h r ih =>
    intro ho hs
    obtain ⟨o1, o2, o3, o4, o5, o6, o7⟩ := OKR_facts ho
    obtain ⟨s1, s2⟩ := shR_facts hs
    intro v0 v1 out d m τ hb hd0 hdm hm hno hdd
    exact wr_lift rfl (e_refS v0 v1 out d m hd0 hdm hm r o1 o2 o3 (fun e he => e_wexpr e (o4 e he).z (o4 e he).b (s1 e he)) (fun u hu => ih u hu (o7 u hu) (s2 u hu)) hno hdd) τ hb
theorem e_deepest (r : Tr) (ho : OKR Tryz.prog r) (hs : shR r) : ACp Tryz.prog 65 [.agg (cellsR r)] (.v (.bool (okR r))) := by
 refine acp_of rfl ?_
 obtain ⟨o1, o2, o3, o4, o5, o6, o7⟩ := OKR_facts ho
 refine ace 12 Tryz.func65 ?_
 refine aw_sr ?_
 refine al_bx 1 fun ver1 => ?_
 refine al_gs ?_
 refine al_sr ?_
 refine al_ld u46 info46 ?_
 refine al_callp into63 rfl rfl rfl (e_writeT r (e_ref r ho hs) o5 o6 _) (by simp) ?_
 refine al_mv ?_
 refine al_xt ?_
 refine al_xt ?_
 refine al_gs ?_
 refine al_gs ?_
 refine al_sr ?_
 refine al_mv ?_
 refine al_o (op_leq rfl rfl) ?_
 refine al_gs ?_
 refine al_nil ?_
 refine fz1 (t := 2) ?_
 refine aw_ret ?_
 refine ⟨_, res_1 rfl rfl, ?_, rfl⟩
 rfl
theorem e_validRS (r : Tr) (ho : OKR Tryz.prog r) (ih : ∀ u ∈ r.elem, ACp Tryz.prog 33 [.agg (cellsR u)] (.v (.bool (validR u)))) : ACp Tryz.prog 33 [.agg (cellsR r)] (.v (.bool (validR r))) := by
 refine acp_of rfl ?_
 obtain ⟨o1, o2, o3, o4, o5, o6, o7⟩ := OKR_facts ho
 refine ace 81 Tryz.func33 ?_
 refine aw_sr ?_
 refine al_bx 1 fun ver1 => ?_
 refine al_gs ?_
 refine al_nil ?_
 refine aw_seq ?_
 refine aw_sr ?_
 refine al_fp u46 info9 ?_
 refine al_ld u9 info9 ?_
 refine al_nil ?_
 refine aw_block ?_
 refine aw_sr ?_
 refine al_o (op_seql_str rfl rfl) ?_
 refine al_gs ?_
 refine al_nil ?_
 refine aw_cond rfl (fun h1 => ?_) (fun h1 => ?_)
 ·have gh1 := h1
  simp only [nrm] at h1
  refine aw_sr ?_
  refine al_fp u46 info31 ?_
  refine al_ld u31 info31 ?_
  refine al_lm u31 ?_
  refine al_eq ?_
  refine al_mv ?_
  apply al_and 5 11 16 rfl
  ·intro h2; have gh2 := h2
   simp only [nrm] at h2
   refine tk_fp u46 info44 ?_
   refine tk_ld u44 info44 ?_
   refine al_t (op_len_map u44 rfl) ?_
   refine tk_eq ?_
   refine al_pk ?_
   exact al_nk gh2
  ·intro h2; have gh2 := h2
   simp only [nrm] at h2
   iterate 4 refine al_ps ?_
   refine al_pk ?_
   exact al_nk gh2
  refine al_mv ?_
  apply al_and 6 17 23 rfl
  ·intro h3; have gh3 := h3
   simp only [nrm] at h3
   refine tk_fp u46 info31 ?_
   refine tk_ld u31 info31 ?_
   refine al_t (val_as (.rptr (cellsE (r.len.getD 0 default))) (op_im u31 info37) (by exact congrArg AVal.rptr (encE_cells _))) ?_
   refine al_t (op_load_rptr u37 info37 rfl rfl) ?_
   refine al_callp_take into25 rfl rfl rfl rfl rfl rfl (e_valid (r.len.getD 0 default) (o4 _ (getD_mem (by omega))) _) (by simp) ?_
   refine al_pk ?_
   exact al_nk gh3
  ·intro h3; have gh3 := h3
   iterate 5 refine al_ps ?_
   refine al_pk ?_
   exact al_nk gh3
  refine al_mv ?_
  apply al_and 3 24 27 rfl
  ·intro h4; have gh4 := h4
   simp only [nrm] at h4
   refine tk_ld u46 info46 ?_
   refine al_callp_take into65 rfl rfl rfl rfl rfl rfl (e_deepest r ho (sh_vec (by assumption)) _) (by simp) ?_
   refine al_pk ?_
   exact al_nk gh4
  ·intro h4; have gh4 := h4
   iterate 2 refine al_ps ?_
   refine al_pk ?_
   exact al_nk gh4
  refine al_gs ?_
  refine al_nil ?_
  refine fz1 (t := 2) ?_
  refine aw_ret ?_
  refine ⟨_, res_1 rfl rfl, ?_, rfl⟩
  rw [validR_eq, show (r.name == sVec) = true from gh1]; rfl
 have gh1 := h1
 simp only [nrm] at h1
 refine aw_sr ?_
 refine al_o (op_seql_str rfl rfl) ?_
 refine al_gs ?_
 refine al_nil ?_
 refine aw_cond rfl (fun h5 => ?_) (fun h5 => ?_)
 ·have gh5 := h5
  simp only [nrm] at h5
  refine aw_sr ?_
  refine al_fp u46 info31 ?_
  refine al_ld u31 info31 ?_
  refine al_lm u31 ?_
  refine al_eq ?_
  refine al_mv ?_
  apply al_and 5 34 39 rfl
  ·intro h6; have gh6 := h6
   simp only [nrm] at h6
   refine tk_fp u46 info44 ?_
   refine tk_ld u44 info44 ?_
   refine al_t (op_len_map u44 rfl) ?_
   refine tk_eq ?_
   refine al_pk ?_
   exact al_nk gh6
  ·intro h6; have gh6 := h6
   simp only [nrm] at h6
   iterate 4 refine al_ps ?_
   refine al_pk ?_
   exact al_nk gh6
  refine al_mv ?_
  apply al_and 6 40 46 rfl
  ·intro h7; have gh7 := h7
   simp only [nrm] at h7
   refine tk_fp u46 info31 ?_
   refine tk_ld u31 info31 ?_
   refine al_t (val_as (.rptr (cellsE (r.len.getD 0 default))) (op_im u31 info37) (by exact congrArg AVal.rptr (encE_cells _))) ?_
   refine al_t (op_load_rptr u37 info37 rfl rfl) ?_
   refine al_callp_take into25 rfl rfl rfl rfl rfl rfl (e_valid (r.len.getD 0 default) (o4 _ (getD_mem (by omega))) _) (by simp) ?_
   refine al_pk ?_
   exact al_nk gh7
  ·intro h7; have gh7 := h7
   iterate 5 refine al_ps ?_
   refine al_pk ?_
   exact al_nk gh7
  refine al_mv ?_
  apply al_and 7 47 54 rfl
  ·intro h8; have gh8 := h8
   simp only [nrm] at h8
   refine tk_fp u46 info44 ?_
   refine tk_ld u44 info44 ?_
   refine al_t (val_as (.rptr (cellsR (r.elem.getD 0 default))) (op_im u44 info46) (by exact congrArg AVal.rptr (encR_cells _))) ?_
   refine al_t (op_field_rptr u46 rfl info9 (by decide) rfl rfl) ?_
   refine al_t (op_load_rptr u9 info9 rfl rfl) ?_
   refine al_t (op_sneq_str rfl rfl) ?_
   refine al_pk ?_
   exact al_nk gh8
  ·intro h8; have gh8 := h8
   iterate 6 refine al_ps ?_
   refine al_pk ?_
   exact al_nk gh8
  refine al_mv ?_
  apply al_and 6 55 61 rfl
  ·intro h9; have gh9 := h9
   simp only [nrm] at h9
   refine tk_fp u46 info44 ?_
   refine tk_ld u44 info44 ?_
   refine al_t (val_as (.rptr (cellsR (r.elem.getD 0 default))) (op_im u44 info46) (by exact congrArg AVal.rptr (encR_cells _))) ?_
   refine al_t (op_load_rptr u46 info46 rfl rfl) ?_
   refine al_callp_take into33 rfl rfl rfl rfl rfl rfl (ih (r.elem.getD 0 default) (getD_mem (by omega)) _) (by simp) ?_
   refine al_pk ?_
   exact al_nk gh9
  ·intro h9; have gh9 := h9
   iterate 5 refine al_ps ?_
   refine al_pk ?_
   exact al_nk gh9
  refine al_mv ?_
  apply al_and 3 62 65 rfl
  ·intro h10; have gh10 := h10
   simp only [nrm] at h10
   refine tk_ld u46 info46 ?_
   refine al_callp_take into65 rfl rfl rfl rfl rfl rfl (e_deepest r ho (sh_arr (by assumption)) _) (by simp) ?_
   refine al_pk ?_
   exact al_nk gh10
  ·intro h10; have gh10 := h10
   iterate 2 refine al_ps ?_
   refine al_pk ?_
   exact al_nk gh10
  refine al_gs ?_
  refine al_nil ?_
  refine fz1 (t := 2) ?_
  refine aw_ret ?_
  refine ⟨_, res_1 rfl rfl, ?_, rfl⟩
  rw [validR_arr (show (r.name == sVec) = false from gh1) (show (r.name == sArray) = true from gh5)]; rfl
 have gh5 := h5
 simp only [nrm] at h5
 refine aw_skip ?_
 refine aw_sr ?_
 refine al_fp u46 info9 ?_
 refine al_ld u9 info9 ?_
 refine al_callp into66 rfl rfl rfl (c_isName r.name (by omega) _) (by simp) ?_
 refine al_mv ?_
 apply al_and 5 69 74 rfl
 ·intro gh11
  refine tk_fp u46 info31 ?_
  refine tk_ld u31 info31 ?_
  refine al_t (op_len_map u31 rfl) ?_
  refine tk_eq ?_
  refine al_pk ?_
  exact al_nk gh11
 ·intro gh11
  iterate 4 refine al_ps ?_
  refine al_pk ?_
  exact al_nk gh11
 refine al_mv ?_
 apply al_and 5 75 80 rfl
 ·intro h12; have gh12 := h12
  simp only [nrm] at h12
  refine tk_fp u46 info44 ?_
  refine tk_ld u44 info44 ?_
  refine al_t (op_len_map u44 rfl) ?_
  refine tk_eq ?_
  refine al_pk ?_
  exact al_nk gh12
 ·intro h12; have gh12 := h12
  iterate 4 refine al_ps ?_
  refine al_pk ?_
  exact al_nk gh12
 refine al_gs ?_
 refine al_nil ?_
 refine fz1 (t := 2) ?_
 refine aw_ret ?_
 refine ⟨_, res_1 rfl rfl, ?_, rfl⟩
 rw [validR_eq, show (r.name == sVec) = false from gh1, show (r.name == sArray) = false from gh5]; rfl
theorem e_validR (r : Tr) : OKR Tryz.prog r → ACp Tryz.prog 33 [.agg (cellsR r)] (.v (.bool (validR r))) := by
  induction r using Tr.ind with
  | h r ih =>
    intro ho
    obtain ⟨o1, o2, o3, o4, o5, o6, o7⟩ := OKR_facts ho
    exact e_validRS r ho (fun u hu => ih u hu (o7 u hu))
theorem e_textR (r : Tr) (ho : OKR Tryz.prog r) (ht : OKTs (toksR r)) : ACp Tryz.prog 31 [.agg (cellsR r)] (.tuple [.v (.string (str ((textR r).1))), .v (.int .i64 ((textR r).2))]) := by
 refine acp_of rfl ?_
 obtain ⟨o1, o2, o3, o4, o5, o6, o7⟩ := OKR_facts ho
 refine ace 18 Tryz.func31 ?_
 refine aw_sr ?_
 refine al_bx 1 fun ver1 => ?_
 refine al_gs ?_
 refine al_gs ?_
 refine al_nil ?_
 refine aw_seq ?_
 refine aw_sr ?_
 refine al_ld u46 info46 ?_
 refine al_callp into33 rfl rfl rfl (e_validR r ho _) (by simp) ?_
 refine al_o (op_not rfl) ?_
 refine al_nil ?_
 refine aw_cond rfl (fun h1 => ?_) (fun h1 => ?_)
 ·have gh1 := h1
  simp only [nrm] at h1
  refine aw_sr ?_
  refine al_gs ?_
  refine al_gs ?_
  refine al_nil ?_
  refine fz2 (t := 2) (u := 3) ?_
  refine aw_ret ?_
  refine ⟨_, res_2 rfl rfl rfl rfl rfl, ?_, rfl⟩
  rw [textR, show validR r = false by simpa using gh1]; rfl
 have gh1 := h1
 simp only [nrm] at h1
 refine aw_skip ?_
 refine aw_seq ?_
 have hv : validR r = true := by simpa using gh1
 refine aw_region ?_
 refine al_ld u46 info46 ?_
 refine al_callp into63 rfl rfl rfl (e_writeT r (e_ref r ho (validR_sh r hv)) o5 o6 _) (by simp) ?_
 refine al_mv ?_
 refine al_xt ?_
 refine al_xt ?_
 refine al_gs ?_
 refine al_gs ?_
 refine al_sr ?_
 refine al_mv ?_
 refine al_callp into53 rfl rfl rfl (c_Text (toksR r) ht (by omega) _) (by simp) ?_
 refine al_xt ?_
 refine al_xt ?_
 refine al_gs ?_
 refine al_gs ?_
 refine al_nil ?_
 refine fz2 (t := 2) (u := 3) ?_
 refine aw_ret ?_
 refine ⟨_, res_2 rfl rfl rfl rfl rfl, ?_, rfl⟩
 rw [textR, hv]; rfl
end Go.Proofs.YtcgdlhkiecommaaGreatDoor
/- Printed walks (gen.py, lexer_ann.py): part 320. -/





namespace Go.Proofs.YtcgdlhkiecommaaGreatDoor
open Go
theorem r_same (l : List Tk) (hb : l.length ≤ 1000000000) : ACp Tryz.prog 21 [.list 5 (l.map encK), .list 5 (l.map encK)] (.v (.bool (true))) := by
 refine acp_of rfl ?_
 refine ace 45 Tryz.func21 ?_
 refine aw_sr ?_
 refine al_gs ?_
 refine al_nil ?_
 refine aw_seq ?_
 refine aw_sr ?_
 refine al_mv ?_
 refine al_lm u22 ?_
 refine al_mv ?_
 refine al_nil ?_
 refine aw_block ?_
 refine aw_forT (ι := Nat) [4, 8] [] (fun i => l.length - i) (fun i => i ≤ l.length) (fun i => ([(8, .v (.int .i64 (i)))] : Env)) (fun i s => s) (0) ?_ ?_ ?_ (fun i hinv => ?_)
 ·exact Nat.zero_le _
 ·refine sub_1 ?_
  all_goals (first | rfl | simp)
 ·rfl
 refine aw_sr ?_
 refine al_ls ?_
 refine al_nil ?_
 refine aw_seq ?_
 refine aw_cond rfl (fun h1 => ?_) (fun h1 => ?_)
 ·have gh1 := h1
  simp only [nrm] at h1
  refine aw_skip ?_
  refine aw_seq ?_
  refine aw_block ?_
  refine aw_sr ?_
  refine al_mv ?_
  refine al_gs ?_
  refine al_nil ?_
  refine aw_seq ?_
  refine aw_any (Checked.mixed Tryz.checked) ?_
  apply aany_seg (p := 0) (q := 30) (by kernel_rfl) rfl (by decide)
  ·
   apply ql_plain rfl (op_move rfl)
   apply ql_plain rfl (op_move rfl)
   apply ql_plain rfl (op_len_map u22 rfl)
   apply ql_plain rfl (op_lss rfl rfl)
   apply ql_plain rfl (val_as (.v (.bool true)) (op_move rfl) (by rw [decide_eq_true (by omega)]))
   apply ql_take rfl rfl rfl rfl (op_move rfl)
   apply ql_take rfl rfl rfl rfl (op_move rfl)
   apply ql_take rfl rfl rfl rfl (op_im u22 info65)
   apply ql_take rfl rfl rfl rfl (op_field_rptr u65 rfl info3 (by decide) rfl rfl)
   apply ql_take rfl rfl rfl rfl (op_load_rptr u3 info3 rfl rfl)
   apply ql_take rfl rfl rfl rfl (op_move rfl)
   apply ql_take rfl rfl rfl rfl (op_move rfl)
   apply ql_take rfl rfl rfl rfl (op_im u22 info65)
   apply ql_take rfl rfl rfl rfl (op_field_rptr u65 rfl info3 (by decide) rfl rfl)
   apply ql_take rfl rfl rfl rfl (op_load_rptr u3 info3 rfl rfl)
   apply ql_take rfl rfl rfl rfl (val_as (.v (.bool (false))) (op_neq rfl rfl) (by simp))
   apply ql_take rfl rfl rfl rfl (val_as (.v (.bool false)) (op_move rfl) (by rfl))
   apply ql_take rfl rfl rfl rfl (op_move rfl)
   apply ql_take rfl rfl rfl rfl (op_move rfl)
   apply ql_take rfl rfl rfl rfl (op_im u22 info65)
   apply ql_take rfl rfl rfl rfl (op_field_rptr u65 rfl info3 (by decide) rfl rfl)
   apply ql_take rfl rfl rfl rfl (op_load_rptr u3 info3 rfl rfl)
   apply ql_take rfl rfl rfl rfl (op_move rfl)
   apply ql_take rfl rfl rfl rfl (op_move rfl)
   apply ql_take rfl rfl rfl rfl (op_im u22 info65)
   apply ql_take rfl rfl rfl rfl (op_field_rptr u65 rfl info3 (by decide) rfl rfl)
   apply ql_take rfl rfl rfl rfl (op_load_rptr u3 info3 rfl rfl)
   apply ql_take rfl rfl rfl rfl (val_as (.v (.bool (false))) (op_neq rfl rfl) (by simp))
   apply ql_take rfl rfl rfl rfl (op_pick rfl rfl)
   apply ql_plain rfl (op_pick rfl rfl)
   exact ql_nil
  ·simp
  refine aany_end rfl (by kernel_rfl) ?_
  refine aw_cond rfl (fun h2 => ?_) (fun h2 => ?_)
  ·have gh2 := h2
   exact absurd gh2 (by simp)
  have gh2 := h2
  simp only [nrm] at h2
  refine aw_skip ?_
  refine aw_region ?_
  refine al_ad ?_
  refine al_mv ?_
  refine al_nil ?_
  refine ⟨i + 1, ?_, ?_, ?_, ?_, ?_⟩
  ·omega
  ·first | trivial | omega
  ·refine sub_1 ?_
   all_goals (first | rfl | simp)
  ·exact sbl
  ·rfl
 have gh1 := h1
 simp only [nrm] at h1
 refine aw_exit ?_
 refine aw_sr ?_
 refine al_mv ?_
 refine al_mv ?_
 refine al_callp into49 rfl rfl rfl ((r_alike _ _ (by first | assumption | omega | (simp; done) | (simp; omega) | decide)) _) (by simp) ?_
 refine al_gs ?_
 refine al_nil ?_
 refine fz1 (t := 4) ?_
 refine aw_ret ?_
 refine ⟨_, res_1 rfl rfl, ?_, rfl⟩
 rw [alike_self]
theorem r_blank (c : UInt8) : ACp Tryz.prog 171 [.v (.int .u8 ((c).toNat : Int))] (.v (.bool (isBlankC c))) := by
 refine acp_of rfl ?_
 refine ace 17 Tryz.func171 ?_
 refine aw_sr ?_
 refine al_gs ?_
 refine al_sr ?_
 refine al_mv ?_
 refine al_eq ?_
 refine al_mv ?_
 apply al_or 3 5 8 rfl
 ·intro h1; have gh1 := h1
  simp only [nrm] at h1
  refine tk_mv ?_
  refine tk_eq ?_
  refine al_pk ?_
  exact al_nk gh1
 ·intro h1; have gh1 := h1
  simp only [nrm] at h1
  iterate 2 refine al_ps ?_
  refine al_pk ?_
  exact al_nk gh1
 refine al_mv ?_
 apply al_or 3 9 12 rfl
 ·intro h2; have gh2 := h2
  simp only [nrm] at h2
  refine tk_mv ?_
  refine tk_eq ?_
  refine al_pk ?_
  exact al_nk gh2
 ·intro h2; have gh2 := h2
  simp only [nrm] at h2
  iterate 2 refine al_ps ?_
  refine al_pk ?_
  exact al_nk gh2
 refine al_mv ?_
 apply al_or 3 13 16 rfl
 ·intro h3; have gh3 := h3
  simp only [nrm] at h3
  refine tk_mv ?_
  refine tk_eq ?_
  refine al_pk ?_
  exact al_nk gh3
 ·intro h3; have gh3 := h3
  simp only [nrm] at h3
  iterate 2 refine al_ps ?_
  refine al_pk ?_
  exact al_nk gh3
 refine al_gs ?_
 refine al_nil ?_
 refine fz1 (t := 2) ?_
 refine aw_ret ?_
 refine ⟨_, res_1 rfl rfl, ?_, rfl⟩
 rw [isBlankC_int]
theorem r_num (s : Bs) (hs : s.length ≤ 1000000000) (hd : s.all isDigitC = true) : ACp Tryz.prog 174 [.v (.string (str (s)))] (.v (.int .i64 (numR s))) := by
 refine acp_of rfl ?_
 refine ace 22 Tryz.func174 ?_
 refine aw_sr ?_
 refine al_gs ?_
 refine al_sr ?_
 refine al_gs ?_
 refine al_nil ?_
 refine aw_seq ?_
 refine aw_sr ?_
 refine al_mv ?_
 refine al_o (op_slen_str (ts := #[]) u9 rfl) ?_
 refine al_mv ?_
 refine al_nil ?_
 refine aw_block ?_
 refine aw_forT (ι := Nat) [2, 3, 7] [] (fun i => s.length - i) (fun i => i ≤ s.length ∧ decV (s.take i) ≤ 2147483647) (fun i => ([(3, .v (.int .i64 ((decV (s.take i) : Nat) : Int))), (7, .v (.int .i64 (i)))] : Env)) (fun i s => s) (0) ?_ ?_ ?_ (fun i hinv => ?_)
 ·exact ⟨Nat.zero_le _, by simp [decV]⟩
 ·refine sub_2 ?_ ?_
  all_goals (first | rfl | (rw [decI_take (by omega) hdi.1] <;> rfl) | simp)
 ·rfl
 have hi := hinv.1
 refine aw_sr ?_
 refine al_ls ?_
 refine al_nil ?_
 refine aw_seq ?_
 refine aw_cond rfl (fun h1 => ?_) (fun h1 => ?_)
 ·have gh1 := h1
  simp only [nrm] at h1
  refine aw_skip ?_
  refine aw_seq ?_
  refine aw_block ?_
  refine aw_sr ?_
  refine al_mv ?_
  refine al_gs ?_
  refine al_nil ?_
  refine aw_seq ?_
  have hdi := digit_at hd (i := i) (by omega)
  refine aw_region ?_
  refine al_mv ?_
  refine al_o (op_mul rfl rfl (by first | exact wrap_i64 (by omega) (by omega))) ?_
  refine al_mv ?_
  refine al_mv ?_
  refine al_o (op_sidx_str u9 rfl rfl (by first | (with_reducible exact Int.toNat_natCast _) | rfl) (by omega) (by first | omega | (simp; omega))) ?_
  refine al_o (op_sub rfl rfl (by first | exact wrap_u8 (by omega) (by omega))) ?_
  refine al_o (op_conv u5 u3 rfl (wrap_i64 (by omega) (by omega))) ?_
  refine al_ad ?_
  refine al_gs ?_
  refine al_sr ?_
  refine al_mv ?_
  refine al_o (op_gtr rfl rfl) ?_
  refine al_nil ?_
  refine aw_cond rfl (fun h2 => ?_) (fun h2 => ?_)
  ·have gh2 := h2
   simp only [nrm] at h2
   refine aw_sr ?_
   refine al_gs ?_
   refine al_nil ?_
   refine fz1 (t := 2) ?_
   refine aw_ret ?_
   refine ⟨_, res_1 rfl rfl, ?_, rfl⟩
   rw [num_big (i := i) (by omega) hd gh2]
  have gh2 := h2
  simp only [nrm] at h2
  refine aw_skip ?_
  refine aw_region ?_
  refine al_ad ?_
  refine al_mv ?_
  refine al_nil ?_
  refine ⟨i + 1, ?_, ?_, ?_, ?_, ?_⟩
  ·omega
  ·exact ⟨by omega, by have h9 := of_decide_eq_false gh2; rw [decI_take (by omega) hdi.1] at h9; omega⟩
  ·refine sub_2 ?_ ?_
   all_goals (first | rfl | (rw [decI_take (by omega) hdi.1] <;> rfl) | simp)
  ·exact sbl
  ·rfl
 have gh1 := h1
 simp only [nrm] at h1
 refine aw_exit ?_
 obtain rfl : i = s.length := by omega
 refine aw_sr ?_
 refine al_mv ?_
 refine al_gs ?_
 refine al_nil ?_
 refine fz1 (t := 2) ?_
 refine aw_ret ?_
 refine ⟨_, res_1 rfl rfl, ?_, rfl⟩
 rw [num_fits hinv.2]
theorem r_quo (s : Bs) (hs : s.length ≤ 1000000000) (j : Nat) (hj : j ≤ 2000000000) (k lo hi : Int) : ACp Tryz.prog 172 [.v (.string (str (s))), .v (.int .i64 ((j : Nat) : Int)), .v (.int .i64 (k)), .v (.int .i64 (lo)), .v (.int .i64 (hi))] (.v (.int .i64 (quoI s j k lo hi))) := by
 refine acp_of rfl ?_
 refine ace 54 Tryz.func172 ?_
 refine aw_sr ?_
 refine al_gs ?_
 refine al_nil ?_
 refine aw_seq ?_
 refine aw_sr ?_
 refine al_mv ?_
 refine al_mv ?_
 refine al_o (op_slen_str (ts := #[]) u9 rfl) ?_
 refine al_o (op_geq rfl rfl) ?_
 refine al_mv ?_
 apply al_or 5 16 21 rfl
 ·intro h1; have gh1 := h1
  simp only [nrm] at h1
  refine tk_mv ?_
  refine tk_mv ?_
  refine al_t (op_sidx_str u9 rfl rfl (by first | (with_reducible exact Int.toNat_natCast _) | rfl) (by omega) (by first | omega | (simp; omega))) ?_
  refine al_t (op_neq rfl rfl) ?_
  refine al_pk ?_
  exact al_nk gh1
 ·intro h1; have gh1 := h1
  simp only [nrm] at h1
  iterate 4 refine al_ps ?_
  refine al_pk ?_
  exact al_nk gh1
 refine al_nil ?_
 refine aw_cond rfl (fun h2 => ?_) (fun h2 => ?_)
 ·have gh2 := h2
  simp only [nrm] at h2
  refine aw_sr ?_
  refine al_gs ?_
  refine al_nil ?_
  refine fz1 (t := 10) ?_
  refine aw_ret ?_
  refine ⟨_, res_1 rfl rfl, ?_, rfl⟩
  rw [quoI, gh2]; rfl
 have gh2 := h2
 simp only [nrm] at h2
 refine aw_skip ?_
 refine aw_sr ?_
 refine al_mv ?_
 refine al_mv ?_
 refine al_ad ?_
 refine al_mv ?_
 refine al_callp into122 rfl rfl rfl (r_run3 s (by omega) (j + 1) (by omega) k _) (by simp) ?_
 refine al_gs ?_
 refine al_nil ?_
 refine aw_seq ?_
 refine aw_seq ?_
 have hrl := takeWhile_len (fun x => ofK x k) (s.drop (j + 1))
 rw [List.length_drop] at hrl
 refine aw_region ?_
 refine al_mv ?_
 refine al_mv ?_
 refine al_ls ?_
 refine al_mv ?_
 apply al_or 4 30 34 rfl
 ·intro h3; have gh3 := h3
  simp only [nrm] at h3
  refine tk_mv ?_
  refine tk_mv ?_
  refine al_t (op_gtr rfl rfl) ?_
  refine al_pk ?_
  exact al_nk gh3
 ·intro h3; have gh3 := h3
  simp only [nrm] at h3
  iterate 3 refine al_ps ?_
  refine al_pk ?_
  exact al_nk gh3
 refine al_mv ?_
 apply al_or 8 35 43 rfl
 ·intro h4; have gh4 := h4
  simp only [nrm] at h4
  refine tk_mv ?_
  refine al_t (op_add rfl rfl (by first | exact wrap_i64 (by omega) (by omega))) ?_
  refine tk_mv ?_
  refine al_t (op_add rfl rfl (by first | exact wrap_i64 (by omega) (by omega))) ?_
  refine tk_mv ?_
  refine al_t (op_slen_str (ts := #[]) u9 rfl) ?_
  refine al_t (op_geq rfl rfl) ?_
  refine al_pk ?_
  exact al_nk gh4
 ·intro h4; have gh4 := h4
  simp only [nrm] at h4
  iterate 7 refine al_ps ?_
  refine al_pk ?_
  exact al_nk gh4
 refine al_mv ?_
 apply al_or 8 44 52 rfl
 ·intro h5; have gh5 := h5
  simp only [nrm] at h5
  refine tk_mv ?_
  refine tk_mv ?_
  refine al_t (op_add rfl rfl (by first | exact wrap_i64 (by omega) (by omega))) ?_
  refine tk_mv ?_
  refine al_t (op_add rfl rfl (by first | exact wrap_i64 (by omega) (by omega))) ?_
  refine al_t (op_sidx_str u9 rfl rfl (by first | (with_reducible exact Int.toNat_natCast _) | rfl) (by omega) (by first | omega | (simp; omega))) ?_
  refine al_t (op_neq rfl rfl) ?_
  refine al_pk ?_
  exact al_nk gh5
 ·intro h5; have gh5 := h5
  simp only [nrm] at h5
  iterate 7 refine al_ps ?_
  refine al_pk ?_
  exact al_nk gh5
 refine al_nil ?_
 refine aw_cond rfl (fun h6 => ?_) (fun h6 => ?_)
 ·have gh6 := h6
  simp only [nrm] at h6
  refine aw_sr ?_
  refine al_gs ?_
  refine al_nil ?_
  refine fz1 (t := 10) ?_
  refine aw_ret ?_
  refine ⟨_, res_1 rfl rfl, ?_, rfl⟩
  rw [quoI, gh2, cond_false]; unfold quoN; rw [gh6]; rfl
 have gh6 := h6
 simp only [nrm] at h6
 refine aw_skip ?_
 refine aw_sr ?_
 refine al_mv ?_
 refine al_gs ?_
 refine al_nil ?_
 refine fz1 (t := 10) ?_
 refine aw_ret ?_
 refine ⟨_, res_1 rfl rfl, ?_, rfl⟩
 rw [quoI, gh2, cond_false]; unfold quoN; rw [gh6]; rfl
theorem r_place (s : Bs) (hs : s.length ≤ 1000000000) (i : Nat) (hi : i ≤ s.length) : ACp Tryz.prog 129 [.v (.string (str (s))), .v (.int .i64 ((i : Nat) : Int))] (.tuple [.v (.int .i64 ((place s i).1)), .v (.int .i64 ((place s i).2))]) := by
 refine acp_of rfl ?_
 refine ace 24 Tryz.func129 ?_
 refine aw_sr ?_
 refine al_gs ?_
 refine al_gs ?_
 refine al_sr ?_
 refine al_gs ?_
 refine al_gs ?_
 refine al_nil ?_
 refine aw_seq ?_
 refine aw_sr ?_
 refine al_mv ?_
 refine al_mv ?_
 refine al_nil ?_
 refine aw_block ?_
 refine aw_forT (ι := Nat) [6, 7, 10] [] (fun j => i - j) (fun j => j ≤ i) (fun j => ([(6, .v (.int .i64 ((place s j).1))), (7, .v (.int .i64 ((place s j).2))), (10, .v (.int .i64 (j)))] : Env)) (fun j s => s) (0) ?_ ?_ ?_ (fun j hinv => ?_)
 ·exact Nat.zero_le _
 ·refine sub_cons (get_as rfl ?_) ?_; rotate_left; refine sub_cons (get_as rfl ?_) ?_; rotate_left; refine sub_cons (get_as rfl ?_) ?_; rotate_left; exact sub_nil
  all_goals (first | rfl | (rw [pl_line (by omega) gh2]) | (rw [pl_col (by omega) gh2]) | simp)
 ·rfl
 have hpl := place_ge s j
 refine aw_sr ?_
 refine al_ls ?_
 refine al_nil ?_
 refine aw_seq ?_
 refine aw_cond rfl (fun h1 => ?_) (fun h1 => ?_)
 ·have gh1 := h1
  simp only [nrm] at h1
  refine aw_skip ?_
  refine aw_seq ?_
  refine aw_block ?_
  refine aw_sr ?_
  refine al_mv ?_
  refine al_gs ?_
  refine al_sr ?_
  refine al_mv ?_
  refine al_mv ?_
  refine al_o (op_sidx_str u9 rfl rfl (by first | (with_reducible exact Int.toNat_natCast _) | rfl) (by omega) (by first | omega | (simp; omega))) ?_
  refine al_eq ?_
  refine al_nil ?_
  refine aw_cond rfl (fun h2 => ?_) (fun h2 => ?_)
  ·have gh2 := h2
   simp only [nrm] at h2
   refine aw_region ?_
   refine al_mv ?_
   refine al_ad ?_
   refine al_gs ?_
   refine al_gs ?_
   refine al_nil ?_
   refine aw_region ?_
   refine al_ad ?_
   refine al_mv ?_
   refine al_nil ?_
   refine ⟨j + 1, ?_, ?_, ?_, ?_, ?_⟩
   ·omega
   ·first | trivial | omega
   ·refine sub_cons (get_as rfl ?_) ?_; rotate_left; refine sub_cons (get_as rfl ?_) ?_; rotate_left; refine sub_cons (get_as rfl ?_) ?_; rotate_left; exact sub_nil
    all_goals (first | rfl | (rw [pl_line (by omega) gh2]) | (rw [pl_col (by omega) gh2]) | simp)
   ·exact sbl
   ·rfl
  have gh2 := h2
  simp only [nrm] at h2
  refine aw_region ?_
  refine al_mv ?_
  refine al_ad ?_
  refine al_gs ?_
  refine al_nil ?_
  refine aw_region ?_
  refine al_ad ?_
  refine al_mv ?_
  refine al_nil ?_
  refine ⟨j + 1, ?_, ?_, ?_, ?_, ?_⟩
  ·omega
  ·first | trivial | omega
  ·refine sub_cons (get_as rfl ?_) ?_; rotate_left; refine sub_cons (get_as rfl ?_) ?_; rotate_left; refine sub_cons (get_as rfl ?_) ?_; rotate_left; exact sub_nil
   all_goals (first | rfl | (rw [pl_line (by omega) gh2]) | (rw [pl_col (by omega) gh2]) | simp)
  ·exact sbl
  ·rfl
 have gh1 := h1
 simp only [nrm] at h1
 refine aw_exit ?_
 obtain rfl : j = i := by omega
 refine aw_sr ?_
 refine al_mv ?_
 refine al_mv ?_
 refine al_gs ?_
 refine al_gs ?_
 refine al_nil ?_
 refine fz2 (t := 4) (u := 5) ?_
 refine aw_ret ?_
 refine ⟨_, res_2 rfl rfl rfl rfl rfl, ?_, rfl⟩
 rfl
theorem r_next (s : Bs) (hs : s.length ≤ 1000000000) (i : Nat) (hi : i ≤ s.length) : ACp Tryz.prog 127 [.v (.string (str (s))), .v (.int .i64 ((i : Nat) : Int))] (.v (.int .i64 ((nextAt s i : Nat) : Int))) := by
 refine acp_of rfl ?_
 refine ace 42 Tryz.func127 ?_
 refine aw_sr ?_
 refine al_gs ?_
 refine al_nil ?_
 refine aw_seq ?_
 refine aw_block ?_
 refine aw_forT (ι := Nat) [1, 4] [] (fun j => s.length - j) (fun j => (i ≤ j ∧ j ≤ s.length) ∧ nextAt s j = nextAt s i) (fun j => ([(1, .v (.int .i64 (j)))] : Env)) (fun j s => s) (i) ?_ ?_ ?_ (fun j hinv => ?_)
 ·exact ⟨⟨Nat.le_refl _, hi⟩, rfl⟩
 ·refine sub_1 ?_
  all_goals (first | rfl | (rw [run_line] <;> rfl) | simp)
 ·rfl
 obtain ⟨⟨hj1, hj2⟩, hj3⟩ := hinv
 refine aw_seq ?_
 refine aw_sr ?_
 refine al_mv ?_
 refine al_mv ?_
 refine al_o (op_slen_str (ts := #[]) u9 rfl) ?_
 refine al_ls ?_
 refine al_nil ?_
 refine aw_cond rfl (fun h1 => ?_) (fun h1 => ?_)
 ·have gh1 := h1
  simp only [nrm] at h1
  refine aw_skip ?_
  refine aw_block ?_
  refine aw_block ?_
  refine aw_sr ?_
  refine al_mv ?_
  refine al_mv ?_
  refine al_o (op_sidx_str u9 rfl rfl (by first | (with_reducible exact Int.toNat_natCast _) | rfl) (by omega) (by first | omega | (simp; omega))) ?_
  refine al_callp into171 rfl rfl rfl ((r_blank _) _) (by simp) ?_
  refine al_gs ?_
  refine al_nil ?_
  refine aw_cond rfl (fun gh2 => ?_) (fun gh2 => ?_)
  ·refine aw_region ?_
   refine al_mv ?_
   refine al_ad ?_
   refine al_gs ?_
   refine al_nil ?_
   refine ⟨j + 1, ?_, ?_, ?_, ?_, ?_⟩
   ·omega
   ·first | exact ⟨⟨by omega, by omega⟩, (next_blank s j (by omega) gh2).trans hj3⟩ | exact ⟨⟨by omega, by omega⟩, hnc.trans hj3⟩
   ·refine sub_1 ?_
    all_goals (first | rfl | (rw [run_line] <;> rfl) | simp)
   ·exact sbl
   ·rfl
  refine aw_sr ?_
  refine al_mv ?_
  refine al_mv ?_
  refine al_o (op_sidx_str u9 rfl rfl (by first | (with_reducible exact Int.toNat_natCast _) | rfl) (by omega) (by first | omega | (simp; omega))) ?_
  refine al_eq ?_
  refine al_mv ?_
  apply al_and 6 22 28 rfl
  ·intro h3; have gh3 := h3
   simp only [nrm] at h3
   refine tk_mv ?_
   refine al_t (op_add rfl rfl (by first | exact wrap_i64 (by omega) (by omega))) ?_
   refine tk_mv ?_
   refine al_t (op_slen_str (ts := #[]) u9 rfl) ?_
   refine al_t (op_lss rfl rfl) ?_
   refine al_pk ?_
   exact al_nk gh3
  ·intro h3; have gh3 := h3
   simp only [nrm] at h3
   iterate 5 refine al_ps ?_
   refine al_pk ?_
   exact al_nk gh3
  refine al_mv ?_
  apply al_and 6 29 35 rfl
  ·intro h4; have gh4 := h4
   simp only [nrm] at h4
   refine tk_mv ?_
   refine tk_mv ?_
   refine al_t (op_add rfl rfl (by first | exact wrap_i64 (by omega) (by omega))) ?_
   refine al_t (op_sidx_str u9 rfl rfl (by first | (with_reducible exact Int.toNat_natCast _) | rfl) (by omega) (by first | omega | (simp; omega))) ?_
   refine tk_eq ?_
   refine al_pk ?_
   exact al_nk gh4
  ·intro h4; have gh4 := h4
   iterate 5 refine al_ps ?_
   refine al_pk ?_
   exact al_nk gh4
  refine al_gs ?_
  refine al_nil ?_
  refine aw_cond rfl (fun h5 => ?_) (fun h5 => ?_)
  ·have gh5 := h5
   simp only [nrm] at h5
   rw [com_cond (by omega)] at gh5
   obtain ⟨hnc, hn2⟩ := next_comment s j gh5
   have hll := lineLen_le (s.drop j)
   have hrl := run_line (s.drop j)
   rw [List.length_drop] at hll
   refine aw_region ?_
   refine al_mv ?_
   refine al_mv ?_
   refine al_mv ?_
   refine al_callp into122 rfl rfl rfl (r_run3 s (by omega) j (by omega) 4 _) (by simp) ?_
   refine al_ad ?_
   refine al_gs ?_
   refine al_nil ?_
   refine ⟨j + lineLen (s.drop j), ?_, ?_, ?_, ?_, ?_⟩
   ·omega
   ·first | exact ⟨⟨by omega, by omega⟩, (next_blank s j (by omega) gh2).trans hj3⟩ | exact ⟨⟨by omega, by omega⟩, hnc.trans hj3⟩
   ·refine sub_1 ?_
    all_goals (first | rfl | (rw [run_line] <;> rfl) | simp)
   ·exact sbl
   ·rfl
  have gh5 := h5
  refine aw_seq ?_
  rw [com_cond (by omega)] at gh5
  refine aw_region ?_
  refine al_mv ?_
  refine al_gs ?_
  refine al_nil ?_
  refine fz1 (t := 4) ?_
  refine aw_ret ?_
  refine ⟨_, res_1 rfl rfl, ?_, rfl⟩
  rw [← hj3, next_stop s j (by omega) gh2 gh5]
 have gh1 := h1
 simp only [nrm] at h1
 refine aw_exit ?_
 refine aw_sr ?_
 refine al_mv ?_
 refine al_gs ?_
 refine al_nil ?_
 refine fz1 (t := 4) ?_
 refine aw_ret ?_
 refine ⟨_, res_1 rfl rfl, ?_, rfl⟩
 rw [← hj3, next_end s j (by omega)]
theorem r_runP (s : Bs) (hs : s.length ≤ 1000000000) (i : Nat) (hi : i ≤ s.length) : ACp Tryz.prog 122 [.v (.string (str (s))), .v (.int .i64 ((i : Nat) : Int)), .v (.int .i64 (1))] (.v (.int .i64 ((((s.drop i).takeWhile isPartC).length : Nat) : Int))) := r_run3 s (by omega) i hi 1
theorem r_runD (s : Bs) (hs : s.length ≤ 1000000000) (i : Nat) (hi : i ≤ s.length) : ACp Tryz.prog 122 [.v (.string (str (s))), .v (.int .i64 ((i : Nat) : Int)), .v (.int .i64 (0))] (.v (.int .i64 ((((s.drop i).takeWhile isDigitC).length : Nat) : Int))) := r_run3 s (by omega) i hi 0
theorem q_rtoken (s : Bs) (hs : s.length ≤ 1000000000) (i : Nat) (hi : i < s.length) : AC Tryz.prog 128 [.v (.string (str (s))), .v (.int .i64 ((i : Nat) : Int))] ([]) (fun r σ' => r = .ret (.tuple [.agg (tokCells (s.drop i)), .v (.int .i64 (((tokA (s.drop i)).2.2.2 : Nat) : Int))]) ∧ σ'.keep (fun _ => false) = []) := by
 have hsl : signsL.length = 18 := by decide
 have hdl : (s.drop i).length ≤ 1000000000 := by rw [List.length_drop]; omega
 have hw5 := takeWhile_len isPartC (s.drop i)
 have hw6 := takeWhile_len isDigitC (s.drop i)
 rw [List.length_drop] at hw5 hw6
 refine ace 179 Tryz.func128 ?_
 refine aw_sr ?_
 refine al_al 4 info65 fun ver4 => ?_
 refine al_gs ?_
 refine al_sr ?_
 refine al_mv ?_
 refine al_mv ?_
 refine al_o (val_as (.v (.int .u8 (((s.drop i).getD 0 default).toNat : Int))) (op_sidx_str u9 rfl rfl (by first | (with_reducible exact Int.toNat_natCast _) | rfl) (by omega) (by first | omega | (simp; omega))) (by rw [getD_drop, Nat.add_zero])) ?_
 refine al_gs ?_
 refine al_nil ?_
 refine aw_seq ?_
 refine aw_block ?_
 refine aw_sr ?_
 refine al_mv ?_
 refine al_eq ?_
 refine al_mv ?_
 apply al_and 6 49 55 rfl
 ·intro h1; have gh1 := h1
  simp only [nrm] at h1
  refine tk_mv ?_
  refine al_t (op_add rfl rfl (by first | exact wrap_i64 (by omega) (by omega))) ?_
  refine tk_mv ?_
  refine al_t (op_slen_str (ts := #[]) u9 rfl) ?_
  refine al_t (op_lss rfl rfl) ?_
  refine al_pk ?_
  exact al_nk gh1
 ·intro h1; have gh1 := h1
  simp only [nrm] at h1
  iterate 5 refine al_ps ?_
  refine al_pk ?_
  exact al_nk gh1
 refine al_mv ?_
 apply al_and 6 56 62 rfl
 ·intro h2; have gh2 := h2
  simp only [nrm] at h2
  refine tk_mv ?_
  refine tk_mv ?_
  refine al_t (op_add rfl rfl (by first | exact wrap_i64 (by omega) (by omega))) ?_
  refine al_t (op_sidx_str u9 rfl rfl (by first | (with_reducible exact Int.toNat_natCast _) | rfl) (by omega) (by first | omega | (simp; omega))) ?_
  refine tk_eq ?_
  refine al_pk ?_
  exact al_nk gh2
 ·intro h2; have gh2 := h2
  iterate 5 refine al_ps ?_
  refine al_pk ?_
  exact al_nk gh2
 refine al_gs ?_
 refine al_nil ?_
 refine aw_cond rfl (fun h3 => ?_) (fun h3 => ?_)
 ·have gh3 := h3
  simp only [nrm] at h3
  refine aw_seq ?_
  rw [b46 hi] at gh3
  refine aw_region ?_
  refine al_mv ?_
  refine al_mv ?_
  refine al_ad ?_
  refine al_callp into172 rfl rfl rfl (r_quo s hs (i + 1) (by omega) 2 1 64 _) (by simp) ?_
  refine al_gs ?_
  refine al_sr ?_
  refine al_mv ?_
  refine al_o (op_geq rfl rfl) ?_
  refine al_nil ?_
  refine aw_cond rfl (fun h4 => ?_) (fun h4 => ?_)
  ·have gh4 := h4
   simp only [nrm] at h4
   refine aw_seq ?_
   obtain ⟨n, hn, hnl, htk⟩ := rt_vec gh3 gh4
   refine aw_region ?_
   refine al_mv ?_
   refine al_mv ?_
   refine al_ad ?_
   refine al_mv ?_
   refine al_ad ?_
   refine al_mv ?_
   refine al_ad ?_
   refine al_o (op_cut_str u9 rfl (.of rfl (show _ = (((i + 2) : Nat) : Int) from by omega)) (.of rfl (show _ = (((i + 2 + n) : Nat) : Int) from by omega)) (by omega) (by first | omega | (simp; omega))) ?_
   refine al_o (op_bs u65 info65 place65) ?_
   refine al_mv ?_
   refine al_ad ?_
   refine al_sp info65 ?_
   refine al_gs ?_
   refine al_nil ?_
   refine aw_ret ?_
   refine ⟨_, res_cell_tmp rfl u65 info65 rfl rfl rfl rfl rfl rfl rfl, ?_⟩
   exact ⟨(by rw [tokCells, htk, hn]; rfl), rfl⟩
  have gh4 := h4
  simp only [nrm] at h4
  refine aw_skip ?_
  refine aw_sr ?_
  refine al_o (op_bs u65 info65 place65) ?_
  refine al_sp info65 ?_
  refine al_gs ?_
  refine al_nil ?_
  refine aw_ret ?_
  refine ⟨_, res_cell_tmp rfl u65 info65 rfl rfl rfl rfl rfl rfl rfl, ?_⟩
  exact ⟨(by rw [tokCells, rt_novec gh3 gh4]; rfl), rfl⟩
 have gh3 := h3
 refine aw_seq ?_
 rw [b46 hi] at gh3
 refine aw_region ?_
 refine al_mv ?_
 refine al_callp into121 rfl rfl rfl ((r_letter _) _) (by simp) ?_
 refine al_gs ?_
 refine al_nil ?_
 refine aw_cond rfl (fun gh5 => ?_) (fun gh5 => ?_)
 ·refine aw_sr ?_
  refine al_mv ?_
  refine al_mv ?_
  refine al_mv ?_
  refine al_mv ?_
  refine al_mv ?_
  refine al_callp into122 rfl rfl rfl (r_runP s hs i (by omega) _) (by simp) ?_
  refine al_ad ?_
  refine al_o (val_as (.v (.string (str ((s.drop i).takeWhile isPartC)))) (op_cut_str u9 rfl (.of rfl (show _ = ((i : Nat) : Int) from by omega)) (.of rfl (show _ = (((i + ((s.drop i).takeWhile isPartC).length) : Nat) : Int) from by omega)) (by omega) (by first | omega | (simp; omega))) (by rw [run_cut])) ?_
  refine al_gs ?_
  refine al_nil ?_
  refine aw_seq ?_
  refine aw_sr ?_
  refine al_mv ?_
  refine al_callp into123 rfl rfl rfl ((r_isWord _ (by first | assumption | omega | (simp; done) | (simp; omega) | decide)) _) (by simp) ?_
  refine al_nil ?_
  refine aw_cond rfl (fun gh6 => ?_) (fun gh6 => ?_)
  ·refine aw_sr ?_
   refine al_mv ?_
   refine al_o (op_bs u65 info65 place65) ?_
   refine al_mv ?_
   refine al_o (op_slen_str (ts := #[]) u9 rfl) ?_
   refine al_sp info65 ?_
   refine al_gs ?_
   refine al_nil ?_
   refine aw_ret ?_
   refine ⟨_, res_cell_tmp rfl u65 info65 rfl rfl rfl rfl rfl rfl rfl, ?_⟩
   exact ⟨(by rw [tokCells, tok_word gh3 gh5 gh6]; rfl), rfl⟩
  refine aw_skip ?_
  refine aw_sr ?_
  refine al_mv ?_
  refine al_callp into67 rfl rfl rfl ((r_isName _ (by first | assumption | omega | (simp; done) | (simp; omega) | decide)) _) (by simp) ?_
  refine al_nil ?_
  refine aw_cond rfl (fun gh7 => ?_) (fun gh7 => ?_)
  ·refine aw_sr ?_
   refine al_mv ?_
   refine al_o (op_bs u65 info65 place65) ?_
   refine al_mv ?_
   refine al_o (op_slen_str (ts := #[]) u9 rfl) ?_
   refine al_sp info65 ?_
   refine al_gs ?_
   refine al_nil ?_
   refine aw_ret ?_
   refine ⟨_, res_cell_tmp rfl u65 info65 rfl rfl rfl rfl rfl rfl rfl, ?_⟩
   exact ⟨(by rw [tokCells, tok_name gh3 gh5 gh6 gh7]; rfl), rfl⟩
  refine aw_skip ?_
  refine aw_sr ?_
  refine al_o (op_bs u65 info65 place65) ?_
  refine al_sp info65 ?_
  refine al_gs ?_
  refine al_nil ?_
  refine aw_ret ?_
  refine ⟨_, res_cell_tmp rfl u65 info65 rfl rfl rfl rfl rfl rfl rfl, ?_⟩
  exact ⟨(by rw [tokCells, tok_noname gh3 gh5 gh6 gh7]; rfl), rfl⟩
 refine aw_sr ?_
 refine al_mv ?_
 refine al_callp into173 rfl rfl rfl ((r_digit _) _) (by simp) ?_
 refine al_gs ?_
 refine al_nil ?_
 refine aw_cond rfl (fun gh8 => ?_) (fun gh8 => ?_)
 ·refine aw_sr ?_
  refine al_mv ?_
  refine al_mv ?_
  refine al_mv ?_
  refine al_mv ?_
  refine al_mv ?_
  refine al_callp into122 rfl rfl rfl (r_runD s hs i (by omega) _) (by simp) ?_
  refine al_ad ?_
  refine al_o (val_as (.v (.string (str ((s.drop i).takeWhile isDigitC)))) (op_cut_str u9 rfl (.of rfl (show _ = ((i : Nat) : Int) from by omega)) (.of rfl (show _ = (((i + ((s.drop i).takeWhile isDigitC).length) : Nat) : Int) from by omega)) (by omega) (by first | omega | (simp; omega))) (by rw [run_cut])) ?_
  refine al_gs ?_
  refine al_sr ?_
  refine al_mv ?_
  refine al_callp into174 rfl rfl rfl (r_num _ (by omega) digit_tw _) (by simp) ?_
  refine al_gs ?_
  refine al_sr ?_
  refine al_mv ?_
  refine al_o (op_geq rfl rfl) ?_
  refine al_mv ?_
  apply al_and 7 118 125 rfl
  ·intro h9; have gh9 := h9
   simp only [nrm] at h9
   refine tk_mv ?_
   refine tk_mv ?_
   refine al_callp_take into122 rfl rfl rfl rfl rfl rfl (r_runP s hs i (by omega) _) (by simp) ?_
   refine tk_mv ?_
   refine al_t (op_slen_str (ts := #[]) u9 rfl) ?_
   refine tk_eq ?_
   refine al_pk ?_
   exact al_nk gh9
  ·intro h9; have gh9 := h9
   simp only [nrm] at h9
   iterate 6 refine al_ps ?_
   refine al_pk ?_
   exact al_nk gh9
  refine al_nil ?_
  refine aw_cond rfl (fun h10 => ?_) (fun h10 => ?_)
  ·have gh10 := h10
   simp only [nrm] at h10
   refine aw_sr ?_
   refine al_mv ?_
   refine al_o (op_bs u65 info65 place65) ?_
   refine al_mv ?_
   refine al_o (op_slen_str (ts := #[]) u9 rfl) ?_
   refine al_sp info65 ?_
   refine al_gs ?_
   refine al_nil ?_
   refine aw_ret ?_
   refine ⟨_, res_cell_tmp rfl u65 info65 rfl rfl rfl rfl rfl rfl rfl, ?_⟩
   exact ⟨(by rw [tokCells, rt_int_yes gh3 gh5 gh8 gh10]; rfl), rfl⟩
  have gh10 := h10
  simp only [nrm] at h10
  refine aw_skip ?_
  refine aw_sr ?_
  refine al_o (op_bs u65 info65 place65) ?_
  refine al_sp info65 ?_
  refine al_gs ?_
  refine al_nil ?_
  refine aw_ret ?_
  refine ⟨_, res_cell_tmp rfl u65 info65 rfl rfl rfl rfl rfl rfl rfl, ?_⟩
  exact ⟨(by rw [tokCells, rt_int_no gh3 gh5 gh8 gh10]; rfl), rfl⟩
 refine aw_sr ?_
 refine al_mv ?_
 refine al_eq ?_
 refine al_gs ?_
 refine al_nil ?_
 refine aw_cond rfl (fun h11 => ?_) (fun h11 => ?_)
 ·have gh11 := h11
  simp only [nrm] at h11
  refine aw_sr ?_
  refine al_mv ?_
  refine al_ad ?_
  refine al_mv ?_
  refine al_o (op_slen_str (ts := #[]) u9 rfl) ?_
  refine al_ls ?_
  refine al_mv ?_
  apply al_and 6 138 144 rfl
  ·intro h12; have gh12 := h12
   simp only [nrm] at h12
   refine tk_mv ?_
   refine tk_mv ?_
   refine al_t (op_add rfl rfl (by first | exact wrap_i64 (by omega) (by omega))) ?_
   refine al_t (op_sidx_str u9 rfl rfl (by first | (with_reducible exact Int.toNat_natCast _) | rfl) (by omega) (by first | omega | (simp; omega))) ?_
   refine al_callp_take into132 rfl rfl rfl rfl rfl rfl ((r_bit _) _) (by simp) ?_
   refine al_pk ?_
   exact al_nk gh12
  ·intro h12; have gh12 := h12
   simp only [nrm] at h12
   iterate 5 refine al_ps ?_
   refine al_pk ?_
   exact al_nk gh12
  refine al_mv ?_
  apply al_and 6 145 151 rfl
  ·intro h13; have gh13 := h13
   simp only [nrm] at h13
   refine tk_mv ?_
   refine tk_mv ?_
   refine al_t (op_add rfl rfl (by first | exact wrap_i64 (by omega) (by omega))) ?_
   refine al_t (op_sidx_str u9 rfl rfl (by first | (with_reducible exact Int.toNat_natCast _) | rfl) (by omega) (by first | omega | (simp; omega))) ?_
   refine tk_eq ?_
   refine al_pk ?_
   exact al_nk gh13
  ·intro h13; have gh13 := h13
   iterate 5 refine al_ps ?_
   refine al_pk ?_
   exact al_nk gh13
  refine al_nil ?_
  refine aw_cond rfl (fun h14 => ?_) (fun h14 => ?_)
  ·have gh14 := h14
   simp only [nrm] at h14
   refine aw_seq ?_
   obtain ⟨hbl, htk⟩ := rt_bit gh3 gh5 gh8 hi gh11 gh14
   refine aw_region ?_
   refine al_mv ?_
   refine al_mv ?_
   refine al_ad ?_
   refine al_mv ?_
   refine al_ad ?_
   refine al_o (op_cut_str u9 rfl (.of rfl (show _ = (((i + 1) : Nat) : Int) from by omega)) (.of rfl (show _ = (((i + 2) : Nat) : Int) from by omega)) (by omega) (by first | omega | (simp; omega))) ?_
   refine al_o (op_bs u65 info65 place65) ?_
   refine al_sp info65 ?_
   refine al_gs ?_
   refine al_nil ?_
   refine aw_ret ?_
   refine ⟨_, res_cell_tmp rfl u65 info65 rfl rfl rfl rfl rfl rfl rfl, ?_⟩
   exact ⟨(by rw [tokCells, htk]; rfl), rfl⟩
  have gh14 := h14
  refine aw_skip ?_
  refine aw_sr ?_
  refine al_o (op_bs u65 info65 place65) ?_
  refine al_sp info65 ?_
  refine al_gs ?_
  refine al_nil ?_
  refine aw_ret ?_
  refine ⟨_, res_cell_tmp rfl u65 info65 rfl rfl rfl rfl rfl rfl rfl, ?_⟩
  exact ⟨(by rw [tokCells, rt_nobit gh3 gh5 gh8 hi gh11 gh14]; rfl), rfl⟩
 have gh11 := h11
 simp only [nrm] at h11
 refine aw_sr ?_
 refine al_mv ?_
 refine al_eq ?_
 refine al_gs ?_
 refine al_nil ?_
 refine aw_cond rfl (fun h15 => ?_) (fun h15 => ?_)
 ·have gh15 := h15
  simp only [nrm] at h15
  refine aw_sr ?_
  refine al_mv ?_
  refine al_mv ?_
  refine al_callp into172 rfl rfl rfl (r_quo s hs i (by omega) 3 0 60 _) (by simp) ?_
  refine al_gs ?_
  refine al_sr ?_
  refine al_mv ?_
  refine al_o (op_geq rfl rfl) ?_
  refine al_nil ?_
  refine aw_cond rfl (fun h16 => ?_) (fun h16 => ?_)
  ·have gh16 := h16
   simp only [nrm] at h16
   refine aw_seq ?_
   obtain ⟨n, hn, hnl, htk⟩ := rt_text gh3 gh5 gh8 gh11 gh15 gh16
   refine aw_region ?_
   refine al_mv ?_
   refine al_mv ?_
   refine al_ad ?_
   refine al_mv ?_
   refine al_ad ?_
   refine al_mv ?_
   refine al_ad ?_
   refine al_o (op_cut_str u9 rfl (.of rfl (show _ = (((i + 1) : Nat) : Int) from by omega)) (.of rfl (show _ = (((i + 1 + n) : Nat) : Int) from by omega)) (by omega) (by first | omega | (simp; omega))) ?_
   refine al_o (op_bs u65 info65 place65) ?_
   refine al_mv ?_
   refine al_ad ?_
   refine al_sp info65 ?_
   refine al_gs ?_
   refine al_nil ?_
   refine aw_ret ?_
   refine ⟨_, res_cell_tmp rfl u65 info65 rfl rfl rfl rfl rfl rfl rfl, ?_⟩
   exact ⟨(by rw [tokCells, htk, hn]; rfl), rfl⟩
  have gh16 := h16
  simp only [nrm] at h16
  refine aw_skip ?_
  refine aw_sr ?_
  refine al_o (op_bs u65 info65 place65) ?_
  refine al_sp info65 ?_
  refine al_gs ?_
  refine al_nil ?_
  refine aw_ret ?_
  refine ⟨_, res_cell_tmp rfl u65 info65 rfl rfl rfl rfl rfl rfl rfl, ?_⟩
  exact ⟨(by rw [tokCells, rt_notext gh3 gh5 gh8 gh11 gh15 gh16]; rfl), rfl⟩
 have gh15 := h15
 simp only [nrm] at h15
 refine aw_sr ?_
 refine al_callp into134 rfl rfl rfl ((r_Signs ) _) (by simp) ?_
 refine al_lm u32 ?_
 refine al_mv ?_
 refine al_nil ?_
 refine aw_block ?_
 refine aw_forT (ι := Nat) [5, 19] [] (fun q => signsL.length - q) (fun q => q ≤ signsL.length ∧ ∀ k, k < q → (signsL.getD k default).isPrefixOf (s.drop i) = false) (fun q => ([(19, .v (.int .i64 (q)))] : Env)) (fun q s => s) (0) ?_ ?_ ?_ (fun q hinv => ?_)
 ·exact ⟨Nat.zero_le _, fun k hk => absurd hk (Nat.not_lt_zero k)⟩
 ·refine sub_1 ?_
  all_goals (first | rfl | simp)
 ·rfl
 have hq := hinv.1
 refine aw_sr ?_
 refine al_ls ?_
 refine al_nil ?_
 refine aw_seq ?_
 refine aw_cond rfl (fun h17 => ?_) (fun h17 => ?_)
 ·have gh17 := h17
  simp only [nrm] at h17
  refine aw_skip ?_
  refine aw_seq ?_
  refine aw_block ?_
  refine aw_sr ?_
  refine al_o (op_im u32 info9) ?_
  refine al_lr u9 info9 ?_
  refine al_gs ?_
  refine al_nil ?_
  refine aw_seq ?_
  have hsx := (sign_all _ (getD_mem (show q < signsL.length by omega))).2.1
  refine aw_region ?_
  refine al_mv ?_
  refine al_mv ?_
  refine al_o (op_slen_str (ts := #[]) u9 rfl) ?_
  refine al_ad ?_
  refine al_mv ?_
  refine al_o (op_slen_str (ts := #[]) u9 rfl) ?_
  refine al_o (op_leq rfl rfl) ?_
  refine al_mv ?_
  apply al_and 10 30 40 rfl
  ·intro h18; have gh18 := h18
   simp only [nrm] at h18
   refine tk_mv ?_
   refine tk_mv ?_
   refine tk_mv ?_
   refine tk_mv ?_
   refine al_t (op_slen_str (ts := #[]) u9 rfl) ?_
   refine al_t (op_add rfl rfl (by first | exact wrap_i64 (by omega) (by omega))) ?_
   refine al_t (op_cut_str u9 rfl (.of rfl (show _ = ((i : Nat) : Int) from by omega)) (.of rfl (show _ = (((i + (signsL.getD q default).length) : Nat) : Int) from by omega)) (by omega) (by first | omega | (simp; omega))) ?_
   refine tk_mv ?_
   refine al_t (op_seql_str rfl rfl) ?_
   refine al_pk ?_
   exact al_nk gh18
  ·intro h18; have gh18 := h18
   simp only [nrm] at h18
   iterate 9 refine al_ps ?_
   refine al_pk ?_
   exact al_nk gh18
  refine al_nil ?_
  refine aw_cond rfl (fun h19 => ?_) (fun h19 => ?_)
  ·have gh19 := h19
   simp only [nrm] at h19
   refine aw_sr ?_
   refine al_mv ?_
   refine al_o (op_bs u65 info65 place65) ?_
   refine al_mv ?_
   refine al_o (op_slen_str (ts := #[]) u9 rfl) ?_
   refine al_sp info65 ?_
   refine al_gs ?_
   refine al_nil ?_
   refine aw_ret ?_
   refine ⟨_, res_cell_tmp rfl u65 info65 rfl rfl rfl rfl rfl rfl rfl, ?_⟩
   exact ⟨(by rw [tokCells, tok_last gh3 gh5 gh8 gh11 gh15, find_step (p := fun x => x.isPrefixOf (s.drop i)) (by omega) hinv.2 (by rw [sign_cond (by omega)] at gh19; exact gh19)]; rfl), rfl⟩
  have gh19 := h19
  refine aw_skip ?_
  refine aw_region ?_
  refine al_ad ?_
  refine al_mv ?_
  refine al_nil ?_
  refine ⟨q + 1, ?_, ?_, ?_, ?_, ?_⟩
  ·omega
  ·exact ⟨by omega, find_more (p := fun x => x.isPrefixOf (s.drop i)) (l := signsL) hinv.2 (by rw [sign_cond (by omega)] at gh19; exact gh19)⟩
  ·refine sub_1 ?_
   all_goals (first | rfl | simp)
  ·exact sbl
  ·rfl
 have gh17 := h17
 simp only [nrm] at h17
 refine aw_exit ?_
 obtain rfl : q = signsL.length := by omega
 have hall := hinv.2
 refine aw_sr ?_
 refine al_o (op_bs u65 info65 place65) ?_
 refine al_sp info65 ?_
 refine al_gs ?_
 refine al_nil ?_
 refine aw_ret ?_
 refine ⟨_, res_cell_tmp rfl u65 info65 rfl rfl rfl rfl rfl rfl rfl, ?_⟩
 exact ⟨(by rw [tokCells, tok_last gh3 gh5 gh8 gh11 gh15, find_none (p := fun x => x.isPrefixOf (s.drop i)) hall]; rfl), rfl⟩
theorem r_token (s : Bs) (hs : s.length ≤ 1000000000) (i : Nat) (hi : i < s.length) : ACp Tryz.prog 128 [.v (.string (str (s))), .v (.int .i64 ((i : Nat) : Int))] (.tuple [.agg (tokCells (s.drop i)), .v (.int .i64 (((tokA (s.drop i)).2.2.2 : Nat) : Int))]) :=
  acp_of rfl (ac_mono (ac_keep (fun _ => false) (q_rtoken s hs i hi)) (by rintro x σ1 ⟨σ2, ⟨rfl, e⟩, rfl⟩; exact ⟨rfl, e⟩))
theorem q_rMost (s : Bs) (hs : s.length ≤ 1000000000) : AC Tryz.prog 76 [.v (.string (str (s)))] ([]) (fun r σ' => ∃ a, r = .ret a ∧ FrzT σ' (fun _ => false) a (.tuple [.list 5 ((lex s).1.map encK), .agg (encF (lex s).2)])) := by
 refine ace 55 Tryz.func76 ?_
 refine aw_sr ?_
 refine al_gs ?_
 refine al_al 3 info40 fun ver3 => ?_
 refine al_sr ?_
 refine al_gs ?_
 refine al_nil ?_
 refine aw_seq ?_
 refine aw_sr ?_
 refine al_mv ?_
 refine al_callp into127 rfl rfl rfl (r_next s hs 0 (Nat.zero_le _) _) (by simp) ?_
 refine al_gs ?_
 refine al_nil ?_
 refine aw_block ?_
 refine aw_own_map encK 4 5 4 rfl rfl (fun ver4 => ?_)
 refine aw_for3T (α := Nat) (β := List Tk) (γ := Nat) [2, 4, 5] [6] (fun i acc ver => s.length - i) (fun i acc ver => (i ≤ s.length ∧ nextAt s i = i) ∧ acc.length ≤ i ∧ lex s = (acc ++ (lexFrom s i).1, (lexFrom s i).2)) (fun i acc ver => ([(4, .slice 4 ver 0 acc.length), (5, .v (.int .i64 ((i : Nat) : Int)))] : Env)) (fun i acc ver st => ([(3, ver3, .row 4 [encF okF]), (4, ver, .row 5 (acc.map encK))] : Store)) (nextAt s 0) ([]) (ver4) ?_ ?_ ?_ (fun i acc ver hinv => ?_)
 ·exact ⟨⟨(nextAt_le s 0 (Nat.zero_le _)).2, next_idem s 0⟩, Nat.zero_le _, lex_start s⟩
 ·refine sub_2 ?_ ?_
  all_goals (first | rfl | simp)
 ·rfl
 obtain ⟨⟨hi, hni⟩, hac, hlx⟩ := hinv
 refine aw_seq ?_
 refine aw_sr ?_
 refine al_mv ?_
 refine al_mv ?_
 refine al_o (op_slen_str (ts := #[]) u9 rfl) ?_
 refine al_ls ?_
 refine al_nil ?_
 refine aw_cond rfl (fun h1 => ?_) (fun h1 => ?_)
 ·have gh1 := h1
  simp only [nrm] at h1
  refine aw_skip ?_
  refine aw_seq ?_
  refine aw_block ?_
  refine aw_sr ?_
  refine al_mv ?_
  refine al_mv ?_
  refine al_callp into128 rfl rfl rfl (r_token s hs i (by omega) _) (by simp) ?_
  refine al_mv ?_
  refine al_xt ?_
  refine al_xt ?_
  refine al_al 6 info65 fun ver6 => ?_
  refine al_sp info65 ?_
  refine al_gs ?_
  refine al_sr ?_
  refine al_mv ?_
  refine al_mv ?_
  refine al_callp into129 rfl rfl rfl (r_place s hs i (by omega) _) (by simp) ?_
  refine al_mv ?_
  refine al_xt ?_
  refine al_xt ?_
  refine al_gs ?_
  refine al_gs ?_
  refine al_nil ?_
  refine aw_seq ?_
  refine aw_sr ?_
  refine al_mv ?_
  refine al_eq ?_
  refine al_nil ?_
  refine aw_cond rfl (fun h2 => ?_) (fun h2 => ?_)
  ·have gh2 := h2
   simp only [nrm] at h2
   refine aw_seq ?_
   refine aw_any (Checked.mixed Tryz.checked) ?_
   apply aany_seg (p := 0) (q := 10) (by kernel_rfl) rfl (by decide)
   ·
    apply ql_plain rfl (op_move rfl)
    apply ql_plain rfl (op_move rfl)
    apply ql_plain rfl (op_move rfl)
    apply ql_plain rfl (op_move rfl)
    apply ql_plain rfl (op_add rfl rfl (by first | exact wrap_i64 (by omega) (by omega)))
    apply ql_plain rfl (op_cut_str u9 rfl (.of rfl (show _ = ((i : Nat) : Int) from by omega)) (.of rfl (show _ = (((i + 1) : Nat) : Int) from by omega)) (by omega) (by first | omega | (simp; omega)))
    apply ql_plain rfl (op_move rfl)
    apply ql_plain rfl (op_move rfl)
    apply ql_plain rfl (op_bs u40 info40 place40)
    apply ql_plain rfl (op_assign rfl)
    exact ql_nil
   ·simp
   refine aany_op (by kernel_rfl) rfl rfl (op_sp info40) (by simp) ?_
   refine aany_end rfl (by kernel_rfl) ?_
   refine aw_ret ?_
   refine ⟨_, res_tmp_cell rfl rfl u40 info40 rfl rfl rfl rfl rfl rfl, ?_⟩
   rw [most_bad hlx (round_bad (by omega) hni gh2), badF_cut]; exact ⟨_, rfl, .tuple _ _ (frz3_cons (.leaf _ _ (frz_whole rfl rfl (List.length_map _).symm (clo_map (fun _ => rfl)))) (frz3_cons (.leaf _ _ (.same _)) frz3_nil))⟩
  have gh2 := h2
  simp only [nrm] at h2
  refine aw_skip ?_
  refine aw_seq ?_
  obtain ⟨ht1, ht2, ht3⟩ := tokA_some gh2
  rw [List.length_drop] at ht3
  refine aw_region ?_
  refine al_mv ?_
  refine al_mv ?_
  refine al_fp u65 info3 ?_
  refine al_sp info3 ?_
  refine al_fp u65 info3 ?_
  refine al_sp info3 ?_
  refine al_sr ?_
  refine al_mv ?_
  refine al_ld u65 info65 ?_
  refine al_o (op_buildSlice u22 info65 rfl rfl (by decide) rfl (by decide) rfl (by first | rfl | (repeat (first | exact parts_nil | refine parts_cons rfl (by repeat (first | exact all_live_nil | refine all_live_clo rfl ?_ | refine all_live_slice rfl ?_ | refine all_live_map rfl ?_ | refine all_live_ptr rfl ?_)) ?_))) rfl rfl rfl) ?_
  (refine al_opR (op_append_one (mkTk s i) u22 u22 rfl info65 rfl rfl (by decide) rfl rfl rfl (by first | rfl | simp) rfl rfl (by first | omega | (simp; done) | (simp; omega)) (by show _ * 48 ≤ _; first | omega | (simp; done) | (simp; omega))) rfl (by simp) ?_; rintro _ _ ⟨ver49, rfl, rfl⟩)
  refine al_gs ?_
  refine al_nil ?_
  refine aw_region ?_
  refine al_mv ?_
  refine al_mv ?_
  refine al_ad ?_
  refine al_gs ?_
  refine al_nil ?_
  refine aw_region ?_
  refine al_mv ?_
  refine al_mv ?_
  refine al_callp into127 rfl rfl rfl (r_next s hs (i + (tokA (s.drop i)).2.2.2) (by omega) _) (by simp) ?_
  refine al_gs ?_
  refine al_nil ?_
  refine ⟨(nextAt s (i + (tokA (s.drop i)).2.2.2)), acc ++ [mkTk s i], ver49, ?_, ?_, ?_, ?_, ?_⟩
  ·(have hnl := nextAt_le s (i + (tokA (s.drop i)).2.2.2) (by omega)); omega
  ·exact ⟨⟨(nextAt_le s _ (by omega)).2, next_idem s _⟩, by have hnl := nextAt_le s (i + (tokA (s.drop i)).2.2.2) (by omega); rw [List.length_append, List.length_singleton]; omega, lex_more hlx (round_ok (by omega) hni gh2)⟩
  ·refine sub_2 ?_ ?_
   all_goals (first | rfl | simp)
  ·exact sbl
  ·rfl
 have gh1 := h1
 simp only [nrm] at h1
 refine aw_exit ?_
 skip
 refine aw_sr ?_
 refine al_mv ?_
 refine al_o (op_bs u40 info40 place40) ?_
 refine al_gs ?_
 refine al_sp info40 ?_
 refine al_nil ?_
 refine aw_ret ?_
 refine ⟨_, res_tmp_cell rfl rfl u40 info40 rfl rfl rfl rfl rfl rfl, ?_⟩
 rw [most_ok hlx hi (by omega)]; exact ⟨_, rfl, .tuple _ _ (frz3_cons (.leaf _ _ (frz_whole rfl rfl (List.length_map _).symm (clo_map (fun _ => rfl)))) (frz3_cons (.leaf _ _ (.same _)) frz3_nil))⟩
theorem r_Most (s : Bs) (hs : s.length ≤ 1000000000) : ACp Tryz.prog 76 [.v (.string (str (s)))] (.tuple [.list 5 ((lex s).1.map encK), .agg (encF (lex s).2)]) :=
  acp_of (lex_clo s) (ac_frz (fun _ => false) (q_rMost s hs) (by rintro x σ1 ⟨a, rfl, h⟩; exact ⟨a, _, rfl, h, rfl, keep_nothing _⟩))
theorem q_rLex (s : Bs) (hs : s.length ≤ 1000000000) : AC Tryz.prog 37 [.v (.string (str (s)))] ([]) (fun r σ' => ∃ a, r = .ret a ∧ FrzT σ' (fun _ => false) a (.tuple [.list 5 ((lexP s).1.map encK), .agg (encF (lexP s).2)])) := by
 refine ace 21 Tryz.func37 ?_
 refine aw_sr ?_
 refine al_gs ?_
 refine al_al 3 info40 fun ver3 => ?_
 refine al_nil ?_
 refine aw_seq ?_
 refine aw_sr ?_
 refine al_mv ?_
 refine al_o (op_slen_str (ts := #[]) u9 rfl) ?_
 refine al_o (op_gtr rfl rfl) ?_
 refine al_nil ?_
 refine aw_cond rfl (fun h1 => ?_) (fun h1 => ?_)
 ·have gh1 := h1
  simp only [nrm] at h1
  refine aw_sr ?_
  refine al_o (op_bs u40 info40 place40) ?_
  refine al_gs ?_
  refine al_sp info40 ?_
  refine al_nil ?_
  refine aw_ret ?_
  refine ⟨_, res_tmp_cell rfl rfl u40 info40 rfl rfl rfl rfl rfl rfl, ?_⟩
  rw [lexP_long gh1]; exact ⟨_, rfl, .tuple _ _ (frz3_cons (.leaf _ _ (.vnil 5)) (frz3_cons (.leaf _ _ (.same _)) frz3_nil))⟩
 have gh1 := h1
 simp only [nrm] at h1
 refine aw_skip ?_
 refine aw_sr ?_
 refine al_mv ?_
 refine al_callp into76 rfl rfl rfl ((r_Most _ (by first | assumption | omega | (simp; done) | (simp; omega) | decide)) _) (by simp) ?_
 refine al_mv ?_
 refine al_xt ?_
 refine al_xt ?_
 refine al_al 5 info40 fun ver5 => ?_
 refine al_gs ?_
 refine al_sp info40 ?_
 refine al_nil ?_
 refine aw_seq ?_
 refine aw_sr ?_
 refine al_fp u40 info38 ?_
 refine al_ld u38 info38 ?_
 refine al_o (op_neq rfl rfl) ?_
 refine al_nil ?_
 refine aw_cond rfl (fun h2 => ?_) (fun h2 => ?_)
 ·have gh2 := h2
  simp only [nrm] at h2
  refine aw_seq ?_
  refine aw_any (Checked.mixed Tryz.checked) ?_
  apply aany_seg (p := 0) (q := 2) (by kernel_rfl) rfl (by decide)
  ·
   apply ql_plain rfl (op_load_ptr u40 info40 rfl rfl rfl rfl)
   apply ql_plain rfl (op_assign rfl)
   exact ql_nil
  ·simp
  refine aany_op (by kernel_rfl) rfl rfl (op_sp info40) (by simp) ?_
  refine aany_end rfl (by kernel_rfl) ?_
  refine aw_ret ?_
  refine ⟨_, res_tmp_cell rfl rfl u40 info40 rfl rfl rfl rfl rfl rfl, ?_⟩
  rw [lexP_no gh1 gh2]; exact ⟨_, rfl, .tuple _ _ (frz3_cons (.leaf _ _ (.vnil 5)) (frz3_cons (.leaf _ _ (.same _)) frz3_nil))⟩
 have gh2 := h2
 simp only [nrm] at h2
 refine aw_skip ?_
 refine aw_seq ?_
 refine aw_any (Checked.mixed Tryz.checked) ?_
 apply aany_seg (p := 0) (q := 3) (by kernel_rfl) rfl (by decide)
 ·
  apply ql_plain rfl (op_move rfl)
  apply ql_plain rfl (op_load_ptr u40 info40 rfl rfl rfl rfl)
  apply ql_plain rfl (op_assign rfl)
  exact ql_nil
 ·simp
 refine aany_op (by kernel_rfl) rfl rfl (op_sp info40) (by simp) ?_
 refine aany_end rfl (by kernel_rfl) ?_
 refine aw_ret ?_
 refine ⟨_, res_tmp_cell rfl rfl u40 info40 rfl rfl rfl rfl rfl rfl, ?_⟩
 rw [lexP_yes gh1 gh2]; exact ⟨_, rfl, .tuple _ _ (frz3_cons (.leaf _ _ (.same _)) (frz3_cons (.leaf _ _ (.same _)) frz3_nil))⟩
theorem r_Lex (s : Bs) (hs : s.length ≤ 1000000000) : ACp Tryz.prog 37 [.v (.string (str (s)))] (.tuple [.list 5 ((lexP s).1.map encK), .agg (encF (lexP s).2)]) :=
  acp_of (lexP_clo s) (ac_frz (fun _ => false) (q_rLex s hs) (by rintro x σ1 ⟨a, rfl, h⟩; exact ⟨a, _, rfl, h, rfl, keep_nothing _⟩))
end Go.Proofs.YtcgdlhkiecommaaGreatDoor
/- Printed walks (gen.py, lexer_ann.py): part 423. -/






namespace Go.Proofs.YtcgdlhkiecommaaGreatDoor
open Go
theorem l_words (s : Bs) (hs : s.length ≤ 1000000000) : ACp Tryz.prog 38 [.v (.string (str (s)))] (.list 5 ((lexP s).1.map encK)) := by
 refine acp_of rfl ?_
 refine ace 11 Tryz.func38 ?_
 refine aw_sr ?_
 refine al_gs ?_
 refine al_sr ?_
 refine al_mv ?_
 refine al_callp into37 rfl rfl rfl (r_Lex s hs _) (by simp) ?_
 refine al_mv ?_
 refine al_xt ?_
 refine al_xt ?_
 refine al_al 4 info40 fun ver4 => ?_
 refine al_gs ?_
 refine al_sp info40 ?_
 refine al_sr ?_
 refine al_mv ?_
 refine al_gs ?_
 refine al_nil ?_
 refine aw_freeze (fun _ => false) (fsub_cons (t := 2) rfl (by first | exact .leaf _ _ (frz_whole rfl rfl (by first | rfl | (simp; done) | (simp; omega)) (clo_map (fun _ => rfl))) | exact .leaf _ _ (.vnil 5) | exact .leaf _ _ (.nil 5) | exact .leaf _ _ (.same _)) fsub_nil) ?_
 refine aw_ret ?_
 refine ⟨_, res_1 rfl rfl, ?_, rfl⟩
 rfl
theorem l_awake  : ACp Tryz.prog 12 [] (.v (.bool (true))) := by
 refine acp_of rfl ?_
 obtain ⟨E1, p1, f1, f2, f3, f4, f5, f6, f7, f8, f9, f10, f11, f12, f13, f14⟩ := ex1
 obtain ⟨E2, p2⟩ := ex2
 obtain ⟨E3, p3⟩ := ex3
 obtain ⟨E4, p4, g1, g2, g3, g4, g5, g6, g7, g8⟩ := ex4
 obtain ⟨R, p5, w5, r1, r2, r3⟩ := ex6 Tryz.prog
 have w1 : OKW Tryz.prog E1 := okw_of f5 f6 f8 f9 (by decide) (by decide)
 have w4 : OKW Tryz.prog E4 := okw_of g3 g4 g5 g6 (by decide) (by decide)
 have t1 : OKTs (toks E1) := okts_of f10
 have t5 : OKTs (toksR R) := okts_of r1
 refine ace 189 Tryz.func12 ?_
 refine aw_sr ?_
 refine al_gs ?_
 refine al_sr ?_
 refine al_callp into38 rfl rfl rfl (l_words exS1 (by decide) _) (by simp) ?_
 refine al_callp into13 rfl rfl rfl (c_Parse (lexP exS1).1 (okts_of ex_words1.1) (by rw [ex_words1.2]; decide) 0 _) (by simp) ?_
 refine al_as 24 (.tuple [encX E1, .v (.int .i64 (9)), .agg (encF okF)]) rfl (by exact congrArg (encP encX) p1) ?_
 refine al_mv ?_
 refine al_xt ?_
 refine al_xt ?_
 refine al_xt ?_
 refine al_al 1 info37 fun ver1 => ?_
 refine al_al 3 info40 fun ver3 => ?_
 refine al_sp info37 ?_
 refine al_gs ?_
 refine al_sp info40 ?_
 refine al_nil ?_
 refine aw_seq ?_
 refine aw_st (σ2 := [(1, ver1, .row 16 [cellsE E1]), (3, ver3, .row 4 [encF okF])]) rfl ?_
 refine aw_region ?_
 refine al_ld u37 info37 ?_
 refine al_callp into23 rfl rfl rfl (e_textE E1 w1 t1 _) (by simp) ?_
 refine al_as 30 (.tuple [.v (.string (str (exS1))), .v (.int .i64 (0))]) rfl (by rw [f11]) ?_
 refine al_mv ?_
 refine al_xt ?_
 refine al_xt ?_
 refine al_gs ?_
 refine al_gs ?_
 refine al_sr ?_
 refine al_callp into38 rfl rfl rfl (l_words exS2 (by decide) _) (by simp) ?_
 refine al_callp into13 rfl rfl rfl (c_Parse (lexP exS2).1 (okts_of ex_words2.1) (by rw [ex_words2.2]; decide) 0 _) (by simp) ?_
 refine al_as 35 (.tuple [encX E2, .v (.int .i64 (3)), .agg (encF okF)]) rfl (by exact congrArg (encP encX) p2) ?_
 refine al_mv ?_
 refine al_xt ?_
 refine al_xt ?_
 refine al_xt ?_
 refine al_al 6 info37 fun ver6 => ?_
 refine al_al 8 info40 fun ver8 => ?_
 refine al_sp info37 ?_
 refine al_gs ?_
 refine al_sp info40 ?_
 refine al_nil ?_
 refine aw_seq ?_
 refine aw_st (σ2 := [(1, ver1, .row 16 [cellsE E1]), (3, ver3, .row 4 [encF okF]), (6, ver6, .row 16 [cellsE E2]), (8, ver8, .row 4 [encF okF])]) rfl ?_
 refine aw_region ?_
 refine al_callp into38 rfl rfl rfl (l_words exS3 (by decide) _) (by simp) ?_
 refine al_callp into13 rfl rfl rfl (c_Parse (lexP exS3).1 (okts_of ex_words3.1) (by rw [ex_words3.2]; decide) 0 _) (by simp) ?_
 refine al_as 41 (.tuple [encX E3, .v (.int .i64 (0)), .agg (encF (⟨11, [59], 1, 5⟩ : Flt))]) rfl (by exact congrArg (encP encX) p3) ?_
 refine al_mv ?_
 refine al_xt ?_
 refine al_xt ?_
 refine al_xt ?_
 refine al_al 9 info37 fun ver9 => ?_
 refine al_al 11 info40 fun ver11 => ?_
 refine al_sp info37 ?_
 refine al_gs ?_
 refine al_sp info40 ?_
 refine al_nil ?_
 refine aw_seq ?_
 refine aw_st (σ2 := [(1, ver1, .row 16 [cellsE E1]), (3, ver3, .row 4 [encF okF]), (6, ver6, .row 16 [cellsE E2]), (8, ver8, .row 4 [encF okF]), (9, ver9, .row 16 [cellsE E3]), (11, ver11, .row 4 [encF (⟨11, [59], 1, 5⟩ : Flt)])]) rfl ?_
 refine aw_region ?_
 refine al_callp into38 rfl rfl rfl (l_words exS4 (by decide) _) (by simp) ?_
 refine al_callp into16 rfl rfl rfl (c_Target (lexP exS4).1 (okts_of ex_words4.1) (by rw [ex_words4.2]; decide) 0 _) (by simp) ?_
 refine al_as 47 (.tuple [encX E4, .v (.int .i64 (6)), .agg (encF okF)]) rfl (by exact congrArg (encP encX) p4) ?_
 refine al_mv ?_
 refine al_xt ?_
 refine al_xt ?_
 refine al_xt ?_
 refine al_al 12 info37 fun ver12 => ?_
 refine al_al 14 info40 fun ver14 => ?_
 refine al_sp info37 ?_
 refine al_gs ?_
 refine al_sp info40 ?_
 refine al_nil ?_
 refine aw_seq ?_
 refine aw_st (σ2 := [(1, ver1, .row 16 [cellsE E1]), (3, ver3, .row 4 [encF okF]), (6, ver6, .row 16 [cellsE E2]), (8, ver8, .row 4 [encF okF]), (9, ver9, .row 16 [cellsE E3]), (11, ver11, .row 4 [encF (⟨11, [59], 1, 5⟩ : Flt)]), (12, ver12, .row 16 [cellsE E4]), (14, ver14, .row 4 [encF okF])]) rfl ?_
 refine aw_region ?_
 refine al_callp into38 rfl rfl rfl (l_words exS5 (by decide) _) (by simp) ?_
 refine al_callp into18 rfl rfl rfl (c_Type (lexP exS5).1 (okts_of ex_words5.1) (by rw [ex_words5.2]; decide) 0 _) (by simp) ?_
 refine al_as 53 (.tuple [encRr R, .v (.int .i64 (9)), .agg (encF okF)]) rfl (by exact congrArg (encP encRr) p5) ?_
 refine al_mv ?_
 refine al_xt ?_
 refine al_xt ?_
 refine al_xt ?_
 refine al_al 15 info46 fun ver15 => ?_
 refine al_al 17 info40 fun ver17 => ?_
 refine al_sp info46 ?_
 refine al_gs ?_
 refine al_sp info40 ?_
 refine al_nil ?_
 refine aw_seq ?_
 refine aw_st (σ2 := [(1, ver1, .row 16 [cellsE E1]), (3, ver3, .row 4 [encF okF]), (6, ver6, .row 16 [cellsE E2]), (8, ver8, .row 4 [encF okF]), (9, ver9, .row 16 [cellsE E3]), (11, ver11, .row 4 [encF (⟨11, [59], 1, 5⟩ : Flt)]), (12, ver12, .row 16 [cellsE E4]), (14, ver14, .row 4 [encF okF]), (15, ver15, .row 5 [cellsR R]), (17, ver17, .row 4 [encF okF])]) rfl ?_
 refine aw_region ?_
 refine al_ld u46 info46 ?_
 refine al_callp into31 rfl rfl rfl (e_textR R w5 t5 _) (by simp) ?_
 refine al_as 59 (.tuple [.v (.string (str (exS5))), .v (.int .i64 (0))]) rfl (by rw [r2]) ?_
 refine al_mv ?_
 refine al_xt ?_
 refine al_xt ?_
 refine al_gs ?_
 refine al_gs ?_
 refine al_sr ?_
 refine al_ld u37 info37 ?_
 refine al_callp into29 rfl rfl rfl (e_names E1 w1 (by omega) _) (by simp) ?_
 refine al_as 64 (.tuple [.list 1 (([[97], [98], [99]] : List Bs).map encBs), .v (.int .i64 (0))]) rfl (by rw [f12]) ?_
 refine al_mv ?_
 refine al_xt ?_
 refine al_xt ?_
 refine al_gs ?_
 refine al_gs ?_
 refine al_nil ?_
 refine aw_seq ?_
 refine aw_sr ?_
 refine al_fp u37 info31 ?_
 refine al_ld u31 info31 ?_
 refine al_lm u31 ?_
 refine al_o (op_neq rfl rfl) ?_
 refine al_mv ?_
 refine al_as 71 (.v (.bool false)) rfl (by rw [f4]; rfl) ?_
 refine tk_fp u37 info31 ?_
 refine tk_ld u31 info31 ?_
 refine al_t (op_len_map u31 rfl) ?_
 refine al_t (op_neq rfl rfl) ?_
 refine al_pk ?_
 refine al_mv ?_
 refine al_as 77 (.v (.bool false)) rfl (by rw [g2]; rfl) ?_
 refine tk_mv ?_
 refine al_t (op_len_map u32 rfl) ?_
 refine al_t (op_neq rfl rfl) ?_
 refine al_pk ?_
 refine al_nil ?_
 refine aw_cond rfl (fun h1 => ?_) (fun h1 => ?_)
 ·have gh1 := h1
  simp only [nrm] at h1
  exact absurd gh1 (by decide)
 have gh1 := h1
 simp only [nrm] at h1
 refine aw_skip ?_
 refine aw_sr ?_
 refine al_fp u37 info25 ?_
 refine al_ld u25 info25 ?_
 refine al_eq ?_
 refine al_mv ?_
 refine al_as 85 (.v (.bool true)) rfl (by rw [f1]) ?_
 refine tk_fp u37 info9 ?_
 refine tk_ld u9 info9 ?_
 refine al_t (op_seql_str rfl rfl) ?_
 refine al_pk ?_
 refine al_mv ?_
 refine al_as 90 (.v (.bool true)) rfl (by rw [show (E1.name == [61]) = true from f2]) ?_
 refine tk_fp u37 info3 ?_
 refine tk_ld u3 info3 ?_
 refine tk_eq ?_
 refine al_pk ?_
 refine al_mv ?_
 refine al_as 95 (.v (.bool true)) rfl (by rw [f3]) ?_
 refine tk_mv ?_
 refine tk_eq ?_
 refine al_pk ?_
 refine al_mv ?_
 refine al_as 99 (.v (.bool true)) rfl (by rfl) ?_
 refine tk_ld u40 info40 ?_
 refine al_t (op_bs u40 info40 place40) ?_
 refine al_t (op_aeq (r := decide (okF = okF)) rfl rfl rfl rfl (by kernel_rfl) (fun w => flt_run okF okF w)) ?_
 refine al_pk ?_
 refine al_mv ?_
 refine al_as 104 (.v (.bool true)) rfl (by rfl) ?_
 refine tk_mv ?_
 refine al_t (op_seql_str rfl rfl) ?_
 refine al_pk ?_
 refine al_mv ?_
 refine al_as 108 (.v (.bool true)) rfl (by rfl) ?_
 refine tk_mv ?_
 refine tk_eq ?_
 refine al_pk ?_
 refine al_mv ?_
 refine al_as 112 (.v (.bool true)) rfl (by rfl) ?_
 refine tk_mv ?_
 refine tk_eq ?_
 refine al_pk ?_
 refine al_mv ?_
 refine al_as 116 (.v (.bool true)) rfl (by rfl) ?_
 refine tk_ld u40 info40 ?_
 refine al_t (op_bs u40 info40 place40) ?_
 refine al_t (op_aeq (r := decide (okF = okF)) rfl rfl rfl rfl (by kernel_rfl) (fun w => flt_run okF okF w)) ?_
 refine al_pk ?_
 refine al_mv ?_
 refine al_as 121 (.v (.bool true)) rfl (by rfl) ?_
 refine tk_ld u40 info40 ?_
 refine al_t (op_bs u40 info40 place40) ?_
 refine al_t (op_aeq (r := decide ((⟨11, [59], 1, 5⟩ : Flt) = (⟨11, [59], 1, 5⟩ : Flt))) rfl rfl rfl rfl (by kernel_rfl) (fun w => flt_run (⟨11, [59], 1, 5⟩ : Flt) (⟨11, [59], 1, 5⟩ : Flt) w)) ?_
 refine al_pk ?_
 refine al_mv ?_
 refine al_as 126 (.v (.bool true)) rfl (by rfl) ?_
 refine tk_fp u37 info25 ?_
 refine tk_ld u25 info25 ?_
 refine tk_eq ?_
 refine al_pk ?_
 refine al_mv ?_
 refine al_as 131 (.v (.bool true)) rfl (by rw [g1]) ?_
 refine tk_mv ?_
 refine tk_eq ?_
 refine al_pk ?_
 refine al_mv ?_
 refine al_as 135 (.v (.bool true)) rfl (by rfl) ?_
 refine tk_ld u40 info40 ?_
 refine al_t (op_bs u40 info40 place40) ?_
 refine al_t (op_aeq (r := decide (okF = okF)) rfl rfl rfl rfl (by kernel_rfl) (fun w => flt_run okF okF w)) ?_
 refine al_pk ?_
 refine al_mv ?_
 refine al_as 140 (.v (.bool true)) rfl (by rfl) ?_
 refine tk_mv ?_
 refine tk_eq ?_
 refine al_pk ?_
 refine al_mv ?_
 refine al_as 144 (.v (.bool true)) rfl (by rfl) ?_
 refine tk_ld u40 info40 ?_
 refine al_t (op_bs u40 info40 place40) ?_
 refine al_t (op_aeq (r := decide (okF = okF)) rfl rfl rfl rfl (by kernel_rfl) (fun w => flt_run okF okF w)) ?_
 refine al_pk ?_
 refine al_mv ?_
 refine al_as 149 (.v (.bool true)) rfl (by rfl) ?_
 refine tk_mv ?_
 refine al_t (op_seql_str rfl rfl) ?_
 refine al_pk ?_
 refine al_mv ?_
 refine al_as 153 (.v (.bool true)) rfl (by rfl) ?_
 refine tk_mv ?_
 refine tk_eq ?_
 refine al_pk ?_
 refine al_mv ?_
 refine al_as 157 (.v (.bool true)) rfl (by rfl) ?_
 refine tk_mv ?_
 refine al_t (op_im u32 info9) ?_
 refine al_t (op_load_rptr u9 info9 rfl rfl) ?_
 refine al_t (op_seql_str rfl rfl) ?_
 refine al_pk ?_
 refine al_mv ?_
 refine al_as 163 (.v (.bool true)) rfl (by rfl) ?_
 refine tk_mv ?_
 refine tk_eq ?_
 refine al_pk ?_
 refine al_mv ?_
 refine al_as 167 (.v (.bool true)) rfl (by rfl) ?_
 refine tk_ld u37 info37 ?_
 refine al_callp_take into25 rfl rfl rfl rfl rfl rfl (e_valid E1 w1 _) (by simp) ?_
 refine al_pk ?_
 refine al_mv ?_
 refine al_as 171 (.v (.bool true)) rfl (by rw [f13]) ?_
 refine tk_ld u37 info37 ?_
 refine al_callp_take into27 rfl rfl rfl rfl rfl rfl (e_isTargetV E4 w4 _) (by simp) ?_
 refine al_pk ?_
 refine al_mv ?_
 refine al_as 175 (.v (.bool true)) rfl (by rw [g7, g8]; rfl) ?_
 refine tk_ld u37 info37 ?_
 refine al_callp_take into27 rfl rfl rfl rfl rfl rfl (e_isTargetV E1 w1 _) (by simp) ?_
 refine al_t (op_not rfl) ?_
 refine al_pk ?_
 refine al_mv ?_
 refine al_as 180 (.v (.bool true)) rfl (by rw [f13, f14]; rfl) ?_
 refine tk_ld u46 info46 ?_
 refine al_callp_take into33 rfl rfl rfl rfl rfl rfl (e_validR R w5 _) (by simp) ?_
 refine al_pk ?_
 refine al_mv ?_
 refine al_as 184 (.v (.bool true)) rfl (by rw [r3]) ?_
 refine tk_ld u37 info37 ?_
 refine tk_ld u37 info37 ?_
 refine al_callp_take into35 rfl rfl rfl rfl rfl rfl (e_same E1 E1 f7 f7 _) (by simp) ?_
 refine al_pk ?_
 refine al_gs ?_
 refine al_nil ?_
 refine fz1 (t := 0) ?_
 refine aw_ret ?_
 refine ⟨_, res_1 rfl rfl, ?_, rfl⟩
 rw [sameE_self]
end Go.Proofs.YtcgdlhkiecommaaGreatDoor
/- Printed walks (gen.py, lexer_ann.py): part 424. -/




namespace Go.Proofs.YtcgdlhkiecommaaGreatDoor
open Go
end Go.Proofs.YtcgdlhkiecommaaGreatDoor
/- Printed walks (gen.py, lexer_ann.py): part 425. -/




namespace Go.Proofs.YtcgdlhkiecommaaGreatDoor
open Go
theorem r_partsS (v : Va) (hz : szV v = true) (n : Int) (hn : 0 ≤ n) (hn2 : n ≤ 9000) (ih : ∀ k ∈ v.list, ∀ n : Int, 0 ≤ n → n ≤ 9000 → ACp Tryz.prog 100 [.agg (cellsV k), .v (.int .i64 (n))] (.v (.int .i64 (partsV k n)))) : ACp Tryz.prog 100 [.agg (cellsV v), .v (.int .i64 (n))] (.v (.int .i64 (partsV v n))) := by
 refine acp_of rfl ?_
 obtain ⟨z1, z2, z3⟩ := szV_facts hz
 have hB : loP = (-4503599627370496 : Int) := rfl
 refine ace 28 Tryz.func100 ?_
 refine aw_sr ?_
 refine al_bx 2 fun ver2 => ?_
 refine al_gs ?_
 refine al_sr ?_
 refine al_mv ?_
 refine al_fp u30 info26 ?_
 refine al_ld u26 info26 ?_
 refine al_lm u26 ?_
 refine al_ad ?_
 refine al_o (op_sub rfl rfl (by first | exact wrap_i64 (by omega) (by omega))) ?_
 refine al_gs ?_
 refine al_nil ?_
 refine aw_seq ?_
 refine aw_sr ?_
 refine al_fp u30 info28 ?_
 refine al_ld u28 info28 ?_
 refine al_lm u28 ?_
 refine al_mv ?_
 refine al_nil ?_
 refine aw_block ?_
 refine aw_for2T (α := Nat) (β := Int) [1, 4, 16] [6] (fun i m => v.list.length - i) (fun i m => i ≤ v.list.length ∧ (loP ≤ m ∧ m ≤ 9000) ∧ partsVs (v.list.drop i) m = partsV v n) (fun i m => ([(1, .v (.int .i64 (m))), (16, .v (.int .i64 ((i : Nat) : Int)))] : Env)) (fun i m s => s) (0) (n - (1 + (v.bits.length : Int))) ?_ ?_ ?_ (fun i m hinv => ?_)
 ·exact ⟨Nat.zero_le _, ⟨by omega, by omega⟩, (partsV_eq v n).symm⟩
 ·refine sub_2 ?_ ?_
  all_goals (first | rfl | simp)
 ·rfl
 obtain ⟨hi, ⟨hm1, hm2⟩, hpe⟩ := hinv
 refine aw_sr ?_
 refine al_ls ?_
 refine al_nil ?_
 refine aw_seq ?_
 refine aw_cond rfl (fun h1 => ?_) (fun h1 => ?_)
 ·have gh1 := h1
  simp only [nrm] at h1
  refine aw_skip ?_
  refine aw_seq ?_
  refine aw_block ?_
  refine aw_sr ?_
  refine al_o (val_as (.rptr (cellsV (v.list.getD i default))) (op_im u28 info30) (by exact congrArg AVal.rptr (encVa_cells _))) ?_
  refine al_lr u30 info30 ?_
  refine al_al 6 info30 fun ver6 => ?_
  refine al_sp info30 ?_
  refine al_nil ?_
  refine aw_seq ?_
  refine aw_sr ?_
  refine al_mv ?_
  refine al_ls ?_
  refine al_nil ?_
  refine aw_cond rfl (fun h2 => ?_) (fun h2 => ?_)
  ·have gh2 := h2
   simp only [nrm] at h2
   refine aw_sr ?_
   refine al_mv ?_
   refine al_gs ?_
   refine al_nil ?_
   refine fz1 (t := 4) ?_
   refine aw_ret ?_
   refine ⟨_, res_1 rfl rfl, ?_, rfl⟩
   rw [← hpe, partsVs_lt (by simpa using gh2)]
  have gh2 := h2
  simp only [nrm] at h2
  have hmn : ¬ m < 0 := by simpa using gh2
  have hq := partsV_in (v.list.getD i default) (z3 _ (getD_mem (by omega))) m (by omega)
  refine aw_skip ?_
  refine aw_region ?_
  refine al_ld u30 info30 ?_
  refine al_mv ?_
  refine al_callp into100 rfl rfl rfl (ih (v.list.getD i default) (getD_mem (by omega)) m (by omega) (by omega) _) (by simp) ?_
  refine al_gs ?_
  refine al_nil ?_
  refine aw_region ?_
  refine al_ad ?_
  refine al_mv ?_
  refine al_nil ?_
  refine ⟨i + 1, partsV (v.list.getD i default) m, ?_, ?_, ?_, ?_, ?_⟩
  ·omega
  ·exact ⟨by omega, ⟨hq.1, by have := hq.2; omega⟩, by rw [← partsVs_step (by omega) (by simpa using gh2)]; exact hpe⟩
  ·refine sub_2 ?_ ?_
   all_goals (first | rfl | simp)
  ·exact sbl
  ·rfl
 have gh1 := h1
 simp only [nrm] at h1
 refine aw_exit ?_

 refine aw_sr ?_
 refine al_mv ?_
 refine al_gs ?_
 refine al_nil ?_
 refine fz1 (t := 4) ?_
 refine aw_ret ?_
 refine ⟨_, res_1 rfl rfl, ?_, rfl⟩
 rw [← hpe, partsVs_end (by omega)]
theorem r_parts (v : Va) : szV v = true → ∀ n : Int, 0 ≤ n → n ≤ 9000 → ACp Tryz.prog 100 [.agg (cellsV v), .v (.int .i64 (n))] (.v (.int .i64 (partsV v n))) := by
  induction v using Va.ind with
  | h v ih =>
    intro hz n hn hn2
    obtain ⟨z1, z2, z3⟩ := szV_facts hz
    exact r_partsS v hz n hn hn2 (fun k hk => ih k hk (z3 k hk))
theorem r_PartsS (e : Ex) (hz : szX e = true) (n : Int) (hn : 0 ≤ n) (hn2 : n ≤ 9000) (d : Nat) (hd : d ≤ 301) (ih : ∀ k ∈ e.kids, ∀ n : Int, 0 ≤ n → n ≤ 9000 → ∀ d : Nat, d ≤ 301 → ACp Tryz.prog 50 [.agg (cellsE k), .v (.int .i64 (n)), .v (.int .i64 ((d : Nat) : Int))] (.v (.int .i64 (partsE k n d)))) : ACp Tryz.prog 50 [.agg (cellsE (e)), .v (.int .i64 (n)), .v (.int .i64 ((d : Nat) : Int))] (.v (.int .i64 (partsE e n d))) := by
 refine acp_of rfl ?_
 obtain ⟨z1, z2, z3, z4, z5, z6⟩ := szX_facts hz
 obtain ⟨w1, w2, -⟩ := szV_facts z4
 obtain ⟨u0, u1, u2, -⟩ := szT_facts z5
 have hB : loP = (-4503599627370496 : Int) := rfl
 refine ace 59 Tryz.func50 ?_
 refine aw_sr ?_
 refine al_bx 3 fun ver3 => ?_
 refine al_gs ?_
 refine al_sr ?_
 refine al_mv ?_
 refine al_fp u37 info26 ?_
 refine al_ld u26 info26 ?_
 refine al_lm u26 ?_
 refine al_ad ?_
 refine al_fp u37 info9 ?_
 refine al_ld u9 info9 ?_
 refine al_o (op_slen_str (ts := #[]) u9 rfl) ?_
 refine al_o (op_quo rfl rfl (by omega) (quo_nn (by omega) (by omega) (by omega))) ?_
 refine al_ad ?_
 refine al_fp u37 info30 ?_
 refine al_fp u30 info26 ?_
 refine al_ld u26 info26 ?_
 refine al_lm u26 ?_
 refine al_ad ?_
 refine al_fp u37 info30 ?_
 refine al_fp u30 info28 ?_
 refine al_ld u28 info28 ?_
 refine al_lm u28 ?_
 refine al_ad ?_
 refine al_fp u37 info35 ?_
 refine al_fp u35 info32 ?_
 refine al_ld u32 info32 ?_
 refine al_lm u32 ?_
 refine al_ad ?_
 refine al_fp u37 info35 ?_
 refine al_fp u35 info33 ?_
 refine al_ld u33 info33 ?_
 refine al_lm u33 ?_
 refine al_ad ?_
 refine al_o (op_sub rfl rfl (by first | exact wrap_i64 (by omega) (by omega))) ?_
 refine al_gs ?_
 refine al_nil ?_
 refine aw_seq ?_
 refine aw_sr ?_
 refine al_mv ?_
 refine al_o (op_gtr rfl rfl) ?_
 refine al_nil ?_
 refine aw_cond rfl (fun h1 => ?_) (fun h1 => ?_)
 ·have gh1 := h1
  simp only [nrm] at h1
  refine aw_sr ?_
  refine al_gs ?_
  refine al_nil ?_
  refine fz1 (t := 6) ?_
  refine aw_ret ?_
  refine ⟨_, res_1 rfl rfl, ?_, rfl⟩
  rw [partsE_no (by simp at gh1; omega)]
 have gh1 := h1
 simp only [nrm] at h1
 have hdn : ¬ 300 < d := by simp at gh1; omega
 refine aw_skip ?_
 refine aw_seq ?_
 refine aw_sr ?_
 refine al_fp u37 info31 ?_
 refine al_ld u31 info31 ?_
 refine al_lm u31 ?_
 refine al_mv ?_
 refine al_nil ?_
 refine aw_block ?_
 refine aw_for2T (α := Nat) (β := Int) [1, 6, 45] [8] (fun i m => e.kids.length - i) (fun i m => i ≤ e.kids.length ∧ (loP ≤ m ∧ m ≤ 9000) ∧ partsEs (e.kids.drop i) m d = partsE e n d) (fun i m => ([(1, .v (.int .i64 (m))), (45, .v (.int .i64 ((i : Nat) : Int)))] : Env)) (fun i m s => s) (0) (n - (((((1 + (e.bits.length : Int)) + (e.name.length / 50 : Nat)) + e.val.bits.length) + e.val.list.length) + e.type.names.length + e.type.elem.length)) ?_ ?_ ?_ (fun i m hinv => ?_)
 ·exact ⟨Nat.zero_le _, ⟨by omega, by omega⟩, (partsE_eq hdn).symm⟩
 ·refine sub_2 ?_ ?_
  all_goals (first | rfl | simp)
 ·rfl
 obtain ⟨hi, ⟨hm1, hm2⟩, hpe⟩ := hinv
 refine aw_sr ?_
 refine al_ls ?_
 refine al_nil ?_
 refine aw_seq ?_
 refine aw_cond rfl (fun h2 => ?_) (fun h2 => ?_)
 ·have gh2 := h2
  simp only [nrm] at h2
  refine aw_skip ?_
  refine aw_seq ?_
  refine aw_block ?_
  refine aw_sr ?_
  refine al_o (val_as (.rptr (cellsE (e.kids.getD i default))) (op_im u31 info37) (by exact congrArg AVal.rptr (encE_cells _))) ?_
  refine al_lr u37 info37 ?_
  refine al_al 8 info37 fun ver8 => ?_
  refine al_sp info37 ?_
  refine al_nil ?_
  refine aw_seq ?_
  refine aw_sr ?_
  refine al_mv ?_
  refine al_ls ?_
  refine al_nil ?_
  refine aw_cond rfl (fun h3 => ?_) (fun h3 => ?_)
  ·have gh3 := h3
   simp only [nrm] at h3
   refine aw_sr ?_
   refine al_mv ?_
   refine al_gs ?_
   refine al_nil ?_
   refine fz1 (t := 6) ?_
   refine aw_ret ?_
   refine ⟨_, res_1 rfl rfl, ?_, rfl⟩
   rw [← hpe, partsEs_lt (by simpa using gh3)]
  have gh3 := h3
  simp only [nrm] at h3
  have hmn : ¬ m < 0 := by simpa using gh3
  have hq := partsE_in (e.kids.getD i default) (z6 _ (getD_mem (by omega))) m (d + 1) (by omega)
  refine aw_skip ?_
  refine aw_region ?_
  refine al_ld u37 info37 ?_
  refine al_mv ?_
  refine al_mv ?_
  refine al_ad ?_
  refine al_callp into50 rfl rfl rfl (ih (e.kids.getD i default) (getD_mem (by omega)) m (by omega) (by omega) (d + 1) (by omega) _) (by simp) ?_
  refine al_gs ?_
  refine al_nil ?_
  refine aw_region ?_
  refine al_ad ?_
  refine al_mv ?_
  refine al_nil ?_
  refine ⟨i + 1, partsE (e.kids.getD i default) m (d + 1), ?_, ?_, ?_, ?_, ?_⟩
  ·omega
  ·exact ⟨by omega, ⟨hq.1, by have := hq.2; omega⟩, by rw [← partsEs_step (by omega) (by simpa using gh3)]; exact hpe⟩
  ·refine sub_2 ?_ ?_
   all_goals (first | rfl | simp)
  ·exact sbl
  ·rfl
 have gh2 := h2
 simp only [nrm] at h2
 refine aw_exit ?_

 refine aw_sr ?_
 refine al_mv ?_
 refine al_gs ?_
 refine al_nil ?_
 refine fz1 (t := 6) ?_
 refine aw_ret ?_
 refine ⟨_, res_1 rfl rfl, ?_, rfl⟩
 rw [← hpe, partsEs_end (by omega)]
theorem r_Parts (e : Ex) : szX e = true → ∀ n : Int, 0 ≤ n → n ≤ 9000 → ∀ d : Nat, d ≤ 301 → ACp Tryz.prog 50 [.agg (cellsE e), .v (.int .i64 (n)), .v (.int .i64 ((d : Nat) : Int))] (.v (.int .i64 (partsE e n d))) := by
  induction e using Ex.ind with
  | h e ih =>
    intro hz n hn hn2 d hd
    obtain ⟨z1, z2, z3, z4, z5, z6⟩ := szX_facts hz
    exact r_PartsS e hz n hn hn2 d hd (fun k hk => ih k hk (z6 k hk))
theorem r_SmallS (t : Ty) (hz : szT t = true) (vs : List Va) (hv : vs.length ≤ 140737488355328) (hvs : ∀ v ∈ vs, szV v = true) (ih : ∀ k ∈ t.elem, ACp Tryz.prog 51 [.agg (cellsT k), .list 4 []] (.v (.bool (smallT k)))) : ACp Tryz.prog 51 [.agg (cellsT t), .list 4 (vs.map encVa)] (.v (.bool (smallP t vs))) := by
 refine acp_of rfl ?_
 obtain ⟨u0, u1, u2, u3⟩ := szT_facts hz
 refine ace 65 Tryz.func51 ?_
 refine aw_sr ?_
 refine al_bx 2 fun ver2 => ?_
 refine al_gs ?_
 refine al_nil ?_
 refine aw_seq ?_
 refine aw_sr ?_
 refine al_fp u35 info9 ?_
 refine al_ld u9 info9 ?_
 refine al_o (op_slen_str (ts := #[]) u9 rfl) ?_
 refine al_o (op_gtr rfl rfl) ?_
 refine al_mv ?_
 apply al_or 5 15 20 rfl
 ·intro h1; have gh1 := h1
  simp only [nrm] at h1
  refine tk_fp u35 info32 ?_
  refine tk_ld u32 info32 ?_
  refine al_t (op_len_map u32 rfl) ?_
  refine al_t (op_gtr rfl rfl) ?_
  refine al_pk ?_
  exact al_nk gh1
 ·intro h1; have gh1 := h1
  simp only [nrm] at h1
  iterate 4 refine al_ps ?_
  refine al_pk ?_
  exact al_nk gh1
 refine al_mv ?_
 apply al_or 5 21 26 rfl
 ·intro h2; have gh2 := h2
  simp only [nrm] at h2
  refine tk_fp u35 info33 ?_
  refine tk_ld u33 info33 ?_
  refine al_t (op_len_map u33 rfl) ?_
  refine al_t (op_gtr rfl rfl) ?_
  refine al_pk ?_
  exact al_nk gh2
 ·intro h2; have gh2 := h2
  simp only [nrm] at h2
  iterate 4 refine al_ps ?_
  refine al_pk ?_
  exact al_nk gh2
 refine al_nil ?_
 refine aw_cond rfl (fun h3 => ?_) (fun h3 => ?_)
 ·have gh3 := h3
  simp only [nrm] at h3
  refine aw_sr ?_
  refine al_gs ?_
  refine al_nil ?_
  refine fz1 (t := 4) ?_
  refine aw_ret ?_
  refine ⟨_, res_1 rfl rfl, ?_, rfl⟩
  rw [small_no1 gh3]
 have gh3 := h3
 simp only [nrm] at h3
 refine aw_skip ?_
 refine aw_seq ?_
 refine aw_sr ?_
 refine al_fp u35 info32 ?_
 refine al_ld u32 info32 ?_
 refine al_lm u32 ?_
 refine al_mv ?_
 refine al_nil ?_
 refine aw_block ?_
 refine aw_forT (ι := Nat) [4, 30] [] (fun i => t.names.length - i) (fun i => i ≤ t.names.length ∧ ∀ k, k < i → (fun k => decide (100 < ((t.names.getD k default).length : Int))) k = false) (fun i => ([(30, .v (.int .i64 ((i : Nat) : Int)))] : Env)) (fun i s => s) (0) ?_ ?_ ?_ (fun i hinv => ?_)
 ·exact ⟨Nat.zero_le _, fun k hk => absurd hk (Nat.not_lt_zero k)⟩
 ·refine sub_1 ?_
  all_goals (first | rfl | simp)
 ·rfl
 have hi := hinv.1

 refine aw_sr ?_
 refine al_ls ?_
 refine al_nil ?_
 refine aw_seq ?_
 refine aw_cond rfl (fun h4 => ?_) (fun h4 => ?_)
 ·have gh4 := h4
  simp only [nrm] at h4
  refine aw_skip ?_
  refine aw_seq ?_
  refine aw_block ?_
  refine aw_sr ?_
  refine al_o (op_im u32 info9) ?_
  refine al_lr u9 info9 ?_
  refine al_gs ?_
  refine al_sr ?_
  refine al_mv ?_
  refine al_o (op_slen_str (ts := #[]) u9 rfl) ?_
  refine al_o (op_gtr rfl rfl) ?_
  refine al_nil ?_
  refine aw_cond rfl (fun h5 => ?_) (fun h5 => ?_)
  ·have gh5 := h5
   simp only [nrm] at h5
   refine aw_sr ?_
   refine al_gs ?_
   refine al_nil ?_
   refine fz1 (t := 4) ?_
   refine aw_ret ?_
   refine ⟨_, res_1 rfl rfl, ?_, rfl⟩
   rw [small_no2 i (by omega) gh5]
  have gh5 := h5
  simp only [nrm] at h5
  refine aw_skip ?_
  refine aw_region ?_
  refine al_ad ?_
  refine al_mv ?_
  refine al_nil ?_
  refine ⟨i + 1, ?_, ?_, ?_, ?_, ?_⟩
  ·omega
  ·exact ⟨by omega, idx_more (p := fun k => decide (100 < ((t.names.getD k default).length : Int))) hinv.2 gh5⟩
  ·refine sub_1 ?_
   all_goals (first | rfl | simp)
  ·exact sbl
  ·rfl
 have gh4 := h4
 simp only [nrm] at h4
 refine aw_exit ?_
 have hn1 := hinv.2
 have hi1 : i = t.names.length := by omega
 refine aw_seq ?_
 refine aw_sr ?_
 refine al_fp u35 info33 ?_
 refine al_ld u33 info33 ?_
 refine al_lm u33 ?_
 refine al_mv ?_
 refine al_nil ?_
 refine aw_block ?_
 refine aw_forT (ι := Nat) [4, 41] [8] (fun j => t.elem.length - j) (fun j => j ≤ t.elem.length ∧ ∀ k, k < j → (fun k => (decide (2 < ((t.elem.getD k default).elem.length : Int)) || !(smallT (t.elem.getD k default)))) k = false) (fun j => ([(41, .v (.int .i64 ((j : Nat) : Int)))] : Env)) (fun j s => s) (0) ?_ ?_ ?_ (fun j hinv => ?_)
 ·exact ⟨Nat.zero_le _, fun k hk => absurd hk (Nat.not_lt_zero k)⟩
 ·refine sub_1 ?_
  all_goals (first | rfl | simp)
 ·rfl
 have hi := hinv.1

 refine aw_sr ?_
 refine al_ls ?_
 refine al_nil ?_
 refine aw_seq ?_
 refine aw_cond rfl (fun h6 => ?_) (fun h6 => ?_)
 ·have gh6 := h6
  simp only [nrm] at h6
  refine aw_skip ?_
  refine aw_seq ?_
  refine aw_block ?_
  refine aw_sr ?_
  refine al_o (val_as (.rptr (cellsT (t.elem.getD j default))) (op_im u33 info35) (by exact congrArg AVal.rptr (encTy_cells _))) ?_
  refine al_lr u35 info35 ?_
  refine al_al 8 info35 fun ver8 => ?_
  refine al_sp info35 ?_
  refine al_sr ?_
  refine al_fp u35 info33 ?_
  refine al_ld u33 info33 ?_
  refine al_lm u33 ?_
  refine al_o (op_gtr rfl rfl) ?_
  refine al_mv ?_
  apply al_or 4 49 53 rfl
  ·intro h7; have gh7 := h7
   simp only [nrm] at h7
   refine tk_ld u35 info35 ?_
   refine al_callp_take into51 rfl rfl rfl rfl rfl rfl (acp_lent (lend_cons lend_same (lend_cons (.leaf _ _ (.vnil _)) lend_nil)) (ih (t.elem.getD j default) (getD_mem (by omega))) rfl) (by simp) ?_
   refine al_t (op_not rfl) ?_
   refine al_pk ?_
   exact al_nk gh7
  ·intro h7; have gh7 := h7
   simp only [nrm] at h7
   iterate 3 refine al_ps ?_
   refine al_pk ?_
   exact al_nk gh7
  refine al_nil ?_
  refine aw_cond rfl (fun h8 => ?_) (fun h8 => ?_)
  ·have gh8 := h8
   simp only [nrm] at h8
   refine aw_sr ?_
   refine al_gs ?_
   refine al_nil ?_
   refine fz1 (t := 4) ?_
   refine aw_ret ?_
   refine ⟨_, res_1 rfl rfl, ?_, rfl⟩
   rw [small_no3 j (by omega) gh8]
  have gh8 := h8
  simp only [nrm] at h8
  refine aw_skip ?_
  refine aw_region ?_
  refine al_ad ?_
  refine al_mv ?_
  refine al_nil ?_
  refine ⟨j + 1, ?_, ?_, ?_, ?_, ?_⟩
  ·omega
  ·exact ⟨by omega, idx_more (p := fun k => (decide (2 < ((t.elem.getD k default).elem.length : Int)) || !(smallT (t.elem.getD k default)))) hinv.2 gh8⟩
  ·refine sub_1 ?_
   all_goals (first | rfl | simp)
  ·exact sbl
  ·rfl
 have gh6 := h6
 simp only [nrm] at h6
 refine aw_exit ?_
 have hn2 := hinv.2
 have hj1 : j = t.elem.length := by omega
 refine aw_seq ?_
 refine aw_sr ?_
 refine al_mv ?_
 refine al_lm u28 ?_
 refine al_mv ?_
 refine al_nil ?_
 refine aw_block ?_
 refine aw_forT (ι := Nat) [4, 57] [10] (fun m => vs.length - m) (fun m => m ≤ vs.length ∧ ∀ k, k < m → (fun k => decide (partsV (vs.getD k default) 9000 < 0)) k = false) (fun m => ([(57, .v (.int .i64 ((m : Nat) : Int)))] : Env)) (fun m s => s) (0) ?_ ?_ ?_ (fun m hinv => ?_)
 ·exact ⟨Nat.zero_le _, fun k hk => absurd hk (Nat.not_lt_zero k)⟩
 ·refine sub_1 ?_
  all_goals (first | rfl | simp)
 ·rfl
 have hi := hinv.1

 refine aw_sr ?_
 refine al_ls ?_
 refine al_nil ?_
 refine aw_seq ?_
 refine aw_cond rfl (fun h9 => ?_) (fun h9 => ?_)
 ·have gh9 := h9
  simp only [nrm] at h9
  refine aw_skip ?_
  refine aw_seq ?_
  refine aw_block ?_
  refine aw_sr ?_
  refine al_o (val_as (.rptr (cellsV (vs.getD m default))) (op_im u28 info30) (by exact congrArg AVal.rptr (encVa_cells _))) ?_
  refine al_lr u30 info30 ?_
  refine al_al 10 info30 fun ver10 => ?_
  refine al_sp info30 ?_
  refine al_sr ?_
  refine al_ld u30 info30 ?_
  refine al_callp into100 rfl rfl rfl (r_parts (vs.getD m default) (hvs _ (getD_mem (by omega))) 9000 (by omega) (by omega) _) (by simp) ?_
  refine al_ls ?_
  refine al_nil ?_
  refine aw_cond rfl (fun h10 => ?_) (fun h10 => ?_)
  ·have gh10 := h10
   simp only [nrm] at h10
   refine aw_sr ?_
   refine al_gs ?_
   refine al_nil ?_
   refine fz1 (t := 4) ?_
   refine aw_ret ?_
   refine ⟨_, res_1 rfl rfl, ?_, rfl⟩
   rw [small_no4 m (by omega) gh10]
  have gh10 := h10
  simp only [nrm] at h10
  refine aw_skip ?_
  refine aw_region ?_
  refine al_ad ?_
  refine al_mv ?_
  refine al_nil ?_
  refine ⟨m + 1, ?_, ?_, ?_, ?_, ?_⟩
  ·omega
  ·exact ⟨by omega, idx_more (p := fun k => decide (partsV (vs.getD k default) 9000 < 0)) hinv.2 gh10⟩
  ·refine sub_1 ?_
   all_goals (first | rfl | simp)
  ·exact sbl
  ·rfl
 have gh9 := h9
 simp only [nrm] at h9
 refine aw_exit ?_
 refine aw_sr ?_
 refine al_gs ?_
 refine al_nil ?_
 refine fz1 (t := 4) ?_
 refine aw_ret ?_
 refine ⟨_, res_1 rfl rfl, ?_, rfl⟩
 rw [small_yes gh3 (fun k hk => hn1 k (by omega)) (fun k hk => hn2 k (by omega)) (fun k hk => hinv.2 k (by omega))]
theorem r_SmallN (t : Ty) : szT t = true → ACp Tryz.prog 51 [.agg (cellsT t), .list 4 []] (.v (.bool (smallT t))) := by
  induction t using Ty.ind with
  | h t ih =>
    intro hz
    obtain ⟨u0, u1, u2, u3⟩ := szT_facts hz
    rw [← smallP_nil]
    exact r_SmallS t hz [] (by simp) (by simp) (fun k hk => ih k hk (u3 k hk))
theorem r_Small (t : Ty) (hz : szT t = true) (vs : List Va) (hv : vs.length ≤ 140737488355328) (hvs : ∀ v ∈ vs, szV v = true) : ACp Tryz.prog 51 [.agg (cellsT t), .list 4 ((vs).map encVa)] (.v (.bool (smallP t vs))) := by
  obtain ⟨u0, u1, u2, u3⟩ := szT_facts hz
  exact r_SmallS t hz vs hv hvs (fun k hk => r_SmallN k (u3 k hk))
end Go.Proofs.YtcgdlhkiecommaaGreatDoor
/- Printed walks (gen.py, lexer_ann.py): part 426. -/



namespace Go.Proofs.YtcgdlhkiecommaaGreatDoor
open Go
theorem r_Few (l : List Ex) (hl : l.length ≤ 140737488355328) (hz : ∀ e ∈ l, szX e = true) : ACp Tryz.prog 22 [.list 16 ((l).map encE)] (.v (.bool (fewP l 3000))) := by
 refine acp_of rfl ?_
 have hB : loP = (-4503599627370496 : Int) := rfl
 refine ace 27 Tryz.func22 ?_
 refine aw_sr ?_
 refine al_gs ?_
 refine al_sr ?_
 refine al_gs ?_
 refine al_nil ?_
 refine aw_seq ?_
 refine aw_sr ?_
 refine al_mv ?_
 refine al_lm u31 ?_
 refine al_mv ?_
 refine al_nil ?_
 refine aw_block ?_
 refine aw_for2T (α := Nat) (β := Int) [2, 3, 8] [5] (fun i m => l.length - i) (fun i m => i ≤ l.length ∧ (0 ≤ m ∧ m ≤ 3000) ∧ fewP (l.drop i) m = fewP l 3000) (fun i m => ([(3, .v (.int .i64 (m))), (8, .v (.int .i64 ((i : Nat) : Int)))] : Env)) (fun i m s => s) (0) (3000) ?_ ?_ ?_ (fun i m hinv => ?_)
 ·exact ⟨Nat.zero_le _, ⟨by omega, by omega⟩, rfl⟩
 ·refine sub_2 ?_ ?_
  all_goals (first | rfl | simp)
 ·rfl
 obtain ⟨hi, ⟨hm1, hm2⟩, hpe⟩ := hinv
 refine aw_sr ?_
 refine al_ls ?_
 refine al_nil ?_
 refine aw_seq ?_
 refine aw_cond rfl (fun h1 => ?_) (fun h1 => ?_)
 ·have gh1 := h1
  simp only [nrm] at h1
  have he : szX (l.getD i default) = true := hz _ (getD_mem (by omega))
  obtain ⟨e1, e2, e3, e4, e5, e6⟩ := szX_facts he
  have hq := partsE_in (l.getD i default) he m 0 (by omega)
  refine aw_skip ?_
  refine aw_seq ?_
  refine aw_block ?_
  refine aw_sr ?_
  refine al_o (val_as (.rptr (cellsE (l.getD i default))) (op_im u31 info37) (by exact congrArg AVal.rptr (encE_cells _))) ?_
  refine al_lr u37 info37 ?_
  refine al_al 5 info37 fun ver5 => ?_
  refine al_sp info37 ?_
  refine al_sr ?_
  refine al_ld u37 info37 ?_
  refine al_mv ?_
  refine al_callp into50 rfl rfl rfl (r_Parts (l.getD i default) he m (by omega) (by omega) 0 (by omega) _) (by simp) ?_
  refine al_gs ?_
  refine al_sr ?_
  refine al_mv ?_
  refine al_ls ?_
  refine al_mv ?_
  apply al_or 8 17 25 rfl
  ·intro h2; have gh2 := h2
   simp only [nrm] at h2
   refine tk_fp u37 info35 ?_
   refine tk_ld u35 info35 ?_
   refine tk_fp u37 info30 ?_
   refine tk_ld u30 info30 ?_
   refine al_t (op_list encVa [(l.getD i default).val] u28 info30 rfl rfl (by decide) rfl (by decide) rfl (by first | rfl | (repeat (first | exact parts_nil | refine parts_cons rfl (by repeat (first | exact all_live_nil | refine all_live_clo rfl ?_ | refine all_live_slice rfl ?_ | refine all_live_map rfl ?_ | refine all_live_ptr rfl ?_)) ?_))) rfl rfl rfl (vals1 _)) ?_
   refine al_callp_take into51 rfl rfl rfl rfl rfl rfl (r_Small (l.getD i default).type e5 [(l.getD i default).val] (by simp) (fun v hv => by rw [List.mem_singleton.1 hv]; exact e4) _) (by simp) ?_
   refine al_t (op_not rfl) ?_
   refine al_pk ?_
   exact al_nk gh2
  ·intro h2; have gh2 := h2
   simp only [nrm] at h2
   iterate 7 refine al_ps ?_
   refine al_pk ?_
   exact al_nk gh2
  refine al_nil ?_
  refine aw_cond rfl (fun h3 => ?_) (fun h3 => ?_)
  ·have gh3 := h3
   simp only [nrm] at h3
   refine aw_sr ?_
   refine al_gs ?_
   refine al_nil ?_
   refine fz1 (t := 2) ?_
   refine aw_ret ?_
   refine ⟨_, res_1 rfl rfl, ?_, rfl⟩
   rw [← hpe, fewP_stop (by omega) gh3]
  have gh3 := h3
  simp only [nrm] at h3
  refine aw_skip ?_
  refine aw_region ?_
  refine al_ad ?_
  refine al_mv ?_
  refine al_nil ?_
  refine ⟨i + 1, partsE (l.getD i default) m 0, ?_, ?_, ?_, ?_, ?_⟩
  ·omega
  ·exact ⟨by omega, ⟨by have := few_ge gh3; omega, by have := hq.2; omega⟩, by rw [← fewP_step (by omega) gh3]; exact hpe⟩
  ·refine sub_2 ?_ ?_
   all_goals (first | rfl | simp)
  ·exact sbl
  ·rfl
 have gh1 := h1
 simp only [nrm] at h1
 refine aw_exit ?_
 refine aw_sr ?_
 refine al_gs ?_
 refine al_nil ?_
 refine fz1 (t := 2) ?_
 refine aw_ret ?_
 refine ⟨_, res_1 rfl rfl, ?_, rfl⟩
 rw [← hpe, fewP_end (by omega)]
end Go.Proofs.YtcgdlhkiecommaaGreatDoor
/- Printed walks (gen.py, lexer_ann.py): part 427. -/



namespace Go.Proofs.YtcgdlhkiecommaaGreatDoor
open Go
end Go.Proofs.YtcgdlhkiecommaaGreatDoor
/- Printed walks (gen.py, lexer_ann.py): part 430. -/




namespace Go.Proofs.YtcgdlhkiecommaaGreatDoor
open Go
theorem r_strength (s : Bs) : ACp Tryz.prog 136 [.v (.string (str (s)))] (.v (.int .i64 (strR s))) := by
 refine acp_of rfl ?_
 refine ace 28 Tryz.func136 ?_
 refine aw_sr ?_
 refine al_gs ?_
 refine al_nil ?_
 refine aw_seq ?_
 refine aw_sr ?_
 refine al_mv ?_
 refine al_nil ?_
 refine aw_block ?_
 refine aw_seq ?_
 refine aw_sr ?_
 refine al_o (op_seql_str rfl rfl) ?_
 refine al_gs ?_
 refine al_nil ?_
 refine aw_cond rfl (fun h1 => ?_) (fun h1 => ?_)
 ·have gh1 := h1
  simp only [nrm] at h1
  refine aw_skip ?_
  refine aw_cond rfl (fun h2 => ?_) (fun h2 => ?_)
  ·have gh2 := h2
   simp only [nrm] at h2
   refine aw_sr ?_
   refine al_gs ?_
   refine al_nil ?_
   refine fz1 (t := 2) ?_
   refine aw_ret ?_
   refine ⟨_, res_1 rfl rfl, ?_, rfl⟩
   rw [strR_eq]; simp only [gh1, Bool.false_or, Bool.true_or, Bool.or_true, Bool.or_false, Bool.false_eq_true, if_true, if_false, reduceIte]
  have gh2 := h2
  simp only [nrm] at h2
  exact absurd (gh1.symm.trans gh2) (by decide)
 have gh1 := h1
 simp only [nrm] at h1
 refine aw_sr ?_
 refine al_o (op_seql_str rfl rfl) ?_
 refine al_gs ?_
 refine al_nil ?_
 refine aw_cond rfl (fun h3 => ?_) (fun h3 => ?_)
 ·have gh3 := h3
  simp only [nrm] at h3
  refine aw_skip ?_
  refine aw_cond rfl (fun h4 => ?_) (fun h4 => ?_)
  ·have gh4 := h4
   simp only [nrm] at h4
   refine aw_sr ?_
   refine al_gs ?_
   refine al_nil ?_
   refine fz1 (t := 2) ?_
   refine aw_ret ?_
   refine ⟨_, res_1 rfl rfl, ?_, rfl⟩
   rw [strR_eq]; simp only [gh1, gh3, Bool.false_or, Bool.true_or, Bool.or_true, Bool.or_false, Bool.false_eq_true, if_true, if_false, reduceIte]
  have gh4 := h4
  simp only [nrm] at h4
  exact absurd (gh3.symm.trans gh4) (by decide)
 have gh3 := h3
 simp only [nrm] at h3
 refine aw_sr ?_
 refine al_o (op_seql_str rfl rfl) ?_
 refine al_gs ?_
 refine al_nil ?_
 refine aw_cond rfl (fun h5 => ?_) (fun h5 => ?_)
 ·have gh5 := h5
  simp only [nrm] at h5
  refine aw_skip ?_
  refine aw_cond rfl (fun h6 => ?_) (fun h6 => ?_)
  ·have gh6 := h6
   simp only [nrm] at h6
   refine aw_sr ?_
   refine al_gs ?_
   refine al_nil ?_
   refine fz1 (t := 2) ?_
   refine aw_ret ?_
   refine ⟨_, res_1 rfl rfl, ?_, rfl⟩
   rw [strR_eq]; simp only [gh1, gh3, gh5, Bool.false_or, Bool.true_or, Bool.or_true, Bool.or_false, Bool.false_eq_true, if_true, if_false, reduceIte]
  have gh6 := h6
  simp only [nrm] at h6
  exact absurd (gh5.symm.trans gh6) (by decide)
 have gh5 := h5
 simp only [nrm] at h5
 refine aw_sr ?_
 refine al_o (op_seql_str rfl rfl) ?_
 refine al_gs ?_
 refine al_nil ?_
 refine aw_cond rfl (fun h7 => ?_) (fun h7 => ?_)
 ·have gh7 := h7
  simp only [nrm] at h7
  refine aw_skip ?_
  refine aw_cond rfl (fun h8 => ?_) (fun h8 => ?_)
  ·have gh8 := h8
   simp only [nrm] at h8
   refine aw_sr ?_
   refine al_gs ?_
   refine al_nil ?_
   refine fz1 (t := 2) ?_
   refine aw_ret ?_
   refine ⟨_, res_1 rfl rfl, ?_, rfl⟩
   rw [strR_eq]; simp only [gh1, gh3, gh5, gh7, Bool.false_or, Bool.true_or, Bool.or_true, Bool.or_false, Bool.false_eq_true, if_true, if_false, reduceIte]
  have gh8 := h8
  simp only [nrm] at h8
  exact absurd (gh7.symm.trans gh8) (by decide)
 have gh7 := h7
 simp only [nrm] at h7
 refine aw_sr ?_
 refine al_o (op_seql_str rfl rfl) ?_
 refine al_gs ?_
 refine al_nil ?_
 refine aw_cond rfl (fun h9 => ?_) (fun h9 => ?_)
 ·have gh9 := h9
  simp only [nrm] at h9
  refine aw_skip ?_
  refine aw_cond rfl (fun h10 => ?_) (fun h10 => ?_)
  ·have gh10 := h10
   simp only [nrm] at h10
   refine aw_sr ?_
   refine al_gs ?_
   refine al_nil ?_
   refine fz1 (t := 2) ?_
   refine aw_ret ?_
   refine ⟨_, res_1 rfl rfl, ?_, rfl⟩
   rw [strR_eq]; simp only [gh1, gh3, gh5, gh7, gh9, Bool.false_or, Bool.true_or, Bool.or_true, Bool.or_false, Bool.false_eq_true, if_true, if_false, reduceIte]
  have gh10 := h10
  simp only [nrm] at h10
  exact absurd (gh9.symm.trans gh10) (by decide)
 have gh9 := h9
 simp only [nrm] at h9
 refine aw_region ?_
 refine al_o (op_seql_str rfl rfl) ?_
 refine al_gs ?_
 refine al_nil ?_
 refine aw_cond rfl (fun h11 => ?_) (fun h11 => ?_)
 ·have gh11 := h11
  simp only [nrm] at h11
  refine aw_sr ?_
  refine al_gs ?_
  refine al_nil ?_
  refine fz1 (t := 2) ?_
  refine aw_ret ?_
  refine ⟨_, res_1 rfl rfl, ?_, rfl⟩
  rw [strR_eq]; simp only [gh1, gh3, gh5, gh7, gh9, gh11, Bool.false_or, Bool.true_or, Bool.or_true, Bool.or_false, Bool.false_eq_true, if_true, if_false, reduceIte]
 have gh11 := h11
 simp only [nrm] at h11
 refine aw_seq ?_
 refine aw_sr ?_
 refine al_o (op_seql_str rfl rfl) ?_
 refine al_gs ?_
 refine al_nil ?_
 refine aw_cond rfl (fun h12 => ?_) (fun h12 => ?_)
 ·have gh12 := h12
  simp only [nrm] at h12
  refine aw_skip ?_
  refine aw_cond rfl (fun h13 => ?_) (fun h13 => ?_)
  ·have gh13 := h13
   simp only [nrm] at h13
   refine aw_sr ?_
   refine al_gs ?_
   refine al_nil ?_
   refine fz1 (t := 2) ?_
   refine aw_ret ?_
   refine ⟨_, res_1 rfl rfl, ?_, rfl⟩
   rw [strR_eq]; simp only [gh1, gh3, gh5, gh7, gh9, gh11, gh12, Bool.false_or, Bool.true_or, Bool.or_true, Bool.or_false, Bool.false_eq_true, if_true, if_false, reduceIte]
  have gh13 := h13
  simp only [nrm] at h13
  exact absurd (gh12.symm.trans gh13) (by decide)
 have gh12 := h12
 simp only [nrm] at h12
 refine aw_sr ?_
 refine al_o (op_seql_str rfl rfl) ?_
 refine al_gs ?_
 refine al_nil ?_
 refine aw_cond rfl (fun h14 => ?_) (fun h14 => ?_)
 ·have gh14 := h14
  simp only [nrm] at h14
  refine aw_skip ?_
  refine aw_cond rfl (fun h15 => ?_) (fun h15 => ?_)
  ·have gh15 := h15
   simp only [nrm] at h15
   refine aw_sr ?_
   refine al_gs ?_
   refine al_nil ?_
   refine fz1 (t := 2) ?_
   refine aw_ret ?_
   refine ⟨_, res_1 rfl rfl, ?_, rfl⟩
   rw [strR_eq]; simp only [gh1, gh3, gh5, gh7, gh9, gh11, gh12, gh14, Bool.false_or, Bool.true_or, Bool.or_true, Bool.or_false, Bool.false_eq_true, if_true, if_false, reduceIte]
  have gh15 := h15
  simp only [nrm] at h15
  exact absurd (gh14.symm.trans gh15) (by decide)
 have gh14 := h14
 simp only [nrm] at h14
 refine aw_sr ?_
 refine al_o (op_seql_str rfl rfl) ?_
 refine al_gs ?_
 refine al_nil ?_
 refine aw_cond rfl (fun h16 => ?_) (fun h16 => ?_)
 ·have gh16 := h16
  simp only [nrm] at h16
  refine aw_skip ?_
  refine aw_cond rfl (fun h17 => ?_) (fun h17 => ?_)
  ·have gh17 := h17
   simp only [nrm] at h17
   refine aw_sr ?_
   refine al_gs ?_
   refine al_nil ?_
   refine fz1 (t := 2) ?_
   refine aw_ret ?_
   refine ⟨_, res_1 rfl rfl, ?_, rfl⟩
   rw [strR_eq]; simp only [gh1, gh3, gh5, gh7, gh9, gh11, gh12, gh14, gh16, Bool.false_or, Bool.true_or, Bool.or_true, Bool.or_false, Bool.false_eq_true, if_true, if_false, reduceIte]
  have gh17 := h17
  simp only [nrm] at h17
  exact absurd (gh16.symm.trans gh17) (by decide)
 have gh16 := h16
 simp only [nrm] at h16
 refine aw_sr ?_
 refine al_o (op_seql_str rfl rfl) ?_
 refine al_gs ?_
 refine al_nil ?_
 refine aw_cond rfl (fun h18 => ?_) (fun h18 => ?_)
 ·have gh18 := h18
  simp only [nrm] at h18
  refine aw_skip ?_
  refine aw_cond rfl (fun h19 => ?_) (fun h19 => ?_)
  ·have gh19 := h19
   simp only [nrm] at h19
   refine aw_sr ?_
   refine al_gs ?_
   refine al_nil ?_
   refine fz1 (t := 2) ?_
   refine aw_ret ?_
   refine ⟨_, res_1 rfl rfl, ?_, rfl⟩
   rw [strR_eq]; simp only [gh1, gh3, gh5, gh7, gh9, gh11, gh12, gh14, gh16, gh18, Bool.false_or, Bool.true_or, Bool.or_true, Bool.or_false, Bool.false_eq_true, if_true, if_false, reduceIte]
  have gh19 := h19
  simp only [nrm] at h19
  exact absurd (gh18.symm.trans gh19) (by decide)
 have gh18 := h18
 simp only [nrm] at h18
 refine aw_sr ?_
 refine al_o (op_seql_str rfl rfl) ?_
 refine al_gs ?_
 refine al_nil ?_
 refine aw_cond rfl (fun h20 => ?_) (fun h20 => ?_)
 ·have gh20 := h20
  simp only [nrm] at h20
  refine aw_skip ?_
  refine aw_cond rfl (fun h21 => ?_) (fun h21 => ?_)
  ·have gh21 := h21
   simp only [nrm] at h21
   refine aw_sr ?_
   refine al_gs ?_
   refine al_nil ?_
   refine fz1 (t := 2) ?_
   refine aw_ret ?_
   refine ⟨_, res_1 rfl rfl, ?_, rfl⟩
   rw [strR_eq]; simp only [gh1, gh3, gh5, gh7, gh9, gh11, gh12, gh14, gh16, gh18, gh20, Bool.false_or, Bool.true_or, Bool.or_true, Bool.or_false, Bool.false_eq_true, if_true, if_false, reduceIte]
  have gh21 := h21
  simp only [nrm] at h21
  exact absurd (gh20.symm.trans gh21) (by decide)
 have gh20 := h20
 simp only [nrm] at h20
 refine aw_region ?_
 refine al_o (op_seql_str rfl rfl) ?_
 refine al_gs ?_
 refine al_nil ?_
 refine aw_cond rfl (fun h22 => ?_) (fun h22 => ?_)
 ·have gh22 := h22
  simp only [nrm] at h22
  refine aw_sr ?_
  refine al_gs ?_
  refine al_nil ?_
  refine fz1 (t := 2) ?_
  refine aw_ret ?_
  refine ⟨_, res_1 rfl rfl, ?_, rfl⟩
  rw [strR_eq]; simp only [gh1, gh3, gh5, gh7, gh9, gh11, gh12, gh14, gh16, gh18, gh20, gh22, Bool.false_or, Bool.true_or, Bool.or_true, Bool.or_false, Bool.false_eq_true, if_true, if_false, reduceIte]
 have gh22 := h22
 simp only [nrm] at h22
 refine aw_seq ?_
 refine aw_sr ?_
 refine al_o (op_seql_str rfl rfl) ?_
 refine al_gs ?_
 refine al_nil ?_
 refine aw_cond rfl (fun h23 => ?_) (fun h23 => ?_)
 ·have gh23 := h23
  simp only [nrm] at h23
  refine aw_skip ?_
  refine aw_cond rfl (fun h24 => ?_) (fun h24 => ?_)
  ·have gh24 := h24
   simp only [nrm] at h24
   refine aw_sr ?_
   refine al_gs ?_
   refine al_nil ?_
   refine fz1 (t := 2) ?_
   refine aw_ret ?_
   refine ⟨_, res_1 rfl rfl, ?_, rfl⟩
   rw [strR_eq]; simp only [gh1, gh3, gh5, gh7, gh9, gh11, gh12, gh14, gh16, gh18, gh20, gh22, gh23, Bool.false_or, Bool.true_or, Bool.or_true, Bool.or_false, Bool.false_eq_true, if_true, if_false, reduceIte]
  have gh24 := h24
  simp only [nrm] at h24
  exact absurd (gh23.symm.trans gh24) (by decide)
 have gh23 := h23
 simp only [nrm] at h23
 refine aw_sr ?_
 refine al_o (op_seql_str rfl rfl) ?_
 refine al_gs ?_
 refine al_nil ?_
 refine aw_cond rfl (fun h25 => ?_) (fun h25 => ?_)
 ·have gh25 := h25
  simp only [nrm] at h25
  refine aw_skip ?_
  refine aw_cond rfl (fun h26 => ?_) (fun h26 => ?_)
  ·have gh26 := h26
   simp only [nrm] at h26
   refine aw_sr ?_
   refine al_gs ?_
   refine al_nil ?_
   refine fz1 (t := 2) ?_
   refine aw_ret ?_
   refine ⟨_, res_1 rfl rfl, ?_, rfl⟩
   rw [strR_eq]; simp only [gh1, gh3, gh5, gh7, gh9, gh11, gh12, gh14, gh16, gh18, gh20, gh22, gh23, gh25, Bool.false_or, Bool.true_or, Bool.or_true, Bool.or_false, Bool.false_eq_true, if_true, if_false, reduceIte]
  have gh26 := h26
  simp only [nrm] at h26
  exact absurd (gh25.symm.trans gh26) (by decide)
 have gh25 := h25
 simp only [nrm] at h25
 refine aw_region ?_
 refine al_o (op_seql_str rfl rfl) ?_
 refine al_gs ?_
 refine al_nil ?_
 refine aw_cond rfl (fun h27 => ?_) (fun h27 => ?_)
 ·have gh27 := h27
  simp only [nrm] at h27
  refine aw_sr ?_
  refine al_gs ?_
  refine al_nil ?_
  refine fz1 (t := 2) ?_
  refine aw_ret ?_
  refine ⟨_, res_1 rfl rfl, ?_, rfl⟩
  rw [strR_eq]; simp only [gh1, gh3, gh5, gh7, gh9, gh11, gh12, gh14, gh16, gh18, gh20, gh22, gh23, gh25, gh27, Bool.false_or, Bool.true_or, Bool.or_true, Bool.or_false, Bool.false_eq_true, if_true, if_false, reduceIte]
 have gh27 := h27
 simp only [nrm] at h27
 refine aw_seq ?_
 refine aw_sr ?_
 refine al_o (op_seql_str rfl rfl) ?_
 refine al_gs ?_
 refine al_nil ?_
 refine aw_cond rfl (fun h28 => ?_) (fun h28 => ?_)
 ·have gh28 := h28
  simp only [nrm] at h28
  refine aw_skip ?_
  refine aw_cond rfl (fun h29 => ?_) (fun h29 => ?_)
  ·have gh29 := h29
   simp only [nrm] at h29
   refine aw_sr ?_
   refine al_gs ?_
   refine al_nil ?_
   refine fz1 (t := 2) ?_
   refine aw_ret ?_
   refine ⟨_, res_1 rfl rfl, ?_, rfl⟩
   rw [strR_eq]; simp only [gh1, gh3, gh5, gh7, gh9, gh11, gh12, gh14, gh16, gh18, gh20, gh22, gh23, gh25, gh27, gh28, Bool.false_or, Bool.true_or, Bool.or_true, Bool.or_false, Bool.false_eq_true, if_true, if_false, reduceIte]
  have gh29 := h29
  simp only [nrm] at h29
  exact absurd (gh28.symm.trans gh29) (by decide)
 have gh28 := h28
 simp only [nrm] at h28
 refine aw_sr ?_
 refine al_o (op_seql_str rfl rfl) ?_
 refine al_gs ?_
 refine al_nil ?_
 refine aw_cond rfl (fun h30 => ?_) (fun h30 => ?_)
 ·have gh30 := h30
  simp only [nrm] at h30
  refine aw_skip ?_
  refine aw_cond rfl (fun h31 => ?_) (fun h31 => ?_)
  ·have gh31 := h31
   simp only [nrm] at h31
   refine aw_sr ?_
   refine al_gs ?_
   refine al_nil ?_
   refine fz1 (t := 2) ?_
   refine aw_ret ?_
   refine ⟨_, res_1 rfl rfl, ?_, rfl⟩
   rw [strR_eq]; simp only [gh1, gh3, gh5, gh7, gh9, gh11, gh12, gh14, gh16, gh18, gh20, gh22, gh23, gh25, gh27, gh28, gh30, Bool.false_or, Bool.true_or, Bool.or_true, Bool.or_false, Bool.false_eq_true, if_true, if_false, reduceIte]
  have gh31 := h31
  simp only [nrm] at h31
  exact absurd (gh30.symm.trans gh31) (by decide)
 have gh30 := h30
 simp only [nrm] at h30
 refine aw_sr ?_
 refine al_o (op_seql_str rfl rfl) ?_
 refine al_gs ?_
 refine al_nil ?_
 refine aw_cond rfl (fun h32 => ?_) (fun h32 => ?_)
 ·have gh32 := h32
  simp only [nrm] at h32
  refine aw_skip ?_
  refine aw_cond rfl (fun h33 => ?_) (fun h33 => ?_)
  ·have gh33 := h33
   simp only [nrm] at h33
   refine aw_sr ?_
   refine al_gs ?_
   refine al_nil ?_
   refine fz1 (t := 2) ?_
   refine aw_ret ?_
   refine ⟨_, res_1 rfl rfl, ?_, rfl⟩
   rw [strR_eq]; simp only [gh1, gh3, gh5, gh7, gh9, gh11, gh12, gh14, gh16, gh18, gh20, gh22, gh23, gh25, gh27, gh28, gh30, gh32, Bool.false_or, Bool.true_or, Bool.or_true, Bool.or_false, Bool.false_eq_true, if_true, if_false, reduceIte]
  have gh33 := h33
  simp only [nrm] at h33
  exact absurd (gh32.symm.trans gh33) (by decide)
 have gh32 := h32
 simp only [nrm] at h32
 refine aw_sr ?_
 refine al_o (op_seql_str rfl rfl) ?_
 refine al_gs ?_
 refine al_nil ?_
 refine aw_cond rfl (fun h34 => ?_) (fun h34 => ?_)
 ·have gh34 := h34
  simp only [nrm] at h34
  refine aw_skip ?_
  refine aw_cond rfl (fun h35 => ?_) (fun h35 => ?_)
  ·have gh35 := h35
   simp only [nrm] at h35
   refine aw_sr ?_
   refine al_gs ?_
   refine al_nil ?_
   refine fz1 (t := 2) ?_
   refine aw_ret ?_
   refine ⟨_, res_1 rfl rfl, ?_, rfl⟩
   rw [strR_eq]; simp only [gh1, gh3, gh5, gh7, gh9, gh11, gh12, gh14, gh16, gh18, gh20, gh22, gh23, gh25, gh27, gh28, gh30, gh32, gh34, Bool.false_or, Bool.true_or, Bool.or_true, Bool.or_false, Bool.false_eq_true, if_true, if_false, reduceIte]
  have gh35 := h35
  simp only [nrm] at h35
  exact absurd (gh34.symm.trans gh35) (by decide)
 have gh34 := h34
 simp only [nrm] at h34
 refine aw_region ?_
 refine al_o (op_seql_str rfl rfl) ?_
 refine al_gs ?_
 refine al_nil ?_
 refine aw_cond rfl (fun h36 => ?_) (fun h36 => ?_)
 ·have gh36 := h36
  simp only [nrm] at h36
  refine aw_sr ?_
  refine al_gs ?_
  refine al_nil ?_
  refine fz1 (t := 2) ?_
  refine aw_ret ?_
  refine ⟨_, res_1 rfl rfl, ?_, rfl⟩
  rw [strR_eq]; simp only [gh1, gh3, gh5, gh7, gh9, gh11, gh12, gh14, gh16, gh18, gh20, gh22, gh23, gh25, gh27, gh28, gh30, gh32, gh34, gh36, Bool.false_or, Bool.true_or, Bool.or_true, Bool.or_false, Bool.false_eq_true, if_true, if_false, reduceIte]
 have gh36 := h36
 simp only [nrm] at h36
 refine aw_skip ?_
 refine aw_sr ?_
 refine al_gs ?_
 refine al_nil ?_
 refine fz1 (t := 2) ?_
 refine aw_ret ?_
 refine ⟨_, res_1 rfl rfl, ?_, rfl⟩
 rw [strR_eq]; simp only [gh1, gh3, gh5, gh7, gh9, gh11, gh12, gh14, gh16, gh18, gh20, gh22, gh23, gh25, gh27, gh28, gh30, gh32, gh34, gh36, Bool.false_or, Bool.true_or, Bool.or_true, Bool.or_false, Bool.false_eq_true, if_true, if_false, reduceIte]
theorem r_level (e : Ex) (hs : e.name.length ≤ 1000000000) : ACp Tryz.prog 112 [.agg (cellsE (e))] (.v (.int .i64 (levelR e))) := by
 refine acp_of rfl ?_
 refine ace 20 Tryz.func112 ?_
 refine aw_sr ?_
 refine al_bx 1 fun ver1 => ?_
 refine al_gs ?_
 refine al_nil ?_
 refine aw_seq ?_
 refine aw_block ?_
 refine aw_sr ?_
 refine al_fp u37 info25 ?_
 refine al_ld u25 info25 ?_
 refine al_o (op_neq rfl rfl) ?_
 refine al_mv ?_
 apply al_or 4 7 11 rfl
 ·intro h1; have gh1 := h1
  simp only [nrm] at h1
  refine tk_fp u37 info9 ?_
  refine tk_ld u9 info9 ?_
  refine al_callp_take into67 rfl rfl rfl rfl rfl rfl (r_isName e.name (by omega) _) (by simp) ?_
  refine al_pk ?_
  exact al_nk gh1
 ·intro h1; have gh1 := h1
  simp only [nrm] at h1
  iterate 3 refine al_ps ?_
  refine al_pk ?_
  exact al_nk gh1
 refine al_gs ?_
 refine al_nil ?_
 refine aw_cond rfl (fun h2 => ?_) (fun h2 => ?_)
 ·have gh2 := h2
  simp only [nrm] at h2
  refine aw_sr ?_
  refine al_gs ?_
  refine al_nil ?_
  refine fz1 (t := 2) ?_
  refine aw_ret ?_
  refine ⟨_, res_1 rfl rfl, ?_, rfl⟩
  rw [levelR_6 gh2]
 have gh2 := h2
 simp only [nrm] at h2
 refine aw_sr ?_
 refine al_fp u37 info31 ?_
 refine al_ld u31 info31 ?_
 refine al_lm u31 ?_
 refine al_eq ?_
 refine al_gs ?_
 refine al_nil ?_
 refine aw_cond rfl (fun h3 => ?_) (fun h3 => ?_)
 ·have gh3 := h3
  simp only [nrm] at h3
  refine aw_sr ?_
  refine al_gs ?_
  refine al_nil ?_
  refine fz1 (t := 2) ?_
  refine aw_ret ?_
  refine ⟨_, res_1 rfl rfl, ?_, rfl⟩
  rw [levelR_5 gh2 gh3]
 have gh3 := h3
 simp only [nrm] at h3
 refine aw_skip ?_
 refine aw_sr ?_
 refine al_fp u37 info9 ?_
 refine al_ld u9 info9 ?_
 refine al_callp into136 rfl rfl rfl ((r_strength _) _) (by simp) ?_
 refine al_gs ?_
 refine al_nil ?_
 refine fz1 (t := 2) ?_
 refine aw_ret ?_
 refine ⟨_, res_1 rfl rfl, ?_, rfl⟩
 rw [levelR_s gh2 gh3]
theorem r_least (e : Ex) (hs : e.name.length ≤ 1000000000) (i : Nat) : ACp Tryz.prog 113 [.agg (cellsE (e)), .v (.int .i64 ((i : Nat) : Int))] (.v (.int .i64 (leastR e (i : Int)))) := by
 refine acp_of rfl ?_
 obtain ⟨s1, s2⟩ := strR_range e.name
 refine ace 46 Tryz.func113 ?_
 refine aw_sr ?_
 refine al_bx 2 fun ver2 => ?_
 refine al_gs ?_
 refine al_nil ?_
 refine aw_seq ?_
 refine aw_block ?_
 refine aw_sr ?_
 refine al_fp u37 info25 ?_
 refine al_ld u25 info25 ?_
 refine al_eq ?_
 refine al_mv ?_
 apply al_or 4 9 13 rfl
 ·intro h1; have gh1 := h1
  simp only [nrm] at h1
  refine tk_fp u37 info25 ?_
  refine tk_ld u25 info25 ?_
  refine tk_eq ?_
  refine al_pk ?_
  exact al_nk gh1
 ·intro h1; have gh1 := h1
  simp only [nrm] at h1
  iterate 3 refine al_ps ?_
  refine al_pk ?_
  exact al_nk gh1
 refine al_gs ?_
 refine al_nil ?_
 refine aw_cond rfl (fun h2 => ?_) (fun h2 => ?_)
 ·have gh2 := h2
  simp only [nrm] at h2
  refine aw_seq ?_
  refine aw_sr ?_
  refine al_mv ?_
  refine al_eq ?_
  refine al_nil ?_
  refine aw_cond rfl (fun h3 => ?_) (fun h3 => ?_)
  ·have gh3 := h3
   simp only [nrm] at h3
   refine aw_sr ?_
   refine al_gs ?_
   refine al_nil ?_
   refine fz1 (t := 4) ?_
   refine aw_ret ?_
   refine ⟨_, res_1 rfl rfl, ?_, rfl⟩
   rw [leastR, gh2, gh3]; rfl
  have gh3 := h3
  simp only [nrm] at h3
  refine aw_skip ?_
  refine aw_sr ?_
  refine al_gs ?_
  refine al_nil ?_
  refine fz1 (t := 4) ?_
  refine aw_ret ?_
  refine ⟨_, res_1 rfl rfl, ?_, rfl⟩
  rw [leastR, gh2, gh3]; rfl
 have gh2 := h2
 simp only [nrm] at h2
 refine aw_sr ?_
 refine al_fp u37 info25 ?_
 refine al_ld u25 info25 ?_
 refine al_o (op_neq rfl rfl) ?_
 refine al_mv ?_
 apply al_or 4 20 24 rfl
 ·intro h4; have gh4 := h4
  simp only [nrm] at h4
  refine tk_fp u37 info9 ?_
  refine tk_ld u9 info9 ?_
  refine al_callp_take into67 rfl rfl rfl rfl rfl rfl (r_isName e.name (by omega) _) (by simp) ?_
  refine al_pk ?_
  exact al_nk gh4
 ·intro h4; have gh4 := h4
  simp only [nrm] at h4
  iterate 3 refine al_ps ?_
  refine al_pk ?_
  exact al_nk gh4
 refine al_gs ?_
 refine al_nil ?_
 refine aw_cond rfl (fun h5 => ?_) (fun h5 => ?_)
 ·have gh5 := h5
  simp only [nrm] at h5
  refine aw_sr ?_
  refine al_gs ?_
  refine al_nil ?_
  refine fz1 (t := 4) ?_
  refine aw_ret ?_
  refine ⟨_, res_1 rfl rfl, ?_, rfl⟩
  rw [leastR, gh2, gh5]; rfl
 have gh5 := h5
 simp only [nrm] at h5
 refine aw_sr ?_
 refine al_fp u37 info31 ?_
 refine al_ld u31 info31 ?_
 refine al_lm u31 ?_
 refine al_eq ?_
 refine al_gs ?_
 refine al_nil ?_
 refine aw_cond rfl (fun h6 => ?_) (fun h6 => ?_)
 ·have gh6 := h6
  simp only [nrm] at h6
  refine aw_sr ?_
  refine al_gs ?_
  refine al_nil ?_
  refine fz1 (t := 4) ?_
  refine aw_ret ?_
  refine ⟨_, res_1 rfl rfl, ?_, rfl⟩
  rw [leastR, gh2, gh5, gh6]; rfl
 have gh6 := h6
 simp only [nrm] at h6
 refine aw_sr ?_
 refine al_mv ?_
 refine al_eq ?_
 refine al_mv ?_
 apply al_or 5 33 38 rfl
 ·intro h7; have gh7 := h7
  simp only [nrm] at h7
  refine tk_fp u37 info9 ?_
  refine tk_ld u9 info9 ?_
  refine al_callp_take into136 rfl rfl rfl rfl rfl rfl ((r_strength _) _) (by simp) ?_
  refine tk_eq ?_
  refine al_pk ?_
  exact al_nk gh7
 ·intro h7; have gh7 := h7
  simp only [nrm] at h7
  iterate 4 refine al_ps ?_
  refine al_pk ?_
  exact al_nk gh7
 refine al_gs ?_
 refine al_nil ?_
 refine aw_cond rfl (fun h8 => ?_) (fun h8 => ?_)
 ·have gh8 := h8
  simp only [nrm] at h8
  refine aw_sr ?_
  refine al_fp u37 info9 ?_
  refine al_ld u9 info9 ?_
  refine al_callp into136 rfl rfl rfl ((r_strength _) _) (by simp) ?_
  refine al_ad ?_
  refine al_gs ?_
  refine al_nil ?_
  refine fz1 (t := 4) ?_
  refine aw_ret ?_
  refine ⟨_, res_1 rfl rfl, ?_, rfl⟩
  rw [leastR, gh2, gh5, gh6, gh8]; rfl
 have gh8 := h8
 simp only [nrm] at h8
 refine aw_skip ?_
 refine aw_sr ?_
 refine al_fp u37 info9 ?_
 refine al_ld u9 info9 ?_
 refine al_callp into136 rfl rfl rfl ((r_strength _) _) (by simp) ?_
 refine al_gs ?_
 refine al_nil ?_
 refine fz1 (t := 4) ?_
 refine aw_ret ?_
 refine ⟨_, res_1 rfl rfl, ?_, rfl⟩
 rw [leastR, gh2, gh5, gh6, gh8]; rfl
theorem r_bare (e : Ex) : ACp Tryz.prog 109 [.agg (cellsE (e))] (.v (.bool (bareR e))) := by
 refine acp_of rfl ?_
 refine ace 56 Tryz.func109 ?_
 refine aw_sr ?_
 refine al_bx 1 fun ver1 => ?_
 refine al_gs ?_
 refine al_nil ?_
 refine aw_seq ?_
 refine aw_plan [0, 1, 2, 3, 4, 5, 6, 7] (Checked.mixed Tryz.checked) (by kernel_rfl) ?_
 refine afl_float rfl rfl (opk_of (op_field_ptr u37 rfl info35 (by decide) rfl rfl rfl)) (by simp) ?_
 refine afl_float rfl rfl (opk_of (op_load_ptr u35 info35 rfl rfl rfl rfl)) (by simp) ?_
 refine afl_float rfl rfl (opk_of (op_field_ptr u37 rfl info30 (by decide) rfl rfl rfl)) (by simp) ?_
 refine afl_float rfl rfl (opk_of (op_load_ptr u30 info30 rfl rfl rfl rfl)) (by simp) ?_
 refine afl_two 5 [4, 6, 7] rfl rfl rfl rfl (by kernel_rfl) (by kernel_rfl) (by simp) (by simp) (next_opR (op_alloc 3 info35 rfl rfl) ?_) (next_opR (op_alloc 4 info30 rfl rfl) ?_)
 ·rintro _ _ ⟨ver3, rfl, rfl⟩; refine ⟨?_, ?_⟩
  ·
   refine loose_k rfl (opk_of (op_load_ptr u30 info30 rfl rfl rfl rfl)) ?_
   refine loose_k rfl (opk_of (op_field_ptr u37 rfl info30 (by decide) rfl rfl rfl)) ?_
   refine loose_k rfl (opk_of (op_load_ptr u35 info35 rfl rfl rfl rfl)) ?_
   refine loose_k rfl (opk_of (op_field_ptr u37 rfl info35 (by decide) rfl rfl rfl)) ?_
   exact loose_nil
  (refine afl_effR rfl rfl (by kernel_rfl) (op_alloc 4 info30 rfl rfl) (by simp) ?_; rintro _ _ ⟨ver4, rfl, rfl⟩; refine ⟨?_, ?_⟩)
  ·
   refine loose_fix rfl ?_
   refine loose_k rfl (opk_of (op_load_ptr u30 info30 rfl rfl rfl rfl)) ?_
   refine loose_k rfl (opk_of (op_field_ptr u37 rfl info30 (by decide) rfl rfl rfl)) ?_
   refine loose_k rfl (opk_of (op_load_ptr u35 info35 rfl rfl rfl rfl)) ?_
   refine loose_k rfl (opk_of (op_field_ptr u37 rfl info35 (by decide) rfl rfl rfl)) ?_
   exact loose_nil
  (refine afl_eff rfl rfl (by kernel_rfl) (op_sp info35) (by simp) ?_ ?_)
  ·
   refine loose_fix rfl ?_
   refine loose_fix rfl ?_
   refine loose_k rfl (opk_of (op_load_ptr u30 info30 rfl rfl rfl rfl)) ?_
   refine loose_k rfl (opk_of (op_field_ptr u37 rfl info30 (by decide) rfl rfl rfl)) ?_
   refine loose_anc 1 rfl (by kernel_rfl) ?_
   refine loose_anc 0 rfl (by kernel_rfl) ?_
   exact loose_nil
  (refine afl_eff rfl rfl (by kernel_rfl) (op_sp info30) (by simp) ?_ ?_)
  ·
   refine loose_fix rfl ?_
   refine loose_fix rfl ?_
   refine loose_fix rfl ?_
   refine loose_anc 3 rfl (by kernel_rfl) ?_
   refine loose_anc 2 rfl (by kernel_rfl) ?_
   refine loose_anc 1 rfl (by kernel_rfl) ?_
   refine loose_anc 0 rfl (by kernel_rfl) ?_
   exact loose_nil
  refine afl_end ?_
  refine aw_sr ?_
  refine al_fp u35 info27 ?_
  refine al_ld u27 info27 ?_
  refine al_eq ?_
  refine al_mv ?_
  apply al_and 4 12 16 rfl
  ·intro h1; have gh1 := h1
   simp only [nrm] at h1
   refine tk_fp u35 info3 ?_
   refine tk_ld u3 info3 ?_
   refine tk_eq ?_
   refine al_pk ?_
   exact al_nk gh1
  ·intro h1; have gh1 := h1
   simp only [nrm] at h1
   iterate 3 refine al_ps ?_
   refine al_pk ?_
   exact al_nk gh1
  refine al_mv ?_
  apply al_and 4 17 21 rfl
  ·intro h2; have gh2 := h2
   simp only [nrm] at h2
   refine tk_fp u35 info9 ?_
   refine tk_ld u9 info9 ?_
   refine al_t (op_seql_str rfl rfl) ?_
   refine al_pk ?_
   exact al_nk gh2
  ·intro h2; have gh2 := h2
   iterate 3 refine al_ps ?_
   refine al_pk ?_
   exact al_nk gh2
  refine al_mv ?_
  apply al_and 5 22 27 rfl
  ·intro h3; have gh3 := h3
   simp only [nrm] at h3
   refine tk_fp u35 info32 ?_
   refine tk_ld u32 info32 ?_
   refine al_t (op_len_map u32 rfl) ?_
   refine tk_eq ?_
   refine al_pk ?_
   exact al_nk gh3
  ·intro h3; have gh3 := h3
   iterate 4 refine al_ps ?_
   refine al_pk ?_
   exact al_nk gh3
  refine al_mv ?_
  apply al_and 5 28 33 rfl
  ·intro h4; have gh4 := h4
   simp only [nrm] at h4
   refine tk_fp u35 info33 ?_
   refine tk_ld u33 info33 ?_
   refine al_t (op_len_map u33 rfl) ?_
   refine tk_eq ?_
   refine al_pk ?_
   exact al_nk gh4
  ·intro h4; have gh4 := h4
   iterate 4 refine al_ps ?_
   refine al_pk ?_
   exact al_nk gh4
  refine al_mv ?_
  apply al_and 4 34 38 rfl
  ·intro h5; have gh5 := h5
   simp only [nrm] at h5
   refine tk_fp u30 info27 ?_
   refine tk_ld u27 info27 ?_
   refine tk_eq ?_
   refine al_pk ?_
   exact al_nk gh5
  ·intro h5; have gh5 := h5
   iterate 3 refine al_ps ?_
   refine al_pk ?_
   exact al_nk gh5
  refine al_mv ?_
  apply al_and 4 39 43 rfl
  ·intro h6; have gh6 := h6
   simp only [nrm] at h6
   refine tk_fp u30 info3 ?_
   refine tk_ld u3 info3 ?_
   refine tk_eq ?_
   refine al_pk ?_
   exact al_nk gh6
  ·intro h6; have gh6 := h6
   iterate 3 refine al_ps ?_
   refine al_pk ?_
   exact al_nk gh6
  refine al_mv ?_
  apply al_and 5 44 49 rfl
  ·intro h7; have gh7 := h7
   simp only [nrm] at h7
   refine tk_fp u30 info26 ?_
   refine tk_ld u26 info26 ?_
   refine al_t (op_len_map u26 rfl) ?_
   refine tk_eq ?_
   refine al_pk ?_
   exact al_nk gh7
  ·intro h7; have gh7 := h7
   iterate 4 refine al_ps ?_
   refine al_pk ?_
   exact al_nk gh7
  refine al_mv ?_
  apply al_and 5 50 55 rfl
  ·intro h8; have gh8 := h8
   simp only [nrm] at h8
   refine tk_fp u30 info28 ?_
   refine tk_ld u28 info28 ?_
   refine al_t (op_len_map u28 rfl) ?_
   refine tk_eq ?_
   refine al_pk ?_
   exact al_nk gh8
  ·intro h8; have gh8 := h8
   iterate 4 refine al_ps ?_
   refine al_pk ?_
   exact al_nk gh8
  refine al_gs ?_
  refine al_nil ?_
  refine fz1 (t := 2) ?_
  refine aw_ret ?_
  refine ⟨_, res_1 rfl rfl, ?_, rfl⟩
  rw [bareR, untyped, noneV]; simp only [Bool.and_assoc]
 ·rintro _ _ ⟨ver4, rfl, rfl⟩; refine ⟨?_, ?_⟩
  ·
   refine loose_k rfl (opk_of (op_load_ptr u30 info30 rfl rfl rfl rfl)) ?_
   refine loose_k rfl (opk_of (op_field_ptr u37 rfl info30 (by decide) rfl rfl rfl)) ?_
   refine loose_k rfl (opk_of (op_load_ptr u35 info35 rfl rfl rfl rfl)) ?_
   refine loose_k rfl (opk_of (op_field_ptr u37 rfl info35 (by decide) rfl rfl rfl)) ?_
   exact loose_nil
  (refine afl_effR rfl rfl (by kernel_rfl) (op_alloc 3 info35 rfl rfl) (by simp) ?_; rintro _ _ ⟨ver3, rfl, rfl⟩; refine ⟨?_, ?_⟩)
  ·
   refine loose_fix rfl ?_
   refine loose_k rfl (opk_of (op_load_ptr u30 info30 rfl rfl rfl rfl)) ?_
   refine loose_k rfl (opk_of (op_field_ptr u37 rfl info30 (by decide) rfl rfl rfl)) ?_
   refine loose_k rfl (opk_of (op_load_ptr u35 info35 rfl rfl rfl rfl)) ?_
   refine loose_k rfl (opk_of (op_field_ptr u37 rfl info35 (by decide) rfl rfl rfl)) ?_
   exact loose_nil
  (refine afl_eff rfl rfl (by kernel_rfl) (op_sp info35) (by simp) ?_ ?_)
  ·
   refine loose_fix rfl ?_
   refine loose_fix rfl ?_
   refine loose_k rfl (opk_of (op_load_ptr u30 info30 rfl rfl rfl rfl)) ?_
   refine loose_k rfl (opk_of (op_field_ptr u37 rfl info30 (by decide) rfl rfl rfl)) ?_
   refine loose_anc 1 rfl (by kernel_rfl) ?_
   refine loose_anc 0 rfl (by kernel_rfl) ?_
   exact loose_nil
  (refine afl_eff rfl rfl (by kernel_rfl) (op_sp info30) (by simp) ?_ ?_)
  ·
   refine loose_fix rfl ?_
   refine loose_fix rfl ?_
   refine loose_fix rfl ?_
   refine loose_anc 3 rfl (by kernel_rfl) ?_
   refine loose_anc 2 rfl (by kernel_rfl) ?_
   refine loose_anc 1 rfl (by kernel_rfl) ?_
   refine loose_anc 0 rfl (by kernel_rfl) ?_
   exact loose_nil
  refine afl_end ?_
  refine aw_sr ?_
  refine al_fp u35 info27 ?_
  refine al_ld u27 info27 ?_
  refine al_eq ?_
  refine al_mv ?_
  apply al_and 4 12 16 rfl
  ·intro h9; have gh9 := h9
   simp only [nrm] at h9
   refine tk_fp u35 info3 ?_
   refine tk_ld u3 info3 ?_
   refine tk_eq ?_
   refine al_pk ?_
   exact al_nk gh9
  ·intro h9; have gh9 := h9
   simp only [nrm] at h9
   iterate 3 refine al_ps ?_
   refine al_pk ?_
   exact al_nk gh9
  refine al_mv ?_
  apply al_and 4 17 21 rfl
  ·intro h10; have gh10 := h10
   simp only [nrm] at h10
   refine tk_fp u35 info9 ?_
   refine tk_ld u9 info9 ?_
   refine al_t (op_seql_str rfl rfl) ?_
   refine al_pk ?_
   exact al_nk gh10
  ·intro h10; have gh10 := h10
   iterate 3 refine al_ps ?_
   refine al_pk ?_
   exact al_nk gh10
  refine al_mv ?_
  apply al_and 5 22 27 rfl
  ·intro h11; have gh11 := h11
   simp only [nrm] at h11
   refine tk_fp u35 info32 ?_
   refine tk_ld u32 info32 ?_
   refine al_t (op_len_map u32 rfl) ?_
   refine tk_eq ?_
   refine al_pk ?_
   exact al_nk gh11
  ·intro h11; have gh11 := h11
   iterate 4 refine al_ps ?_
   refine al_pk ?_
   exact al_nk gh11
  refine al_mv ?_
  apply al_and 5 28 33 rfl
  ·intro h12; have gh12 := h12
   simp only [nrm] at h12
   refine tk_fp u35 info33 ?_
   refine tk_ld u33 info33 ?_
   refine al_t (op_len_map u33 rfl) ?_
   refine tk_eq ?_
   refine al_pk ?_
   exact al_nk gh12
  ·intro h12; have gh12 := h12
   iterate 4 refine al_ps ?_
   refine al_pk ?_
   exact al_nk gh12
  refine al_mv ?_
  apply al_and 4 34 38 rfl
  ·intro h13; have gh13 := h13
   simp only [nrm] at h13
   refine tk_fp u30 info27 ?_
   refine tk_ld u27 info27 ?_
   refine tk_eq ?_
   refine al_pk ?_
   exact al_nk gh13
  ·intro h13; have gh13 := h13
   iterate 3 refine al_ps ?_
   refine al_pk ?_
   exact al_nk gh13
  refine al_mv ?_
  apply al_and 4 39 43 rfl
  ·intro h14; have gh14 := h14
   simp only [nrm] at h14
   refine tk_fp u30 info3 ?_
   refine tk_ld u3 info3 ?_
   refine tk_eq ?_
   refine al_pk ?_
   exact al_nk gh14
  ·intro h14; have gh14 := h14
   iterate 3 refine al_ps ?_
   refine al_pk ?_
   exact al_nk gh14
  refine al_mv ?_
  apply al_and 5 44 49 rfl
  ·intro h15; have gh15 := h15
   simp only [nrm] at h15
   refine tk_fp u30 info26 ?_
   refine tk_ld u26 info26 ?_
   refine al_t (op_len_map u26 rfl) ?_
   refine tk_eq ?_
   refine al_pk ?_
   exact al_nk gh15
  ·intro h15; have gh15 := h15
   iterate 4 refine al_ps ?_
   refine al_pk ?_
   exact al_nk gh15
  refine al_mv ?_
  apply al_and 5 50 55 rfl
  ·intro h16; have gh16 := h16
   simp only [nrm] at h16
   refine tk_fp u30 info28 ?_
   refine tk_ld u28 info28 ?_
   refine al_t (op_len_map u28 rfl) ?_
   refine tk_eq ?_
   refine al_pk ?_
   exact al_nk gh16
  ·intro h16; have gh16 := h16
   iterate 4 refine al_ps ?_
   refine al_pk ?_
   exact al_nk gh16
  refine al_gs ?_
  refine al_nil ?_
  refine fz1 (t := 2) ?_
  refine aw_ret ?_
  refine ⟨_, res_1 rfl rfl, ?_, rfl⟩
  rw [bareR, untyped, noneV]; simp only [Bool.and_assoc]
theorem r_operator (s : Bs) (k : Int) : ACp Tryz.prog 111 [.v (.string (str (s))), .v (.int .i64 (k))] (.v (.bool (operR s k))) := by
 refine acp_of rfl ?_
 refine ace 24 Tryz.func111 ?_
 refine aw_sr ?_
 refine al_gs ?_
 refine al_sr ?_
 refine al_mv ?_
 refine al_eq ?_
 refine al_mv ?_
 apply al_and 4 7 11 rfl
 ·intro h1; have gh1 := h1
  simp only [nrm] at h1
  refine tk_mv ?_
  refine al_callp_take into136 rfl rfl rfl rfl rfl rfl ((r_strength _) _) (by simp) ?_
  refine al_t (op_gtr rfl rfl) ?_
  refine al_pk ?_
  exact al_nk gh1
 ·intro h1; have gh1 := h1
  simp only [nrm] at h1
  iterate 3 refine al_ps ?_
  refine al_pk ?_
  exact al_nk gh1
 refine al_mv ?_
 apply al_or 11 12 23 rfl
 ·intro h2; have gh2 := h2
  simp only [nrm] at h2
  refine tk_mv ?_
  refine tk_eq ?_
  refine tk_mv ?_
  apply al_and 7 15 22 rfl
  ·intro h3; have gh3 := h3
   simp only [nrm] at h3
   refine tk_mv ?_
   refine al_t (op_seql_str rfl rfl) ?_
   refine tk_mv ?_
   apply al_or 3 18 21 rfl
   ·intro h4; have gh4 := h4
    simp only [nrm] at h4
    refine tk_mv ?_
    refine al_t (op_seql_str rfl rfl) ?_
    refine tk_pk ?_
    exact al_nk gh4
   ·intro h4; have gh4 := h4
    simp only [nrm] at h4
    iterate 2 refine al_ps ?_
    refine tk_pk ?_
    exact al_nk gh4
   refine tk_pk ?_
   exact al_nk gh3
  ·intro h3; have gh3 := h3
   simp only [nrm] at h3
   iterate 3 refine al_ps ?_
   refine al_pu ?_
   refine al_pu ?_
   refine al_ps ?_
   refine tk_pk ?_
   exact al_nk gh3
  refine al_pk ?_
  exact al_nk gh2
 ·intro h2; have gh2 := h2
  simp only [nrm] at h2
  iterate 3 refine al_ps ?_
  refine al_pu ?_
  refine al_pu ?_
  refine al_pu ?_
  refine al_pu ?_
  refine al_pu ?_
  refine al_pu ?_
  refine al_ps ?_
  refine al_pk ?_
  exact al_nk gh2
 refine al_gs ?_
 refine al_nil ?_
 refine fz1 (t := 4) ?_
 refine aw_ret ?_
 refine ⟨_, res_1 rfl rfl, ?_, rfl⟩
 rfl
theorem r_bitX (x : Int) (hx : 0 ≤ x) : ACp Tryz.prog 167 [.v (.int .u8 (x))] (.v (.bool (decide (x ≤ 3)))) := by
 refine acp_of rfl ?_
 refine ace 17 Tryz.func167 ?_
 refine aw_sr ?_
 refine al_gs ?_
 refine al_sr ?_
 refine al_mv ?_
 refine al_eq ?_
 refine al_mv ?_
 apply al_or 3 5 8 rfl
 ·intro h1; have gh1 := h1
  simp only [nrm] at h1
  refine tk_mv ?_
  refine tk_eq ?_
  refine al_pk ?_
  exact al_nk gh1
 ·intro h1; have gh1 := h1
  simp only [nrm] at h1
  iterate 2 refine al_ps ?_
  refine al_pk ?_
  exact al_nk gh1
 refine al_mv ?_
 apply al_or 3 9 12 rfl
 ·intro h2; have gh2 := h2
  simp only [nrm] at h2
  refine tk_mv ?_
  refine tk_eq ?_
  refine al_pk ?_
  exact al_nk gh2
 ·intro h2; have gh2 := h2
  simp only [nrm] at h2
  iterate 2 refine al_ps ?_
  refine al_pk ?_
  exact al_nk gh2
 refine al_mv ?_
 apply al_or 3 13 16 rfl
 ·intro h3; have gh3 := h3
  simp only [nrm] at h3
  refine tk_mv ?_
  refine tk_eq ?_
  refine al_pk ?_
  exact al_nk gh3
 ·intro h3; have gh3 := h3
  simp only [nrm] at h3
  iterate 2 refine al_ps ?_
  refine al_pk ?_
  exact al_nk gh3
 refine al_gs ?_
 refine al_nil ?_
 refine fz1 (t := 2) ?_
 refine aw_ret ?_
 refine ⟨_, res_1 rfl rfl, ?_, rfl⟩
 rw [bit_eq hx]
theorem r_IsB (b : List Int) (hb : b.length ≤ 1000000000) (hz : ∀ x ∈ b, 0 ≤ x) : ACp Tryz.prog 110 [.list 1 (b.map encB)] (.v (.bool (isBits b))) := by
 refine acp_of rfl ?_
 refine ace 23 Tryz.func110 ?_
 refine aw_sr ?_
 refine al_gs ?_
 refine al_nil ?_
 refine aw_seq ?_
 refine aw_sr ?_
 refine al_mv ?_
 refine al_lm u26 ?_
 refine al_mv ?_
 refine al_nil ?_
 refine aw_block ?_
 refine aw_forT (ι := Nat) [2, 7] [] (fun i => b.length - i) (fun i => i ≤ b.length ∧ ∀ k, k < i → (fun k => (!(decide (b.getD k default ≤ 3)))) k = false) (fun i => ([(7, .v (.int .i64 ((i : Nat) : Int)))] : Env)) (fun i s => s) (0) ?_ ?_ ?_ (fun i hinv => ?_)
 ·exact ⟨Nat.zero_le _, fun k hk => absurd hk (Nat.not_lt_zero k)⟩
 ·refine sub_1 ?_
  all_goals (first | rfl | simp)
 ·rfl
 have hi := hinv.1

 refine aw_sr ?_
 refine al_ls ?_
 refine al_nil ?_
 refine aw_seq ?_
 refine aw_cond rfl (fun h1 => ?_) (fun h1 => ?_)
 ·have gh1 := h1
  simp only [nrm] at h1
  refine aw_skip ?_
  refine aw_seq ?_
  refine aw_block ?_
  refine aw_sr ?_
  refine al_o (op_im u26 info97) ?_
  refine al_lr u97 info97 ?_
  refine al_gs ?_
  refine al_sr ?_
  refine al_mv ?_
  refine al_callp into167 rfl rfl rfl (r_bitX (b.getD i default) (hz _ (getD_mem (by omega))) _) (by simp) ?_
  refine al_o (op_not rfl) ?_
  refine al_nil ?_
  refine aw_cond rfl (fun h2 => ?_) (fun h2 => ?_)
  ·have gh2 := h2
   simp only [nrm] at h2
   refine aw_sr ?_
   refine al_gs ?_
   refine al_nil ?_
   refine fz1 (t := 2) ?_
   refine aw_ret ?_
   refine ⟨_, res_1 rfl rfl, ?_, rfl⟩
   rw [isBits_no i (by omega) gh2]
  have gh2 := h2
  simp only [nrm] at h2
  refine aw_skip ?_
  refine aw_region ?_
  refine al_ad ?_
  refine al_mv ?_
  refine al_nil ?_
  refine ⟨i + 1, ?_, ?_, ?_, ?_, ?_⟩
  ·omega
  ·exact ⟨by omega, idx_more (p := fun k => (!(decide (b.getD k default ≤ 3)))) hinv.2 gh2⟩
  ·refine sub_1 ?_
   all_goals (first | rfl | simp)
  ·exact sbl
  ·rfl
 have gh1 := h1
 simp only [nrm] at h1
 refine aw_exit ?_
 refine aw_sr ?_
 refine al_mv ?_
 refine al_lm u26 ?_
 refine al_o (op_geq rfl rfl) ?_
 refine al_mv ?_
 apply al_and 4 18 22 rfl
 ·intro h3; have gh3 := h3
  simp only [nrm] at h3
  refine tk_mv ?_
  refine al_t (op_len_map u26 rfl) ?_
  refine al_t (op_leq rfl rfl) ?_
  refine al_pk ?_
  exact al_nk gh3
 ·intro h3; have gh3 := h3
  simp only [nrm] at h3
  iterate 3 refine al_ps ?_
  refine al_pk ?_
  exact al_nk gh3
 refine al_gs ?_
 refine al_nil ?_
 refine fz1 (t := 2) ?_
 refine aw_ret ?_
 refine ⟨_, res_1 rfl rfl, ?_, rfl⟩
 rw [isBits_yes (fun k hk => hinv.2 k (by omega))]
end Go.Proofs.YtcgdlhkiecommaaGreatDoor
/- Printed walks (gen.py, lexer_ann.py): part 431. -/



namespace Go.Proofs.YtcgdlhkiecommaaGreatDoor
open Go
end Go.Proofs.YtcgdlhkiecommaaGreatDoor
