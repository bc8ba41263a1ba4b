import Derived.Test.YtcgdlhkiecommaaGreatDoorW431
import Derived.Test.YtcgdlhkiecommaaGreatDoorFacts
import Derived.Test.YtcgdlhkiecommaaGreatDoorEngNest
import Derived.Test.YtcgdlhkiecommaaGreatDoorXRef3
import Derived.Test.YtcgdlhkiecommaaGreatDoorXLaws2


import Derived.Test.YtcgdlhkiecommaaGreatDoorXSame2

import Derived.Test.YtcgdlhkiecommaaGreatDoorXBr
/- Printed walks (gen.py, lexer_ann.py): part 432. -/



set_option linter.unusedVariables false
set_option linter.unusedSimpArgs false
set_option maxRecDepth 20000
set_option maxHeartbeats 40000000
namespace Go.Proofs.YtcgdlhkiecommaaGreatDoor
open Go
theorem r_formS (e : Ex) (hz : szE e = true) (ih : ∀ k ∈ e.kids, ACp Tryz.prog 57 [.agg (cellsE (k))] (.v (.bool (formP k)))) : ACp Tryz.prog 57 [.agg (cellsE (e))] (.v (.bool (formP e))) := by
 refine acp_of rfl ?_
 obtain ⟨z1, z2, z3, z4, z5⟩ := szE_facts hz
 refine ace 162 Tryz.func57 ?_
 refine aw_sr ?_
 refine al_bx 1 fun ver1 => ?_
 refine al_gs ?_
 refine al_nil ?_
 refine aw_seq ?_
 refine aw_sr ?_
 refine al_ld u37 info37 ?_
 refine al_callp into109 rfl rfl rfl (r_bare e _) (by simp) ?_
 refine al_o (op_not rfl) ?_
 refine al_mv ?_
 apply al_or 9 8 17 rfl
 ·intro h1; have gh1 := h1
  simp only [nrm] at h1
  refine tk_fp u37 info25 ?_
  refine tk_ld u25 info25 ?_
  refine al_t (op_neq rfl rfl) ?_
  refine tk_mv ?_
  apply al_and 4 12 16 rfl
  ·intro h2; have gh2 := h2
   simp only [nrm] at h2
   refine tk_fp u37 info3 ?_
   refine tk_ld u3 info3 ?_
   refine al_t (op_neq rfl rfl) ?_
   refine tk_pk ?_
   exact al_nk gh2
  ·intro h2; have gh2 := h2
   simp only [nrm] at h2
   iterate 3 refine al_ps ?_
   refine tk_pk ?_
   exact al_nk gh2
  refine al_pk ?_
  exact al_nk gh1
 ·intro h1; have gh1 := h1
  simp only [nrm] at h1
  iterate 4 refine al_ps ?_
  refine al_pu ?_
  refine al_pu ?_
  refine al_pu ?_
  refine al_ps ?_
  refine al_pk ?_
  exact al_nk gh1
 refine al_mv ?_
 apply al_or 14 18 32 rfl
 ·intro h3; have gh3 := h3
  simp only [nrm] at h3
  refine tk_fp u37 info25 ?_
  refine tk_ld u25 info25 ?_
  refine al_t (op_neq rfl rfl) ?_
  refine tk_mv ?_
  apply al_and 4 22 26 rfl
  ·intro h4; have gh4 := h4
   simp only [nrm] at h4
   refine tk_fp u37 info25 ?_
   refine tk_ld u25 info25 ?_
   refine al_t (op_neq rfl rfl) ?_
   refine tk_pk ?_
   exact al_nk gh4
  ·intro h4; have gh4 := h4
   simp only [nrm] at h4
   iterate 3 refine al_ps ?_
   refine tk_pk ?_
   exact al_nk gh4
  refine tk_mv ?_
  apply al_and 4 27 31 rfl
  ·intro h5; have gh5 := h5
   simp only [nrm] at h5
   refine tk_fp u37 info9 ?_
   refine tk_ld u9 info9 ?_
   refine al_t (op_sneq_str rfl rfl) ?_
   refine tk_pk ?_
   exact al_nk gh5
  ·intro h5; have gh5 := h5
   iterate 3 refine al_ps ?_
   refine tk_pk ?_
   exact al_nk gh5
  refine al_pk ?_
  exact al_nk gh3
 ·intro h3; have gh3 := h3
  simp only [nrm] at h3
  iterate 4 refine al_ps ?_
  refine al_pu ?_
  refine al_pu ?_
  refine al_pu ?_
  iterate 2 refine al_ps ?_
  refine al_pu ?_
  refine al_pu ?_
  refine al_pu ?_
  refine al_ps ?_
  refine al_pk ?_
  exact al_nk gh3
 refine al_mv ?_
 apply al_or 15 33 48 rfl
 ·intro h6; have gh6 := h6
  simp only [nrm] at h6
  refine tk_fp u37 info25 ?_
  refine tk_ld u25 info25 ?_
  refine al_t (op_neq rfl rfl) ?_
  refine tk_mv ?_
  apply al_and 4 37 41 rfl
  ·intro h7; have gh7 := h7
   simp only [nrm] at h7
   refine tk_fp u37 info25 ?_
   refine tk_ld u25 info25 ?_
   refine al_t (op_neq rfl rfl) ?_
   refine tk_pk ?_
   exact al_nk gh7
  ·intro h7; have gh7 := h7
   simp only [nrm] at h7
   iterate 3 refine al_ps ?_
   refine tk_pk ?_
   exact al_nk gh7
  refine tk_mv ?_
  apply al_and 5 42 47 rfl
  ·intro h8; have gh8 := h8
   simp only [nrm] at h8
   refine tk_fp u37 info26 ?_
   refine tk_ld u26 info26 ?_
   refine al_t (op_len_map u26 rfl) ?_
   refine al_t (op_gtr rfl rfl) ?_
   refine tk_pk ?_
   exact al_nk gh8
  ·intro h8; have gh8 := h8
   iterate 4 refine al_ps ?_
   refine tk_pk ?_
   exact al_nk gh8
  refine al_pk ?_
  exact al_nk gh6
 ·intro h6; have gh6 := h6
  simp only [nrm] at h6
  iterate 4 refine al_ps ?_
  refine al_pu ?_
  refine al_pu ?_
  refine al_pu ?_
  iterate 2 refine al_ps ?_
  refine al_pu ?_
  refine al_pu ?_
  refine al_pu ?_
  refine al_pu ?_
  refine al_ps ?_
  refine al_pk ?_
  exact al_nk gh6
 refine al_nil ?_
 refine aw_cond rfl (fun h9 => ?_) (fun h9 => ?_)
 ·have gh9 := h9
  simp only [nrm] at h9
  refine aw_sr ?_
  refine al_gs ?_
  refine al_nil ?_
  refine fz1 (t := 2) ?_
  refine aw_ret ?_
  refine ⟨_, res_1 rfl rfl, ?_, rfl⟩
  rw [formH_no gh9]
 have gh9 := h9
 simp only [nrm] at h9
 refine aw_skip ?_
 refine aw_seq ?_
 refine aw_sr ?_
 refine al_fp u37 info31 ?_
 refine al_ld u31 info31 ?_
 refine al_lm u31 ?_
 refine al_mv ?_
 refine al_nil ?_
 refine aw_block ?_
 refine aw_forT (ι := Nat) [2, 52] [4] (fun i => e.kids.length - i) (fun i => i ≤ e.kids.length ∧ ∀ k, k < i → (fun k => (!(formP (e.kids.getD k default)))) k = false) (fun i => ([(52, .v (.int .i64 ((i : Nat) : Int)))] : Env)) (fun i s => s) (0) ?_ ?_ ?_ (fun i hinv => ?_)
 ·exact ⟨Nat.zero_le _, fun k hk => absurd hk (Nat.not_lt_zero k)⟩
 ·refine sub_1 ?_
  all_goals (first | rfl | simp)
 ·rfl
 have hi := hinv.1

 refine aw_sr ?_
 refine al_ls ?_
 refine al_nil ?_
 refine aw_seq ?_
 refine aw_cond rfl (fun h10 => ?_) (fun h10 => ?_)
 ·have gh10 := h10
  simp only [nrm] at h10
  refine aw_skip ?_
  refine aw_seq ?_
  refine aw_block ?_
  refine aw_sr ?_
  refine al_o (val_as (.rptr (cellsE (e.kids.getD i default))) (op_im u31 info37) (by exact congrArg AVal.rptr (encE_cells _))) ?_
  refine al_lr u37 info37 ?_
  refine al_al 4 info37 fun ver4 => ?_
  refine al_sp info37 ?_
  refine al_sr ?_
  refine al_ld u37 info37 ?_
  refine al_callp into57 rfl rfl rfl (ih (e.kids.getD i default) (getD_mem (by omega)) _) (by simp) ?_
  refine al_o (op_not rfl) ?_
  refine al_nil ?_
  refine aw_cond rfl (fun h11 => ?_) (fun h11 => ?_)
  ·have gh11 := h11
   simp only [nrm] at h11
   refine aw_sr ?_
   refine al_gs ?_
   refine al_nil ?_
   refine fz1 (t := 2) ?_
   refine aw_ret ?_
   refine ⟨_, res_1 rfl rfl, ?_, rfl⟩
   rw [formH_kid i (by omega) gh11]
  have gh11 := h11
  simp only [nrm] at h11
  refine aw_skip ?_
  refine aw_region ?_
  refine al_ad ?_
  refine al_mv ?_
  refine al_nil ?_
  refine ⟨i + 1, ?_, ?_, ?_, ?_, ?_⟩
  ·omega
  ·exact ⟨by omega, idx_more (p := fun k => (!(formP (e.kids.getD k default)))) hinv.2 gh11⟩
  ·refine sub_1 ?_
   all_goals (first | rfl | simp)
  ·exact sbl
  ·rfl
 have gh10 := h10
 simp only [nrm] at h10
 refine aw_exit ?_
 have hall : ∀ k, k < e.kids.length → (!(formP (e.kids.getD k default))) = false := fun k hk => hinv.2 k (by omega)
 refine aw_seq ?_
 refine aw_sr ?_
 refine al_fp u37 info25 ?_
 refine al_ld u25 info25 ?_
 refine al_nil ?_
 refine aw_block ?_
 refine aw_sr ?_
 refine al_eq ?_
 refine al_gs ?_
 refine al_nil ?_
 refine aw_cond rfl (fun h12 => ?_) (fun h12 => ?_)
 ·have gh12 := h12
  simp only [nrm] at h12
  refine aw_sr ?_
  refine al_fp u37 info3 ?_
  refine al_ld u3 info3 ?_
  refine al_o (op_geq rfl rfl) ?_
  refine al_mv ?_
  apply al_and 4 67 71 rfl
  ·intro h13; have gh13 := h13
   simp only [nrm] at h13
   refine tk_fp u37 info3 ?_
   refine tk_ld u3 info3 ?_
   refine al_t (op_leq rfl rfl) ?_
   refine al_pk ?_
   exact al_nk gh13
  ·intro h13; have gh13 := h13
   simp only [nrm] at h13
   iterate 3 refine al_ps ?_
   refine al_pk ?_
   exact al_nk gh13
  refine al_mv ?_
  apply al_and 5 72 77 rfl
  ·intro h14; have gh14 := h14
   simp only [nrm] at h14
   refine tk_fp u37 info31 ?_
   refine tk_ld u31 info31 ?_
   refine al_t (op_len_map u31 rfl) ?_
   refine tk_eq ?_
   refine al_pk ?_
   exact al_nk gh14
  ·intro h14; have gh14 := h14
   simp only [nrm] at h14
   iterate 4 refine al_ps ?_
   refine al_pk ?_
   exact al_nk gh14
  refine al_gs ?_
  refine al_nil ?_
  refine fz1 (t := 2) ?_
  refine aw_ret ?_
  refine ⟨_, res_1 rfl rfl, ?_, rfl⟩
  rw [formH_yes gh9 hall, tailR, gh12]; rfl
 have gh12 := h12
 simp only [nrm] at h12
 refine aw_sr ?_
 refine al_eq ?_
 refine al_gs ?_
 refine al_nil ?_
 refine aw_cond rfl (fun h15 => ?_) (fun h15 => ?_)
 ·have gh15 := h15
  simp only [nrm] at h15
  refine aw_sr ?_
  refine al_fp u37 info26 ?_
  refine al_ld u26 info26 ?_
  refine al_lm u26 ?_
  refine al_eq ?_
  refine al_mv ?_
  apply al_and 4 84 88 rfl
  ·intro h16; have gh16 := h16
   simp only [nrm] at h16
   refine tk_fp u37 info26 ?_
   refine tk_ld u26 info26 ?_
   refine al_callp_take into110 rfl rfl rfl rfl rfl rfl (r_IsB e.bits z2 z4 _) (by simp) ?_
   refine al_pk ?_
   exact al_nk gh16
  ·intro h16; have gh16 := h16
   simp only [nrm] at h16
   iterate 3 refine al_ps ?_
   refine al_pk ?_
   exact al_nk gh16
  refine al_mv ?_
  apply al_and 5 89 94 rfl
  ·intro h17; have gh17 := h17
   simp only [nrm] at h17
   refine tk_fp u37 info31 ?_
   refine tk_ld u31 info31 ?_
   refine al_t (op_len_map u31 rfl) ?_
   refine tk_eq ?_
   refine al_pk ?_
   exact al_nk gh17
  ·intro h17; have gh17 := h17
   iterate 4 refine al_ps ?_
   refine al_pk ?_
   exact al_nk gh17
  refine al_gs ?_
  refine al_nil ?_
  refine fz1 (t := 2) ?_
  refine aw_ret ?_
  refine ⟨_, res_1 rfl rfl, ?_, rfl⟩
  rw [formH_yes gh9 hall, tailR, gh12, gh15]; rfl
 have gh15 := h15
 simp only [nrm] at h15
 refine aw_sr ?_
 refine al_eq ?_
 refine al_gs ?_
 refine al_nil ?_
 refine aw_cond rfl (fun h18 => ?_) (fun h18 => ?_)
 ·have gh18 := h18
  simp only [nrm] at h18
  refine aw_sr ?_
  refine al_fp u37 info26 ?_
  refine al_ld u26 info26 ?_
  refine al_callp into110 rfl rfl rfl (r_IsB e.bits z2 z4 _) (by simp) ?_
  refine al_mv ?_
  apply al_and 5 100 105 rfl
  ·intro gh19
   refine tk_fp u37 info31 ?_
   refine tk_ld u31 info31 ?_
   refine al_t (op_len_map u31 rfl) ?_
   refine tk_eq ?_
   refine al_pk ?_
   exact al_nk gh19
  ·intro gh19
   iterate 4 refine al_ps ?_
   refine al_pk ?_
   exact al_nk gh19
  refine al_gs ?_
  refine al_nil ?_
  refine fz1 (t := 2) ?_
  refine aw_ret ?_
  refine ⟨_, res_1 rfl rfl, ?_, rfl⟩
  rw [formH_yes gh9 hall, tailR, gh12, gh15, gh18]; rfl
 have gh18 := h18
 simp only [nrm] at h18
 refine aw_sr ?_
 refine al_eq ?_
 refine al_gs ?_
 refine al_nil ?_
 refine aw_cond rfl (fun h20 => ?_) (fun h20 => ?_)
 ·have gh20 := h20
  simp only [nrm] at h20
  refine aw_sr ?_
  refine al_fp u37 info9 ?_
  refine al_ld u9 info9 ?_
  refine al_callp into67 rfl rfl rfl (r_isName e.name (by omega) _) (by simp) ?_
  refine al_mv ?_
  apply al_and 5 111 116 rfl
  ·intro gh21
   refine tk_fp u37 info31 ?_
   refine tk_ld u31 info31 ?_
   refine al_t (op_len_map u31 rfl) ?_
   refine tk_eq ?_
   refine al_pk ?_
   exact al_nk gh21
  ·intro gh21
   iterate 4 refine al_ps ?_
   refine al_pk ?_
   exact al_nk gh21
  refine al_gs ?_
  refine al_nil ?_
  refine fz1 (t := 2) ?_
  refine aw_ret ?_
  refine ⟨_, res_1 rfl rfl, ?_, rfl⟩
  rw [formH_yes gh9 hall, tailR, gh12, gh15, gh18, gh20]; rfl
 have gh20 := h20
 simp only [nrm] at h20
 refine aw_sr ?_
 refine al_eq ?_
 refine al_gs ?_
 refine al_nil ?_
 refine aw_cond rfl (fun h22 => ?_) (fun h22 => ?_)
 ·have gh22 := h22
  simp only [nrm] at h22
  refine aw_sr ?_
  refine al_fp u37 info9 ?_
  refine al_ld u9 info9 ?_
  refine al_fp u37 info31 ?_
  refine al_ld u31 info31 ?_
  refine al_lm u31 ?_
  refine al_callp into111 rfl rfl rfl ((r_operator _ _) _) (by simp) ?_
  refine al_mv ?_
  apply al_or 16 125 141 rfl
  ·intro gh23
   refine tk_fp u37 info9 ?_
   refine tk_ld u9 info9 ?_
   refine al_callp_take into67 rfl rfl rfl rfl rfl rfl ((r_isName _ (by first | assumption | omega | (simp; done) | (simp; omega) | decide)) _) (by simp) ?_
   refine tk_mv ?_
   apply al_and 5 129 134 rfl
   ·intro gh24
    refine tk_fp u37 info31 ?_
    refine tk_ld u31 info31 ?_
    refine al_t (op_len_map u31 rfl) ?_
    refine al_t (op_geq rfl rfl) ?_
    refine tk_pk ?_
    exact al_nk gh24
   ·intro gh24
    iterate 4 refine al_ps ?_
    refine tk_pk ?_
    exact al_nk gh24
   refine tk_mv ?_
   apply al_and 5 135 140 rfl
   ·intro h25; have gh25 := h25
    simp only [nrm] at h25
    refine tk_fp u37 info31 ?_
    refine tk_ld u31 info31 ?_
    refine al_t (op_len_map u31 rfl) ?_
    refine al_t (op_leq rfl rfl) ?_
    refine tk_pk ?_
    exact al_nk gh25
   ·intro h25; have gh25 := h25
    simp only [nrm] at h25
    iterate 4 refine al_ps ?_
    refine tk_pk ?_
    exact al_nk gh25
   refine al_pk ?_
   exact al_nk gh23
  ·intro gh23
   iterate 4 refine al_ps ?_
   refine al_pu ?_
   refine al_pu ?_
   refine al_pu ?_
   refine al_pu ?_
   iterate 2 refine al_ps ?_
   refine al_pu ?_
   refine al_pu ?_
   refine al_pu ?_
   refine al_pu ?_
   refine al_ps ?_
   refine al_pk ?_
   exact al_nk gh23
  refine al_gs ?_
  refine al_nil ?_
  refine fz1 (t := 2) ?_
  refine aw_ret ?_
  refine ⟨_, res_1 rfl rfl, ?_, rfl⟩
  rw [formH_yes gh9 hall, tailR, gh12, gh15, gh18, gh20, gh22]; rfl
 have gh22 := h22
 simp only [nrm] at h22
 refine aw_sr ?_
 refine al_eq ?_
 refine al_gs ?_
 refine al_nil ?_
 refine aw_cond rfl (fun h26 => ?_) (fun h26 => ?_)
 ·have gh26 := h26
  simp only [nrm] at h26
  refine aw_sr ?_
  refine al_fp u37 info31 ?_
  refine al_ld u31 info31 ?_
  refine al_lm u31 ?_
  refine al_eq ?_
  refine al_mv ?_
  apply al_and 7 148 155 rfl
  ·intro h27; have gh27 := h27
   simp only [nrm] at h27
   refine tk_fp u37 info31 ?_
   refine tk_ld u31 info31 ?_
   refine al_t (op_im u31 info37) ?_
   refine al_t (val_as (.rptr (cellsE (e.kids.getD 0 default))) (op_field_rptr u37 rfl info25 (by decide) rfl rfl) (by exact congrArg AVal.rptr (encE_cells _))) ?_
   refine al_t (op_load_rptr u25 info25 rfl rfl) ?_
   refine al_t (op_neq rfl rfl) ?_
   refine al_pk ?_
   exact al_nk gh27
  ·intro h27; have gh27 := h27
   simp only [nrm] at h27
   iterate 6 refine al_ps ?_
   refine al_pk ?_
   exact al_nk gh27
  refine al_gs ?_
  refine al_nil ?_
  refine fz1 (t := 2) ?_
  refine aw_ret ?_
  refine ⟨_, res_1 rfl rfl, ?_, rfl⟩
  rw [formH_yes gh9 hall, tailR, gh12, gh15, gh18, gh20, gh22, gh26]; rfl
 have gh26 := h26
 simp only [nrm] at h26
 refine aw_sr ?_
 refine al_eq ?_
 refine al_gs ?_
 refine al_nil ?_
 refine aw_cond rfl (fun h28 => ?_) (fun h28 => ?_)
 ·have gh28 := h28
  simp only [nrm] at h28
  refine aw_sr ?_
  refine al_fp u37 info31 ?_
  refine al_ld u31 info31 ?_
  refine al_lm u31 ?_
  refine al_eq ?_
  refine al_gs ?_
  refine al_nil ?_
  refine fz1 (t := 2) ?_
  refine aw_ret ?_
  refine ⟨_, res_1 rfl rfl, ?_, rfl⟩
  rw [formH_yes gh9 hall, tailR, gh12, gh15, gh18, gh20, gh22, gh26, gh28]; rfl
 have gh28 := h28
 simp only [nrm] at h28
 refine aw_skip ?_
 refine aw_sr ?_
 refine al_gs ?_
 refine al_nil ?_
 refine fz1 (t := 2) ?_
 refine aw_ret ?_
 refine ⟨_, res_1 rfl rfl, ?_, rfl⟩
 rw [formH_yes gh9 hall, tailR, gh12, gh15, gh18, gh20, gh22, gh26, gh28]; rfl
theorem r_form (e : Ex) : szE e = true → ACp Tryz.prog 57 [.agg (cellsE (e))] (.v (.bool (formP e))) := by
  induction e using Ex.ind with
  | h e ih =>
    intro hz
    obtain ⟨z1, z2, z3, z4, z5⟩ := szE_facts hz
    exact r_formS e hz (fun k hk => ih k hk (z5 k hk))
end Go.Proofs.YtcgdlhkiecommaaGreatDoor
/- Printed walks (gen.py, lexer_ann.py): part 433. -/



namespace Go.Proofs.YtcgdlhkiecommaaGreatDoor
open Go
theorem r_depthS (e : Ex) (hz : szE e = true) (hB : depQ e ≤ 1000000000) (ih : ∀ k ∈ e.kids, ACp Tryz.prog 58 [.agg (cellsE (k))] (.v (.int .i64 ((depQ k : Nat) : Int)))) : ACp Tryz.prog 58 [.agg (cellsE (e))] (.v (.int .i64 ((depQ e : Nat) : Int))) := by
 refine acp_of rfl ?_
 obtain ⟨z1, z2, z3, z4, z5⟩ := szE_facts hz
 refine ace 60 Tryz.func58 ?_
 refine aw_sr ?_
 refine al_bx 1 fun ver1 => ?_
 refine al_gs ?_
 refine al_sr ?_
 refine al_gs ?_
 refine al_nil ?_
 refine aw_seq ?_
 refine aw_sr ?_
 refine al_fp u37 info31 ?_
 refine al_ld u31 info31 ?_
 refine al_lm u31 ?_
 refine al_mv ?_
 refine al_nil ?_
 refine aw_block ?_
 refine aw_forT (ι := Nat) [3, 10] [5] (fun i => e.kids.length - i) (fun i => i ≤ e.kids.length) (fun i => ([(3, .v (.int .i64 ((mostR e (e.kids.map depQ) i : Nat) : Int))), (10, .v (.int .i64 ((i : Nat) : Int)))] : Env)) (fun i s => s) (0) ?_ ?_ ?_ (fun i hinv => ?_)
 ·exact Nat.zero_le _
 ·refine sub_2 ?_ ?_
  all_goals (first | rfl | simp)
 ·rfl
 have hi := hinv
 refine aw_sr ?_
 refine al_ls ?_
 refine al_nil ?_
 refine aw_seq ?_
 refine aw_cond rfl (fun h1 => ?_) (fun h1 => ?_)
 ·have gh1 := h1
  simp only [nrm] at h1
  have hks := (szE_facts (z5 (e.kids.getD i default) (getD_mem (by omega)))).1
  have hkd := kid_depQ (e := e) (i := i) (by omega)
  have hmo := mostR_mono e (e.kids.map depQ) hi
  rw [← depQ_eq] at hmo
  refine aw_skip ?_
  refine aw_seq ?_
  refine aw_block ?_
  refine aw_sr ?_
  refine al_mv ?_
  refine al_o (val_as (.rptr (cellsE (e.kids.getD i default))) (op_im u31 info37) (by exact congrArg AVal.rptr (encE_cells _))) ?_
  refine al_lr u37 info37 ?_
  refine al_al 5 info37 fun ver5 => ?_
  refine al_gs ?_
  refine al_sp info37 ?_
  refine al_sr ?_
  refine al_ld u37 info37 ?_
  refine al_callp into58 rfl rfl rfl (ih (e.kids.getD i default) (getD_mem (by omega)) _) (by simp) ?_
  refine al_gs ?_
  refine al_nil ?_
  refine aw_seq ?_
  refine aw_seq ?_
  refine aw_any (Checked.mixed Tryz.checked) ?_
  apply aany_seg (p := 0) (q := 6) (by kernel_rfl) rfl (by decide)
  ·
   apply ql_plain rfl (op_load_ptr u37 info37 rfl rfl rfl rfl)
   apply ql_call into112 rfl rfl rfl (r_level (e.kids.getD i default) hks _)
   apply ql_plain rfl (op_load_ptr u37 info37 rfl rfl rfl rfl)
   apply ql_plain rfl (op_move rfl)
   apply ql_call into113 rfl rfl rfl (r_least e z1 i _)
   apply ql_plain rfl (op_lss rfl rfl)
   exact ql_nil
  ·simp
  refine aany_end rfl (by kernel_rfl) ?_
  refine aw_cond rfl (fun h2 => ?_) (fun h2 => ?_)
  ·have gh2 := h2
   simp only [nrm] at h2
   have gl := gh2
   refine aw_region ?_
   refine al_mv ?_
   refine al_ad ?_
   refine al_gs ?_
   refine al_nil ?_
   refine aw_seq ?_
   refine aw_sr ?_
   refine al_fp u37 info25 ?_
   refine al_ld u25 info25 ?_
   refine al_eq ?_
   refine al_mv ?_
   apply al_or 4 28 32 rfl
   ·intro h3; have gh3 := h3
    simp only [nrm] at h3
    refine tk_fp u37 info25 ?_
    refine tk_ld u25 info25 ?_
    refine tk_eq ?_
    refine al_pk ?_
    exact al_nk gh3
   ·intro h3; have gh3 := h3
    simp only [nrm] at h3
    iterate 3 refine al_ps ?_
    refine al_pk ?_
    exact al_nk gh3
   refine al_mv ?_
   apply al_and 3 33 36 rfl
   ·intro h4; have gh4 := h4
    simp only [nrm] at h4
    refine tk_mv ?_
    refine al_t (op_gtr rfl rfl) ?_
    refine al_pk ?_
    exact al_nk gh4
   ·intro h4; have gh4 := h4
    simp only [nrm] at h4
    iterate 2 refine al_ps ?_
    refine al_pk ?_
    exact al_nk gh4
   refine al_mv ?_
   apply al_or 15 37 52 rfl
   ·intro h5; have gh5 := h5
    simp only [nrm] at h5
    refine tk_fp u37 info25 ?_
    refine tk_ld u25 info25 ?_
    refine tk_eq ?_
    refine tk_mv ?_
    apply al_and 10 41 51 rfl
    ·intro h6; have gh6 := h6
     simp only [nrm] at h6
     refine tk_fp u37 info9 ?_
     refine tk_ld u9 info9 ?_
     refine al_callp_take into67 rfl rfl rfl rfl rfl rfl (r_isName e.name (by omega) _) (by simp) ?_
     refine tk_mv ?_
     apply al_or 5 45 50 rfl
     ·intro gh7
      refine tk_fp u37 info31 ?_
      refine tk_ld u31 info31 ?_
      refine al_t (op_len_map u31 rfl) ?_
      refine tk_eq ?_
      refine tk_pk ?_
      exact al_nk gh7
     ·intro gh7
      iterate 4 refine al_ps ?_
      refine tk_pk ?_
      exact al_nk gh7
     refine tk_pk ?_
     exact al_nk gh6
    ·intro h6; have gh6 := h6
     simp only [nrm] at h6
     iterate 4 refine al_ps ?_
     refine al_pu ?_
     refine al_pu ?_
     refine al_pu ?_
     refine al_pu ?_
     refine al_ps ?_
     refine tk_pk ?_
     exact al_nk gh6
    refine al_pk ?_
    exact al_nk gh5
   ·intro h5; have gh5 := h5
    simp only [nrm] at h5
    iterate 4 refine al_ps ?_
    refine al_pu ?_
    refine al_pu ?_
    refine al_pu ?_
    refine al_pu ?_
    refine al_pu ?_
    refine al_pu ?_
    refine al_pu ?_
    refine al_pu ?_
    refine al_pu ?_
    refine al_ps ?_
    refine al_pk ?_
    exact al_nk gh5
   refine al_nil ?_
   refine aw_cond rfl (fun h8 => ?_) (fun h8 => ?_)
   ·have gh8 := h8
    simp only [nrm] at h8
    have gn := gh8
    refine aw_region ?_
    refine al_mv ?_
    refine al_ad ?_
    refine al_gs ?_
    refine al_nil ?_
    refine aw_region ?_
    refine al_mv ?_
    refine al_mv ?_
    refine al_o (op_max rfl rfl) ?_
    refine al_gs ?_
    refine al_nil ?_
    refine aw_region ?_
    refine al_ad ?_
    refine al_mv ?_
    refine al_nil ?_
    refine ⟨i + 1, ?_, ?_, ?_, ?_, ?_⟩
    ·omega
    ·omega
    ·refine sub_2 ?_ ?_
     all_goals (first | rfl | (exact congrArg (fun x => AVal.v (.int .i64 x)) (most_00 (by omega) gl gn); done) | (exact congrArg (fun x => AVal.v (.int .i64 x)) (most_01 (by omega) gl gn); done) | (exact congrArg (fun x => AVal.v (.int .i64 x)) (most_10 (by omega) gl gn); done) | (exact congrArg (fun x => AVal.v (.int .i64 x)) (most_11 (by omega) gl gn); done) | simp)
    ·exact sbl
    ·rfl
   have gh8 := h8
   simp only [nrm] at h8
   have gn := gh8
   refine aw_skip ?_
   refine aw_region ?_
   refine al_mv ?_
   refine al_mv ?_
   refine al_o (op_max rfl rfl) ?_
   refine al_gs ?_
   refine al_nil ?_
   refine aw_region ?_
   refine al_ad ?_
   refine al_mv ?_
   refine al_nil ?_
   refine ⟨i + 1, ?_, ?_, ?_, ?_, ?_⟩
   ·omega
   ·omega
   ·refine sub_2 ?_ ?_
    all_goals (first | rfl | (exact congrArg (fun x => AVal.v (.int .i64 x)) (most_00 (by omega) gl gn); done) | (exact congrArg (fun x => AVal.v (.int .i64 x)) (most_01 (by omega) gl gn); done) | (exact congrArg (fun x => AVal.v (.int .i64 x)) (most_10 (by omega) gl gn); done) | (exact congrArg (fun x => AVal.v (.int .i64 x)) (most_11 (by omega) gl gn); done) | simp)
   ·exact sbl
   ·rfl
  have gh2 := h2
  simp only [nrm] at h2
  have gl := gh2
  refine aw_skip ?_
  refine aw_seq ?_
  refine aw_sr ?_
  refine al_fp u37 info25 ?_
  refine al_ld u25 info25 ?_
  refine al_eq ?_
  refine al_mv ?_
  apply al_or 4 28 32 rfl
  ·intro h9; have gh9 := h9
   simp only [nrm] at h9
   refine tk_fp u37 info25 ?_
   refine tk_ld u25 info25 ?_
   refine tk_eq ?_
   refine al_pk ?_
   exact al_nk gh9
  ·intro h9; have gh9 := h9
   simp only [nrm] at h9
   iterate 3 refine al_ps ?_
   refine al_pk ?_
   exact al_nk gh9
  refine al_mv ?_
  apply al_and 3 33 36 rfl
  ·intro h10; have gh10 := h10
   simp only [nrm] at h10
   refine tk_mv ?_
   refine al_t (op_gtr rfl rfl) ?_
   refine al_pk ?_
   exact al_nk gh10
  ·intro h10; have gh10 := h10
   simp only [nrm] at h10
   iterate 2 refine al_ps ?_
   refine al_pk ?_
   exact al_nk gh10
  refine al_mv ?_
  apply al_or 15 37 52 rfl
  ·intro h11; have gh11 := h11
   simp only [nrm] at h11
   refine tk_fp u37 info25 ?_
   refine tk_ld u25 info25 ?_
   refine tk_eq ?_
   refine tk_mv ?_
   apply al_and 10 41 51 rfl
   ·intro h12; have gh12 := h12
    simp only [nrm] at h12
    refine tk_fp u37 info9 ?_
    refine tk_ld u9 info9 ?_
    refine al_callp_take into67 rfl rfl rfl rfl rfl rfl (r_isName e.name (by omega) _) (by simp) ?_
    refine tk_mv ?_
    apply al_or 5 45 50 rfl
    ·intro gh13
     refine tk_fp u37 info31 ?_
     refine tk_ld u31 info31 ?_
     refine al_t (op_len_map u31 rfl) ?_
     refine tk_eq ?_
     refine tk_pk ?_
     exact al_nk gh13
    ·intro gh13
     iterate 4 refine al_ps ?_
     refine tk_pk ?_
     exact al_nk gh13
    refine tk_pk ?_
    exact al_nk gh12
   ·intro h12; have gh12 := h12
    simp only [nrm] at h12
    iterate 4 refine al_ps ?_
    refine al_pu ?_
    refine al_pu ?_
    refine al_pu ?_
    refine al_pu ?_
    refine al_ps ?_
    refine tk_pk ?_
    exact al_nk gh12
   refine al_pk ?_
   exact al_nk gh11
  ·intro h11; have gh11 := h11
   simp only [nrm] at h11
   iterate 4 refine al_ps ?_
   refine al_pu ?_
   refine al_pu ?_
   refine al_pu ?_
   refine al_pu ?_
   refine al_pu ?_
   refine al_pu ?_
   refine al_pu ?_
   refine al_pu ?_
   refine al_pu ?_
   refine al_ps ?_
   refine al_pk ?_
   exact al_nk gh11
  refine al_nil ?_
  refine aw_cond rfl (fun h14 => ?_) (fun h14 => ?_)
  ·have gh14 := h14
   simp only [nrm] at h14
   have gn := gh14
   refine aw_region ?_
   refine al_mv ?_
   refine al_ad ?_
   refine al_gs ?_
   refine al_nil ?_
   refine aw_region ?_
   refine al_mv ?_
   refine al_mv ?_
   refine al_o (op_max rfl rfl) ?_
   refine al_gs ?_
   refine al_nil ?_
   refine aw_region ?_
   refine al_ad ?_
   refine al_mv ?_
   refine al_nil ?_
   refine ⟨i + 1, ?_, ?_, ?_, ?_, ?_⟩
   ·omega
   ·omega
   ·refine sub_2 ?_ ?_
    all_goals (first | rfl | (exact congrArg (fun x => AVal.v (.int .i64 x)) (most_00 (by omega) gl gn); done) | (exact congrArg (fun x => AVal.v (.int .i64 x)) (most_01 (by omega) gl gn); done) | (exact congrArg (fun x => AVal.v (.int .i64 x)) (most_10 (by omega) gl gn); done) | (exact congrArg (fun x => AVal.v (.int .i64 x)) (most_11 (by omega) gl gn); done) | simp)
   ·exact sbl
   ·rfl
  have gh14 := h14
  simp only [nrm] at h14
  have gn := gh14
  refine aw_skip ?_
  refine aw_region ?_
  refine al_mv ?_
  refine al_mv ?_
  refine al_o (op_max rfl rfl) ?_
  refine al_gs ?_
  refine al_nil ?_
  refine aw_region ?_
  refine al_ad ?_
  refine al_mv ?_
  refine al_nil ?_
  refine ⟨i + 1, ?_, ?_, ?_, ?_, ?_⟩
  ·omega
  ·omega
  ·refine sub_2 ?_ ?_
   all_goals (first | rfl | (exact congrArg (fun x => AVal.v (.int .i64 x)) (most_00 (by omega) gl gn); done) | (exact congrArg (fun x => AVal.v (.int .i64 x)) (most_01 (by omega) gl gn); done) | (exact congrArg (fun x => AVal.v (.int .i64 x)) (most_10 (by omega) gl gn); done) | (exact congrArg (fun x => AVal.v (.int .i64 x)) (most_11 (by omega) gl gn); done) | simp)
  ·exact sbl
  ·rfl
 have gh1 := h1
 simp only [nrm] at h1
 refine aw_exit ?_
 refine aw_sr ?_
 refine al_mv ?_
 refine al_gs ?_
 refine al_nil ?_
 refine fz1 (t := 2) ?_
 refine aw_ret ?_
 refine ⟨_, res_1 rfl rfl, ?_, rfl⟩
 have hl : i = e.kids.length := by omega
 rw [depQ_eq, hl]
theorem r_depth (e : Ex) : szE e = true → depQ e ≤ 1000000000 → ACp Tryz.prog 58 [.agg (cellsE (e))] (.v (.int .i64 ((depQ e : Nat) : Int))) := by
  induction e using Ex.ind with
  | h e ih =>
    intro hz hB
    obtain ⟨z1, z2, z3, z4, z5⟩ := szE_facts hz
    refine r_depthS e hz hB (fun k hk => ?_)
    obtain ⟨i, hi, rfl⟩ := List.getElem_of_mem hk
    have hkd := kid_depQ (e := e) (i := i) hi
    rw [List.getD_eq_getElem?_getD, List.getElem?_eq_getElem hi, Option.getD_some] at hkd
    exact ih _ hk (z5 _ hk) (by omega)
end Go.Proofs.YtcgdlhkiecommaaGreatDoor
/- Printed walks (gen.py, lexer_ann.py): part 434. -/



namespace Go.Proofs.YtcgdlhkiecommaaGreatDoor
open Go
theorem r_Valid (e : Ex) (hz : szE e = true) (hB : depQ e ≤ 1000000000) : ACp Tryz.prog 26 [.agg (cellsE (e))] (.v (.bool (validQ e))) := by
 refine acp_of rfl ?_
 refine ace 10 Tryz.func26 ?_
 refine aw_sr ?_
 refine al_bx 1 fun ver1 => ?_
 refine al_gs ?_
 refine al_sr ?_
 refine al_ld u37 info37 ?_
 refine al_callp into57 rfl rfl rfl (r_form e hz _) (by simp) ?_
 refine al_mv ?_
 apply al_and 4 5 9 rfl
 ·intro gh1
  refine tk_ld u37 info37 ?_
  refine al_callp_take into58 rfl rfl rfl rfl rfl rfl (r_depth e hz hB _) (by simp) ?_
  refine al_t (op_leq rfl rfl) ?_
  refine al_pk ?_
  exact al_nk gh1
 ·intro gh1
  iterate 3 refine al_ps ?_
  refine al_pk ?_
  exact al_nk gh1
 refine al_gs ?_
 refine al_nil ?_
 refine fz1 (t := 2) ?_
 refine aw_ret ?_
 refine ⟨_, res_1 rfl rfl, ?_, rfl⟩
 rfl
end Go.Proofs.YtcgdlhkiecommaaGreatDoor
/- Printed walks (gen.py, lexer_ann.py): part 435. -/




namespace Go.Proofs.YtcgdlhkiecommaaGreatDoor
open Go
end Go.Proofs.YtcgdlhkiecommaaGreatDoor
/- Printed walks (gen.py, lexer_ann.py): part 436. -/



namespace Go.Proofs.YtcgdlhkiecommaaGreatDoor
open Go
end Go.Proofs.YtcgdlhkiecommaaGreatDoor
/- Printed walks (gen.py, lexer_ann.py): part 437. -/




namespace Go.Proofs.YtcgdlhkiecommaaGreatDoor
open Go
end Go.Proofs.YtcgdlhkiecommaaGreatDoor
/- Printed walks (gen.py, lexer_ann.py): part 438. -/




namespace Go.Proofs.YtcgdlhkiecommaaGreatDoor
open Go
end Go.Proofs.YtcgdlhkiecommaaGreatDoor
/- Printed walks (gen.py, lexer_ann.py): part 439. -/





namespace Go.Proofs.YtcgdlhkiecommaaGreatDoor
open Go
end Go.Proofs.YtcgdlhkiecommaaGreatDoor
/- Printed walks (gen.py, lexer_ann.py): part 440. -/



namespace Go.Proofs.YtcgdlhkiecommaaGreatDoor
open Go
end Go.Proofs.YtcgdlhkiecommaaGreatDoor
/- Printed walks (gen.py, lexer_ann.py): part 443. -/




namespace Go.Proofs.YtcgdlhkiecommaaGreatDoor
open Go
end Go.Proofs.YtcgdlhkiecommaaGreatDoor
/- Printed walks (gen.py, lexer_ann.py): part 445. -/




namespace Go.Proofs.YtcgdlhkiecommaaGreatDoor
open Go
theorem l_ExprBrackets (e : Ex) (b : UInt8) (he : szX e = true) (hn : nuE e = true) : ACp Tryz.prog 9 [.agg (cellsE (e)), .v (.int .u8 ((b).toNat : Int))] (.v (.bool (true))) := by
 refine acp_of rfl ?_
 have hBT : BT Tryz.prog := bt_all (fun l hl => e_isBits l hl)
 have hb8 : b.toNat < 256 := b.toNat_lt
 refine ace 165 Tryz.func9 ?_
 refine aw_sr ?_
 refine al_bx 2 fun ver2 => ?_
 refine al_gs ?_
 refine al_nil ?_
 refine aw_seq ?_
 refine aw_sr ?_
 refine al_ld u37 info37 ?_
 refine al_o (op_list encE [e] u31 info37 rfl rfl (by decide) rfl (by decide) rfl (by first | rfl | (repeat (first | exact parts_nil | refine parts_cons rfl (by repeat (first | exact all_live_nil | refine all_live_clo rfl ?_ | refine all_live_slice rfl ?_ | refine all_live_map rfl ?_ | refine all_live_ptr rfl ?_)) ?_))) rfl rfl rfl (kids1 _)) ?_
 refine al_callp into22 rfl rfl rfl (r_Few [e] (by simp) (fun x hx => by rw [List.mem_singleton.1 hx]; exact he) _) (by simp) ?_
 refine al_o (op_not rfl) ?_
 refine al_mv ?_
 apply al_or 4 25 29 rfl
 ·intro h1; have gh1 := h1
  simp only [nrm] at h1
  try (have wf : WF Tryz.prog e := wf_of hBT (by simpa using gh1) hn)
  try (have w2 := wf.dq)
  refine tk_ld u37 info37 ?_
  refine al_callp_take into26 rfl rfl rfl rfl rfl rfl (r_Valid e wf.z (by omega) _) (by simp) ?_
  refine al_t (op_not rfl) ?_
  refine al_pk ?_
  exact al_nk gh1
 ·intro h1; have gh1 := h1
  simp only [nrm] at h1
  try (have wf : WF Tryz.prog e := wf_of hBT (by simpa using gh1) hn)
  try (have w2 := wf.dq)
  iterate 3 refine al_ps ?_
  refine al_pk ?_
  exact al_nk gh1
 refine al_nil ?_
 refine aw_cond rfl (fun h2 => ?_) (fun h2 => ?_)
 ·have gh2 := h2
  simp only [nrm] at h2
  have gq := gh2
  refine aw_sr ?_
  refine al_callp into12 rfl rfl rfl (l_awake _) (by simp) ?_
  refine al_gs ?_
  refine al_nil ?_
  refine fz1 (t := 4) ?_
  refine aw_ret ?_
  refine ⟨_, res_1 rfl rfl, ?_, rfl⟩
  rfl
 have gh2 := h2
 simp only [nrm] at h2
 have gq := gh2
 have hfv : fewP [e] 3000 = true ∧ validQ e = true := by simpa using gq
 have wf : WF Tryz.prog e := wf_of hBT hfv.1 hn
 have hv : validP e = true := wf.v ▸ hfv.2
 have w1 := wf.tl
 have w2 := wf.dq
 have w3 := wf.nl
 have w4 := namesE_len e
 have w5 := szX_facts he
 refine aw_skip ?_
 refine aw_sr ?_
 refine al_ld u37 info37 ?_
 refine al_callp into23 rfl rfl rfl (e_textE e wf.w wf.tk _) (by simp) ?_
 refine al_as 33 (.tuple [.v (.string (str (joinT (toks e)))), .v (.int .i64 (0))]) rfl (by rw [text_valid wf hv]) ?_
 refine al_mv ?_
 refine al_xt ?_
 refine al_xt ?_
 refine al_gs ?_
 refine al_gs ?_
 refine al_nil ?_
 refine aw_seq ?_
 have hjl := joinT_len (toks e)
 have hjw := wtot_big wf hv
 refine aw_region ?_
 refine al_mv ?_
 refine al_callp into37 rfl rfl rfl (r_Lex (joinT (toks e)) (by omega) _) (by simp) ?_
 refine al_mv ?_
 refine al_xt ?_
 refine al_xt ?_
 refine al_al 8 info40 fun ver8 => ?_
 refine al_gs ?_
 refine al_sp info40 ?_
 refine al_nil ?_
 refine aw_seq ?_
 refine aw_seq ?_
 refine aw_st (σ2 := [(2, ver2, .row 16 [cellsE e]), (8, ver8, .row 4 [encF (lexP (joinT (toks e))).2])]) rfl ?_
 refine aw_region ?_
 refine al_mv ?_
 refine al_o (op_neq rfl rfl) ?_
 refine al_mv ?_
 apply al_or 4 43 47 rfl
 ·intro h3; have gh3 := h3
  simp only [nrm] at h3
  refine tk_fp u40 info38 ?_
  refine tk_ld u38 info38 ?_
  refine al_t (op_neq rfl rfl) ?_
  refine al_pk ?_
  exact al_nk gh3
 ·intro h3; have gh3 := h3
  simp only [nrm] at h3
  iterate 3 refine al_ps ?_
  refine al_pk ?_
  exact al_nk gh3
 refine al_mv ?_
 apply al_or 4 48 52 rfl
 ·intro h4; have gh4 := h4
  simp only [nrm] at h4
  refine tk_mv ?_
  refine al_t (op_len_map u22 rfl) ?_
  refine al_t (op_gtr rfl rfl) ?_
  refine al_pk ?_
  exact al_nk gh4
 ·intro h4; have gh4 := h4
  simp only [nrm] at h4
  iterate 3 refine al_ps ?_
  refine al_pk ?_
  exact al_nk gh4
 refine al_nil ?_
 refine aw_cond rfl (fun h5 => ?_) (fun h5 => ?_)
 ·have gh5 := h5
  simp only [nrm] at h5
  have gc := gh5
  refine aw_sr ?_
  refine al_mv ?_
  refine al_eq ?_
  refine al_mv ?_
  refine al_as 55 (.v (.bool true)) rfl (by rfl) ?_
  refine al_callp_take into12 rfl rfl rfl rfl rfl rfl (l_awake _) (by simp) ?_
  refine al_pk ?_
  refine al_gs ?_
  refine al_nil ?_
  refine fz1 (t := 4) ?_
  refine aw_ret ?_
  refine ⟨_, res_1 rfl rfl, ?_, rfl⟩
  rfl
 have gh5 := h5
 simp only [nrm] at h5
 have gc := gh5
 have hq2 : ((lexP (joinT (toks e))).2.code != 0) = false ∧ (lexP (joinT (toks e))).1.length ≤ 300 := br_guard gc
 obtain ⟨hlf, bk⟩ := bk_of wf hv (lex_fault hq2.1)
 have hln := hq2.2
 have hbal : Bal (lexP (joinT (toks e))).1 := bal_alike bk.al (bal_toks e (valid_form wf hv))
 refine aw_st (σ2 := [(2, ver2, .row 16 [cellsE e]), (8, ver8, .row 4 [encF okF])]) (by rw [hlf]) ?_
 refine aw_skip ?_
 refine aw_sr ?_
 refine al_gs ?_
 refine al_gs ?_
 refine al_gs ?_
 refine al_nil ?_
 refine aw_seq ?_
 refine aw_sr ?_
 refine al_mv ?_
 refine al_lm u22 ?_
 refine al_mv ?_
 refine al_nil ?_
 refine aw_block ?_
 refine aw_own_map encNt 9 1 9 rfl rfl (fun ver9 => ?_)
 refine aw_own_map encNt 10 1 10 rfl rfl (fun ver10 => ?_)
 refine aw_own_map encNt 11 1 11 rfl rfl (fun ver11 => ?_)
 refine aw_for2T (α := Nat) (β := Nat × Nat × Nat × List Nat) [9, 10, 11, 60] [13] (fun i q => (lexP (joinT (toks e))).1.length - i) (fun i q => i ≤ (lexP (joinT (toks e))).1.length) (fun i q => ([(9, .slice 9 q.1 0 (brk (lexP (joinT (toks e))).1 i).s.length), (10, .slice 10 q.2.1 0 (brk (lexP (joinT (toks e))).1 i).o.length), (11, .slice 11 q.2.2.1 0 (brk (lexP (joinT (toks e))).1 i).c.length), (60, .v (.int .i64 ((i : Nat) : Int)))] : Env)) (fun i q s => [(2, ver2, .row 16 [cellsE e]), (8, ver8, .row 4 [encF okF]), (9, q.1, .row 1 (((brk (lexP (joinT (toks e))).1 i).s ++ q.2.2.2).map encNt)), (10, q.2.1, .row 1 ((brk (lexP (joinT (toks e))).1 i).o.map encNt)), (11, q.2.2.1, .row 1 ((brk (lexP (joinT (toks e))).1 i).c.map encNt))]) (0) ((ver9, ver10, ver11, [])) ?_ ?_ ?_ (fun i q hinv => ?_)
 ·exact Nat.zero_le _
 ·refine sub_cons (get_as rfl ?_) ?_; rotate_left; refine sub_cons (get_as rfl ?_) ?_; rotate_left; refine sub_cons (get_as rfl ?_) ?_; rotate_left; refine sub_cons (get_as rfl ?_) ?_; rotate_left; exact sub_nil
  all_goals (first | rfl | simp)
 ·rfl
 have hi := hinv
 obtain ⟨b1, b2, b3, b4, b5, b6⟩ := brk_lt (l := (lexP (joinT (toks e))).1) i
 refine aw_sr ?_
 refine al_ls ?_
 refine al_nil ?_
 refine aw_seq ?_
 refine aw_cond rfl (fun h6 => ?_) (fun h6 => ?_)
 ·have gh6 := h6
  simp only [nrm] at h6
  refine aw_skip ?_
  refine aw_seq ?_
  refine aw_block ?_
  refine aw_sr ?_
  refine al_mv ?_
  refine al_o (op_im u22 info65) ?_
  refine al_lr u65 info65 ?_
  refine al_al 13 info65 fun ver13 => ?_
  refine al_gs ?_
  refine al_sp info65 ?_
  refine al_nil ?_
  refine aw_block ?_
  refine aw_seq ?_
  have hil : i < (lexP (joinT (toks e))).1.length := by omega
  refine aw_region ?_
  refine al_fp u65 info63 ?_
  refine al_ld u63 info63 ?_
  refine al_eq ?_
  refine al_mv ?_
  apply al_and 4 69 73 rfl
  ·intro h7; have gh7 := h7
   simp only [nrm] at h7
   refine tk_fp u65 info9 ?_
   refine tk_ld u9 info9 ?_
   refine al_t (op_seql_str rfl rfl) ?_
   refine al_pk ?_
   exact al_nk gh7
  ·intro h7; have gh7 := h7
   simp only [nrm] at h7
   iterate 3 refine al_ps ?_
   refine al_pk ?_
   exact al_nk gh7
  refine al_gs ?_
  refine al_nil ?_
  refine aw_cond rfl (fun h8 => ?_) (fun h8 => ?_)
  ·have gh8 := h8
   simp only [nrm] at h8
   have gO := gh8
   have hbk := brk_O (l := (lexP (joinT (toks e))).1) (i := i) gO
   refine aw_region ?_
   refine al_mv ?_
   refine al_mv ?_
   refine al_o (op_ol encNt [i] u62 info3) ?_
   (refine al_opR (op_append_stk (k := [i]) u62 u62 rfl info3 rfl rfl (by decide) rfl rfl rfl rfl rfl (by first | exact .list _) rfl (by first | omega | (simp; done) | (simp; omega)) (by show _ * 8 ≤ _; simp only [List.length_cons, List.length_nil]; omega)) rfl (by simp) ?_; rintro _ _ ⟨ver77, rfl, rfl⟩)
   refine al_gs ?_
   refine al_nil ?_
   refine aw_region ?_
   refine al_ad ?_
   refine al_mv ?_
   refine al_nil ?_
   refine ⟨i + 1, (ver77, q.2.1, q.2.2.1, []), ?_, ?_, ?_, ?_, ?_⟩
   ·omega
   ·omega
   ·refine sub_cons (get_as rfl ?_) ?_; rotate_left; refine sub_cons (get_as rfl ?_) ?_; rotate_left; refine sub_cons (get_as rfl ?_) ?_; rotate_left; refine sub_cons (get_as rfl ?_) ?_; rotate_left; exact sub_nil
    all_goals (first | rfl | (rw [hbk]; done) | (rw [hbk]; rfl) | (rw [hbk]; simp; done) | simp)
   ·exact sbl
   ·first | rfl | (rw [hbk]; done) | (rw [hbk]; rfl) | (rw [hbk]; simp only [List.append_nil]; done) | (rw [hbk]; simp only [List.append_nil]; rfl) | (rw [hbk]; simp only [pop_eq hpop]; done) | (rw [hbk]; simp only [pop_eq hpop]; rfl)
  have gh8 := h8
  have gO := gh8
  refine aw_sr ?_
  refine al_fp u65 info63 ?_
  refine al_ld u63 info63 ?_
  refine al_eq ?_
  refine al_mv ?_
  apply al_and 4 82 86 rfl
  ·intro h9; have gh9 := h9
   simp only [nrm] at h9
   refine tk_fp u65 info9 ?_
   refine tk_ld u9 info9 ?_
   refine al_t (op_seql_str rfl rfl) ?_
   refine al_pk ?_
   exact al_nk gh9
  ·intro h9; have gh9 := h9
   simp only [nrm] at h9
   iterate 3 refine al_ps ?_
   refine al_pk ?_
   exact al_nk gh9
  refine al_gs ?_
  refine al_nil ?_
  refine aw_cond rfl (fun h10 => ?_) (fun h10 => ?_)
  ·have gh10 := h10
   simp only [nrm] at h10
   have gC := gh10
   have hpop := brk_pop hbal hil gO gC
   have hbk := brk_C (l := (lexP (joinT (toks e))).1) (i := i) gO gC
   refine aw_sr ?_
   refine al_mv ?_
   refine al_mv ?_
   refine al_mv ?_
   refine al_o (op_len_slice u62 rfl rfl) ?_
   refine al_o (op_sub rfl rfl (by first | exact wrap_i64 (by omega) (by omega))) ?_
   refine al_o (op_index_slice u62 info3 rfl rfl rfl rfl (by omega) (by omega)) ?_
   refine al_o (val_as (.v (.int .i64 ((((brk (lexP (joinT (toks e))).1 i).s.getD ((brk (lexP (joinT (toks e))).1 i).s.length - 1) default) : Nat) : Int))) (op_load_map (l := (brk (lexP (joinT (toks e))).1 i).s ++ q.2.2.2) u3 info3 rfl rfl (by rw [List.length_append]; omega) rfl) (by exact congrArg (fun x : Nat => AVal.v (.int .i64 (x : Int))) (top_eq hpop (by omega)))) ?_
   refine al_o (op_ol encNt [((brk (lexP (joinT (toks e))).1 i).s.getD ((brk (lexP (joinT (toks e))).1 i).s.length - 1) default)] u62 info3) ?_
   (refine al_opR (op_am u62 u62 info3 8) rfl (by simp) ?_; rintro _ _ ⟨ver95, rfl, rfl⟩)
   refine al_mv ?_
   refine al_mv ?_
   refine al_o (op_ol encNt [i] u62 info3) ?_
   (refine al_opR (op_am u62 u62 info3 8) rfl (by simp) ?_; rintro _ _ ⟨ver99, rfl, rfl⟩)
   refine al_gs ?_
   refine al_gs ?_
   refine al_nil ?_
   refine aw_region ?_
   refine al_mv ?_
   refine al_mv ?_
   refine al_o (op_len_slice u62 rfl rfl) ?_
   refine al_o (op_sub rfl rfl (by first | exact wrap_i64 (by omega) (by omega))) ?_
   refine al_o (val_as (.slice 9 q.1 0 (brk (lexP (joinT (toks e))).1 i).s.dropLast.length) (op_cut_slice (l := 0) (h := (brk (lexP (joinT (toks e))).1 i).s.length - 1) u62 info3 rfl rfl rfl OptI.none (.of rfl (show _ = (((brk (lexP (joinT (toks e))).1 i).s.length - 1 : Nat) : Int) from by omega)) (by omega) (by omega)) (by rw [List.length_dropLast]; rfl)) ?_
   refine al_gs ?_
   refine al_nil ?_
   refine aw_region ?_
   refine al_ad ?_
   refine al_mv ?_
   refine al_nil ?_
   refine ⟨i + 1, (q.1, ver95, ver99, ((brk (lexP (joinT (toks e))).1 i).s.getD ((brk (lexP (joinT (toks e))).1 i).s.length - 1) default) :: q.2.2.2), ?_, ?_, ?_, ?_, ?_⟩
   ·omega
   ·omega
   ·refine sub_cons (get_as rfl ?_) ?_; rotate_left; refine sub_cons (get_as rfl ?_) ?_; rotate_left; refine sub_cons (get_as rfl ?_) ?_; rotate_left; refine sub_cons (get_as rfl ?_) ?_; rotate_left; exact sub_nil
    all_goals (first | rfl | (rw [hbk]; done) | (rw [hbk]; rfl) | (rw [hbk]; simp; done) | simp)
   ·exact sbl
   ·first | rfl | (rw [hbk]; done) | (rw [hbk]; rfl) | (rw [hbk]; simp only [List.append_nil]; done) | (rw [hbk]; simp only [List.append_nil]; rfl) | (rw [hbk]; simp only [pop_eq hpop]; done) | (rw [hbk]; simp only [pop_eq hpop]; rfl)
  have gh10 := h10
  have gC := gh10
  have hbk := brk_N (l := (lexP (joinT (toks e))).1) (i := i) gO gC
  refine aw_skip ?_
  refine aw_region ?_
  refine al_ad ?_
  refine al_mv ?_
  refine al_nil ?_
  refine ⟨i + 1, q, ?_, ?_, ?_, ?_, ?_⟩
  ·omega
  ·omega
  ·refine sub_cons (get_as rfl ?_) ?_; rotate_left; refine sub_cons (get_as rfl ?_) ?_; rotate_left; refine sub_cons (get_as rfl ?_) ?_; rotate_left; refine sub_cons (get_as rfl ?_) ?_; rotate_left; exact sub_nil
   all_goals (first | rfl | (rw [hbk]; done) | (rw [hbk]; rfl) | (rw [hbk]; simp; done) | simp)
  ·exact sbl
  ·first | rfl | (rw [hbk]; done) | (rw [hbk]; rfl) | (rw [hbk]; simp only [List.append_nil]; done) | (rw [hbk]; simp only [List.append_nil]; rfl) | (rw [hbk]; simp only [pop_eq hpop]; done) | (rw [hbk]; simp only [pop_eq hpop]; rfl)
 have gh6 := h6
 simp only [nrm] at h6
 refine aw_exit ?_
 obtain rfl : i = (lexP (joinT (toks e))).1.length := by omega
 obtain ⟨b1, b2, b3, b4, b5, b6⟩ := brk_lt (l := (lexP (joinT (toks e))).1) (lexP (joinT (toks e))).1.length
 refine aw_seq ?_
 refine aw_sr ?_
 refine al_mv ?_
 refine al_o (op_len_slice u62 rfl rfl) ?_
 refine al_eq ?_
 refine al_nil ?_
 refine aw_cond rfl (fun h11 => ?_) (fun h11 => ?_)
 ·have gh11 := h11
  simp only [nrm] at h11
  have gz := gh11
  refine aw_sr ?_
  refine al_callp into12 rfl rfl rfl (l_awake _) (by simp) ?_
  refine al_gs ?_
  refine al_nil ?_
  refine fz1 (t := 4) ?_
  refine aw_ret ?_
  refine ⟨_, res_1 rfl rfl, ?_, rfl⟩
  rfl
 have gh11 := h11
 simp only [nrm] at h11
 have gz := gh11
 have hon : 0 < (brk (lexP (joinT (toks e))).1 (lexP (joinT (toks e))).1.length).o.length := by simp at gz; omega
 have hmod := Nat.mod_lt b.toNat hon
 have hcl : (brk (lexP (joinT (toks e))).1 (lexP (joinT (toks e))).1.length).c.getD (b.toNat % (brk (lexP (joinT (toks e))).1 (lexP (joinT (toks e))).1.length).o.length) default < (lexP (joinT (toks e))).1.length := b3 _ (getD_mem (by omega))
 refine aw_skip ?_
 refine aw_sr ?_
 refine al_mv ?_
 refine al_o (op_conv u5 u3 rfl (wrap_i64 (by omega) (by omega))) ?_
 refine al_mv ?_
 refine al_o (op_len_slice u62 rfl rfl) ?_
 refine al_o (val_as (.v (.int .i64 ((b.toNat % (brk (lexP (joinT (toks e))).1 (lexP (joinT (toks e))).1.length).o.length : Nat) : Int))) (op_rem rfl rfl (by omega) (rem_nn (by omega))) (by rfl)) ?_
 refine al_gs ?_
 refine al_sr ?_
 refine al_gs ?_
 refine al_nil ?_
 refine aw_seq ?_
 refine aw_sr ?_
 refine al_mv ?_
 refine al_lm u22 ?_
 refine al_mv ?_
 refine al_nil ?_
 refine aw_block ?_
 refine aw_own_map encK 15 5 15 rfl rfl (fun ver15 => ?_)
 refine aw_for2T (α := Nat) (β := Nat) [15, 117] [17] (fun i v => (lexP (joinT (toks e))).1.length - i) (fun i v => i ≤ (lexP (joinT (toks e))).1.length) (fun i v => ([(15, .slice 15 v 0 (skipT (lexP (joinT (toks e))).1 ((brk (lexP (joinT (toks e))).1 (lexP (joinT (toks e))).1.length).o.getD (b.toNat % (brk (lexP (joinT (toks e))).1 (lexP (joinT (toks e))).1.length).o.length) default) ((brk (lexP (joinT (toks e))).1 (lexP (joinT (toks e))).1.length).c.getD (b.toNat % (brk (lexP (joinT (toks e))).1 (lexP (joinT (toks e))).1.length).o.length) default) i).length), (117, .v (.int .i64 ((i : Nat) : Int)))] : Env)) (fun i v s => s.put 15 v (.row 5 ((skipT (lexP (joinT (toks e))).1 ((brk (lexP (joinT (toks e))).1 (lexP (joinT (toks e))).1.length).o.getD (b.toNat % (brk (lexP (joinT (toks e))).1 (lexP (joinT (toks e))).1.length).o.length) default) ((brk (lexP (joinT (toks e))).1 (lexP (joinT (toks e))).1.length).c.getD (b.toNat % (brk (lexP (joinT (toks e))).1 (lexP (joinT (toks e))).1.length).o.length) default) i).map encK))) (0) (ver15) ?_ ?_ ?_ (fun i v hinv => ?_)
 ·exact Nat.zero_le _
 ·refine sub_2 ?_ ?_
  all_goals (first | rfl | simp)
 ·rfl
 have hi := hinv
 have hsl := (skip_len (l := (lexP (joinT (toks e))).1) ((brk (lexP (joinT (toks e))).1 (lexP (joinT (toks e))).1.length).o.getD (b.toNat % (brk (lexP (joinT (toks e))).1 (lexP (joinT (toks e))).1.length).o.length) default) ((brk (lexP (joinT (toks e))).1 (lexP (joinT (toks e))).1.length).c.getD (b.toNat % (brk (lexP (joinT (toks e))).1 (lexP (joinT (toks e))).1.length).o.length) default) i).1
 have hsl2 := hsl
 simp at hsl2
 refine aw_sr ?_
 refine al_ls ?_
 refine al_nil ?_
 refine aw_seq ?_
 refine aw_cond rfl (fun h12 => ?_) (fun h12 => ?_)
 ·have gh12 := h12
  simp only [nrm] at h12
  refine aw_skip ?_
  refine aw_seq ?_
  refine aw_block ?_
  refine aw_sr ?_
  refine al_mv ?_
  refine al_o (op_im u22 info65) ?_
  refine al_lr u65 info65 ?_
  refine al_al 17 info65 fun ver17 => ?_
  refine al_gs ?_
  refine al_sp info65 ?_
  refine al_sr ?_
  refine al_mv ?_
  refine al_mv ?_
  refine al_mv ?_
  refine al_o (op_index_slice u62 info3 rfl rfl rfl rfl (by omega) (by omega)) ?_
  refine al_o (val_as (.v (.int .i64 (((brk (lexP (joinT (toks e))).1 (lexP (joinT (toks e))).1.length).o.getD (b.toNat % (brk (lexP (joinT (toks e))).1 (lexP (joinT (toks e))).1.length).o.length) default : Nat) : Int))) (op_load_map (l := (brk (lexP (joinT (toks e))).1 (lexP (joinT (toks e))).1.length).o) u3 info3 rfl rfl (by omega) rfl) (by exact congrArg (fun x : Nat => AVal.v (.int .i64 (x : Int))) (by rw [Nat.zero_add, Int.toNat_natCast]))) ?_
  refine al_o (op_neq rfl rfl) ?_
  refine al_mv ?_
  apply al_and 7 128 135 rfl
  ·intro h13; have gh13 := h13
   simp only [nrm] at h13
   refine tk_mv ?_
   refine tk_mv ?_
   refine tk_mv ?_
   refine al_t (op_index_slice u62 info3 rfl rfl rfl rfl (by omega) (by omega)) ?_
   refine al_t (val_as (.v (.int .i64 (((brk (lexP (joinT (toks e))).1 (lexP (joinT (toks e))).1.length).c.getD (b.toNat % (brk (lexP (joinT (toks e))).1 (lexP (joinT (toks e))).1.length).o.length) default : Nat) : Int))) (op_load_map (l := (brk (lexP (joinT (toks e))).1 (lexP (joinT (toks e))).1.length).c) u3 info3 rfl rfl (by omega) rfl) (by exact congrArg (fun x : Nat => AVal.v (.int .i64 (x : Int))) (by rw [Nat.zero_add, Int.toNat_natCast]))) ?_
   refine al_t (op_neq rfl rfl) ?_
   refine al_pk ?_
   exact al_nk gh13
  ·intro h13; have gh13 := h13
   simp only [nrm] at h13
   iterate 6 refine al_ps ?_
   refine al_pk ?_
   exact al_nk gh13
  refine al_nil ?_
  refine aw_cond rfl (fun h14 => ?_) (fun h14 => ?_)
  ·have gh14 := h14
   simp only [nrm] at h14
   have gs := gh14
   have hsk : skipT (lexP (joinT (toks e))).1 ((brk (lexP (joinT (toks e))).1 (lexP (joinT (toks e))).1.length).o.getD (b.toNat % (brk (lexP (joinT (toks e))).1 (lexP (joinT (toks e))).1.length).o.length) default) ((brk (lexP (joinT (toks e))).1 (lexP (joinT (toks e))).1.length).c.getD (b.toNat % (brk (lexP (joinT (toks e))).1 (lexP (joinT (toks e))).1.length).o.length) default) (i + 1) = _ := if_pos gs
   refine aw_region ?_
   refine al_mv ?_
   refine al_ld u65 info65 ?_
   refine al_o (op_ol encK [(lexP (joinT (toks e))).1.getD i default] u22 info65) ?_
   (refine al_opR (op_am u22 u22 info65 48) rfl (by simp) ?_; rintro _ _ ⟨ver139, rfl, rfl⟩)
   refine al_gs ?_
   refine al_nil ?_
   refine aw_region ?_
   refine al_ad ?_
   refine al_mv ?_
   refine al_nil ?_
   refine ⟨i + 1, ver139, ?_, ?_, ?_, ?_, ?_⟩
   ·omega
   ·omega
   ·refine sub_2 ?_ ?_
    all_goals (first | rfl | (rw [hsk]; done) | (rw [hsk]; rfl) | simp)
   ·exact sbl
   ·first | rfl | (rw [hsk]; done) | (rw [hsk]; rfl)
  have gh14 := h14
  have gs := gh14
  have hsk : skipT (lexP (joinT (toks e))).1 ((brk (lexP (joinT (toks e))).1 (lexP (joinT (toks e))).1.length).o.getD (b.toNat % (brk (lexP (joinT (toks e))).1 (lexP (joinT (toks e))).1.length).o.length) default) ((brk (lexP (joinT (toks e))).1 (lexP (joinT (toks e))).1.length).c.getD (b.toNat % (brk (lexP (joinT (toks e))).1 (lexP (joinT (toks e))).1.length).o.length) default) (i + 1) = _ := if_neg (by rw [gs]; exact Bool.false_ne_true)
  refine aw_skip ?_
  refine aw_region ?_
  refine al_ad ?_
  refine al_mv ?_
  refine al_nil ?_
  refine ⟨i + 1, v, ?_, ?_, ?_, ?_, ?_⟩
  ·omega
  ·omega
  ·refine sub_2 ?_ ?_
   all_goals (first | rfl | (rw [hsk]; done) | (rw [hsk]; rfl) | simp)
  ·exact sbl
  ·first | rfl | (rw [hsk]; done) | (rw [hsk]; rfl)
 have gh12 := h12
 simp only [nrm] at h12
 refine aw_exit ?_
 obtain rfl : i = (lexP (joinT (toks e))).1.length := by omega
 refine aw_seq ?_
 refine aw_freeze (fun i => i == 2) (fsub_cons (t := 15) rfl (.leaf _ _ (frz_whole rfl rfl (by first | rfl | (simp; done) | (simp; omega)) (clo_map (fun _ => rfl)))) (fsub_cons (t := 2) rfl (.leaf _ _ (.same _)) fsub_nil)) ?_
 refine aw_st (σ2 := [(2, ver2, .row 16 [cellsE e])]) rfl ?_
 obtain ⟨M, hM⟩ : ∃ M, M = skipT (lexP (joinT (toks e))).1 ((brk (lexP (joinT (toks e))).1 (lexP (joinT (toks e))).1.length).o.getD (b.toNat % (brk (lexP (joinT (toks e))).1 (lexP (joinT (toks e))).1.length).o.length) default) ((brk (lexP (joinT (toks e))).1 (lexP (joinT (toks e))).1.length).c.getD (b.toNat % (brk (lexP (joinT (toks e))).1 (lexP (joinT (toks e))).1.length).o.length) default) (lexP (joinT (toks e))).1.length := ⟨_, rfl⟩
 refine aw_as 15 (.list 5 (M.map encK)) rfl (by rw [hM]) ?_
 have hMl : M.length < (lexP (joinT (toks e))).1.length := by rw [hM]; exact (skip_len _ _ _).2 hcl
 have hMo : OKTs M := by rw [hM]; exact skip_oks bk.ok _ _ _
 refine aw_region ?_
 refine al_mv ?_
 refine al_callp into13 rfl rfl rfl (c_Parse M hMo (by omega) 0 _) (by simp) ?_
 refine al_mv ?_
 refine al_xt ?_
 refine al_xt ?_
 refine al_xt ?_
 refine al_al 18 info37 fun ver18 => ?_
 refine al_al 20 info40 fun ver20 => ?_
 refine al_sp info37 ?_
 refine al_gs ?_
 refine al_sp info40 ?_
 refine al_sr ?_
 refine al_fp u40 info38 ?_
 refine al_ld u38 info38 ?_
 refine al_o (op_neq rfl rfl) ?_
 refine al_mv ?_
 apply al_or 5 150 155 rfl
 ·intro h15; have gh15 := h15
  simp only [nrm] at h15
  refine tk_mv ?_
  refine tk_mv ?_
  refine al_t (op_len_map u22 rfl) ?_
  refine al_t (op_lss rfl rfl) ?_
  refine al_pk ?_
  exact al_nk gh15
 ·intro h15; have gh15 := h15
  simp only [nrm] at h15
  iterate 4 refine al_ps ?_
  refine al_pk ?_
  exact al_nk gh15
 refine al_mv ?_
 apply al_or 5 156 161 rfl
 ·intro h16; have gh16 := h16
  simp only [nrm] at h16
  refine tk_ld u37 info37 ?_
  refine tk_ld u37 info37 ?_
  refine al_callp_take into35 rfl rfl rfl rfl rfl rfl (e_same (readP ex0 M 0 (fun i => rowD M 40 4 i)).1 e (readP_szX M 0) he _) (by simp) ?_
  refine al_t (op_not rfl) ?_
  refine al_pk ?_
  exact al_nk gh16
 ·intro h16; have gh16 := h16
  simp only [nrm] at h16
  iterate 4 refine al_ps ?_
  refine al_pk ?_
  exact al_nk gh16
 refine al_mv ?_
 refine al_as 162 (.v (.bool true)) rfl (by rw [brackets_end bk.al hMl]) ?_
 refine al_callp_take into12 rfl rfl rfl rfl rfl rfl (l_awake _) (by simp) ?_
 refine al_pk ?_
 refine al_gs ?_
 refine al_nil ?_
 refine fz1 (t := 4) ?_
 refine aw_ret ?_
 refine ⟨_, res_1 rfl rfl, ?_, rfl⟩
 rfl
end Go.Proofs.YtcgdlhkiecommaaGreatDoor
