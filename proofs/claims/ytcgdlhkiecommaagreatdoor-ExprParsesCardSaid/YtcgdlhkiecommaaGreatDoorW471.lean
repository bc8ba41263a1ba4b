import Derived.Test.YtcgdlhkiecommaaGreatDoorW468
import Derived.Test.YtcgdlhkiecommaaGreatDoorFacts
import Derived.Test.YtcgdlhkiecommaaGreatDoorEngNest

import Derived.Test.YtcgdlhkiecommaaGreatDoorXRef3
import Derived.Test.YtcgdlhkiecommaaGreatDoorXBld

import Derived.Test.YtcgdlhkiecommaaGreatDoorXSame2



import Derived.Test.YtcgdlhkiecommaaGreatDoorXTop

/- Printed walks (gen.py, lexer_ann.py): part 469. -/



set_option linter.unusedVariables false
set_option linter.unusedSimpArgs false
set_option maxRecDepth 20000
set_option maxHeartbeats 40000000
namespace Go.Proofs.YtcgdlhkiecommaaGreatDoor
open Go
theorem m_ParseN (l : List Tk) (hl : OKTs l) (hn : l.length ≤ 20000) (p : Int) (hb : begQ l p = false)  : AC Tryz.prog 14 [.list 5 (l.map encK), .v (.int .i64 (p))] ([]) (fun r σ' => r = .ret (encP encX (ex0, 0, ⟨2, [], 0, 0⟩)) ∧ σ'.keep (fun _ => false) = []) := by
 refine ace 39 Tryz.func14 ?_
 refine aw_sr ?_
 refine al_al 4 info37 fun ver4 => ?_
 refine al_gs ?_
 refine al_al 6 info40 fun ver6 => ?_
 refine al_sr ?_
 refine al_mv ?_
 refine al_mv ?_
 (refine al_call into41 rfl rfl rfl (q_begF l hl hn p hb rfl rfl) (by simp) ?_; rintro _ _ ⟨rfl, rfl⟩)
 refine al_mv ?_
 refine al_xt ?_
 refine al_xt ?_
 refine al_gs ?_
 refine al_gs ?_
 refine al_nil ?_
 refine aw_seq ?_
 refine aw_sr ?_
 refine al_mv ?_
 refine al_o (op_not rfl) ?_
 refine al_nil ?_
 refine aw_cond rfl (fun h1 => ?_) (fun h1 => ?_)
 ·have gh1 := h1
  simp only [nrm] at h1
  refine aw_sr ?_
  refine al_o (val_re (.agg (cellsE (ex0))) (op_bs u37 info37 place37) (.agg _ _ (by repeat (first | exact reL_nil | refine reL_cons (.same _) ?_ | refine reL_cons (.vnil _) ?_)))) ?_
  refine al_o (op_bs u40 info40 place40) ?_
  refine al_sp info37 ?_
  refine al_gs ?_
  refine al_sp info40 ?_
  refine al_nil ?_
  refine aw_ret ?_
  refine ⟨_, res_cell_tmp_cell rfl u37 info37 u40 info40 rfl rfl rfl rfl rfl rfl rfl rfl rfl rfl rfl rfl, ?_⟩
  exact ⟨rfl, rfl⟩
 have gh1 := h1
 simp only [nrm] at h1
 cases gh1
theorem m_ParseY (l : List Tk) (hl : OKTs l) (hn : l.length ≤ 20000) (i : Nat) (hil : i ≤ l.length) (hb : begQ l (i : Int) = true)  : AC Tryz.prog 14 [.list 5 (l.map encK), .v (.int .i64 ((i : Nat) : Int))] ([]) (fun r σ' => r = .ret (encP encX (rdOut ex0 (rowD l 40 4 i))) ∧ σ'.keep (fun _ => false) = []) := by
 have hpo := (beg_facts hb).1
 have hn2 : l.length ≤ 1000000 := by omega
 refine ace 39 Tryz.func14 ?_
 refine aw_sr ?_
 refine al_al 4 info37 fun ver4 => ?_
 refine al_gs ?_
 refine al_al 6 info40 fun ver6 => ?_
 refine al_sr ?_
 refine al_mv ?_
 refine al_mv ?_
 (refine al_call into41 rfl rfl rfl (q_begT l hl hn i hb rfl rfl) (by simp) ?_; rintro _ _ ⟨v13, rfl, rfl⟩)
 refine al_mv ?_
 refine al_xt ?_
 refine al_xt ?_
 refine al_gs ?_
 refine al_gs ?_
 refine al_nil ?_
 refine aw_seq ?_
 refine aw_sr ?_
 refine al_mv ?_
 refine al_o (op_not rfl) ?_
 refine al_nil ?_
 refine aw_cond rfl (fun h1 => ?_) (fun h1 => ?_)
 ·have gh1 := h1
  simp only [nrm] at h1
  cases gh1
 have gh1 := h1
 simp only [nrm] at h1
 refine aw_skip ?_
 refine aw_sr ?_
 refine al_mv ?_
 refine al_call into42 rfl rfl rfl (rq_call 0 (by decide) rfl (fun _ => rfl) ((q_all l hpo hn2 41).2 v13 ⟨i, 0, okF⟩ (QH.first hil)) rfl (by rfl)) (by simp) ?_; rintro _ _ ⟨a21, s21, hq21, rfl, rfl⟩
 have hs21 := (QH.first hil).after hq21
 have hq : QP l (rowD l 40 4 i) 0 ⟨i, 0, okF⟩ (.ok a21 s21.i) s21 := hq21
 refine al_al 9 info37 fun ver9 => ?_
 refine al_sp info37 ?_
 refine al_nil ?_
 refine aw_seq ?_
 refine aw_sr ?_
 refine al_mv ?_
 refine al_callp into43 rfl rfl rfl (q_okA v13 l hpo hn2 41 s21 hs21 rfl rfl) (by simp) ?_
 refine al_o (op_not rfl) ?_
 refine al_nil ?_
 refine aw_cond rfl (fun h2 => ?_) (fun h2 => ?_)
 ·have gh2 := h2
  simp only [nrm] at h2
  have gO := gh2
  refine aw_seq ?_
  refine aw_plan [0, 1, 2, 3, 4, 5, 6, 7] (Checked.mixed Tryz.checked) (by kernel_rfl) ?_
  refine afl_float rfl rfl (opk_of (val_re (.agg (cellsE (ex0))) (op_bs u37 info37 place37) (.agg _ _ (by repeat (first | exact reL_nil | refine reL_cons (.same _) ?_ | refine reL_cons (.vnil _) ?_))))) (by simp) ?_
  refine afl_float rfl rfl (opk_of (op_move rfl)) (by simp) ?_
  refine afl_float rfl rfl (opk_of (op_nilCheck_ptr rfl rfl)) (by simp) ?_
  refine afl_float rfl rfl (opk_of (op_field_ptr u76 rfl info40 (by decide) rfl rfl rfl)) (by simp) ?_
  refine afl_float rfl rfl (opk_of (op_load_ptr u40 info40 rfl rfl rfl rfl)) (by simp) ?_
  (refine afl_eff rfl rfl (by kernel_rfl) (op_sp info37) (by simp) ?_ ?_)
  ·
   refine loose_k rfl (opk_of (op_load_ptr u40 info40 rfl rfl rfl rfl)) ?_
   refine loose_k rfl (opk_of (op_field_ptr u76 rfl info40 (by decide) rfl rfl rfl)) ?_
   refine loose_k rfl (opk_of (op_nilCheck_ptr rfl rfl)) ?_
   refine loose_k rfl (opk_of (op_move rfl)) ?_
   refine loose_anc 0 rfl (by kernel_rfl) ?_
   exact loose_nil
  refine afl_float rfl rfl (opk_of (op_assign rfl)) (by simp) ?_
  (refine afl_eff rfl rfl (by kernel_rfl) (op_sp info40) (by simp) ?_ ?_)
  ·
   refine loose_anc 6 rfl (by kernel_rfl) ?_
   refine loose_fix rfl ?_
   refine loose_anc 4 rfl (by kernel_rfl) ?_
   refine loose_anc 3 rfl (by kernel_rfl) ?_
   refine loose_anc 2 rfl (by kernel_rfl) ?_
   refine loose_anc 1 rfl (by kernel_rfl) ?_
   refine loose_anc 0 rfl (by kernel_rfl) ?_
   exact loose_nil
  refine afl_end ?_
  refine aw_ret ?_
  refine ⟨_, res_cell_tmp_cell rfl u37 info37 u40 info40 rfl rfl rfl rfl rfl rfl rfl rfl rfl rfl rfl rfl, ?_⟩
  exact ⟨by rw [out_bad rfl hq gO]; rfl, rfl⟩
 have gh2 := h2
 simp only [nrm] at h2
 have gO := gh2
 refine aw_skip ?_
 refine aw_seq ?_
 refine aw_plan [0, 1, 2, 3, 4, 5, 6, 7, 8, 9, 10, 11] (Checked.mixed Tryz.checked) (by kernel_rfl) ?_
 refine afl_float rfl rfl (opk_of (op_load_ptr u37 info37 rfl rfl rfl rfl)) (by simp) ?_
 refine afl_float rfl rfl (opk_of (op_move rfl)) (by simp) ?_
 refine afl_float rfl rfl (opk_of (op_nilCheck_ptr rfl rfl)) (by simp) ?_
 refine afl_float rfl rfl (opk_of (op_field_ptr u76 rfl info3 (by decide) rfl rfl rfl)) (by simp) ?_
 refine afl_float rfl rfl (opk_of (op_load_ptr u3 info3 rfl rfl rfl rfl)) (by simp) ?_
 refine afl_float rfl rfl (opk_of (op_move rfl)) (by simp) ?_
 refine afl_float rfl rfl (opk_of (op_nilCheck_ptr rfl rfl)) (by simp) ?_
 refine afl_float rfl rfl (opk_of (op_field_ptr u76 rfl info40 (by decide) rfl rfl rfl)) (by simp) ?_
 refine afl_float rfl rfl (opk_of (op_load_ptr u40 info40 rfl rfl rfl rfl)) (by simp) ?_
 (refine afl_eff rfl rfl (by kernel_rfl) (op_sp info37) (by simp) ?_ ?_)
 ·
  refine loose_k rfl (opk_of (op_load_ptr u40 info40 rfl rfl rfl rfl)) ?_
  refine loose_k rfl (opk_of (op_field_ptr u76 rfl info40 (by decide) rfl rfl rfl)) ?_
  refine loose_k rfl (opk_of (op_nilCheck_ptr rfl rfl)) ?_
  refine loose_k rfl (opk_of (op_move rfl)) ?_
  refine loose_k rfl (opk_of (op_load_ptr u3 info3 rfl rfl rfl rfl)) ?_
  refine loose_k rfl (opk_of (op_field_ptr u76 rfl info3 (by decide) rfl rfl rfl)) ?_
  refine loose_k rfl (opk_of (op_nilCheck_ptr rfl rfl)) ?_
  refine loose_k rfl (opk_of (op_move rfl)) ?_
  refine loose_anc 0 rfl (by kernel_rfl) ?_
  exact loose_nil
 refine afl_float rfl rfl (opk_of (op_assign rfl)) (by simp) ?_
 (refine afl_eff rfl rfl (by kernel_rfl) (op_sp info40) (by simp) ?_ ?_)
 ·
  refine loose_anc 10 rfl (by kernel_rfl) ?_
  refine loose_fix rfl ?_
  refine loose_anc 8 rfl (by kernel_rfl) ?_
  refine loose_anc 7 rfl (by kernel_rfl) ?_
  refine loose_anc 6 rfl (by kernel_rfl) ?_
  refine loose_anc 5 rfl (by kernel_rfl) ?_
  refine loose_anc 4 rfl (by kernel_rfl) ?_
  refine loose_anc 3 rfl (by kernel_rfl) ?_
  refine loose_anc 2 rfl (by kernel_rfl) ?_
  refine loose_anc 1 rfl (by kernel_rfl) ?_
  refine loose_anc 0 rfl (by kernel_rfl) ?_
  exact loose_nil
 refine afl_end ?_
 refine aw_ret ?_
 refine ⟨_, res_cell_tmp_cell rfl u37 info37 u40 info40 rfl rfl rfl rfl rfl rfl rfl rfl rfl rfl rfl rfl, ?_⟩
 exact ⟨by rw [out_ok hq gO]; rfl, rfl⟩
theorem m_Parse (l : List Tk) (hl : OKTs l) (hn : l.length ≤ 20000) (p : Int) : ACp Tryz.prog 14 [.list 5 (l.map encK), .v (.int .i64 (p))] (encP encX (readP ex0 l p (fun i => rowD l 40 4 i))) := by
  cases hb : begQ l p with
  | false =>
    rw [read_no hn hb]
    exact acp_of rfl (ac_mono (ac_keep (fun _ => false) (m_ParseN l hl hn p hb)) (by rintro x σ1 ⟨σ2, ⟨rfl, e⟩, rfl⟩; exact ⟨rfl, e⟩))
  | true =>
    obtain ⟨_, i, rfl, hil⟩ := beg_facts hb
    rw [read_yes hn hb]
    exact acp_of rfl (ac_mono (ac_keep (fun _ => false) (m_ParseY l hl hn i hil hb)) (by rintro x σ1 ⟨σ2, ⟨rfl, e⟩, rfl⟩; exact ⟨rfl, e⟩))
theorem m_TargetN (l : List Tk) (hl : OKTs l) (hn : l.length ≤ 20000) (p : Int) (hb : begQ l p = false)  : AC Tryz.prog 17 [.list 5 (l.map encK), .v (.int .i64 (p))] ([]) (fun r σ' => r = .ret (encP encX (ex0, 0, ⟨2, [], 0, 0⟩)) ∧ σ'.keep (fun _ => false) = []) := by
 refine ace 39 Tryz.func17 ?_
 refine aw_sr ?_
 refine al_al 4 info37 fun ver4 => ?_
 refine al_gs ?_
 refine al_al 6 info40 fun ver6 => ?_
 refine al_sr ?_
 refine al_mv ?_
 refine al_mv ?_
 (refine al_call into41 rfl rfl rfl (q_begF l hl hn p hb rfl rfl) (by simp) ?_; rintro _ _ ⟨rfl, rfl⟩)
 refine al_mv ?_
 refine al_xt ?_
 refine al_xt ?_
 refine al_gs ?_
 refine al_gs ?_
 refine al_nil ?_
 refine aw_seq ?_
 refine aw_sr ?_
 refine al_mv ?_
 refine al_o (op_not rfl) ?_
 refine al_nil ?_
 refine aw_cond rfl (fun h1 => ?_) (fun h1 => ?_)
 ·have gh1 := h1
  simp only [nrm] at h1
  refine aw_sr ?_
  refine al_o (val_re (.agg (cellsE (ex0))) (op_bs u37 info37 place37) (.agg _ _ (by repeat (first | exact reL_nil | refine reL_cons (.same _) ?_ | refine reL_cons (.vnil _) ?_)))) ?_
  refine al_o (op_bs u40 info40 place40) ?_
  refine al_sp info37 ?_
  refine al_gs ?_
  refine al_sp info40 ?_
  refine al_nil ?_
  refine aw_ret ?_
  refine ⟨_, res_cell_tmp_cell rfl u37 info37 u40 info40 rfl rfl rfl rfl rfl rfl rfl rfl rfl rfl rfl rfl, ?_⟩
  exact ⟨rfl, rfl⟩
 have gh1 := h1
 simp only [nrm] at h1
 cases gh1
theorem m_TargetY (l : List Tk) (hl : OKTs l) (hn : l.length ≤ 20000) (i : Nat) (hil : i ≤ l.length) (hb : begQ l (i : Int) = true)  : AC Tryz.prog 17 [.list 5 (l.map encK), .v (.int .i64 ((i : Nat) : Int))] ([]) (fun r σ' => r = .ret (encP encX (rdOut ex0 (targetP l i))) ∧ σ'.keep (fun _ => false) = []) := by
 have hpo := (beg_facts hb).1
 have hn2 : l.length ≤ 1000000 := by omega
 refine ace 39 Tryz.func17 ?_
 refine aw_sr ?_
 refine al_al 4 info37 fun ver4 => ?_
 refine al_gs ?_
 refine al_al 6 info40 fun ver6 => ?_
 refine al_sr ?_
 refine al_mv ?_
 refine al_mv ?_
 (refine al_call into41 rfl rfl rfl (q_begT l hl hn i hb rfl rfl) (by simp) ?_; rintro _ _ ⟨v13, rfl, rfl⟩)
 refine al_mv ?_
 refine al_xt ?_
 refine al_xt ?_
 refine al_gs ?_
 refine al_gs ?_
 refine al_nil ?_
 refine aw_seq ?_
 refine aw_sr ?_
 refine al_mv ?_
 refine al_o (op_not rfl) ?_
 refine al_nil ?_
 refine aw_cond rfl (fun h1 => ?_) (fun h1 => ?_)
 ·have gh1 := h1
  simp only [nrm] at h1
  cases gh1
 have gh1 := h1
 simp only [nrm] at h1
 refine aw_skip ?_
 refine aw_sr ?_
 refine al_mv ?_
 refine al_call into45 rfl rfl rfl (rq_call 0 (by decide) rfl (fun _ => rfl) (q_target v13 l hpo hn2 41 ⟨i, 0, okF⟩ (QH.first hil) rfl) rfl (by rfl)) (by simp) ?_; rintro _ _ ⟨a21, s21, hq21, rfl, rfl⟩
 have hs21 := (QH.first hil).after hq21
 have hq : QP l (targetP l i) 0 ⟨i, 0, okF⟩ (.ok a21 s21.i) s21 := hq21
 refine al_al 9 info37 fun ver9 => ?_
 refine al_sp info37 ?_
 refine al_nil ?_
 refine aw_seq ?_
 refine aw_sr ?_
 refine al_mv ?_
 refine al_callp into43 rfl rfl rfl (q_okA v13 l hpo hn2 41 s21 hs21 rfl rfl) (by simp) ?_
 refine al_o (op_not rfl) ?_
 refine al_nil ?_
 refine aw_cond rfl (fun h2 => ?_) (fun h2 => ?_)
 ·have gh2 := h2
  simp only [nrm] at h2
  have gO := gh2
  refine aw_seq ?_
  refine aw_plan [0, 1, 2, 3, 4, 5, 6, 7] (Checked.mixed Tryz.checked) (by kernel_rfl) ?_
  refine afl_float rfl rfl (opk_of (val_re (.agg (cellsE (ex0))) (op_bs u37 info37 place37) (.agg _ _ (by repeat (first | exact reL_nil | refine reL_cons (.same _) ?_ | refine reL_cons (.vnil _) ?_))))) (by simp) ?_
  refine afl_float rfl rfl (opk_of (op_move rfl)) (by simp) ?_
  refine afl_float rfl rfl (opk_of (op_nilCheck_ptr rfl rfl)) (by simp) ?_
  refine afl_float rfl rfl (opk_of (op_field_ptr u76 rfl info40 (by decide) rfl rfl rfl)) (by simp) ?_
  refine afl_float rfl rfl (opk_of (op_load_ptr u40 info40 rfl rfl rfl rfl)) (by simp) ?_
  (refine afl_eff rfl rfl (by kernel_rfl) (op_sp info37) (by simp) ?_ ?_)
  ·
   refine loose_k rfl (opk_of (op_load_ptr u40 info40 rfl rfl rfl rfl)) ?_
   refine loose_k rfl (opk_of (op_field_ptr u76 rfl info40 (by decide) rfl rfl rfl)) ?_
   refine loose_k rfl (opk_of (op_nilCheck_ptr rfl rfl)) ?_
   refine loose_k rfl (opk_of (op_move rfl)) ?_
   refine loose_anc 0 rfl (by kernel_rfl) ?_
   exact loose_nil
  refine afl_float rfl rfl (opk_of (op_assign rfl)) (by simp) ?_
  (refine afl_eff rfl rfl (by kernel_rfl) (op_sp info40) (by simp) ?_ ?_)
  ·
   refine loose_anc 6 rfl (by kernel_rfl) ?_
   refine loose_fix rfl ?_
   refine loose_anc 4 rfl (by kernel_rfl) ?_
   refine loose_anc 3 rfl (by kernel_rfl) ?_
   refine loose_anc 2 rfl (by kernel_rfl) ?_
   refine loose_anc 1 rfl (by kernel_rfl) ?_
   refine loose_anc 0 rfl (by kernel_rfl) ?_
   exact loose_nil
  refine afl_end ?_
  refine aw_ret ?_
  refine ⟨_, res_cell_tmp_cell rfl u37 info37 u40 info40 rfl rfl rfl rfl rfl rfl rfl rfl rfl rfl rfl rfl, ?_⟩
  exact ⟨by rw [out_bad rfl hq gO]; rfl, rfl⟩
 have gh2 := h2
 simp only [nrm] at h2
 have gO := gh2
 refine aw_skip ?_
 refine aw_seq ?_
 refine aw_plan [0, 1, 2, 3, 4, 5, 6, 7, 8, 9, 10, 11] (Checked.mixed Tryz.checked) (by kernel_rfl) ?_
 refine afl_float rfl rfl (opk_of (op_load_ptr u37 info37 rfl rfl rfl rfl)) (by simp) ?_
 refine afl_float rfl rfl (opk_of (op_move rfl)) (by simp) ?_
 refine afl_float rfl rfl (opk_of (op_nilCheck_ptr rfl rfl)) (by simp) ?_
 refine afl_float rfl rfl (opk_of (op_field_ptr u76 rfl info3 (by decide) rfl rfl rfl)) (by simp) ?_
 refine afl_float rfl rfl (opk_of (op_load_ptr u3 info3 rfl rfl rfl rfl)) (by simp) ?_
 refine afl_float rfl rfl (opk_of (op_move rfl)) (by simp) ?_
 refine afl_float rfl rfl (opk_of (op_nilCheck_ptr rfl rfl)) (by simp) ?_
 refine afl_float rfl rfl (opk_of (op_field_ptr u76 rfl info40 (by decide) rfl rfl rfl)) (by simp) ?_
 refine afl_float rfl rfl (opk_of (op_load_ptr u40 info40 rfl rfl rfl rfl)) (by simp) ?_
 (refine afl_eff rfl rfl (by kernel_rfl) (op_sp info37) (by simp) ?_ ?_)
 ·
  refine loose_k rfl (opk_of (op_load_ptr u40 info40 rfl rfl rfl rfl)) ?_
  refine loose_k rfl (opk_of (op_field_ptr u76 rfl info40 (by decide) rfl rfl rfl)) ?_
  refine loose_k rfl (opk_of (op_nilCheck_ptr rfl rfl)) ?_
  refine loose_k rfl (opk_of (op_move rfl)) ?_
  refine loose_k rfl (opk_of (op_load_ptr u3 info3 rfl rfl rfl rfl)) ?_
  refine loose_k rfl (opk_of (op_field_ptr u76 rfl info3 (by decide) rfl rfl rfl)) ?_
  refine loose_k rfl (opk_of (op_nilCheck_ptr rfl rfl)) ?_
  refine loose_k rfl (opk_of (op_move rfl)) ?_
  refine loose_anc 0 rfl (by kernel_rfl) ?_
  exact loose_nil
 refine afl_float rfl rfl (opk_of (op_assign rfl)) (by simp) ?_
 (refine afl_eff rfl rfl (by kernel_rfl) (op_sp info40) (by simp) ?_ ?_)
 ·
  refine loose_anc 10 rfl (by kernel_rfl) ?_
  refine loose_fix rfl ?_
  refine loose_anc 8 rfl (by kernel_rfl) ?_
  refine loose_anc 7 rfl (by kernel_rfl) ?_
  refine loose_anc 6 rfl (by kernel_rfl) ?_
  refine loose_anc 5 rfl (by kernel_rfl) ?_
  refine loose_anc 4 rfl (by kernel_rfl) ?_
  refine loose_anc 3 rfl (by kernel_rfl) ?_
  refine loose_anc 2 rfl (by kernel_rfl) ?_
  refine loose_anc 1 rfl (by kernel_rfl) ?_
  refine loose_anc 0 rfl (by kernel_rfl) ?_
  exact loose_nil
 refine afl_end ?_
 refine aw_ret ?_
 refine ⟨_, res_cell_tmp_cell rfl u37 info37 u40 info40 rfl rfl rfl rfl rfl rfl rfl rfl rfl rfl rfl rfl, ?_⟩
 exact ⟨by rw [out_ok hq gO]; rfl, rfl⟩
theorem m_Target (l : List Tk) (hl : OKTs l) (hn : l.length ≤ 20000) (p : Int) : ACp Tryz.prog 17 [.list 5 (l.map encK), .v (.int .i64 (p))] (encP encX (readP ex0 l p (fun i => targetP l i))) := by
  cases hb : begQ l p with
  | false =>
    rw [read_no hn hb]
    exact acp_of rfl (ac_mono (ac_keep (fun _ => false) (m_TargetN l hl hn p hb)) (by rintro x σ1 ⟨σ2, ⟨rfl, e⟩, rfl⟩; exact ⟨rfl, e⟩))
  | true =>
    obtain ⟨_, i, rfl, hil⟩ := beg_facts hb
    rw [read_yes hn hb]
    exact acp_of rfl (ac_mono (ac_keep (fun _ => false) (m_TargetY l hl hn i hil hb)) (by rintro x σ1 ⟨σ2, ⟨rfl, e⟩, rfl⟩; exact ⟨rfl, e⟩))
theorem m_TypeN (l : List Tk) (hl : OKTs l) (hn : l.length ≤ 20000) (p : Int) (hb : begQ l p = false)  : AC Tryz.prog 19 [.list 5 (l.map encK), .v (.int .i64 (p))] ([]) (fun r σ' => r = .ret (encP encRr (tr0, 0, ⟨2, [], 0, 0⟩)) ∧ σ'.keep (fun _ => false) = []) := by
 refine ace 39 Tryz.func19 ?_
 refine aw_sr ?_
 refine al_al 4 info46 fun ver4 => ?_
 refine al_gs ?_
 refine al_al 6 info40 fun ver6 => ?_
 refine al_sr ?_
 refine al_mv ?_
 refine al_mv ?_
 (refine al_call into41 rfl rfl rfl (q_begF l hl hn p hb rfl rfl) (by simp) ?_; rintro _ _ ⟨rfl, rfl⟩)
 refine al_mv ?_
 refine al_xt ?_
 refine al_xt ?_
 refine al_gs ?_
 refine al_gs ?_
 refine al_nil ?_
 refine aw_seq ?_
 refine aw_sr ?_
 refine al_mv ?_
 refine al_o (op_not rfl) ?_
 refine al_nil ?_
 refine aw_cond rfl (fun h1 => ?_) (fun h1 => ?_)
 ·have gh1 := h1
  simp only [nrm] at h1
  refine aw_sr ?_
  refine al_o (val_re (.agg (cellsR (tr0))) (op_bs u46 info46 place46) (.agg _ _ (by repeat (first | exact reL_nil | refine reL_cons (.same _) ?_ | refine reL_cons (.vnil _) ?_)))) ?_
  refine al_o (op_bs u40 info40 place40) ?_
  refine al_sp info46 ?_
  refine al_gs ?_
  refine al_sp info40 ?_
  refine al_nil ?_
  refine aw_ret ?_
  refine ⟨_, res_cell_tmp_cell rfl u46 info46 u40 info40 rfl rfl rfl rfl rfl rfl rfl rfl rfl rfl rfl rfl, ?_⟩
  exact ⟨rfl, rfl⟩
 have gh1 := h1
 simp only [nrm] at h1
 cases gh1
theorem m_TypeY (l : List Tk) (hl : OKTs l) (hn : l.length ≤ 20000) (i : Nat) (hil : i ≤ l.length) (hb : begQ l (i : Int) = true)  : AC Tryz.prog 19 [.list 5 (l.map encK), .v (.int .i64 ((i : Nat) : Int))] ([]) (fun r σ' => r = .ret (encP encRr (rdOut tr0 (typeS l false (typeS l true (fun _ => .bad eofF)) i))) ∧ σ'.keep (fun _ => false) = []) := by
 have hpo := (beg_facts hb).1
 have hn2 : l.length ≤ 1000000 := by omega
 refine ace 39 Tryz.func19 ?_
 refine aw_sr ?_
 refine al_al 4 info46 fun ver4 => ?_
 refine al_gs ?_
 refine al_al 6 info40 fun ver6 => ?_
 refine al_sr ?_
 refine al_mv ?_
 refine al_mv ?_
 (refine al_call into41 rfl rfl rfl (q_begT l hl hn i hb rfl rfl) (by simp) ?_; rintro _ _ ⟨v13, rfl, rfl⟩)
 refine al_mv ?_
 refine al_xt ?_
 refine al_xt ?_
 refine al_gs ?_
 refine al_gs ?_
 refine al_nil ?_
 refine aw_seq ?_
 refine aw_sr ?_
 refine al_mv ?_
 refine al_o (op_not rfl) ?_
 refine al_nil ?_
 refine aw_cond rfl (fun h1 => ?_) (fun h1 => ?_)
 ·have gh1 := h1
  simp only [nrm] at h1
  cases gh1
 have gh1 := h1
 simp only [nrm] at h1
 refine aw_skip ?_
 refine aw_sr ?_
 refine al_mv ?_
 refine al_call into48 rfl rfl rfl (rq_call 0 (by decide) rfl (fun _ => rfl) (q_typeS v13 l hpo hn2 41 ⟨i, 0, okF⟩ (QH.first hil) rfl false (typeS l true (fun _ => .bad eofF)) (fun _ v0 s hs => q_typeS v0 l hpo hn2 41 s hs rfl true (fun _ => .bad eofF) (fun h => by cases h))) rfl (by rfl)) (by simp) ?_; rintro _ _ ⟨a21, s21, hq21, rfl, rfl⟩
 have hs21 := (QH.first hil).after hq21
 have hq : QP l (typeS l false (typeS l true (fun _ => .bad eofF)) i) 0 ⟨i, 0, okF⟩ (.ok a21 s21.i) s21 := hq21
 refine al_al 9 info46 fun ver9 => ?_
 refine al_sp info46 ?_
 refine al_nil ?_
 refine aw_seq ?_
 refine aw_sr ?_
 refine al_mv ?_
 refine al_callp into43 rfl rfl rfl (q_okA v13 l hpo hn2 41 s21 hs21 rfl rfl) (by simp) ?_
 refine al_o (op_not rfl) ?_
 refine al_nil ?_
 refine aw_cond rfl (fun h2 => ?_) (fun h2 => ?_)
 ·have gh2 := h2
  simp only [nrm] at h2
  have gO := gh2
  refine aw_seq ?_
  refine aw_plan [0, 1, 2, 3, 4, 5, 6, 7] (Checked.mixed Tryz.checked) (by kernel_rfl) ?_
  refine afl_float rfl rfl (opk_of (val_re (.agg (cellsR (tr0))) (op_bs u46 info46 place46) (.agg _ _ (by repeat (first | exact reL_nil | refine reL_cons (.same _) ?_ | refine reL_cons (.vnil _) ?_))))) (by simp) ?_
  refine afl_float rfl rfl (opk_of (op_move rfl)) (by simp) ?_
  refine afl_float rfl rfl (opk_of (op_nilCheck_ptr rfl rfl)) (by simp) ?_
  refine afl_float rfl rfl (opk_of (op_field_ptr u76 rfl info40 (by decide) rfl rfl rfl)) (by simp) ?_
  refine afl_float rfl rfl (opk_of (op_load_ptr u40 info40 rfl rfl rfl rfl)) (by simp) ?_
  (refine afl_eff rfl rfl (by kernel_rfl) (op_sp info46) (by simp) ?_ ?_)
  ·
   refine loose_k rfl (opk_of (op_load_ptr u40 info40 rfl rfl rfl rfl)) ?_
   refine loose_k rfl (opk_of (op_field_ptr u76 rfl info40 (by decide) rfl rfl rfl)) ?_
   refine loose_k rfl (opk_of (op_nilCheck_ptr rfl rfl)) ?_
   refine loose_k rfl (opk_of (op_move rfl)) ?_
   refine loose_anc 0 rfl (by kernel_rfl) ?_
   exact loose_nil
  refine afl_float rfl rfl (opk_of (op_assign rfl)) (by simp) ?_
  (refine afl_eff rfl rfl (by kernel_rfl) (op_sp info40) (by simp) ?_ ?_)
  ·
   refine loose_anc 6 rfl (by kernel_rfl) ?_
   refine loose_fix rfl ?_
   refine loose_anc 4 rfl (by kernel_rfl) ?_
   refine loose_anc 3 rfl (by kernel_rfl) ?_
   refine loose_anc 2 rfl (by kernel_rfl) ?_
   refine loose_anc 1 rfl (by kernel_rfl) ?_
   refine loose_anc 0 rfl (by kernel_rfl) ?_
   exact loose_nil
  refine afl_end ?_
  refine aw_ret ?_
  refine ⟨_, res_cell_tmp_cell rfl u46 info46 u40 info40 rfl rfl rfl rfl rfl rfl rfl rfl rfl rfl rfl rfl, ?_⟩
  exact ⟨by rw [out_bad rfl hq gO]; rfl, rfl⟩
 have gh2 := h2
 simp only [nrm] at h2
 have gO := gh2
 refine aw_skip ?_
 refine aw_seq ?_
 refine aw_plan [0, 1, 2, 3, 4, 5, 6, 7, 8, 9, 10, 11] (Checked.mixed Tryz.checked) (by kernel_rfl) ?_
 refine afl_float rfl rfl (opk_of (op_load_ptr u46 info46 rfl rfl rfl rfl)) (by simp) ?_
 refine afl_float rfl rfl (opk_of (op_move rfl)) (by simp) ?_
 refine afl_float rfl rfl (opk_of (op_nilCheck_ptr rfl rfl)) (by simp) ?_
 refine afl_float rfl rfl (opk_of (op_field_ptr u76 rfl info3 (by decide) rfl rfl rfl)) (by simp) ?_
 refine afl_float rfl rfl (opk_of (op_load_ptr u3 info3 rfl rfl rfl rfl)) (by simp) ?_
 refine afl_float rfl rfl (opk_of (op_move rfl)) (by simp) ?_
 refine afl_float rfl rfl (opk_of (op_nilCheck_ptr rfl rfl)) (by simp) ?_
 refine afl_float rfl rfl (opk_of (op_field_ptr u76 rfl info40 (by decide) rfl rfl rfl)) (by simp) ?_
 refine afl_float rfl rfl (opk_of (op_load_ptr u40 info40 rfl rfl rfl rfl)) (by simp) ?_
 (refine afl_eff rfl rfl (by kernel_rfl) (op_sp info46) (by simp) ?_ ?_)
 ·
  refine loose_k rfl (opk_of (op_load_ptr u40 info40 rfl rfl rfl rfl)) ?_
  refine loose_k rfl (opk_of (op_field_ptr u76 rfl info40 (by decide) rfl rfl rfl)) ?_
  refine loose_k rfl (opk_of (op_nilCheck_ptr rfl rfl)) ?_
  refine loose_k rfl (opk_of (op_move rfl)) ?_
  refine loose_k rfl (opk_of (op_load_ptr u3 info3 rfl rfl rfl rfl)) ?_
  refine loose_k rfl (opk_of (op_field_ptr u76 rfl info3 (by decide) rfl rfl rfl)) ?_
  refine loose_k rfl (opk_of (op_nilCheck_ptr rfl rfl)) ?_
  refine loose_k rfl (opk_of (op_move rfl)) ?_
  refine loose_anc 0 rfl (by kernel_rfl) ?_
  exact loose_nil
 refine afl_float rfl rfl (opk_of (op_assign rfl)) (by simp) ?_
 (refine afl_eff rfl rfl (by kernel_rfl) (op_sp info40) (by simp) ?_ ?_)
 ·
  refine loose_anc 10 rfl (by kernel_rfl) ?_
  refine loose_fix rfl ?_
  refine loose_anc 8 rfl (by kernel_rfl) ?_
  refine loose_anc 7 rfl (by kernel_rfl) ?_
  refine loose_anc 6 rfl (by kernel_rfl) ?_
  refine loose_anc 5 rfl (by kernel_rfl) ?_
  refine loose_anc 4 rfl (by kernel_rfl) ?_
  refine loose_anc 3 rfl (by kernel_rfl) ?_
  refine loose_anc 2 rfl (by kernel_rfl) ?_
  refine loose_anc 1 rfl (by kernel_rfl) ?_
  refine loose_anc 0 rfl (by kernel_rfl) ?_
  exact loose_nil
 refine afl_end ?_
 refine aw_ret ?_
 refine ⟨_, res_cell_tmp_cell rfl u46 info46 u40 info40 rfl rfl rfl rfl rfl rfl rfl rfl rfl rfl rfl rfl, ?_⟩
 exact ⟨by rw [out_ok hq gO]; rfl, rfl⟩
theorem m_Type (l : List Tk) (hl : OKTs l) (hn : l.length ≤ 20000) (p : Int) : ACp Tryz.prog 19 [.list 5 (l.map encK), .v (.int .i64 (p))] (encP encRr (readP tr0 l p (fun i => typeS l false (typeS l true (fun _ => .bad eofF)) i))) := by
  cases hb : begQ l p with
  | false =>
    rw [read_no hn hb]
    exact acp_of rfl (ac_mono (ac_keep (fun _ => false) (m_TypeN l hl hn p hb)) (by rintro x σ1 ⟨σ2, ⟨rfl, e⟩, rfl⟩; exact ⟨rfl, e⟩))
  | true =>
    obtain ⟨_, i, rfl, hil⟩ := beg_facts hb
    rw [read_yes hn hb]
    exact acp_of rfl (ac_mono (ac_keep (fun _ => false) (m_TypeY l hl hn i hil hb)) (by rintro x σ1 ⟨σ2, ⟨rfl, e⟩, rfl⟩; exact ⟨rfl, e⟩))
end Go.Proofs.YtcgdlhkiecommaaGreatDoor
/- Printed walks (gen.py, lexer_ann.py): part 431. -/



namespace Go.Proofs.YtcgdlhkiecommaaGreatDoor
open Go
end Go.Proofs.YtcgdlhkiecommaaGreatDoor
/- Printed walks (gen.py, lexer_ann.py): part 432. -/



namespace Go.Proofs.YtcgdlhkiecommaaGreatDoor
open Go
end Go.Proofs.YtcgdlhkiecommaaGreatDoor
/- Printed walks (gen.py, lexer_ann.py): part 433. -/



namespace Go.Proofs.YtcgdlhkiecommaaGreatDoor
open Go
end Go.Proofs.YtcgdlhkiecommaaGreatDoor
/- Printed walks (gen.py, lexer_ann.py): part 434. -/



namespace Go.Proofs.YtcgdlhkiecommaaGreatDoor
open Go
end Go.Proofs.YtcgdlhkiecommaaGreatDoor
/- Printed walks (gen.py, lexer_ann.py): part 435. -/




namespace Go.Proofs.YtcgdlhkiecommaaGreatDoor
open Go
end Go.Proofs.YtcgdlhkiecommaaGreatDoor
/- Printed walks (gen.py, lexer_ann.py): part 436. -/



namespace Go.Proofs.YtcgdlhkiecommaaGreatDoor
open Go
end Go.Proofs.YtcgdlhkiecommaaGreatDoor
/- Printed walks (gen.py, lexer_ann.py): part 437. -/




namespace Go.Proofs.YtcgdlhkiecommaaGreatDoor
open Go
end Go.Proofs.YtcgdlhkiecommaaGreatDoor
/- Printed walks (gen.py, lexer_ann.py): part 438. -/




namespace Go.Proofs.YtcgdlhkiecommaaGreatDoor
open Go
end Go.Proofs.YtcgdlhkiecommaaGreatDoor
/- Printed walks (gen.py, lexer_ann.py): part 439. -/





namespace Go.Proofs.YtcgdlhkiecommaaGreatDoor
open Go
end Go.Proofs.YtcgdlhkiecommaaGreatDoor
/- Printed walks (gen.py, lexer_ann.py): part 440. -/



namespace Go.Proofs.YtcgdlhkiecommaaGreatDoor
open Go
end Go.Proofs.YtcgdlhkiecommaaGreatDoor
/- Printed walks (gen.py, lexer_ann.py): part 443. -/




namespace Go.Proofs.YtcgdlhkiecommaaGreatDoor
open Go
theorem l_long5 (l : List Tk) (hn : l.length ≤ 140737488355328) : ACp Tryz.prog 11 [.list 5 (l.map encK)] (.v (.bool (long5 l))) := by
 refine acp_of rfl ?_
 refine ace 24 Tryz.func11 ?_
 refine aw_sr ?_
 refine al_gs ?_
 refine al_nil ?_
 refine aw_seq ?_
 refine aw_sr ?_
 refine al_mv ?_
 refine al_lm u22 ?_
 refine al_o (op_gtr rfl rfl) ?_
 refine al_nil ?_
 refine aw_cond rfl (fun h1 => ?_) (fun h1 => ?_)
 ·have gh1 := h1
  simp only [nrm] at h1
  refine aw_sr ?_
  refine al_gs ?_
  refine al_nil ?_
  refine fz1 (t := 2) ?_
  refine aw_ret ?_
  refine ⟨_, res_1 rfl rfl, ?_, rfl⟩
  rw [long5, gh1]; rfl
 have gh1 := h1
 simp only [nrm] at h1
 refine aw_skip ?_
 refine aw_sr ?_
 refine al_gs ?_
 refine al_nil ?_
 refine aw_seq ?_
 refine aw_sr ?_
 refine al_mv ?_
 refine al_lm u22 ?_
 refine al_mv ?_
 refine al_nil ?_
 refine aw_block ?_
 refine aw_forT (ι := Nat) [3, 11] [5] (fun i => l.length - i) (fun i => i ≤ l.length) (fun i => ([(3, .v (.int .i64 ((sumT [] l i : Nat) : Int))), (11, .v (.int .i64 ((i : Nat) : Int)))] : Env)) (fun i s => s) (0) ?_ ?_ ?_ (fun i hinv => ?_)
 ·exact Nat.zero_le _
 ·refine sub_2 ?_ ?_
  all_goals (first | rfl | simp)
 ·rfl
 have hi := hinv
 have hsl := sumT_le [] l i
 simp only [List.length_nil] at hsl
 refine aw_sr ?_
 refine al_ls ?_
 refine al_nil ?_
 refine aw_seq ?_
 refine aw_cond rfl (fun h2 => ?_) (fun h2 => ?_)
 ·have gh2 := h2
  simp only [nrm] at h2
  refine aw_skip ?_
  refine aw_seq ?_
  refine aw_block ?_
  refine aw_sr ?_
  refine al_o (op_im u22 info65) ?_
  refine al_lr u65 info65 ?_
  refine al_al 5 info65 fun ver5 => ?_
  refine al_sp info65 ?_
  refine al_nil ?_
  refine aw_region ?_
  refine al_mv ?_
  refine al_fp u65 info9 ?_
  refine al_ld u9 info9 ?_
  refine al_o (op_slen_str (ts := #[]) u9 rfl) ?_
  refine al_o (op_min rfl rfl) ?_
  refine al_ad ?_
  refine al_gs ?_
  refine al_nil ?_
  refine aw_region ?_
  refine al_ad ?_
  refine al_mv ?_
  refine al_nil ?_
  refine ⟨i + 1, ?_, ?_, ?_, ?_, ?_⟩
  ·omega
  ·omega
  ·refine sub_2 ?_ ?_
   all_goals (first | rfl | (rw [sum_succ]) | simp)
  ·exact sbl
  ·rfl
 have gh2 := h2
 simp only [nrm] at h2
 refine aw_exit ?_
 have hie : i = l.length := by omega
 refine aw_sr ?_
 refine al_mv ?_
 refine al_o (op_gtr rfl rfl) ?_
 refine al_gs ?_
 refine al_nil ?_
 refine fz1 (t := 2) ?_
 refine aw_ret ?_
 refine ⟨_, res_1 rfl rfl, ?_, rfl⟩
 rw [long5, gh1, hie]; rfl
theorem r_placES (a b : Ex) (ha : szX a = true) (hb : szX b = true) (ih : ∀ x ∈ a.kids, ∀ y ∈ b.kids, ACp Tryz.prog 15 [.agg (cellsE x), .agg (cellsE y)] (.v (.bool (placE x y)))) : ACp Tryz.prog 15 [.agg (cellsE a), .agg (cellsE b)] (.v (.bool (placE a b))) := by
 refine acp_of rfl ?_
 obtain ⟨a1, a2, a3, a6, a7, a8⟩ := szX_facts ha
 obtain ⟨b1, b2, b3, b6, b7, b8⟩ := szX_facts hb
 refine ace 43 Tryz.func15 ?_
 refine aw_sr ?_
 refine al_bx 2 fun ver2 => ?_
 refine al_bx 3 fun ver3 => ?_
 refine al_gs ?_
 refine al_nil ?_
 refine aw_seq ?_
 refine aw_sr ?_
 refine al_ld u37 info37 ?_
 refine al_ld u37 info37 ?_
 refine al_callp into36 rfl rfl rfl (r_sameE a b ha hb _) (by simp) ?_
 refine al_o (op_not rfl) ?_
 refine al_mv ?_
 apply al_or 6 10 16 rfl
 ·intro h1; have gh1 := h1
  simp only [nrm] at h1
  refine tk_fp u37 info3 ?_
  refine tk_ld u3 info3 ?_
  refine tk_fp u37 info3 ?_
  refine tk_ld u3 info3 ?_
  refine al_t (op_neq rfl rfl) ?_
  refine al_pk ?_
  exact al_nk gh1
 ·intro h1; have gh1 := h1
  simp only [nrm] at h1
  iterate 5 refine al_ps ?_
  refine al_pk ?_
  exact al_nk gh1
 refine al_mv ?_
 apply al_or 6 17 23 rfl
 ·intro h2; have gh2 := h2
  simp only [nrm] at h2
  refine tk_fp u37 info3 ?_
  refine tk_ld u3 info3 ?_
  refine tk_fp u37 info3 ?_
  refine tk_ld u3 info3 ?_
  refine al_t (op_neq rfl rfl) ?_
  refine al_pk ?_
  exact al_nk gh2
 ·intro h2; have gh2 := h2
  simp only [nrm] at h2
  iterate 5 refine al_ps ?_
  refine al_pk ?_
  exact al_nk gh2
 refine al_nil ?_
 refine aw_cond rfl (fun h3 => ?_) (fun h3 => ?_)
 ·have gh3 := h3
  simp only [nrm] at h3
  have gq := gh3
  refine aw_sr ?_
  refine al_gs ?_
  refine al_nil ?_
  refine fz1 (t := 4) ?_
  refine aw_ret ?_
  refine ⟨_, res_1 rfl rfl, ?_, rfl⟩
  rw [placE_no gq]
 have gh3 := h3
 simp only [nrm] at h3
 have gq := gh3
 obtain ⟨hlp, hep⟩ := placE_yes gq
 have hll : a.kids.length = b.kids.length := by have := bne_eq_false_iff_eq.1 hlp; omega
 refine aw_skip ?_
 refine aw_seq ?_
 refine aw_sr ?_
 refine al_fp u37 info31 ?_
 refine al_ld u31 info31 ?_
 refine al_lm u31 ?_
 refine al_mv ?_
 refine al_nil ?_
 refine aw_block ?_
 refine aw_forT (ι := Nat) [4, 27] [] (fun i => a.kids.length - i) (fun i => i ≤ a.kids.length ∧ ∀ k, k < i → (!(placE (a.kids.getD k default) (b.kids.getD k default))) = false) (fun i => ([(27, .v (.int .i64 ((i : Nat) : Int)))] : Env)) (fun i s => s) (0) ?_ ?_ ?_ (fun i hinv => ?_)
 ·exact ⟨Nat.zero_le _, fun k hk => absurd hk (Nat.not_lt_zero k)⟩
 ·refine sub_1 ?_
  all_goals (first | rfl | simp)
 ·rfl
 have hi := hinv.1

 refine aw_sr ?_
 refine al_ls ?_
 refine al_nil ?_
 refine aw_seq ?_
 refine aw_cond rfl (fun h4 => ?_) (fun h4 => ?_)
 ·have gh4 := h4
  simp only [nrm] at h4
  refine aw_skip ?_
  refine aw_seq ?_
  refine aw_block ?_
  refine aw_sr ?_
  refine al_mv ?_
  refine al_gs ?_
  refine al_nil ?_
  refine aw_seq ?_
  refine aw_any (Checked.mixed Tryz.checked) ?_
  apply aany_seg (p := 0) (q := 12) (by kernel_rfl) rfl (by decide)
  ·
   apply ql_plain rfl (op_field_ptr u37 rfl info31 (by decide) rfl rfl rfl)
   apply ql_plain rfl (op_load_ptr u31 info31 rfl rfl rfl rfl)
   apply ql_plain rfl (op_move rfl)
   apply ql_plain rfl (val_as (.rptr (cellsE (a.kids.getD i default))) (op_im u31 info37) (by exact congrArg AVal.rptr (encE_cells _)))
   apply ql_plain rfl (op_load_rptr u37 info37 rfl rfl)
   apply ql_plain rfl (op_field_ptr u37 rfl info31 (by decide) rfl rfl rfl)
   apply ql_plain rfl (op_load_ptr u31 info31 rfl rfl rfl rfl)
   apply ql_plain rfl (op_move rfl)
   apply ql_plain rfl (val_as (.rptr (cellsE (b.kids.getD i default))) (op_im u31 info37) (by exact congrArg AVal.rptr (encE_cells _)))
   apply ql_plain rfl (op_load_rptr u37 info37 rfl rfl)
   apply ql_call into15 rfl rfl rfl (ih (a.kids.getD i default) (getD_mem (by omega)) (b.kids.getD i default) (getD_mem (by omega)) _)
   apply ql_plain rfl (op_not rfl)
   exact ql_nil
  ·simp
  refine aany_end rfl (by kernel_rfl) ?_
  refine aw_cond rfl (fun h5 => ?_) (fun h5 => ?_)
  ·have gh5 := h5
   simp only [nrm] at h5
   have gk := gh5
   refine aw_sr ?_
   refine al_gs ?_
   refine al_nil ?_
   refine fz1 (t := 4) ?_
   refine aw_ret ?_
   refine ⟨_, res_1 rfl rfl, ?_, rfl⟩
   rw [hep, alls_no i (by omega) (by omega) gk]
  have gh5 := h5
  simp only [nrm] at h5
  have gk := gh5
  refine aw_skip ?_
  refine aw_region ?_
  refine al_ad ?_
  refine al_mv ?_
  refine al_nil ?_
  refine ⟨i + 1, ?_, ?_, ?_, ?_, ?_⟩
  ·omega
  ·exact ⟨by omega, idx_more (p := (fun k => (!(placE (a.kids.getD k default) (b.kids.getD k default))))) hinv.2 gk⟩
  ·refine sub_1 ?_
   all_goals (first | rfl | simp)
  ·exact sbl
  ·rfl
 have gh4 := h4
 simp only [nrm] at h4
 refine aw_exit ?_
 refine aw_sr ?_
 refine al_gs ?_
 refine al_nil ?_
 refine fz1 (t := 4) ?_
 refine aw_ret ?_
 refine ⟨_, res_1 rfl rfl, ?_, rfl⟩
 rw [hep, alls_yes hlp (fun k hk => hinv.2 k (by omega))]
theorem r_placE (a : Ex) : ∀ b, szX a = true → szX b = true → ACp Tryz.prog 15 [.agg (cellsE a), .agg (cellsE b)] (.v (.bool (placE a b))) := by
  induction a using Ex.ind with
  | h a ih =>
    intro b ha hb
    obtain ⟨a1, a2, a3, a6, a7, a8⟩ := szX_facts ha
    obtain ⟨b1, b2, b3, b6, b7, b8⟩ := szX_facts hb
    exact r_placES a b ha hb (fun x hx y hy => ih x hx y (a8 x hx) (b8 y hy))
end Go.Proofs.YtcgdlhkiecommaaGreatDoor
/- Printed walks (gen.py, lexer_ann.py): part 470. -/






namespace Go.Proofs.YtcgdlhkiecommaaGreatDoor
open Go
theorem q_sameT (r : Tr) (hr : trS r) (ih : ∀ x ∈ r.elem, ACp Tryz.prog 20 [.agg (cellsR x), .agg (cellsR x), .v (.bool true)] (.v (.bool true))) : ACp Tryz.prog 20 [.agg (cellsR r), .agg (cellsR r), .v (.bool (true))] (.v (.bool (true))) := by
 refine acp_of rfl ?_
 obtain ⟨r1, r2, r3⟩ := hr
 refine ace 105 Tryz.func20 ?_
 refine aw_sr ?_
 refine al_bx 3 fun ver3 => ?_
 refine al_bx 4 fun ver4 => ?_
 refine al_gs ?_
 refine al_nil ?_
 refine aw_seq ?_
 refine aw_sr ?_
 refine al_fp u46 info9 ?_
 refine al_ld u9 info9 ?_
 refine al_fp u46 info9 ?_
 refine al_ld u9 info9 ?_
 refine al_o (op_sneq_str rfl rfl) ?_
 refine al_mv ?_
 apply al_or 8 14 22 rfl
 ·intro h1; have gh1 := h1
  simp only [nrm] at h1
  refine tk_fp u46 info31 ?_
  refine tk_ld u31 info31 ?_
  refine al_t (op_len_map u31 rfl) ?_
  refine tk_fp u46 info31 ?_
  refine tk_ld u31 info31 ?_
  refine al_t (op_len_map u31 rfl) ?_
  refine al_t (op_neq rfl rfl) ?_
  refine al_pk ?_
  exact al_nk gh1
 ·intro h1; have gh1 := h1
  simp only [nrm] at h1
  iterate 7 refine al_ps ?_
  refine al_pk ?_
  exact al_nk gh1
 refine al_mv ?_
 apply al_or 8 23 31 rfl
 ·intro h2; have gh2 := h2
  simp only [nrm] at h2
  refine tk_fp u46 info44 ?_
  refine tk_ld u44 info44 ?_
  refine al_t (op_len_map u44 rfl) ?_
  refine tk_fp u46 info44 ?_
  refine tk_ld u44 info44 ?_
  refine al_t (op_len_map u44 rfl) ?_
  refine al_t (op_neq rfl rfl) ?_
  refine al_pk ?_
  exact al_nk gh2
 ·intro h2; have gh2 := h2
  simp only [nrm] at h2
  iterate 7 refine al_ps ?_
  refine al_pk ?_
  exact al_nk gh2
 refine al_mv ?_
 apply al_or 16 32 48 rfl
 ·intro h3; have gh3 := h3
  simp only [nrm] at h3
  refine tk_mv ?_
  refine tk_mv ?_
  apply al_and 13 34 47 rfl
  ·intro h4; have gh4 := h4
   simp only [nrm] at h4
   refine tk_fp u46 info3 ?_
   refine tk_ld u3 info3 ?_
   refine tk_fp u46 info3 ?_
   refine tk_ld u3 info3 ?_
   refine al_t (op_neq rfl rfl) ?_
   refine tk_mv ?_
   apply al_or 6 40 46 rfl
   ·intro h5; have gh5 := h5
    simp only [nrm] at h5
    refine tk_fp u46 info3 ?_
    refine tk_ld u3 info3 ?_
    refine tk_fp u46 info3 ?_
    refine tk_ld u3 info3 ?_
    refine al_t (op_neq rfl rfl) ?_
    refine tk_pk ?_
    exact al_nk gh5
   ·intro h5; have gh5 := h5
    simp only [nrm] at h5
    iterate 5 refine al_ps ?_
    refine tk_pk ?_
    exact al_nk gh5
   refine tk_pk ?_
   exact al_nk gh4
  ·intro h4; have gh4 := h4
   iterate 6 refine al_ps ?_
   refine al_pu ?_
   refine al_pu ?_
   refine al_pu ?_
   refine al_pu ?_
   refine al_pu ?_
   refine al_ps ?_
   refine tk_pk ?_
   exact al_nk gh4
  refine al_pk ?_
  exact al_nk gh3
 ·intro h3; have gh3 := h3
  simp only [nrm] at h3
  iterate 2 refine al_ps ?_
  refine al_pu ?_
  refine al_pu ?_
  refine al_pu ?_
  refine al_pu ?_
  refine al_pu ?_
  refine al_pu ?_
  refine al_pu ?_
  refine al_pu ?_
  refine al_pu ?_
  refine al_pu ?_
  refine al_pu ?_
  refine al_pu ?_
  refine al_ps ?_
  refine al_pk ?_
  exact al_nk gh3
 refine al_nil ?_
 refine aw_cond rfl (fun h6 => ?_) (fun h6 => ?_)
 ·have gh6 := h6
  simp only [nrm] at h6
  exact absurd gh6 (by simp)
 have gh6 := h6
 simp only [nrm] at h6
 refine aw_skip ?_
 refine aw_seq ?_
 refine aw_sr ?_
 refine al_fp u46 info31 ?_
 refine al_ld u31 info31 ?_
 refine al_lm u31 ?_
 refine al_mv ?_
 refine al_nil ?_
 refine aw_block ?_
 refine aw_forT (ι := Nat) [6, 52] [] (fun i => r.len.length - i) (fun i => i ≤ r.len.length) (fun i => ([(52, .v (.int .i64 ((i : Nat) : Int)))] : Env)) (fun i s => s) (0) ?_ ?_ ?_ (fun i hinv => ?_)
 ·exact Nat.zero_le _
 ·refine sub_1 ?_
  all_goals (first | rfl | simp)
 ·rfl
 refine aw_sr ?_
 refine al_ls ?_
 refine al_nil ?_
 refine aw_seq ?_
 refine aw_cond rfl (fun h7 => ?_) (fun h7 => ?_)
 ·have gh7 := h7
  simp only [nrm] at h7
  refine aw_skip ?_
  refine aw_seq ?_
  refine aw_block ?_
  refine aw_sr ?_
  refine al_mv ?_
  refine al_gs ?_
  refine al_nil ?_
  refine aw_seq ?_
  refine aw_any (Checked.mixed Tryz.checked) ?_
  apply aany_seg (p := 0) (q := 29) (by kernel_rfl) rfl (by decide)
  ·
   apply ql_plain rfl (op_field_ptr u46 rfl info31 (by decide) rfl rfl rfl)
   apply ql_plain rfl (op_load_ptr u31 info31 rfl rfl rfl rfl)
   apply ql_plain rfl (op_move rfl)
   apply ql_plain rfl (val_as (.rptr (cellsE (r.len.getD i default))) (op_im u31 info37) (by exact congrArg AVal.rptr (encE_cells _)))
   apply ql_plain rfl (op_load_rptr u37 info37 rfl rfl)
   apply ql_plain rfl (op_field_ptr u46 rfl info31 (by decide) rfl rfl rfl)
   apply ql_plain rfl (op_load_ptr u31 info31 rfl rfl rfl rfl)
   apply ql_plain rfl (op_move rfl)
   apply ql_plain rfl (val_as (.rptr (cellsE (r.len.getD i default))) (op_im u31 info37) (by exact congrArg AVal.rptr (encE_cells _)))
   apply ql_plain rfl (op_load_rptr u37 info37 rfl rfl)
   apply ql_call into36 rfl rfl rfl (r_sameE (r.len.getD i default) (r.len.getD i default) (r3 _ (getD_mem (by omega))) (r3 _ (getD_mem (by omega))) _)
   apply ql_plain rfl (op_not rfl)
   apply ql_plain rfl (val_as (.v (.bool false)) (op_move rfl) (by rw [sameE_self]; rfl))
   apply ql_take rfl rfl rfl rfl (op_move rfl)
   apply ql_take rfl rfl rfl rfl (val_as (.v (.bool true)) (op_move rfl) (by rfl))
   apply ql_take rfl rfl rfl rfl (op_field_ptr u46 rfl info31 (by decide) rfl rfl rfl)
   apply ql_take rfl rfl rfl rfl (op_load_ptr u31 info31 rfl rfl rfl rfl)
   apply ql_take rfl rfl rfl rfl (op_move rfl)
   apply ql_take rfl rfl rfl rfl (val_as (.rptr (cellsE (r.len.getD i default))) (op_im u31 info37) (by exact congrArg AVal.rptr (encE_cells _)))
   apply ql_take rfl rfl rfl rfl (op_load_rptr u37 info37 rfl rfl)
   apply ql_take rfl rfl rfl rfl (op_field_ptr u46 rfl info31 (by decide) rfl rfl rfl)
   apply ql_take rfl rfl rfl rfl (op_load_ptr u31 info31 rfl rfl rfl rfl)
   apply ql_take rfl rfl rfl rfl (op_move rfl)
   apply ql_take rfl rfl rfl rfl (val_as (.rptr (cellsE (r.len.getD i default))) (op_im u31 info37) (by exact congrArg AVal.rptr (encE_cells _)))
   apply ql_take rfl rfl rfl rfl (op_load_rptr u37 info37 rfl rfl)
   apply ql_call_take into15 rfl rfl rfl rfl rfl rfl (r_placE (r.len.getD i default) (r.len.getD i default) (r3 _ (getD_mem (by omega))) (r3 _ (getD_mem (by omega))) _)
   apply ql_take rfl rfl rfl rfl (op_not rfl)
   apply ql_take rfl rfl rfl rfl (op_pick rfl rfl)
   apply ql_plain rfl (op_pick rfl rfl)
   exact ql_nil
  ·simp
  refine aany_end rfl (by kernel_rfl) ?_
  refine aw_cond rfl (fun h8 => ?_) (fun h8 => ?_)
  ·have gh8 := h8
   simp only [nrm] at h8
   rw [placE_self] at gh8; cases gh8
  have gh8 := h8
  simp only [nrm] at h8
  refine aw_skip ?_
  refine aw_region ?_
  refine al_ad ?_
  refine al_mv ?_
  refine al_nil ?_
  refine ⟨i + 1, ?_, ?_, ?_, ?_, ?_⟩
  ·omega
  ·first | trivial | omega
  ·refine sub_1 ?_
   all_goals (first | rfl | simp)
  ·exact sbl
  ·rfl
 have gh7 := h7
 simp only [nrm] at h7
 refine aw_exit ?_
 refine aw_seq ?_
 refine aw_sr ?_
 refine al_fp u46 info44 ?_
 refine al_ld u44 info44 ?_
 refine al_lm u44 ?_
 refine al_mv ?_
 refine al_nil ?_
 refine aw_block ?_
 refine aw_forT (ι := Nat) [6, 88] [] (fun i => r.elem.length - i) (fun i => i ≤ r.elem.length) (fun i => ([(88, .v (.int .i64 ((i : Nat) : Int)))] : Env)) (fun i s => s) (0) ?_ ?_ ?_ (fun i hinv => ?_)
 ·exact Nat.zero_le _
 ·refine sub_1 ?_
  all_goals (first | rfl | simp)
 ·rfl
 refine aw_sr ?_
 refine al_ls ?_
 refine al_nil ?_
 refine aw_seq ?_
 refine aw_cond rfl (fun h9 => ?_) (fun h9 => ?_)
 ·have gh9 := h9
  simp only [nrm] at h9
  refine aw_skip ?_
  refine aw_seq ?_
  refine aw_block ?_
  refine aw_sr ?_
  refine al_mv ?_
  refine al_gs ?_
  refine al_nil ?_
  refine aw_seq ?_
  refine aw_any (Checked.mixed Tryz.checked) ?_
  apply aany_seg (p := 0) (q := 13) (by kernel_rfl) rfl (by decide)
  ·
   apply ql_plain rfl (op_field_ptr u46 rfl info44 (by decide) rfl rfl rfl)
   apply ql_plain rfl (op_load_ptr u44 info44 rfl rfl rfl rfl)
   apply ql_plain rfl (op_move rfl)
   apply ql_plain rfl (val_as (.rptr (cellsR (r.elem.getD i default))) (op_im u44 info46) (by exact congrArg AVal.rptr (encR_cells _)))
   apply ql_plain rfl (op_load_rptr u46 info46 rfl rfl)
   apply ql_plain rfl (op_field_ptr u46 rfl info44 (by decide) rfl rfl rfl)
   apply ql_plain rfl (op_load_ptr u44 info44 rfl rfl rfl rfl)
   apply ql_plain rfl (op_move rfl)
   apply ql_plain rfl (val_as (.rptr (cellsR (r.elem.getD i default))) (op_im u44 info46) (by exact congrArg AVal.rptr (encR_cells _)))
   apply ql_plain rfl (op_load_rptr u46 info46 rfl rfl)
   apply ql_plain rfl (op_move rfl)
   apply ql_call into20 rfl rfl rfl (ih (r.elem.getD i default) (getD_mem (by omega)) _)
   apply ql_plain rfl (op_not rfl)
   exact ql_nil
  ·simp
  refine aany_end rfl (by kernel_rfl) ?_
  refine aw_cond rfl (fun h10 => ?_) (fun h10 => ?_)
  ·have gh10 := h10
   simp only [nrm] at h10
   cases gh10
  have gh10 := h10
  simp only [nrm] at h10
  refine aw_skip ?_
  refine aw_region ?_
  refine al_ad ?_
  refine al_mv ?_
  refine al_nil ?_
  refine ⟨i + 1, ?_, ?_, ?_, ?_, ?_⟩
  ·omega
  ·first | trivial | omega
  ·refine sub_1 ?_
   all_goals (first | rfl | simp)
  ·exact sbl
  ·rfl
 have gh9 := h9
 simp only [nrm] at h9
 refine aw_exit ?_
 refine aw_sr ?_
 refine al_gs ?_
 refine al_nil ?_
 refine fz1 (t := 6) ?_
 refine aw_ret ?_
 refine ⟨_, res_1 rfl rfl, ?_, rfl⟩
 rfl
theorem q_sameTT (r : Tr) (hr : trS r ∧ ∀ x ∈ r.elem, trS x ∧ x.elem = []) : ACp Tryz.prog 20 [.agg (cellsR r), .agg (cellsR r), .v (.bool true)] (.v (.bool true)) :=
  q_sameT r hr.1 (fun x hx => q_sameT x (hr.2 x hx).1 (fun y hy => by rw [(hr.2 x hx).2] at hy; cases hy))
theorem m_sameLT (l : List Tk) (hb : l.length ≤ 1000000000) : ACp Tryz.prog 21 [.list 5 (l.map encK), .list 5 (l.map encK)] (.v (.bool (true))) := by
 refine acp_of rfl ?_
 refine ace 45 Tryz.func21 ?_
 refine aw_sr ?_
 refine al_gs ?_
 refine al_nil ?_
 refine aw_seq ?_
 refine aw_sr ?_
 refine al_mv ?_
 refine al_lm u22 ?_
 refine al_mv ?_
 refine al_nil ?_
 refine aw_block ?_
 refine aw_forT (ι := Nat) [4, 8] [] (fun i => l.length - i) (fun i => i ≤ l.length) (fun i => ([(8, .v (.int .i64 (i)))] : Env)) (fun i s => s) (0) ?_ ?_ ?_ (fun i hinv => ?_)
 ·exact Nat.zero_le _
 ·refine sub_1 ?_
  all_goals (first | rfl | simp)
 ·rfl
 refine aw_sr ?_
 refine al_ls ?_
 refine al_nil ?_
 refine aw_seq ?_
 refine aw_cond rfl (fun h1 => ?_) (fun h1 => ?_)
 ·have gh1 := h1
  simp only [nrm] at h1
  refine aw_skip ?_
  refine aw_seq ?_
  refine aw_block ?_
  refine aw_sr ?_
  refine al_mv ?_
  refine al_gs ?_
  refine al_nil ?_
  refine aw_seq ?_
  refine aw_any (Checked.mixed Tryz.checked) ?_
  apply aany_seg (p := 0) (q := 30) (by kernel_rfl) rfl (by decide)
  ·
   apply ql_plain rfl (op_move rfl)
   apply ql_plain rfl (op_move rfl)
   apply ql_plain rfl (op_len_map u22 rfl)
   apply ql_plain rfl (op_lss rfl rfl)
   apply ql_plain rfl (val_as (.v (.bool true)) (op_move rfl) (by rw [decide_eq_true (by omega)]))
   apply ql_take rfl rfl rfl rfl (op_move rfl)
   apply ql_take rfl rfl rfl rfl (op_move rfl)
   apply ql_take rfl rfl rfl rfl (op_im u22 info65)
   apply ql_take rfl rfl rfl rfl (op_field_rptr u65 rfl info3 (by decide) rfl rfl)
   apply ql_take rfl rfl rfl rfl (op_load_rptr u3 info3 rfl rfl)
   apply ql_take rfl rfl rfl rfl (op_move rfl)
   apply ql_take rfl rfl rfl rfl (op_move rfl)
   apply ql_take rfl rfl rfl rfl (op_im u22 info65)
   apply ql_take rfl rfl rfl rfl (op_field_rptr u65 rfl info3 (by decide) rfl rfl)
   apply ql_take rfl rfl rfl rfl (op_load_rptr u3 info3 rfl rfl)
   apply ql_take rfl rfl rfl rfl (val_as (.v (.bool (false))) (op_neq rfl rfl) (by simp))
   apply ql_take rfl rfl rfl rfl (val_as (.v (.bool false)) (op_move rfl) (by rfl))
   apply ql_take rfl rfl rfl rfl (op_move rfl)
   apply ql_take rfl rfl rfl rfl (op_move rfl)
   apply ql_take rfl rfl rfl rfl (op_im u22 info65)
   apply ql_take rfl rfl rfl rfl (op_field_rptr u65 rfl info3 (by decide) rfl rfl)
   apply ql_take rfl rfl rfl rfl (op_load_rptr u3 info3 rfl rfl)
   apply ql_take rfl rfl rfl rfl (op_move rfl)
   apply ql_take rfl rfl rfl rfl (op_move rfl)
   apply ql_take rfl rfl rfl rfl (op_im u22 info65)
   apply ql_take rfl rfl rfl rfl (op_field_rptr u65 rfl info3 (by decide) rfl rfl)
   apply ql_take rfl rfl rfl rfl (op_load_rptr u3 info3 rfl rfl)
   apply ql_take rfl rfl rfl rfl (val_as (.v (.bool (false))) (op_neq rfl rfl) (by simp))
   apply ql_take rfl rfl rfl rfl (op_pick rfl rfl)
   apply ql_plain rfl (op_pick rfl rfl)
   exact ql_nil
  ·simp
  refine aany_end rfl (by kernel_rfl) ?_
  refine aw_cond rfl (fun h2 => ?_) (fun h2 => ?_)
  ·have gh2 := h2
   exact absurd gh2 (by simp)
  have gh2 := h2
  simp only [nrm] at h2
  refine aw_skip ?_
  refine aw_region ?_
  refine al_ad ?_
  refine al_mv ?_
  refine al_nil ?_
  refine ⟨i + 1, ?_, ?_, ?_, ?_, ?_⟩
  ·omega
  ·first | trivial | omega
  ·refine sub_1 ?_
   all_goals (first | rfl | simp)
  ·exact sbl
  ·rfl
 have gh1 := h1
 simp only [nrm] at h1
 refine aw_exit ?_
 refine aw_sr ?_
 refine al_mv ?_
 refine al_mv ?_
 refine al_callp into49 rfl rfl rfl ((r_alike _ _ (by first | assumption | omega | (simp; done) | (simp; omega) | decide)) _) (by simp) ?_
 refine al_gs ?_
 refine al_nil ?_
 refine fz1 (t := 4) ?_
 refine aw_ret ?_
 refine ⟨_, res_1 rfl rfl, ?_, rfl⟩
 rw [alike_self]
end Go.Proofs.YtcgdlhkiecommaaGreatDoor
/- Printed walks (gen.py, lexer_ann.py): part 444. -/



namespace Go.Proofs.YtcgdlhkiecommaaGreatDoor
open Go
end Go.Proofs.YtcgdlhkiecommaaGreatDoor
/- Printed walks (gen.py, lexer_ann.py): part 471. -/





namespace Go.Proofs.YtcgdlhkiecommaaGreatDoor
open Go
theorem law_reads (l : List Tk) (hl : OKTs l) (hn : l.length ≤ 20000) (p : Int) : ∃ R1 R2 : Ex × Int × Flt, ∃ R3 : Tr × Int × Flt, (ACp Tryz.prog 13 [.list 5 (l.map encK), .v (.int .i64 (p))] (encP encX R1) ∧ ACp Tryz.prog 14 [.list 5 (l.map encK), .v (.int .i64 (p))] (encP encX R1)) ∧ (ACp Tryz.prog 16 [.list 5 (l.map encK), .v (.int .i64 (p))] (encP encX R2) ∧ ACp Tryz.prog 17 [.list 5 (l.map encK), .v (.int .i64 (p))] (encP encX R2)) ∧ (ACp Tryz.prog 18 [.list 5 (l.map encK), .v (.int .i64 (p))] (encP encRr R3) ∧ ACp Tryz.prog 19 [.list 5 (l.map encK), .v (.int .i64 (p))] (encP encRr R3)) ∧ szX R1.1 = true ∧ szX R2.1 = true ∧ trS R3.1 ∧ ∀ x ∈ R3.1.elem, trS x ∧ x.elem = [] := by
  refine ⟨_, _, _, ⟨c_Parse l hl (by omega) p, m_Parse l hl hn p⟩, ⟨c_Target l hl (by omega) p, m_Target l hl hn p⟩, ⟨c_Type l hl (by omega) p, ?_⟩, ?_, ?_, ?_⟩
  · have := m_Type l hl hn p; rw [read_type] at this; exact this
  · exact readP_all (fun e => szX e = true) szX_ex0 hn (fun hp i a j h => szX_row (wr_of hp) h)
  · exact readP_all (fun e => szX e = true) szX_ex0 hn (fun hp i a j h => szX_targ (wr_of hp) h)
  · exact readP_all (fun r => trS r ∧ ∀ x ∈ r.elem, trS x ∧ x.elem = []) ⟨⟨by simp [tr0, Tr.len], by simp [tr0, Tr.elem], by simp [tr0, Tr.len]⟩, by simp [tr0, Tr.elem]⟩ hn (fun hp i a j h => typeP_sz (wr_of hp) h)
theorem l_ExprParses (l : List Tk) (p : Int) (hin : TksIn l) : ACp Tryz.prog 3 [.list 5 (l.map encK), .v (.int .i64 (p))] (.v (.bool (true))) := by
 refine acp_of rfl ?_
 have hl : OKTs l := oks_in hin
 have hn47 : l.length ≤ 140737488355328 := by have := hin.2; omega
 refine ace 111 Tryz.func3 ?_
 refine aw_sr ?_
 refine al_gs ?_
 refine al_nil ?_
 refine aw_seq ?_
 refine aw_sr ?_
 refine al_mv ?_
 refine al_callp into11 rfl rfl rfl (l_long5 l hn47 _) (by simp) ?_
 refine al_nil ?_
 refine aw_cond rfl (fun gh1 => ?_) (fun gh1 => ?_)
 ·have gq := gh1
  refine aw_sr ?_
  refine al_callp into12 rfl rfl rfl (l_awake _) (by simp) ?_
  refine al_gs ?_
  refine al_nil ?_
  refine fz1 (t := 4) ?_
  refine aw_ret ?_
  refine ⟨_, res_1 rfl rfl, ?_, rfl⟩
  rfl
 have gq := gh1
 obtain ⟨hl4, hl5⟩ := long5_facts gq
 have hn : l.length ≤ 20000 := by omega
 obtain ⟨R1, R2, R3, ⟨k1, k2⟩, ⟨k3, k4⟩, ⟨k5, k6⟩, z1, z2, z3, z4⟩ := law_reads l hl hn p
 refine aw_skip ?_
 refine aw_sr ?_
 (refine al_opR (op_list_own encK ([] : List Tk) 17 u22 info65 rfl rfl (by decide) rfl (by decide) rfl (by first | rfl | (repeat (first | exact parts_nil | refine parts_cons rfl (by repeat (first | exact all_live_nil | refine all_live_clo rfl ?_ | refine all_live_slice rfl ?_ | refine all_live_map rfl ?_ | refine all_live_ptr rfl ?_)) ?_))) rfl rfl (by first | rfl | (repeat (first | exact parts_nil | refine parts_cons rfl (by repeat (first | exact all_live_nil | refine all_live_clo rfl ?_ | refine all_live_slice rfl ?_ | refine all_live_map rfl ?_ | refine all_live_ptr rfl ?_)) ?_))) rfl rfl) rfl (by simp) ?_; rintro _ _ ⟨ver17, rfl, rfl⟩)
 refine al_mv ?_
 (refine al_opR (op_am u22 u22 info65 48) rfl (by simp) ?_; rintro _ _ ⟨ver19, rfl, rfl⟩)
 refine al_gs ?_
 refine al_nil ?_
 refine aw_seq ?_
 refine aw_freeze (fun _ => false) (fsub_cons (t := 5) rfl (.leaf _ _ (frz_whole rfl rfl (by first | rfl | (simp; done)) (clo_map (fun _ => rfl)))) (fsub_cons (t := 0) rfl (.leaf _ _ (.same _)) (fsub_cons (t := 1) rfl (.leaf _ _ (.same _)) fsub_nil))) ?_
 refine aw_as 5 (.list 5 (l.map encK)) rfl (by first | rfl | simp) ?_
 refine aw_st (σ2 := []) rfl ?_
 refine aw_region ?_
 refine al_mv ?_
 refine al_mv ?_
 refine al_callp into13 rfl rfl rfl (k1 _) (by simp) ?_
 refine al_mv ?_
 refine al_xt ?_
 refine al_xt ?_
 refine al_xt ?_
 refine al_al 6 info37 fun ver6 => ?_
 refine al_al 8 info40 fun ver8 => ?_
 refine al_sp info37 ?_
 refine al_gs ?_
 refine al_sp info40 ?_
 refine al_nil ?_
 refine aw_seq ?_
 refine aw_st (σ2 := [(6, ver6, .row 16 [cellsE R1.1]), (8, ver8, .row 4 [encF R1.2.2])]) rfl ?_
 refine aw_region ?_
 refine al_mv ?_
 refine al_mv ?_
 refine al_callp into14 rfl rfl rfl (k2 _) (by simp) ?_
 refine al_mv ?_
 refine al_xt ?_
 refine al_xt ?_
 refine al_xt ?_
 refine al_al 9 info37 fun ver9 => ?_
 refine al_al 11 info40 fun ver11 => ?_
 refine al_sp info37 ?_
 refine al_gs ?_
 refine al_sp info40 ?_
 refine al_nil ?_
 refine aw_seq ?_
 refine aw_seq ?_
 refine aw_st (σ2 := [(6, ver6, .row 16 [cellsE R1.1]), (8, ver8, .row 4 [encF R1.2.2]), (9, ver9, .row 16 [cellsE R1.1]), (11, ver11, .row 4 [encF R1.2.2])]) rfl ?_
 refine aw_region ?_
 refine al_ld u37 info37 ?_
 refine al_ld u37 info37 ?_
 refine al_callp into15 rfl rfl rfl (r_placE R1.1 R1.1 z1 z1 _) (by simp) ?_
 refine al_o (op_not rfl) ?_
 refine al_mv ?_
 apply al_or 4 38 42 rfl
 ·intro h2; have gh2 := h2
  simp only [nrm] at h2
  refine tk_mv ?_
  refine tk_mv ?_
  refine al_t (op_neq rfl rfl) ?_
  refine al_pk ?_
  exact al_nk gh2
 ·intro h2; have gh2 := h2
  simp only [nrm] at h2
  iterate 3 refine al_ps ?_
  refine al_pk ?_
  exact al_nk gh2
 refine al_mv ?_
 apply al_or 4 43 47 rfl
 ·intro h3; have gh3 := h3
  simp only [nrm] at h3
  refine tk_ld u40 info40 ?_
  refine tk_ld u40 info40 ?_
  refine al_t (op_aneq (r := decide (R1.2.2 = R1.2.2)) rfl rfl rfl rfl (by kernel_rfl) (fun w => flt_run R1.2.2 R1.2.2 w)) ?_
  refine al_pk ?_
  exact al_nk gh3
 ·intro h3; have gh3 := h3
  simp only [nrm] at h3
  iterate 3 refine al_ps ?_
  refine al_pk ?_
  exact al_nk gh3
 refine al_nil ?_
 refine aw_cond rfl (fun h4 => ?_) (fun h4 => ?_)
 ·have gh4 := h4
  simp only [nrm] at h4
  simp [placE_self] at gh4
 have gh4 := h4
 simp only [nrm] at h4
 refine aw_skip ?_
 refine aw_sr ?_
 refine al_mv ?_
 refine al_mv ?_
 refine al_callp into16 rfl rfl rfl (k3 _) (by simp) ?_
 refine al_mv ?_
 refine al_xt ?_
 refine al_xt ?_
 refine al_xt ?_
 refine al_sp info37 ?_
 refine al_gs ?_
 refine al_sp info40 ?_
 refine al_nil ?_
 refine aw_seq ?_
 refine aw_st (σ2 := [(6, ver6, .row 16 [cellsE R2.1]), (8, ver8, .row 4 [encF R2.2.2]), (9, ver9, .row 16 [cellsE R1.1]), (11, ver11, .row 4 [encF R1.2.2])]) rfl ?_
 refine aw_region ?_
 refine al_mv ?_
 refine al_mv ?_
 refine al_callp into17 rfl rfl rfl (k4 _) (by simp) ?_
 refine al_mv ?_
 refine al_xt ?_
 refine al_xt ?_
 refine al_xt ?_
 refine al_sp info37 ?_
 refine al_gs ?_
 refine al_sp info40 ?_
 refine al_nil ?_
 refine aw_seq ?_
 refine aw_seq ?_
 refine aw_st (σ2 := [(6, ver6, .row 16 [cellsE R2.1]), (8, ver8, .row 4 [encF R2.2.2]), (9, ver9, .row 16 [cellsE R2.1]), (11, ver11, .row 4 [encF R2.2.2])]) rfl ?_
 refine aw_region ?_
 refine al_ld u37 info37 ?_
 refine al_ld u37 info37 ?_
 refine al_callp into15 rfl rfl rfl (r_placE R2.1 R2.1 z2 z2 _) (by simp) ?_
 refine al_o (op_not rfl) ?_
 refine al_mv ?_
 apply al_or 4 66 70 rfl
 ·intro h5; have gh5 := h5
  simp only [nrm] at h5
  refine tk_mv ?_
  refine tk_mv ?_
  refine al_t (op_neq rfl rfl) ?_
  refine al_pk ?_
  exact al_nk gh5
 ·intro h5; have gh5 := h5
  simp only [nrm] at h5
  iterate 3 refine al_ps ?_
  refine al_pk ?_
  exact al_nk gh5
 refine al_mv ?_
 apply al_or 4 71 75 rfl
 ·intro h6; have gh6 := h6
  simp only [nrm] at h6
  refine tk_ld u40 info40 ?_
  refine tk_ld u40 info40 ?_
  refine al_t (op_aneq (r := decide (R2.2.2 = R2.2.2)) rfl rfl rfl rfl (by kernel_rfl) (fun w => flt_run R2.2.2 R2.2.2 w)) ?_
  refine al_pk ?_
  exact al_nk gh6
 ·intro h6; have gh6 := h6
  simp only [nrm] at h6
  iterate 3 refine al_ps ?_
  refine al_pk ?_
  exact al_nk gh6
 refine al_nil ?_
 refine aw_cond rfl (fun h7 => ?_) (fun h7 => ?_)
 ·have gh7 := h7
  simp only [nrm] at h7
  simp [placE_self] at gh7
 have gh7 := h7
 simp only [nrm] at h7
 refine aw_skip ?_
 refine aw_sr ?_
 refine al_mv ?_
 refine al_mv ?_
 refine al_callp into18 rfl rfl rfl (k5 _) (by simp) ?_
 refine al_mv ?_
 refine al_xt ?_
 refine al_xt ?_
 refine al_xt ?_
 refine al_al 12 info46 fun ver12 => ?_
 refine al_sp info46 ?_
 refine al_gs ?_
 refine al_sp info40 ?_
 refine al_nil ?_
 refine aw_seq ?_
 refine aw_st (σ2 := [(6, ver6, .row 16 [cellsE R2.1]), (8, ver8, .row 4 [encF R3.2.2]), (9, ver9, .row 16 [cellsE R2.1]), (11, ver11, .row 4 [encF R2.2.2]), (12, ver12, .row 5 [cellsR R3.1])]) rfl ?_
 refine aw_region ?_
 refine al_mv ?_
 refine al_mv ?_
 refine al_callp into19 rfl rfl rfl (k6 _) (by simp) ?_
 refine al_mv ?_
 refine al_xt ?_
 refine al_xt ?_
 refine al_xt ?_
 refine al_al 13 info46 fun ver13 => ?_
 refine al_sp info46 ?_
 refine al_gs ?_
 refine al_sp info40 ?_
 refine al_nil ?_
 refine aw_seq ?_
 refine aw_st (σ2 := [(6, ver6, .row 16 [cellsE R2.1]), (8, ver8, .row 4 [encF R3.2.2]), (9, ver9, .row 16 [cellsE R2.1]), (11, ver11, .row 4 [encF R3.2.2]), (12, ver12, .row 5 [cellsR R3.1]), (13, ver13, .row 5 [cellsR R3.1])]) rfl ?_
 refine aw_region ?_
 refine al_ld u46 info46 ?_
 refine al_ld u46 info46 ?_
 refine al_callp into20 rfl rfl rfl (q_sameTT R3.1 ⟨z3, z4⟩ _) (by simp) ?_
 refine al_mv ?_
 apply al_and 4 93 97 rfl
 ·intro h8; have gh8 := h8
  simp only [nrm] at h8
  refine tk_mv ?_
  refine tk_mv ?_
  refine tk_eq ?_
  refine al_pk ?_
  exact al_nk gh8
 ·intro h8; have gh8 := h8
  iterate 3 refine al_ps ?_
  refine al_pk ?_
  exact al_nk gh8
 refine al_mv ?_
 apply al_and 4 98 102 rfl
 ·intro h9; have gh9 := h9
  simp only [nrm] at h9
  refine tk_ld u40 info40 ?_
  refine tk_ld u40 info40 ?_
  refine al_t (op_aeq (r := decide (R3.2.2 = R3.2.2)) rfl rfl rfl rfl (by kernel_rfl) (fun w => flt_run R3.2.2 R3.2.2 w)) ?_
  refine al_pk ?_
  exact al_nk gh9
 ·intro h9; have gh9 := h9
  iterate 3 refine al_ps ?_
  refine al_pk ?_
  exact al_nk gh9
 refine al_mv ?_
 apply al_and 4 103 107 rfl
 ·intro h10; have gh10 := h10
  simp only [nrm] at h10
  refine tk_mv ?_
  refine tk_mv ?_
  refine al_callp_take into21 rfl rfl rfl rfl rfl rfl (m_sameLT l (by omega) _) (by simp) ?_
  refine al_pk ?_
  exact al_nk gh10
 ·intro h10; have gh10 := h10
  simp only [nrm] at h10
  iterate 3 refine al_ps ?_
  refine al_pk ?_
  exact al_nk gh10
 refine al_mv ?_
 apply al_and 2 108 110 rfl
 ·intro h11; have gh11 := h11
  simp only [nrm] at h11
  refine al_callp_take into12 rfl rfl rfl rfl rfl rfl (l_awake _) (by simp) ?_
  refine al_pk ?_
  exact al_nk gh11
 ·intro h11; have gh11 := h11
  simp only [nrm] at h11
  refine al_ps ?_
  refine al_pk ?_
  exact al_nk gh11
 refine al_gs ?_
 refine al_nil ?_
 refine fz1 (t := 4) ?_
 refine aw_ret ?_
 refine ⟨_, res_1 rfl rfl, ?_, rfl⟩
 simp
end Go.Proofs.YtcgdlhkiecommaaGreatDoor
