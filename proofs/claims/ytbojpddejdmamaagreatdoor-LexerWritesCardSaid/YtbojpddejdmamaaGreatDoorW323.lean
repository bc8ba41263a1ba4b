/- Printed walks (gen.py, lexer_ann.py): part 323. -/
import Derived.Test.YtbojpddejdmamaaGreatDoorW320
import Derived.Test.YtbojpddejdmamaaGreatDoorFacts
set_option linter.unusedVariables false
set_option linter.unusedSimpArgs false
set_option maxRecDepth 20000
set_option maxHeartbeats 40000000
namespace Go.Proofs.YtbojpddejdmamaaGreatDoor
open Go

theorem law_LexerWrites (l : List Tk) (hin : TksIn l) : ACp Tryz.prog 5 [.list 5 (l.map encK)] (.v (.bool (true))) := by
 refine acp_of rfl ?_
 refine ac_enter 39 Tryz.func5 rfl rfl (by simp) ?_
 refine aw_seq ?_
 refine aw_region ?_
 refine al_op (op_assign rfl) rfl (by simp) ?_
 refine al_nil ?_
 refine aw_seq ?_
 refine aw_seq ?_
 refine aw_region ?_
 refine al_op (op_move rfl) rfl (by simp) ?_
 refine al_callp into6 rfl rfl rfl (acp_lent (lend_cons lend_same (lend_cons (by first | exact lend_same | exact .leaf _ _ (.vnil _) | exact lend_whole rfl (by first | rfl | (simp; done)) (clo_map (fun _ => rfl))) lend_nil)) (l_long [] l (by decide)) rfl) (by simp) ?_
 refine al_nil ?_
 refine aw_cond rfl (fun h1 => ?_) (fun h1 => ?_)
 ·have gh1 := h1
  try simp only [nrm] at h1
  refine aw_seq ?_
  refine aw_region ?_
  first
    | refine al_callp into7 rfl rfl rfl ((l_awake ) _) (by simp) ?_
    | refine al_callp into7 rfl rfl rfl (acp_lent lend_nil (l_awake ) rfl) (by simp) ?_
  refine al_op (op_assign rfl) rfl (by simp) ?_
  refine al_nil ?_
  refine aw_freeze (fun _ => false) (fsub_cons (t := 2) rfl (.leaf _ _ (.same _)) fsub_nil) ?_
  refine aw_ret ?_
  refine ⟨_, res_1 rfl rfl, ?_, rfl⟩
  rfl
 ·have gh1 := h1
  try simp only [nrm] at h1
  refine aw_skip ?_
  refine aw_seq ?_
  obtain ⟨_, hn2, hl2⟩ := long_facts gh1
  have hl : OKTs l := oks_of hin hl2
  have hn3 : l.length ≤ 1000000000 := by omega
  refine aw_region ?_
  refine al_op (op_move rfl) rfl (by simp) ?_
  first
    | refine al_callp into11 rfl rfl rfl ((l_copied _ (by first | assumption | omega | (simp; done) | (simp; omega) | decide)) _) (by simp) ?_
    | refine al_callp into11 rfl rfl rfl (ac_told (re_cons (by first | exact .leaf _ _ (.same _) | exact .leaf _ _ (.vnil _) | exact .leaf _ _ (.nil _)) re_nil) ((l_copied _ (by first | assumption | omega | (simp; done) | (simp; omega) | decide)) _)) (by simp) ?_
  refine al_op (op_assign rfl) rfl (by simp) ?_
  refine al_nil ?_
  refine aw_seq ?_
  refine aw_region ?_
  refine al_op (op_move rfl) rfl (by simp) ?_
  first
    | refine al_callp into12 rfl rfl rfl ((c_Text _ (by assumption) (by first | assumption | omega | (simp; done) | (simp; omega) | decide)) _) (by simp) ?_
    | refine al_callp into12 rfl rfl rfl (acp_lent (lend_cons (by first | exact lend_same | exact .leaf _ _ (.vnil _) | exact .leaf _ _ (.nil _) | exact lend_whole rfl (by first | rfl | (simp; done) | (simp; omega)) (clo_map (fun _ => rfl))) lend_nil) (c_Text _ (by assumption) (by first | assumption | omega | (simp; done) | (simp; omega) | decide)) rfl) (by simp) ?_
  refine al_op (op_move rfl) rfl (by simp) ?_
  refine al_op (op_extract rfl rfl rfl) rfl (by simp) ?_
  refine al_op (op_extract rfl rfl rfl) rfl (by simp) ?_
  refine al_op (op_assign rfl) rfl (by simp) ?_
  refine al_op (op_assign rfl) rfl (by simp) ?_
  refine al_nil ?_
  refine aw_seq ?_
  refine aw_region ?_
  refine al_op (op_move rfl) rfl (by simp) ?_
  first
    | refine al_callp into13 rfl rfl rfl ((r_Text _ (by assumption) (by first | assumption | omega | (simp; done) | (simp; omega) | decide)) _) (by simp) ?_
    | refine al_callp into13 rfl rfl rfl (acp_lent (lend_cons (by first | exact lend_same | exact .leaf _ _ (.vnil _) | exact .leaf _ _ (.nil _) | exact lend_whole rfl (by first | rfl | (simp; done) | (simp; omega)) (clo_map (fun _ => rfl))) lend_nil) (r_Text _ (by assumption) (by first | assumption | omega | (simp; done) | (simp; omega) | decide)) rfl) (by simp) ?_
  refine al_op (op_move rfl) rfl (by simp) ?_
  refine al_op (op_extract rfl rfl rfl) rfl (by simp) ?_
  refine al_op (op_extract rfl rfl rfl) rfl (by simp) ?_
  refine al_op (op_assign rfl) rfl (by simp) ?_
  refine al_op (op_assign rfl) rfl (by simp) ?_
  refine al_nil ?_
  refine aw_seq ?_
  refine aw_region ?_
  refine al_op (op_move rfl) rfl (by simp) ?_
  refine al_op (op_move rfl) rfl (by simp) ?_
  refine al_op (op_seql_str rfl rfl) rfl (by simp) ?_
  refine al_op (op_move rfl) rfl (by simp) ?_
  refine al_as 26 (.v (.bool true)) rfl (by rw [beq_self_eq_true]) ?_
  refine al_take (op_move rfl) rfl rfl rfl rfl (by simp) ?_
  refine al_take (op_move rfl) rfl rfl rfl rfl (by simp) ?_
  refine al_take (op_eql rfl rfl) rfl rfl rfl rfl (by simp) ?_
  first
    | refine al_op (op_pick rfl rfl) rfl (by simp) ?_
    | refine al_op (op_and rfl rfl rfl) rfl (by simp) ?_
  refine al_op (op_move rfl) rfl (by simp) ?_
  refine al_as 31 (.v (.bool true)) rfl (by rw [beq_self_eq_true]) ?_
  refine al_take (op_move rfl) rfl rfl rfl rfl (by simp) ?_
  refine al_take (op_move rfl) rfl rfl rfl rfl (by simp) ?_
  first
    | refine al_callp_take into10 rfl rfl rfl rfl rfl rfl ((r_same _ (by first | assumption | omega | (simp; done) | (simp; omega) | decide)) _) (by simp) ?_
    | refine al_callp_take into10 rfl rfl rfl rfl rfl rfl (acp_lent (lend_cons (by first | exact lend_same | exact .leaf _ _ (.vnil _) | exact .leaf _ _ (.nil _) | exact lend_whole rfl (by first | rfl | (simp; done) | (simp; omega)) (clo_map (fun _ => rfl))) (lend_cons (by first | exact lend_same | exact .leaf _ _ (.vnil _) | exact .leaf _ _ (.nil _) | exact lend_whole rfl (by first | rfl | (simp; done) | (simp; omega)) (clo_map (fun _ => rfl))) lend_nil)) (r_same _ (by first | assumption | omega | (simp; done) | (simp; omega) | decide)) rfl) (by simp) ?_
  first
    | refine al_op (op_pick rfl rfl) rfl (by simp) ?_
    | refine al_op (op_and rfl rfl rfl) rfl (by simp) ?_
  refine al_op (op_move rfl) rfl (by simp) ?_
  refine al_as 36 (.v (.bool true)) rfl (by rfl) ?_
  first
    | refine al_callp_take into7 rfl rfl rfl rfl rfl rfl ((l_awake ) _) (by simp) ?_
    | refine al_callp_take into7 rfl rfl rfl rfl rfl rfl (acp_lent lend_nil (l_awake ) rfl) (by simp) ?_
  first
    | refine al_op (op_pick rfl rfl) rfl (by simp) ?_
    | refine al_op (op_and rfl rfl rfl) rfl (by simp) ?_
  refine al_op (op_assign rfl) rfl (by simp) ?_
  refine al_nil ?_
  refine aw_freeze (fun _ => false) (fsub_cons (t := 2) rfl (.leaf _ _ (.same _)) fsub_nil) ?_
  refine aw_ret ?_
  refine ⟨_, res_1 rfl rfl, ?_, rfl⟩
  rfl
end Go.Proofs.YtbojpddejdmamaaGreatDoor
