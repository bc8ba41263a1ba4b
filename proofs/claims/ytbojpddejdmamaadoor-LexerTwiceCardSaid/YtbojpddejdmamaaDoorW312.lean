/- Printed walks (gen.py, lexer_ann.py): part 312. -/
import Derived.Test.YtbojpddejdmamaaDoorW310
import Derived.Test.YtbojpddejdmamaaDoorLLaw
import Derived.Test.YtbojpddejdmamaaDoorLFlt
import Derived.Test.YtbojpddejdmamaaDoorFacts
set_option linter.unusedVariables false
set_option linter.unusedSimpArgs false
set_option maxRecDepth 20000
set_option maxHeartbeats 40000000
namespace Go.Proofs.YtbojpddejdmamaaDoor
open Go

theorem law_LexerTwice (s : Bs) (hs : s.length ≤ 4611686018427387904) : ACp Tryd.prog 5 [.v (.string (str (s)))] (.v (.bool (true))) := by
 refine acp_of rfl ?_
 refine ac_enter 88 Tryd.func5 rfl rfl (by simp) ?_
 refine aw_seq ?_
 refine aw_region ?_
 refine al_op (op_assign rfl) rfl (by simp) ?_
 refine al_nil ?_
 refine aw_seq ?_
 refine aw_seq ?_
 refine aw_region ?_
 refine al_op (op_move rfl) rfl (by simp) ?_
 refine al_callp into9 rfl rfl rfl (acp_lent (lend_cons lend_same (lend_cons (by first | exact lend_same | exact .leaf _ _ (.vnil _) | exact lend_whole rfl (by first | rfl | (simp; done)) (clo_map (fun _ => rfl))) lend_nil)) (l_long s [] (by omega)) rfl) (by simp) ?_
 refine al_nil ?_
 refine aw_cond rfl (fun h1 => ?_) (fun h1 => ?_)
 ·have gh1 := h1
  try simp only [nrm] at h1
  refine aw_seq ?_
  refine aw_region ?_
  first
    | refine al_callp into10 rfl rfl rfl ((l_awake ) _) (by simp) ?_
    | refine al_callp into10 rfl rfl rfl (acp_lent lend_nil (l_awake ) rfl) (by simp) ?_
  refine al_op (op_assign rfl) rfl (by simp) ?_
  refine al_nil ?_
  refine aw_freeze (fun _ => false) (fsub_cons (t := 2) rfl (.leaf _ _ (.same _)) fsub_nil) ?_
  refine aw_ret ?_
  refine ⟨_, res_1 rfl rfl, ?_, rfl⟩
  rfl
 ·have gh1 := h1
  try simp only [nrm] at h1
  refine aw_skip ?_
  refine aw_seq ?_
  obtain ⟨hs2, _, _⟩ := long_facts gh1
  refine aw_region ?_
  refine al_op (op_move rfl) rfl (by simp) ?_
  first
    | refine al_callp into18 rfl rfl rfl ((c_Lex _ (by first | assumption | omega | (simp; done) | (simp; omega) | decide)) _) (by simp) ?_
    | refine al_callp into18 rfl rfl rfl (ac_told (re_cons (by first | exact .leaf _ _ (.same _) | exact .leaf _ _ (.vnil _) | exact .leaf _ _ (.nil _)) re_nil) ((c_Lex _ (by first | assumption | omega | (simp; done) | (simp; omega) | decide)) _)) (by simp) ?_
  refine al_op (op_move rfl) rfl (by simp) ?_
  refine al_op (op_extract rfl rfl rfl) rfl (by simp) ?_
  refine al_op (op_extract rfl rfl rfl) rfl (by simp) ?_
  (refine al_opR (op_alloc 4 info35 rfl rfl) rfl (by simp) ?_; rintro _ _ ⟨ver4, rfl, rfl⟩)
  refine al_op (op_assign rfl) rfl (by simp) ?_
  first
    | refine al_op (op_store_ptr info35 rfl rfl rfl rfl rfl rfl (by first | rfl | exact live_one rfl | (repeat (first | exact all_live_nil | refine all_live_clo rfl ?_ | refine all_live_slice rfl ?_ | refine all_live_map rfl ?_ | refine all_live_ptr rfl ?_))) (by decide)) rfl (by simp) ?_
    | refine al_op (op_store_ptr info35 rfl rfl rfl rfl rfl rfl (by first | rfl | exact live_one rfl | (repeat (first | exact all_live_nil | refine all_live_clo rfl ?_ | refine all_live_slice rfl ?_ | refine all_live_map rfl ?_ | refine all_live_ptr rfl ?_))) (Nat.le_of_ble_eq_true rfl)) rfl (by simp) ?_
  refine al_nil ?_
  refine aw_seq ?_
  refine aw_seq ?_
  refine aw_region ?_
  first
    | refine al_op (op_field_rptr Tryd.underlying35 rfl info30 (by decide) rfl rfl) rfl (by simp) ?_
    | refine al_op (op_field_ptr Tryd.underlying35 rfl info30 (by decide) rfl rfl rfl) rfl (by simp) ?_
  first
    | refine al_op (op_load_rptr Tryd.underlying30 info30 rfl rfl) rfl (by simp) ?_
    | refine al_op (op_load_map Tryd.underlying30 info30 rfl rfl (by omega) rfl) rfl (by simp) ?_
    | refine al_op (op_load_ptr Tryd.underlying30 info30 rfl rfl rfl rfl) rfl (by simp) ?_
  refine al_op (op_neq rfl rfl) rfl (by simp) ?_
  refine al_nil ?_
  refine aw_cond rfl (fun h2 => ?_) (fun h2 => ?_)
  ·have gh2 := h2
   try simp only [nrm] at h2
   refine aw_seq ?_
   obtain ⟨jf, hf1, hf2, hf3⟩ := twice_bad hs2 gh2
   refine aw_region ?_
   refine al_op (op_move rfl) rfl (by simp) ?_
   first
     | refine al_op (op_len_map Tryd.underlying25 rfl) rfl (by simp) ?_
     | refine al_op (op_len_slice Tryd.underlying25 rfl rfl) rfl (by simp) ?_
     | refine al_op (op_len_list Tryd.underlying25 rfl) rfl (by simp) ?_
     | refine al_op (op_len_v Tryd.underlying25 rfl) rfl (by simp) ?_
     | refine al_op (op_len_nil Tryd.underlying25 rfl) rfl (by simp) ?_
   refine al_op (op_eql rfl rfl) rfl (by simp) ?_
   refine al_op (op_move rfl) rfl (by simp) ?_
   refine al_as 25 (.v (.bool true)) rfl (by rw [hf1]; rfl) ?_
   first
     | refine al_take (op_field_rptr Tryd.underlying35 rfl info30 (by decide) rfl rfl) rfl rfl rfl rfl (by simp) ?_
     | refine al_take (op_field_ptr Tryd.underlying35 rfl info30 (by decide) rfl rfl rfl) rfl rfl rfl rfl (by simp) ?_
   first
     | refine al_take (op_load_rptr Tryd.underlying30 info30 rfl rfl) rfl rfl rfl rfl (by simp) ?_
     | refine al_take (op_load_map Tryd.underlying30 info30 rfl rfl (by omega) rfl) rfl rfl rfl rfl (by simp) ?_
     | refine al_take (op_load_ptr Tryd.underlying30 info30 rfl rfl rfl rfl) rfl rfl rfl rfl (by simp) ?_
   refine al_take (op_eql rfl rfl) rfl rfl rfl rfl (by simp) ?_
   first
     | refine al_op (op_pick rfl rfl) rfl (by simp) ?_
     | refine al_op (op_and rfl rfl rfl) rfl (by simp) ?_
   refine al_op (op_move rfl) rfl (by simp) ?_
   refine al_as 30 (.v (.bool true)) rfl (by rw [hf2]; rfl) ?_
   first
     | refine al_take (op_field_rptr Tryd.underlying35 rfl info9 (by decide) rfl rfl) rfl rfl rfl rfl (by simp) ?_
     | refine al_take (op_field_ptr Tryd.underlying35 rfl info9 (by decide) rfl rfl rfl) rfl rfl rfl rfl (by simp) ?_
   first
     | refine al_take (op_load_rptr Tryd.underlying9 info9 rfl rfl) rfl rfl rfl rfl (by simp) ?_
     | refine al_take (op_load_map Tryd.underlying9 info9 rfl rfl (by omega) rfl) rfl rfl rfl rfl (by simp) ?_
     | refine al_take (op_load_ptr Tryd.underlying9 info9 rfl rfl rfl rfl) rfl rfl rfl rfl (by simp) ?_
   refine al_take (op_slen_str (ts := #[]) Tryd.underlying9 rfl) rfl rfl rfl rfl (by simp) ?_
   refine al_take (op_eql rfl rfl) rfl rfl rfl rfl (by simp) ?_
   first
     | refine al_op (op_pick rfl rfl) rfl (by simp) ?_
     | refine al_op (op_and rfl rfl rfl) rfl (by simp) ?_
   refine al_op (op_move rfl) rfl (by simp) ?_
   refine al_as 36 (.v (.bool true)) rfl (by rw [hf2, bad_name hf3]) ?_
   first
     | refine al_take (op_field_rptr Tryd.underlying35 rfl info3 (by decide) rfl rfl) rfl rfl rfl rfl (by simp) ?_
     | refine al_take (op_field_ptr Tryd.underlying35 rfl info3 (by decide) rfl rfl rfl) rfl rfl rfl rfl (by simp) ?_
   first
     | refine al_take (op_load_rptr Tryd.underlying3 info3 rfl rfl) rfl rfl rfl rfl (by simp) ?_
     | refine al_take (op_load_map Tryd.underlying3 info3 rfl rfl (by omega) rfl) rfl rfl rfl rfl (by simp) ?_
     | refine al_take (op_load_ptr Tryd.underlying3 info3 rfl rfl rfl rfl) rfl rfl rfl rfl (by simp) ?_
   refine al_take (op_geq rfl rfl) rfl rfl rfl rfl (by simp) ?_
   first
     | refine al_op (op_pick rfl rfl) rfl (by simp) ?_
     | refine al_op (op_and rfl rfl rfl) rfl (by simp) ?_
   refine al_op (op_move rfl) rfl (by simp) ?_
   refine al_as 41 (.v (.bool true)) rfl (by rw [hf2, bad_line]) ?_
   first
     | refine al_take (op_field_rptr Tryd.underlying35 rfl info3 (by decide) rfl rfl) rfl rfl rfl rfl (by simp) ?_
     | refine al_take (op_field_ptr Tryd.underlying35 rfl info3 (by decide) rfl rfl rfl) rfl rfl rfl rfl (by simp) ?_
   first
     | refine al_take (op_load_rptr Tryd.underlying3 info3 rfl rfl) rfl rfl rfl rfl (by simp) ?_
     | refine al_take (op_load_map Tryd.underlying3 info3 rfl rfl (by omega) rfl) rfl rfl rfl rfl (by simp) ?_
     | refine al_take (op_load_ptr Tryd.underlying3 info3 rfl rfl rfl rfl) rfl rfl rfl rfl (by simp) ?_
   refine al_take (op_geq rfl rfl) rfl rfl rfl rfl (by simp) ?_
   first
     | refine al_op (op_pick rfl rfl) rfl (by simp) ?_
     | refine al_op (op_and rfl rfl rfl) rfl (by simp) ?_
   refine al_op (op_move rfl) rfl (by simp) ?_
   refine al_as 46 (.v (.bool true)) rfl (by rw [hf2, bad_col]) ?_
   first
     | refine al_callp_take into10 rfl rfl rfl rfl rfl rfl ((l_awake ) _) (by simp) ?_
     | refine al_callp_take into10 rfl rfl rfl rfl rfl rfl (acp_lent lend_nil (l_awake ) rfl) (by simp) ?_
   first
     | refine al_op (op_pick rfl rfl) rfl (by simp) ?_
     | refine al_op (op_and rfl rfl rfl) rfl (by simp) ?_
   refine al_op (op_assign rfl) rfl (by simp) ?_
   refine al_nil ?_
   refine aw_freeze (fun _ => false) (fsub_cons (t := 2) rfl (.leaf _ _ (.same _)) fsub_nil) ?_
   refine aw_ret ?_
   refine ⟨_, res_1 rfl rfl, ?_, rfl⟩
   rfl
  ·have gh2 := h2
   try simp only [nrm] at h2
   refine aw_skip ?_
   refine aw_seq ?_
   obtain ⟨hl, hn3, hbk⟩ := twice_ok hs2 gh2
   have hn4 : (lexP s).1.length ≤ 1000000000 := by omega
   have hjl := hbk.len
   have hjc := hbk.count
   have hl2 := alike_oks hbk.same hl
   refine aw_region ?_
   refine al_op (op_move rfl) rfl (by simp) ?_
   first
     | refine al_callp into16 rfl rfl rfl ((c_Text _ (by assumption) (by first | assumption | omega | (simp; done) | (simp; omega) | decide)) _) (by simp) ?_
     | refine al_callp into16 rfl rfl rfl (acp_lent (lend_cons (by first | exact lend_same | exact .leaf _ _ (.vnil _) | exact .leaf _ _ (.nil _) | exact lend_whole rfl (by first | rfl | (simp; done) | (simp; omega)) (clo_map (fun _ => rfl))) lend_nil) (c_Text _ (by assumption) (by first | assumption | omega | (simp; done) | (simp; omega) | decide)) rfl) (by simp) ?_
   refine al_as 51 (.tuple [.v (.string (str (joinT (lexP s).1))), .v (.int .i64 (0))]) rfl (by rw [hbk.text]) ?_
   refine al_op (op_move rfl) rfl (by simp) ?_
   refine al_op (op_extract rfl rfl rfl) rfl (by simp) ?_
   refine al_op (op_extract rfl rfl rfl) rfl (by simp) ?_
   refine al_op (op_assign rfl) rfl (by simp) ?_
   refine al_op (op_assign rfl) rfl (by simp) ?_
   refine al_nil ?_
   refine aw_seq ?_
   refine aw_region ?_
   refine al_op (op_move rfl) rfl (by simp) ?_
   first
     | refine al_callp into18 rfl rfl rfl ((c_Lex _ (by first | assumption | omega | (simp; done) | (simp; omega) | decide)) _) (by simp) ?_
     | refine al_callp into18 rfl rfl rfl (ac_told (re_cons (by first | exact .leaf _ _ (.same _) | exact .leaf _ _ (.vnil _) | exact .leaf _ _ (.nil _)) re_nil) ((c_Lex _ (by first | assumption | omega | (simp; done) | (simp; omega) | decide)) _)) (by simp) ?_
   refine al_as 56 (.tuple [.list 5 (((lexP (joinT (lexP s).1)).1).map encK), .agg (encF okF)]) rfl (by rw [hbk.fault]) ?_
   refine al_op (op_move rfl) rfl (by simp) ?_
   refine al_op (op_extract rfl rfl rfl) rfl (by simp) ?_
   refine al_op (op_extract rfl rfl rfl) rfl (by simp) ?_
   (refine al_opR (op_alloc 8 info35 rfl rfl) rfl (by simp) ?_; rintro _ _ ⟨ver8, rfl, rfl⟩)
   refine al_op (op_assign rfl) rfl (by simp) ?_
   first
     | refine al_op (op_store_ptr info35 rfl rfl rfl rfl rfl rfl (by first | rfl | exact live_one rfl | (repeat (first | exact all_live_nil | refine all_live_clo rfl ?_ | refine all_live_slice rfl ?_ | refine all_live_map rfl ?_ | refine all_live_ptr rfl ?_))) (by decide)) rfl (by simp) ?_
     | refine al_op (op_store_ptr info35 rfl rfl rfl rfl rfl rfl (by first | rfl | exact live_one rfl | (repeat (first | exact all_live_nil | refine all_live_clo rfl ?_ | refine all_live_slice rfl ?_ | refine all_live_map rfl ?_ | refine all_live_ptr rfl ?_))) (Nat.le_of_ble_eq_true rfl)) rfl (by simp) ?_
   refine al_nil ?_
   refine aw_seq ?_
   refine aw_region ?_
   refine al_op (op_move rfl) rfl (by simp) ?_
   first
     | refine al_callp into16 rfl rfl rfl ((c_Text _ (by assumption) (by first | assumption | omega | (simp; done) | (simp; omega) | decide)) _) (by simp) ?_
     | refine al_callp into16 rfl rfl rfl (acp_lent (lend_cons (by first | exact lend_same | exact .leaf _ _ (.vnil _) | exact .leaf _ _ (.nil _) | exact lend_whole rfl (by first | rfl | (simp; done) | (simp; omega)) (clo_map (fun _ => rfl))) lend_nil) (c_Text _ (by assumption) (by first | assumption | omega | (simp; done) | (simp; omega) | decide)) rfl) (by simp) ?_
   refine al_as 61 (.tuple [.v (.string (str (joinT (lexP s).1))), .v (.int .i64 (0))]) rfl (by rw [hbk.again]) ?_
   refine al_op (op_move rfl) rfl (by simp) ?_
   refine al_op (op_extract rfl rfl rfl) rfl (by simp) ?_
   refine al_op (op_extract rfl rfl rfl) rfl (by simp) ?_
   refine al_op (op_assign rfl) rfl (by simp) ?_
   refine al_op (op_assign rfl) rfl (by simp) ?_
   refine al_nil ?_
   refine aw_seq ?_
   refine aw_region ?_
   refine al_op (op_move rfl) rfl (by simp) ?_
   refine al_op (op_eql rfl rfl) rfl (by simp) ?_
   refine al_op (op_move rfl) rfl (by simp) ?_
   refine al_as 66 (.v (.bool true)) rfl (by rfl) ?_
   first
     | refine al_take (op_load_rptr Tryd.underlying35 info35 rfl rfl) rfl rfl rfl rfl (by simp) ?_
     | refine al_take (op_load_map Tryd.underlying35 info35 rfl rfl (by omega) rfl) rfl rfl rfl rfl (by simp) ?_
     | refine al_take (op_load_ptr Tryd.underlying35 info35 rfl rfl rfl rfl) rfl rfl rfl rfl (by simp) ?_
   refine al_take (op_build_struct Tryd.underlying35 info35 rfl place35 rfl (by first | rfl | (repeat (first | exact parts_nil | refine parts_cons rfl (by repeat (first | exact all_live_nil | refine all_live_clo rfl ?_ | refine all_live_slice rfl ?_ | refine all_live_map rfl ?_ | refine all_live_ptr rfl ?_)) ?_))) rfl) rfl rfl rfl rfl (by simp) ?_
   refine al_take (op_aeq (r := true) rfl rfl rfl rfl (by kernel_rfl) (fun w => by kernel_rfl)) rfl rfl rfl rfl (by simp) ?_
   first
     | refine al_op (op_pick rfl rfl) rfl (by simp) ?_
     | refine al_op (op_and rfl rfl rfl) rfl (by simp) ?_
   refine al_op (op_move rfl) rfl (by simp) ?_
   refine al_as 71 (.v (.bool true)) rfl (by rfl) ?_
   refine al_take (op_move rfl) rfl rfl rfl rfl (by simp) ?_
   refine al_take (op_eql rfl rfl) rfl rfl rfl rfl (by simp) ?_
   first
     | refine al_op (op_pick rfl rfl) rfl (by simp) ?_
     | refine al_op (op_and rfl rfl rfl) rfl (by simp) ?_
   refine al_op (op_move rfl) rfl (by simp) ?_
   refine al_as 75 (.v (.bool true)) rfl (by rfl) ?_
   refine al_take (op_move rfl) rfl rfl rfl rfl (by simp) ?_
   refine al_take (op_move rfl) rfl rfl rfl rfl (by simp) ?_
   first
     | refine al_callp_take into19 rfl rfl rfl rfl rfl rfl ((r_alike _ _ (by first | assumption | omega | (simp; done) | (simp; omega) | decide)) _) (by simp) ?_
     | refine al_callp_take into19 rfl rfl rfl rfl rfl rfl (acp_lent (lend_cons (by first | exact lend_same | exact .leaf _ _ (.vnil _) | exact .leaf _ _ (.nil _) | exact lend_whole rfl (by first | rfl | (simp; done) | (simp; omega)) (clo_map (fun _ => rfl))) (lend_cons (by first | exact lend_same | exact .leaf _ _ (.vnil _) | exact .leaf _ _ (.nil _) | exact lend_whole rfl (by first | rfl | (simp; done) | (simp; omega)) (clo_map (fun _ => rfl))) lend_nil)) (r_alike _ _ (by first | assumption | omega | (simp; done) | (simp; omega) | decide)) rfl) (by simp) ?_
   first
     | refine al_op (op_pick rfl rfl) rfl (by simp) ?_
     | refine al_op (op_and rfl rfl rfl) rfl (by simp) ?_
   refine al_op (op_move rfl) rfl (by simp) ?_
   refine al_as 80 (.v (.bool true)) rfl (by rw [hbk.same]) ?_
   refine al_take (op_move rfl) rfl rfl rfl rfl (by simp) ?_
   refine al_take (op_move rfl) rfl rfl rfl rfl (by simp) ?_
   refine al_take (op_seql_str rfl rfl) rfl rfl rfl rfl (by simp) ?_
   first
     | refine al_op (op_pick rfl rfl) rfl (by simp) ?_
     | refine al_op (op_and rfl rfl rfl) rfl (by simp) ?_
   refine al_op (op_move rfl) rfl (by simp) ?_
   refine al_as 85 (.v (.bool true)) rfl (by rw [beq_self_eq_true]) ?_
   first
     | refine al_callp_take into10 rfl rfl rfl rfl rfl rfl ((l_awake ) _) (by simp) ?_
     | refine al_callp_take into10 rfl rfl rfl rfl rfl rfl (acp_lent lend_nil (l_awake ) rfl) (by simp) ?_
   first
     | refine al_op (op_pick rfl rfl) rfl (by simp) ?_
     | refine al_op (op_and rfl rfl rfl) rfl (by simp) ?_
   refine al_op (op_assign rfl) rfl (by simp) ?_
   refine al_nil ?_
   refine aw_freeze (fun _ => false) (fsub_cons (t := 2) rfl (.leaf _ _ (.same _)) fsub_nil) ?_
   refine aw_ret ?_
   refine ⟨_, res_1 rfl rfl, ?_, rfl⟩
   rfl
end Go.Proofs.YtbojpddejdmamaaDoor
