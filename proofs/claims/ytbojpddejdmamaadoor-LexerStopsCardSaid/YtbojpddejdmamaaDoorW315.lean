/- Printed walks (gen.py, lexer_ann.py): part 315. -/
import Derived.Test.YtbojpddejdmamaaDoorW310
import Derived.Test.YtbojpddejdmamaaDoorLLaw
import Derived.Test.YtbojpddejdmamaaDoorLFlt
import Derived.Test.YtbojpddejdmamaaDoorFacts
set_option linter.unusedVariables false
set_option linter.unusedSimpArgs false
set_option maxRecDepth 20000
set_option maxHeartbeats 40000000
namespace Go.Proofs.YtbojpddejdmamaaDoor
open Go

theorem law_LexerStops (s : Bs) (hs : s.length ≤ 140737488355328) (more : Bs) (hm : more.length ≤ 140737488355328) : ACp Tryd.prog 8 [.v (.string (str (s))), .v (.string (str (more)))] (.v (.bool (true))) := by
 refine acp_of rfl ?_
 have hsm : (s ++ more).length ≤ 4611686018427387904 := by rw [List.length_append]; omega
 refine ac_enter 92 Tryd.func8 rfl rfl (by simp) ?_
 refine aw_seq ?_
 refine aw_region ?_
 refine al_op (op_assign rfl) rfl (by simp) ?_
 refine al_nil ?_
 refine aw_seq ?_
 refine aw_seq ?_
 refine aw_region ?_
 refine al_op (op_move rfl) rfl (by simp) ?_
 refine al_op (op_move rfl) rfl (by simp) ?_
 refine al_op (op_sadd_str rfl rfl (by first | omega | (simp; omega) | (simp; done) | (simp only [List.length_append, List.length_cons, List.length_nil]; omega))) rfl (by simp) ?_
 refine al_callp into9 rfl rfl rfl (acp_lent (lend_cons lend_same (lend_cons (by first | exact lend_same | exact .leaf _ _ (.vnil _) | exact lend_whole rfl (by first | rfl | (simp; done)) (clo_map (fun _ => rfl))) lend_nil)) (l_long (s ++ more) [] hsm) rfl) (by simp) ?_
 refine al_nil ?_
 refine aw_cond rfl (fun h1 => ?_) (fun h1 => ?_)
 ·have gh1 := h1
  try simp only [nrm] at h1
  refine aw_seq ?_
  refine aw_region ?_
  first
    | refine al_callp into10 rfl rfl rfl ((l_awake ) _) (by simp) ?_
    | refine al_callp into10 rfl rfl rfl (acp_lent lend_nil (l_awake ) rfl) (by simp) ?_
  refine al_op (op_assign rfl) rfl (by simp) ?_
  refine al_nil ?_
  refine aw_freeze (fun _ => false) (fsub_cons (t := 4) rfl (.leaf _ _ (.same _)) fsub_nil) ?_
  refine aw_ret ?_
  refine ⟨_, res_1 rfl rfl, ?_, rfl⟩
  rfl
 ·have gh1 := h1
  try simp only [nrm] at h1
  refine aw_skip ?_
  refine aw_seq ?_
  obtain ⟨hs2, _, _⟩ := long_facts gh1
  have hs3 := hs2
  rw [List.length_append] at hs3
  refine aw_region ?_
  refine al_op (op_move rfl) rfl (by simp) ?_
  first
    | refine al_callp into18 rfl rfl rfl ((c_Lex _ (by first | assumption | omega | (simp; done) | (simp; omega) | decide)) _) (by simp) ?_
    | refine al_callp into18 rfl rfl rfl (ac_told (re_cons (by first | exact .leaf _ _ (.same _) | exact .leaf _ _ (.vnil _) | exact .leaf _ _ (.nil _)) re_nil) ((c_Lex _ (by first | assumption | omega | (simp; done) | (simp; omega) | decide)) _)) (by simp) ?_
  refine al_op (op_move rfl) rfl (by simp) ?_
  refine al_op (op_extract rfl rfl rfl) rfl (by simp) ?_
  refine al_op (op_extract rfl rfl rfl) rfl (by simp) ?_
  (refine al_opR (op_alloc 6 info35 rfl rfl) rfl (by simp) ?_; rintro _ _ ⟨ver6, rfl, rfl⟩)
  refine al_op (op_assign rfl) rfl (by simp) ?_
  first
    | refine al_op (op_store_ptr info35 rfl rfl rfl rfl rfl rfl (by first | rfl | exact live_one rfl | (repeat (first | exact all_live_nil | refine all_live_clo rfl ?_ | refine all_live_slice rfl ?_ | refine all_live_map rfl ?_ | refine all_live_ptr rfl ?_))) (by decide)) rfl (by simp) ?_
    | refine al_op (op_store_ptr info35 rfl rfl rfl rfl rfl rfl (by first | rfl | exact live_one rfl | (repeat (first | exact all_live_nil | refine all_live_clo rfl ?_ | refine all_live_slice rfl ?_ | refine all_live_map rfl ?_ | refine all_live_ptr rfl ?_))) (Nat.le_of_ble_eq_true rfl)) rfl (by simp) ?_
  refine al_nil ?_
  refine aw_seq ?_
  refine aw_seq ?_
  refine aw_region ?_
  first
    | refine al_op (op_field_rptr Tryd.underlying35 rfl info30 (by decide) rfl rfl) rfl (by simp) ?_
    | refine al_op (op_field_ptr Tryd.underlying35 rfl info30 (by decide) rfl rfl rfl) rfl (by simp) ?_
  first
    | refine al_op (op_load_rptr Tryd.underlying30 info30 rfl rfl) rfl (by simp) ?_
    | refine al_op (op_load_map Tryd.underlying30 info30 rfl rfl (by omega) rfl) rfl (by simp) ?_
    | refine al_op (op_load_ptr Tryd.underlying30 info30 rfl rfl rfl rfl) rfl (by simp) ?_
  refine al_op (op_neq rfl rfl) rfl (by simp) ?_
  refine al_nil ?_
  refine aw_cond rfl (fun h2 => ?_) (fun h2 => ?_)
  ·have gh2 := h2
   try simp only [nrm] at h2
   refine aw_seq ?_
   refine aw_region ?_
   first
     | refine al_callp into10 rfl rfl rfl ((l_awake ) _) (by simp) ?_
     | refine al_callp into10 rfl rfl rfl (acp_lent lend_nil (l_awake ) rfl) (by simp) ?_
   refine al_op (op_assign rfl) rfl (by simp) ?_
   refine al_nil ?_
   refine aw_freeze (fun _ => false) (fsub_cons (t := 4) rfl (.leaf _ _ (.same _)) fsub_nil) ?_
   refine aw_ret ?_
   refine ⟨_, res_1 rfl rfl, ?_, rfl⟩
   rfl
  ·have gh2 := h2
   try simp only [nrm] at h2
   refine aw_skip ?_
   refine aw_seq ?_
   obtain ⟨jf, hst⟩ := stop_of hs2 gh2
   have hjl := hst.lt
   refine aw_region ?_
   refine al_op (op_assign rfl) rfl (by simp) ?_
   refine al_op (op_assign rfl) rfl (by simp) ?_
   refine al_op (op_assign rfl) rfl (by simp) ?_
   refine al_nil ?_
   refine aw_seq ?_
   refine aw_seq ?_
   refine aw_region ?_
   refine al_op (op_move rfl) rfl (by simp) ?_
   refine al_op (op_slen_str (ts := #[]) Tryd.underlying9 rfl) rfl (by simp) ?_
   refine al_op (op_move rfl) rfl (by simp) ?_
   refine al_nil ?_
   refine aw_block ?_
   refine aw_forT (ι := Nat) [7, 8, 9, 31] [] (fun i => s.length - i) (fun i => i ≤ jf) (fun i => ([(8, .v (.int .i64 ((place s i).1))), (9, .v (.int .i64 ((place s i).2))), (31, .v (.int .i64 (i)))] : Env)) (fun i s => s) (0) ?_ ?_ ?_ (fun i hinv => ?_)
   ·exact Nat.zero_le _
   ·refine sub_cons (get_as rfl ?_) ?_; rotate_left; refine sub_cons (get_as rfl ?_) ?_; rotate_left; refine sub_cons (get_as rfl ?_) ?_; rotate_left; exact sub_nil
    all_goals (first | rfl | (rw [pl_line (by omega) gh8]) | (rw [pl_col (by omega) gh8]) | simp)
   ·rfl
   have hpl := place_ge s i
   refine aw_seq ?_
   refine aw_region ?_
   refine al_op (op_lss rfl rfl) rfl (by simp) ?_
   refine al_nil ?_
   refine aw_seq ?_
   refine aw_cond rfl (fun h3 => ?_) (fun h3 => ?_)
   ·have gh3 := h3
    try simp only [nrm] at h3
    refine aw_skip ?_
    refine aw_seq ?_
    refine aw_block ?_
    refine aw_seq ?_
    refine aw_region ?_
    refine al_op (op_move rfl) rfl (by simp) ?_
    refine al_op (op_assign rfl) rfl (by simp) ?_
    refine al_nil ?_
    refine aw_seq ?_
    refine aw_seq ?_
    refine aw_region ?_
    refine al_op (op_move rfl) rfl (by simp) ?_
    first
      | refine al_op (op_field_rptr Tryd.underlying35 rfl info3 (by decide) rfl rfl) rfl (by simp) ?_
      | refine al_op (op_field_ptr Tryd.underlying35 rfl info3 (by decide) rfl rfl rfl) rfl (by simp) ?_
    first
      | refine al_op (op_load_rptr Tryd.underlying3 info3 rfl rfl) rfl (by simp) ?_
      | refine al_op (op_load_map Tryd.underlying3 info3 rfl rfl (by omega) rfl) rfl (by simp) ?_
      | refine al_op (op_load_ptr Tryd.underlying3 info3 rfl rfl rfl rfl) rfl (by simp) ?_
    refine al_op (op_eql rfl rfl) rfl (by simp) ?_
    refine al_op (op_move rfl) rfl (by simp) ?_
    apply al_and 5 38 43 rfl
    ·intro h4; have gh4 := h4
     try simp only [nrm] at h4
     refine al_take (op_move rfl) rfl rfl rfl rfl (by simp) ?_
     first
       | refine al_take (op_field_rptr Tryd.underlying35 rfl info3 (by decide) rfl rfl) rfl rfl rfl rfl (by simp) ?_
       | refine al_take (op_field_ptr Tryd.underlying35 rfl info3 (by decide) rfl rfl rfl) rfl rfl rfl rfl (by simp) ?_
     first
       | refine al_take (op_load_rptr Tryd.underlying3 info3 rfl rfl) rfl rfl rfl rfl (by simp) ?_
       | refine al_take (op_load_map Tryd.underlying3 info3 rfl rfl (by omega) rfl) rfl rfl rfl rfl (by simp) ?_
       | refine al_take (op_load_ptr Tryd.underlying3 info3 rfl rfl rfl rfl) rfl rfl rfl rfl (by simp) ?_
     refine al_take (op_eql rfl rfl) rfl rfl rfl rfl (by simp) ?_
     first
       | refine al_op (op_pick rfl rfl) rfl (by simp) ?_
       | refine al_op (op_and rfl rfl rfl) rfl (by simp) ?_
     refine al_nil ⟨rfl, rfl, rfl, keep_of ?_⟩
     repeat (first | exact subx_refl | exact subx_known rfl gh4 subx_refl | refine subx_put rfl ?_)
    ·intro h4; have gh4 := h4
     try simp only [nrm] at h4
     refine al_pass rfl rfl rfl rfl (by simp) ?_
     refine al_pass rfl rfl rfl rfl (by simp) ?_
     refine al_pass rfl rfl rfl rfl (by simp) ?_
     refine al_pass rfl rfl rfl rfl (by simp) ?_
     first
       | refine al_op (op_pick rfl rfl) rfl (by simp) ?_
       | refine al_op (op_and rfl rfl rfl) rfl (by simp) ?_
     refine al_nil ⟨rfl, rfl, rfl, keep_of ?_⟩
     repeat (first | exact subx_refl | exact subx_known rfl gh4 subx_refl | refine subx_put rfl ?_)
    refine al_nil ?_
    refine aw_cond rfl (fun h5 => ?_) (fun h5 => ?_)
    ·have gh5 := h5
     try simp only [nrm] at h5
     refine aw_seq ?_
     refine aw_region ?_
     refine al_op (op_move rfl) rfl (by simp) ?_
     refine al_op (op_assign rfl) rfl (by simp) ?_
     refine al_nil ?_
     refine aw_exit ?_
     have hij := hst.at_yes hinv gh5
     subst hij
     refine aw_seq ?_
     refine aw_seq ?_
     refine aw_any (Checked.mixed Tryd.checked) ?_
     apply aany_seg (p := 0) (q := 3) (by kernel_rfl) rfl (by decide)
     ·
      apply ql_plain rfl (op_move rfl)
      apply ql_plain rfl (op_lss rfl rfl)
      apply ql_plain rfl (op_move rfl)
      exact ql_nil
     ·simp
     apply aany_or 3 12 56 65 (by kernel_rfl) rfl (by decide) rfl (by simp)
     ·intro h6; have gh6 := h6
      try simp only [nrm] at h6
      apply ql_ex
      ·
       apply ql_take rfl rfl rfl rfl (op_move rfl)
       apply ql_take rfl rfl rfl rfl (op_move rfl)
       apply ql_take rfl rfl rfl rfl (op_move rfl)
       apply ql_take rfl rfl rfl rfl (op_add rfl rfl (by first | exact wrap_i64 (by omega) (by omega)))
       apply ql_take rfl rfl rfl rfl (op_cut_str Tryd.underlying9 rfl (.of rfl (show _ = ((i : Nat) : Int) from by omega)) (.of rfl (show _ = (((i + 1) : Nat) : Int) from by omega)) (by omega) (by first | omega | (simp; omega)))
       first
         | apply ql_take rfl rfl rfl rfl (op_field_rptr Tryd.underlying35 rfl info9 (by decide) rfl rfl)
         | apply ql_take rfl rfl rfl rfl (op_field_ptr Tryd.underlying35 rfl info9 (by decide) rfl rfl rfl)
       first
         | apply ql_take rfl rfl rfl rfl (op_load_rptr Tryd.underlying9 info9 rfl rfl)
         | apply ql_take rfl rfl rfl rfl (op_load_map Tryd.underlying9 info9 rfl rfl (by omega) rfl)
         | apply ql_take rfl rfl rfl rfl (op_load_ptr Tryd.underlying9 info9 rfl rfl rfl rfl)
       apply ql_take rfl rfl rfl rfl (op_sneq_str rfl rfl)
       first
         | apply ql_plain rfl (op_pick rfl rfl)
         | apply ql_plain rfl (op_or rfl rfl rfl)
       exact ql_nil
      ·rfl
      ·repeat (first | exact subx_refl | exact subx_known rfl gh6 subx_refl | refine subx_put rfl ?_)
     ·intro h6; have gh6 := h6
      try simp only [nrm] at h6
      apply ql_ex
      ·
       apply ql_pass rfl rfl rfl rfl
       apply ql_pass rfl rfl rfl rfl
       apply ql_pass rfl rfl rfl rfl
       apply ql_pass rfl rfl rfl rfl
       apply ql_pass rfl rfl rfl rfl
       apply ql_pass rfl rfl rfl rfl
       apply ql_pass rfl rfl rfl rfl
       apply ql_pass rfl rfl rfl rfl
       first
         | apply ql_plain rfl (op_pick rfl rfl)
         | apply ql_plain rfl (op_or rfl rfl rfl)
       exact ql_nil
      ·rfl
      ·repeat (first | exact subx_refl | exact subx_known rfl gh6 subx_refl | refine subx_put rfl ?_)
     refine aany_end rfl (by kernel_rfl) ?_
     refine aw_cond rfl (fun h7 => ?_) (fun h7 => ?_)
     ·have gh7 := h7
      try simp only [nrm] at h7
      exact absurd gh7 (by rw [hst.name, decide_eq_false (by omega)]; decide)
     ·have gh7 := h7
      try simp only [nrm] at h7
      refine aw_skip ?_
      refine aw_seq ?_
      have htl : (s.take i).length ≤ 1000000000 := by rw [List.length_take]; omega
      refine aw_region ?_
      refine al_op (op_move rfl) rfl (by simp) ?_
      refine al_op (op_move rfl) rfl (by simp) ?_
      refine al_op (op_cut_to Tryd.underlying9 rfl (.of rfl (show _ = ((i : Nat) : Int) from by omega)) (by first | omega | (simp; omega))) rfl (by simp) ?_
      first
        | refine al_callp into18 rfl rfl rfl ((c_Lex _ (by first | assumption | omega | (simp; done) | (simp; omega) | decide)) _) (by simp) ?_
        | refine al_callp into18 rfl rfl rfl (ac_told (re_cons (by first | exact .leaf _ _ (.same _) | exact .leaf _ _ (.vnil _) | exact .leaf _ _ (.nil _)) re_nil) ((c_Lex _ (by first | assumption | omega | (simp; done) | (simp; omega) | decide)) _)) (by simp) ?_
      refine al_as 70 (.tuple [.list 5 (((lexP (s.take i)).1).map encK), .agg (encF okF)]) rfl (by rw [hst.cut]) ?_
      refine al_op (op_move rfl) rfl (by simp) ?_
      refine al_op (op_extract rfl rfl rfl) rfl (by simp) ?_
      refine al_op (op_extract rfl rfl rfl) rfl (by simp) ?_
      (refine al_opR (op_alloc 12 info35 rfl rfl) rfl (by simp) ?_; rintro _ _ ⟨ver12, rfl, rfl⟩)
      refine al_op (op_assign rfl) rfl (by simp) ?_
      first
        | refine al_op (op_store_ptr info35 rfl rfl rfl rfl rfl rfl (by first | rfl | exact live_one rfl | (repeat (first | exact all_live_nil | refine all_live_clo rfl ?_ | refine all_live_slice rfl ?_ | refine all_live_map rfl ?_ | refine all_live_ptr rfl ?_))) (by decide)) rfl (by simp) ?_
        | refine al_op (op_store_ptr info35 rfl rfl rfl rfl rfl rfl (by first | rfl | exact live_one rfl | (repeat (first | exact all_live_nil | refine all_live_clo rfl ?_ | refine all_live_slice rfl ?_ | refine all_live_map rfl ?_ | refine all_live_ptr rfl ?_))) (Nat.le_of_ble_eq_true rfl)) rfl (by simp) ?_
      refine al_nil ?_
      refine aw_seq ?_
      have htm : ((s ++ [10]) ++ more).length ≤ 1000000000 := by simp only [List.length_append, List.length_cons, List.length_nil]; omega
      refine aw_region ?_
      refine al_op (op_move rfl) rfl (by simp) ?_
      refine al_op (op_sadd_str rfl rfl (by first | omega | (simp; omega) | (simp; done) | (simp only [List.length_append, List.length_cons, List.length_nil]; omega))) rfl (by simp) ?_
      refine al_op (op_move rfl) rfl (by simp) ?_
      refine al_op (op_sadd_str rfl rfl (by first | omega | (simp; omega) | (simp; done) | (simp only [List.length_append, List.length_cons, List.length_nil]; omega))) rfl (by simp) ?_
      first
        | refine al_callp into18 rfl rfl rfl ((c_Lex _ (by first | assumption | omega | (simp; done) | (simp; omega) | decide)) _) (by simp) ?_
        | refine al_callp into18 rfl rfl rfl (ac_told (re_cons (by first | exact .leaf _ _ (.same _) | exact .leaf _ _ (.vnil _) | exact .leaf _ _ (.nil _)) re_nil) ((c_Lex _ (by first | assumption | omega | (simp; done) | (simp; omega) | decide)) _)) (by simp) ?_
      refine al_as 78 (.tuple [.list 5 (((lexP ((s ++ [10]) ++ more)).1).map encK), .agg (encF (badF s i))]) rfl (by rw [hst.ext]) ?_
      refine al_op (op_move rfl) rfl (by simp) ?_
      refine al_op (op_extract rfl rfl rfl) rfl (by simp) ?_
      refine al_op (op_extract rfl rfl rfl) rfl (by simp) ?_
      (refine al_opR (op_alloc 14 info35 rfl rfl) rfl (by simp) ?_; rintro _ _ ⟨ver14, rfl, rfl⟩)
      refine al_op (op_assign rfl) rfl (by simp) ?_
      first
        | refine al_op (op_store_ptr info35 rfl rfl rfl rfl rfl rfl (by first | rfl | exact live_one rfl | (repeat (first | exact all_live_nil | refine all_live_clo rfl ?_ | refine all_live_slice rfl ?_ | refine all_live_map rfl ?_ | refine all_live_ptr rfl ?_))) (by decide)) rfl (by simp) ?_
        | refine al_op (op_store_ptr info35 rfl rfl rfl rfl rfl rfl (by first | rfl | exact live_one rfl | (repeat (first | exact all_live_nil | refine all_live_clo rfl ?_ | refine all_live_slice rfl ?_ | refine all_live_map rfl ?_ | refine all_live_ptr rfl ?_))) (Nat.le_of_ble_eq_true rfl)) rfl (by simp) ?_
      refine al_nil ?_
      refine aw_seq ?_
      refine aw_region ?_
      first
        | refine al_op (op_load_rptr Tryd.underlying35 info35 rfl rfl) rfl (by simp) ?_
        | refine al_op (op_load_map Tryd.underlying35 info35 rfl rfl (by omega) rfl) rfl (by simp) ?_
        | refine al_op (op_load_ptr Tryd.underlying35 info35 rfl rfl rfl rfl) rfl (by simp) ?_
      refine al_op (op_build_struct Tryd.underlying35 info35 rfl place35 rfl (by first | rfl | (repeat (first | exact parts_nil | refine parts_cons rfl (by repeat (first | exact all_live_nil | refine all_live_clo rfl ?_ | refine all_live_slice rfl ?_ | refine all_live_map rfl ?_ | refine all_live_ptr rfl ?_)) ?_))) rfl) rfl (by simp) ?_
      refine al_op (op_aeq (r := true) rfl rfl rfl rfl (by kernel_rfl) (fun w => by kernel_rfl)) rfl (by simp) ?_
      refine al_op (op_move rfl) rfl (by simp) ?_
      refine al_as 84 (.v (.bool true)) rfl (by rfl) ?_
      first
        | refine al_take (op_load_rptr Tryd.underlying35 info35 rfl rfl) rfl rfl rfl rfl (by simp) ?_
        | refine al_take (op_load_map Tryd.underlying35 info35 rfl rfl (by omega) rfl) rfl rfl rfl rfl (by simp) ?_
        | refine al_take (op_load_ptr Tryd.underlying35 info35 rfl rfl rfl rfl) rfl rfl rfl rfl (by simp) ?_
      first
        | refine al_take (op_load_rptr Tryd.underlying35 info35 rfl rfl) rfl rfl rfl rfl (by simp) ?_
        | refine al_take (op_load_map Tryd.underlying35 info35 rfl rfl (by omega) rfl) rfl rfl rfl rfl (by simp) ?_
        | refine al_take (op_load_ptr Tryd.underlying35 info35 rfl rfl rfl rfl) rfl rfl rfl rfl (by simp) ?_
      refine al_take (op_aeq (r := decide ((badF s i) = (lexP s).2)) rfl rfl rfl rfl (by kernel_rfl) (fun w => flt_run (badF s i) (lexP s).2 w)) rfl rfl rfl rfl (by simp) ?_
      first
        | refine al_op (op_pick rfl rfl) rfl (by simp) ?_
        | refine al_op (op_and rfl rfl rfl) rfl (by simp) ?_
      refine al_op (op_move rfl) rfl (by simp) ?_
      refine al_as 89 (.v (.bool true)) rfl (by rw [hst.fault, decide_eq_true rfl]) ?_
      first
        | refine al_callp_take into10 rfl rfl rfl rfl rfl rfl ((l_awake ) _) (by simp) ?_
        | refine al_callp_take into10 rfl rfl rfl rfl rfl rfl (acp_lent lend_nil (l_awake ) rfl) (by simp) ?_
      first
        | refine al_op (op_pick rfl rfl) rfl (by simp) ?_
        | refine al_op (op_and rfl rfl rfl) rfl (by simp) ?_
      refine al_op (op_assign rfl) rfl (by simp) ?_
      refine al_nil ?_
      refine aw_freeze (fun _ => false) (fsub_cons (t := 4) rfl (.leaf _ _ (.same _)) fsub_nil) ?_
      refine aw_ret ?_
      refine ⟨_, res_1 rfl rfl, ?_, rfl⟩
      rfl
    ·have gh5 := h5
     try simp only [nrm] at h5
     refine aw_skip ?_
     refine aw_seq ?_
     refine aw_region ?_
     refine al_op (op_move rfl) rfl (by simp) ?_
     refine al_op (op_move rfl) rfl (by simp) ?_
     refine al_op (op_sidx_str Tryd.underlying9 rfl rfl (by first | (with_reducible exact Int.toNat_natCast _) | rfl) (by omega) (by first | omega | (simp; omega))) rfl (by simp) ?_
     refine al_op (op_eql rfl rfl) rfl (by simp) ?_
     refine al_nil ?_
     refine aw_cond rfl (fun h8 => ?_) (fun h8 => ?_)
     ·have gh8 := h8
      try simp only [nrm] at h8
      refine aw_region ?_
      refine al_op (op_move rfl) rfl (by simp) ?_
      refine al_op (op_add rfl rfl (by first | exact wrap_i64 (by omega) (by omega))) rfl (by simp) ?_
      refine al_op (op_assign rfl) rfl (by simp) ?_
      refine al_op (op_assign rfl) rfl (by simp) ?_
      refine al_nil ?_
      refine aw_region ?_
      refine al_op (op_add rfl rfl (by first | exact wrap_i64 (by omega) (by omega))) rfl (by simp) ?_
      refine al_op (op_move rfl) rfl (by simp) ?_
      refine al_nil ?_
      refine ⟨i + 1, ?_, ?_, ?_, ?_, ?_⟩
      ·omega
      ·have := hst.at_no gh5; omega
      ·refine sub_cons (get_as rfl ?_) ?_; rotate_left; refine sub_cons (get_as rfl ?_) ?_; rotate_left; refine sub_cons (get_as rfl ?_) ?_; rotate_left; exact sub_nil
       all_goals (first | rfl | (rw [pl_line (by omega) gh8]) | (rw [pl_col (by omega) gh8]) | simp)
      ·repeat (first | exact subx_refl | exact subx_del | refine subx_put rfl ?_)
      ·rfl
     ·have gh8 := h8
      try simp only [nrm] at h8
      refine aw_region ?_
      refine al_op (op_move rfl) rfl (by simp) ?_
      refine al_op (op_add rfl rfl (by first | exact wrap_i64 (by omega) (by omega))) rfl (by simp) ?_
      refine al_op (op_assign rfl) rfl (by simp) ?_
      refine al_nil ?_
      refine aw_region ?_
      refine al_op (op_add rfl rfl (by first | exact wrap_i64 (by omega) (by omega))) rfl (by simp) ?_
      refine al_op (op_move rfl) rfl (by simp) ?_
      refine al_nil ?_
      refine ⟨i + 1, ?_, ?_, ?_, ?_, ?_⟩
      ·omega
      ·have := hst.at_no gh5; omega
      ·refine sub_cons (get_as rfl ?_) ?_; rotate_left; refine sub_cons (get_as rfl ?_) ?_; rotate_left; refine sub_cons (get_as rfl ?_) ?_; rotate_left; exact sub_nil
       all_goals (first | rfl | (rw [pl_line (by omega) gh8]) | (rw [pl_col (by omega) gh8]) | simp)
      ·repeat (first | exact subx_refl | exact subx_del | refine subx_put rfl ?_)
      ·rfl
   ·have gh3 := h3
    try simp only [nrm] at h3
    exfalso; omega
end Go.Proofs.YtbojpddejdmamaaDoor
