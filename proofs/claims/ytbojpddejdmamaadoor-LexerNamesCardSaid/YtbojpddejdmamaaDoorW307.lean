/- Printed walks (gen.py, lexer_ann.py): part 307. -/
import Derived.Test.YtbojpddejdmamaaDoorW306
import Derived.Test.YtbojpddejdmamaaDoorLLex
import Derived.Test.YtbojpddejdmamaaDoorFacts
set_option linter.unusedVariables false
set_option linter.unusedSimpArgs false
set_option maxRecDepth 20000
set_option maxHeartbeats 40000000
namespace Go.Proofs.YtbojpddejdmamaaDoor
open Go

theorem q_Lex (s : Bs) (hs : s.length ≤ 1000000000) : AC Tryd.prog 18 [.v (.string (str (s)))] ([]) (fun r σ' => ∃ a, r = .ret a ∧ FrzT σ' (fun _ => false) a (.tuple [.list 5 ((lexP s).1.map encK), .agg (encF (lexP s).2)])) := by
 refine ac_enter 73 Tryd.func18 rfl rfl (by simp) ?_
 refine aw_seq ?_
 refine aw_region ?_
 refine al_op (op_assign rfl) rfl (by simp) ?_
 (refine al_opR (op_alloc 3 info35 rfl rfl) rfl (by simp) ?_; rintro _ _ ⟨ver3, rfl, rfl⟩)
 refine al_nil ?_
 refine aw_seq ?_
 refine aw_seq ?_
 refine aw_region ?_
 refine al_op (op_move rfl) rfl (by simp) ?_
 refine al_op (op_slen_str (ts := #[]) Tryd.underlying9 rfl) rfl (by simp) ?_
 refine al_op (op_gtr rfl rfl) rfl (by simp) ?_
 refine al_nil ?_
 refine aw_cond rfl (fun h1 => ?_) (fun h1 => ?_)
 ·have gh1 := h1
  try simp only [nrm] at h1
  refine aw_seq ?_
  refine aw_region ?_
  refine al_op (op_build_struct Tryd.underlying35 info35 rfl place35 rfl (by first | rfl | (repeat (first | exact parts_nil | refine parts_cons rfl (by repeat (first | exact all_live_nil | refine all_live_clo rfl ?_ | refine all_live_slice rfl ?_ | refine all_live_map rfl ?_ | refine all_live_ptr rfl ?_)) ?_))) rfl) rfl (by simp) ?_
  refine al_op (op_assign rfl) rfl (by simp) ?_
  first
    | refine al_op (op_store_ptr info35 rfl rfl rfl rfl rfl rfl (by first | rfl | exact live_one rfl | (repeat (first | exact all_live_nil | refine all_live_clo rfl ?_ | refine all_live_slice rfl ?_ | refine all_live_map rfl ?_ | refine all_live_ptr rfl ?_))) (by decide)) rfl (by simp) ?_
    | refine al_op (op_store_ptr info35 rfl rfl rfl rfl rfl rfl (by first | rfl | exact live_one rfl | (repeat (first | exact all_live_nil | refine all_live_clo rfl ?_ | refine all_live_slice rfl ?_ | refine all_live_map rfl ?_ | refine all_live_ptr rfl ?_))) (Nat.le_of_ble_eq_true rfl)) rfl (by simp) ?_
  refine al_nil ?_
  refine aw_ret ?_
  refine ⟨_, res_tmp_cell rfl rfl Tryd.underlying35 info35 rfl rfl rfl rfl rfl rfl, ?_⟩
  rw [lexP_long gh1]; exact ⟨_, rfl, .tuple _ _ (frz3_cons (.leaf _ _ (.vnil 5)) (frz3_cons (.leaf _ _ (.same _)) frz3_nil))⟩
 ·have gh1 := h1
  try simp only [nrm] at h1
  refine aw_skip ?_
  refine aw_seq ?_
  refine aw_region ?_
  refine al_op (op_move rfl) rfl (by simp) ?_
  refine al_op (op_build_struct Tryd.underlying55 info55 rfl place55 rfl (by first | rfl | (repeat (first | exact parts_nil | refine parts_cons rfl (by repeat (first | exact all_live_nil | refine all_live_clo rfl ?_ | refine all_live_slice rfl ?_ | refine all_live_map rfl ?_ | refine all_live_ptr rfl ?_)) ?_))) rfl) rfl (by simp) ?_
  (refine al_opR (op_box 14 rfl rfl (by first | rfl | exact live_one rfl | (repeat (first | exact all_live_nil | refine all_live_clo rfl ?_ | refine all_live_slice rfl ?_ | refine all_live_map rfl ?_ | refine all_live_ptr rfl ?_)))) rfl (by simp) ?_; rintro _ _ ⟨ver14, rfl, rfl⟩)
  refine al_op (op_assign rfl) rfl (by simp) ?_
  refine al_nil ?_
  refine aw_seq ?_
  refine aw_region ?_
  refine al_op (op_assign rfl) rfl (by simp) ?_
  refine al_nil ?_
  refine aw_seq ?_
  refine aw_seq ?_
  refine aw_region ?_
  refine al_op (op_move rfl) rfl (by simp) ?_
  (refine al_call into32 rfl rfl rfl (blanks_at 14 ver14 s hs 0 (Nat.zero_le _) rfl rfl rfl) (by simp) ?_; rintro _ _ ⟨rfl, rfl⟩)
  refine al_nil ?_
  refine aw_block ?_
  refine aw_own_map encK 5 5 5 rfl rfl (fun ver5 => ?_)
  refine aw_for3T (α := Nat) (β := List Tk) (γ := Nat) [2, 5] [6] (fun i acc ver => s.length - i) (fun i acc ver => (i ≤ s.length ∧ nextAt s i = i) ∧ acc.length ≤ i ∧ lex s = (acc ++ (lexFrom s i).1, (lexFrom s i).2)) (fun i acc ver => ([(5, .slice 5 ver 0 acc.length)] : Env)) (fun i acc ver st => ([(3, ver3, .row 4 [encF okF]), (14, ver14, .row 4 [scanRow s (i)]), (5, ver, .row 5 (acc.map encK))] : Store)) (nextAt s 0) ([]) (ver5) ?_ ?_ ?_ (fun i acc ver hinv => ?_)
  ·exact ⟨⟨(nextAt_le s 0 (Nat.zero_le _)).2, next_idem s 0⟩, Nat.zero_le _, lex_start s⟩
  ·refine sub_cons (get_as rfl ?_) ?_; rotate_left; exact sub_nil
   all_goals (first | rfl | simp)
  ·rfl
  obtain ⟨⟨hi, hni⟩, hac, hlx⟩ := hinv
  refine aw_seq ?_
  refine aw_seq ?_
  refine aw_region ?_
  refine al_op (op_move rfl) rfl (by simp) ?_
  first
    | refine al_op (op_nilCheck_rptr rfl) rfl (by simp) ?_
    | refine al_op (op_nilCheck_ptr rfl rfl) rfl (by simp) ?_
  first
    | refine al_op (op_field_rptr Tryd.underlying55 rfl info3 (by decide) rfl rfl) rfl (by simp) ?_
    | refine al_op (op_field_ptr Tryd.underlying55 rfl info3 (by decide) rfl rfl rfl) rfl (by simp) ?_
  first
    | refine al_op (op_load_rptr Tryd.underlying3 info3 rfl rfl) rfl (by simp) ?_
    | refine al_op (op_load_map Tryd.underlying3 info3 rfl rfl (by omega) rfl) rfl (by simp) ?_
    | refine al_op (op_load_ptr Tryd.underlying3 info3 rfl rfl rfl rfl) rfl (by simp) ?_
  refine al_op (op_move rfl) rfl (by simp) ?_
  refine al_op (op_slen_str (ts := #[]) Tryd.underlying9 rfl) rfl (by simp) ?_
  refine al_op (op_lss rfl rfl) rfl (by simp) ?_
  refine al_nil ?_
  refine aw_cond rfl (fun h2 => ?_) (fun h2 => ?_)
  ·have gh2 := h2
   try simp only [nrm] at h2
   refine aw_skip ?_
   refine aw_seq ?_
   refine aw_block ?_
   refine aw_seq ?_
   refine aw_region ?_
   refine al_op (op_move rfl) rfl (by simp) ?_
   refine al_callp into34 rfl rfl rfl (rest_at 14 ver14 s hs i (by omega) rfl rfl rfl) (by simp) ?_
   have hpos : 0 < (s.drop i).length := by rw [List.length_drop]; omega
   have hdl : (s.drop i).length ≤ 1000000000 := by rw [List.length_drop]; omega
   first
     | refine al_callp into33 rfl rfl rfl ((c_token _ (by first | assumption | omega | (simp; done) | (simp; omega) | decide) (by first | assumption | omega | (simp; done) | (simp; omega) | decide)) _) (by simp) ?_
     | refine al_callp into33 rfl rfl rfl (acp_lent (lend_cons (by first | exact lend_same | exact .leaf _ _ (.vnil _) | exact .leaf _ _ (.nil _) | exact lend_whole rfl (by first | rfl | (simp; done) | (simp; omega)) (clo_map (fun _ => rfl))) lend_nil) (c_token _ (by first | assumption | omega | (simp; done) | (simp; omega) | decide) (by first | assumption | omega | (simp; done) | (simp; omega) | decide)) rfl) (by simp) ?_
   refine al_op (op_move rfl) rfl (by simp) ?_
   refine al_op (op_extract rfl rfl rfl) rfl (by simp) ?_
   refine al_op (op_extract rfl rfl rfl) rfl (by simp) ?_
   (refine al_opR (op_alloc 6 info28 rfl rfl) rfl (by simp) ?_; rintro _ _ ⟨ver6, rfl, rfl⟩)
   first
     | refine al_op (op_store_ptr info28 rfl rfl rfl rfl rfl rfl (by first | rfl | exact live_one rfl | (repeat (first | exact all_live_nil | refine all_live_clo rfl ?_ | refine all_live_slice rfl ?_ | refine all_live_map rfl ?_ | refine all_live_ptr rfl ?_))) (by decide)) rfl (by simp) ?_
     | refine al_op (op_store_ptr info28 rfl rfl rfl rfl rfl rfl (by first | rfl | exact live_one rfl | (repeat (first | exact all_live_nil | refine all_live_clo rfl ?_ | refine all_live_slice rfl ?_ | refine all_live_map rfl ?_ | refine all_live_ptr rfl ?_))) (Nat.le_of_ble_eq_true rfl)) rfl (by simp) ?_
   refine al_op (op_assign rfl) rfl (by simp) ?_
   refine al_nil ?_
   refine aw_seq ?_
   refine aw_seq ?_
   refine aw_region ?_
   refine al_op (op_move rfl) rfl (by simp) ?_
   refine al_op (op_eql rfl rfl) rfl (by simp) ?_
   refine al_nil ?_
   refine aw_cond rfl (fun h3 => ?_) (fun h3 => ?_)
   ·have gh3 := h3
    try simp only [nrm] at h3
    refine aw_seq ?_
    refine aw_any (Checked.mixed Tryd.checked) ?_
    apply aany_seg (p := 0) (q := 21) (by kernel_rfl) rfl (by decide)
    ·
     apply ql_plain rfl (op_move rfl)
     apply ql_plain rfl (op_move rfl)
     first
       | apply ql_plain rfl (op_nilCheck_rptr rfl)
       | apply ql_plain rfl (op_nilCheck_ptr rfl rfl)
     first
       | apply ql_plain rfl (op_field_rptr Tryd.underlying55 rfl info3 (by decide) rfl rfl)
       | apply ql_plain rfl (op_field_ptr Tryd.underlying55 rfl info3 (by decide) rfl rfl rfl)
     first
       | apply ql_plain rfl (op_load_rptr Tryd.underlying3 info3 rfl rfl)
       | apply ql_plain rfl (op_load_map Tryd.underlying3 info3 rfl rfl (by omega) rfl)
       | apply ql_plain rfl (op_load_ptr Tryd.underlying3 info3 rfl rfl rfl rfl)
     apply ql_plain rfl (op_move rfl)
     first
       | apply ql_plain rfl (op_nilCheck_rptr rfl)
       | apply ql_plain rfl (op_nilCheck_ptr rfl rfl)
     first
       | apply ql_plain rfl (op_field_rptr Tryd.underlying55 rfl info3 (by decide) rfl rfl)
       | apply ql_plain rfl (op_field_ptr Tryd.underlying55 rfl info3 (by decide) rfl rfl rfl)
     first
       | apply ql_plain rfl (op_load_rptr Tryd.underlying3 info3 rfl rfl)
       | apply ql_plain rfl (op_load_map Tryd.underlying3 info3 rfl rfl (by omega) rfl)
       | apply ql_plain rfl (op_load_ptr Tryd.underlying3 info3 rfl rfl rfl rfl)
     apply ql_plain rfl (op_add rfl rfl (by first | exact wrap_i64 (by omega) (by omega)))
     apply ql_plain rfl (op_cut_str Tryd.underlying9 rfl (.of rfl (show _ = ((i : Nat) : Int) from by omega)) (.of rfl (show _ = (((i + 1) : Nat) : Int) from by omega)) (by omega) (by first | omega | (simp; omega)))
     apply ql_plain rfl (op_move rfl)
     first
       | apply ql_plain rfl (op_nilCheck_rptr rfl)
       | apply ql_plain rfl (op_nilCheck_ptr rfl rfl)
     first
       | apply ql_plain rfl (op_field_rptr Tryd.underlying55 rfl info3 (by decide) rfl rfl)
       | apply ql_plain rfl (op_field_ptr Tryd.underlying55 rfl info3 (by decide) rfl rfl rfl)
     first
       | apply ql_plain rfl (op_load_rptr Tryd.underlying3 info3 rfl rfl)
       | apply ql_plain rfl (op_load_map Tryd.underlying3 info3 rfl rfl (by omega) rfl)
       | apply ql_plain rfl (op_load_ptr Tryd.underlying3 info3 rfl rfl rfl rfl)
     apply ql_plain rfl (op_move rfl)
     first
       | apply ql_plain rfl (op_nilCheck_rptr rfl)
       | apply ql_plain rfl (op_nilCheck_ptr rfl rfl)
     first
       | apply ql_plain rfl (op_field_rptr Tryd.underlying55 rfl info3 (by decide) rfl rfl)
       | apply ql_plain rfl (op_field_ptr Tryd.underlying55 rfl info3 (by decide) rfl rfl rfl)
     first
       | apply ql_plain rfl (op_load_rptr Tryd.underlying3 info3 rfl rfl)
       | apply ql_plain rfl (op_load_map Tryd.underlying3 info3 rfl rfl (by omega) rfl)
       | apply ql_plain rfl (op_load_ptr Tryd.underlying3 info3 rfl rfl rfl rfl)
     apply ql_plain rfl (op_build_struct Tryd.underlying35 info35 rfl place35 rfl (by first | rfl | (repeat (first | exact parts_nil | refine parts_cons rfl (by repeat (first | exact all_live_nil | refine all_live_clo rfl ?_ | refine all_live_slice rfl ?_ | refine all_live_map rfl ?_ | refine all_live_ptr rfl ?_)) ?_))) rfl)
     apply ql_plain rfl (op_assign rfl)
     exact ql_nil
    ·simp
    first
      | refine aany_op (by kernel_rfl) rfl rfl (op_store_ptr info35 rfl rfl rfl rfl rfl rfl (by first | rfl | exact live_one rfl | (repeat (first | exact all_live_nil | refine all_live_clo rfl ?_ | refine all_live_slice rfl ?_ | refine all_live_map rfl ?_ | refine all_live_ptr rfl ?_))) (by decide)) (by simp) ?_
      | refine aany_op (by kernel_rfl) rfl rfl (op_store_ptr info35 rfl rfl rfl rfl rfl rfl (by first | rfl | exact live_one rfl | (repeat (first | exact all_live_nil | refine all_live_clo rfl ?_ | refine all_live_slice rfl ?_ | refine all_live_map rfl ?_ | refine all_live_ptr rfl ?_))) (Nat.le_of_ble_eq_true rfl)) (by simp) ?_
    refine aany_end rfl (by kernel_rfl) ?_
    refine aw_ret ?_
    refine ⟨_, res_tmp_cell rfl rfl Tryd.underlying35 info35 rfl rfl rfl rfl rfl rfl, ?_⟩
    rw [lexP_bad gh1 hlx (round_bad (by omega) hni gh3), badF_cut]; exact ⟨_, rfl, .tuple _ _ (frz3_cons (.leaf _ _ (.vnil 5)) (frz3_cons (.leaf _ _ (.same _)) frz3_nil))⟩
   ·have gh3 := h3
    try simp only [nrm] at h3
    refine aw_skip ?_
    refine aw_seq ?_
    obtain ⟨ht1, ht2, ht3⟩ := tokA_some gh3
    rw [List.length_drop] at ht3
    refine aw_plan [0, 1, 2, 3, 4, 5, 6, 7, 8, 9, 10, 11] (Checked.mixed Tryd.checked) (by kernel_rfl) ?_
    refine afl_float rfl rfl (opk_of (op_move rfl)) (by simp) ?_
    first
      | refine afl_float rfl rfl (opk_of (op_nilCheck_rptr rfl)) (by simp) ?_
      | refine afl_float rfl rfl (opk_of (op_nilCheck_ptr rfl rfl)) (by simp) ?_
    first
      | refine afl_float rfl rfl (opk_of (op_field_rptr Tryd.underlying55 rfl info3 (by decide) rfl rfl)) (by simp) ?_
      | refine afl_float rfl rfl (opk_of (op_field_ptr Tryd.underlying55 rfl info3 (by decide) rfl rfl rfl)) (by simp) ?_
    first
      | refine afl_float rfl rfl (opk_of (op_load_rptr Tryd.underlying3 info3 rfl rfl)) (by simp) ?_
      | refine afl_float rfl rfl (opk_of (op_load_map Tryd.underlying3 info3 rfl rfl (by omega) rfl)) (by simp) ?_
      | refine afl_float rfl rfl (opk_of (op_load_ptr Tryd.underlying3 info3 rfl rfl rfl rfl)) (by simp) ?_
    refine afl_float rfl rfl (opk_of (op_move rfl)) (by simp) ?_
    first
      | refine afl_float rfl rfl (opk_of (op_nilCheck_rptr rfl)) (by simp) ?_
      | refine afl_float rfl rfl (opk_of (op_nilCheck_ptr rfl rfl)) (by simp) ?_
    first
      | refine afl_float rfl rfl (opk_of (op_field_rptr Tryd.underlying55 rfl info3 (by decide) rfl rfl)) (by simp) ?_
      | refine afl_float rfl rfl (opk_of (op_field_ptr Tryd.underlying55 rfl info3 (by decide) rfl rfl rfl)) (by simp) ?_
    first
      | refine afl_float rfl rfl (opk_of (op_load_rptr Tryd.underlying3 info3 rfl rfl)) (by simp) ?_
      | refine afl_float rfl rfl (opk_of (op_load_map Tryd.underlying3 info3 rfl rfl (by omega) rfl)) (by simp) ?_
      | refine afl_float rfl rfl (opk_of (op_load_ptr Tryd.underlying3 info3 rfl rfl rfl rfl)) (by simp) ?_
    first
      | refine afl_float rfl rfl (opk_of (op_field_rptr Tryd.underlying28 rfl info3 (by decide) rfl rfl)) (by simp) ?_
      | refine afl_float rfl rfl (opk_of (op_field_ptr Tryd.underlying28 rfl info3 (by decide) rfl rfl rfl)) (by simp) ?_
    first
      | (refine afl_eff rfl rfl (by kernel_rfl) (op_store_ptr info3 rfl rfl rfl rfl rfl rfl (by first | rfl | exact live_one rfl | (repeat (first | exact all_live_nil | refine all_live_clo rfl ?_ | refine all_live_slice rfl ?_ | refine all_live_map rfl ?_ | refine all_live_ptr rfl ?_))) (by decide)) (by simp) ?_ ?_)
      | (refine afl_eff rfl rfl (by kernel_rfl) (op_store_ptr info3 rfl rfl rfl rfl rfl rfl (by first | rfl | exact live_one rfl | (repeat (first | exact all_live_nil | refine all_live_clo rfl ?_ | refine all_live_slice rfl ?_ | refine all_live_map rfl ?_ | refine all_live_ptr rfl ?_))) (Nat.le_of_ble_eq_true rfl)) (by simp) ?_ ?_)
    ·
     refine loose_anc 8 rfl (by kernel_rfl) ?_
     first
       | refine loose_k rfl (opk_of (op_load_rptr Tryd.underlying3 info3 rfl rfl)) ?_
       | refine loose_k rfl (opk_of (op_load_map Tryd.underlying3 info3 rfl rfl (by omega) rfl)) ?_
       | refine loose_k rfl (opk_of (op_load_ptr Tryd.underlying3 info3 rfl rfl rfl rfl)) ?_
     first
       | refine loose_k rfl (opk_of (op_field_rptr Tryd.underlying55 rfl info3 (by decide) rfl rfl)) ?_
       | refine loose_k rfl (opk_of (op_field_ptr Tryd.underlying55 rfl info3 (by decide) rfl rfl rfl)) ?_
     first
       | refine loose_k rfl (opk_of (op_nilCheck_rptr rfl)) ?_
       | refine loose_k rfl (opk_of (op_nilCheck_ptr rfl rfl)) ?_
     refine loose_k rfl (opk_of (op_move rfl)) ?_
     refine loose_anc 3 rfl (by kernel_rfl) ?_
     refine loose_anc 2 rfl (by kernel_rfl) ?_
     refine loose_anc 1 rfl (by kernel_rfl) ?_
     refine loose_anc 0 rfl (by kernel_rfl) ?_
     exact loose_nil
    first
      | refine afl_float rfl rfl (opk_of (op_field_rptr Tryd.underlying28 rfl info3 (by decide) rfl rfl)) (by simp) ?_
      | refine afl_float rfl rfl (opk_of (op_field_ptr Tryd.underlying28 rfl info3 (by decide) rfl rfl rfl)) (by simp) ?_
    first
      | (refine afl_eff rfl rfl (by kernel_rfl) (op_store_ptr info3 rfl rfl rfl rfl rfl rfl (by first | rfl | exact live_one rfl | (repeat (first | exact all_live_nil | refine all_live_clo rfl ?_ | refine all_live_slice rfl ?_ | refine all_live_map rfl ?_ | refine all_live_ptr rfl ?_))) (by decide)) (by simp) ?_ ?_)
      | (refine afl_eff rfl rfl (by kernel_rfl) (op_store_ptr info3 rfl rfl rfl rfl rfl rfl (by first | rfl | exact live_one rfl | (repeat (first | exact all_live_nil | refine all_live_clo rfl ?_ | refine all_live_slice rfl ?_ | refine all_live_map rfl ?_ | refine all_live_ptr rfl ?_))) (Nat.le_of_ble_eq_true rfl)) (by simp) ?_ ?_)
    ·
     refine loose_anc 10 rfl (by kernel_rfl) ?_
     refine loose_fix rfl ?_
     refine loose_anc 8 rfl (by kernel_rfl) ?_
     refine loose_anc 7 rfl (by kernel_rfl) ?_
     refine loose_anc 6 rfl (by kernel_rfl) ?_
     refine loose_anc 5 rfl (by kernel_rfl) ?_
     refine loose_anc 4 rfl (by kernel_rfl) ?_
     refine loose_anc 3 rfl (by kernel_rfl) ?_
     refine loose_anc 2 rfl (by kernel_rfl) ?_
     refine loose_anc 1 rfl (by kernel_rfl) ?_
     refine loose_anc 0 rfl (by kernel_rfl) ?_
     exact loose_nil
    refine afl_end ?_
    refine aw_seq ?_
    refine aw_region ?_
    refine al_op (op_move rfl) rfl (by simp) ?_
    first
      | refine al_op (op_load_rptr Tryd.underlying28 info28 rfl rfl) rfl (by simp) ?_
      | refine al_op (op_load_map Tryd.underlying28 info28 rfl rfl (by omega) rfl) rfl (by simp) ?_
      | refine al_op (op_load_ptr Tryd.underlying28 info28 rfl rfl rfl rfl) rfl (by simp) ?_
    refine al_op (op_buildSlice Tryd.underlying25 info28 rfl rfl (by decide) rfl (by decide) rfl (by first | rfl | (repeat (first | exact parts_nil | refine parts_cons rfl (by repeat (first | exact all_live_nil | refine all_live_clo rfl ?_ | refine all_live_slice rfl ?_ | refine all_live_map rfl ?_ | refine all_live_ptr rfl ?_)) ?_))) rfl rfl rfl) rfl (by simp) ?_
    first
      | (refine al_opR (op_append_one (mkTk s i) Tryd.underlying25 Tryd.underlying25 rfl info28 rfl rfl (by decide) rfl rfl rfl (by first | rfl | simp) rfl rfl (by first | omega | (simp; done) | (simp; omega)) (by show _ * 48 ≤ _; first | omega | (simp; done) | (simp; omega))) rfl (by simp) ?_; rintro _ _ ⟨ver67, rfl, rfl⟩)
      | (refine al_opR (op_append_map Tryd.underlying25 Tryd.underlying25 rfl info28 rfl rfl (by decide) rfl rfl rfl (by first | rfl | simp) rfl (by first | exact .list _ | exact .vnil | exact .nil | exact .row _ _ _ _ rfl (by first | rfl | simp)) rfl (by first | omega | (simp; done) | (simp; omega)) (by show _ * 48 ≤ _; first | omega | (simp; done) | (simp; omega))) rfl (by simp) ?_; rintro _ _ ⟨ver67, rfl, rfl⟩)
    refine al_op (op_assign rfl) rfl (by simp) ?_
    refine al_nil ?_
    refine aw_region ?_
    refine al_op (op_move rfl) rfl (by simp) ?_
    refine al_op (op_move rfl) rfl (by simp) ?_
    (refine al_call into35 rfl rfl rfl (skip_at 14 ver14 s hs i (tokA (s.drop i)).2.2.2 (by omega) rfl rfl rfl) (by simp) ?_; rintro _ _ ⟨rfl, rfl⟩)
    refine al_nil ?_
    refine aw_region ?_
    refine al_op (op_move rfl) rfl (by simp) ?_
    (refine al_call into32 rfl rfl rfl (blanks_at 14 ver14 s hs (i + (tokA (s.drop i)).2.2.2) (by omega) rfl rfl rfl) (by simp) ?_; rintro _ _ ⟨rfl, rfl⟩)
    refine al_nil ?_
    refine ⟨(nextAt s (i + (tokA (s.drop i)).2.2.2)), acc ++ [mkTk s i], ver67, ?_, ?_, ?_, ?_, ?_⟩
    ·(have hnl := nextAt_le s (i + (tokA (s.drop i)).2.2.2) (by omega)); omega
    ·exact ⟨⟨(nextAt_le s _ (by omega)).2, next_idem s _⟩, by have hnl := nextAt_le s (i + (tokA (s.drop i)).2.2.2) (by omega); rw [List.length_append, List.length_singleton]; omega, lex_more hlx (round_ok (by omega) hni gh3)⟩
    ·refine sub_cons (get_as rfl ?_) ?_; rotate_left; exact sub_nil
     all_goals (first | rfl | simp)
    ·repeat (first | exact subx_refl | exact subx_del | refine subx_put rfl ?_)
    ·rfl
  ·have gh2 := h2
   try simp only [nrm] at h2
   refine aw_exit ?_
   skip
   refine aw_seq ?_
   refine aw_region ?_
   refine al_op (op_move rfl) rfl (by simp) ?_
   refine al_op (op_build_struct Tryd.underlying35 info35 rfl place35 rfl (by first | rfl | (repeat (first | exact parts_nil | refine parts_cons rfl (by repeat (first | exact all_live_nil | refine all_live_clo rfl ?_ | refine all_live_slice rfl ?_ | refine all_live_map rfl ?_ | refine all_live_ptr rfl ?_)) ?_))) rfl) rfl (by simp) ?_
   refine al_op (op_assign rfl) rfl (by simp) ?_
   first
     | refine al_op (op_store_ptr info35 rfl rfl rfl rfl rfl rfl (by first | rfl | exact live_one rfl | (repeat (first | exact all_live_nil | refine all_live_clo rfl ?_ | refine all_live_slice rfl ?_ | refine all_live_map rfl ?_ | refine all_live_ptr rfl ?_))) (by decide)) rfl (by simp) ?_
     | refine al_op (op_store_ptr info35 rfl rfl rfl rfl rfl rfl (by first | rfl | exact live_one rfl | (repeat (first | exact all_live_nil | refine all_live_clo rfl ?_ | refine all_live_slice rfl ?_ | refine all_live_map rfl ?_ | refine all_live_ptr rfl ?_))) (Nat.le_of_ble_eq_true rfl)) rfl (by simp) ?_
   refine al_nil ?_
   refine aw_ret ?_
   refine ⟨_, res_tmp_cell rfl rfl Tryd.underlying35 info35 rfl rfl rfl rfl rfl rfl, ?_⟩
   rw [lexP_ok gh1 hlx hi (by omega)]; exact ⟨_, rfl, .tuple _ _ (frz3_cons (.leaf _ _ (frz_whole rfl rfl (List.length_map _).symm (clo_map (fun _ => rfl)))) (frz3_cons (.leaf _ _ (.same _)) frz3_nil))⟩
theorem c_Lex (s : Bs) (hs : s.length ≤ 1000000000) : ACp Tryd.prog 18 [.v (.string (str (s)))] (.tuple [.list 5 ((lexP s).1.map encK), .agg (encF (lexP s).2)]) :=
  acp_of (lexP_clo s) (ac_frz (fun _ => false) (q_Lex s hs) (by rintro x σ1 ⟨a, rfl, h⟩; exact ⟨a, _, rfl, h, rfl, keep_nothing _⟩))
end Go.Proofs.YtbojpddejdmamaaDoor
