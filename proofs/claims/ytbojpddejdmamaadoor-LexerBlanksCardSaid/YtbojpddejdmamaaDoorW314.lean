/- Printed walks (gen.py, lexer_ann.py): part 314. -/
import Derived.Test.YtbojpddejdmamaaDoorW310
import Derived.Test.YtbojpddejdmamaaDoorLLaw
import Derived.Test.YtbojpddejdmamaaDoorLFlt
import Derived.Test.YtbojpddejdmamaaDoorFacts
set_option linter.unusedVariables false
set_option linter.unusedSimpArgs false
set_option maxRecDepth 20000
set_option maxHeartbeats 40000000
namespace Go.Proofs.YtbojpddejdmamaaDoor
open Go

theorem law_LexerBlanks (l : List Tk) (hin : TksIn l) (g : Bs) (hg : g.length ≤ 140737488355328) : ACp Tryd.prog 6 [.list 5 (l.map encK), .list 1 (g.map encY)] (.v (.bool (true))) := by
 refine acp_of rfl ?_
 have hgl : gapL.length = 7 := rfl
 refine ac_enter 62 Tryd.func6 rfl rfl (by simp) ?_
 refine aw_seq ?_
 refine aw_region ?_
 refine al_op (op_assign rfl) rfl (by simp) ?_
 refine al_nil ?_
 refine aw_seq ?_
 refine aw_seq ?_
 refine aw_region ?_
 refine al_op (op_move rfl) rfl (by simp) ?_
 refine al_callp into9 rfl rfl rfl (acp_lent (lend_cons lend_same (lend_cons (by first | exact lend_same | exact .leaf _ _ (.vnil _) | exact lend_whole rfl (by first | rfl | (simp; done)) (clo_map (fun _ => rfl))) lend_nil)) (l_long [] l (by decide)) rfl) (by simp) ?_
 refine al_nil ?_
 refine aw_cond rfl (fun h1 => ?_) (fun h1 => ?_)
 ·have gh1 := h1
  try simp only [nrm] at h1
  refine aw_seq ?_
  refine aw_region ?_
  first
    | refine al_callp into10 rfl rfl rfl ((l_awake ) _) (by simp) ?_
    | refine al_callp into10 rfl rfl rfl (acp_lent lend_nil (l_awake ) rfl) (by simp) ?_
  refine al_op (op_assign rfl) rfl (by simp) ?_
  refine al_nil ?_
  refine aw_freeze (fun _ => false) (fsub_cons (t := 4) rfl (.leaf _ _ (.same _)) fsub_nil) ?_
  refine aw_ret ?_
  refine ⟨_, res_1 rfl rfl, ?_, rfl⟩
  rfl
 ·have gh1 := h1
  try simp only [nrm] at h1
  refine aw_skip ?_
  refine aw_seq ?_
  obtain ⟨_, hn2, hl2⟩ := long_facts gh1
  have hl : OKTs l := oks_of hin hl2
  have hn3 : l.length ≤ 1000000000 := by omega
  refine aw_region ?_
  refine al_op (op_assign rfl) rfl (by simp) ?_
  refine al_nil ?_
  refine aw_seq ?_
  refine aw_seq ?_
  refine aw_region ?_
  refine al_op (op_move rfl) rfl (by simp) ?_
  first
    | refine al_op (op_len_map Tryd.underlying25 rfl) rfl (by simp) ?_
    | refine al_op (op_len_slice Tryd.underlying25 rfl rfl) rfl (by simp) ?_
    | refine al_op (op_len_list Tryd.underlying25 rfl) rfl (by simp) ?_
    | refine al_op (op_len_v Tryd.underlying25 rfl) rfl (by simp) ?_
    | refine al_op (op_len_nil Tryd.underlying25 rfl) rfl (by simp) ?_
  refine al_op (op_move rfl) rfl (by simp) ?_
  refine al_nil ?_
  refine aw_block ?_
  refine aw_forT (ι := Nat) [4, 5, 15] [7] (fun i => l.length - i) (fun i => i ≤ l.length ∧ ∀ k, k < i → possT (l.getD k default) = true) (fun i => ([(5, .v (.string (str (bS l g i)))), (15, .v (.int .i64 (i)))] : Env)) (fun i s => s) (0) ?_ ?_ ?_ (fun i hinv => ?_)
  ·exact ⟨Nat.zero_le _, fun k hk => absurd hk (Nat.not_lt_zero k)⟩
  ·refine sub_cons (get_as rfl ?_) ?_; rotate_left; refine sub_cons (get_as rfl ?_) ?_; rotate_left; exact sub_nil
   all_goals (first | rfl | (rw [← bS_gap (by omega)] <;> rfl) | (rw [← bS_nogap (by omega)] <;> rfl) | simp)
  ·rfl
  have hi := hinv.1
  refine aw_seq ?_
  refine aw_region ?_
  refine al_op (op_lss rfl rfl) rfl (by simp) ?_
  refine al_nil ?_
  refine aw_seq ?_
  refine aw_cond rfl (fun h2 => ?_) (fun h2 => ?_)
  ·have gh2 := h2
   try simp only [nrm] at h2
   refine aw_skip ?_
   refine aw_seq ?_
   refine aw_block ?_
   refine aw_seq ?_
   refine aw_region ?_
   refine al_op (op_move rfl) rfl (by simp) ?_
   first
     | refine al_op (op_index_map default Tryd.underlying25 info28 rfl rfl rfl (by first | (with_reducible exact Int.toNat_natCast _) | rfl) (by omega) (by omega)) rfl (by simp) ?_
     | refine al_op (op_index_slice Tryd.underlying25 info28 rfl rfl rfl rfl (by omega) (by omega)) rfl (by simp) ?_
     | refine al_op (op_index_list Tryd.underlying25 info28 rfl rfl rfl (by decide) rfl) rfl (by simp) ?_
   first
     | refine al_op (op_load_rptr Tryd.underlying28 info28 rfl rfl) rfl (by simp) ?_
     | refine al_op (op_load_map Tryd.underlying28 info28 rfl rfl (by omega) rfl) rfl (by simp) ?_
     | refine al_op (op_load_ptr Tryd.underlying28 info28 rfl rfl rfl rfl) rfl (by simp) ?_
   (refine al_opR (op_alloc 7 info28 rfl rfl) rfl (by simp) ?_; rintro _ _ ⟨ver7, rfl, rfl⟩)
   refine al_op (op_assign rfl) rfl (by simp) ?_
   first
     | refine al_op (op_store_ptr info28 rfl rfl rfl rfl rfl rfl (by first | rfl | exact live_one rfl | (repeat (first | exact all_live_nil | refine all_live_clo rfl ?_ | refine all_live_slice rfl ?_ | refine all_live_map rfl ?_ | refine all_live_ptr rfl ?_))) (by decide)) rfl (by simp) ?_
     | refine al_op (op_store_ptr info28 rfl rfl rfl rfl rfl rfl (by first | rfl | exact live_one rfl | (repeat (first | exact all_live_nil | refine all_live_clo rfl ?_ | refine all_live_slice rfl ?_ | refine all_live_map rfl ?_ | refine all_live_ptr rfl ?_))) (Nat.le_of_ble_eq_true rfl)) rfl (by simp) ?_
   refine al_nil ?_
   refine aw_seq ?_
   refine aw_seq ?_
   have hti := hl.at i (by omega)
   have hbl := bS_len g (i := i) (by omega) hinv.2 hl2
   refine aw_region ?_
   first
     | refine al_op (op_load_rptr Tryd.underlying28 info28 rfl rfl) rfl (by simp) ?_
     | refine al_op (op_load_map Tryd.underlying28 info28 rfl rfl (by omega) rfl) rfl (by simp) ?_
     | refine al_op (op_load_ptr Tryd.underlying28 info28 rfl rfl rfl rfl) rfl (by simp) ?_
   first
     | refine al_callp into15 rfl rfl rfl ((r_poss _ (by assumption)) _) (by simp) ?_
     | refine al_callp into15 rfl rfl rfl (acp_lent (lend_cons (by first | exact lend_same | exact .leaf _ _ (.vnil _) | exact .leaf _ _ (.nil _) | exact lend_whole rfl (by first | rfl | (simp; done) | (simp; omega)) (clo_map (fun _ => rfl))) lend_nil) (r_poss _ (by assumption)) rfl) (by simp) ?_
   refine al_op (op_not rfl) rfl (by simp) ?_
   refine al_nil ?_
   refine aw_cond rfl (fun h3 => ?_) (fun h3 => ?_)
   ·have gh3 := h3
    try simp only [nrm] at h3
    refine aw_seq ?_
    refine aw_region ?_
    first
      | refine al_callp into10 rfl rfl rfl ((l_awake ) _) (by simp) ?_
      | refine al_callp into10 rfl rfl rfl (acp_lent lend_nil (l_awake ) rfl) (by simp) ?_
    refine al_op (op_assign rfl) rfl (by simp) ?_
    refine al_nil ?_
    refine aw_freeze (fun _ => false) (fsub_cons (t := 4) rfl (.leaf _ _ (.same _)) fsub_nil) ?_
    refine aw_ret ?_
    refine ⟨_, res_1 rfl rfl, ?_, rfl⟩
    rfl
   ·have gh3 := h3
    try simp only [nrm] at h3
    refine aw_skip ?_
    refine aw_seq ?_
    have hpi : possT (l.getD i default) = true := by simpa using gh3
    have hpn : (l.getD i default).op = 3 → 0 ≤ (l.getD i default).n := fun _ => (poss_small hpi).2.1
    have hwl := poss_small hpi
    refine aw_region ?_
    refine al_op (op_move rfl) rfl (by simp) ?_
    refine al_op (op_sadd_str rfl rfl (by first | omega | (simp; omega) | (simp; done) | (simp only [List.length_append, List.length_cons, List.length_nil]; omega))) rfl (by simp) ?_
    refine al_op (op_assign rfl) rfl (by simp) ?_
    refine al_nil ?_
    refine aw_seq ?_
    refine aw_seq ?_
    refine aw_region ?_
    refine al_op (op_move rfl) rfl (by simp) ?_
    refine al_op (op_move rfl) rfl (by simp) ?_
    first
      | refine al_op (op_len_map Tryd.underlying40 rfl) rfl (by simp) ?_
      | refine al_op (op_len_slice Tryd.underlying40 rfl rfl) rfl (by simp) ?_
      | refine al_op (op_len_list Tryd.underlying40 rfl) rfl (by simp) ?_
      | refine al_op (op_len_v Tryd.underlying40 rfl) rfl (by simp) ?_
      | refine al_op (op_len_nil Tryd.underlying40 rfl) rfl (by simp) ?_
    refine al_op (op_lss rfl rfl) rfl (by simp) ?_
    refine al_nil ?_
    refine aw_cond rfl (fun h4 => ?_) (fun h4 => ?_)
    ·have gh4 := h4
     try simp only [nrm] at h4
     have hgi := gap_in (g.getD i default)
     have hgn := gap_len _ hgi.2
     refine aw_region ?_
     refine al_op (op_move rfl) rfl (by simp) ?_
     refine al_op (op_list encBs gapL Tryd.underlying41 info9 rfl rfl (by decide) rfl (by decide) rfl (by first | rfl | (repeat (first | exact parts_nil | refine parts_cons rfl (by repeat (first | exact all_live_nil | refine all_live_clo rfl ?_ | refine all_live_slice rfl ?_ | refine all_live_map rfl ?_ | refine all_live_ptr rfl ?_)) ?_))) rfl rfl rfl rfl) rfl (by simp) ?_
     refine al_op (op_move rfl) rfl (by simp) ?_
     refine al_op (op_move rfl) rfl (by simp) ?_
     first
       | refine al_op (op_index_map default Tryd.underlying40 info5 rfl rfl rfl (by first | (with_reducible exact Int.toNat_natCast _) | rfl) (by omega) (by omega)) rfl (by simp) ?_
       | refine al_op (op_index_slice Tryd.underlying40 info5 rfl rfl rfl rfl (by omega) (by omega)) rfl (by simp) ?_
       | refine al_op (op_index_list Tryd.underlying40 info5 rfl rfl rfl (by decide) rfl) rfl (by simp) ?_
     first
       | refine al_op (op_load_rptr Tryd.underlying5 info5 rfl rfl) rfl (by simp) ?_
       | refine al_op (op_load_map Tryd.underlying5 info5 rfl rfl (by omega) rfl) rfl (by simp) ?_
       | refine al_op (op_load_ptr Tryd.underlying5 info5 rfl rfl rfl rfl) rfl (by simp) ?_
     first
       | refine al_op (op_rem rfl rfl (by omega) (rem_nn (by omega))) rfl (by simp) ?_
       | refine al_op (op_rem rfl rfl (by omega) rfl) rfl (by simp) ?_
     first
       | refine al_op (op_index_map default Tryd.underlying41 info9 rfl rfl rfl (by first | (with_reducible exact Int.toNat_natCast _) | rfl) (by omega) (by omega)) rfl (by simp) ?_
       | refine al_op (op_index_slice Tryd.underlying41 info9 rfl rfl rfl rfl (by omega) (by omega)) rfl (by simp) ?_
       | refine al_op (op_index_list Tryd.underlying41 info9 rfl rfl rfl (by decide) rfl) rfl (by simp) ?_
     first
       | refine al_op (op_load_rptr Tryd.underlying9 info9 rfl rfl) rfl (by simp) ?_
       | refine al_op (op_load_map Tryd.underlying9 info9 rfl rfl (by omega) rfl) rfl (by simp) ?_
       | refine al_op (op_load_ptr Tryd.underlying9 info9 rfl rfl rfl rfl) rfl (by simp) ?_
     refine al_op (op_sadd_str rfl rfl (by first | omega | (simp; omega) | (simp; done) | (simp only [List.length_append, List.length_cons, List.length_nil]; omega))) rfl (by simp) ?_
     refine al_op (op_assign rfl) rfl (by simp) ?_
     refine al_nil ?_
     refine aw_region ?_
     refine al_op (op_move rfl) rfl (by simp) ?_
     first
       | refine al_op (op_load_rptr Tryd.underlying28 info28 rfl rfl) rfl (by simp) ?_
       | refine al_op (op_load_map Tryd.underlying28 info28 rfl rfl (by omega) rfl) rfl (by simp) ?_
       | refine al_op (op_load_ptr Tryd.underlying28 info28 rfl rfl rfl rfl) rfl (by simp) ?_
     first
       | refine al_callp into20 rfl rfl rfl ((r_wri _ (by assumption) (by assumption)) _) (by simp) ?_
       | refine al_callp into20 rfl rfl rfl (acp_lent (lend_cons (by first | exact lend_same | exact .leaf _ _ (.vnil _) | exact .leaf _ _ (.nil _) | exact lend_whole rfl (by first | rfl | (simp; done) | (simp; omega)) (clo_map (fun _ => rfl))) lend_nil) (r_wri _ (by assumption) (by assumption)) rfl) (by simp) ?_
     refine al_op (op_sadd_str rfl rfl (by first | omega | (simp; omega) | (simp; done) | (simp only [List.length_append, List.length_cons, List.length_nil]; omega))) rfl (by simp) ?_
     refine al_op (op_assign rfl) rfl (by simp) ?_
     refine al_nil ?_
     refine aw_region ?_
     refine al_op (op_add rfl rfl (by first | exact wrap_i64 (by omega) (by omega))) rfl (by simp) ?_
     refine al_op (op_move rfl) rfl (by simp) ?_
     refine al_nil ?_
     refine ⟨i + 1, ?_, ?_, ?_, ?_, ?_⟩
     ·omega
     ·exact ⟨by omega, all_more (p := possT) hinv.2 hpi⟩
     ·refine sub_cons (get_as rfl ?_) ?_; rotate_left; refine sub_cons (get_as rfl ?_) ?_; rotate_left; exact sub_nil
      all_goals (first | rfl | (rw [← bS_gap (by omega)] <;> rfl) | (rw [← bS_nogap (by omega)] <;> rfl) | simp)
     ·repeat (first | exact subx_refl | exact subx_del | refine subx_put rfl ?_)
     ·rfl
    ·have gh4 := h4
     try simp only [nrm] at h4
     refine aw_skip ?_
     refine aw_region ?_
     refine al_op (op_move rfl) rfl (by simp) ?_
     first
       | refine al_op (op_load_rptr Tryd.underlying28 info28 rfl rfl) rfl (by simp) ?_
       | refine al_op (op_load_map Tryd.underlying28 info28 rfl rfl (by omega) rfl) rfl (by simp) ?_
       | refine al_op (op_load_ptr Tryd.underlying28 info28 rfl rfl rfl rfl) rfl (by simp) ?_
     first
       | refine al_callp into20 rfl rfl rfl ((r_wri _ (by assumption) (by assumption)) _) (by simp) ?_
       | refine al_callp into20 rfl rfl rfl (acp_lent (lend_cons (by first | exact lend_same | exact .leaf _ _ (.vnil _) | exact .leaf _ _ (.nil _) | exact lend_whole rfl (by first | rfl | (simp; done) | (simp; omega)) (clo_map (fun _ => rfl))) lend_nil) (r_wri _ (by assumption) (by assumption)) rfl) (by simp) ?_
     refine al_op (op_sadd_str rfl rfl (by first | omega | (simp; omega) | (simp; done) | (simp only [List.length_append, List.length_cons, List.length_nil]; omega))) rfl (by simp) ?_
     refine al_op (op_assign rfl) rfl (by simp) ?_
     refine al_nil ?_
     refine aw_region ?_
     refine al_op (op_add rfl rfl (by first | exact wrap_i64 (by omega) (by omega))) rfl (by simp) ?_
     refine al_op (op_move rfl) rfl (by simp) ?_
     refine al_nil ?_
     refine ⟨i + 1, ?_, ?_, ?_, ?_, ?_⟩
     ·omega
     ·exact ⟨by omega, all_more (p := possT) hinv.2 hpi⟩
     ·refine sub_cons (get_as rfl ?_) ?_; rotate_left; refine sub_cons (get_as rfl ?_) ?_; rotate_left; exact sub_nil
      all_goals (first | rfl | (rw [← bS_gap (by omega)] <;> rfl) | (rw [← bS_nogap (by omega)] <;> rfl) | simp)
     ·repeat (first | exact subx_refl | exact subx_del | refine subx_put rfl ?_)
     ·rfl
  ·have gh2 := h2
   try simp only [nrm] at h2
   refine aw_exit ?_
   obtain rfl : i = l.length := by omega
   have hbk := blanks_ok g hinv.2 gh1
   unfold endG at hbk
   have hb1 := hbk.1
   rw [List.length_append] at hb1
   have hb2 := hbk.1
   have hb3 := hbk.2.2.2
   refine aw_seq ?_
   refine aw_region ?_
   refine al_op (op_move rfl) rfl (by simp) ?_
   refine al_op (op_sadd_str rfl rfl (by first | omega | (simp; omega) | (simp; done) | (simp only [List.length_append, List.length_cons, List.length_nil]; omega))) rfl (by simp) ?_
   first
     | refine al_callp into18 rfl rfl rfl ((c_Lex _ (by first | assumption | omega | (simp; done) | (simp; omega) | decide)) _) (by simp) ?_
     | refine al_callp into18 rfl rfl rfl (ac_told (re_cons (by first | exact .leaf _ _ (.same _) | exact .leaf _ _ (.vnil _) | exact .leaf _ _ (.nil _)) re_nil) ((c_Lex _ (by first | assumption | omega | (simp; done) | (simp; omega) | decide)) _)) (by simp) ?_
   refine al_as 48 (.tuple [.list 5 (((lexP (bS l g l.length ++ [32, 45, 45, 32, 116, 104, 101, 32, 101, 110, 100])).1).map encK), .agg (encF okF)]) rfl (by rw [hbk.2.1]) ?_
   refine al_op (op_move rfl) rfl (by simp) ?_
   refine al_op (op_extract rfl rfl rfl) rfl (by simp) ?_
   refine al_op (op_extract rfl rfl rfl) rfl (by simp) ?_
   (refine al_opR (op_alloc 9 info35 rfl rfl) rfl (by simp) ?_; rintro _ _ ⟨ver9, rfl, rfl⟩)
   refine al_op (op_assign rfl) rfl (by simp) ?_
   first
     | refine al_op (op_store_ptr info35 rfl rfl rfl rfl rfl rfl (by first | rfl | exact live_one rfl | (repeat (first | exact all_live_nil | refine all_live_clo rfl ?_ | refine all_live_slice rfl ?_ | refine all_live_map rfl ?_ | refine all_live_ptr rfl ?_))) (by decide)) rfl (by simp) ?_
     | refine al_op (op_store_ptr info35 rfl rfl rfl rfl rfl rfl (by first | rfl | exact live_one rfl | (repeat (first | exact all_live_nil | refine all_live_clo rfl ?_ | refine all_live_slice rfl ?_ | refine all_live_map rfl ?_ | refine all_live_ptr rfl ?_))) (Nat.le_of_ble_eq_true rfl)) rfl (by simp) ?_
   refine al_nil ?_
   refine aw_seq ?_
   refine aw_region ?_
   first
     | refine al_op (op_load_rptr Tryd.underlying35 info35 rfl rfl) rfl (by simp) ?_
     | refine al_op (op_load_map Tryd.underlying35 info35 rfl rfl (by omega) rfl) rfl (by simp) ?_
     | refine al_op (op_load_ptr Tryd.underlying35 info35 rfl rfl rfl rfl) rfl (by simp) ?_
   refine al_op (op_build_struct Tryd.underlying35 info35 rfl place35 rfl (by first | rfl | (repeat (first | exact parts_nil | refine parts_cons rfl (by repeat (first | exact all_live_nil | refine all_live_clo rfl ?_ | refine all_live_slice rfl ?_ | refine all_live_map rfl ?_ | refine all_live_ptr rfl ?_)) ?_))) rfl) rfl (by simp) ?_
   refine al_op (op_aeq (r := true) rfl rfl rfl rfl (by kernel_rfl) (fun w => by kernel_rfl)) rfl (by simp) ?_
   refine al_op (op_move rfl) rfl (by simp) ?_
   refine al_as 54 (.v (.bool true)) rfl (by rfl) ?_
   refine al_take (op_move rfl) rfl rfl rfl rfl (by simp) ?_
   refine al_take (op_move rfl) rfl rfl rfl rfl (by simp) ?_
   first
     | refine al_callp_take into19 rfl rfl rfl rfl rfl rfl ((r_alike _ _ (by first | assumption | omega | (simp; done) | (simp; omega) | decide)) _) (by simp) ?_
     | refine al_callp_take into19 rfl rfl rfl rfl rfl rfl (acp_lent (lend_cons (by first | exact lend_same | exact .leaf _ _ (.vnil _) | exact .leaf _ _ (.nil _) | exact lend_whole rfl (by first | rfl | (simp; done) | (simp; omega)) (clo_map (fun _ => rfl))) (lend_cons (by first | exact lend_same | exact .leaf _ _ (.vnil _) | exact .leaf _ _ (.nil _) | exact lend_whole rfl (by first | rfl | (simp; done) | (simp; omega)) (clo_map (fun _ => rfl))) lend_nil)) (r_alike _ _ (by first | assumption | omega | (simp; done) | (simp; omega) | decide)) rfl) (by simp) ?_
   first
     | refine al_op (op_pick rfl rfl) rfl (by simp) ?_
     | refine al_op (op_and rfl rfl rfl) rfl (by simp) ?_
   refine al_op (op_move rfl) rfl (by simp) ?_
   refine al_as 59 (.v (.bool true)) rfl (by rw [hbk.2.2.1]) ?_
   first
     | refine al_callp_take into10 rfl rfl rfl rfl rfl rfl ((l_awake ) _) (by simp) ?_
     | refine al_callp_take into10 rfl rfl rfl rfl rfl rfl (acp_lent lend_nil (l_awake ) rfl) (by simp) ?_
   first
     | refine al_op (op_pick rfl rfl) rfl (by simp) ?_
     | refine al_op (op_and rfl rfl rfl) rfl (by simp) ?_
   refine al_op (op_assign rfl) rfl (by simp) ?_
   refine al_nil ?_
   refine aw_freeze (fun _ => false) (fsub_cons (t := 4) rfl (.leaf _ _ (.same _)) fsub_nil) ?_
   refine aw_ret ?_
   refine ⟨_, res_1 rfl rfl, ?_, rfl⟩
   rfl
end Go.Proofs.YtbojpddejdmamaaDoor
