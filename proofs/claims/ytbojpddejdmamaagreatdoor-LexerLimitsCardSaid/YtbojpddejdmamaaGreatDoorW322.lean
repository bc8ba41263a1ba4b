/- Printed walks (gen.py, lexer_ann.py): part 322. -/
import Derived.Test.YtbojpddejdmamaaGreatDoorW320
import Derived.Test.YtbojpddejdmamaaGreatDoorFacts
set_option linter.unusedVariables false
set_option linter.unusedSimpArgs false
set_option maxRecDepth 20000
set_option maxHeartbeats 40000000
namespace Go.Proofs.YtbojpddejdmamaaGreatDoor
open Go

theorem law_LexerLimits (s : Bs) (hs : s.length ≤ 4611686018427387904) (more : UInt8) : ACp Tryz.prog 4 [.v (.string (str (s))), .v (.int .u8 ((more).toNat : Int))] (.v (.bool (true))) := by
 refine acp_of rfl ?_
 have hmt : more.toNat < 256 := more.toNat_lt
 have hrl : (List.replicate ((limN s more : Nat) : Int).toNat (0 : UInt8)).length = limN s more := by simp
 have hlm := lim_le (s := s) (more := more)
 refine ac_enter 72 Tryz.func4 rfl rfl (by simp) ?_
 refine aw_seq ?_
 refine aw_region ?_
 refine al_op (op_assign rfl) rfl (by simp) ?_
 refine al_nil ?_
 refine aw_seq ?_
 refine aw_seq ?_
 refine aw_region ?_
 refine al_op (op_move rfl) rfl (by simp) ?_
 refine al_callp into6 rfl rfl rfl (acp_lent (lend_cons lend_same (lend_cons (by first | exact lend_same | exact .leaf _ _ (.vnil _) | exact lend_whole rfl (by first | rfl | (simp; done)) (clo_map (fun _ => rfl))) lend_nil)) (l_long s [] (by omega)) rfl) (by simp) ?_
 refine al_nil ?_
 refine aw_cond rfl (fun h1 => ?_) (fun h1 => ?_)
 ·have gh1 := h1
  try simp only [nrm] at h1
  refine aw_seq ?_
  refine aw_region ?_
  first
    | refine al_callp into7 rfl rfl rfl ((l_awake ) _) (by simp) ?_
    | refine al_callp into7 rfl rfl rfl (acp_lent lend_nil (l_awake ) rfl) (by simp) ?_
  refine al_op (op_assign rfl) rfl (by simp) ?_
  refine al_nil ?_
  refine aw_freeze (fun _ => false) (fsub_cons (t := 4) rfl (.leaf _ _ (.same _)) fsub_nil) ?_
  refine aw_ret ?_
  refine ⟨_, res_1 rfl rfl, ?_, rfl⟩
  rfl
 ·have gh1 := h1
  try simp only [nrm] at h1
  refine aw_skip ?_
  refine aw_seq ?_
  obtain ⟨hs2, _, _⟩ := long_facts gh1
  refine aw_region ?_
  refine al_op (op_move rfl) rfl (by simp) ?_
  refine al_op (op_slen_str (ts := #[]) Tryz.underlying9 rfl) rfl (by simp) ?_
  refine al_op (op_sub rfl rfl (by first | exact wrap_i64 (by omega) (by omega))) rfl (by simp) ?_
  refine al_op (op_move rfl) rfl (by simp) ?_
  first
    | refine al_op (op_rem rfl rfl (by omega) (rem_nn (by omega))) rfl (by simp) ?_
    | refine al_op (op_rem rfl rfl (by omega) rfl) rfl (by simp) ?_
  refine al_op (op_conv Tryz.underlying5 Tryz.underlying3 rfl (wrap_i64 (by omega) (by omega))) rfl (by simp) ?_
  refine al_op (val_as (.v (.int .i64 ((limN s more : Nat) : Int))) (op_add rfl rfl (by first | exact wrap_i64 (by omega) (by omega))) (by rw [lim_eq hs2])) rfl (by simp) ?_
  (refine al_opR (op_makeN (f := encY) 21 (0 : UInt8) Tryz.underlying32 info5 rfl rfl (by decide) rfl rfl rfl rfl (by omega) (by show (1 : Int) * _ ≤ _; omega) (by omega)) rfl (by simp) ?_; rintro _ _ ⟨ver21, rfl, rfl⟩)
  refine al_op (op_assign rfl) rfl (by simp) ?_
  refine al_nil ?_
  refine aw_seq ?_
  refine aw_seq ?_
  refine aw_region ?_
  refine al_op (op_move rfl) rfl (by simp) ?_
  first
    | refine al_op (op_len_map Tryz.underlying32 rfl) rfl (by simp) ?_
    | refine al_op (op_len_slice Tryz.underlying32 rfl rfl) rfl (by simp) ?_
    | refine al_op (op_len_list Tryz.underlying32 rfl) rfl (by simp) ?_
    | refine al_op (op_len_v Tryz.underlying32 rfl) rfl (by simp) ?_
    | refine al_op (op_len_nil Tryz.underlying32 rfl) rfl (by simp) ?_
  refine al_op (op_move rfl) rfl (by simp) ?_
  refine al_nil ?_
  refine aw_block ?_
  refine aw_forT (ι := Nat) [24] [] (fun k => limN s more - k) (fun k => k ≤ limN s more) (fun k => ([(24, .v (.int .i64 (k)))] : Env)) (fun k st => st.put 21 ver21 (.row 1 ((fillL (limN s more) k).map encY))) (0) ?_ ?_ ?_ (fun k hinv => ?_)
  ·exact Nat.zero_le _
  ·refine sub_cons (get_as rfl ?_) ?_; rotate_left; exact sub_nil
   all_goals (first | rfl | simp)
  ·(rw [fill_zero] <;> rfl)
  have hfl := fill_len hinv
  refine aw_seq ?_
  refine aw_region ?_
  refine al_op (op_lss rfl rfl) rfl (by simp) ?_
  refine al_nil ?_
  refine aw_seq ?_
  refine aw_cond rfl (fun h2 => ?_) (fun h2 => ?_)
  ·have gh2 := h2
   try simp only [nrm] at h2
   refine aw_skip ?_
   refine aw_seq ?_
   refine aw_block ?_
   refine aw_seq ?_
   refine aw_region ?_
   refine al_op (op_move rfl) rfl (by simp) ?_
   refine al_op (op_assign rfl) rfl (by simp) ?_
   refine al_nil ?_
   refine aw_region ?_
   refine al_op (op_move rfl) rfl (by simp) ?_
   refine al_op (op_move rfl) rfl (by simp) ?_
   first
     | refine al_op (op_index_map default Tryz.underlying32 info5 rfl rfl rfl (by first | (with_reducible exact Int.toNat_natCast _) | rfl) (by omega) (by omega)) rfl (by simp) ?_
     | refine al_op (op_index_slice Tryz.underlying32 info5 rfl rfl rfl rfl (by omega) (by omega)) rfl (by simp) ?_
     | refine al_op (op_index_list Tryz.underlying32 info5 rfl rfl rfl (by decide) rfl) rfl (by simp) ?_
   refine al_op (op_store_map (32 : UInt8) info5 rfl rfl rfl (by omega) rfl rfl rfl (Nat.le_of_ble_eq_true rfl) rfl) rfl (by simp) ?_
   refine al_nil ?_
   refine aw_region ?_
   refine al_op (op_add rfl rfl (by first | exact wrap_i64 (by omega) (by omega))) rfl (by simp) ?_
   refine al_op (op_move rfl) rfl (by simp) ?_
   refine al_nil ?_
   refine ⟨k + 1, ?_, ?_, ?_, ?_, ?_⟩
   ·omega
   ·first | trivial | omega
   ·refine sub_cons (get_as rfl ?_) ?_; rotate_left; exact sub_nil
    all_goals (first | rfl | simp)
   ·repeat (first | exact subx_refl | exact subx_del | refine subx_put rfl ?_)
   ·(rw [← fill_step (by omega)] <;> rfl)
  ·have gh2 := h2
   try simp only [nrm] at h2
   refine aw_exit ?_
   have hk : k = limN s more := by omega
   subst hk
   have htl : (s ++ fillL (limN s more) (limN s more)).length ≤ 1000000000 := by rw [List.length_append]; omega
   have hlc := lexP_count (s ++ fillL (limN s more) (limN s more))
   rw [List.length_append] at hlc
   have hlc2 : (lexP (s ++ fillL (limN s more) (limN s more))).1.length ≤ 1000000000 := by omega
   refine aw_seq ?_
   refine aw_region ?_
   refine al_op (op_move rfl) rfl (by simp) ?_
   refine al_op (op_move rfl) rfl (by simp) ?_
   refine al_op (op_str_row Tryz.underlying32 Tryz.underlying5 Tryz.underlying9 rfl rfl (by rw [hrl]; exact hfl.symm)) rfl (by simp) ?_
   refine al_op (op_sadd_str rfl rfl (by first | omega | (simp; omega) | (simp; done) | (simp only [List.length_append, List.length_cons, List.length_nil]; omega))) rfl (by simp) ?_
   refine al_callp into8 rfl rfl rfl (c_Lex (s ++ fillL (limN s more) (limN s more)) htl _) (by simp) ?_
   refine al_op (op_move rfl) rfl (by simp) ?_
   refine al_op (op_extract rfl rfl rfl) rfl (by simp) ?_
   refine al_op (op_extract rfl rfl rfl) rfl (by simp) ?_
   (refine al_opR (op_alloc 8 info27 rfl rfl) rfl (by simp) ?_; rintro _ _ ⟨ver8, rfl, rfl⟩)
   refine al_op (op_assign rfl) rfl (by simp) ?_
   first
     | refine al_op (op_store_ptr info27 rfl rfl rfl rfl rfl rfl (by first | rfl | exact live_one rfl | (repeat (first | exact all_live_nil | refine all_live_clo rfl ?_ | refine all_live_slice rfl ?_ | refine all_live_map rfl ?_ | refine all_live_ptr rfl ?_))) (by decide)) rfl (by simp) ?_
     | refine al_op (op_store_ptr info27 rfl rfl rfl rfl rfl rfl (by first | rfl | exact live_one rfl | (repeat (first | exact all_live_nil | refine all_live_clo rfl ?_ | refine all_live_slice rfl ?_ | refine all_live_map rfl ?_ | refine all_live_ptr rfl ?_))) (Nat.le_of_ble_eq_true rfl)) rfl (by simp) ?_
   refine al_nil ?_
   refine aw_seq ?_
   refine aw_seq ?_
   refine aw_region ?_
   refine al_op (op_move rfl) rfl (by simp) ?_
   first
     | refine al_op (op_rem rfl rfl (by omega) (rem_nn (by omega))) rfl (by simp) ?_
     | refine al_op (op_rem rfl rfl (by omega) rfl) rfl (by simp) ?_
   refine al_op (op_gtr rfl rfl) rfl (by simp) ?_
   refine al_nil ?_
   refine aw_cond rfl (fun h3 => ?_) (fun h3 => ?_)
   ·have gh3 := h3
    try simp only [nrm] at h3
    refine aw_seq ?_
    have hlz := lim_over (more := more) hs2 gh3
    refine aw_region ?_
    refine al_op (op_move rfl) rfl (by simp) ?_
    first
      | refine al_op (op_len_map Tryz.underlying24 rfl) rfl (by simp) ?_
      | refine al_op (op_len_slice Tryz.underlying24 rfl rfl) rfl (by simp) ?_
      | refine al_op (op_len_list Tryz.underlying24 rfl) rfl (by simp) ?_
      | refine al_op (op_len_v Tryz.underlying24 rfl) rfl (by simp) ?_
      | refine al_op (op_len_nil Tryz.underlying24 rfl) rfl (by simp) ?_
    refine al_op (op_eql rfl rfl) rfl (by simp) ?_
    refine al_op (op_move rfl) rfl (by simp) ?_
    refine al_as 45 (.v (.bool true)) rfl (by rw [hlz]; rfl) ?_
    first
      | refine al_take (op_load_rptr Tryz.underlying27 info27 rfl rfl) rfl rfl rfl rfl (by simp) ?_
      | refine al_take (op_load_map Tryz.underlying27 info27 rfl rfl (by omega) rfl) rfl rfl rfl rfl (by simp) ?_
      | refine al_take (op_load_ptr Tryz.underlying27 info27 rfl rfl rfl rfl) rfl rfl rfl rfl (by simp) ?_
    refine al_take (op_build_struct Tryz.underlying27 info27 rfl place27 rfl (by first | rfl | (repeat (first | exact parts_nil | refine parts_cons rfl (by repeat (first | exact all_live_nil | refine all_live_clo rfl ?_ | refine all_live_slice rfl ?_ | refine all_live_map rfl ?_ | refine all_live_ptr rfl ?_)) ?_))) rfl) rfl rfl rfl rfl (by simp) ?_
    refine al_take (op_aeq (r := decide ((lexP (s ++ fillL (limN s more) (limN s more))).2 = (⟨3, [], 0, 0⟩ : Flt))) rfl rfl rfl rfl (by kernel_rfl) (fun w => flt_run (lexP (s ++ fillL (limN s more) (limN s more))).2 (⟨3, [], 0, 0⟩ : Flt) w)) rfl rfl rfl rfl (by simp) ?_
    first
      | refine al_op (op_pick rfl rfl) rfl (by simp) ?_
      | refine al_op (op_and rfl rfl rfl) rfl (by simp) ?_
    refine al_op (op_move rfl) rfl (by simp) ?_
    refine al_as 50 (.v (.bool true)) rfl (by rw [hlz]; rfl) ?_
    first
      | refine al_callp_take into7 rfl rfl rfl rfl rfl rfl ((l_awake ) _) (by simp) ?_
      | refine al_callp_take into7 rfl rfl rfl rfl rfl rfl (acp_lent lend_nil (l_awake ) rfl) (by simp) ?_
    first
      | refine al_op (op_pick rfl rfl) rfl (by simp) ?_
      | refine al_op (op_and rfl rfl rfl) rfl (by simp) ?_
    refine al_op (op_assign rfl) rfl (by simp) ?_
    refine al_nil ?_
    refine aw_freeze (fun _ => false) (fsub_cons (t := 4) rfl (.leaf _ _ (.same _)) fsub_nil) ?_
    refine aw_ret ?_
    refine ⟨_, res_1 rfl rfl, ?_, rfl⟩
    rfl
   ·have gh3 := h3
    try simp only [nrm] at h3
    refine aw_skip ?_
    refine aw_seq ?_
    refine aw_region ?_
    refine al_op (op_move rfl) rfl (by simp) ?_
    refine al_op (op_move rfl) rfl (by simp) ?_
    refine al_op (op_str_row Tryz.underlying32 Tryz.underlying5 Tryz.underlying9 rfl rfl (by rw [hrl]; exact hfl.symm)) rfl (by simp) ?_
    refine al_op (op_sadd_str rfl rfl (by first | omega | (simp; omega) | (simp; done) | (simp only [List.length_append, List.length_cons, List.length_nil]; omega))) rfl (by simp) ?_
    refine al_callp into9 rfl rfl rfl (r_Lex (s ++ fillL (limN s more) (limN s more)) htl _) (by simp) ?_
    refine al_op (op_move rfl) rfl (by simp) ?_
    refine al_op (op_extract rfl rfl rfl) rfl (by simp) ?_
    refine al_op (op_extract rfl rfl rfl) rfl (by simp) ?_
    (refine al_opR (op_alloc 10 info27 rfl rfl) rfl (by simp) ?_; rintro _ _ ⟨ver10, rfl, rfl⟩)
    refine al_op (op_assign rfl) rfl (by simp) ?_
    first
      | refine al_op (op_store_ptr info27 rfl rfl rfl rfl rfl rfl (by first | rfl | exact live_one rfl | (repeat (first | exact all_live_nil | refine all_live_clo rfl ?_ | refine all_live_slice rfl ?_ | refine all_live_map rfl ?_ | refine all_live_ptr rfl ?_))) (by decide)) rfl (by simp) ?_
      | refine al_op (op_store_ptr info27 rfl rfl rfl rfl rfl rfl (by first | rfl | exact live_one rfl | (repeat (first | exact all_live_nil | refine all_live_clo rfl ?_ | refine all_live_slice rfl ?_ | refine all_live_map rfl ?_ | refine all_live_ptr rfl ?_))) (Nat.le_of_ble_eq_true rfl)) rfl (by simp) ?_
    refine al_nil ?_
    refine aw_seq ?_
    refine aw_region ?_
    first
      | refine al_op (op_load_rptr Tryz.underlying27 info27 rfl rfl) rfl (by simp) ?_
      | refine al_op (op_load_map Tryz.underlying27 info27 rfl rfl (by omega) rfl) rfl (by simp) ?_
      | refine al_op (op_load_ptr Tryz.underlying27 info27 rfl rfl rfl rfl) rfl (by simp) ?_
    first
      | refine al_op (op_load_rptr Tryz.underlying27 info27 rfl rfl) rfl (by simp) ?_
      | refine al_op (op_load_map Tryz.underlying27 info27 rfl rfl (by omega) rfl) rfl (by simp) ?_
      | refine al_op (op_load_ptr Tryz.underlying27 info27 rfl rfl rfl rfl) rfl (by simp) ?_
    refine al_op (op_aeq (r := decide ((lexP (s ++ fillL (limN s more) (limN s more))).2 = (lexP (s ++ fillL (limN s more) (limN s more))).2)) rfl rfl rfl rfl (by kernel_rfl) (fun w => flt_run (lexP (s ++ fillL (limN s more) (limN s more))).2 (lexP (s ++ fillL (limN s more) (limN s more))).2 w)) rfl (by simp) ?_
    refine al_op (op_move rfl) rfl (by simp) ?_
    refine al_as 64 (.v (.bool true)) rfl (by rw [decide_eq_true rfl]) ?_
    refine al_take (op_move rfl) rfl rfl rfl rfl (by simp) ?_
    refine al_take (op_move rfl) rfl rfl rfl rfl (by simp) ?_
    first
      | refine al_callp_take into10 rfl rfl rfl rfl rfl rfl ((r_same _ (by first | assumption | omega | (simp; done) | (simp; omega) | decide)) _) (by simp) ?_
      | refine al_callp_take into10 rfl rfl rfl rfl rfl rfl (acp_lent (lend_cons (by first | exact lend_same | exact .leaf _ _ (.vnil _) | exact .leaf _ _ (.nil _) | exact lend_whole rfl (by first | rfl | (simp; done) | (simp; omega)) (clo_map (fun _ => rfl))) (lend_cons (by first | exact lend_same | exact .leaf _ _ (.vnil _) | exact .leaf _ _ (.nil _) | exact lend_whole rfl (by first | rfl | (simp; done) | (simp; omega)) (clo_map (fun _ => rfl))) lend_nil)) (r_same _ (by first | assumption | omega | (simp; done) | (simp; omega) | decide)) rfl) (by simp) ?_
    first
      | refine al_op (op_pick rfl rfl) rfl (by simp) ?_
      | refine al_op (op_and rfl rfl rfl) rfl (by simp) ?_
    refine al_op (op_move rfl) rfl (by simp) ?_
    refine al_as 69 (.v (.bool true)) rfl (by rfl) ?_
    first
      | refine al_callp_take into7 rfl rfl rfl rfl rfl rfl ((l_awake ) _) (by simp) ?_
      | refine al_callp_take into7 rfl rfl rfl rfl rfl rfl (acp_lent lend_nil (l_awake ) rfl) (by simp) ?_
    first
      | refine al_op (op_pick rfl rfl) rfl (by simp) ?_
      | refine al_op (op_and rfl rfl rfl) rfl (by simp) ?_
    refine al_op (op_assign rfl) rfl (by simp) ?_
    refine al_nil ?_
    refine aw_freeze (fun _ => false) (fsub_cons (t := 4) rfl (.leaf _ _ (.same _)) fsub_nil) ?_
    refine aw_ret ?_
    refine ⟨_, res_1 rfl rfl, ?_, rfl⟩
    rfl
end Go.Proofs.YtbojpddejdmamaaGreatDoor
