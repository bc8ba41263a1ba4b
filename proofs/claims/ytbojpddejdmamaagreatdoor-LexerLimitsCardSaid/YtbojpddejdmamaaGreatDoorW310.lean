/- Printed walks (gen.py, lexer_ann.py): part 310. -/
import Derived.Test.YtbojpddejdmamaaGreatDoorW309
import Derived.Test.YtbojpddejdmamaaGreatDoorFacts
set_option linter.unusedVariables false
set_option linter.unusedSimpArgs false
set_option maxRecDepth 20000
set_option maxHeartbeats 40000000
namespace Go.Proofs.YtbojpddejdmamaaGreatDoor
open Go

theorem l_copied (l : List Tk) (hl : l.length ≤ 1000000000) : ACp Tryz.prog 11 [.list 5 (l.map encK)] (.list 5 (l.map encK)) := by
 refine acp_of rfl ?_
 refine ac_enter 6 Tryz.func11 rfl rfl (by simp) ?_
 refine aw_seq ?_
 refine aw_region ?_
 refine al_op (op_assign rfl) rfl (by simp) ?_
 refine al_nil ?_
 refine aw_seq ?_
 refine aw_region ?_
 refine al_op (op_build_nil Tryz.underlying24 info40 rfl rfl (by decide) rfl) rfl (by simp) ?_
 refine al_op (op_move rfl) rfl (by simp) ?_
 (refine al_opR (op_append_new 5 Tryz.underlying24 Tryz.underlying24 rfl info40 rfl rfl (by decide) rfl rfl rfl (by first | exact .list _ | exact .vnil | exact .nil | exact .row _ _ _ _ rfl (by first | rfl | simp)) rfl (by first | omega | (simp; done) | (simp; omega)) (by show _ * 48 ≤ _; first | omega | (simp; done) | (simp; omega))) rfl (by simp) ?_; rintro _ _ ⟨ver5, rfl, rfl⟩)
 refine al_op (op_assign rfl) rfl (by simp) ?_
 refine al_nil ?_
 refine aw_freeze (fun _ => false) (fsub_cons (t := 2) rfl (by first | exact .leaf _ _ (frz_whole rfl rfl (by first | rfl | (simp; done) | (simp; omega)) (clo_map (fun _ => rfl))) | exact .leaf _ _ (.vnil 5) | exact .leaf _ _ (.nil 5) | exact .leaf _ _ (.same _)) fsub_nil) ?_
 refine aw_ret ?_
 refine ⟨_, res_1 rfl rfl, ?_, rfl⟩
 rfl

theorem l_long (s : Bs) (l : List Tk) (hs : s.length ≤ 4611686018427387904) : ACp Tryz.prog 6 [.v (.string (str (s))), .list 5 (l.map encK)] (.v (.bool (longL s l))) := by
 refine acp_of rfl ?_
 refine ac_enter 35 Tryz.func6 rfl rfl (by simp) ?_
 refine aw_seq ?_
 refine aw_region ?_
 refine al_op (op_assign rfl) rfl (by simp) ?_
 refine al_nil ?_
 refine aw_seq ?_
 refine aw_region ?_
 refine al_op (op_move rfl) rfl (by simp) ?_
 refine al_op (op_slen_str (ts := #[]) Tryz.underlying9 rfl) rfl (by simp) ?_
 refine al_op (op_assign rfl) rfl (by simp) ?_
 refine al_nil ?_
 refine aw_seq ?_
 refine aw_seq ?_
 refine aw_region ?_
 refine al_op (op_assign rfl) rfl (by simp) ?_
 refine al_nil ?_
 refine aw_block ?_
 refine aw_forT (ι := Nat) [5, 6] [] (fun i => l.length - i) (fun i => i ≤ min l.length 200) (fun i => ([(5, .v (.int .i64 ((sumT s l i : Nat) : Int))), (6, .v (.int .i64 (i)))] : Env)) (fun i s => s) (0) ?_ ?_ ?_ (fun i hinv => ?_)
 ·exact Nat.zero_le _
 ·refine sub_cons (get_as rfl ?_) ?_; rotate_left; refine sub_cons (get_as rfl ?_) ?_; rotate_left; exact sub_nil
  all_goals (first | rfl | (rw [sumT_succ]) | simp)
 ·rfl
 have hsl := sumT_le s l i
 refine aw_seq ?_
 refine aw_seq ?_
 refine aw_region ?_
 refine al_op (op_move rfl) rfl (by simp) ?_
 refine al_op (op_move rfl) rfl (by simp) ?_
 first
   | refine al_op (op_len_map Tryz.underlying24 rfl) rfl (by simp) ?_
   | refine al_op (op_len_slice Tryz.underlying24 rfl rfl) rfl (by simp) ?_
   | refine al_op (op_len_list Tryz.underlying24 rfl) rfl (by simp) ?_
   | refine al_op (op_len_v Tryz.underlying24 rfl) rfl (by simp) ?_
   | refine al_op (op_len_nil Tryz.underlying24 rfl) rfl (by simp) ?_
 refine al_op (op_lss rfl rfl) rfl (by simp) ?_
 refine al_op (op_move rfl) rfl (by simp) ?_
 apply al_and 3 13 16 rfl
 ·intro h1; have gh1 := h1
  try simp only [nrm] at h1
  refine al_take (op_move rfl) rfl rfl rfl rfl (by simp) ?_
  refine al_take (op_lss rfl rfl) rfl rfl rfl rfl (by simp) ?_
  first
    | refine al_op (op_pick rfl rfl) rfl (by simp) ?_
    | refine al_op (op_and rfl rfl rfl) rfl (by simp) ?_
  refine al_nil ⟨rfl, rfl, rfl, keep_of ?_⟩
  repeat (first | exact subx_refl | exact subx_known rfl gh1 subx_refl | refine subx_put rfl ?_)
 ·intro h1; have gh1 := h1
  try simp only [nrm] at h1
  refine al_pass rfl rfl rfl rfl (by simp) ?_
  refine al_pass rfl rfl rfl rfl (by simp) ?_
  first
    | refine al_op (op_pick rfl rfl) rfl (by simp) ?_
    | refine al_op (op_and rfl rfl rfl) rfl (by simp) ?_
  refine al_nil ⟨rfl, rfl, rfl, keep_of ?_⟩
  repeat (first | exact subx_refl | exact subx_known rfl gh1 subx_refl | refine subx_put rfl ?_)
 refine al_nil ?_
 refine aw_cond rfl (fun h2 => ?_) (fun h2 => ?_)
 ·have gh2 := h2
  try simp only [nrm] at h2
  refine aw_skip ?_
  refine aw_seq ?_
  refine aw_block ?_
  refine aw_region ?_
  refine al_op (op_move rfl) rfl (by simp) ?_
  refine al_op (op_move rfl) rfl (by simp) ?_
  refine al_op (op_move rfl) rfl (by simp) ?_
  first
    | refine al_op (op_index_map default Tryz.underlying24 info40 rfl rfl rfl (by first | (with_reducible exact Int.toNat_natCast _) | rfl) (by omega) (by omega)) rfl (by simp) ?_
    | refine al_op (op_index_slice Tryz.underlying24 info40 rfl rfl rfl rfl (by omega) (by omega)) rfl (by simp) ?_
    | refine al_op (op_index_list Tryz.underlying24 info40 rfl rfl rfl (by decide) rfl) rfl (by simp) ?_
  first
    | refine al_op (op_field_rptr Tryz.underlying40 rfl info9 (by decide) rfl rfl) rfl (by simp) ?_
    | refine al_op (op_field_ptr Tryz.underlying40 rfl info9 (by decide) rfl rfl rfl) rfl (by simp) ?_
  first
    | refine al_op (op_load_rptr Tryz.underlying9 info9 rfl rfl) rfl (by simp) ?_
    | refine al_op (op_load_map Tryz.underlying9 info9 rfl rfl (by omega) rfl) rfl (by simp) ?_
    | refine al_op (op_load_ptr Tryz.underlying9 info9 rfl rfl rfl rfl) rfl (by simp) ?_
  refine al_op (op_slen_str (ts := #[]) Tryz.underlying9 rfl) rfl (by simp) ?_
  refine al_op (op_min rfl rfl) rfl (by simp) ?_
  refine al_op (op_add rfl rfl (by first | exact wrap_i64 (by omega) (by omega))) rfl (by simp) ?_
  refine al_op (op_assign rfl) rfl (by simp) ?_
  refine al_nil ?_
  refine aw_region ?_
  refine al_op (op_move rfl) rfl (by simp) ?_
  refine al_op (op_add rfl rfl (by first | exact wrap_i64 (by omega) (by omega))) rfl (by simp) ?_
  refine al_op (op_assign rfl) rfl (by simp) ?_
  refine al_nil ?_
  refine ⟨i + 1, ?_, ?_, ?_, ?_, ?_⟩
  ·omega
  ·(have h3 := Bool.and_eq_true_iff.1 gh2); (have h4 := of_decide_eq_true h3.1); (have h5 := of_decide_eq_true h3.2); omega
  ·refine sub_cons (get_as rfl ?_) ?_; rotate_left; refine sub_cons (get_as rfl ?_) ?_; rotate_left; exact sub_nil
   all_goals (first | rfl | (rw [sumT_succ]) | simp)
  ·repeat (first | exact subx_refl | exact subx_del | refine subx_put rfl ?_)
  ·rfl
 ·have gh2 := h2
  try simp only [nrm] at h2
  refine aw_exit ?_
  have hmin : i = min l.length 200 := by rcases Bool.and_eq_false_iff.1 gh2 with e | e <;> (have := of_decide_eq_false e; omega)
  refine aw_seq ?_
  refine aw_region ?_
  refine al_op (op_move rfl) rfl (by simp) ?_
  refine al_op (op_gtr rfl rfl) rfl (by simp) ?_
  refine al_op (op_move rfl) rfl (by simp) ?_
  apply al_or 4 30 34 rfl
  ·intro h3; have gh3 := h3
   try simp only [nrm] at h3
   refine al_take (op_move rfl) rfl rfl rfl rfl (by simp) ?_
   first
     | refine al_take (op_len_map Tryz.underlying24 rfl) rfl rfl rfl rfl (by simp) ?_
     | refine al_take (op_len_slice Tryz.underlying24 rfl rfl) rfl rfl rfl rfl (by simp) ?_
     | refine al_take (op_len_list Tryz.underlying24 rfl) rfl rfl rfl rfl (by simp) ?_
     | refine al_take (op_len_v Tryz.underlying24 rfl) rfl rfl rfl rfl (by simp) ?_
     | refine al_take (op_len_nil Tryz.underlying24 rfl) rfl rfl rfl rfl (by simp) ?_
   refine al_take (op_gtr rfl rfl) rfl rfl rfl rfl (by simp) ?_
   first
     | refine al_op (op_pick rfl rfl) rfl (by simp) ?_
     | refine al_op (op_or rfl rfl rfl) rfl (by simp) ?_
   refine al_nil ⟨rfl, rfl, rfl, keep_of ?_⟩
   repeat (first | exact subx_refl | exact subx_known rfl gh3 subx_refl | refine subx_put rfl ?_)
  ·intro h3; have gh3 := h3
   try simp only [nrm] at h3
   refine al_pass rfl rfl rfl rfl (by simp) ?_
   refine al_pass rfl rfl rfl rfl (by simp) ?_
   refine al_pass rfl rfl rfl rfl (by simp) ?_
   first
     | refine al_op (op_pick rfl rfl) rfl (by simp) ?_
     | refine al_op (op_or rfl rfl rfl) rfl (by simp) ?_
   refine al_nil ⟨rfl, rfl, rfl, keep_of ?_⟩
   repeat (first | exact subx_refl | exact subx_known rfl gh3 subx_refl | refine subx_put rfl ?_)
  refine al_op (op_assign rfl) rfl (by simp) ?_
  refine al_nil ?_
  refine aw_freeze (fun _ => false) (fsub_cons (t := 4) rfl (.leaf _ _ (.same _)) fsub_nil) ?_
  refine aw_ret ?_
  refine ⟨_, res_1 rfl rfl, ?_, rfl⟩
  rw [longL, ← hmin] <;> rfl

theorem l_awake  : ACp Tryz.prog 7 [] (.v (.bool (true))) := by
 refine acp_of rfl ?_
 refine ac_enter 81 Tryz.func7 rfl rfl (by simp) ?_
 refine aw_seq ?_
 refine aw_region ?_
 refine al_op (op_assign rfl) rfl (by simp) ?_
 refine al_nil ?_
 refine aw_seq ?_
 refine aw_region ?_
 first
   | refine al_callp into8 rfl rfl rfl ((c_Lex _ (by first | assumption | omega | (simp; done) | (simp; omega) | decide)) _) (by simp) ?_
   | refine al_callp into8 rfl rfl rfl (ac_told (re_cons (by first | exact .leaf _ _ (.same _) | exact .leaf _ _ (.vnil _) | exact .leaf _ _ (.nil _)) re_nil) ((c_Lex _ (by first | assumption | omega | (simp; done) | (simp; omega) | decide)) _)) (by simp) ?_
 refine al_as 10 (.tuple [.list 5 ((exA).map encK), .agg (encF okF)]) rfl (by rw [exA_lex]) ?_
 refine al_op (op_move rfl) rfl (by simp) ?_
 refine al_op (op_extract rfl rfl rfl) rfl (by simp) ?_
 refine al_op (op_extract rfl rfl rfl) rfl (by simp) ?_
 (refine al_opR (op_alloc 2 info27 rfl rfl) rfl (by simp) ?_; rintro _ _ ⟨ver2, rfl, rfl⟩)
 refine al_op (op_assign rfl) rfl (by simp) ?_
 first
   | refine al_op (op_store_ptr info27 rfl rfl rfl rfl rfl rfl (by first | rfl | exact live_one rfl | (repeat (first | exact all_live_nil | refine all_live_clo rfl ?_ | refine all_live_slice rfl ?_ | refine all_live_map rfl ?_ | refine all_live_ptr rfl ?_))) (by decide)) rfl (by simp) ?_
   | refine al_op (op_store_ptr info27 rfl rfl rfl rfl rfl rfl (by first | rfl | exact live_one rfl | (repeat (first | exact all_live_nil | refine all_live_clo rfl ?_ | refine all_live_slice rfl ?_ | refine all_live_map rfl ?_ | refine all_live_ptr rfl ?_))) (Nat.le_of_ble_eq_true rfl)) rfl (by simp) ?_
 refine al_nil ?_
 refine aw_seq ?_
 refine aw_region ?_
 first
   | refine al_callp into8 rfl rfl rfl ((c_Lex _ (by first | assumption | omega | (simp; done) | (simp; omega) | decide)) _) (by simp) ?_
   | refine al_callp into8 rfl rfl rfl (ac_told (re_cons (by first | exact .leaf _ _ (.same _) | exact .leaf _ _ (.vnil _) | exact .leaf _ _ (.nil _)) re_nil) ((c_Lex _ (by first | assumption | omega | (simp; done) | (simp; omega) | decide)) _)) (by simp) ?_
 refine al_as 14 (.tuple [.list 5 (([] : List Tk).map encK), .agg (encF ⟨10, [98], 1, 1⟩)]) rfl (by rw [exB_lex]) ?_
 refine al_op (op_move rfl) rfl (by simp) ?_
 refine al_op (op_extract rfl rfl rfl) rfl (by simp) ?_
 refine al_op (op_extract rfl rfl rfl) rfl (by simp) ?_
 (refine al_opR (op_alloc 4 info27 rfl rfl) rfl (by simp) ?_; rintro _ _ ⟨ver4, rfl, rfl⟩)
 refine al_op (op_assign rfl) rfl (by simp) ?_
 first
   | refine al_op (op_store_ptr info27 rfl rfl rfl rfl rfl rfl (by first | rfl | exact live_one rfl | (repeat (first | exact all_live_nil | refine all_live_clo rfl ?_ | refine all_live_slice rfl ?_ | refine all_live_map rfl ?_ | refine all_live_ptr rfl ?_))) (by decide)) rfl (by simp) ?_
   | refine al_op (op_store_ptr info27 rfl rfl rfl rfl rfl rfl (by first | rfl | exact live_one rfl | (repeat (first | exact all_live_nil | refine all_live_clo rfl ?_ | refine all_live_slice rfl ?_ | refine all_live_map rfl ?_ | refine all_live_ptr rfl ?_))) (Nat.le_of_ble_eq_true rfl)) rfl (by simp) ?_
 refine al_nil ?_
 refine aw_seq ?_
 refine aw_region ?_
 first
   | refine al_callp into8 rfl rfl rfl ((c_Lex _ (by first | assumption | omega | (simp; done) | (simp; omega) | decide)) _) (by simp) ?_
   | refine al_callp into8 rfl rfl rfl (ac_told (re_cons (by first | exact .leaf _ _ (.same _) | exact .leaf _ _ (.vnil _) | exact .leaf _ _ (.nil _)) re_nil) ((c_Lex _ (by first | assumption | omega | (simp; done) | (simp; omega) | decide)) _)) (by simp) ?_
 refine al_as 18 (.tuple [.list 5 (([] : List Tk).map encK), .agg (encF ⟨10, [49], 2, 2⟩)]) rfl (by rw [exC_lex]) ?_
 refine al_op (op_move rfl) rfl (by simp) ?_
 refine al_op (op_extract rfl rfl rfl) rfl (by simp) ?_
 refine al_op (op_extract rfl rfl rfl) rfl (by simp) ?_
 (refine al_opR (op_alloc 6 info27 rfl rfl) rfl (by simp) ?_; rintro _ _ ⟨ver6, rfl, rfl⟩)
 refine al_op (op_assign rfl) rfl (by simp) ?_
 first
   | refine al_op (op_store_ptr info27 rfl rfl rfl rfl rfl rfl (by first | rfl | exact live_one rfl | (repeat (first | exact all_live_nil | refine all_live_clo rfl ?_ | refine all_live_slice rfl ?_ | refine all_live_map rfl ?_ | refine all_live_ptr rfl ?_))) (by decide)) rfl (by simp) ?_
   | refine al_op (op_store_ptr info27 rfl rfl rfl rfl rfl rfl (by first | rfl | exact live_one rfl | (repeat (first | exact all_live_nil | refine all_live_clo rfl ?_ | refine all_live_slice rfl ?_ | refine all_live_map rfl ?_ | refine all_live_ptr rfl ?_))) (Nat.le_of_ble_eq_true rfl)) rfl (by simp) ?_
 refine al_nil ?_
 refine aw_seq ?_
 refine aw_region ?_
 refine al_op (op_build_struct Tryz.underlying40 info40 rfl place40 rfl (by first | rfl | (repeat (first | exact parts_nil | refine parts_cons rfl (by repeat (first | exact all_live_nil | refine all_live_clo rfl ?_ | refine all_live_slice rfl ?_ | refine all_live_map rfl ?_ | refine all_live_ptr rfl ?_)) ?_))) rfl) rfl (by simp) ?_
 refine al_op (op_build_struct Tryz.underlying40 info40 rfl place40 rfl (by first | rfl | (repeat (first | exact parts_nil | refine parts_cons rfl (by repeat (first | exact all_live_nil | refine all_live_clo rfl ?_ | refine all_live_slice rfl ?_ | refine all_live_map rfl ?_ | refine all_live_ptr rfl ?_)) ?_))) rfl) rfl (by simp) ?_
 refine al_op (op_build_struct Tryz.underlying40 info40 rfl place40 rfl (by first | rfl | (repeat (first | exact parts_nil | refine parts_cons rfl (by repeat (first | exact all_live_nil | refine all_live_clo rfl ?_ | refine all_live_slice rfl ?_ | refine all_live_map rfl ?_ | refine all_live_ptr rfl ?_)) ?_))) rfl) rfl (by simp) ?_
 refine al_op (op_list encK exTs Tryz.underlying24 info40 rfl rfl (by decide) rfl (by decide) rfl (by first | rfl | (repeat (first | exact parts_nil | refine parts_cons rfl (by repeat (first | exact all_live_nil | refine all_live_clo rfl ?_ | refine all_live_slice rfl ?_ | refine all_live_map rfl ?_ | refine all_live_ptr rfl ?_)) ?_))) rfl rfl rfl rfl) rfl (by simp) ?_
 refine al_callp into12 rfl rfl rfl (c_Text exTs exTs_ok (by decide) _) (by simp) ?_
 refine al_as 26 (.tuple [.v (.string (str ([97, 32, 55, 32, 34, 120, 32, 121, 34]))), .v (.int .i64 (0))]) rfl (by rw [exTs_text]) ?_
 refine al_op (op_move rfl) rfl (by simp) ?_
 refine al_op (op_extract rfl rfl rfl) rfl (by simp) ?_
 refine al_op (op_extract rfl rfl rfl) rfl (by simp) ?_
 refine al_op (op_assign rfl) rfl (by simp) ?_
 refine al_op (op_assign rfl) rfl (by simp) ?_
 refine al_nil ?_
 refine aw_seq ?_
 refine aw_seq ?_
 refine aw_region ?_
 refine al_op (op_move rfl) rfl (by simp) ?_
 first
   | refine al_op (op_len_map Tryz.underlying24 rfl) rfl (by simp) ?_
   | refine al_op (op_len_slice Tryz.underlying24 rfl rfl) rfl (by simp) ?_
   | refine al_op (op_len_list Tryz.underlying24 rfl) rfl (by simp) ?_
   | refine al_op (op_len_v Tryz.underlying24 rfl) rfl (by simp) ?_
   | refine al_op (op_len_nil Tryz.underlying24 rfl) rfl (by simp) ?_
 refine al_op (op_neq rfl rfl) rfl (by simp) ?_
 refine al_op (op_move rfl) rfl (by simp) ?_
 refine al_as 32 (.v (.bool false)) rfl (by rfl) ?_
 first
   | refine al_take (op_load_rptr Tryz.underlying27 info27 rfl rfl) rfl rfl rfl rfl (by simp) ?_
   | refine al_take (op_load_map Tryz.underlying27 info27 rfl rfl (by omega) rfl) rfl rfl rfl rfl (by simp) ?_
   | refine al_take (op_load_ptr Tryz.underlying27 info27 rfl rfl rfl rfl) rfl rfl rfl rfl (by simp) ?_
 refine al_take (op_build_struct Tryz.underlying27 info27 rfl place27 rfl (by first | rfl | (repeat (first | exact parts_nil | refine parts_cons rfl (by repeat (first | exact all_live_nil | refine all_live_clo rfl ?_ | refine all_live_slice rfl ?_ | refine all_live_map rfl ?_ | refine all_live_ptr rfl ?_)) ?_))) rfl) rfl rfl rfl rfl (by simp) ?_
 refine al_take (op_aneq (r := true) rfl rfl rfl rfl (by kernel_rfl) (fun w => by kernel_rfl)) rfl rfl rfl rfl (by simp) ?_
 first
   | refine al_op (op_pick rfl rfl) rfl (by simp) ?_
   | refine al_op (op_or rfl rfl rfl) rfl (by simp) ?_
 refine al_nil ?_
 refine aw_cond rfl (fun h1 => ?_) (fun h1 => ?_)
 ·have gh1 := h1
  try simp only [nrm] at h1
  exact absurd gh1 (by decide)
 ·have gh1 := h1
  try simp only [nrm] at h1
  refine aw_skip ?_
  refine aw_seq ?_
  refine aw_region ?_
  refine al_op (op_move rfl) rfl (by simp) ?_
  first
    | refine al_op (op_index_map default Tryz.underlying24 info40 rfl rfl rfl (by first | (with_reducible exact Int.toNat_natCast _) | rfl) (by omega) (by omega)) rfl (by simp) ?_
    | refine al_op (op_index_slice Tryz.underlying24 info40 rfl rfl rfl rfl (by omega) (by omega)) rfl (by simp) ?_
    | refine al_op (op_index_list Tryz.underlying24 info40 rfl rfl rfl (by decide) rfl) rfl (by simp) ?_
  first
    | refine al_op (op_load_rptr Tryz.underlying40 info40 rfl rfl) rfl (by simp) ?_
    | refine al_op (op_load_map Tryz.underlying40 info40 rfl rfl (by omega) rfl) rfl (by simp) ?_
    | refine al_op (op_load_ptr Tryz.underlying40 info40 rfl rfl rfl rfl) rfl (by simp) ?_
  refine al_op (op_build_struct Tryz.underlying40 info40 rfl place40 rfl (by first | rfl | (repeat (first | exact parts_nil | refine parts_cons rfl (by repeat (first | exact all_live_nil | refine all_live_clo rfl ?_ | refine all_live_slice rfl ?_ | refine all_live_map rfl ?_ | refine all_live_ptr rfl ?_)) ?_))) rfl) rfl (by simp) ?_
  refine al_op (op_aeq (r := true) rfl rfl rfl rfl (by kernel_rfl) (fun w => by kernel_rfl)) rfl (by simp) ?_
  refine al_op (op_move rfl) rfl (by simp) ?_
  refine al_as 42 (.v (.bool true)) rfl (by rfl) ?_
  refine al_take (op_move rfl) rfl rfl rfl rfl (by simp) ?_
  first
    | refine al_take (op_index_map default Tryz.underlying24 info40 rfl rfl rfl (by first | (with_reducible exact Int.toNat_natCast _) | rfl) (by omega) (by omega)) rfl rfl rfl rfl (by simp) ?_
    | refine al_take (op_index_slice Tryz.underlying24 info40 rfl rfl rfl rfl (by omega) (by omega)) rfl rfl rfl rfl (by simp) ?_
    | refine al_take (op_index_list Tryz.underlying24 info40 rfl rfl rfl (by decide) rfl) rfl rfl rfl rfl (by simp) ?_
  first
    | refine al_take (op_load_rptr Tryz.underlying40 info40 rfl rfl) rfl rfl rfl rfl (by simp) ?_
    | refine al_take (op_load_map Tryz.underlying40 info40 rfl rfl (by omega) rfl) rfl rfl rfl rfl (by simp) ?_
    | refine al_take (op_load_ptr Tryz.underlying40 info40 rfl rfl rfl rfl) rfl rfl rfl rfl (by simp) ?_
  refine al_take (op_build_struct Tryz.underlying40 info40 rfl place40 rfl (by first | rfl | (repeat (first | exact parts_nil | refine parts_cons rfl (by repeat (first | exact all_live_nil | refine all_live_clo rfl ?_ | refine all_live_slice rfl ?_ | refine all_live_map rfl ?_ | refine all_live_ptr rfl ?_)) ?_))) rfl) rfl rfl rfl rfl (by simp) ?_
  refine al_take (op_aeq (r := true) rfl rfl rfl rfl (by kernel_rfl) (fun w => by kernel_rfl)) rfl rfl rfl rfl (by simp) ?_
  first
    | refine al_op (op_pick rfl rfl) rfl (by simp) ?_
    | refine al_op (op_and rfl rfl rfl) rfl (by simp) ?_
  refine al_op (op_move rfl) rfl (by simp) ?_
  refine al_as 49 (.v (.bool true)) rfl (by rfl) ?_
  first
    | refine al_take (op_load_rptr Tryz.underlying27 info27 rfl rfl) rfl rfl rfl rfl (by simp) ?_
    | refine al_take (op_load_map Tryz.underlying27 info27 rfl rfl (by omega) rfl) rfl rfl rfl rfl (by simp) ?_
    | refine al_take (op_load_ptr Tryz.underlying27 info27 rfl rfl rfl rfl) rfl rfl rfl rfl (by simp) ?_
  refine al_take (op_build_struct Tryz.underlying27 info27 rfl place27 rfl (by first | rfl | (repeat (first | exact parts_nil | refine parts_cons rfl (by repeat (first | exact all_live_nil | refine all_live_clo rfl ?_ | refine all_live_slice rfl ?_ | refine all_live_map rfl ?_ | refine all_live_ptr rfl ?_)) ?_))) rfl) rfl rfl rfl rfl (by simp) ?_
  refine al_take (op_aeq (r := true) rfl rfl rfl rfl (by kernel_rfl) (fun w => by kernel_rfl)) rfl rfl rfl rfl (by simp) ?_
  first
    | refine al_op (op_pick rfl rfl) rfl (by simp) ?_
    | refine al_op (op_and rfl rfl rfl) rfl (by simp) ?_
  refine al_op (op_move rfl) rfl (by simp) ?_
  refine al_as 54 (.v (.bool true)) rfl (by rfl) ?_
  first
    | refine al_take (op_load_rptr Tryz.underlying27 info27 rfl rfl) rfl rfl rfl rfl (by simp) ?_
    | refine al_take (op_load_map Tryz.underlying27 info27 rfl rfl (by omega) rfl) rfl rfl rfl rfl (by simp) ?_
    | refine al_take (op_load_ptr Tryz.underlying27 info27 rfl rfl rfl rfl) rfl rfl rfl rfl (by simp) ?_
  refine al_take (op_build_struct Tryz.underlying27 info27 rfl place27 rfl (by first | rfl | (repeat (first | exact parts_nil | refine parts_cons rfl (by repeat (first | exact all_live_nil | refine all_live_clo rfl ?_ | refine all_live_slice rfl ?_ | refine all_live_map rfl ?_ | refine all_live_ptr rfl ?_)) ?_))) rfl) rfl rfl rfl rfl (by simp) ?_
  refine al_take (op_aeq (r := true) rfl rfl rfl rfl (by kernel_rfl) (fun w => by kernel_rfl)) rfl rfl rfl rfl (by simp) ?_
  first
    | refine al_op (op_pick rfl rfl) rfl (by simp) ?_
    | refine al_op (op_and rfl rfl rfl) rfl (by simp) ?_
  refine al_op (op_move rfl) rfl (by simp) ?_
  refine al_as 59 (.v (.bool true)) rfl (by rfl) ?_
  refine al_take (op_move rfl) rfl rfl rfl rfl (by simp) ?_
  refine al_take (op_seql_str rfl rfl) rfl rfl rfl rfl (by simp) ?_
  first
    | refine al_op (op_pick rfl rfl) rfl (by simp) ?_
    | refine al_op (op_and rfl rfl rfl) rfl (by simp) ?_
  refine al_op (op_move rfl) rfl (by simp) ?_
  refine al_as 63 (.v (.bool true)) rfl (by rfl) ?_
  refine al_take (op_move rfl) rfl rfl rfl rfl (by simp) ?_
  refine al_take (op_eql rfl rfl) rfl rfl rfl rfl (by simp) ?_
  first
    | refine al_op (op_pick rfl rfl) rfl (by simp) ?_
    | refine al_op (op_and rfl rfl rfl) rfl (by simp) ?_
  refine al_op (op_move rfl) rfl (by simp) ?_
  refine al_as 67 (.v (.bool true)) rfl (by rfl) ?_
  first
    | refine al_callp_take into14 rfl rfl rfl rfl rfl rfl ((c_isName _ (by first | assumption | omega | (simp; done) | (simp; omega) | decide)) _) (by simp) ?_
    | refine al_callp_take into14 rfl rfl rfl rfl rfl rfl (acp_lent (lend_cons (by first | exact lend_same | exact .leaf _ _ (.vnil _) | exact .leaf _ _ (.nil _) | exact lend_whole rfl (by first | rfl | (simp; done) | (simp; omega)) (clo_map (fun _ => rfl))) lend_nil) (c_isName _ (by first | assumption | omega | (simp; done) | (simp; omega) | decide)) rfl) (by simp) ?_
  first
    | refine al_op (op_pick rfl rfl) rfl (by simp) ?_
    | refine al_op (op_and rfl rfl rfl) rfl (by simp) ?_
  refine al_op (op_move rfl) rfl (by simp) ?_
  refine al_as 70 (.v (.bool true)) rfl (by rw [ex_name1]) ?_
  first
    | refine al_callp_take into14 rfl rfl rfl rfl rfl rfl ((c_isName _ (by first | assumption | omega | (simp; done) | (simp; omega) | decide)) _) (by simp) ?_
    | refine al_callp_take into14 rfl rfl rfl rfl rfl rfl (acp_lent (lend_cons (by first | exact lend_same | exact .leaf _ _ (.vnil _) | exact .leaf _ _ (.nil _) | exact lend_whole rfl (by first | rfl | (simp; done) | (simp; omega)) (clo_map (fun _ => rfl))) lend_nil) (c_isName _ (by first | assumption | omega | (simp; done) | (simp; omega) | decide)) rfl) (by simp) ?_
  refine al_take (op_not rfl) rfl rfl rfl rfl (by simp) ?_
  first
    | refine al_op (op_pick rfl rfl) rfl (by simp) ?_
    | refine al_op (op_and rfl rfl rfl) rfl (by simp) ?_
  refine al_op (op_move rfl) rfl (by simp) ?_
  refine al_as 74 (.v (.bool true)) rfl (by rw [ex_name2]; rfl) ?_
  first
    | refine al_callp_take into15 rfl rfl rfl rfl rfl rfl ((c_isWord _ (by first | assumption | omega | (simp; done) | (simp; omega) | decide)) _) (by simp) ?_
    | refine al_callp_take into15 rfl rfl rfl rfl rfl rfl (acp_lent (lend_cons (by first | exact lend_same | exact .leaf _ _ (.vnil _) | exact .leaf _ _ (.nil _) | exact lend_whole rfl (by first | rfl | (simp; done) | (simp; omega)) (clo_map (fun _ => rfl))) lend_nil) (c_isWord _ (by first | assumption | omega | (simp; done) | (simp; omega) | decide)) rfl) (by simp) ?_
  first
    | refine al_op (op_pick rfl rfl) rfl (by simp) ?_
    | refine al_op (op_and rfl rfl rfl) rfl (by simp) ?_
  refine al_op (op_move rfl) rfl (by simp) ?_
  refine al_as 77 (.v (.bool true)) rfl (by rw [ex_word1]) ?_
  first
    | refine al_callp_take into15 rfl rfl rfl rfl rfl rfl ((c_isWord _ (by first | assumption | omega | (simp; done) | (simp; omega) | decide)) _) (by simp) ?_
    | refine al_callp_take into15 rfl rfl rfl rfl rfl rfl (acp_lent (lend_cons (by first | exact lend_same | exact .leaf _ _ (.vnil _) | exact .leaf _ _ (.nil _) | exact lend_whole rfl (by first | rfl | (simp; done) | (simp; omega)) (clo_map (fun _ => rfl))) lend_nil) (c_isWord _ (by first | assumption | omega | (simp; done) | (simp; omega) | decide)) rfl) (by simp) ?_
  refine al_take (op_not rfl) rfl rfl rfl rfl (by simp) ?_
  first
    | refine al_op (op_pick rfl rfl) rfl (by simp) ?_
    | refine al_op (op_and rfl rfl rfl) rfl (by simp) ?_
  refine al_op (op_assign rfl) rfl (by simp) ?_
  refine al_nil ?_
  refine aw_freeze (fun _ => false) (fsub_cons (t := 0) rfl (.leaf _ _ (.same _)) fsub_nil) ?_
  refine aw_ret ?_
  refine ⟨_, res_1 rfl rfl, ?_, rfl⟩
  rw [ex_word2]; rfl
end Go.Proofs.YtbojpddejdmamaaGreatDoor
