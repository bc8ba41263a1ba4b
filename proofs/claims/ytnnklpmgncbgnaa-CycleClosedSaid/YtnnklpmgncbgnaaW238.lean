/- Printed walks (gen.py, gates_ann.py): part 238. -/
import Derived.Test.YtnnklpmgncbgnaaW231
import Derived.Test.YtnnklpmgncbgnaaCClosed
import Derived.Test.YtnnklpmgncbgnaaFacts
set_option linter.unusedVariables false
set_option linter.unusedSimpArgs false
set_option maxRecDepth 20000
set_option maxHeartbeats 40000000
namespace Go.Proofs.Ytnnklpmgncbgnaa
open Go

theorem l_number (l : List Int) (hb : Bit01 l) (hl : l.length ≤ 40) : ACp Try.prog 21 [.list 1 (l.map encB)] (.v (.int .i64 ((num l : Nat) : Int))) := by
 refine acp_of rfl ?_
 refine ac_enter 21 Try.func21 rfl rfl (by simp) ?_
 refine aw_seq ?_
 refine aw_region ?_
 refine al_op (op_assign rfl) rfl (by simp) ?_
 refine al_nil ?_
 refine aw_seq ?_
 refine aw_region ?_
 refine al_op (op_assign rfl) rfl (by simp) ?_
 refine al_nil ?_
 refine aw_seq ?_
 refine aw_seq ?_
 refine aw_region ?_
 refine al_op (op_move rfl) rfl (by simp) ?_
 first
   | refine al_op (op_len_map Try.underlying40 rfl) rfl (by simp) ?_
   | refine al_op (op_len_slice Try.underlying40 rfl rfl) rfl (by simp) ?_
   | refine al_op (op_len_list Try.underlying40 rfl) rfl (by simp) ?_
   | refine al_op (op_len_v Try.underlying40 rfl) rfl (by simp) ?_
   | refine al_op (op_len_nil Try.underlying40 rfl) rfl (by simp) ?_
 refine al_op (op_move rfl) rfl (by simp) ?_
 refine al_nil ?_
 refine aw_block ?_
 refine aw_forT (ι := Nat) [3, 8] [] (fun i => l.length - i) (fun i => i ≤ l.length) (fun i => ([(3, .v (.int .i64 ((numTo l i : Nat) : Int))), (8, .v (.int .i64 (i)))] : Env)) (fun i s => s) (0) ?_ ?_ ?_ (fun i hinv => ?_)
 ·exact Nat.zero_le _
 ·refine sub_cons (get_as rfl ?_) ?_; rotate_left; refine sub_cons (get_as rfl ?_) ?_; rotate_left; exact sub_nil
  all_goals (first | rfl | simp)
 ·rfl
 refine aw_seq ?_
 refine aw_region ?_
 refine al_op (op_lss rfl rfl) rfl (by simp) ?_
 refine al_nil ?_
 refine aw_seq ?_
 refine aw_cond rfl (fun h1 => ?_) (fun h1 => ?_)
 ·have gh1 := h1
  try simp only [nrm] at h1
  refine aw_skip ?_
  refine aw_seq ?_
  refine aw_block ?_
  refine aw_seq ?_
  refine aw_region ?_
  refine al_op (op_move rfl) rfl (by simp) ?_
  first
    | refine al_op (op_index_map default Try.underlying40 info41 rfl rfl rfl (by first | (with_reducible exact Int.toNat_natCast _) | rfl) (by omega) (by omega)) rfl (by simp) ?_
    | refine al_op (op_index_slice Try.underlying40 info41 rfl rfl rfl rfl (by omega) (by omega)) rfl (by simp) ?_
    | refine al_op (op_index_list Try.underlying40 info41 rfl rfl rfl (by decide) rfl) rfl (by simp) ?_
  first
    | refine al_op (op_load_rptr Try.underlying41 info41 rfl rfl) rfl (by simp) ?_
    | refine al_op (op_load_map Try.underlying41 info41 rfl rfl (by omega) rfl) rfl (by simp) ?_
    | refine al_op (op_load_ptr Try.underlying41 info41 rfl rfl rfl rfl) rfl (by simp) ?_
  refine al_op (op_assign rfl) rfl (by simp) ?_
  refine al_op (op_assign rfl) rfl (by simp) ?_
  refine al_nil ?_
  obtain ⟨g1, g2, g3⟩ := bit01_get hb i
  have hb3 := lt62 (numTo_lt hb (i + 1)) (by omega)
  have hna := num_add hb i
  refine aw_region ?_
  refine al_op (op_move rfl) rfl (by simp) ?_
  refine al_op (op_move rfl) rfl (by simp) ?_
  refine al_op (op_conv Try.underlying41 Try.underlying3 rfl (conv_nat (by omega) (by omega))) rfl (by simp) ?_
  refine al_op (op_move rfl) rfl (by simp) ?_
  refine al_op (op_shl rfl rfl (by omega) (shl_i64 (by omega) (by omega))) rfl (by simp) ?_
  refine al_op (op_add rfl rfl ((congrArg IntKind.i64.wrap hna).trans (wrap_i64 (by omega) (by omega)))) rfl (by simp) ?_
  refine al_op (op_assign rfl) rfl (by simp) ?_
  refine al_nil ?_
  refine aw_region ?_
  refine al_op (op_add rfl rfl (by first | exact wrap_i64 (by omega) (by omega))) rfl (by simp) ?_
  refine al_op (op_move rfl) rfl (by simp) ?_
  refine al_nil ?_
  refine ⟨i + 1, ?_, ?_, ?_, ?_, ?_⟩
  ·omega
  ·omega
  ·refine sub_cons (get_as rfl ?_) ?_; rotate_left; refine sub_cons (get_as rfl ?_) ?_; rotate_left; exact sub_nil
   all_goals (first | rfl | simp)
  ·repeat (first | exact subx_refl | exact subx_del | refine subx_put rfl ?_)
  ·rfl
 ·have gh1 := h1
  try simp only [nrm] at h1
  refine aw_exit ?_
  obtain rfl : i = l.length := by omega
  refine aw_seq ?_
  refine aw_region ?_
  refine al_op (op_move rfl) rfl (by simp) ?_
  refine al_op (op_assign rfl) rfl (by simp) ?_
  refine al_nil ?_
  refine aw_freeze (fun _ => false) (fsub_cons (t := 2) rfl (.leaf _ _ (.same _)) fsub_nil) ?_
  refine aw_ret ?_
  refine ⟨_, res_1 rfl rfl, ?_, rfl⟩
  rfl

theorem l_split (x : Int) (m : Nat) (h0 : 0 ≤ x) (h1 : x ≤ 4611686018427387904) (hm : m ≤ 60) : ACp Try.prog 26 [.v (.int .i64 (x)), .v (.int .i64 ((m : Int)))] (.list 1 ((bitsI x m).map encB)) := by
 refine acp_of rfl ?_
 refine ac_enter 21 Try.func26 rfl rfl (by simp) ?_
 refine aw_seq ?_
 refine aw_region ?_
 refine al_op (op_assign rfl) rfl (by simp) ?_
 refine al_nil ?_
 refine aw_seq ?_
 refine aw_region ?_
 refine al_op (op_assign rfl) rfl (by simp) ?_
 refine al_nil ?_
 refine aw_seq ?_
 refine aw_seq ?_
 refine aw_region ?_
 refine al_op (op_assign rfl) rfl (by simp) ?_
 refine al_nil ?_
 refine aw_block ?_
 refine aw_own_map encB 5 1 5 rfl rfl (fun ver5 => ?_)
 refine aw_for2T (α := Nat) (β := Nat) [5, 6] [] (fun i ver => m - i) (fun i ver => i ≤ m) (fun i ver => ([(5, .slice 5 ver 0 (bitsI x i).length), (6, .v (.int .i64 (i)))] : Env)) (fun i ver s => s.put 5 ver (.row 1 ((bitsI x i).map encB))) (0) (ver5) ?_ ?_ ?_ (fun i ver hinv => ?_)
 ·exact Nat.zero_le _
 ·refine sub_cons (get_as rfl ?_) ?_; rotate_left; refine sub_cons (get_as rfl ?_) ?_; rotate_left; exact sub_nil
  all_goals (first | rfl | (simp; done) | (rw [bitsI_succ] <;> rfl))
 ·rfl
 have hlen := bitsI_length x i
 refine aw_seq ?_
 refine aw_seq ?_
 refine aw_region ?_
 refine al_op (op_move rfl) rfl (by simp) ?_
 refine al_op (op_move rfl) rfl (by simp) ?_
 refine al_op (op_lss rfl rfl) rfl (by simp) ?_
 refine al_nil ?_
 refine aw_cond rfl (fun h1 => ?_) (fun h1 => ?_)
 ·have gh1 := h1
  try simp only [nrm] at h1
  refine aw_skip ?_
  refine aw_seq ?_
  refine aw_block ?_
  have hbr := bitI_range x i
  refine aw_region ?_
  refine al_op (op_move rfl) rfl (by simp) ?_
  refine al_op (op_move rfl) rfl (by simp) ?_
  refine al_op (op_move rfl) rfl (by simp) ?_
  refine al_op (op_shr rfl rfl (by omega) (shr_i64 (by omega))) rfl (by simp) ?_
  refine al_op (op_bitand rfl rfl (and_one _)) rfl (by simp) ?_
  refine al_op (op_conv Try.underlying3 Try.underlying41 rfl (bit_u8 x i)) rfl (by simp) ?_
  refine al_op (op_buildSlice Try.underlying40 info41 rfl rfl (by decide) rfl (by decide) rfl (by first | rfl | (repeat (first | exact parts_nil | refine parts_cons rfl (by repeat (first | exact all_live_nil | refine all_live_clo rfl ?_ | refine all_live_slice rfl ?_ | refine all_live_map rfl ?_ | refine all_live_ptr rfl ?_)) ?_))) rfl rfl rfl) rfl (by simp) ?_
  first
    | (refine al_opR (op_append_one (bitI x i) Try.underlying40 Try.underlying40 rfl info41 rfl rfl (by decide) rfl rfl rfl (by first | rfl | simp) rfl rfl (by first | omega | (simp; done) | (simp; omega)) (by show _ * 1 ≤ _; first | omega | (simp; done) | (simp; omega))) rfl (by simp) ?_; rintro _ _ ⟨ver19, rfl, rfl⟩)
    | (refine al_opR (op_append_map Try.underlying40 Try.underlying40 rfl info41 rfl rfl (by decide) rfl rfl rfl (by first | rfl | simp) rfl (by first | exact .list _ | exact .vnil | exact .nil | exact .row _ _ _ _ rfl (by first | rfl | simp)) rfl (by first | omega | (simp; done) | (simp; omega)) (by show _ * 1 ≤ _; first | omega | (simp; done) | (simp; omega))) rfl (by simp) ?_; rintro _ _ ⟨ver19, rfl, rfl⟩)
  refine al_op (op_assign rfl) rfl (by simp) ?_
  refine al_nil ?_
  refine aw_region ?_
  refine al_op (op_move rfl) rfl (by simp) ?_
  refine al_op (op_add rfl rfl (by first | exact wrap_i64 (by omega) (by omega))) rfl (by simp) ?_
  refine al_op (op_assign rfl) rfl (by simp) ?_
  refine al_nil ?_
  refine ⟨i + 1, ver19, ?_, ?_, ?_, ?_, ?_⟩
  ·omega
  ·omega
  ·refine sub_cons (get_as rfl ?_) ?_; rotate_left; refine sub_cons (get_as rfl ?_) ?_; rotate_left; exact sub_nil
   all_goals (first | rfl | (simp; done) | (rw [bitsI_succ] <;> rfl))
  ·repeat (first | exact subx_refl | exact subx_del | refine subx_put rfl ?_)
  ·(rw [bitsI_succ] <;> rfl)
 ·have gh1 := h1
  try simp only [nrm] at h1
  refine aw_exit ?_
  obtain rfl : i = m := by omega
  refine aw_seq ?_
  refine aw_region ?_
  refine al_op (op_move rfl) rfl (by simp) ?_
  refine al_op (op_assign rfl) rfl (by simp) ?_
  refine al_nil ?_
  refine aw_freeze (fun _ => false) (fsub_cons (t := 4) rfl (by first | exact .leaf _ _ (frz_whole rfl rfl (by first | rfl | (simp; done) | (simp; omega)) (clo_map (fun _ => rfl))) | exact .leaf _ _ (.vnil 1) | exact .leaf _ _ (.nil 1) | exact .leaf _ _ (.same _)) fsub_nil) ?_
  refine aw_ret ?_
  refine ⟨_, res_1 rfl rfl, ?_, rfl⟩
  rfl

theorem law_CycleClosed (n : Net) (hn : n.Small) : ACp Try.prog 5 [encN n] (.v (.bool (true))) := by
 refine acp_of rfl ?_
 have z1 := hn.insL
 have z2 := hn.regsL
 have z4 := hn.gatesL
 refine ac_enter 177 Try.func5 rfl rfl (by simp) ?_
 refine aw_seq ?_
 refine aw_region ?_
 (refine al_opR (op_box 1 rfl rfl (by first | rfl | exact live_one rfl | (repeat (first | exact all_live_nil | refine all_live_clo rfl ?_ | refine all_live_slice rfl ?_ | refine all_live_map rfl ?_ | refine all_live_ptr rfl ?_)))) rfl (by simp) ?_; rintro _ _ ⟨ver1, rfl, rfl⟩)
 refine al_op (op_assign rfl) rfl (by simp) ?_
 refine al_nil ?_
 refine aw_seq ?_
 refine aw_seq ?_
 refine aw_region ?_
 first
   | refine al_op (op_load_rptr Try.underlying27 info27 rfl rfl) rfl (by simp) ?_
   | refine al_op (op_load_map Try.underlying27 info27 rfl rfl (by omega) rfl) rfl (by simp) ?_
   | refine al_op (op_load_ptr Try.underlying27 info27 rfl rfl rfl rfl) rfl (by simp) ?_
 first
   | refine al_callp into19 rfl rfl rfl ((l_light _ (by assumption)) _) (by simp) ?_
   | refine al_callp into19 rfl rfl rfl (acp_lent (lend_cons (by first | exact lend_same | exact .leaf _ _ (.vnil _) | exact .leaf _ _ (.nil _) | exact lend_whole rfl (by first | rfl | (simp; done) | (simp; omega)) (clo_map (fun _ => rfl)) | exact lend_netg (by first | exact .same _ | exact lendL_vnil | exact lendL_whole rfl (by first | rfl | (simp; done) | (simp; omega)) (clo_map (fun _ => rfl))) (by first | exact .same _ | exact lendL_vnil | exact lendL_whole rfl (by first | rfl | (simp; done) | (simp; omega)) (clo_map (fun _ => rfl))) (by first | exact .same _ | exact lendL_vnil | exact lendL_whole rfl (by first | rfl | (simp; done) | (simp; omega)) (clo_map (fun _ => rfl))) (by first | exact .same _ | exact lendL_vnil | exact lendL_whole rfl (by first | rfl | (simp; done) | (simp; omega)) (clo_map (fun _ => rfl)))) lend_nil) (l_light _ (by assumption)) rfl) (by simp) ?_
 refine al_op (op_not rfl) rfl (by simp) ?_
 refine al_op (op_move rfl) rfl (by simp) ?_
 apply al_or 4 20 24 rfl
 ·intro h1; have gh1 := h1
  try simp only [nrm] at h1
  first
    | refine al_take (op_load_rptr Try.underlying27 info27 rfl rfl) rfl rfl rfl rfl (by simp) ?_
    | refine al_take (op_load_map Try.underlying27 info27 rfl rfl (by omega) rfl) rfl rfl rfl rfl (by simp) ?_
    | refine al_take (op_load_ptr Try.underlying27 info27 rfl rfl rfl rfl) rfl rfl rfl rfl (by simp) ?_
  first
    | refine al_callp_take into16 rfl rfl rfl rfl rfl rfl ((r_Valid _ (by assumption)) _) (by simp) ?_
    | refine al_callp_take into16 rfl rfl rfl rfl rfl rfl (acp_lent (lend_cons (by first | exact lend_same | exact .leaf _ _ (.vnil _) | exact .leaf _ _ (.nil _) | exact lend_whole rfl (by first | rfl | (simp; done) | (simp; omega)) (clo_map (fun _ => rfl)) | exact lend_netg (by first | exact .same _ | exact lendL_vnil | exact lendL_whole rfl (by first | rfl | (simp; done) | (simp; omega)) (clo_map (fun _ => rfl))) (by first | exact .same _ | exact lendL_vnil | exact lendL_whole rfl (by first | rfl | (simp; done) | (simp; omega)) (clo_map (fun _ => rfl))) (by first | exact .same _ | exact lendL_vnil | exact lendL_whole rfl (by first | rfl | (simp; done) | (simp; omega)) (clo_map (fun _ => rfl))) (by first | exact .same _ | exact lendL_vnil | exact lendL_whole rfl (by first | rfl | (simp; done) | (simp; omega)) (clo_map (fun _ => rfl)))) lend_nil) (r_Valid _ (by assumption)) rfl) (by simp) ?_
  refine al_take (op_not rfl) rfl rfl rfl rfl (by simp) ?_
  first
    | refine al_op (op_pick rfl rfl) rfl (by simp) ?_
    | refine al_op (op_or rfl rfl rfl) rfl (by simp) ?_
  refine al_nil ⟨rfl, rfl, rfl, keep_of ?_⟩
  repeat (first | exact subx_refl | exact subx_known rfl gh1 subx_refl | refine subx_put rfl ?_)
 ·intro h1; have gh1 := h1
  try simp only [nrm] at h1
  refine al_pass rfl rfl rfl rfl (by simp) ?_
  refine al_pass rfl rfl rfl rfl (by simp) ?_
  refine al_pass rfl rfl rfl rfl (by simp) ?_
  first
    | refine al_op (op_pick rfl rfl) rfl (by simp) ?_
    | refine al_op (op_or rfl rfl rfl) rfl (by simp) ?_
  refine al_nil ⟨rfl, rfl, rfl, keep_of ?_⟩
  repeat (first | exact subx_refl | exact subx_known rfl gh1 subx_refl | refine subx_put rfl ?_)
 refine al_nil ?_
 refine aw_cond rfl (fun h2 => ?_) (fun h2 => ?_)
 ·have gh2 := h2
  try simp only [nrm] at h2
  refine aw_seq ?_
  refine aw_region ?_
  first
    | refine al_callp into13 rfl rfl rfl ((l_awake4 ) _) (by simp) ?_
    | refine al_callp into13 rfl rfl rfl (acp_lent lend_nil (l_awake4 ) rfl) (by simp) ?_
  refine al_op (op_assign rfl) rfl (by simp) ?_
  refine al_nil ?_
  refine aw_freeze (fun _ => false) (fsub_cons (t := 2) rfl (.leaf _ _ (.same _)) fsub_nil) ?_
  refine aw_ret ?_
  refine ⟨_, res_1 rfl rfl, ?_, rfl⟩
  rfl
 ·have gh2 := h2
  try simp only [nrm] at h2
  refine aw_skip ?_
  refine aw_seq ?_
  have g0 := gh2
  simp only [Bool.or_eq_false_iff, Bool.not_eq_false'] at g0
  obtain ⟨u1, hv⟩ := g0
  refine aw_region ?_
  first
    | refine al_op (op_load_rptr Try.underlying27 info27 rfl rfl) rfl (by simp) ?_
    | refine al_op (op_load_map Try.underlying27 info27 rfl rfl (by omega) rfl) rfl (by simp) ?_
    | refine al_op (op_load_ptr Try.underlying27 info27 rfl rfl rfl rfl) rfl (by simp) ?_
  first
    | refine al_callp into20 rfl rfl rfl ((c_Reach _ (by assumption)) _) (by simp) ?_
    | refine al_callp into20 rfl rfl rfl (ac_told (re_cons (by first | exact .leaf _ _ (.same _) | exact .leaf _ _ (.vnil _) | exact .leaf _ _ (.nil _)) re_nil) ((c_Reach _ (by assumption)) _)) (by simp) ?_
  refine al_op (op_move rfl) rfl (by simp) ?_
  refine al_op (op_extract rfl rfl rfl) rfl (by simp) ?_
  refine al_op (op_extract rfl rfl rfl) rfl (by simp) ?_
  refine al_op (op_assign rfl) rfl (by simp) ?_
  refine al_op (op_assign rfl) rfl (by simp) ?_
  refine al_nil ?_
  refine aw_seq ?_
  refine aw_seq ?_
  refine aw_region ?_
  first
    | refine al_op (op_load_rptr Try.underlying27 info27 rfl rfl) rfl (by simp) ?_
    | refine al_op (op_load_map Try.underlying27 info27 rfl rfl (by omega) rfl) rfl (by simp) ?_
    | refine al_op (op_load_ptr Try.underlying27 info27 rfl rfl rfl rfl) rfl (by simp) ?_
  first
    | refine al_callp into17 rfl rfl rfl ((r_Known4 _ (by assumption)) _) (by simp) ?_
    | refine al_callp into17 rfl rfl rfl (acp_lent (lend_cons (by first | exact lend_same | exact .leaf _ _ (.vnil _) | exact .leaf _ _ (.nil _) | exact lend_whole rfl (by first | rfl | (simp; done) | (simp; omega)) (clo_map (fun _ => rfl)) | exact lend_netg (by first | exact .same _ | exact lendL_vnil | exact lendL_whole rfl (by first | rfl | (simp; done) | (simp; omega)) (clo_map (fun _ => rfl))) (by first | exact .same _ | exact lendL_vnil | exact lendL_whole rfl (by first | rfl | (simp; done) | (simp; omega)) (clo_map (fun _ => rfl))) (by first | exact .same _ | exact lendL_vnil | exact lendL_whole rfl (by first | rfl | (simp; done) | (simp; omega)) (clo_map (fun _ => rfl))) (by first | exact .same _ | exact lendL_vnil | exact lendL_whole rfl (by first | rfl | (simp; done) | (simp; omega)) (clo_map (fun _ => rfl)))) lend_nil) (r_Known4 _ (by assumption)) rfl) (by simp) ?_
  refine al_op (op_not rfl) rfl (by simp) ?_
  refine al_op (op_move rfl) rfl (by simp) ?_
  apply al_or 5 34 39 rfl
  ·intro h3; have gh3 := h3
   try simp only [nrm] at h3
   first
     | refine al_take (op_field_rptr Try.underlying27 rfl info22 (by decide) rfl rfl) rfl rfl rfl rfl (by simp) ?_
     | refine al_take (op_field_ptr Try.underlying27 rfl info22 (by decide) rfl rfl rfl) rfl rfl rfl rfl (by simp) ?_
   first
     | refine al_take (op_load_rptr Try.underlying22 info22 rfl rfl) rfl rfl rfl rfl (by simp) ?_
     | refine al_take (op_load_map Try.underlying22 info22 rfl rfl (by omega) rfl) rfl rfl rfl rfl (by simp) ?_
     | refine al_take (op_load_ptr Try.underlying22 info22 rfl rfl rfl rfl) rfl rfl rfl rfl (by simp) ?_
   first
     | refine al_take (op_len_map Try.underlying22 rfl) rfl rfl rfl rfl (by simp) ?_
     | refine al_take (op_len_slice Try.underlying22 rfl rfl) rfl rfl rfl rfl (by simp) ?_
     | refine al_take (op_len_list Try.underlying22 rfl) rfl rfl rfl rfl (by simp) ?_
     | refine al_take (op_len_v Try.underlying22 rfl) rfl rfl rfl rfl (by simp) ?_
     | refine al_take (op_len_nil Try.underlying22 rfl) rfl rfl rfl rfl (by simp) ?_
   refine al_take (op_gtr rfl rfl) rfl rfl rfl rfl (by simp) ?_
   first
     | refine al_op (op_pick rfl rfl) rfl (by simp) ?_
     | refine al_op (op_or rfl rfl rfl) rfl (by simp) ?_
   refine al_nil ⟨rfl, rfl, rfl, keep_of ?_⟩
   repeat (first | exact subx_refl | exact subx_known rfl gh3 subx_refl | refine subx_put rfl ?_)
  ·intro h3; have gh3 := h3
   try simp only [nrm] at h3
   refine al_pass rfl rfl rfl rfl (by simp) ?_
   refine al_pass rfl rfl rfl rfl (by simp) ?_
   refine al_pass rfl rfl rfl rfl (by simp) ?_
   refine al_pass rfl rfl rfl rfl (by simp) ?_
   first
     | refine al_op (op_pick rfl rfl) rfl (by simp) ?_
     | refine al_op (op_or rfl rfl rfl) rfl (by simp) ?_
   refine al_nil ⟨rfl, rfl, rfl, keep_of ?_⟩
   repeat (first | exact subx_refl | exact subx_known rfl gh3 subx_refl | refine subx_put rfl ?_)
  refine al_op (op_move rfl) rfl (by simp) ?_
  apply al_or 5 40 45 rfl
  ·intro h4; have gh4 := h4
   try simp only [nrm] at h4
   first
     | refine al_take (op_field_rptr Try.underlying27 rfl info23 (by decide) rfl rfl) rfl rfl rfl rfl (by simp) ?_
     | refine al_take (op_field_ptr Try.underlying27 rfl info23 (by decide) rfl rfl rfl) rfl rfl rfl rfl (by simp) ?_
   first
     | refine al_take (op_load_rptr Try.underlying23 info23 rfl rfl) rfl rfl rfl rfl (by simp) ?_
     | refine al_take (op_load_map Try.underlying23 info23 rfl rfl (by omega) rfl) rfl rfl rfl rfl (by simp) ?_
     | refine al_take (op_load_ptr Try.underlying23 info23 rfl rfl rfl rfl) rfl rfl rfl rfl (by simp) ?_
   first
     | refine al_take (op_len_map Try.underlying23 rfl) rfl rfl rfl rfl (by simp) ?_
     | refine al_take (op_len_slice Try.underlying23 rfl rfl) rfl rfl rfl rfl (by simp) ?_
     | refine al_take (op_len_list Try.underlying23 rfl) rfl rfl rfl rfl (by simp) ?_
     | refine al_take (op_len_v Try.underlying23 rfl) rfl rfl rfl rfl (by simp) ?_
     | refine al_take (op_len_nil Try.underlying23 rfl) rfl rfl rfl rfl (by simp) ?_
   refine al_take (op_gtr rfl rfl) rfl rfl rfl rfl (by simp) ?_
   first
     | refine al_op (op_pick rfl rfl) rfl (by simp) ?_
     | refine al_op (op_or rfl rfl rfl) rfl (by simp) ?_
   refine al_nil ⟨rfl, rfl, rfl, keep_of ?_⟩
   repeat (first | exact subx_refl | exact subx_known rfl gh4 subx_refl | refine subx_put rfl ?_)
  ·intro h4; have gh4 := h4
   try simp only [nrm] at h4
   refine al_pass rfl rfl rfl rfl (by simp) ?_
   refine al_pass rfl rfl rfl rfl (by simp) ?_
   refine al_pass rfl rfl rfl rfl (by simp) ?_
   refine al_pass rfl rfl rfl rfl (by simp) ?_
   first
     | refine al_op (op_pick rfl rfl) rfl (by simp) ?_
     | refine al_op (op_or rfl rfl rfl) rfl (by simp) ?_
   refine al_nil ⟨rfl, rfl, rfl, keep_of ?_⟩
   repeat (first | exact subx_refl | exact subx_known rfl gh4 subx_refl | refine subx_put rfl ?_)
  refine al_nil ?_
  refine aw_cond rfl (fun h5 => ?_) (fun h5 => ?_)
  ·have gh5 := h5
   try simp only [nrm] at h5
   refine aw_seq ?_
   have hre := Net.reach_not hn hv (by assumption)
   refine aw_as 3 (.list 1 (([] : List Int).map encI)) rfl (by rw [hre]) ?_
   refine aw_as 4 (.v (.int .i64 (5))) rfl (by rw [hre]) ?_
   refine aw_region ?_
   refine al_op (op_move rfl) rfl (by simp) ?_
   refine al_op (op_eql rfl rfl) rfl (by simp) ?_
   refine al_op (op_move rfl) rfl (by simp) ?_
   apply al_and 4 48 52 rfl
   ·intro h6; have gh6 := h6
    try simp only [nrm] at h6
    refine al_take (op_move rfl) rfl rfl rfl rfl (by simp) ?_
    first
      | refine al_take (op_len_map Try.underlying45 rfl) rfl rfl rfl rfl (by simp) ?_
      | refine al_take (op_len_slice Try.underlying45 rfl rfl) rfl rfl rfl rfl (by simp) ?_
      | refine al_take (op_len_list Try.underlying45 rfl) rfl rfl rfl rfl (by simp) ?_
      | refine al_take (op_len_v Try.underlying45 rfl) rfl rfl rfl rfl (by simp) ?_
      | refine al_take (op_len_nil Try.underlying45 rfl) rfl rfl rfl rfl (by simp) ?_
    refine al_take (op_eql rfl rfl) rfl rfl rfl rfl (by simp) ?_
    first
      | refine al_op (op_pick rfl rfl) rfl (by simp) ?_
      | refine al_op (op_and rfl rfl rfl) rfl (by simp) ?_
    refine al_nil ⟨rfl, rfl, rfl, keep_of ?_⟩
    repeat (first | exact subx_refl | exact subx_known rfl gh6 subx_refl | refine subx_put rfl ?_)
   ·intro h6; have gh6 := h6
    try simp only [nrm] at h6
    refine al_pass rfl rfl rfl rfl (by simp) ?_
    refine al_pass rfl rfl rfl rfl (by simp) ?_
    refine al_pass rfl rfl rfl rfl (by simp) ?_
    first
      | refine al_op (op_pick rfl rfl) rfl (by simp) ?_
      | refine al_op (op_and rfl rfl rfl) rfl (by simp) ?_
    refine al_nil ⟨rfl, rfl, rfl, keep_of ?_⟩
    repeat (first | exact subx_refl | exact subx_known rfl gh6 subx_refl | refine subx_put rfl ?_)
   refine al_op (op_move rfl) rfl (by simp) ?_
   apply al_and 2 53 55 rfl
   ·intro h7; have gh7 := h7
    try simp only [nrm] at h7
    first
      | refine al_callp_take into13 rfl rfl rfl rfl rfl rfl ((l_awake4 ) _) (by simp) ?_
      | refine al_callp_take into13 rfl rfl rfl rfl rfl rfl (acp_lent lend_nil (l_awake4 ) rfl) (by simp) ?_
    first
      | refine al_op (op_pick rfl rfl) rfl (by simp) ?_
      | refine al_op (op_and rfl rfl rfl) rfl (by simp) ?_
    refine al_nil ⟨rfl, rfl, rfl, keep_of ?_⟩
    repeat (first | exact subx_refl | exact subx_known rfl gh7 subx_refl | refine subx_put rfl ?_)
   ·intro h7; have gh7 := h7
    try simp only [nrm] at h7
    refine al_pass rfl rfl rfl rfl (by simp) ?_
    first
      | refine al_op (op_pick rfl rfl) rfl (by simp) ?_
      | refine al_op (op_and rfl rfl rfl) rfl (by simp) ?_
    refine al_nil ⟨rfl, rfl, rfl, keep_of ?_⟩
    repeat (first | exact subx_refl | exact subx_known rfl gh7 subx_refl | refine subx_put rfl ?_)
   refine al_op (op_assign rfl) rfl (by simp) ?_
   refine al_nil ?_
   refine aw_freeze (fun _ => false) (fsub_cons (t := 2) rfl (.leaf _ _ (.same _)) fsub_nil) ?_
   refine aw_ret ?_
   refine ⟨_, res_1 rfl rfl, ?_, rfl⟩
   rfl
  ·have gh5 := h5
   try simp only [nrm] at h5
   refine aw_skip ?_
   refine aw_seq ?_
   have g1 : ((!n.known4 || decide ((n.ins.length : Int) > 10)) || decide ((n.regs.length : Int) > 12)) = false := by assumption
   simp only [Bool.or_eq_false_iff, Bool.not_eq_false', decide_eq_false_iff_not] at g1
   obtain ⟨⟨u3, u4⟩, u5⟩ := g1
   obtain ⟨hfw, v1, v2, v3, hsm⟩ := Net.light_facts u1 u3 u4 u5
   have hfo := Net.firsts_ok hn hv
   have hfb := Net.firsts_bytes hn
   have hfe : n.fitE = 0 := by rw [Net.fitE, if_pos hv, if_pos hsm]
   have hrd := Net.fit_ready hn hfe
   have hst : n.states ≤ 32 := by
     rw [n.states_eq]
     exact Nat.le_trans (Nat.pow_le_pow_right (by decide) v2) (by decide)
   have hse : ((1 <<< n.regs.length : Nat) : Int) = (n.states : Int) := rfl
   have hse2 : ((1 <<< n.ins.length : Nat) : Int) = (n.many2 : Int) := rfl
   have hm2 := Net.many2_le hrd.i
   have hrr := Net.reach_ok hrd hfe
   have hsort := Net.reachL_sorted hrd
   have hrange := Net.reachL_range hrd
   have hrl := Net.reachL_length hrd
   obtain ⟨hb0, hb1⟩ := hrd.begin
   have hfl : n.firsts.length = n.regs.length := by simp [Net.firsts]
   refine aw_as 3 (.list 1 (n.reachL.map encI)) rfl (by rw [hrr]) ?_
   refine aw_as 4 (.v (.int .i64 (0))) rfl (by rw [hrr]) ?_
   refine aw_region ?_
   (refine al_opR (op_makeMap 56 Try.underlying48 (.inl rfl)) rfl (by simp) ?_; rintro _ _ ⟨ver56, rfl, rfl⟩)
   refine al_op (op_assign rfl) rfl (by simp) ?_
   refine al_nil ?_
   refine aw_seq ?_
   refine aw_seq ?_
   refine aw_region ?_
   refine al_op (op_move rfl) rfl (by simp) ?_
   first
     | refine al_op (op_len_map Try.underlying45 rfl) rfl (by simp) ?_
     | refine al_op (op_len_slice Try.underlying45 rfl rfl) rfl (by simp) ?_
     | refine al_op (op_len_list Try.underlying45 rfl) rfl (by simp) ?_
     | refine al_op (op_len_v Try.underlying45 rfl) rfl (by simp) ?_
     | refine al_op (op_len_nil Try.underlying45 rfl) rfl (by simp) ?_
   refine al_op (op_move rfl) rfl (by simp) ?_
   refine al_nil ?_
   refine aw_block ?_
   apply aw_only
   ·
    (first | apply sub_cons (t := 1) rfl | skip)
    (first | apply sub_cons (t := 2) rfl | skip)
    (first | apply sub_cons (t := 3) rfl | skip)
    (first | apply sub_cons (t := 4) rfl | skip)
    (first | apply sub_cons (t := 5) rfl | skip)
    (first | apply sub_cons (t := 57) rfl | skip)
    (first | apply sub_cons (t := 58) rfl | skip)
    (first | apply sub_cons (t := 59) rfl | skip)
    exact sub_nil
   refine aw_forT (ι := Nat) [2, 59] [] (fun i => n.reachL.length - i) (fun i => i ≤ n.reachL.length) (fun i => ([(59, .v (.int .i64 (i)))] : Env)) (fun i s => s.put 56 ver56 (.map (setEnts ((n.reachL.take i).map keyI)))) (0) ?_ ?_ ?_ (fun i hinv => ?_)
   ·exact Nat.zero_le _
   ·refine sub_cons (get_as rfl ?_) ?_; rotate_left; exact sub_nil
    all_goals (first | rfl | simp)
   ·rfl
   refine aw_seq ?_
   refine aw_region ?_
   refine al_op (op_lss rfl rfl) rfl (by simp) ?_
   refine al_nil ?_
   refine aw_seq ?_
   refine aw_cond rfl (fun h8 => ?_) (fun h8 => ?_)
   ·have gh8 := h8
    try simp only [nrm] at h8
    refine aw_skip ?_
    refine aw_seq ?_
    refine aw_block ?_
    refine aw_seq ?_
    refine aw_region ?_
    refine al_op (op_move rfl) rfl (by simp) ?_
    first
      | refine al_op (op_index_map default Try.underlying45 info3 rfl rfl rfl (by first | (with_reducible exact Int.toNat_natCast _) | rfl) (by omega) (by omega)) rfl (by simp) ?_
      | refine al_op (op_index_slice Try.underlying45 info3 rfl rfl rfl rfl (by omega) (by omega)) rfl (by simp) ?_
      | refine al_op (op_index_list Try.underlying45 info3 rfl rfl rfl (by decide) rfl) rfl (by simp) ?_
    first
      | refine al_op (op_load_rptr Try.underlying3 info3 rfl rfl) rfl (by simp) ?_
      | refine al_op (op_load_map Try.underlying3 info3 rfl rfl (by omega) rfl) rfl (by simp) ?_
      | refine al_op (op_load_ptr Try.underlying3 info3 rfl rfl rfl rfl) rfl (by simp) ?_
    refine al_op (op_assign rfl) rfl (by simp) ?_
    refine al_op (op_assign rfl) rfl (by simp) ?_
    refine al_nil ?_
    refine aw_seq ?_
    refine aw_seq ?_
    have hri := hrange _ (getD_mem (v := n.reachL) (i := i) (by omega))
    refine aw_region ?_
    refine al_op (op_move rfl) rfl (by simp) ?_
    refine al_op (op_gtr rfl rfl) rfl (by simp) ?_
    refine al_op (op_move rfl) rfl (by simp) ?_
    apply al_and 8 66 74 rfl
    ·intro h9; have gh9 := h9
     try simp only [nrm] at h9
     refine al_take (op_move rfl) rfl rfl rfl rfl (by simp) ?_
     refine al_take (op_move rfl) rfl rfl rfl rfl (by simp) ?_
     refine al_take (op_sub rfl rfl (by first | exact wrap_i64 (by omega) (by omega))) rfl rfl rfl rfl (by simp) ?_
     first
       | refine al_take (op_index_map default Try.underlying45 info3 rfl rfl rfl (by first | (with_reducible exact Int.toNat_natCast _) | rfl) (by omega) (by omega)) rfl rfl rfl rfl (by simp) ?_
       | refine al_take (op_index_slice Try.underlying45 info3 rfl rfl rfl rfl (by omega) (by omega)) rfl rfl rfl rfl (by simp) ?_
       | refine al_take (op_index_list Try.underlying45 info3 rfl rfl rfl (by decide) rfl) rfl rfl rfl rfl (by simp) ?_
     first
       | refine al_take (op_load_rptr Try.underlying3 info3 rfl rfl) rfl rfl rfl rfl (by simp) ?_
       | refine al_take (op_load_map Try.underlying3 info3 rfl rfl (by omega) rfl) rfl rfl rfl rfl (by simp) ?_
       | refine al_take (op_load_ptr Try.underlying3 info3 rfl rfl rfl rfl) rfl rfl rfl rfl (by simp) ?_
     refine al_take (op_move rfl) rfl rfl rfl rfl (by simp) ?_
     refine al_take (op_geq rfl rfl) rfl rfl rfl rfl (by simp) ?_
     first
       | refine al_op (op_pick rfl rfl) rfl (by simp) ?_
       | refine al_op (op_and rfl rfl rfl) rfl (by simp) ?_
     refine al_nil ⟨rfl, rfl, rfl, keep_of ?_⟩
     repeat (first | exact subx_refl | exact subx_known rfl gh9 subx_refl | refine subx_put rfl ?_)
    ·intro h9; have gh9 := h9
     try simp only [nrm] at h9
     refine al_pass rfl rfl rfl rfl (by simp) ?_
     refine al_pass rfl rfl rfl rfl (by simp) ?_
     refine al_pass rfl rfl rfl rfl (by simp) ?_
     refine al_pass rfl rfl rfl rfl (by simp) ?_
     refine al_pass rfl rfl rfl rfl (by simp) ?_
     refine al_pass rfl rfl rfl rfl (by simp) ?_
     refine al_pass rfl rfl rfl rfl (by simp) ?_
     first
       | refine al_op (op_pick rfl rfl) rfl (by simp) ?_
       | refine al_op (op_and rfl rfl rfl) rfl (by simp) ?_
     refine al_nil ⟨rfl, rfl, rfl, keep_of ?_⟩
     repeat (first | exact subx_refl | exact subx_known rfl gh9 subx_refl | refine subx_put rfl ?_)
    refine al_op (op_move rfl) rfl (by simp) ?_
    apply al_or 3 75 78 rfl
    ·intro h10; have gh10 := h10
     try simp only [nrm] at h10
     refine al_take (op_move rfl) rfl rfl rfl rfl (by simp) ?_
     refine al_take (op_lss rfl rfl) rfl rfl rfl rfl (by simp) ?_
     first
       | refine al_op (op_pick rfl rfl) rfl (by simp) ?_
       | refine al_op (op_or rfl rfl rfl) rfl (by simp) ?_
     refine al_nil ⟨rfl, rfl, rfl, keep_of ?_⟩
     repeat (first | exact subx_refl | exact subx_known rfl gh10 subx_refl | refine subx_put rfl ?_)
    ·intro h10; have gh10 := h10
     try simp only [nrm] at h10
     refine al_pass rfl rfl rfl rfl (by simp) ?_
     refine al_pass rfl rfl rfl rfl (by simp) ?_
     first
       | refine al_op (op_pick rfl rfl) rfl (by simp) ?_
       | refine al_op (op_or rfl rfl rfl) rfl (by simp) ?_
     refine al_nil ⟨rfl, rfl, rfl, keep_of ?_⟩
     repeat (first | exact subx_refl | exact subx_known rfl gh10 subx_refl | refine subx_put rfl ?_)
    refine al_op (op_move rfl) rfl (by simp) ?_
    apply al_or 7 79 86 rfl
    ·intro h11; have gh11 := h11
     try simp only [nrm] at h11
     refine al_take (op_move rfl) rfl rfl rfl rfl (by simp) ?_
     first
       | refine al_take (op_field_rptr Try.underlying27 rfl info23 (by decide) rfl rfl) rfl rfl rfl rfl (by simp) ?_
       | refine al_take (op_field_ptr Try.underlying27 rfl info23 (by decide) rfl rfl rfl) rfl rfl rfl rfl (by simp) ?_
     first
       | refine al_take (op_load_rptr Try.underlying23 info23 rfl rfl) rfl rfl rfl rfl (by simp) ?_
       | refine al_take (op_load_map Try.underlying23 info23 rfl rfl (by omega) rfl) rfl rfl rfl rfl (by simp) ?_
       | refine al_take (op_load_ptr Try.underlying23 info23 rfl rfl rfl rfl) rfl rfl rfl rfl (by simp) ?_
     first
       | refine al_take (op_len_map Try.underlying23 rfl) rfl rfl rfl rfl (by simp) ?_
       | refine al_take (op_len_slice Try.underlying23 rfl rfl) rfl rfl rfl rfl (by simp) ?_
       | refine al_take (op_len_list Try.underlying23 rfl) rfl rfl rfl rfl (by simp) ?_
       | refine al_take (op_len_v Try.underlying23 rfl) rfl rfl rfl rfl (by simp) ?_
       | refine al_take (op_len_nil Try.underlying23 rfl) rfl rfl rfl rfl (by simp) ?_
     refine al_take (op_shl (a := ((1 : Nat) : Int)) rfl rfl (by omega) (shl_i64 (by decide) (by omega))) rfl rfl rfl rfl (by simp) ?_
     refine al_take (op_geq rfl rfl) rfl rfl rfl rfl (by simp) ?_
     first
       | refine al_op (op_pick rfl rfl) rfl (by simp) ?_
       | refine al_op (op_or rfl rfl rfl) rfl (by simp) ?_
     refine al_nil ⟨rfl, rfl, rfl, keep_of ?_⟩
     repeat (first | exact subx_refl | exact subx_known rfl gh11 subx_refl | refine subx_put rfl ?_)
    ·intro h11; have gh11 := h11
     try simp only [nrm] at h11
     refine al_pass rfl rfl rfl rfl (by simp) ?_
     refine al_pass rfl rfl rfl rfl (by simp) ?_
     refine al_pass rfl rfl rfl rfl (by simp) ?_
     refine al_pass rfl rfl rfl rfl (by simp) ?_
     refine al_pass rfl rfl rfl rfl (by simp) ?_
     refine al_pass rfl rfl rfl rfl (by simp) ?_
     first
       | refine al_op (op_pick rfl rfl) rfl (by simp) ?_
       | refine al_op (op_or rfl rfl rfl) rfl (by simp) ?_
     refine al_nil ⟨rfl, rfl, rfl, keep_of ?_⟩
     repeat (first | exact subx_refl | exact subx_known rfl gh11 subx_refl | refine subx_put rfl ?_)
    refine al_nil ?_
    refine aw_cond rfl (fun h12 => ?_) (fun h12 => ?_)
    ·have gh12 := h12
     try simp only [nrm] at h12
     simp only [Bool.or_eq_true, Bool.and_eq_true, decide_eq_true_eq] at gh12
     rcases gh12 with (⟨a1, a2⟩ | a) | a
     ·exact absurd (sorted_lt hsort (i := ((i : Int) - 1).toNat) (j := i) (by omega) (by omega)) (by omega)
     ·omega
     ·omega
    ·have gh12 := h12
     try simp only [nrm] at h12
     refine aw_skip ?_
     refine aw_region ?_
     refine al_op (op_move rfl) rfl (by simp) ?_
     refine al_op (op_move rfl) rfl (by simp) ?_
     refine al_op (op_update_set Try.underlying48 (keyLaw_int Try.underlying3) rfl rfl rfl rfl ⟨_, rfl⟩ (by intro e he; obtain ⟨_, _, rfl⟩ := List.mem_map.1 he; exact ⟨_, rfl⟩) rfl (sorted_new hsort (by omega))) rfl (by simp) ?_
     refine al_nil ?_
     refine aw_region ?_
     refine al_op (op_add rfl rfl (by first | exact wrap_i64 (by omega) (by omega))) rfl (by simp) ?_
     refine al_op (op_move rfl) rfl (by simp) ?_
     refine al_nil ?_
     refine ⟨i + 1, ?_, ?_, ?_, ?_, ?_⟩
     ·omega
     ·omega
     ·refine sub_cons (get_as rfl ?_) ?_; rotate_left; exact sub_nil
      all_goals (first | rfl | simp)
     ·repeat (first | exact subx_refl | exact subx_del | refine subx_put rfl ?_)
     ·(simp only [take_succ_getD n.reachL i (by omega), List.map_append, List.map_cons, List.map_nil] <;> rfl)
   ·have gh8 := h8
    try simp only [nrm] at h8
    refine aw_exit ?_
    obtain rfl : i = n.reachL.length := by omega
    refine aw_seq ?_
    refine aw_seq ?_
    have hmf : (((n.reachL.take n.reachL.length).map keyI).any (keyEq (.int .i64 ((num n.firsts : Nat) : Int)))) = true := Net.metB_iff.2 (Net.reachL_mem.2 n.bfs_first)
    refine aw_region ?_
    refine al_op (op_move rfl) rfl (by simp) ?_
    refine al_op (op_neq rfl rfl) rfl (by simp) ?_
    refine al_op (op_move rfl) rfl (by simp) ?_
    apply al_or 7 92 99 rfl
    ·intro h13; have gh13 := h13
     try simp only [nrm] at h13
     refine al_take (op_move rfl) rfl rfl rfl rfl (by simp) ?_
     first
       | refine al_take (op_load_rptr Try.underlying27 info27 rfl rfl) rfl rfl rfl rfl (by simp) ?_
       | refine al_take (op_load_map Try.underlying27 info27 rfl rfl (by omega) rfl) rfl rfl rfl rfl (by simp) ?_
       | refine al_take (op_load_ptr Try.underlying27 info27 rfl rfl rfl rfl) rfl rfl rfl rfl (by simp) ?_
     first
       | refine al_callp_take into22 rfl rfl rfl rfl rfl rfl ((r_First4 _ (by assumption)) _) (by simp) ?_
       | refine al_callp_take into22 rfl rfl rfl rfl rfl rfl (ac_told (re_cons (by first | exact .leaf _ _ (.same _) | exact .leaf _ _ (.vnil _) | exact .leaf _ _ (.nil _)) re_nil) ((r_First4 _ (by assumption)) _)) (by simp) ?_
     first
       | refine al_callp_take into21 rfl rfl rfl rfl rfl rfl ((l_number _ (by assumption) (by omega)) _) (by simp) ?_
       | refine al_callp_take into21 rfl rfl rfl rfl rfl rfl (acp_lent (lend_cons (by first | exact lend_same | exact .leaf _ _ (.vnil _) | exact .leaf _ _ (.nil _) | exact lend_whole rfl (by first | rfl | (simp; done) | (simp; omega)) (clo_map (fun _ => rfl)) | exact lend_netg (by first | exact .same _ | exact lendL_vnil | exact lendL_whole rfl (by first | rfl | (simp; done) | (simp; omega)) (clo_map (fun _ => rfl))) (by first | exact .same _ | exact lendL_vnil | exact lendL_whole rfl (by first | rfl | (simp; done) | (simp; omega)) (clo_map (fun _ => rfl))) (by first | exact .same _ | exact lendL_vnil | exact lendL_whole rfl (by first | rfl | (simp; done) | (simp; omega)) (clo_map (fun _ => rfl))) (by first | exact .same _ | exact lendL_vnil | exact lendL_whole rfl (by first | rfl | (simp; done) | (simp; omega)) (clo_map (fun _ => rfl)))) lend_nil) (l_number _ (by assumption) (by omega)) rfl) (by simp) ?_
     refine al_take (op_lookup_set Try.underlying48 (keyLaw_int Try.underlying3) info4 rfl rfl rfl rfl rfl ⟨_, rfl⟩ (by intro e he; obtain ⟨_, _, rfl⟩ := List.mem_map.1 he; exact ⟨_, rfl⟩)) rfl rfl rfl rfl (by simp) ?_
     refine al_take (op_not rfl) rfl rfl rfl rfl (by simp) ?_
     first
       | refine al_op (op_pick rfl rfl) rfl (by simp) ?_
       | refine al_op (op_or rfl rfl rfl) rfl (by simp) ?_
     refine al_nil ⟨rfl, rfl, rfl, keep_of ?_⟩
     repeat (first | exact subx_refl | exact subx_known rfl gh13 subx_refl | refine subx_put rfl ?_)
    ·intro h13; have gh13 := h13
     try simp only [nrm] at h13
     refine al_pass rfl rfl rfl rfl (by simp) ?_
     refine al_pass rfl rfl rfl rfl (by simp) ?_
     refine al_pass rfl rfl rfl rfl (by simp) ?_
     refine al_pass rfl rfl rfl rfl (by simp) ?_
     refine al_pass rfl rfl rfl rfl (by simp) ?_
     refine al_pass rfl rfl rfl rfl (by simp) ?_
     first
       | refine al_op (op_pick rfl rfl) rfl (by simp) ?_
       | refine al_op (op_or rfl rfl rfl) rfl (by simp) ?_
     refine al_nil ⟨rfl, rfl, rfl, keep_of ?_⟩
     repeat (first | exact subx_refl | exact subx_known rfl gh13 subx_refl | refine subx_put rfl ?_)
    refine al_nil ?_
    refine aw_cond rfl (fun h14 => ?_) (fun h14 => ?_)
    ·have gh14 := h14
     try simp only [nrm] at h14
     rw [hmf] at gh14; exact absurd gh14 (by decide)
    ·have gh14 := h14
     try simp only [nrm] at h14
     refine aw_skip ?_
     refine aw_seq ?_
     refine aw_seq ?_
     refine aw_region ?_
     refine al_op (op_assign rfl) rfl (by simp) ?_
     refine al_nil ?_
     refine aw_block ?_
     apply aw_only
     ·
      (first | apply sub_cons (t := 1) rfl | skip)
      (first | apply sub_cons (t := 2) rfl | skip)
      (first | apply sub_cons (t := 5) rfl | skip)
      (first | apply sub_cons (t := 8) rfl | skip)
      exact sub_nil
     refine aw_forT (ι := Nat) [2, 8] [] (fun k => n.states - k) (fun k => k ≤ n.states) (fun k => ([(8, .v (.int .i64 (k)))] : Env)) (fun k s => s) (0) ?_ ?_ ?_ (fun k hinv => ?_)
     ·exact Nat.zero_le _
     ·refine sub_cons (get_as rfl ?_) ?_; rotate_left; exact sub_nil
      all_goals (first | rfl | simp)
     ·rfl
     refine aw_seq ?_
     refine aw_seq ?_
     refine aw_region ?_
     refine al_op (op_move rfl) rfl (by simp) ?_
     first
       | refine al_op (op_field_rptr Try.underlying27 rfl info23 (by decide) rfl rfl) rfl (by simp) ?_
       | refine al_op (op_field_ptr Try.underlying27 rfl info23 (by decide) rfl rfl rfl) rfl (by simp) ?_
     first
       | refine al_op (op_load_rptr Try.underlying23 info23 rfl rfl) rfl (by simp) ?_
       | refine al_op (op_load_map Try.underlying23 info23 rfl rfl (by omega) rfl) rfl (by simp) ?_
       | refine al_op (op_load_ptr Try.underlying23 info23 rfl rfl rfl rfl) rfl (by simp) ?_
     first
       | refine al_op (op_len_map Try.underlying23 rfl) rfl (by simp) ?_
       | refine al_op (op_len_slice Try.underlying23 rfl rfl) rfl (by simp) ?_
       | refine al_op (op_len_list Try.underlying23 rfl) rfl (by simp) ?_
       | refine al_op (op_len_v Try.underlying23 rfl) rfl (by simp) ?_
       | refine al_op (op_len_nil Try.underlying23 rfl) rfl (by simp) ?_
     refine al_op (op_shl (a := ((1 : Nat) : Int)) rfl rfl (by omega) (shl_i64 (by decide) (by omega))) rfl (by simp) ?_
     refine al_op (op_lss rfl rfl) rfl (by simp) ?_
     refine al_nil ?_
     refine aw_cond rfl (fun h15 => ?_) (fun h15 => ?_)
     ·have gh15 := h15
      try simp only [nrm] at h15
      refine aw_skip ?_
      refine aw_seq ?_
      refine aw_block ?_
      refine aw_seq ?_
      refine aw_region ?_
      first
        | refine al_op (op_load_rptr Try.underlying27 info27 rfl rfl) rfl (by simp) ?_
        | refine al_op (op_load_map Try.underlying27 info27 rfl rfl (by omega) rfl) rfl (by simp) ?_
        | refine al_op (op_load_ptr Try.underlying27 info27 rfl rfl rfl rfl) rfl (by simp) ?_
      refine al_op (op_move rfl) rfl (by simp) ?_
      first
        | refine al_callp into23 rfl rfl rfl ((c_Way _ (by assumption) _) _) (by simp) ?_
        | refine al_callp into23 rfl rfl rfl (ac_told (re_cons (by first | exact .leaf _ _ (.same _) | exact .leaf _ _ (.vnil _) | exact .leaf _ _ (.nil _)) (re_cons (by first | exact .leaf _ _ (.same _) | exact .leaf _ _ (.vnil _) | exact .leaf _ _ (.nil _)) re_nil)) ((c_Way _ (by assumption) _) _)) (by simp) ?_
      refine al_op (op_move rfl) rfl (by simp) ?_
      refine al_op (op_extract rfl rfl rfl) rfl (by simp) ?_
      refine al_op (op_extract rfl rfl rfl) rfl (by simp) ?_
      refine al_op (op_assign rfl) rfl (by simp) ?_
      refine al_op (op_assign rfl) rfl (by simp) ?_
      refine al_nil ?_
      refine aw_seq ?_
      refine aw_seq ?_
      refine aw_region ?_
      refine al_op (op_move rfl) rfl (by simp) ?_
      refine al_op (op_move rfl) rfl (by simp) ?_
      refine al_op (op_lookup_set Try.underlying48 (keyLaw_int Try.underlying3) info4 rfl rfl rfl rfl rfl ⟨_, rfl⟩ (by intro e he; obtain ⟨_, _, rfl⟩ := List.mem_map.1 he; exact ⟨_, rfl⟩)) rfl (by simp) ?_
      refine al_op (op_not rfl) rfl (by simp) ?_
      refine al_nil ?_
      refine aw_cond rfl (fun h16 => ?_) (fun h16 => ?_)
      ·have gh16 := h16
       try simp only [nrm] at h16
       refine aw_seq ?_
       refine aw_seq ?_
       have hnm : n.metB (k : Int) = false := by simpa using (show (!n.metB (k : Int)) = true by assumption)
       have hnk : ¬ k ∈ n.bfs.map (·.1) := fun e => by have := Net.metB_iff.2 (Net.reachL_mem.2 e); rw [hnm] at this; cases this
       have hwn := Net.way_no hrd hnk (by omega)
       refine aw_as 10 (.v (.int .i64 (4))) rfl (by rw [hwn]) ?_
       refine aw_region ?_
       refine al_op (op_move rfl) rfl (by simp) ?_
       refine al_op (op_neq rfl rfl) rfl (by simp) ?_
       refine al_nil ?_
       refine aw_cond rfl (fun h17 => ?_) (fun h17 => ?_)
       ·have gh17 := h17
        try simp only [nrm] at h17
        exact absurd gh17 (by decide)
       ·have gh17 := h17
        try simp only [nrm] at h17
        refine aw_skip ?_
        refine aw_exit ?_
        refine aw_region ?_
        refine al_op (op_move rfl) rfl (by simp) ?_
        refine al_op (op_add rfl rfl (by first | exact wrap_i64 (by omega) (by omega))) rfl (by simp) ?_
        refine al_op (op_assign rfl) rfl (by simp) ?_
        refine al_nil ?_
        refine ⟨k + 1, ?_, ?_, ?_, ?_, ?_⟩
        ·omega
        ·omega
        ·refine sub_cons (get_as rfl ?_) ?_; rotate_left; exact sub_nil
         all_goals (first | rfl | simp)
        ·repeat (first | exact subx_refl | exact subx_del | refine subx_put rfl ?_)
        ·rfl
      ·have gh16 := h16
       try simp only [nrm] at h16
       refine aw_skip ?_
       refine aw_seq ?_
       have hym : n.metB (k : Int) = true := by simpa using (show (!n.metB (k : Int)) = false by assumption)
       have hyk : k ∈ n.bfs.map (·.1) := Net.reachL_mem.1 (Net.metB_iff.1 hym)
       obtain ⟨hw1, hw2, hw3, hw4⟩ := Net.way_to hrd hyk
       refine aw_as 9 (.list 1 ((n.wayTo k).map encL)) rfl (by rw [hw1]) ?_
       refine aw_as 10 (.v (.int .i64 (0))) rfl (by rw [hw1]) ?_
       have iW := hw3.ins hn (by omega)
       have rW := Net.run_fits hv hfo hw3 (by omega)
       rw [hw4] at rW
       refine aw_region ?_
       first
         | refine al_op (op_load_rptr Try.underlying27 info27 rfl rfl) rfl (by simp) ?_
         | refine al_op (op_load_map Try.underlying27 info27 rfl rfl (by omega) rfl) rfl (by simp) ?_
         | refine al_op (op_load_ptr Try.underlying27 info27 rfl rfl rfl rfl) rfl (by simp) ?_
       refine al_op (op_move rfl) rfl (by simp) ?_
       first
         | refine al_callp into24 rfl rfl rfl ((c_Last _ (by assumption) _ (by assumption)) _) (by simp) ?_
         | refine al_callp into24 rfl rfl rfl (ac_told (re_cons (by first | exact .leaf _ _ (.same _) | exact .leaf _ _ (.vnil _) | exact .leaf _ _ (.nil _)) (re_cons (by first | exact .leaf _ _ (.same _) | exact .leaf _ _ (.vnil _) | exact .leaf _ _ (.nil _)) re_nil)) ((c_Last _ (by assumption) _ (by assumption)) _)) (by simp) ?_
       refine al_op (op_move rfl) rfl (by simp) ?_
       refine al_op (op_extract rfl rfl rfl) rfl (by simp) ?_
       refine al_op (op_extract rfl rfl rfl) rfl (by simp) ?_
       refine al_op (op_assign rfl) rfl (by simp) ?_
       refine al_op (op_assign rfl) rfl (by simp) ?_
       refine al_nil ?_
       refine aw_seq ?_
       refine aw_seq ?_
       refine aw_as 11 (.list 1 ((bitsI (k : Int) n.regs.length).map encB)) rfl (by rw [rW]) ?_
       refine aw_as 12 (.v (.int .i64 (0))) rfl (by rw [rW]) ?_
       have hk01 := bitsI_01 (k : Int) n.regs.length
       have hkl := bitsI_length (k : Int) n.regs.length
       have hkn : num (bitsI (k : Int) n.regs.length) = k := num_bits (by rw [← n.states_eq]; omega)
       refine aw_region ?_
       refine al_op (op_move rfl) rfl (by simp) ?_
       refine al_op (op_neq rfl rfl) rfl (by simp) ?_
       refine al_op (op_move rfl) rfl (by simp) ?_
       apply al_or 3 128 131 rfl
       ·intro h18; have gh18 := h18
        try simp only [nrm] at h18
        refine al_take (op_move rfl) rfl rfl rfl rfl (by simp) ?_
        refine al_take (op_neq rfl rfl) rfl rfl rfl rfl (by simp) ?_
        first
          | refine al_op (op_pick rfl rfl) rfl (by simp) ?_
          | refine al_op (op_or rfl rfl rfl) rfl (by simp) ?_
        refine al_nil ⟨rfl, rfl, rfl, keep_of ?_⟩
        repeat (first | exact subx_refl | exact subx_known rfl gh18 subx_refl | refine subx_put rfl ?_)
       ·intro h18; have gh18 := h18
        try simp only [nrm] at h18
        refine al_pass rfl rfl rfl rfl (by simp) ?_
        refine al_pass rfl rfl rfl rfl (by simp) ?_
        first
          | refine al_op (op_pick rfl rfl) rfl (by simp) ?_
          | refine al_op (op_or rfl rfl rfl) rfl (by simp) ?_
        refine al_nil ⟨rfl, rfl, rfl, keep_of ?_⟩
        repeat (first | exact subx_refl | exact subx_known rfl gh18 subx_refl | refine subx_put rfl ?_)
       refine al_op (op_move rfl) rfl (by simp) ?_
       apply al_or 5 132 137 rfl
       ·intro h19; have gh19 := h19
        try simp only [nrm] at h19
        refine al_take (op_move rfl) rfl rfl rfl rfl (by simp) ?_
        first
          | refine al_callp_take into21 rfl rfl rfl rfl rfl rfl ((l_number _ (by assumption) (by omega)) _) (by simp) ?_
          | refine al_callp_take into21 rfl rfl rfl rfl rfl rfl (acp_lent (lend_cons (by first | exact lend_same | exact .leaf _ _ (.vnil _) | exact .leaf _ _ (.nil _) | exact lend_whole rfl (by first | rfl | (simp; done) | (simp; omega)) (clo_map (fun _ => rfl)) | exact lend_netg (by first | exact .same _ | exact lendL_vnil | exact lendL_whole rfl (by first | rfl | (simp; done) | (simp; omega)) (clo_map (fun _ => rfl))) (by first | exact .same _ | exact lendL_vnil | exact lendL_whole rfl (by first | rfl | (simp; done) | (simp; omega)) (clo_map (fun _ => rfl))) (by first | exact .same _ | exact lendL_vnil | exact lendL_whole rfl (by first | rfl | (simp; done) | (simp; omega)) (clo_map (fun _ => rfl))) (by first | exact .same _ | exact lendL_vnil | exact lendL_whole rfl (by first | rfl | (simp; done) | (simp; omega)) (clo_map (fun _ => rfl)))) lend_nil) (l_number _ (by assumption) (by omega)) rfl) (by simp) ?_
        refine al_take (op_move rfl) rfl rfl rfl rfl (by simp) ?_
        refine al_take (op_neq rfl rfl) rfl rfl rfl rfl (by simp) ?_
        first
          | refine al_op (op_pick rfl rfl) rfl (by simp) ?_
          | refine al_op (op_or rfl rfl rfl) rfl (by simp) ?_
        refine al_nil ⟨rfl, rfl, rfl, keep_of ?_⟩
        repeat (first | exact subx_refl | exact subx_known rfl gh19 subx_refl | refine subx_put rfl ?_)
       ·intro h19; have gh19 := h19
        try simp only [nrm] at h19
        refine al_pass rfl rfl rfl rfl (by simp) ?_
        refine al_pass rfl rfl rfl rfl (by simp) ?_
        refine al_pass rfl rfl rfl rfl (by simp) ?_
        refine al_pass rfl rfl rfl rfl (by simp) ?_
        first
          | refine al_op (op_pick rfl rfl) rfl (by simp) ?_
          | refine al_op (op_or rfl rfl rfl) rfl (by simp) ?_
        refine al_nil ⟨rfl, rfl, rfl, keep_of ?_⟩
        repeat (first | exact subx_refl | exact subx_known rfl gh19 subx_refl | refine subx_put rfl ?_)
       refine al_op (op_move rfl) rfl (by simp) ?_
       apply al_or 8 138 146 rfl
       ·intro h20; have gh20 := h20
        try simp only [nrm] at h20
        refine al_take (op_move rfl) rfl rfl rfl rfl (by simp) ?_
        first
          | refine al_take (op_len_map Try.underlying39 rfl) rfl rfl rfl rfl (by simp) ?_
          | refine al_take (op_len_slice Try.underlying39 rfl rfl) rfl rfl rfl rfl (by simp) ?_
          | refine al_take (op_len_list Try.underlying39 rfl) rfl rfl rfl rfl (by simp) ?_
          | refine al_take (op_len_v Try.underlying39 rfl) rfl rfl rfl rfl (by simp) ?_
          | refine al_take (op_len_nil Try.underlying39 rfl) rfl rfl rfl rfl (by simp) ?_
        first
          | refine al_take (op_field_rptr Try.underlying27 rfl info23 (by decide) rfl rfl) rfl rfl rfl rfl (by simp) ?_
          | refine al_take (op_field_ptr Try.underlying27 rfl info23 (by decide) rfl rfl rfl) rfl rfl rfl rfl (by simp) ?_
        first
          | refine al_take (op_load_rptr Try.underlying23 info23 rfl rfl) rfl rfl rfl rfl (by simp) ?_
          | refine al_take (op_load_map Try.underlying23 info23 rfl rfl (by omega) rfl) rfl rfl rfl rfl (by simp) ?_
          | refine al_take (op_load_ptr Try.underlying23 info23 rfl rfl rfl rfl) rfl rfl rfl rfl (by simp) ?_
        first
          | refine al_take (op_len_map Try.underlying23 rfl) rfl rfl rfl rfl (by simp) ?_
          | refine al_take (op_len_slice Try.underlying23 rfl rfl) rfl rfl rfl rfl (by simp) ?_
          | refine al_take (op_len_list Try.underlying23 rfl) rfl rfl rfl rfl (by simp) ?_
          | refine al_take (op_len_v Try.underlying23 rfl) rfl rfl rfl rfl (by simp) ?_
          | refine al_take (op_len_nil Try.underlying23 rfl) rfl rfl rfl rfl (by simp) ?_
        refine al_take (op_shl (a := ((1 : Nat) : Int)) rfl rfl (by omega) (shl_i64 (by decide) (by omega))) rfl rfl rfl rfl (by simp) ?_
        refine al_take (op_geq rfl rfl) rfl rfl rfl rfl (by simp) ?_
        first
          | refine al_op (op_pick rfl rfl) rfl (by simp) ?_
          | refine al_op (op_or rfl rfl rfl) rfl (by simp) ?_
        refine al_nil ⟨rfl, rfl, rfl, keep_of ?_⟩
        repeat (first | exact subx_refl | exact subx_known rfl gh20 subx_refl | refine subx_put rfl ?_)
       ·intro h20; have gh20 := h20
        try simp only [nrm] at h20
        refine al_pass rfl rfl rfl rfl (by simp) ?_
        refine al_pass rfl rfl rfl rfl (by simp) ?_
        refine al_pass rfl rfl rfl rfl (by simp) ?_
        refine al_pass rfl rfl rfl rfl (by simp) ?_
        refine al_pass rfl rfl rfl rfl (by simp) ?_
        refine al_pass rfl rfl rfl rfl (by simp) ?_
        refine al_pass rfl rfl rfl rfl (by simp) ?_
        first
          | refine al_op (op_pick rfl rfl) rfl (by simp) ?_
          | refine al_op (op_or rfl rfl rfl) rfl (by simp) ?_
        refine al_nil ⟨rfl, rfl, rfl, keep_of ?_⟩
        repeat (first | exact subx_refl | exact subx_known rfl gh20 subx_refl | refine subx_put rfl ?_)
       refine al_nil ?_
       refine aw_cond rfl (fun h21 => ?_) (fun h21 => ?_)
       ·have gh21 := h21
        try simp only [nrm] at h21
        omega
       ·have gh21 := h21
        try simp only [nrm] at h21
        refine aw_skip ?_
        refine aw_seq ?_
        refine aw_region ?_
        refine al_op (op_assign rfl) rfl (by simp) ?_
        refine al_nil ?_
        refine aw_block ?_
        refine aw_forT (ι := Nat) [2, 13, 14, 15, 16, 147, 148, 149, 150, 151, 152, 153, 154, 155, 156, 157, 158, 159, 160, 161, 162, 163, 164, 165, 166, 167, 168, 169, 170, 171, 172, 173, 174, 175] [] (fun j => n.many2 - j) (fun j => j ≤ n.many2) (fun j => ([(13, .v (.int .i64 (j)))] : Env)) (fun j s => s) (0) ?_ ?_ ?_ (fun j hinv => ?_)
        ·exact Nat.zero_le _
        ·refine sub_cons (get_as rfl ?_) ?_; rotate_left; exact sub_nil
         all_goals (first | rfl | simp)
        ·rfl
        refine aw_seq ?_
        refine aw_seq ?_
        refine aw_region ?_
        refine al_op (op_move rfl) rfl (by simp) ?_
        first
          | refine al_op (op_field_rptr Try.underlying27 rfl info22 (by decide) rfl rfl) rfl (by simp) ?_
          | refine al_op (op_field_ptr Try.underlying27 rfl info22 (by decide) rfl rfl rfl) rfl (by simp) ?_
        first
          | refine al_op (op_load_rptr Try.underlying22 info22 rfl rfl) rfl (by simp) ?_
          | refine al_op (op_load_map Try.underlying22 info22 rfl rfl (by omega) rfl) rfl (by simp) ?_
          | refine al_op (op_load_ptr Try.underlying22 info22 rfl rfl rfl rfl) rfl (by simp) ?_
        first
          | refine al_op (op_len_map Try.underlying22 rfl) rfl (by simp) ?_
          | refine al_op (op_len_slice Try.underlying22 rfl rfl) rfl (by simp) ?_
          | refine al_op (op_len_list Try.underlying22 rfl) rfl (by simp) ?_
          | refine al_op (op_len_v Try.underlying22 rfl) rfl (by simp) ?_
          | refine al_op (op_len_nil Try.underlying22 rfl) rfl (by simp) ?_
        refine al_op (op_shl (a := ((1 : Nat) : Int)) rfl rfl (by omega) (shl_i64 (by decide) (by omega))) rfl (by simp) ?_
        refine al_op (op_lss rfl rfl) rfl (by simp) ?_
        refine al_nil ?_
        refine aw_cond rfl (fun h22 => ?_) (fun h22 => ?_)
        ·have gh22 := h22
         try simp only [nrm] at h22
         refine aw_skip ?_
         refine aw_seq ?_
         refine aw_block ?_
         refine aw_seq ?_
         have hj01 := bitsI_01 (j : Int) n.ins.length
         have hjl := bitsI_length (j : Int) n.ins.length
         have r1 := bit_bytes (bit01_bit hj01)
         have r2 := bit_bytes (bit01_bit hk01)
         have r3 : (bitsI (j : Int) n.ins.length).length ≤ 140737488355328 := by omega
         have r4 : (bitsI (k : Int) n.regs.length).length ≤ 140737488355328 := by omega
         obtain ⟨t1, t2, t3⟩ := Net.next_01 hv (k : Int) j
         have hmt : (((n.reachL.take n.reachL.length).map keyI).any (keyEq (.int .i64 ((num (n.eval (bitsI (j : Int) n.ins.length) (bitsI (k : Int) n.regs.length)).2.1 : Nat) : Int)))) = true := Net.metB_iff.2 (Net.reachL_mem.2 (by rw [← Net.next_eval hv]; exact Net.bfs_closed hb1 hyk (by omega)))
         refine aw_any (Checked.mixed Try.checked) ?_
         apply aany_seg (p := 0) (q := 19) (by kernel_rfl) rfl (by decide)
         ·
          first
            | apply ql_plain rfl (op_load_rptr Try.underlying27 info27 rfl rfl)
            | apply ql_plain rfl (op_load_map Try.underlying27 info27 rfl rfl (by omega) rfl)
            | apply ql_plain rfl (op_load_ptr Try.underlying27 info27 rfl rfl rfl rfl)
          apply ql_plain rfl (op_move rfl)
          first
            | apply ql_plain rfl (op_field_rptr Try.underlying27 rfl info22 (by decide) rfl rfl)
            | apply ql_plain rfl (op_field_ptr Try.underlying27 rfl info22 (by decide) rfl rfl rfl)
          first
            | apply ql_plain rfl (op_load_rptr Try.underlying22 info22 rfl rfl)
            | apply ql_plain rfl (op_load_map Try.underlying22 info22 rfl rfl (by omega) rfl)
            | apply ql_plain rfl (op_load_ptr Try.underlying22 info22 rfl rfl rfl rfl)
          first
            | apply ql_plain rfl (op_len_map Try.underlying22 rfl)
            | apply ql_plain rfl (op_len_slice Try.underlying22 rfl rfl)
            | apply ql_plain rfl (op_len_list Try.underlying22 rfl)
            | apply ql_plain rfl (op_len_v Try.underlying22 rfl)
            | apply ql_plain rfl (op_len_nil Try.underlying22 rfl)
          first
            | apply ql_call into26 rfl rfl rfl ((l_split _ _ (by omega) (by omega) (by omega)) _)
            | apply ql_call into26 rfl rfl rfl (ac_told (re_cons (by first | exact .leaf _ _ (.same _) | exact .leaf _ _ (.vnil _) | exact .leaf _ _ (.nil _)) (re_cons (by first | exact .leaf _ _ (.same _) | exact .leaf _ _ (.vnil _) | exact .leaf _ _ (.nil _)) re_nil)) ((l_split _ _ (by omega) (by omega) (by omega)) _))
          apply ql_plain rfl (op_move rfl)
          first
            | apply ql_plain rfl (op_field_rptr Try.underlying27 rfl info23 (by decide) rfl rfl)
            | apply ql_plain rfl (op_field_ptr Try.underlying27 rfl info23 (by decide) rfl rfl rfl)
          first
            | apply ql_plain rfl (op_load_rptr Try.underlying23 info23 rfl rfl)
            | apply ql_plain rfl (op_load_map Try.underlying23 info23 rfl rfl (by omega) rfl)
            | apply ql_plain rfl (op_load_ptr Try.underlying23 info23 rfl rfl rfl rfl)
          first
            | apply ql_plain rfl (op_len_map Try.underlying23 rfl)
            | apply ql_plain rfl (op_len_slice Try.underlying23 rfl rfl)
            | apply ql_plain rfl (op_len_list Try.underlying23 rfl)
            | apply ql_plain rfl (op_len_v Try.underlying23 rfl)
            | apply ql_plain rfl (op_len_nil Try.underlying23 rfl)
          first
            | apply ql_call into26 rfl rfl rfl ((l_split _ _ (by omega) (by omega) (by omega)) _)
            | apply ql_call into26 rfl rfl rfl (ac_told (re_cons (by first | exact .leaf _ _ (.same _) | exact .leaf _ _ (.vnil _) | exact .leaf _ _ (.nil _)) (re_cons (by first | exact .leaf _ _ (.same _) | exact .leaf _ _ (.vnil _) | exact .leaf _ _ (.nil _)) re_nil)) ((l_split _ _ (by omega) (by omega) (by omega)) _))
          first
            | apply ql_call into25 rfl rfl rfl ((r_Eval _ (by assumption) _ _ (by assumption) (by assumption) (by assumption) (by assumption)) _)
            | apply ql_call into25 rfl rfl rfl (ac_told (re_cons (by first | exact .leaf _ _ (.same _) | exact .leaf _ _ (.vnil _) | exact .leaf _ _ (.nil _)) (re_cons (by first | exact .leaf _ _ (.same _) | exact .leaf _ _ (.vnil _) | exact .leaf _ _ (.nil _)) (re_cons (by first | exact .leaf _ _ (.same _) | exact .leaf _ _ (.vnil _) | exact .leaf _ _ (.nil _)) re_nil))) ((r_Eval _ (by assumption) _ _ (by assumption) (by assumption) (by assumption) (by assumption)) _))
          apply ql_plain rfl (op_move rfl)
          apply ql_plain rfl (op_extract rfl rfl rfl)
          apply ql_plain rfl (op_extract rfl rfl rfl)
          apply ql_plain rfl (op_extract rfl rfl rfl)
          apply ql_plain rfl (op_assign rfl)
          apply ql_plain rfl (op_assign rfl)
          apply ql_plain rfl (op_assign rfl)
          exact ql_nil
         ·simp
         refine aany_end rfl (by kernel_rfl) ?_
         refine aw_seq ?_
         refine aw_region ?_
         refine al_op (op_move rfl) rfl (by simp) ?_
         refine al_op (op_move rfl) rfl (by simp) ?_
         first
           | refine al_callp into21 rfl rfl rfl ((l_number _ (by assumption) (by omega)) _) (by simp) ?_
           | refine al_callp into21 rfl rfl rfl (acp_lent (lend_cons (by first | exact lend_same | exact .leaf _ _ (.vnil _) | exact .leaf _ _ (.nil _) | exact lend_whole rfl (by first | rfl | (simp; done) | (simp; omega)) (clo_map (fun _ => rfl)) | exact lend_netg (by first | exact .same _ | exact lendL_vnil | exact lendL_whole rfl (by first | rfl | (simp; done) | (simp; omega)) (clo_map (fun _ => rfl))) (by first | exact .same _ | exact lendL_vnil | exact lendL_whole rfl (by first | rfl | (simp; done) | (simp; omega)) (clo_map (fun _ => rfl))) (by first | exact .same _ | exact lendL_vnil | exact lendL_whole rfl (by first | rfl | (simp; done) | (simp; omega)) (clo_map (fun _ => rfl))) (by first | exact .same _ | exact lendL_vnil | exact lendL_whole rfl (by first | rfl | (simp; done) | (simp; omega)) (clo_map (fun _ => rfl)))) lend_nil) (l_number _ (by assumption) (by omega)) rfl) (by simp) ?_
         refine al_op (op_lookup_set Try.underlying48 (keyLaw_int Try.underlying3) info4 rfl rfl rfl rfl rfl ⟨_, rfl⟩ (by intro e he; obtain ⟨_, _, rfl⟩ := List.mem_map.1 he; exact ⟨_, rfl⟩)) rfl (by simp) ?_
         refine al_op (op_not rfl) rfl (by simp) ?_
         refine al_nil ?_
         refine aw_cond rfl (fun h23 => ?_) (fun h23 => ?_)
         ·have gh23 := h23
          try simp only [nrm] at h23
          rw [hmt] at gh23; exact absurd gh23 (by decide)
         ·have gh23 := h23
          try simp only [nrm] at h23
          refine aw_skip ?_
          refine aw_region ?_
          refine al_op (op_move rfl) rfl (by simp) ?_
          refine al_op (op_add rfl rfl (by first | exact wrap_i64 (by omega) (by omega))) rfl (by simp) ?_
          refine al_op (op_assign rfl) rfl (by simp) ?_
          refine al_nil ?_
          refine ⟨j + 1, ?_, ?_, ?_, ?_, ?_⟩
          ·omega
          ·omega
          ·refine sub_cons (get_as rfl ?_) ?_; rotate_left; exact sub_nil
           all_goals (first | rfl | simp)
          ·repeat (first | exact subx_refl | exact subx_del | refine subx_put rfl ?_)
          ·rfl
        ·have gh22 := h22
         try simp only [nrm] at h22
         refine aw_exit ?_
         skip
         refine aw_region ?_
         refine al_op (op_move rfl) rfl (by simp) ?_
         refine al_op (op_add rfl rfl (by first | exact wrap_i64 (by omega) (by omega))) rfl (by simp) ?_
         refine al_op (op_assign rfl) rfl (by simp) ?_
         refine al_nil ?_
         refine ⟨k + 1, ?_, ?_, ?_, ?_, ?_⟩
         ·omega
         ·omega
         ·refine sub_cons (get_as rfl ?_) ?_; rotate_left; exact sub_nil
          all_goals (first | rfl | simp)
         ·repeat (first | exact subx_refl | exact subx_del | refine subx_put rfl ?_)
         ·rfl
     ·have gh15 := h15
      try simp only [nrm] at h15
      refine aw_exit ?_
      skip
      refine aw_seq ?_
      refine aw_region ?_
      first
        | refine al_callp into13 rfl rfl rfl ((l_awake4 ) _) (by simp) ?_
        | refine al_callp into13 rfl rfl rfl (acp_lent lend_nil (l_awake4 ) rfl) (by simp) ?_
      refine al_op (op_assign rfl) rfl (by simp) ?_
      refine al_nil ?_
      refine aw_freeze (fun _ => false) (fsub_cons (t := 2) rfl (.leaf _ _ (.same _)) fsub_nil) ?_
      refine aw_ret ?_
      refine ⟨_, res_1 rfl rfl, ?_, rfl⟩
      rfl
end Go.Proofs.Ytnnklpmgncbgnaa
