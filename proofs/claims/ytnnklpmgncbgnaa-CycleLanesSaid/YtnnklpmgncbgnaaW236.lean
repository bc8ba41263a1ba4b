/- Printed walks (gen.py, gates_ann.py): part 236. -/
import Derived.Test.YtnnklpmgncbgnaaW231
import Derived.Test.YtnnklpmgncbgnaaCLane
import Derived.Test.YtnnklpmgncbgnaaFacts
set_option linter.unusedVariables false
set_option linter.unusedSimpArgs false
set_option maxRecDepth 20000
set_option maxHeartbeats 40000000
namespace Go.Proofs.Ytnnklpmgncbgnaa
open Go

theorem law_CycleLanes (n : Net) (hn : n.Small) (f : List Nat) (hf : W64 f) (hfl : f.length * 8 ≤ 140737488351232) (p1 p2 : Int) (hp1 : 0 ≤ p1) (hp2 : p1 ≤ 255) (hp3 : 0 ≤ p2) (hp4 : p2 ≤ 255) : ACp Try.prog 4 [encN n, .list 1 (f.map encU), .agg [.v (.int .u8 p1), .v (.int .u8 p2)]] (.v (.bool (true))) := by
 refine acp_of rfl ?_
 have z1 := hn.insL
 have z2 := hn.regsL
 refine ac_enter 164 Try.func4 rfl rfl (by simp) ?_
 refine aw_seq ?_
 refine aw_region ?_
 (refine al_opR (op_box 3 rfl rfl (by first | rfl | exact live_one rfl | (repeat (first | exact all_live_nil | refine all_live_clo rfl ?_ | refine all_live_slice rfl ?_ | refine all_live_map rfl ?_ | refine all_live_ptr rfl ?_)))) rfl (by simp) ?_; rintro _ _ ⟨ver3, rfl, rfl⟩)
 (refine al_opR (op_box 5 rfl rfl (by first | rfl | exact live_one rfl | (repeat (first | exact all_live_nil | refine all_live_clo rfl ?_ | refine all_live_slice rfl ?_ | refine all_live_map rfl ?_ | refine all_live_ptr rfl ?_)))) rfl (by simp) ?_; rintro _ _ ⟨ver5, rfl, rfl⟩)
 refine al_op (op_assign rfl) rfl (by simp) ?_
 refine al_nil ?_
 refine aw_seq ?_
 refine aw_seq ?_
 refine aw_region ?_
 first
   | refine al_op (op_load_rptr Try.underlying27 info27 rfl rfl) rfl (by simp) ?_
   | refine al_op (op_load_map Try.underlying27 info27 rfl rfl (by omega) rfl) rfl (by simp) ?_
   | refine al_op (op_load_ptr Try.underlying27 info27 rfl rfl rfl rfl) rfl (by simp) ?_
 refine al_callp into12 rfl rfl rfl (ac_told (re_cons (.leaf _ _ (.same _)) (re_cons (.leaf _ _ (.vnil 1)) re_nil)) (l_few n hn [] ins_nil _)) (by simp) ?_
 refine al_op (op_not rfl) rfl (by simp) ?_
 refine al_op (op_move rfl) rfl (by simp) ?_
 apply al_or 4 24 28 rfl
 ·intro h1; have gh1 := h1
  try simp only [nrm] at h1
  first
    | refine al_take (op_load_rptr Try.underlying27 info27 rfl rfl) rfl rfl rfl rfl (by simp) ?_
    | refine al_take (op_load_map Try.underlying27 info27 rfl rfl (by omega) rfl) rfl rfl rfl rfl (by simp) ?_
    | refine al_take (op_load_ptr Try.underlying27 info27 rfl rfl rfl rfl) rfl rfl rfl rfl (by simp) ?_
  first
    | refine al_callp_take into16 rfl rfl rfl rfl rfl rfl ((r_Valid _ (by assumption)) _) (by simp) ?_
    | refine al_callp_take into16 rfl rfl rfl rfl rfl rfl (acp_lent (lend_cons (by first | exact lend_same | exact .leaf _ _ (.vnil _) | exact .leaf _ _ (.nil _) | exact lend_whole rfl (by first | rfl | (simp; done) | (simp; omega)) (clo_map (fun _ => rfl)) | exact lend_netg (by first | exact .same _ | exact lendL_vnil | exact lendL_whole rfl (by first | rfl | (simp; done) | (simp; omega)) (clo_map (fun _ => rfl))) (by first | exact .same _ | exact lendL_vnil | exact lendL_whole rfl (by first | rfl | (simp; done) | (simp; omega)) (clo_map (fun _ => rfl))) (by first | exact .same _ | exact lendL_vnil | exact lendL_whole rfl (by first | rfl | (simp; done) | (simp; omega)) (clo_map (fun _ => rfl))) (by first | exact .same _ | exact lendL_vnil | exact lendL_whole rfl (by first | rfl | (simp; done) | (simp; omega)) (clo_map (fun _ => rfl)))) lend_nil) (r_Valid _ (by assumption)) rfl) (by simp) ?_
  refine al_take (op_not rfl) rfl rfl rfl rfl (by simp) ?_
  first
    | refine al_op (op_pick rfl rfl) rfl (by simp) ?_
    | refine al_op (op_or rfl rfl rfl) rfl (by simp) ?_
  refine al_nil ⟨rfl, rfl, rfl, keep_of ?_⟩
  repeat (first | exact subx_refl | exact subx_known rfl gh1 subx_refl | refine subx_put rfl ?_)
 ·intro h1; have gh1 := h1
  try simp only [nrm] at h1
  refine al_pass rfl rfl rfl rfl (by simp) ?_
  refine al_pass rfl rfl rfl rfl (by simp) ?_
  refine al_pass rfl rfl rfl rfl (by simp) ?_
  first
    | refine al_op (op_pick rfl rfl) rfl (by simp) ?_
    | refine al_op (op_or rfl rfl rfl) rfl (by simp) ?_
  refine al_nil ⟨rfl, rfl, rfl, keep_of ?_⟩
  repeat (first | exact subx_refl | exact subx_known rfl gh1 subx_refl | refine subx_put rfl ?_)
 refine al_op (op_move rfl) rfl (by simp) ?_
 apply al_or 4 29 33 rfl
 ·intro h2; have gh2 := h2
  try simp only [nrm] at h2
  first
    | refine al_take (op_load_rptr Try.underlying27 info27 rfl rfl) rfl rfl rfl rfl (by simp) ?_
    | refine al_take (op_load_map Try.underlying27 info27 rfl rfl (by omega) rfl) rfl rfl rfl rfl (by simp) ?_
    | refine al_take (op_load_ptr Try.underlying27 info27 rfl rfl rfl rfl) rfl rfl rfl rfl (by simp) ?_
  first
    | refine al_callp_take into17 rfl rfl rfl rfl rfl rfl ((r_Known4 _ (by assumption)) _) (by simp) ?_
    | refine al_callp_take into17 rfl rfl rfl rfl rfl rfl (acp_lent (lend_cons (by first | exact lend_same | exact .leaf _ _ (.vnil _) | exact .leaf _ _ (.nil _) | exact lend_whole rfl (by first | rfl | (simp; done) | (simp; omega)) (clo_map (fun _ => rfl)) | exact lend_netg (by first | exact .same _ | exact lendL_vnil | exact lendL_whole rfl (by first | rfl | (simp; done) | (simp; omega)) (clo_map (fun _ => rfl))) (by first | exact .same _ | exact lendL_vnil | exact lendL_whole rfl (by first | rfl | (simp; done) | (simp; omega)) (clo_map (fun _ => rfl))) (by first | exact .same _ | exact lendL_vnil | exact lendL_whole rfl (by first | rfl | (simp; done) | (simp; omega)) (clo_map (fun _ => rfl))) (by first | exact .same _ | exact lendL_vnil | exact lendL_whole rfl (by first | rfl | (simp; done) | (simp; omega)) (clo_map (fun _ => rfl)))) lend_nil) (r_Known4 _ (by assumption)) rfl) (by simp) ?_
  refine al_take (op_not rfl) rfl rfl rfl rfl (by simp) ?_
  first
    | refine al_op (op_pick rfl rfl) rfl (by simp) ?_
    | refine al_op (op_or rfl rfl rfl) rfl (by simp) ?_
  refine al_nil ⟨rfl, rfl, rfl, keep_of ?_⟩
  repeat (first | exact subx_refl | exact subx_known rfl gh2 subx_refl | refine subx_put rfl ?_)
 ·intro h2; have gh2 := h2
  try simp only [nrm] at h2
  refine al_pass rfl rfl rfl rfl (by simp) ?_
  refine al_pass rfl rfl rfl rfl (by simp) ?_
  refine al_pass rfl rfl rfl rfl (by simp) ?_
  first
    | refine al_op (op_pick rfl rfl) rfl (by simp) ?_
    | refine al_op (op_or rfl rfl rfl) rfl (by simp) ?_
  refine al_nil ⟨rfl, rfl, rfl, keep_of ?_⟩
  repeat (first | exact subx_refl | exact subx_known rfl gh2 subx_refl | refine subx_put rfl ?_)
 refine al_nil ?_
 refine aw_cond rfl (fun h3 => ?_) (fun h3 => ?_)
 ·have gh3 := h3
  try simp only [nrm] at h3
  refine aw_seq ?_
  refine aw_region ?_
  first
    | refine al_callp into13 rfl rfl rfl ((l_awake4 ) _) (by simp) ?_
    | refine al_callp into13 rfl rfl rfl (acp_lent lend_nil (l_awake4 ) rfl) (by simp) ?_
  refine al_op (op_assign rfl) rfl (by simp) ?_
  refine al_nil ?_
  refine aw_freeze (fun _ => false) (fsub_cons (t := 6) rfl (.leaf _ _ (.same _)) fsub_nil) ?_
  refine aw_ret ?_
  refine ⟨_, res_1 rfl rfl, ?_, rfl⟩
  rfl
 ·have gh3 := h3
  try simp only [nrm] at h3
  refine aw_skip ?_
  refine aw_seq ?_
  have g0 := gh3
  simp only [Bool.or_eq_false_iff, Bool.not_eq_false'] at g0
  obtain ⟨⟨hfw, hv⟩, hk4⟩ := g0
  obtain ⟨hfw1, hfw2⟩ := Net.few_facts hfw
  have hfo := Net.firsts_ok hn hv
  have hfb := Net.firsts_bytes hn
  have hkn := Net.known4_known hk4
  refine aw_region ?_
  first
    | refine al_op (op_index_arptr Try.underlying37 info5 rfl rfl rfl (by decide) (by decide)) rfl (by simp) ?_
    | refine al_op (op_index_aptr Try.underlying37 info5 rfl rfl rfl rfl (by decide) (by decide)) rfl (by simp) ?_
  first
    | refine al_op (op_load_rptr Try.underlying5 info5 rfl rfl) rfl (by simp) ?_
    | refine al_op (op_load_map Try.underlying5 info5 rfl rfl (by omega) rfl) rfl (by simp) ?_
    | refine al_op (op_load_ptr Try.underlying5 info5 rfl rfl rfl rfl) rfl (by simp) ?_
  refine al_op (op_conv Try.underlying5 Try.underlying3 rfl (wrap_i64 (by omega) (by omega))) rfl (by simp) ?_
  first
    | refine al_op (op_rem rfl rfl (by omega) (rem_nn (by omega))) rfl (by simp) ?_
    | refine al_op (op_rem rfl rfl (by omega) rfl) rfl (by simp) ?_
  refine al_op (op_assign rfl) rfl (by simp) ?_
  refine al_nil ?_
  refine aw_seq ?_
  obtain ⟨L, hL1, hL2⟩ : ∃ L : Nat, p2 % 64 = (L : Int) ∧ L < 64 := ⟨(p2 % 64).toNat, by omega, by omega⟩
  refine aw_as 7 (.v (.int .i64 (L : Int))) rfl (by rw [hL1]) ?_
  refine aw_region ?_
  refine al_op (op_assign rfl) rfl (by simp) ?_
  refine al_nil ?_
  refine aw_seq ?_
  refine aw_region ?_
  refine al_op (op_assign rfl) rfl (by simp) ?_
  refine al_nil ?_
  refine aw_seq ?_
  refine aw_seq ?_
  refine aw_region ?_
  refine al_op (op_assign rfl) rfl (by simp) ?_
  refine al_nil ?_
  refine aw_block ?_
  apply aw_only
  ·
   (first | apply sub_cons (t := 1) rfl | skip)
   (first | apply sub_cons (t := 3) rfl | skip)
   (first | apply sub_cons (t := 5) rfl | skip)
   (first | apply sub_cons (t := 6) rfl | skip)
   (first | apply sub_cons (t := 7) rfl | skip)
   (first | apply sub_cons (t := 8) rfl | skip)
   (first | apply sub_cons (t := 9) rfl | skip)
   (first | apply sub_cons (t := 10) rfl | skip)
   exact sub_nil
  refine aw_own_map encLU 8 1 8 rfl rfl (fun ver8 => ?_)
  refine aw_own_map encL 9 1 9 rfl rfl (fun ver9 => ?_)
  refine aw_for3T (α := Nat) (β := Nat) (γ := Nat) [8, 9, 10] [] (fun i v8 v9 => (p1 % 31).toNat - i) (fun i v8 v9 => i ≤ (p1 % 31).toNat) (fun i v8 v9 => ([(8, .slice 8 v8 0 (allW f n.ins.length i).length), (9, .slice 9 v9 0 (allB f n.ins.length L i).length), (10, .v (.int .i64 (i)))] : Env)) (fun i v8 v9 s => (s.put 8 v8 (.row 1 ((allW f n.ins.length i).map encLU))).put 9 v9 (.row 1 ((allB f n.ins.length L i).map encL))) (0) (ver8) (ver9) ?_ ?_ ?_ (fun i v8 v9 hinv => ?_)
  ·exact Nat.zero_le _
  ·refine sub_cons (get_as rfl ?_) ?_; rotate_left; refine sub_cons (get_as rfl ?_) ?_; rotate_left; refine sub_cons (get_as rfl ?_) ?_; rotate_left; exact sub_nil
   all_goals (first | rfl | (simp; done) | (rw [allW_succ] <;> rfl) | (rw [allB_succ] <;> rfl))
  ·rfl
  have hlw := allW_length f n.ins.length i
  have hlb := allB_length f n.ins.length L i
  refine aw_seq ?_
  refine aw_seq ?_
  refine aw_region ?_
  refine al_op (op_move rfl) rfl (by simp) ?_
  first
    | refine al_op (op_index_arptr Try.underlying37 info5 rfl rfl rfl (by decide) (by decide)) rfl (by simp) ?_
    | refine al_op (op_index_aptr Try.underlying37 info5 rfl rfl rfl rfl (by decide) (by decide)) rfl (by simp) ?_
  first
    | refine al_op (op_load_rptr Try.underlying5 info5 rfl rfl) rfl (by simp) ?_
    | refine al_op (op_load_map Try.underlying5 info5 rfl rfl (by omega) rfl) rfl (by simp) ?_
    | refine al_op (op_load_ptr Try.underlying5 info5 rfl rfl rfl rfl) rfl (by simp) ?_
  refine al_op (op_conv Try.underlying5 Try.underlying3 rfl (wrap_i64 (by omega) (by omega))) rfl (by simp) ?_
  first
    | refine al_op (op_rem rfl rfl (by omega) (rem_nn (by omega))) rfl (by simp) ?_
    | refine al_op (op_rem rfl rfl (by omega) rfl) rfl (by simp) ?_
  refine al_op (op_lss rfl rfl) rfl (by simp) ?_
  refine al_nil ?_
  refine aw_cond rfl (fun h4 => ?_) (fun h4 => ?_)
  ·have gh4 := h4
   try simp only [nrm] at h4
   refine aw_skip ?_
   refine aw_seq ?_
   refine aw_block ?_
   refine aw_seq ?_
   refine aw_region ?_
   refine al_op (op_assign rfl) rfl (by simp) ?_
   refine al_nil ?_
   refine aw_seq ?_
   refine aw_region ?_
   refine al_op (op_assign rfl) rfl (by simp) ?_
   refine al_nil ?_
   refine aw_seq ?_
   refine aw_seq ?_
   refine aw_region ?_
   first
     | refine al_op (op_field_rptr Try.underlying27 rfl info22 (by decide) rfl rfl) rfl (by simp) ?_
     | refine al_op (op_field_ptr Try.underlying27 rfl info22 (by decide) rfl rfl rfl) rfl (by simp) ?_
   first
     | refine al_op (op_load_rptr Try.underlying22 info22 rfl rfl) rfl (by simp) ?_
     | refine al_op (op_load_map Try.underlying22 info22 rfl rfl (by omega) rfl) rfl (by simp) ?_
     | refine al_op (op_load_ptr Try.underlying22 info22 rfl rfl rfl rfl) rfl (by simp) ?_
   first
     | refine al_op (op_len_map Try.underlying22 rfl) rfl (by simp) ?_
     | refine al_op (op_len_slice Try.underlying22 rfl rfl) rfl (by simp) ?_
     | refine al_op (op_len_list Try.underlying22 rfl) rfl (by simp) ?_
     | refine al_op (op_len_v Try.underlying22 rfl) rfl (by simp) ?_
     | refine al_op (op_len_nil Try.underlying22 rfl) rfl (by simp) ?_
   refine al_op (op_move rfl) rfl (by simp) ?_
   refine al_nil ?_
   refine aw_block ?_
   refine aw_own_map encU 11 1 11 rfl rfl (fun ver11 => ?_)
   refine aw_own_map encB 12 1 12 rfl rfl (fun ver12 => ?_)
   refine aw_for3T (α := Nat) (β := Nat) (γ := Nat) [11, 12, 13, 14, 50, 51, 52, 53, 54, 55, 56, 57, 58, 59, 60, 61, 62, 63, 64, 65, 66, 67, 68, 69, 70, 71, 72, 73, 74, 75, 76, 77, 78, 79, 80, 81, 82, 83, 84] [] (fun j v11 v12 => n.ins.length - j) (fun j v11 v12 => j ≤ n.ins.length) (fun j v11 v12 => ([(11, .slice 11 v11 0 (wordsTo f n.ins.length i j).length), (12, .slice 12 v12 0 (laneBitsTo f n.ins.length L i j).length), (50, .v (.int .i64 (j)))] : Env)) (fun j v11 v12 st => (st.put 11 v11 (.row 1 ((wordsTo f n.ins.length i j).map encU))).put 12 v12 (.row 1 ((laneBitsTo f n.ins.length L i j).map encB))) (0) (ver11) (ver12) ?_ ?_ ?_ (fun j v11 v12 hinv => ?_)
   ·exact Nat.zero_le _
   ·refine sub_cons (get_as rfl ?_) ?_; rotate_left; refine sub_cons (get_as rfl ?_) ?_; rotate_left; refine sub_cons (get_as rfl ?_) ?_; rotate_left; exact sub_nil
    all_goals (first | rfl | (simp; done) | (rw [wordsTo_succ] <;> rfl) | (rw [laneBitsTo_succ] <;> rfl))
   ·rfl
   have hlw2 := wordsTo_length f n.ins.length i j
   have hlb2 := laneBitsTo_length f n.ins.length L i j
   refine aw_seq ?_
   refine aw_region ?_
   refine al_op (op_lss rfl rfl) rfl (by simp) ?_
   refine al_nil ?_
   refine aw_seq ?_
   refine aw_cond rfl (fun h5 => ?_) (fun h5 => ?_)
   ·have gh5 := h5
    try simp only [nrm] at h5
    refine aw_skip ?_
    refine aw_seq ?_
    refine aw_block ?_
    refine aw_seq ?_
    refine aw_region ?_
    refine al_op (op_move rfl) rfl (by simp) ?_
    refine al_op (op_assign rfl) rfl (by simp) ?_
    refine al_nil ?_
    refine aw_seq ?_
    refine aw_region ?_
    refine al_op (op_assign rfl) rfl (by simp) ?_
    refine al_nil ?_
    refine aw_seq ?_
    refine aw_seq ?_
    refine aw_region ?_
    refine al_op (op_move rfl) rfl (by simp) ?_
    first
      | refine al_op (op_len_map Try.underlying34 rfl) rfl (by simp) ?_
      | refine al_op (op_len_slice Try.underlying34 rfl rfl) rfl (by simp) ?_
      | refine al_op (op_len_list Try.underlying34 rfl) rfl (by simp) ?_
      | refine al_op (op_len_v Try.underlying34 rfl) rfl (by simp) ?_
      | refine al_op (op_len_nil Try.underlying34 rfl) rfl (by simp) ?_
    refine al_op (op_gtr rfl rfl) rfl (by simp) ?_
    refine al_nil ?_
    refine aw_cond rfl (fun h6 => ?_) (fun h6 => ?_)
    ·have gh6 := h6
     try simp only [nrm] at h6
     obtain ⟨w1, w2, w3, w4, w5⟩ := word_at (f := f) (m := n.ins.length) (i := i) (j := j) (by omega) (by omega) (by omega) (by omega)
     refine aw_region ?_
     refine al_op (op_move rfl) rfl (by simp) ?_
     refine al_op (op_move rfl) rfl (by simp) ?_
     first
       | refine al_op (op_field_rptr Try.underlying27 rfl info22 (by decide) rfl rfl) rfl (by simp) ?_
       | refine al_op (op_field_ptr Try.underlying27 rfl info22 (by decide) rfl rfl rfl) rfl (by simp) ?_
     first
       | refine al_op (op_load_rptr Try.underlying22 info22 rfl rfl) rfl (by simp) ?_
       | refine al_op (op_load_map Try.underlying22 info22 rfl rfl (by omega) rfl) rfl (by simp) ?_
       | refine al_op (op_load_ptr Try.underlying22 info22 rfl rfl rfl rfl) rfl (by simp) ?_
     first
       | refine al_op (op_len_map Try.underlying22 rfl) rfl (by simp) ?_
       | refine al_op (op_len_slice Try.underlying22 rfl rfl) rfl (by simp) ?_
       | refine al_op (op_len_list Try.underlying22 rfl) rfl (by simp) ?_
       | refine al_op (op_len_v Try.underlying22 rfl) rfl (by simp) ?_
       | refine al_op (op_len_nil Try.underlying22 rfl) rfl (by simp) ?_
     refine al_op (op_mul rfl rfl (by first | exact wrap_i64 (by omega) (by omega))) rfl (by simp) ?_
     refine al_op (op_move rfl) rfl (by simp) ?_
     refine al_op (op_add rfl rfl (by first | exact wrap_i64 (by omega) (by omega))) rfl (by simp) ?_
     refine al_op (op_move rfl) rfl (by simp) ?_
     first
       | refine al_op (op_len_map Try.underlying34 rfl) rfl (by simp) ?_
       | refine al_op (op_len_slice Try.underlying34 rfl rfl) rfl (by simp) ?_
       | refine al_op (op_len_list Try.underlying34 rfl) rfl (by simp) ?_
       | refine al_op (op_len_v Try.underlying34 rfl) rfl (by simp) ?_
       | refine al_op (op_len_nil Try.underlying34 rfl) rfl (by simp) ?_
     first
       | refine al_op (op_rem rfl rfl (by omega) (rem_nn (by omega))) rfl (by simp) ?_
       | refine al_op (op_rem rfl rfl (by omega) rfl) rfl (by simp) ?_
     first
       | refine al_op (op_index_map default Try.underlying34 info35 rfl rfl rfl (by first | (with_reducible exact Int.toNat_natCast _) | rfl) (by omega) (by omega)) rfl (by simp) ?_
       | refine al_op (op_index_slice Try.underlying34 info35 rfl rfl rfl rfl (by omega) (by omega)) rfl (by simp) ?_
       | refine al_op (op_index_list Try.underlying34 info35 rfl rfl rfl (by decide) rfl) rfl (by simp) ?_
     first
       | refine al_op (op_load_rptr Try.underlying35 info35 rfl rfl) rfl (by simp) ?_
       | refine al_op (op_load_map Try.underlying35 info35 rfl rfl (by omega) rfl) rfl (by simp) ?_
       | refine al_op (op_load_ptr Try.underlying35 info35 rfl rfl rfl rfl) rfl (by simp) ?_
     refine al_op (op_move rfl) rfl (by simp) ?_
     first
       | refine al_op (op_rem rfl rfl (by omega) (rem_nn (by omega))) rfl (by simp) ?_
       | refine al_op (op_rem rfl rfl (by omega) rfl) rfl (by simp) ?_
     refine al_op (op_shl rfl rfl (by omega) shl_u64w) rfl (by simp) ?_
     refine al_op (op_assign rfl) rfl (by simp) ?_
     refine al_nil ?_
     refine aw_as 14 (.v (.int .u64 (((wordV f n.ins.length i j) : Nat) : Int))) rfl (by first | (rw [wordV_nil (by omega)]; rfl) | rw [wordV_at (by omega)]) ?_
     have hw := wordV_lt f n.ins.length i j
     have hsr : (wordV f n.ins.length i j) >>> L < 2 ^ 64 := Nat.lt_of_le_of_lt (Nat.shiftRight_le _ _) hw
     refine aw_plan [0, 1, 2, 4, 5, 6, 7, 8, 9, 10, 3, 11, 12, 13] (Checked.mixed Try.checked) (by kernel_rfl) ?_
     refine afl_float rfl rfl (opk_of (op_move rfl)) (by simp) ?_
     refine afl_float rfl rfl (opk_of (op_move rfl)) (by simp) ?_
     refine afl_float rfl rfl (opk_of (op_buildSlice Try.underlying34 info35 rfl rfl (by decide) rfl (by decide) rfl (by first | rfl | (repeat (first | exact parts_nil | refine parts_cons rfl (by repeat (first | exact all_live_nil | refine all_live_clo rfl ?_ | refine all_live_slice rfl ?_ | refine all_live_map rfl ?_ | refine all_live_ptr rfl ?_)) ?_))) rfl rfl rfl)) (by simp) ?_
     refine afl_float rfl rfl (opk_of (op_move rfl)) (by simp) ?_
     refine afl_float rfl rfl (opk_of (op_move rfl)) (by simp) ?_
     refine afl_float rfl rfl (opk_of (op_move rfl)) (by simp) ?_
     refine afl_float rfl rfl (opk_of (op_shr rfl rfl (by omega) (shr_u64 (by omega)))) (by simp) ?_
     refine afl_float rfl rfl (opk_of (op_bitand rfl rfl (u64_and1 hsr))) (by simp) ?_
     refine afl_float rfl rfl (opk_of (op_conv Try.underlying35 Try.underlying41 rfl (wrap_u8 (by omega) (by omega)))) (by simp) ?_
     refine afl_float rfl rfl (opk_of (op_buildSlice Try.underlying40 info41 rfl rfl (by decide) rfl (by decide) rfl (by first | rfl | (repeat (first | exact parts_nil | refine parts_cons rfl (by repeat (first | exact all_live_nil | refine all_live_clo rfl ?_ | refine all_live_slice rfl ?_ | refine all_live_map rfl ?_ | refine all_live_ptr rfl ?_)) ?_))) rfl rfl rfl)) (by simp) ?_
     first
       | (refine afl_effR rfl rfl (by kernel_rfl) (op_append_one (wordV f n.ins.length i j) Try.underlying34 Try.underlying34 rfl info35 rfl rfl (by decide) rfl rfl rfl (by first | rfl | simp) rfl rfl (by first | omega | (simp; done) | (simp; omega)) (by show _ * 8 ≤ _; first | omega | (simp; done) | (simp; omega))) (by simp) ?_; rintro _ _ ⟨ver75, rfl, rfl⟩; refine ⟨?_, ?_⟩)
       | (refine afl_effR rfl rfl (by kernel_rfl) (op_append_map Try.underlying34 Try.underlying34 rfl info35 rfl rfl (by decide) rfl rfl rfl (by first | rfl | simp) rfl (by first | exact .list _ | exact .vnil | exact .nil | exact .row _ _ _ _ rfl (by first | rfl | simp)) rfl (by first | omega | (simp; done) | (simp; omega)) (by show _ * 8 ≤ _; first | omega | (simp; done) | (simp; omega))) (by simp) ?_; rintro _ _ ⟨ver75, rfl, rfl⟩; refine ⟨?_, ?_⟩)
     ·
      refine loose_k rfl (opk_of (op_buildSlice Try.underlying40 info41 rfl rfl (by decide) rfl (by decide) rfl (by first | rfl | (repeat (first | exact parts_nil | refine parts_cons rfl (by repeat (first | exact all_live_nil | refine all_live_clo rfl ?_ | refine all_live_slice rfl ?_ | refine all_live_map rfl ?_ | refine all_live_ptr rfl ?_)) ?_))) rfl rfl rfl)) ?_
      refine loose_k rfl (opk_of (op_conv Try.underlying35 Try.underlying41 rfl (wrap_u8 (by omega) (by omega)))) ?_
      refine loose_k rfl (opk_of (op_bitand rfl rfl (u64_and1 hsr))) ?_
      refine loose_k rfl (opk_of (op_shr rfl rfl (by omega) (shr_u64 (by omega)))) ?_
      refine loose_k rfl (opk_of (op_move rfl)) ?_
      refine loose_k rfl (opk_of (op_move rfl)) ?_
      refine loose_k rfl (opk_of (op_move rfl)) ?_
      refine loose_anc 2 rfl (by kernel_rfl) ?_
      refine loose_anc 1 rfl (by kernel_rfl) ?_
      refine loose_anc 0 rfl (by kernel_rfl) ?_
      exact loose_nil
     first
       | (refine afl_effR rfl rfl (by kernel_rfl) (op_append_one (((wordV f n.ins.length i j) >>> L % 2 : Nat) : Int) Try.underlying40 Try.underlying40 rfl info41 rfl rfl (by decide) rfl rfl rfl (by first | rfl | simp) rfl rfl (by first | omega | (simp; done) | (simp; omega)) (by show _ * 1 ≤ _; first | omega | (simp; done) | (simp; omega))) (by simp) ?_; rintro _ _ ⟨ver83, rfl, rfl⟩; refine ⟨?_, ?_⟩)
       | (refine afl_effR rfl rfl (by kernel_rfl) (op_append_map Try.underlying40 Try.underlying40 rfl info41 rfl rfl (by decide) rfl rfl rfl (by first | rfl | simp) rfl (by first | exact .list _ | exact .vnil | exact .nil | exact .row _ _ _ _ rfl (by first | rfl | simp)) rfl (by first | omega | (simp; done) | (simp; omega)) (by show _ * 1 ≤ _; first | omega | (simp; done) | (simp; omega))) (by simp) ?_; rintro _ _ ⟨ver83, rfl, rfl⟩; refine ⟨?_, ?_⟩)
     ·
      refine loose_fix rfl ?_
      refine loose_anc 10 rfl (by kernel_rfl) ?_
      refine loose_anc 9 rfl (by kernel_rfl) ?_
      refine loose_anc 8 rfl (by kernel_rfl) ?_
      refine loose_anc 7 rfl (by kernel_rfl) ?_
      refine loose_anc 6 rfl (by kernel_rfl) ?_
      refine loose_anc 5 rfl (by kernel_rfl) ?_
      refine loose_anc 4 rfl (by kernel_rfl) ?_
      refine loose_anc 2 rfl (by kernel_rfl) ?_
      refine loose_anc 1 rfl (by kernel_rfl) ?_
      refine loose_anc 0 rfl (by kernel_rfl) ?_
      exact loose_nil
     refine afl_float rfl rfl (opk_of (op_assign rfl)) (by simp) ?_
     refine afl_float rfl rfl (opk_of (op_assign rfl)) (by simp) ?_
     refine afl_end ?_
     refine aw_region ?_
     refine al_op (op_add rfl rfl (by first | exact wrap_i64 (by omega) (by omega))) rfl (by simp) ?_
     refine al_op (op_move rfl) rfl (by simp) ?_
     refine al_nil ?_
     refine ⟨j + 1, ver75, ver83, ?_, ?_, ?_, ?_, ?_⟩
     ·omega
     ·omega
     ·refine sub_cons (get_as rfl ?_) ?_; rotate_left; refine sub_cons (get_as rfl ?_) ?_; rotate_left; refine sub_cons (get_as rfl ?_) ?_; rotate_left; exact sub_nil
      all_goals (first | rfl | (simp; done) | (rw [wordsTo_succ] <;> rfl) | (rw [laneBitsTo_succ] <;> rfl))
     ·repeat (first | exact subx_refl | exact subx_del | refine subx_put rfl ?_)
     ·(rw [wordsTo_succ, laneBitsTo_succ] <;> rfl)
    ·have gh6 := h6
     try simp only [nrm] at h6
     refine aw_skip ?_
     refine aw_as 14 (.v (.int .u64 (((wordV f n.ins.length i j) : Nat) : Int))) rfl (by first | (rw [wordV_nil (by omega)]; rfl) | rw [wordV_at (by omega)]) ?_
     have hw := wordV_lt f n.ins.length i j
     have hsr : (wordV f n.ins.length i j) >>> L < 2 ^ 64 := Nat.lt_of_le_of_lt (Nat.shiftRight_le _ _) hw
     refine aw_plan [0, 1, 2, 4, 5, 6, 7, 8, 9, 10, 3, 11, 12, 13] (Checked.mixed Try.checked) (by kernel_rfl) ?_
     refine afl_float rfl rfl (opk_of (op_move rfl)) (by simp) ?_
     refine afl_float rfl rfl (opk_of (op_move rfl)) (by simp) ?_
     refine afl_float rfl rfl (opk_of (op_buildSlice Try.underlying34 info35 rfl rfl (by decide) rfl (by decide) rfl (by first | rfl | (repeat (first | exact parts_nil | refine parts_cons rfl (by repeat (first | exact all_live_nil | refine all_live_clo rfl ?_ | refine all_live_slice rfl ?_ | refine all_live_map rfl ?_ | refine all_live_ptr rfl ?_)) ?_))) rfl rfl rfl)) (by simp) ?_
     refine afl_float rfl rfl (opk_of (op_move rfl)) (by simp) ?_
     refine afl_float rfl rfl (opk_of (op_move rfl)) (by simp) ?_
     refine afl_float rfl rfl (opk_of (op_move rfl)) (by simp) ?_
     refine afl_float rfl rfl (opk_of (op_shr rfl rfl (by omega) (shr_u64 (by omega)))) (by simp) ?_
     refine afl_float rfl rfl (opk_of (op_bitand rfl rfl (u64_and1 hsr))) (by simp) ?_
     refine afl_float rfl rfl (opk_of (op_conv Try.underlying35 Try.underlying41 rfl (wrap_u8 (by omega) (by omega)))) (by simp) ?_
     refine afl_float rfl rfl (opk_of (op_buildSlice Try.underlying40 info41 rfl rfl (by decide) rfl (by decide) rfl (by first | rfl | (repeat (first | exact parts_nil | refine parts_cons rfl (by repeat (first | exact all_live_nil | refine all_live_clo rfl ?_ | refine all_live_slice rfl ?_ | refine all_live_map rfl ?_ | refine all_live_ptr rfl ?_)) ?_))) rfl rfl rfl)) (by simp) ?_
     first
       | (refine afl_effR rfl rfl (by kernel_rfl) (op_append_one (wordV f n.ins.length i j) Try.underlying34 Try.underlying34 rfl info35 rfl rfl (by decide) rfl rfl rfl (by first | rfl | simp) rfl rfl (by first | omega | (simp; done) | (simp; omega)) (by show _ * 8 ≤ _; first | omega | (simp; done) | (simp; omega))) (by simp) ?_; rintro _ _ ⟨ver75, rfl, rfl⟩; refine ⟨?_, ?_⟩)
       | (refine afl_effR rfl rfl (by kernel_rfl) (op_append_map Try.underlying34 Try.underlying34 rfl info35 rfl rfl (by decide) rfl rfl rfl (by first | rfl | simp) rfl (by first | exact .list _ | exact .vnil | exact .nil | exact .row _ _ _ _ rfl (by first | rfl | simp)) rfl (by first | omega | (simp; done) | (simp; omega)) (by show _ * 8 ≤ _; first | omega | (simp; done) | (simp; omega))) (by simp) ?_; rintro _ _ ⟨ver75, rfl, rfl⟩; refine ⟨?_, ?_⟩)
     ·
      refine loose_k rfl (opk_of (op_buildSlice Try.underlying40 info41 rfl rfl (by decide) rfl (by decide) rfl (by first | rfl | (repeat (first | exact parts_nil | refine parts_cons rfl (by repeat (first | exact all_live_nil | refine all_live_clo rfl ?_ | refine all_live_slice rfl ?_ | refine all_live_map rfl ?_ | refine all_live_ptr rfl ?_)) ?_))) rfl rfl rfl)) ?_
      refine loose_k rfl (opk_of (op_conv Try.underlying35 Try.underlying41 rfl (wrap_u8 (by omega) (by omega)))) ?_
      refine loose_k rfl (opk_of (op_bitand rfl rfl (u64_and1 hsr))) ?_
      refine loose_k rfl (opk_of (op_shr rfl rfl (by omega) (shr_u64 (by omega)))) ?_
      refine loose_k rfl (opk_of (op_move rfl)) ?_
      refine loose_k rfl (opk_of (op_move rfl)) ?_
      refine loose_k rfl (opk_of (op_move rfl)) ?_
      refine loose_anc 2 rfl (by kernel_rfl) ?_
      refine loose_anc 1 rfl (by kernel_rfl) ?_
      refine loose_anc 0 rfl (by kernel_rfl) ?_
      exact loose_nil
     first
       | (refine afl_effR rfl rfl (by kernel_rfl) (op_append_one (((wordV f n.ins.length i j) >>> L % 2 : Nat) : Int) Try.underlying40 Try.underlying40 rfl info41 rfl rfl (by decide) rfl rfl rfl (by first | rfl | simp) rfl rfl (by first | omega | (simp; done) | (simp; omega)) (by show _ * 1 ≤ _; first | omega | (simp; done) | (simp; omega))) (by simp) ?_; rintro _ _ ⟨ver83, rfl, rfl⟩; refine ⟨?_, ?_⟩)
       | (refine afl_effR rfl rfl (by kernel_rfl) (op_append_map Try.underlying40 Try.underlying40 rfl info41 rfl rfl (by decide) rfl rfl rfl (by first | rfl | simp) rfl (by first | exact .list _ | exact .vnil | exact .nil | exact .row _ _ _ _ rfl (by first | rfl | simp)) rfl (by first | omega | (simp; done) | (simp; omega)) (by show _ * 1 ≤ _; first | omega | (simp; done) | (simp; omega))) (by simp) ?_; rintro _ _ ⟨ver83, rfl, rfl⟩; refine ⟨?_, ?_⟩)
     ·
      refine loose_fix rfl ?_
      refine loose_anc 10 rfl (by kernel_rfl) ?_
      refine loose_anc 9 rfl (by kernel_rfl) ?_
      refine loose_anc 8 rfl (by kernel_rfl) ?_
      refine loose_anc 7 rfl (by kernel_rfl) ?_
      refine loose_anc 6 rfl (by kernel_rfl) ?_
      refine loose_anc 5 rfl (by kernel_rfl) ?_
      refine loose_anc 4 rfl (by kernel_rfl) ?_
      refine loose_anc 2 rfl (by kernel_rfl) ?_
      refine loose_anc 1 rfl (by kernel_rfl) ?_
      refine loose_anc 0 rfl (by kernel_rfl) ?_
      exact loose_nil
     refine afl_float rfl rfl (opk_of (op_assign rfl)) (by simp) ?_
     refine afl_float rfl rfl (opk_of (op_assign rfl)) (by simp) ?_
     refine afl_end ?_
     refine aw_region ?_
     refine al_op (op_add rfl rfl (by first | exact wrap_i64 (by omega) (by omega))) rfl (by simp) ?_
     refine al_op (op_move rfl) rfl (by simp) ?_
     refine al_nil ?_
     refine ⟨j + 1, ver75, ver83, ?_, ?_, ?_, ?_, ?_⟩
     ·omega
     ·omega
     ·refine sub_cons (get_as rfl ?_) ?_; rotate_left; refine sub_cons (get_as rfl ?_) ?_; rotate_left; refine sub_cons (get_as rfl ?_) ?_; rotate_left; exact sub_nil
      all_goals (first | rfl | (simp; done) | (rw [wordsTo_succ] <;> rfl) | (rw [laneBitsTo_succ] <;> rfl))
     ·repeat (first | exact subx_refl | exact subx_del | refine subx_put rfl ?_)
     ·(rw [wordsTo_succ, laneBitsTo_succ] <;> rfl)
   ·have gh5 := h5
    try simp only [nrm] at h5
    refine aw_exit ?_
    obtain rfl : j = n.ins.length := by omega
    refine aw_freeze (fun i => !(Nat.beq i 11) && !(Nat.beq i 12)) (fsub_cons (t := 11) rfl (.leaf _ _ (frz_whole rfl rfl (by simp) (clo_map (fun _ => rfl)))) (fsub_cons (t := 12) rfl (.leaf _ _ (frz_whole rfl rfl (by simp) (clo_map (fun _ => rfl)))) fsub_same)) ?_
    refine aw_region ?_
    refine al_op (op_move rfl) rfl (by simp) ?_
    refine al_op (op_move rfl) rfl (by simp) ?_
    refine al_op (op_buildSlice Try.underlying28 info34 rfl rfl (by decide) rfl (by decide) rfl (by first | rfl | (repeat (first | exact parts_nil | refine parts_cons rfl (by repeat (first | exact all_live_nil | refine all_live_clo rfl ?_ | refine all_live_slice rfl ?_ | refine all_live_map rfl ?_ | refine all_live_ptr rfl ?_)) ?_))) rfl rfl rfl) rfl (by simp) ?_
    first
      | (refine al_opR (op_append_one (wordsTo f n.ins.length i n.ins.length) Try.underlying28 Try.underlying28 rfl info34 rfl rfl (by decide) rfl rfl rfl (by first | rfl | simp) rfl rfl (by first | omega | (simp; done) | (simp; omega)) (by show _ * 24 ≤ _; first | omega | (simp; done) | (simp; omega))) rfl (by simp) ?_; rintro _ _ ⟨ver88, rfl, rfl⟩)
      | (refine al_opR (op_append_map Try.underlying28 Try.underlying28 rfl info34 rfl rfl (by decide) rfl rfl rfl (by first | rfl | simp) rfl (by first | exact .list _ | exact .vnil | exact .nil | exact .row _ _ _ _ rfl (by first | rfl | simp)) rfl (by first | omega | (simp; done) | (simp; omega)) (by show _ * 24 ≤ _; first | omega | (simp; done) | (simp; omega))) rfl (by simp) ?_; rintro _ _ ⟨ver88, rfl, rfl⟩)
    refine al_op (op_move rfl) rfl (by simp) ?_
    refine al_op (op_move rfl) rfl (by simp) ?_
    refine al_op (op_buildSlice Try.underlying39 info40 rfl rfl (by decide) rfl (by decide) rfl (by first | rfl | (repeat (first | exact parts_nil | refine parts_cons rfl (by repeat (first | exact all_live_nil | refine all_live_clo rfl ?_ | refine all_live_slice rfl ?_ | refine all_live_map rfl ?_ | refine all_live_ptr rfl ?_)) ?_))) rfl rfl rfl) rfl (by simp) ?_
    first
      | (refine al_opR (op_append_one (laneBitsTo f n.ins.length L i n.ins.length) Try.underlying39 Try.underlying39 rfl info40 rfl rfl (by decide) rfl rfl rfl (by first | rfl | simp) rfl rfl (by first | omega | (simp; done) | (simp; omega)) (by show _ * 24 ≤ _; first | omega | (simp; done) | (simp; omega))) rfl (by simp) ?_; rintro _ _ ⟨ver92, rfl, rfl⟩)
      | (refine al_opR (op_append_map Try.underlying39 Try.underlying39 rfl info40 rfl rfl (by decide) rfl rfl rfl (by first | rfl | simp) rfl (by first | exact .list _ | exact .vnil | exact .nil | exact .row _ _ _ _ rfl (by first | rfl | simp)) rfl (by first | omega | (simp; done) | (simp; omega)) (by show _ * 24 ≤ _; first | omega | (simp; done) | (simp; omega))) rfl (by simp) ?_; rintro _ _ ⟨ver92, rfl, rfl⟩)
    refine al_op (op_assign rfl) rfl (by simp) ?_
    refine al_op (op_assign rfl) rfl (by simp) ?_
    refine al_nil ?_
    refine aw_region ?_
    refine al_op (op_move rfl) rfl (by simp) ?_
    refine al_op (op_add rfl rfl (by first | exact wrap_i64 (by omega) (by omega))) rfl (by simp) ?_
    refine al_op (op_assign rfl) rfl (by simp) ?_
    refine al_nil ?_
    refine ⟨i + 1, ver88, ver92, ?_, ?_, ?_, ?_, ?_⟩
    ·omega
    ·omega
    ·refine sub_cons (get_as rfl ?_) ?_; rotate_left; refine sub_cons (get_as rfl ?_) ?_; rotate_left; refine sub_cons (get_as rfl ?_) ?_; rotate_left; exact sub_nil
     all_goals (first | rfl | (simp; done) | (rw [allW_succ] <;> rfl) | (rw [allB_succ] <;> rfl))
    ·repeat (first | exact subx_refl | exact subx_del | refine subx_put rfl ?_)
    ·(rw [allW_succ, allB_succ] <;> rfl)
  ·have gh4 := h4
   try simp only [nrm] at h4
   refine aw_exit ?_
   obtain rfl : i = (p1 % 31).toNat := by omega
   refine aw_seq ?_
   refine aw_freeze (fun i => Nat.beq i 3) (fsub_cons (t := 8) rfl (.leaf _ _ (frz_whole rfl rfl (by simp) (clo_map (fun _ => rfl)))) (fsub_cons (t := 9) rfl (.leaf _ _ (frz_whole rfl rfl (by simp) (clo_map (fun _ => rfl)))) fsub_same)) ?_
   refine aw_as 9 (.list 1 ((laneAll L (allW f n.ins.length (p1 % 31).toNat)).map encL)) rfl (by rw [allB_eq]) ?_
   have hwl := allW_length f n.ins.length (p1 % 31).toNat
   have iW := allW_insu f (m := n.ins.length) (i := (p1 % 31).toNat) (by omega) (by omega)
   have hok := Net.allW_ok hv hkn f (i := (p1 % 31).toNat) (by omega)
   have hM : n.many (allW f n.ins.length (p1 % 31).toNat) = ((n.wouts (allW f n.ins.length (p1 % 31).toNat) (allW f n.ins.length (p1 % 31).toNat).length), 0) := by rw [Net.many, if_pos hok]
   have fL : n.Fits (laneAll L (allW f n.ins.length (p1 % 31).toNat)) := Net.lanes_fits hok
   have hLl : (laneAll L (allW f n.ins.length (p1 % 31).toNat)).length = (allW f n.ins.length (p1 % 31).toNat).length := lanes_length _ _
   have iL := fL.ins hn (by omega)
   have rL := Net.run_fits hv hfo fL (by omega)
   rw [hLl] at rL
   refine aw_region ?_
   first
     | refine al_op (op_load_rptr Try.underlying27 info27 rfl rfl) rfl (by simp) ?_
     | refine al_op (op_load_map Try.underlying27 info27 rfl rfl (by omega) rfl) rfl (by simp) ?_
     | refine al_op (op_load_ptr Try.underlying27 info27 rfl rfl rfl rfl) rfl (by simp) ?_
   refine al_op (op_move rfl) rfl (by simp) ?_
   first
     | refine al_callp into14 rfl rfl rfl ((c_Many _ (by assumption) _ (by assumption)) _) (by simp) ?_
     | refine al_callp into14 rfl rfl rfl (ac_told (re_cons (by first | exact .leaf _ _ (.same _) | exact .leaf _ _ (.vnil _) | exact .leaf _ _ (.nil _)) (re_cons (by first | exact .leaf _ _ (.same _) | exact .leaf _ _ (.vnil _) | exact .leaf _ _ (.nil _)) re_nil)) ((c_Many _ (by assumption) _ (by assumption)) _)) (by simp) ?_
   refine al_op (op_move rfl) rfl (by simp) ?_
   refine al_op (op_extract rfl rfl rfl) rfl (by simp) ?_
   refine al_op (op_extract rfl rfl rfl) rfl (by simp) ?_
   refine al_op (op_assign rfl) rfl (by simp) ?_
   refine al_op (op_assign rfl) rfl (by simp) ?_
   refine al_nil ?_
   refine aw_seq ?_
   refine aw_as 15 (.list 1 ((n.wouts (allW f n.ins.length (p1 % 31).toNat) (allW f n.ins.length (p1 % 31).toNat).length).map encLU)) rfl (by rw [hM]) ?_
   refine aw_as 16 (.v (.int .i64 (0))) rfl (by rw [hM]) ?_
   refine aw_region ?_
   first
     | refine al_op (op_load_rptr Try.underlying27 info27 rfl rfl) rfl (by simp) ?_
     | refine al_op (op_load_map Try.underlying27 info27 rfl rfl (by omega) rfl) rfl (by simp) ?_
     | refine al_op (op_load_ptr Try.underlying27 info27 rfl rfl rfl rfl) rfl (by simp) ?_
   refine al_op (op_move rfl) rfl (by simp) ?_
   first
     | refine al_callp into18 rfl rfl rfl ((c_Run _ (by assumption) _ (by assumption)) _) (by simp) ?_
     | refine al_callp into18 rfl rfl rfl (ac_told (re_cons (by first | exact .leaf _ _ (.same _) | exact .leaf _ _ (.vnil _) | exact .leaf _ _ (.nil _)) (re_cons (by first | exact .leaf _ _ (.same _) | exact .leaf _ _ (.vnil _) | exact .leaf _ _ (.nil _)) re_nil)) ((c_Run _ (by assumption) _ (by assumption)) _)) (by simp) ?_
   refine al_op (op_move rfl) rfl (by simp) ?_
   refine al_op (op_extract rfl rfl rfl) rfl (by simp) ?_
   refine al_op (op_extract rfl rfl rfl) rfl (by simp) ?_
   refine al_op (op_assign rfl) rfl (by simp) ?_
   refine al_op (op_assign rfl) rfl (by simp) ?_
   refine al_nil ?_
   refine aw_seq ?_
   refine aw_seq ?_
   refine aw_as 17 (.list 1 ((n.outsAt n.firsts (laneAll L (allW f n.ins.length (p1 % 31).toNat)) (allW f n.ins.length (p1 % 31).toNat).length).map encL)) rfl (by rw [rL]) ?_
   refine aw_as 18 (.v (.int .i64 (0))) rfl (by rw [rL]) ?_
   have oW := n.wouts_length (allW f n.ins.length (p1 % 31).toNat) (allW f n.ins.length (p1 % 31).toNat).length
   have oR := n.outsAt_length n.firsts (laneAll L (allW f n.ins.length (p1 % 31).toNat)) (allW f n.ins.length (p1 % 31).toNat).length
   have hWi := Net.wouts_insu hn iW
   refine aw_region ?_
   refine al_op (op_move rfl) rfl (by simp) ?_
   refine al_op (op_neq rfl rfl) rfl (by simp) ?_
   refine al_op (op_move rfl) rfl (by simp) ?_
   apply al_or 3 107 110 rfl
   ·intro h7; have gh7 := h7
    try simp only [nrm] at h7
    refine al_take (op_move rfl) rfl rfl rfl rfl (by simp) ?_
    refine al_take (op_neq rfl rfl) rfl rfl rfl rfl (by simp) ?_
    first
      | refine al_op (op_pick rfl rfl) rfl (by simp) ?_
      | refine al_op (op_or rfl rfl rfl) rfl (by simp) ?_
    refine al_nil ⟨rfl, rfl, rfl, keep_of ?_⟩
    repeat (first | exact subx_refl | exact subx_known rfl gh7 subx_refl | refine subx_put rfl ?_)
   ·intro h7; have gh7 := h7
    try simp only [nrm] at h7
    refine al_pass rfl rfl rfl rfl (by simp) ?_
    refine al_pass rfl rfl rfl rfl (by simp) ?_
    first
      | refine al_op (op_pick rfl rfl) rfl (by simp) ?_
      | refine al_op (op_or rfl rfl rfl) rfl (by simp) ?_
    refine al_nil ⟨rfl, rfl, rfl, keep_of ?_⟩
    repeat (first | exact subx_refl | exact subx_known rfl gh7 subx_refl | refine subx_put rfl ?_)
   refine al_op (op_move rfl) rfl (by simp) ?_
   apply al_or 6 111 117 rfl
   ·intro h8; have gh8 := h8
    try simp only [nrm] at h8
    refine al_take (op_move rfl) rfl rfl rfl rfl (by simp) ?_
    first
      | refine al_take (op_len_map Try.underlying28 rfl) rfl rfl rfl rfl (by simp) ?_
      | refine al_take (op_len_slice Try.underlying28 rfl rfl) rfl rfl rfl rfl (by simp) ?_
      | refine al_take (op_len_list Try.underlying28 rfl) rfl rfl rfl rfl (by simp) ?_
      | refine al_take (op_len_v Try.underlying28 rfl) rfl rfl rfl rfl (by simp) ?_
      | refine al_take (op_len_nil Try.underlying28 rfl) rfl rfl rfl rfl (by simp) ?_
    refine al_take (op_move rfl) rfl rfl rfl rfl (by simp) ?_
    first
      | refine al_take (op_len_map Try.underlying39 rfl) rfl rfl rfl rfl (by simp) ?_
      | refine al_take (op_len_slice Try.underlying39 rfl rfl) rfl rfl rfl rfl (by simp) ?_
      | refine al_take (op_len_list Try.underlying39 rfl) rfl rfl rfl rfl (by simp) ?_
      | refine al_take (op_len_v Try.underlying39 rfl) rfl rfl rfl rfl (by simp) ?_
      | refine al_take (op_len_nil Try.underlying39 rfl) rfl rfl rfl rfl (by simp) ?_
    refine al_take (op_neq rfl rfl) rfl rfl rfl rfl (by simp) ?_
    first
      | refine al_op (op_pick rfl rfl) rfl (by simp) ?_
      | refine al_op (op_or rfl rfl rfl) rfl (by simp) ?_
    refine al_nil ⟨rfl, rfl, rfl, keep_of ?_⟩
    repeat (first | exact subx_refl | exact subx_known rfl gh8 subx_refl | refine subx_put rfl ?_)
   ·intro h8; have gh8 := h8
    try simp only [nrm] at h8
    refine al_pass rfl rfl rfl rfl (by simp) ?_
    refine al_pass rfl rfl rfl rfl (by simp) ?_
    refine al_pass rfl rfl rfl rfl (by simp) ?_
    refine al_pass rfl rfl rfl rfl (by simp) ?_
    refine al_pass rfl rfl rfl rfl (by simp) ?_
    first
      | refine al_op (op_pick rfl rfl) rfl (by simp) ?_
      | refine al_op (op_or rfl rfl rfl) rfl (by simp) ?_
    refine al_nil ⟨rfl, rfl, rfl, keep_of ?_⟩
    repeat (first | exact subx_refl | exact subx_known rfl gh8 subx_refl | refine subx_put rfl ?_)
   refine al_nil ?_
   refine aw_cond rfl (fun h9 => ?_) (fun h9 => ?_)
   ·have gh9 := h9
    try simp only [nrm] at h9
    omega
   ·have gh9 := h9
    try simp only [nrm] at h9
    refine aw_skip ?_
    refine aw_seq ?_
    refine aw_seq ?_
    refine aw_region ?_
    refine al_op (op_move rfl) rfl (by simp) ?_
    first
      | refine al_op (op_len_map Try.underlying28 rfl) rfl (by simp) ?_
      | refine al_op (op_len_slice Try.underlying28 rfl rfl) rfl (by simp) ?_
      | refine al_op (op_len_list Try.underlying28 rfl) rfl (by simp) ?_
      | refine al_op (op_len_v Try.underlying28 rfl) rfl (by simp) ?_
      | refine al_op (op_len_nil Try.underlying28 rfl) rfl (by simp) ?_
    refine al_op (op_move rfl) rfl (by simp) ?_
    refine al_nil ?_
    refine aw_block ?_
    apply aw_only
    ·
     (first | apply sub_cons (t := 6) rfl | skip)
     (first | apply sub_cons (t := 7) rfl | skip)
     (first | apply sub_cons (t := 15) rfl | skip)
     (first | apply sub_cons (t := 17) rfl | skip)
     (first | apply sub_cons (t := 119) rfl | skip)
     (first | apply sub_cons (t := 120) rfl | skip)
     exact sub_nil
    refine aw_forT (ι := Nat) [6, 120] [] (fun i => (n.wouts (allW f n.ins.length (p1 % 31).toNat) (allW f n.ins.length (p1 % 31).toNat).length).length - i) (fun i => i ≤ (n.wouts (allW f n.ins.length (p1 % 31).toNat) (allW f n.ins.length (p1 % 31).toNat).length).length) (fun i => ([(120, .v (.int .i64 (i)))] : Env)) (fun i s => s) (0) ?_ ?_ ?_ (fun i hinv => ?_)
    ·exact Nat.zero_le _
    ·refine sub_cons (get_as rfl ?_) ?_; rotate_left; exact sub_nil
     all_goals (first | rfl | simp)
    ·rfl
    refine aw_seq ?_
    refine aw_region ?_
    refine al_op (op_lss rfl rfl) rfl (by simp) ?_
    refine al_nil ?_
    refine aw_seq ?_
    refine aw_cond rfl (fun h10 => ?_) (fun h10 => ?_)
    ·have gh10 := h10
     try simp only [nrm] at h10
     refine aw_skip ?_
     refine aw_seq ?_
     refine aw_block ?_
     refine aw_seq ?_
     refine aw_region ?_
     refine al_op (op_move rfl) rfl (by simp) ?_
     refine al_op (op_assign rfl) rfl (by simp) ?_
     refine al_nil ?_
     refine aw_seq ?_
     refine aw_seq ?_
     obtain ⟨hc1, hc2⟩ := Net.lane_cell hn hL2 iW hok i (by omega)
     obtain ⟨hc3, hc4⟩ := hWi _ (getD_mem (v := (n.wouts (allW f n.ins.length (p1 % 31).toNat) (allW f n.ins.length (p1 % 31).toNat).length)) (i := i) (by omega))
     refine aw_any (Checked.mixed Try.checked) ?_
     apply aany_seg (p := 0) (q := 11) (by kernel_rfl) rfl (by decide)
     ·
      apply ql_plain rfl (op_move rfl)
      apply ql_plain rfl (op_move rfl)
      first
        | apply ql_plain rfl (op_index_map default Try.underlying28 info34 rfl rfl rfl (by first | (with_reducible exact Int.toNat_natCast _) | rfl) (by omega) (by omega))
        | apply ql_plain rfl (op_index_slice Try.underlying28 info34 rfl rfl rfl rfl (by omega) (by omega))
        | apply ql_plain rfl (op_index_list Try.underlying28 info34 rfl rfl rfl (by decide) rfl)
      first
        | apply ql_plain rfl (op_load_rptr Try.underlying34 info34 rfl rfl)
        | apply ql_plain rfl (op_load_map Try.underlying34 info34 rfl rfl (by omega) rfl)
        | apply ql_plain rfl (op_load_ptr Try.underlying34 info34 rfl rfl rfl rfl)
      first
        | apply ql_plain rfl (op_len_map Try.underlying34 rfl)
        | apply ql_plain rfl (op_len_slice Try.underlying34 rfl rfl)
        | apply ql_plain rfl (op_len_list Try.underlying34 rfl)
        | apply ql_plain rfl (op_len_v Try.underlying34 rfl)
        | apply ql_plain rfl (op_len_nil Try.underlying34 rfl)
      apply ql_plain rfl (op_move rfl)
      apply ql_plain rfl (op_move rfl)
      first
        | apply ql_plain rfl (op_index_map default Try.underlying39 info40 rfl rfl rfl (by first | (with_reducible exact Int.toNat_natCast _) | rfl) (by omega) (by omega))
        | apply ql_plain rfl (op_index_slice Try.underlying39 info40 rfl rfl rfl rfl (by omega) (by omega))
        | apply ql_plain rfl (op_index_list Try.underlying39 info40 rfl rfl rfl (by decide) rfl)
      first
        | apply ql_plain rfl (op_load_rptr Try.underlying40 info40 rfl rfl)
        | apply ql_plain rfl (op_load_map Try.underlying40 info40 rfl rfl (by omega) rfl)
        | apply ql_plain rfl (op_load_ptr Try.underlying40 info40 rfl rfl rfl rfl)
      first
        | apply ql_plain rfl (op_len_map Try.underlying40 rfl)
        | apply ql_plain rfl (op_len_slice Try.underlying40 rfl rfl)
        | apply ql_plain rfl (op_len_list Try.underlying40 rfl)
        | apply ql_plain rfl (op_len_v Try.underlying40 rfl)
        | apply ql_plain rfl (op_len_nil Try.underlying40 rfl)
      apply ql_plain rfl (op_neq rfl rfl)
      exact ql_nil
     ·simp
     refine aany_end rfl (by kernel_rfl) ?_
     refine aw_cond rfl (fun h11 => ?_) (fun h11 => ?_)
     ·have gh11 := h11
      try simp only [nrm] at h11
      omega
     ·have gh11 := h11
      try simp only [nrm] at h11
      refine aw_skip ?_
      refine aw_seq ?_
      refine aw_region ?_
      refine al_op (op_move rfl) rfl (by simp) ?_
      refine al_op (op_move rfl) rfl (by simp) ?_
      first
        | refine al_op (op_index_map default Try.underlying28 info34 rfl rfl rfl (by first | (with_reducible exact Int.toNat_natCast _) | rfl) (by omega) (by omega)) rfl (by simp) ?_
        | refine al_op (op_index_slice Try.underlying28 info34 rfl rfl rfl rfl (by omega) (by omega)) rfl (by simp) ?_
        | refine al_op (op_index_list Try.underlying28 info34 rfl rfl rfl (by decide) rfl) rfl (by simp) ?_
      first
        | refine al_op (op_load_rptr Try.underlying34 info34 rfl rfl) rfl (by simp) ?_
        | refine al_op (op_load_map Try.underlying34 info34 rfl rfl (by omega) rfl) rfl (by simp) ?_
        | refine al_op (op_load_ptr Try.underlying34 info34 rfl rfl rfl rfl) rfl (by simp) ?_
      first
        | refine al_op (op_len_map Try.underlying34 rfl) rfl (by simp) ?_
        | refine al_op (op_len_slice Try.underlying34 rfl rfl) rfl (by simp) ?_
        | refine al_op (op_len_list Try.underlying34 rfl) rfl (by simp) ?_
        | refine al_op (op_len_v Try.underlying34 rfl) rfl (by simp) ?_
        | refine al_op (op_len_nil Try.underlying34 rfl) rfl (by simp) ?_
      refine al_op (op_move rfl) rfl (by simp) ?_
      refine al_nil ?_
      refine aw_block ?_
      refine aw_forT (ι := Nat) [6, 20, 139, 140, 141, 142, 143, 144, 145, 146, 147, 148, 149, 150, 151, 152, 153, 154, 155, 156, 157, 158, 159, 160, 161] [] (fun j => ((n.wouts (allW f n.ins.length (p1 % 31).toNat) (allW f n.ins.length (p1 % 31).toNat).length).getD i default).length - j) (fun j => j ≤ ((n.wouts (allW f n.ins.length (p1 % 31).toNat) (allW f n.ins.length (p1 % 31).toNat).length).getD i default).length) (fun j => ([(139, .v (.int .i64 (j)))] : Env)) (fun j s => s) (0) ?_ ?_ ?_ (fun j hinv => ?_)
      ·exact Nat.zero_le _
      ·refine sub_cons (get_as rfl ?_) ?_; rotate_left; exact sub_nil
       all_goals (first | rfl | simp)
      ·rfl
      refine aw_seq ?_
      refine aw_region ?_
      refine al_op (op_lss rfl rfl) rfl (by simp) ?_
      refine al_nil ?_
      refine aw_seq ?_
      refine aw_cond rfl (fun h12 => ?_) (fun h12 => ?_)
      ·have gh12 := h12
       try simp only [nrm] at h12
       refine aw_skip ?_
       refine aw_seq ?_
       refine aw_block ?_
       refine aw_seq ?_
       refine aw_region ?_
       refine al_op (op_move rfl) rfl (by simp) ?_
       refine al_op (op_assign rfl) rfl (by simp) ?_
       refine al_nil ?_
       refine aw_seq ?_
       have hx64 := hc4 _ (getD_mem (v := ((n.wouts (allW f n.ins.length (p1 % 31).toNat) (allW f n.ins.length (p1 % 31).toNat).length).getD i default)) (i := j) (by omega))
       have hxs : (((n.wouts (allW f n.ins.length (p1 % 31).toNat) (allW f n.ins.length (p1 % 31).toNat).length).getD i default).getD j default) >>> L < 2 ^ 64 := Nat.lt_of_le_of_lt (Nat.shiftRight_le _ _) hx64
       refine aw_any (Checked.mixed Try.checked) ?_
       apply aany_seg (p := 0) (q := 19) (by kernel_rfl) rfl (by decide)
       ·
        apply ql_plain rfl (op_move rfl)
        apply ql_plain rfl (op_move rfl)
        first
          | apply ql_plain rfl (op_index_map default Try.underlying28 info34 rfl rfl rfl (by first | (with_reducible exact Int.toNat_natCast _) | rfl) (by omega) (by omega))
          | apply ql_plain rfl (op_index_slice Try.underlying28 info34 rfl rfl rfl rfl (by omega) (by omega))
          | apply ql_plain rfl (op_index_list Try.underlying28 info34 rfl rfl rfl (by decide) rfl)
        first
          | apply ql_plain rfl (op_load_rptr Try.underlying34 info34 rfl rfl)
          | apply ql_plain rfl (op_load_map Try.underlying34 info34 rfl rfl (by omega) rfl)
          | apply ql_plain rfl (op_load_ptr Try.underlying34 info34 rfl rfl rfl rfl)
        apply ql_plain rfl (op_move rfl)
        first
          | apply ql_plain rfl (op_index_map default Try.underlying34 info35 rfl rfl rfl (by first | (with_reducible exact Int.toNat_natCast _) | rfl) (by omega) (by omega))
          | apply ql_plain rfl (op_index_slice Try.underlying34 info35 rfl rfl rfl rfl (by omega) (by omega))
          | apply ql_plain rfl (op_index_list Try.underlying34 info35 rfl rfl rfl (by decide) rfl)
        first
          | apply ql_plain rfl (op_load_rptr Try.underlying35 info35 rfl rfl)
          | apply ql_plain rfl (op_load_map Try.underlying35 info35 rfl rfl (by omega) rfl)
          | apply ql_plain rfl (op_load_ptr Try.underlying35 info35 rfl rfl rfl rfl)
        apply ql_plain rfl (op_move rfl)
        apply ql_plain rfl (op_shr rfl rfl (by omega) (shr_u64 (by omega)))
        apply ql_plain rfl (op_bitand rfl rfl (u64_and1 hxs))
        apply ql_plain rfl (op_conv Try.underlying35 Try.underlying41 rfl (wrap_u8 (by omega) (by omega)))
        apply ql_plain rfl (op_move rfl)
        apply ql_plain rfl (op_move rfl)
        first
          | apply ql_plain rfl (op_index_map default Try.underlying39 info40 rfl rfl rfl (by first | (with_reducible exact Int.toNat_natCast _) | rfl) (by omega) (by omega))
          | apply ql_plain rfl (op_index_slice Try.underlying39 info40 rfl rfl rfl rfl (by omega) (by omega))
          | apply ql_plain rfl (op_index_list Try.underlying39 info40 rfl rfl rfl (by decide) rfl)
        first
          | apply ql_plain rfl (op_load_rptr Try.underlying40 info40 rfl rfl)
          | apply ql_plain rfl (op_load_map Try.underlying40 info40 rfl rfl (by omega) rfl)
          | apply ql_plain rfl (op_load_ptr Try.underlying40 info40 rfl rfl rfl rfl)
        apply ql_plain rfl (op_move rfl)
        first
          | apply ql_plain rfl (op_index_map default Try.underlying40 info41 rfl rfl rfl (by first | (with_reducible exact Int.toNat_natCast _) | rfl) (by omega) (by omega))
          | apply ql_plain rfl (op_index_slice Try.underlying40 info41 rfl rfl rfl rfl (by omega) (by omega))
          | apply ql_plain rfl (op_index_list Try.underlying40 info41 rfl rfl rfl (by decide) rfl)
        first
          | apply ql_plain rfl (op_load_rptr Try.underlying41 info41 rfl rfl)
          | apply ql_plain rfl (op_load_map Try.underlying41 info41 rfl rfl (by omega) rfl)
          | apply ql_plain rfl (op_load_ptr Try.underlying41 info41 rfl rfl rfl rfl)
        apply ql_plain rfl (op_neq rfl rfl)
        exact ql_nil
       ·simp
       refine aany_end rfl (by kernel_rfl) ?_
       refine aw_cond rfl (fun h13 => ?_) (fun h13 => ?_)
       ·have gh13 := h13
        try simp only [nrm] at h13
        rw [hc2 j] at gh13; simp at gh13
       ·have gh13 := h13
        try simp only [nrm] at h13
        refine aw_skip ?_
        refine aw_region ?_
        refine al_op (op_add rfl rfl (by first | exact wrap_i64 (by omega) (by omega))) rfl (by simp) ?_
        refine al_op (op_move rfl) rfl (by simp) ?_
        refine al_nil ?_
        refine ⟨j + 1, ?_, ?_, ?_, ?_, ?_⟩
        ·omega
        ·omega
        ·refine sub_cons (get_as rfl ?_) ?_; rotate_left; exact sub_nil
         all_goals (first | rfl | simp)
        ·repeat (first | exact subx_refl | exact subx_del | refine subx_put rfl ?_)
        ·rfl
      ·have gh12 := h12
       try simp only [nrm] at h12
       refine aw_exit ?_
       skip
       refine aw_region ?_
       refine al_op (op_add rfl rfl (by first | exact wrap_i64 (by omega) (by omega))) rfl (by simp) ?_
       refine al_op (op_move rfl) rfl (by simp) ?_
       refine al_nil ?_
       refine ⟨i + 1, ?_, ?_, ?_, ?_, ?_⟩
       ·omega
       ·omega
       ·refine sub_cons (get_as rfl ?_) ?_; rotate_left; exact sub_nil
        all_goals (first | rfl | simp)
       ·repeat (first | exact subx_refl | exact subx_del | refine subx_put rfl ?_)
       ·rfl
    ·have gh10 := h10
     try simp only [nrm] at h10
     refine aw_exit ?_
     skip
     refine aw_seq ?_
     refine aw_region ?_
     first
       | refine al_callp into13 rfl rfl rfl ((l_awake4 ) _) (by simp) ?_
       | refine al_callp into13 rfl rfl rfl (acp_lent lend_nil (l_awake4 ) rfl) (by simp) ?_
     refine al_op (op_assign rfl) rfl (by simp) ?_
     refine al_nil ?_
     refine aw_freeze (fun _ => false) (fsub_cons (t := 6) rfl (.leaf _ _ (.same _)) fsub_nil) ?_
     refine aw_ret ?_
     refine ⟨_, res_1 rfl rfl, ?_, rfl⟩
     rfl
end Go.Proofs.Ytnnklpmgncbgnaa
