/- Printed walks (gen.py, gates_ann.py): part 232. -/
import Derived.Test.YtnnklpmgncbgnaaW231
import Derived.Test.YtnnklpmgncbgnaaFacts
set_option linter.unusedVariables false
set_option linter.unusedSimpArgs false
set_option maxRecDepth 20000
set_option maxHeartbeats 40000000
namespace Go.Proofs.Ytnnklpmgncbgnaa
open Go

theorem law_CycleRounds (n : Net) (hn : n.Small) (f : List Int) (hf : OKB8 f) : ACp Try.prog 8 [encN n, .list 1 (f.map encB)] (.v (.bool (true))) := by
 refine acp_of rfl ?_
 have z1 := hn.insL
 have z2 := hn.regsL
 have z4 := hn.gatesL
 refine ac_enter 161 Try.func8 rfl rfl (by simp) ?_
 refine aw_seq ?_
 refine aw_region ?_
 (refine al_opR (op_box 2 rfl rfl (by first | rfl | exact live_one rfl | (repeat (first | exact all_live_nil | refine all_live_clo rfl ?_ | refine all_live_slice rfl ?_ | refine all_live_map rfl ?_ | refine all_live_ptr rfl ?_)))) rfl (by simp) ?_; rintro _ _ ⟨ver2, rfl, rfl⟩)
 refine al_op (op_assign rfl) rfl (by simp) ?_
 refine al_nil ?_
 refine aw_seq ?_
 refine aw_seq ?_
 refine aw_region ?_
 first
   | refine al_op (op_load_rptr Try.underlying27 info27 rfl rfl) rfl (by simp) ?_
   | refine al_op (op_load_map Try.underlying27 info27 rfl rfl (by omega) rfl) rfl (by simp) ?_
   | refine al_op (op_load_ptr Try.underlying27 info27 rfl rfl rfl rfl) rfl (by simp) ?_
 first
   | refine al_callp into19 rfl rfl rfl ((l_light _ (by assumption)) _) (by simp) ?_
   | refine al_callp into19 rfl rfl rfl (acp_lent (lend_cons (by first | exact lend_same | exact .leaf _ _ (.vnil _) | exact .leaf _ _ (.nil _) | exact lend_whole rfl (by first | rfl | (simp; done) | (simp; omega)) (clo_map (fun _ => rfl)) | exact lend_netg (by first | exact .same _ | exact lendL_vnil | exact lendL_whole rfl (by first | rfl | (simp; done) | (simp; omega)) (clo_map (fun _ => rfl))) (by first | exact .same _ | exact lendL_vnil | exact lendL_whole rfl (by first | rfl | (simp; done) | (simp; omega)) (clo_map (fun _ => rfl))) (by first | exact .same _ | exact lendL_vnil | exact lendL_whole rfl (by first | rfl | (simp; done) | (simp; omega)) (clo_map (fun _ => rfl))) (by first | exact .same _ | exact lendL_vnil | exact lendL_whole rfl (by first | rfl | (simp; done) | (simp; omega)) (clo_map (fun _ => rfl)))) lend_nil) (l_light _ (by assumption)) rfl) (by simp) ?_
 refine al_op (op_not rfl) rfl (by simp) ?_
 refine al_op (op_move rfl) rfl (by simp) ?_
 apply al_or 4 21 25 rfl
 ·intro h1; have gh1 := h1
  try simp only [nrm] at h1
  first
    | refine al_take (op_load_rptr Try.underlying27 info27 rfl rfl) rfl rfl rfl rfl (by simp) ?_
    | refine al_take (op_load_map Try.underlying27 info27 rfl rfl (by omega) rfl) rfl rfl rfl rfl (by simp) ?_
    | refine al_take (op_load_ptr Try.underlying27 info27 rfl rfl rfl rfl) rfl rfl rfl rfl (by simp) ?_
  first
    | refine al_callp_take into16 rfl rfl rfl rfl rfl rfl ((r_Valid _ (by assumption)) _) (by simp) ?_
    | refine al_callp_take into16 rfl rfl rfl rfl rfl rfl (acp_lent (lend_cons (by first | exact lend_same | exact .leaf _ _ (.vnil _) | exact .leaf _ _ (.nil _) | exact lend_whole rfl (by first | rfl | (simp; done) | (simp; omega)) (clo_map (fun _ => rfl)) | exact lend_netg (by first | exact .same _ | exact lendL_vnil | exact lendL_whole rfl (by first | rfl | (simp; done) | (simp; omega)) (clo_map (fun _ => rfl))) (by first | exact .same _ | exact lendL_vnil | exact lendL_whole rfl (by first | rfl | (simp; done) | (simp; omega)) (clo_map (fun _ => rfl))) (by first | exact .same _ | exact lendL_vnil | exact lendL_whole rfl (by first | rfl | (simp; done) | (simp; omega)) (clo_map (fun _ => rfl))) (by first | exact .same _ | exact lendL_vnil | exact lendL_whole rfl (by first | rfl | (simp; done) | (simp; omega)) (clo_map (fun _ => rfl)))) lend_nil) (r_Valid _ (by assumption)) rfl) (by simp) ?_
  refine al_take (op_not rfl) rfl rfl rfl rfl (by simp) ?_
  first
    | refine al_op (op_pick rfl rfl) rfl (by simp) ?_
    | refine al_op (op_or rfl rfl rfl) rfl (by simp) ?_
  refine al_nil ⟨rfl, rfl, rfl, keep_of ?_⟩
  repeat (first | exact subx_refl | exact subx_known rfl gh1 subx_refl | refine subx_put rfl ?_)
 ·intro h1; have gh1 := h1
  try simp only [nrm] at h1
  refine al_pass rfl rfl rfl rfl (by simp) ?_
  refine al_pass rfl rfl rfl rfl (by simp) ?_
  refine al_pass rfl rfl rfl rfl (by simp) ?_
  first
    | refine al_op (op_pick rfl rfl) rfl (by simp) ?_
    | refine al_op (op_or rfl rfl rfl) rfl (by simp) ?_
  refine al_nil ⟨rfl, rfl, rfl, keep_of ?_⟩
  repeat (first | exact subx_refl | exact subx_known rfl gh1 subx_refl | refine subx_put rfl ?_)
 refine al_op (op_move rfl) rfl (by simp) ?_
 apply al_or 4 26 30 rfl
 ·intro h2; have gh2 := h2
  try simp only [nrm] at h2
  first
    | refine al_take (op_load_rptr Try.underlying27 info27 rfl rfl) rfl rfl rfl rfl (by simp) ?_
    | refine al_take (op_load_map Try.underlying27 info27 rfl rfl (by omega) rfl) rfl rfl rfl rfl (by simp) ?_
    | refine al_take (op_load_ptr Try.underlying27 info27 rfl rfl rfl rfl) rfl rfl rfl rfl (by simp) ?_
  first
    | refine al_callp_take into17 rfl rfl rfl rfl rfl rfl ((r_Known4 _ (by assumption)) _) (by simp) ?_
    | refine al_callp_take into17 rfl rfl rfl rfl rfl rfl (acp_lent (lend_cons (by first | exact lend_same | exact .leaf _ _ (.vnil _) | exact .leaf _ _ (.nil _) | exact lend_whole rfl (by first | rfl | (simp; done) | (simp; omega)) (clo_map (fun _ => rfl)) | exact lend_netg (by first | exact .same _ | exact lendL_vnil | exact lendL_whole rfl (by first | rfl | (simp; done) | (simp; omega)) (clo_map (fun _ => rfl))) (by first | exact .same _ | exact lendL_vnil | exact lendL_whole rfl (by first | rfl | (simp; done) | (simp; omega)) (clo_map (fun _ => rfl))) (by first | exact .same _ | exact lendL_vnil | exact lendL_whole rfl (by first | rfl | (simp; done) | (simp; omega)) (clo_map (fun _ => rfl))) (by first | exact .same _ | exact lendL_vnil | exact lendL_whole rfl (by first | rfl | (simp; done) | (simp; omega)) (clo_map (fun _ => rfl)))) lend_nil) (r_Known4 _ (by assumption)) rfl) (by simp) ?_
  refine al_take (op_not rfl) rfl rfl rfl rfl (by simp) ?_
  first
    | refine al_op (op_pick rfl rfl) rfl (by simp) ?_
    | refine al_op (op_or rfl rfl rfl) rfl (by simp) ?_
  refine al_nil ⟨rfl, rfl, rfl, keep_of ?_⟩
  repeat (first | exact subx_refl | exact subx_known rfl gh2 subx_refl | refine subx_put rfl ?_)
 ·intro h2; have gh2 := h2
  try simp only [nrm] at h2
  refine al_pass rfl rfl rfl rfl (by simp) ?_
  refine al_pass rfl rfl rfl rfl (by simp) ?_
  refine al_pass rfl rfl rfl rfl (by simp) ?_
  first
    | refine al_op (op_pick rfl rfl) rfl (by simp) ?_
    | refine al_op (op_or rfl rfl rfl) rfl (by simp) ?_
  refine al_nil ⟨rfl, rfl, rfl, keep_of ?_⟩
  repeat (first | exact subx_refl | exact subx_known rfl gh2 subx_refl | refine subx_put rfl ?_)
 refine al_op (op_move rfl) rfl (by simp) ?_
 apply al_or 5 31 36 rfl
 ·intro h3; have gh3 := h3
  try simp only [nrm] at h3
  first
    | refine al_take (op_field_rptr Try.underlying27 rfl info22 (by decide) rfl rfl) rfl rfl rfl rfl (by simp) ?_
    | refine al_take (op_field_ptr Try.underlying27 rfl info22 (by decide) rfl rfl rfl) rfl rfl rfl rfl (by simp) ?_
  first
    | refine al_take (op_load_rptr Try.underlying22 info22 rfl rfl) rfl rfl rfl rfl (by simp) ?_
    | refine al_take (op_load_map Try.underlying22 info22 rfl rfl (by omega) rfl) rfl rfl rfl rfl (by simp) ?_
    | refine al_take (op_load_ptr Try.underlying22 info22 rfl rfl rfl rfl) rfl rfl rfl rfl (by simp) ?_
  first
    | refine al_take (op_len_map Try.underlying22 rfl) rfl rfl rfl rfl (by simp) ?_
    | refine al_take (op_len_slice Try.underlying22 rfl rfl) rfl rfl rfl rfl (by simp) ?_
    | refine al_take (op_len_list Try.underlying22 rfl) rfl rfl rfl rfl (by simp) ?_
    | refine al_take (op_len_v Try.underlying22 rfl) rfl rfl rfl rfl (by simp) ?_
    | refine al_take (op_len_nil Try.underlying22 rfl) rfl rfl rfl rfl (by simp) ?_
  refine al_take (op_gtr rfl rfl) rfl rfl rfl rfl (by simp) ?_
  first
    | refine al_op (op_pick rfl rfl) rfl (by simp) ?_
    | refine al_op (op_or rfl rfl rfl) rfl (by simp) ?_
  refine al_nil ⟨rfl, rfl, rfl, keep_of ?_⟩
  repeat (first | exact subx_refl | exact subx_known rfl gh3 subx_refl | refine subx_put rfl ?_)
 ·intro h3; have gh3 := h3
  try simp only [nrm] at h3
  refine al_pass rfl rfl rfl rfl (by simp) ?_
  refine al_pass rfl rfl rfl rfl (by simp) ?_
  refine al_pass rfl rfl rfl rfl (by simp) ?_
  refine al_pass rfl rfl rfl rfl (by simp) ?_
  first
    | refine al_op (op_pick rfl rfl) rfl (by simp) ?_
    | refine al_op (op_or rfl rfl rfl) rfl (by simp) ?_
  refine al_nil ⟨rfl, rfl, rfl, keep_of ?_⟩
  repeat (first | exact subx_refl | exact subx_known rfl gh3 subx_refl | refine subx_put rfl ?_)
 refine al_op (op_move rfl) rfl (by simp) ?_
 apply al_or 5 37 42 rfl
 ·intro h4; have gh4 := h4
  try simp only [nrm] at h4
  first
    | refine al_take (op_field_rptr Try.underlying27 rfl info23 (by decide) rfl rfl) rfl rfl rfl rfl (by simp) ?_
    | refine al_take (op_field_ptr Try.underlying27 rfl info23 (by decide) rfl rfl rfl) rfl rfl rfl rfl (by simp) ?_
  first
    | refine al_take (op_load_rptr Try.underlying23 info23 rfl rfl) rfl rfl rfl rfl (by simp) ?_
    | refine al_take (op_load_map Try.underlying23 info23 rfl rfl (by omega) rfl) rfl rfl rfl rfl (by simp) ?_
    | refine al_take (op_load_ptr Try.underlying23 info23 rfl rfl rfl rfl) rfl rfl rfl rfl (by simp) ?_
  first
    | refine al_take (op_len_map Try.underlying23 rfl) rfl rfl rfl rfl (by simp) ?_
    | refine al_take (op_len_slice Try.underlying23 rfl rfl) rfl rfl rfl rfl (by simp) ?_
    | refine al_take (op_len_list Try.underlying23 rfl) rfl rfl rfl rfl (by simp) ?_
    | refine al_take (op_len_v Try.underlying23 rfl) rfl rfl rfl rfl (by simp) ?_
    | refine al_take (op_len_nil Try.underlying23 rfl) rfl rfl rfl rfl (by simp) ?_
  refine al_take (op_gtr rfl rfl) rfl rfl rfl rfl (by simp) ?_
  first
    | refine al_op (op_pick rfl rfl) rfl (by simp) ?_
    | refine al_op (op_or rfl rfl rfl) rfl (by simp) ?_
  refine al_nil ⟨rfl, rfl, rfl, keep_of ?_⟩
  repeat (first | exact subx_refl | exact subx_known rfl gh4 subx_refl | refine subx_put rfl ?_)
 ·intro h4; have gh4 := h4
  try simp only [nrm] at h4
  refine al_pass rfl rfl rfl rfl (by simp) ?_
  refine al_pass rfl rfl rfl rfl (by simp) ?_
  refine al_pass rfl rfl rfl rfl (by simp) ?_
  refine al_pass rfl rfl rfl rfl (by simp) ?_
  first
    | refine al_op (op_pick rfl rfl) rfl (by simp) ?_
    | refine al_op (op_or rfl rfl rfl) rfl (by simp) ?_
  refine al_nil ⟨rfl, rfl, rfl, keep_of ?_⟩
  repeat (first | exact subx_refl | exact subx_known rfl gh4 subx_refl | refine subx_put rfl ?_)
 refine al_nil ?_
 refine aw_cond rfl (fun h5 => ?_) (fun h5 => ?_)
 ·have gh5 := h5
  try simp only [nrm] at h5
  refine aw_seq ?_
  refine aw_region ?_
  first
    | refine al_callp into13 rfl rfl rfl ((l_awake4 ) _) (by simp) ?_
    | refine al_callp into13 rfl rfl rfl (acp_lent lend_nil (l_awake4 ) rfl) (by simp) ?_
  refine al_op (op_assign rfl) rfl (by simp) ?_
  refine al_nil ?_
  refine aw_freeze (fun _ => false) (fsub_cons (t := 4) rfl (.leaf _ _ (.same _)) fsub_nil) ?_
  refine aw_ret ?_
  refine ⟨_, res_1 rfl rfl, ?_, rfl⟩
  rfl
 ·have gh5 := h5
  try simp only [nrm] at h5
  refine aw_skip ?_
  refine aw_seq ?_
  have g0 := gh5
  simp only [Bool.or_eq_false_iff, Bool.not_eq_false', decide_eq_false_iff_not] at g0
  obtain ⟨⟨⟨⟨u1, hv⟩, u3⟩, u4⟩, u5⟩ := g0
  obtain ⟨hfw, v1, v2, v3, hsm⟩ := Net.light_facts u1 u3 u4 u5
  obtain ⟨hfw1, hfw2⟩ := Net.few_facts hfw
  have hfo := Net.firsts_ok hn hv
  have hfb := Net.firsts_bytes hn
  have hfe : n.fitE = 0 := by rw [Net.fitE, if_pos hv, if_pos hsm]
  have hrd := Net.fit_ready hn hfe
  have hst : n.states ≤ 32 := by
    rw [n.states_eq]
    exact Nat.le_trans (Nat.pow_le_pow_right (by decide) v2) (by decide)
  have hse : ((1 <<< n.regs.length : Nat) : Int) = (n.states : Int) := rfl
  refine aw_region ?_
  refine al_op (op_move rfl) rfl (by simp) ?_
  first
    | refine al_op (op_field_rptr Try.underlying27 rfl info22 (by decide) rfl rfl) rfl (by simp) ?_
    | refine al_op (op_field_ptr Try.underlying27 rfl info22 (by decide) rfl rfl rfl) rfl (by simp) ?_
  first
    | refine al_op (op_load_rptr Try.underlying22 info22 rfl rfl) rfl (by simp) ?_
    | refine al_op (op_load_map Try.underlying22 info22 rfl rfl (by omega) rfl) rfl (by simp) ?_
    | refine al_op (op_load_ptr Try.underlying22 info22 rfl rfl rfl rfl) rfl (by simp) ?_
  first
    | refine al_op (op_len_map Try.underlying22 rfl) rfl (by simp) ?_
    | refine al_op (op_len_slice Try.underlying22 rfl rfl) rfl (by simp) ?_
    | refine al_op (op_len_list Try.underlying22 rfl) rfl (by simp) ?_
    | refine al_op (op_len_v Try.underlying22 rfl) rfl (by simp) ?_
    | refine al_op (op_len_nil Try.underlying22 rfl) rfl (by simp) ?_
  refine al_callp into31 rfl rfl rfl (l_drawn f hf n.ins.length 0 false (by omega) (by omega) _) (by simp) ?_
  refine al_op (op_assign rfl) rfl (by simp) ?_
  refine al_nil ?_
  refine aw_seq ?_
  have x01 : Bit01 (drawn f n.ins.length 0 false) := drawn_01
  have xl : (drawn f n.ins.length 0 false).length = n.ins.length := drawnTo_length _ _ _ _ _
  have xb := bit01_bit x01
  have hX : Bytes (drawn f n.ins.length 0 false) := ⟨by omega, bit_bytes xb⟩
  obtain ⟨a, p, q1, q2, q3, q4⟩ := Net.round_res hrd hsm xl x01 (firstX_01 x01)
  refine aw_region ?_
  first
    | refine al_op (op_load_rptr Try.underlying27 info27 rfl rfl) rfl (by simp) ?_
    | refine al_op (op_load_map Try.underlying27 info27 rfl rfl (by omega) rfl) rfl (by simp) ?_
    | refine al_op (op_load_ptr Try.underlying27 info27 rfl rfl rfl rfl) rfl (by simp) ?_
  refine al_op (op_move rfl) rfl (by simp) ?_
  first
    | refine al_callp into32 rfl rfl rfl ((c_Round _ (by assumption) _ (by assumption)) _) (by simp) ?_
    | refine al_callp into32 rfl rfl rfl (acp_lent (lend_cons (by first | exact lend_same | exact .leaf _ _ (.vnil _) | exact .leaf _ _ (.nil _) | exact lend_whole rfl (by first | rfl | (simp; done) | (simp; omega)) (clo_map (fun _ => rfl)) | exact lend_netg (by first | exact .same _ | exact lendL_vnil | exact lendL_whole rfl (by first | rfl | (simp; done) | (simp; omega)) (clo_map (fun _ => rfl))) (by first | exact .same _ | exact lendL_vnil | exact lendL_whole rfl (by first | rfl | (simp; done) | (simp; omega)) (clo_map (fun _ => rfl))) (by first | exact .same _ | exact lendL_vnil | exact lendL_whole rfl (by first | rfl | (simp; done) | (simp; omega)) (clo_map (fun _ => rfl))) (by first | exact .same _ | exact lendL_vnil | exact lendL_whole rfl (by first | rfl | (simp; done) | (simp; omega)) (clo_map (fun _ => rfl)))) (lend_cons (by first | exact lend_same | exact .leaf _ _ (.vnil _) | exact .leaf _ _ (.nil _) | exact lend_whole rfl (by first | rfl | (simp; done) | (simp; omega)) (clo_map (fun _ => rfl)) | exact lend_netg (by first | exact .same _ | exact lendL_vnil | exact lendL_whole rfl (by first | rfl | (simp; done) | (simp; omega)) (clo_map (fun _ => rfl))) (by first | exact .same _ | exact lendL_vnil | exact lendL_whole rfl (by first | rfl | (simp; done) | (simp; omega)) (clo_map (fun _ => rfl))) (by first | exact .same _ | exact lendL_vnil | exact lendL_whole rfl (by first | rfl | (simp; done) | (simp; omega)) (clo_map (fun _ => rfl))) (by first | exact .same _ | exact lendL_vnil | exact lendL_whole rfl (by first | rfl | (simp; done) | (simp; omega)) (clo_map (fun _ => rfl)))) lend_nil)) (c_Round _ (by assumption) _ (by assumption)) rfl) (by simp) ?_
  refine al_op (op_move rfl) rfl (by simp) ?_
  refine al_op (op_extract rfl rfl rfl) rfl (by simp) ?_
  refine al_op (op_extract rfl rfl rfl) rfl (by simp) ?_
  refine al_op (op_extract rfl rfl rfl) rfl (by simp) ?_
  refine al_op (op_assign rfl) rfl (by simp) ?_
  refine al_op (op_assign rfl) rfl (by simp) ?_
  refine al_op (op_assign rfl) rfl (by simp) ?_
  refine al_nil ?_
  refine aw_seq ?_
  refine aw_seq ?_
  refine aw_as 6 (.v (.int .i64 ((a : Int)))) rfl (by rw [q4]) ?_
  refine aw_as 7 (.v (.int .i64 ((p : Int)))) rfl (by rw [q4]) ?_
  refine aw_as 8 (.v (.int .i64 (0))) rfl (by rw [q4]) ?_
  refine aw_region ?_
  refine al_op (op_move rfl) rfl (by simp) ?_
  refine al_op (op_neq rfl rfl) rfl (by simp) ?_
  refine al_op (op_move rfl) rfl (by simp) ?_
  apply al_or 3 58 61 rfl
  ·intro h6; have gh6 := h6
   try simp only [nrm] at h6
   refine al_take (op_move rfl) rfl rfl rfl rfl (by simp) ?_
   refine al_take (op_lss rfl rfl) rfl rfl rfl rfl (by simp) ?_
   first
     | refine al_op (op_pick rfl rfl) rfl (by simp) ?_
     | refine al_op (op_or rfl rfl rfl) rfl (by simp) ?_
   refine al_nil ⟨rfl, rfl, rfl, keep_of ?_⟩
   repeat (first | exact subx_refl | exact subx_known rfl gh6 subx_refl | refine subx_put rfl ?_)
  ·intro h6; have gh6 := h6
   try simp only [nrm] at h6
   refine al_pass rfl rfl rfl rfl (by simp) ?_
   refine al_pass rfl rfl rfl rfl (by simp) ?_
   first
     | refine al_op (op_pick rfl rfl) rfl (by simp) ?_
     | refine al_op (op_or rfl rfl rfl) rfl (by simp) ?_
   refine al_nil ⟨rfl, rfl, rfl, keep_of ?_⟩
   repeat (first | exact subx_refl | exact subx_known rfl gh6 subx_refl | refine subx_put rfl ?_)
  refine al_op (op_move rfl) rfl (by simp) ?_
  apply al_or 3 62 65 rfl
  ·intro h7; have gh7 := h7
   try simp only [nrm] at h7
   refine al_take (op_move rfl) rfl rfl rfl rfl (by simp) ?_
   refine al_take (op_lss rfl rfl) rfl rfl rfl rfl (by simp) ?_
   first
     | refine al_op (op_pick rfl rfl) rfl (by simp) ?_
     | refine al_op (op_or rfl rfl rfl) rfl (by simp) ?_
   refine al_nil ⟨rfl, rfl, rfl, keep_of ?_⟩
   repeat (first | exact subx_refl | exact subx_known rfl gh7 subx_refl | refine subx_put rfl ?_)
  ·intro h7; have gh7 := h7
   try simp only [nrm] at h7
   refine al_pass rfl rfl rfl rfl (by simp) ?_
   refine al_pass rfl rfl rfl rfl (by simp) ?_
   first
     | refine al_op (op_pick rfl rfl) rfl (by simp) ?_
     | refine al_op (op_or rfl rfl rfl) rfl (by simp) ?_
   refine al_nil ⟨rfl, rfl, rfl, keep_of ?_⟩
   repeat (first | exact subx_refl | exact subx_known rfl gh7 subx_refl | refine subx_put rfl ?_)
  refine al_op (op_move rfl) rfl (by simp) ?_
  apply al_or 9 66 75 rfl
  ·intro h8; have gh8 := h8
   try simp only [nrm] at h8
   refine al_take (op_move rfl) rfl rfl rfl rfl (by simp) ?_
   refine al_take (op_move rfl) rfl rfl rfl rfl (by simp) ?_
   refine al_take (op_add rfl rfl (by first | exact wrap_i64 (by omega) (by omega))) rfl rfl rfl rfl (by simp) ?_
   first
     | refine al_take (op_field_rptr Try.underlying27 rfl info23 (by decide) rfl rfl) rfl rfl rfl rfl (by simp) ?_
     | refine al_take (op_field_ptr Try.underlying27 rfl info23 (by decide) rfl rfl rfl) rfl rfl rfl rfl (by simp) ?_
   first
     | refine al_take (op_load_rptr Try.underlying23 info23 rfl rfl) rfl rfl rfl rfl (by simp) ?_
     | refine al_take (op_load_map Try.underlying23 info23 rfl rfl (by omega) rfl) rfl rfl rfl rfl (by simp) ?_
     | refine al_take (op_load_ptr Try.underlying23 info23 rfl rfl rfl rfl) rfl rfl rfl rfl (by simp) ?_
   first
     | refine al_take (op_len_map Try.underlying23 rfl) rfl rfl rfl rfl (by simp) ?_
     | refine al_take (op_len_slice Try.underlying23 rfl rfl) rfl rfl rfl rfl (by simp) ?_
     | refine al_take (op_len_list Try.underlying23 rfl) rfl rfl rfl rfl (by simp) ?_
     | refine al_take (op_len_v Try.underlying23 rfl) rfl rfl rfl rfl (by simp) ?_
     | refine al_take (op_len_nil Try.underlying23 rfl) rfl rfl rfl rfl (by simp) ?_
   refine al_take (op_shl (a := ((1 : Nat) : Int)) rfl rfl (by omega) (shl_i64 (by decide) (by omega))) rfl rfl rfl rfl (by simp) ?_
   refine al_take (op_gtr rfl rfl) rfl rfl rfl rfl (by simp) ?_
   first
     | refine al_op (op_pick rfl rfl) rfl (by simp) ?_
     | refine al_op (op_or rfl rfl rfl) rfl (by simp) ?_
   refine al_nil ⟨rfl, rfl, rfl, keep_of ?_⟩
   repeat (first | exact subx_refl | exact subx_known rfl gh8 subx_refl | refine subx_put rfl ?_)
  ·intro h8; have gh8 := h8
   try simp only [nrm] at h8
   refine al_pass rfl rfl rfl rfl (by simp) ?_
   refine al_pass rfl rfl rfl rfl (by simp) ?_
   refine al_pass rfl rfl rfl rfl (by simp) ?_
   refine al_pass rfl rfl rfl rfl (by simp) ?_
   refine al_pass rfl rfl rfl rfl (by simp) ?_
   refine al_pass rfl rfl rfl rfl (by simp) ?_
   refine al_pass rfl rfl rfl rfl (by simp) ?_
   refine al_pass rfl rfl rfl rfl (by simp) ?_
   first
     | refine al_op (op_pick rfl rfl) rfl (by simp) ?_
     | refine al_op (op_or rfl rfl rfl) rfl (by simp) ?_
   refine al_nil ⟨rfl, rfl, rfl, keep_of ?_⟩
   repeat (first | exact subx_refl | exact subx_known rfl gh8 subx_refl | refine subx_put rfl ?_)
  refine al_nil ?_
  refine aw_cond rfl (fun h9 => ?_) (fun h9 => ?_)
  ·have gh9 := h9
   try simp only [nrm] at h9
   omega
  ·have gh9 := h9
   try simp only [nrm] at h9
   refine aw_skip ?_
   refine aw_seq ?_
   refine aw_region ?_
   refine al_op (op_assign rfl) rfl (by simp) ?_
   refine al_nil ?_
   refine aw_seq ?_
   refine aw_seq ?_
   refine aw_region ?_
   refine al_op (op_assign rfl) rfl (by simp) ?_
   refine al_nil ?_
   refine aw_block ?_
   refine aw_own_map encL 9 1 9 rfl rfl (fun ver9 => ?_)
   refine aw_for2T (α := Nat) (β := Nat) [9, 10] [] (fun i ver => (a + 2 * p + 3) - i) (fun i ver => i ≤ (a + 2 * p + 3)) (fun i ver => ([(9, .slice 9 ver 0 (List.replicate i (drawn f n.ins.length 0 false)).length), (10, .v (.int .i64 (i)))] : Env)) (fun i ver s => s.put 9 ver (.row 1 ((List.replicate i (drawn f n.ins.length 0 false)).map encL))) (0) (ver9) ?_ ?_ ?_ (fun i ver hinv => ?_)
   ·exact Nat.zero_le _
   ·refine sub_cons (get_as rfl ?_) ?_; rotate_left; refine sub_cons (get_as rfl ?_) ?_; rotate_left; exact sub_nil
    all_goals (first | rfl | (simp; done) | (rw [List.replicate_succ'] <;> rfl))
   ·rfl
   have hlen : (List.replicate i (drawn f n.ins.length 0 false)).length = i := List.length_replicate
   refine aw_seq ?_
   refine aw_seq ?_
   refine aw_region ?_
   refine al_op (op_move rfl) rfl (by simp) ?_
   refine al_op (op_move rfl) rfl (by simp) ?_
   refine al_op (op_move rfl) rfl (by simp) ?_
   refine al_op (op_mul rfl rfl (by first | exact wrap_i64 (by omega) (by omega))) rfl (by simp) ?_
   refine al_op (op_add rfl rfl (by first | exact wrap_i64 (by omega) (by omega))) rfl (by simp) ?_
   refine al_op (op_add rfl rfl (by first | exact wrap_i64 (by omega) (by omega))) rfl (by simp) ?_
   refine al_op (op_lss rfl rfl) rfl (by simp) ?_
   refine al_nil ?_
   refine aw_cond rfl (fun h10 => ?_) (fun h10 => ?_)
   ·have gh10 := h10
    try simp only [nrm] at h10
    refine aw_skip ?_
    refine aw_seq ?_
    refine aw_block ?_
    refine aw_region ?_
    refine al_op (op_move rfl) rfl (by simp) ?_
    refine al_op (op_move rfl) rfl (by simp) ?_
    refine al_op (op_buildSlice Try.underlying39 info40 rfl rfl (by decide) rfl (by decide) rfl (by first | rfl | (repeat (first | exact parts_nil | refine parts_cons rfl (by repeat (first | exact all_live_nil | refine all_live_clo rfl ?_ | refine all_live_slice rfl ?_ | refine all_live_map rfl ?_ | refine all_live_ptr rfl ?_)) ?_))) rfl rfl rfl) rfl (by simp) ?_
    first
      | (refine al_opR (op_append_one (drawn f n.ins.length 0 false) Try.underlying39 Try.underlying39 rfl info40 rfl rfl (by decide) rfl rfl rfl (by first | rfl | simp) rfl rfl (by first | omega | (simp; done) | (simp; omega)) (by show _ * 24 ≤ _; first | omega | (simp; done) | (simp; omega))) rfl (by simp) ?_; rintro _ _ ⟨ver88, rfl, rfl⟩)
      | (refine al_opR (op_append_map Try.underlying39 Try.underlying39 rfl info40 rfl rfl (by decide) rfl rfl rfl (by first | rfl | simp) rfl (by first | exact .list _ | exact .vnil | exact .nil | exact .row _ _ _ _ rfl (by first | rfl | simp)) rfl (by first | omega | (simp; done) | (simp; omega)) (by show _ * 24 ≤ _; first | omega | (simp; done) | (simp; omega))) rfl (by simp) ?_; rintro _ _ ⟨ver88, rfl, rfl⟩)
    refine al_op (op_assign rfl) rfl (by simp) ?_
    refine al_nil ?_
    refine aw_region ?_
    refine al_op (op_move rfl) rfl (by simp) ?_
    refine al_op (op_add rfl rfl (by first | exact wrap_i64 (by omega) (by omega))) rfl (by simp) ?_
    refine al_op (op_assign rfl) rfl (by simp) ?_
    refine al_nil ?_
    refine ⟨i + 1, ver88, ?_, ?_, ?_, ?_, ?_⟩
    ·omega
    ·omega
    ·refine sub_cons (get_as rfl ?_) ?_; rotate_left; refine sub_cons (get_as rfl ?_) ?_; rotate_left; exact sub_nil
     all_goals (first | rfl | (simp; done) | (rw [List.replicate_succ'] <;> rfl))
    ·repeat (first | exact subx_refl | exact subx_del | refine subx_put rfl ?_)
    ·(rw [List.replicate_succ'] <;> rfl)
   ·have gh10 := h10
    try simp only [nrm] at h10
    refine aw_exit ?_
    obtain rfl : i = (a + 2 * p + 3) := by omega
    refine aw_seq ?_
    refine aw_freeze (fun i => !(Nat.beq i 9)) (fsub_cons (t := 9) rfl (.leaf _ _ (frz_whole rfl rfl (by simp) (clo_map (fun _ => rfl)))) fsub_same) ?_
    have fN : n.Fits (List.replicate (a + 2 * p + 3) (drawn f n.ins.length 0 false)) := Net.Fits.rep xl xb _
    have hlN : (List.replicate (a + 2 * p + 3) (drawn f n.ins.length 0 false)).length = (a + 2 * p + 3) := List.length_replicate
    have iN := fN.ins hn (by omega)
    have rN := Net.run_fits hv hfo fN (by omega)
    rw [hlN] at rN
    refine aw_region ?_
    first
      | refine al_op (op_load_rptr Try.underlying27 info27 rfl rfl) rfl (by simp) ?_
      | refine al_op (op_load_map Try.underlying27 info27 rfl rfl (by omega) rfl) rfl (by simp) ?_
      | refine al_op (op_load_ptr Try.underlying27 info27 rfl rfl rfl rfl) rfl (by simp) ?_
    refine al_op (op_move rfl) rfl (by simp) ?_
    first
      | refine al_callp into18 rfl rfl rfl ((c_Run _ (by assumption) _ (by assumption)) _) (by simp) ?_
      | refine al_callp into18 rfl rfl rfl (ac_told (re_cons (by first | exact .leaf _ _ (.same _) | exact .leaf _ _ (.vnil _) | exact .leaf _ _ (.nil _)) (re_cons (by first | exact .leaf _ _ (.same _) | exact .leaf _ _ (.vnil _) | exact .leaf _ _ (.nil _)) re_nil)) ((c_Run _ (by assumption) _ (by assumption)) _)) (by simp) ?_
    refine al_op (op_move rfl) rfl (by simp) ?_
    refine al_op (op_extract rfl rfl rfl) rfl (by simp) ?_
    refine al_op (op_extract rfl rfl rfl) rfl (by simp) ?_
    refine al_op (op_assign rfl) rfl (by simp) ?_
    refine al_op (op_assign rfl) rfl (by simp) ?_
    refine al_nil ?_
    refine aw_seq ?_
    refine aw_seq ?_
    refine aw_as 11 (.list 1 ((n.outsAt n.firsts (List.replicate (a + 2 * p + 3) (drawn f n.ins.length 0 false)) (a + 2 * p + 3)).map encL)) rfl (by rw [rN]) ?_
    refine aw_as 12 (.v (.int .i64 (0))) rfl (by rw [rN]) ?_
    have jN : Ins (n.outsAt n.firsts (List.replicate (a + 2 * p + 3) (drawn f n.ins.length 0 false)) (a + 2 * p + 3)) := by have := (Net.run_Ins hn hfb iN).1; rw [rN] at this; exact this
    have oN := n.outsAt_length n.firsts (List.replicate (a + 2 * p + 3) (drawn f n.ins.length 0 false)) (a + 2 * p + 3)
    refine aw_region ?_
    refine al_op (op_move rfl) rfl (by simp) ?_
    refine al_op (op_neq rfl rfl) rfl (by simp) ?_
    refine al_op (op_move rfl) rfl (by simp) ?_
    apply al_or 6 97 103 rfl
    ·intro h11; have gh11 := h11
     try simp only [nrm] at h11
     refine al_take (op_move rfl) rfl rfl rfl rfl (by simp) ?_
     first
       | refine al_take (op_len_map Try.underlying39 rfl) rfl rfl rfl rfl (by simp) ?_
       | refine al_take (op_len_slice Try.underlying39 rfl rfl) rfl rfl rfl rfl (by simp) ?_
       | refine al_take (op_len_list Try.underlying39 rfl) rfl rfl rfl rfl (by simp) ?_
       | refine al_take (op_len_v Try.underlying39 rfl) rfl rfl rfl rfl (by simp) ?_
       | refine al_take (op_len_nil Try.underlying39 rfl) rfl rfl rfl rfl (by simp) ?_
     refine al_take (op_move rfl) rfl rfl rfl rfl (by simp) ?_
     first
       | refine al_take (op_len_map Try.underlying39 rfl) rfl rfl rfl rfl (by simp) ?_
       | refine al_take (op_len_slice Try.underlying39 rfl rfl) rfl rfl rfl rfl (by simp) ?_
       | refine al_take (op_len_list Try.underlying39 rfl) rfl rfl rfl rfl (by simp) ?_
       | refine al_take (op_len_v Try.underlying39 rfl) rfl rfl rfl rfl (by simp) ?_
       | refine al_take (op_len_nil Try.underlying39 rfl) rfl rfl rfl rfl (by simp) ?_
     refine al_take (op_neq rfl rfl) rfl rfl rfl rfl (by simp) ?_
     first
       | refine al_op (op_pick rfl rfl) rfl (by simp) ?_
       | refine al_op (op_or rfl rfl rfl) rfl (by simp) ?_
     refine al_nil ⟨rfl, rfl, rfl, keep_of ?_⟩
     repeat (first | exact subx_refl | exact subx_known rfl gh11 subx_refl | refine subx_put rfl ?_)
    ·intro h11; have gh11 := h11
     try simp only [nrm] at h11
     refine al_pass rfl rfl rfl rfl (by simp) ?_
     refine al_pass rfl rfl rfl rfl (by simp) ?_
     refine al_pass rfl rfl rfl rfl (by simp) ?_
     refine al_pass rfl rfl rfl rfl (by simp) ?_
     refine al_pass rfl rfl rfl rfl (by simp) ?_
     first
       | refine al_op (op_pick rfl rfl) rfl (by simp) ?_
       | refine al_op (op_or rfl rfl rfl) rfl (by simp) ?_
     refine al_nil ⟨rfl, rfl, rfl, keep_of ?_⟩
     repeat (first | exact subx_refl | exact subx_known rfl gh11 subx_refl | refine subx_put rfl ?_)
    refine al_nil ?_
    refine aw_cond rfl (fun h12 => ?_) (fun h12 => ?_)
    ·have gh12 := h12
     try simp only [nrm] at h12
     omega
    ·have gh12 := h12
     try simp only [nrm] at h12
     refine aw_skip ?_
     refine aw_seq ?_
     refine aw_seq ?_
     refine aw_region ?_
     refine al_op (op_move rfl) rfl (by simp) ?_
     refine al_op (op_assign rfl) rfl (by simp) ?_
     refine al_nil ?_
     refine aw_block ?_
     refine aw_forT (ι := Nat) [4, 13] [] (fun i => (a + 2 * p + 3) - i) (fun i => a ≤ i ∧ i + p ≤ (a + 2 * p + 3)) (fun i => ([(13, .v (.int .i64 (i)))] : Env)) (fun i s => s) (a) ?_ ?_ ?_ (fun i hinv => ?_)
     ·exact ⟨Nat.le_refl _, by omega⟩
     ·refine sub_cons (get_as rfl ?_) ?_; rotate_left; exact sub_nil
      all_goals (first | rfl | simp)
     ·rfl
     have hii := hinv.2
     have hij := hinv.1
     refine aw_seq ?_
     refine aw_seq ?_
     refine aw_region ?_
     refine al_op (op_move rfl) rfl (by simp) ?_
     refine al_op (op_move rfl) rfl (by simp) ?_
     refine al_op (op_add rfl rfl (by first | exact wrap_i64 (by omega) (by omega))) rfl (by simp) ?_
     refine al_op (op_move rfl) rfl (by simp) ?_
     first
       | refine al_op (op_len_map Try.underlying39 rfl) rfl (by simp) ?_
       | refine al_op (op_len_slice Try.underlying39 rfl rfl) rfl (by simp) ?_
       | refine al_op (op_len_list Try.underlying39 rfl) rfl (by simp) ?_
       | refine al_op (op_len_v Try.underlying39 rfl) rfl (by simp) ?_
       | refine al_op (op_len_nil Try.underlying39 rfl) rfl (by simp) ?_
     refine al_op (op_lss rfl rfl) rfl (by simp) ?_
     refine al_nil ?_
     refine aw_cond rfl (fun h13 => ?_) (fun h13 => ?_)
     ·have gh13 := h13
      try simp only [nrm] at h13
      refine aw_skip ?_
      refine aw_seq ?_
      refine aw_block ?_
      refine aw_seq ?_
      have b1 := (jN.at i).len
      have b2 : ((i : Int) + (p : Int)).toNat = i + p := by omega
      refine aw_any (Checked.mixed Try.checked) ?_
      apply aany_seg (p := 0) (q := 12) (by kernel_rfl) rfl (by decide)
      ·
       apply ql_plain rfl (op_move rfl)
       apply ql_plain rfl (op_move rfl)
       first
         | apply ql_plain rfl (op_index_map default Try.underlying39 info40 rfl rfl rfl (by first | (with_reducible exact Int.toNat_natCast _) | rfl) (by omega) (by omega))
         | apply ql_plain rfl (op_index_slice Try.underlying39 info40 rfl rfl rfl rfl (by omega) (by omega))
         | apply ql_plain rfl (op_index_list Try.underlying39 info40 rfl rfl rfl (by decide) rfl)
       first
         | apply ql_plain rfl (op_load_rptr Try.underlying40 info40 rfl rfl)
         | apply ql_plain rfl (op_load_map Try.underlying40 info40 rfl rfl (by omega) rfl)
         | apply ql_plain rfl (op_load_ptr Try.underlying40 info40 rfl rfl rfl rfl)
       apply ql_plain rfl (op_move rfl)
       apply ql_plain rfl (op_move rfl)
       apply ql_plain rfl (op_move rfl)
       apply ql_plain rfl (op_add rfl rfl (by first | exact wrap_i64 (by omega) (by omega)))
       first
         | apply ql_plain rfl (op_index_map default Try.underlying39 info40 rfl rfl rfl (by first | (with_reducible exact Int.toNat_natCast _) | rfl) (by omega) (by omega))
         | apply ql_plain rfl (op_index_slice Try.underlying39 info40 rfl rfl rfl rfl (by omega) (by omega))
         | apply ql_plain rfl (op_index_list Try.underlying39 info40 rfl rfl rfl (by decide) rfl)
       first
         | apply ql_plain rfl (op_load_rptr Try.underlying40 info40 rfl rfl)
         | apply ql_plain rfl (op_load_map Try.underlying40 info40 rfl rfl (by omega) rfl)
         | apply ql_plain rfl (op_load_ptr Try.underlying40 info40 rfl rfl rfl rfl)
       first
         | apply ql_call into33 rfl rfl rfl ((r_SameBits _ _ (by assumption)) _)
         | apply ql_call into33 rfl rfl rfl (acp_lent (lend_cons (by first | exact lend_same | exact .leaf _ _ (.vnil _) | exact .leaf _ _ (.nil _) | exact lend_whole rfl (by first | rfl | (simp; done) | (simp; omega)) (clo_map (fun _ => rfl)) | exact lend_netg (by first | exact .same _ | exact lendL_vnil | exact lendL_whole rfl (by first | rfl | (simp; done) | (simp; omega)) (clo_map (fun _ => rfl))) (by first | exact .same _ | exact lendL_vnil | exact lendL_whole rfl (by first | rfl | (simp; done) | (simp; omega)) (clo_map (fun _ => rfl))) (by first | exact .same _ | exact lendL_vnil | exact lendL_whole rfl (by first | rfl | (simp; done) | (simp; omega)) (clo_map (fun _ => rfl))) (by first | exact .same _ | exact lendL_vnil | exact lendL_whole rfl (by first | rfl | (simp; done) | (simp; omega)) (clo_map (fun _ => rfl)))) (lend_cons (by first | exact lend_same | exact .leaf _ _ (.vnil _) | exact .leaf _ _ (.nil _) | exact lend_whole rfl (by first | rfl | (simp; done) | (simp; omega)) (clo_map (fun _ => rfl)) | exact lend_netg (by first | exact .same _ | exact lendL_vnil | exact lendL_whole rfl (by first | rfl | (simp; done) | (simp; omega)) (clo_map (fun _ => rfl))) (by first | exact .same _ | exact lendL_vnil | exact lendL_whole rfl (by first | rfl | (simp; done) | (simp; omega)) (clo_map (fun _ => rfl))) (by first | exact .same _ | exact lendL_vnil | exact lendL_whole rfl (by first | rfl | (simp; done) | (simp; omega)) (clo_map (fun _ => rfl))) (by first | exact .same _ | exact lendL_vnil | exact lendL_whole rfl (by first | rfl | (simp; done) | (simp; omega)) (clo_map (fun _ => rfl)))) lend_nil)) (r_SameBits _ _ (by assumption)) rfl)
       apply ql_plain rfl (op_not rfl)
       exact ql_nil
      ·simp
      refine aany_end rfl (by kernel_rfl) ?_
      refine aw_cond rfl (fun h14 => ?_) (fun h14 => ?_)
      ·have gh14 := h14
       try simp only [nrm] at h14
       rw [b2, Net.round_outs q3 hinv.1 (by omega)] at gh14; exact absurd gh14 (by decide)
      ·have gh14 := h14
       try simp only [nrm] at h14
       refine aw_skip ?_
       refine aw_region ?_
       refine al_op (op_move rfl) rfl (by simp) ?_
       refine al_op (op_add rfl rfl (by first | exact wrap_i64 (by omega) (by omega))) rfl (by simp) ?_
       refine al_op (op_assign rfl) rfl (by simp) ?_
       refine al_nil ?_
       refine ⟨i + 1, ?_, ?_, ?_, ?_, ?_⟩
       ·omega
       ·exact ⟨by omega, by omega⟩
       ·refine sub_cons (get_as rfl ?_) ?_; rotate_left; exact sub_nil
        all_goals (first | rfl | simp)
       ·repeat (first | exact subx_refl | exact subx_del | refine subx_put rfl ?_)
       ·rfl
     ·have gh13 := h13
      try simp only [nrm] at h13
      refine aw_exit ?_
      skip
      refine aw_seq ?_
      have c1 : ((List.replicate (a + 2 * p + 3) (drawn f n.ins.length 0 false)).drop 0).take (a - 0) = List.replicate a (drawn f n.ins.length 0 false) := by simp [List.take_replicate]; omega
      have c2 : ((List.replicate (a + 2 * p + 3) (drawn f n.ins.length 0 false)).drop 0).take (a + p - 0) = List.replicate (a + p) (drawn f n.ins.length 0 false) := by simp [List.take_replicate]; omega
      have k1 := iN.cut 0 (a - 0)
      have k2 := iN.cut 0 (a + p - 0)
      have r1 : n.run n.firsts (((List.replicate (a + 2 * p + 3) (drawn f n.ins.length 0 false)).drop 0).take (a - 0)) = (n.outsAt n.firsts (List.replicate a (drawn f n.ins.length 0 false)) a, n.rst (drawn f n.ins.length 0 false) a, 0) := by
        rw [c1, Net.run_fits hv hfo (Net.Fits.rep xl xb _) (by rw [List.length_replicate]; omega), List.length_replicate, n.state_rep _ _ _ (Nat.le_refl _)]
      have r2 : n.run n.firsts (((List.replicate (a + 2 * p + 3) (drawn f n.ins.length 0 false)).drop 0).take (a + p - 0)) = (n.outsAt n.firsts (List.replicate (a + p) (drawn f n.ins.length 0 false)) (a + p), n.rst (drawn f n.ins.length 0 false) a, 0) := by
        rw [c2, Net.run_fits hv hfo (Net.Fits.rep xl xb _) (by rw [List.length_replicate]; omega), List.length_replicate, n.state_rep _ _ _ (Nat.le_refl _), q3]
      have hra := (Net.rat hrd xl x01 a).l
      have hra2 : (n.rst (drawn f n.ins.length 0 false) a).length ≤ 140737488355328 := by omega
      refine aw_any (Checked.mixed Try.checked) ?_
      apply aany_seg (p := 0) (q := 11) (by kernel_rfl) rfl (by decide)
      ·
       first
         | apply ql_plain rfl (op_load_rptr Try.underlying27 info27 rfl rfl)
         | apply ql_plain rfl (op_load_map Try.underlying27 info27 rfl rfl (by omega) rfl)
         | apply ql_plain rfl (op_load_ptr Try.underlying27 info27 rfl rfl rfl rfl)
       apply ql_plain rfl (op_move rfl)
       apply ql_plain rfl (op_move rfl)
       apply ql_plain rfl (op_move rfl)
       apply ql_plain rfl (op_cut_map3 (f := encL) (l := 0) (h := a) Try.underlying39 info40 rfl rfl OptI.none rfl rfl (by omega) (by omega))
       first
         | apply ql_call into24 rfl rfl rfl ((c_Last _ (by assumption) _ (by assumption)) _)
         | apply ql_call into24 rfl rfl rfl (ac_told (re_cons (by first | exact .leaf _ _ (.same _) | exact .leaf _ _ (.vnil _) | exact .leaf _ _ (.nil _)) (re_cons (by first | exact .leaf _ _ (.same _) | exact .leaf _ _ (.vnil _) | exact .leaf _ _ (.nil _)) re_nil)) ((c_Last _ (by assumption) _ (by assumption)) _))
       apply ql_plain rfl (op_move rfl)
       apply ql_plain rfl (op_extract rfl rfl rfl)
       apply ql_plain rfl (op_extract rfl rfl rfl)
       apply ql_plain rfl (op_assign rfl)
       apply ql_plain rfl (op_assign rfl)
       exact ql_nil
      ·simp
      refine aany_end rfl (by kernel_rfl) ?_
      refine aw_seq ?_
      refine aw_as 14 (.list 1 ((n.rst (drawn f n.ins.length 0 false) a).map encB)) rfl (by rw [r1]) ?_
      refine aw_as 15 (.v (.int .i64 (0))) rfl (by rw [r1]) ?_
      refine aw_any (Checked.mixed Try.checked) ?_
      apply aany_seg (p := 0) (q := 15) (by kernel_rfl) rfl (by decide)
      ·
       first
         | apply ql_plain rfl (op_load_rptr Try.underlying27 info27 rfl rfl)
         | apply ql_plain rfl (op_load_map Try.underlying27 info27 rfl rfl (by omega) rfl)
         | apply ql_plain rfl (op_load_ptr Try.underlying27 info27 rfl rfl rfl rfl)
       apply ql_plain rfl (op_move rfl)
       apply ql_plain rfl (op_move rfl)
       apply ql_plain rfl (op_move rfl)
       apply ql_plain rfl (op_add rfl rfl (by first | exact wrap_i64 (by omega) (by omega)))
       apply ql_plain rfl (op_move rfl)
       apply ql_plain rfl (op_move rfl)
       apply ql_plain rfl (op_add rfl rfl (by first | exact wrap_i64 (by omega) (by omega)))
       apply ql_plain rfl (op_cut_map3 (f := encL) (l := 0) (h := a + p) Try.underlying39 info40 rfl rfl OptI.none rfl rfl (by omega) (by omega))
       first
         | apply ql_call into24 rfl rfl rfl ((c_Last _ (by assumption) _ (by assumption)) _)
         | apply ql_call into24 rfl rfl rfl (ac_told (re_cons (by first | exact .leaf _ _ (.same _) | exact .leaf _ _ (.vnil _) | exact .leaf _ _ (.nil _)) (re_cons (by first | exact .leaf _ _ (.same _) | exact .leaf _ _ (.vnil _) | exact .leaf _ _ (.nil _)) re_nil)) ((c_Last _ (by assumption) _ (by assumption)) _))
       apply ql_plain rfl (op_move rfl)
       apply ql_plain rfl (op_extract rfl rfl rfl)
       apply ql_plain rfl (op_extract rfl rfl rfl)
       apply ql_plain rfl (op_assign rfl)
       apply ql_plain rfl (op_assign rfl)
       exact ql_nil
      ·simp
      refine aany_end rfl (by kernel_rfl) ?_
      refine aw_seq ?_
      refine aw_as 16 (.list 1 ((n.rst (drawn f n.ins.length 0 false) a).map encB)) rfl (by rw [r2]) ?_
      refine aw_as 17 (.v (.int .i64 (0))) rfl (by rw [r2]) ?_
      refine aw_region ?_
      refine al_op (op_move rfl) rfl (by simp) ?_
      refine al_op (op_eql rfl rfl) rfl (by simp) ?_
      refine al_op (op_move rfl) rfl (by simp) ?_
      apply al_and 3 149 152 rfl
      ·intro h15; have gh15 := h15
       try simp only [nrm] at h15
       refine al_take (op_move rfl) rfl rfl rfl rfl (by simp) ?_
       refine al_take (op_eql rfl rfl) rfl rfl rfl rfl (by simp) ?_
       first
         | refine al_op (op_pick rfl rfl) rfl (by simp) ?_
         | refine al_op (op_and rfl rfl rfl) rfl (by simp) ?_
       refine al_nil ⟨rfl, rfl, rfl, keep_of ?_⟩
       repeat (first | exact subx_refl | exact subx_known rfl gh15 subx_refl | refine subx_put rfl ?_)
      ·intro h15; have gh15 := h15
       try simp only [nrm] at h15
       refine al_pass rfl rfl rfl rfl (by simp) ?_
       refine al_pass rfl rfl rfl rfl (by simp) ?_
       first
         | refine al_op (op_pick rfl rfl) rfl (by simp) ?_
         | refine al_op (op_and rfl rfl rfl) rfl (by simp) ?_
       refine al_nil ⟨rfl, rfl, rfl, keep_of ?_⟩
       repeat (first | exact subx_refl | exact subx_known rfl gh15 subx_refl | refine subx_put rfl ?_)
      refine al_op (op_move rfl) rfl (by simp) ?_
      apply al_and 4 153 157 rfl
      ·intro h16; have gh16 := h16
       try simp only [nrm] at h16
       refine al_take (op_move rfl) rfl rfl rfl rfl (by simp) ?_
       refine al_take (op_move rfl) rfl rfl rfl rfl (by simp) ?_
       first
         | refine al_callp_take into33 rfl rfl rfl rfl rfl rfl ((r_SameBits _ _ (by assumption)) _) (by simp) ?_
         | refine al_callp_take into33 rfl rfl rfl rfl rfl rfl (acp_lent (lend_cons (by first | exact lend_same | exact .leaf _ _ (.vnil _) | exact .leaf _ _ (.nil _) | exact lend_whole rfl (by first | rfl | (simp; done) | (simp; omega)) (clo_map (fun _ => rfl)) | exact lend_netg (by first | exact .same _ | exact lendL_vnil | exact lendL_whole rfl (by first | rfl | (simp; done) | (simp; omega)) (clo_map (fun _ => rfl))) (by first | exact .same _ | exact lendL_vnil | exact lendL_whole rfl (by first | rfl | (simp; done) | (simp; omega)) (clo_map (fun _ => rfl))) (by first | exact .same _ | exact lendL_vnil | exact lendL_whole rfl (by first | rfl | (simp; done) | (simp; omega)) (clo_map (fun _ => rfl))) (by first | exact .same _ | exact lendL_vnil | exact lendL_whole rfl (by first | rfl | (simp; done) | (simp; omega)) (clo_map (fun _ => rfl)))) (lend_cons (by first | exact lend_same | exact .leaf _ _ (.vnil _) | exact .leaf _ _ (.nil _) | exact lend_whole rfl (by first | rfl | (simp; done) | (simp; omega)) (clo_map (fun _ => rfl)) | exact lend_netg (by first | exact .same _ | exact lendL_vnil | exact lendL_whole rfl (by first | rfl | (simp; done) | (simp; omega)) (clo_map (fun _ => rfl))) (by first | exact .same _ | exact lendL_vnil | exact lendL_whole rfl (by first | rfl | (simp; done) | (simp; omega)) (clo_map (fun _ => rfl))) (by first | exact .same _ | exact lendL_vnil | exact lendL_whole rfl (by first | rfl | (simp; done) | (simp; omega)) (clo_map (fun _ => rfl))) (by first | exact .same _ | exact lendL_vnil | exact lendL_whole rfl (by first | rfl | (simp; done) | (simp; omega)) (clo_map (fun _ => rfl)))) lend_nil)) (r_SameBits _ _ (by assumption)) rfl) (by simp) ?_
       first
         | refine al_op (op_pick rfl rfl) rfl (by simp) ?_
         | refine al_op (op_and rfl rfl rfl) rfl (by simp) ?_
       refine al_nil ⟨rfl, rfl, rfl, keep_of ?_⟩
       repeat (first | exact subx_refl | exact subx_known rfl gh16 subx_refl | refine subx_put rfl ?_)
      ·intro h16; have gh16 := h16
       try simp only [nrm] at h16
       refine al_pass rfl rfl rfl rfl (by simp) ?_
       refine al_pass rfl rfl rfl rfl (by simp) ?_
       refine al_pass rfl rfl rfl rfl (by simp) ?_
       first
         | refine al_op (op_pick rfl rfl) rfl (by simp) ?_
         | refine al_op (op_and rfl rfl rfl) rfl (by simp) ?_
       refine al_nil ⟨rfl, rfl, rfl, keep_of ?_⟩
       repeat (first | exact subx_refl | exact subx_known rfl gh16 subx_refl | refine subx_put rfl ?_)
      refine al_op (op_move rfl) rfl (by simp) ?_
      apply al_and 2 158 160 rfl
      ·intro h17; have gh17 := h17
       try simp only [nrm] at h17
       first
         | refine al_callp_take into13 rfl rfl rfl rfl rfl rfl ((l_awake4 ) _) (by simp) ?_
         | refine al_callp_take into13 rfl rfl rfl rfl rfl rfl (acp_lent lend_nil (l_awake4 ) rfl) (by simp) ?_
       first
         | refine al_op (op_pick rfl rfl) rfl (by simp) ?_
         | refine al_op (op_and rfl rfl rfl) rfl (by simp) ?_
       refine al_nil ⟨rfl, rfl, rfl, keep_of ?_⟩
       repeat (first | exact subx_refl | exact subx_known rfl gh17 subx_refl | refine subx_put rfl ?_)
      ·intro h17; have gh17 := h17
       try simp only [nrm] at h17
       refine al_pass rfl rfl rfl rfl (by simp) ?_
       first
         | refine al_op (op_pick rfl rfl) rfl (by simp) ?_
         | refine al_op (op_and rfl rfl rfl) rfl (by simp) ?_
       refine al_nil ⟨rfl, rfl, rfl, keep_of ?_⟩
       repeat (first | exact subx_refl | exact subx_known rfl gh17 subx_refl | refine subx_put rfl ?_)
      refine al_op (op_assign rfl) rfl (by simp) ?_
      refine al_nil ?_
      refine aw_freeze (fun _ => false) (fsub_cons (t := 4) rfl (.leaf _ _ (.same _)) fsub_nil) ?_
      refine aw_ret ?_
      refine ⟨_, res_1 rfl rfl, ?_, rfl⟩
      rw [sameBits_refl]; rfl
end Go.Proofs.Ytnnklpmgncbgnaa
