/- Printed walks (gen.py, gates_ann.py): part 227. -/
import Derived.Test.YtnnklpmgncbgnaaW225
import Derived.Test.YtnnklpmgncbgnaaFacts
set_option linter.unusedVariables false
set_option linter.unusedSimpArgs false
set_option maxRecDepth 20000
set_option maxHeartbeats 40000000
namespace Go.Proofs.Ytnnklpmgncbgnaa
open Go

theorem law_CycleParts (n : Net) (hn : n.Small) (f1 : List Int) (hf1 : OKB8 f1) (p1 p2 : Int) (hp1 : 0 ≤ p1) (hp2 : p1 ≤ 255) (hp3 : 0 ≤ p2) (hp4 : p2 ≤ 255) : ACp Try.prog 11 [encN n, .list 1 (f1.map encB), .agg [.v (.int .u8 p1), .v (.int .u8 p2)]] (.v (.bool (true))) := by
 refine acp_of rfl ?_
 refine ac_enter 109 Try.func11 rfl rfl (by simp) ?_
 refine aw_seq ?_
 refine aw_region ?_
 (refine al_opR (op_box 3 rfl rfl (by first | rfl | exact live_one rfl | (repeat (first | exact all_live_nil | refine all_live_clo rfl ?_ | refine all_live_slice rfl ?_ | refine all_live_map rfl ?_ | refine all_live_ptr rfl ?_)))) rfl (by simp) ?_; rintro _ _ ⟨ver3, rfl, rfl⟩)
 (refine al_opR (op_box 5 rfl rfl (by first | rfl | exact live_one rfl | (repeat (first | exact all_live_nil | refine all_live_clo rfl ?_ | refine all_live_slice rfl ?_ | refine all_live_map rfl ?_ | refine all_live_ptr rfl ?_)))) rfl (by simp) ?_; rintro _ _ ⟨ver5, rfl, rfl⟩)
 refine al_op (op_assign rfl) rfl (by simp) ?_
 refine al_nil ?_
 refine aw_seq ?_
 refine aw_seq ?_
 refine aw_region ?_
 first
   | refine al_op (op_load_rptr Try.underlying27 info27 rfl rfl) rfl (by simp) ?_
   | refine al_op (op_load_map Try.underlying27 info27 rfl rfl (by omega) rfl) rfl (by simp) ?_
   | refine al_op (op_load_ptr Try.underlying27 info27 rfl rfl rfl rfl) rfl (by simp) ?_
 refine al_callp into12 rfl rfl rfl (ac_told (re_cons (.leaf _ _ (.same _)) (re_cons (.leaf _ _ (.vnil 1)) re_nil)) (l_few n hn [] ins_nil _)) (by simp) ?_
 refine al_op (op_not rfl) rfl (by simp) ?_
 refine al_op (op_move rfl) rfl (by simp) ?_
 apply al_or 4 21 25 rfl
 ·intro h1; have gh1 := h1
  try simp only [nrm] at h1
  first
    | refine al_take (op_load_rptr Try.underlying27 info27 rfl rfl) rfl rfl rfl rfl (by simp) ?_
    | refine al_take (op_load_map Try.underlying27 info27 rfl rfl (by omega) rfl) rfl rfl rfl rfl (by simp) ?_
    | refine al_take (op_load_ptr Try.underlying27 info27 rfl rfl rfl rfl) rfl rfl rfl rfl (by simp) ?_
  first
    | refine al_callp_take into16 rfl rfl rfl rfl rfl rfl ((r_Valid _ (by assumption)) _) (by simp) ?_
    | refine al_callp_take into16 rfl rfl rfl rfl rfl rfl (acp_lent (lend_cons (by first | exact lend_same | exact .leaf _ _ (.vnil _) | exact .leaf _ _ (.nil _) | exact lend_whole rfl (by first | rfl | (simp; done) | (simp; omega)) (clo_map (fun _ => rfl)) | exact lend_netg (by first | exact .same _ | exact lendL_vnil | exact lendL_whole rfl (by first | rfl | (simp; done) | (simp; omega)) (clo_map (fun _ => rfl))) (by first | exact .same _ | exact lendL_vnil | exact lendL_whole rfl (by first | rfl | (simp; done) | (simp; omega)) (clo_map (fun _ => rfl))) (by first | exact .same _ | exact lendL_vnil | exact lendL_whole rfl (by first | rfl | (simp; done) | (simp; omega)) (clo_map (fun _ => rfl))) (by first | exact .same _ | exact lendL_vnil | exact lendL_whole rfl (by first | rfl | (simp; done) | (simp; omega)) (clo_map (fun _ => rfl)))) lend_nil) (r_Valid _ (by assumption)) rfl) (by simp) ?_
  refine al_take (op_not rfl) rfl rfl rfl rfl (by simp) ?_
  first
    | refine al_op (op_pick rfl rfl) rfl (by simp) ?_
    | refine al_op (op_or rfl rfl rfl) rfl (by simp) ?_
  refine al_nil ⟨rfl, rfl, rfl, keep_of ?_⟩
  repeat (first | exact subx_refl | exact subx_known rfl gh1 subx_refl | refine subx_put rfl ?_)
 ·intro h1; have gh1 := h1
  try simp only [nrm] at h1
  refine al_pass rfl rfl rfl rfl (by simp) ?_
  refine al_pass rfl rfl rfl rfl (by simp) ?_
  refine al_pass rfl rfl rfl rfl (by simp) ?_
  first
    | refine al_op (op_pick rfl rfl) rfl (by simp) ?_
    | refine al_op (op_or rfl rfl rfl) rfl (by simp) ?_
  refine al_nil ⟨rfl, rfl, rfl, keep_of ?_⟩
  repeat (first | exact subx_refl | exact subx_known rfl gh1 subx_refl | refine subx_put rfl ?_)
 refine al_nil ?_
 refine aw_cond rfl (fun h2 => ?_) (fun h2 => ?_)
 ·have gh2 := h2
  try simp only [nrm] at h2
  refine aw_seq ?_
  refine aw_region ?_
  first
    | refine al_callp into13 rfl rfl rfl ((l_awake4 ) _) (by simp) ?_
    | refine al_callp into13 rfl rfl rfl (acp_lent lend_nil (l_awake4 ) rfl) (by simp) ?_
  refine al_op (op_assign rfl) rfl (by simp) ?_
  refine al_nil ?_
  refine aw_freeze (fun _ => false) (fsub_cons (t := 6) rfl (.leaf _ _ (.same _)) fsub_nil) ?_
  refine aw_ret ?_
  refine ⟨_, res_1 rfl rfl, ?_, rfl⟩
  rfl
 ·have gh2 := h2
  try simp only [nrm] at h2
  refine aw_skip ?_
  refine aw_seq ?_
  obtain ⟨hfw, hv⟩ : n.few [] = true ∧ n.valid = true := by simpa using gh2
  obtain ⟨hfw1, hfw2⟩ := Net.few_facts hfw
  have hfo := Net.firsts_ok hn hv
  have hfb := Net.firsts_bytes hn
  refine aw_region ?_
  first
    | refine al_op (op_load_rptr Try.underlying27 info27 rfl rfl) rfl (by simp) ?_
    | refine al_op (op_load_map Try.underlying27 info27 rfl rfl (by omega) rfl) rfl (by simp) ?_
    | refine al_op (op_load_ptr Try.underlying27 info27 rfl rfl rfl rfl) rfl (by simp) ?_
  refine al_op (op_move rfl) rfl (by simp) ?_
  first
    | refine al_op (op_index_arptr Try.underlying37 info5 rfl rfl rfl (by decide) (by decide)) rfl (by simp) ?_
    | refine al_op (op_index_aptr Try.underlying37 info5 rfl rfl rfl rfl (by decide) (by decide)) rfl (by simp) ?_
  first
    | refine al_op (op_load_rptr Try.underlying5 info5 rfl rfl) rfl (by simp) ?_
    | refine al_op (op_load_map Try.underlying5 info5 rfl rfl (by omega) rfl) rfl (by simp) ?_
    | refine al_op (op_load_ptr Try.underlying5 info5 rfl rfl rfl rfl) rfl (by simp) ?_
  refine al_op (op_conv Try.underlying5 Try.underlying3 rfl (wrap_i64 (by omega) (by omega))) rfl (by simp) ?_
  first
    | refine al_op (op_rem rfl rfl (by omega) (rem_nn (by omega))) rfl (by simp) ?_
    | refine al_op (op_rem rfl rfl (by omega) rfl) rfl (by simp) ?_
  first
    | refine al_callp into27 rfl rfl rfl ((l_clocks _ (by assumption) (by omega) _ (by assumption) _ _ (by omega) (by omega)) _) (by simp) ?_
    | refine al_callp into27 rfl rfl rfl (ac_told (re_cons (by first | exact .leaf _ _ (.same _) | exact .leaf _ _ (.vnil _) | exact .leaf _ _ (.nil _)) (re_cons (by first | exact .leaf _ _ (.same _) | exact .leaf _ _ (.vnil _) | exact .leaf _ _ (.nil _)) (re_cons (by first | exact .leaf _ _ (.same _) | exact .leaf _ _ (.vnil _) | exact .leaf _ _ (.nil _)) (re_cons (by first | exact .leaf _ _ (.same _) | exact .leaf _ _ (.vnil _) | exact .leaf _ _ (.nil _)) re_nil)))) ((l_clocks _ (by assumption) (by omega) _ (by assumption) _ _ (by omega) (by omega)) _)) (by simp) ?_
  refine al_op (op_assign rfl) rfl (by simp) ?_
  refine al_nil ?_
  refine aw_seq ?_
  have hla : (n.clocks f1 (p1 % 61) true).length = (p1 % 61).toNat := n.clocks_length _ _ _
  refine aw_region ?_
  first
    | refine al_op (op_index_arptr Try.underlying37 info5 rfl rfl rfl (by decide) (by decide)) rfl (by simp) ?_
    | refine al_op (op_index_aptr Try.underlying37 info5 rfl rfl rfl rfl (by decide) (by decide)) rfl (by simp) ?_
  first
    | refine al_op (op_load_rptr Try.underlying5 info5 rfl rfl) rfl (by simp) ?_
    | refine al_op (op_load_map Try.underlying5 info5 rfl rfl (by omega) rfl) rfl (by simp) ?_
    | refine al_op (op_load_ptr Try.underlying5 info5 rfl rfl rfl rfl) rfl (by simp) ?_
  refine al_op (op_conv Try.underlying5 Try.underlying3 rfl (wrap_i64 (by omega) (by omega))) rfl (by simp) ?_
  refine al_op (op_move rfl) rfl (by simp) ?_
  first
    | refine al_op (op_len_map Try.underlying39 rfl) rfl (by simp) ?_
    | refine al_op (op_len_slice Try.underlying39 rfl rfl) rfl (by simp) ?_
    | refine al_op (op_len_list Try.underlying39 rfl) rfl (by simp) ?_
    | refine al_op (op_len_v Try.underlying39 rfl) rfl (by simp) ?_
    | refine al_op (op_len_nil Try.underlying39 rfl) rfl (by simp) ?_
  refine al_op (op_add rfl rfl (by first | exact wrap_i64 (by omega) (by omega))) rfl (by simp) ?_
  first
    | refine al_op (op_rem rfl rfl (by omega) (rem_nn (by omega))) rfl (by simp) ?_
    | refine al_op (op_rem rfl rfl (by omega) rfl) rfl (by simp) ?_
  refine al_op (op_assign rfl) rfl (by simp) ?_
  refine al_nil ?_
  refine aw_seq ?_
  obtain ⟨k, hk1, hk2⟩ := cut_mod (a := p2) (m := (n.clocks f1 (p1 % 61) true).length)
  refine aw_as 8 (.v (.int .i64 (k : Int))) rfl (by rw [hk1]) ?_
  have fa := n.clocks_fits f1 (p1 % 61) true
  have fl : n.Fits (((n.clocks f1 (p1 % 61) true).drop 0).take (k - 0)) := (fa.drop 0).take _
  have fr : n.Fits (((n.clocks f1 (p1 % 61) true).drop k).take ((n.clocks f1 (p1 % 61) true).length - k)) := (fa.drop k).take _
  have hll : (((n.clocks f1 (p1 % 61) true).drop 0).take (k - 0)).length = k := by simp only [List.length_take, List.length_drop]; omega
  have hlr : (((n.clocks f1 (p1 % 61) true).drop k).take ((n.clocks f1 (p1 % 61) true).length - k)).length = (n.clocks f1 (p1 % 61) true).length - k := by simp only [List.length_take, List.length_drop]; omega
  have iA := fa.ins hn (by omega)
  have iL := fl.ins hn (by omega)
  have iR := fr.ins hn (by omega)
  have rA := Net.run_fits hv hfo fa (by omega)
  have rL := Net.run_fits hv hfo fl (by omega)
  have hra := Net.runAt iL hfb.rng hv hfo fl.all _ (Nat.le_refl _)
  have hsb := hra.bit
  have hsl := hra.len
  have hs8 : Bytes (n.stateAt n.firsts (((n.clocks f1 (p1 % 61) true).drop 0).take (k - 0)) (((n.clocks f1 (p1 % 61) true).drop 0).take (k - 0)).length) := ⟨by omega, bit_bytes hsb⟩
  have rR := Net.run_fits hv hra.ok fr (by omega)
  refine aw_region ?_
  first
    | refine al_op (op_load_rptr Try.underlying27 info27 rfl rfl) rfl (by simp) ?_
    | refine al_op (op_load_map Try.underlying27 info27 rfl rfl (by omega) rfl) rfl (by simp) ?_
    | refine al_op (op_load_ptr Try.underlying27 info27 rfl rfl rfl rfl) rfl (by simp) ?_
  refine al_op (op_move rfl) rfl (by simp) ?_
  first
    | refine al_callp into18 rfl rfl rfl ((c_Run _ (by assumption) _ (by assumption)) _) (by simp) ?_
    | refine al_callp into18 rfl rfl rfl (ac_told (re_cons (by first | exact .leaf _ _ (.same _) | exact .leaf _ _ (.vnil _) | exact .leaf _ _ (.nil _)) (re_cons (by first | exact .leaf _ _ (.same _) | exact .leaf _ _ (.vnil _) | exact .leaf _ _ (.nil _)) re_nil)) ((c_Run _ (by assumption) _ (by assumption)) _)) (by simp) ?_
  refine al_op (op_move rfl) rfl (by simp) ?_
  refine al_op (op_extract rfl rfl rfl) rfl (by simp) ?_
  refine al_op (op_extract rfl rfl rfl) rfl (by simp) ?_
  refine al_op (op_assign rfl) rfl (by simp) ?_
  refine al_op (op_assign rfl) rfl (by simp) ?_
  refine al_nil ?_
  refine aw_seq ?_
  refine aw_as 9 (.list 1 ((n.outsAt n.firsts (n.clocks f1 (p1 % 61) true) (n.clocks f1 (p1 % 61) true).length).map encL)) rfl (by rw [rA]) ?_
  refine aw_as 10 (.v (.int .i64 (0))) rfl (by rw [rA]) ?_
  refine aw_any (Checked.mixed Try.checked) ?_
  apply aany_seg (p := 0) (q := 11) (by kernel_rfl) rfl (by decide)
  ·
   first
     | apply ql_plain rfl (op_load_rptr Try.underlying27 info27 rfl rfl)
     | apply ql_plain rfl (op_load_map Try.underlying27 info27 rfl rfl (by omega) rfl)
     | apply ql_plain rfl (op_load_ptr Try.underlying27 info27 rfl rfl rfl rfl)
   apply ql_plain rfl (op_move rfl)
   apply ql_plain rfl (op_move rfl)
   apply ql_plain rfl (op_move rfl)
   apply ql_plain rfl (op_cut_map3 (f := encL) (l := 0) (h := k) Try.underlying39 info40 rfl rfl OptI.none rfl rfl (by omega) (by omega))
   first
     | apply ql_call into18 rfl rfl rfl ((c_Run _ (by assumption) _ (by assumption)) _)
     | apply ql_call into18 rfl rfl rfl (ac_told (re_cons (by first | exact .leaf _ _ (.same _) | exact .leaf _ _ (.vnil _) | exact .leaf _ _ (.nil _)) (re_cons (by first | exact .leaf _ _ (.same _) | exact .leaf _ _ (.vnil _) | exact .leaf _ _ (.nil _)) re_nil)) ((c_Run _ (by assumption) _ (by assumption)) _))
   apply ql_plain rfl (op_move rfl)
   apply ql_plain rfl (op_extract rfl rfl rfl)
   apply ql_plain rfl (op_extract rfl rfl rfl)
   apply ql_plain rfl (op_assign rfl)
   apply ql_plain rfl (op_assign rfl)
   exact ql_nil
  ·simp
  refine aany_end rfl (by kernel_rfl) ?_
  refine aw_seq ?_
  refine aw_as 11 (.list 1 ((n.outsAt n.firsts (((n.clocks f1 (p1 % 61) true).drop 0).take (k - 0)) (((n.clocks f1 (p1 % 61) true).drop 0).take (k - 0)).length).map encL)) rfl (by rw [rL]) ?_
  refine aw_as 12 (.v (.int .i64 (0))) rfl (by rw [rL]) ?_
  refine aw_any (Checked.mixed Try.checked) ?_
  apply aany_seg (p := 0) (q := 11) (by kernel_rfl) rfl (by decide)
  ·
   first
     | apply ql_plain rfl (op_load_rptr Try.underlying27 info27 rfl rfl)
     | apply ql_plain rfl (op_load_map Try.underlying27 info27 rfl rfl (by omega) rfl)
     | apply ql_plain rfl (op_load_ptr Try.underlying27 info27 rfl rfl rfl rfl)
   apply ql_plain rfl (op_move rfl)
   apply ql_plain rfl (op_move rfl)
   apply ql_plain rfl (op_move rfl)
   apply ql_plain rfl (op_cut_map3 (f := encL) (l := 0) (h := k) Try.underlying39 info40 rfl rfl OptI.none rfl rfl (by omega) (by omega))
   first
     | apply ql_call into24 rfl rfl rfl ((c_Last _ (by assumption) _ (by assumption)) _)
     | apply ql_call into24 rfl rfl rfl (ac_told (re_cons (by first | exact .leaf _ _ (.same _) | exact .leaf _ _ (.vnil _) | exact .leaf _ _ (.nil _)) (re_cons (by first | exact .leaf _ _ (.same _) | exact .leaf _ _ (.vnil _) | exact .leaf _ _ (.nil _)) re_nil)) ((c_Last _ (by assumption) _ (by assumption)) _))
   apply ql_plain rfl (op_move rfl)
   apply ql_plain rfl (op_extract rfl rfl rfl)
   apply ql_plain rfl (op_extract rfl rfl rfl)
   apply ql_plain rfl (op_assign rfl)
   apply ql_plain rfl (op_assign rfl)
   exact ql_nil
  ·simp
  refine aany_end rfl (by kernel_rfl) ?_
  refine aw_seq ?_
  refine aw_seq ?_
  refine aw_as 13 (.list 1 ((n.stateAt n.firsts (((n.clocks f1 (p1 % 61) true).drop 0).take (k - 0)) (((n.clocks f1 (p1 % 61) true).drop 0).take (k - 0)).length).map encB)) rfl (by rw [rL]) ?_
  refine aw_as 14 (.v (.int .i64 (0))) rfl (by rw [rL]) ?_
  refine aw_region ?_
  refine al_op (op_move rfl) rfl (by simp) ?_
  refine al_op (op_neq rfl rfl) rfl (by simp) ?_
  refine al_op (op_move rfl) rfl (by simp) ?_
  apply al_or 3 67 70 rfl
  ·intro h3; have gh3 := h3
   try simp only [nrm] at h3
   refine al_take (op_move rfl) rfl rfl rfl rfl (by simp) ?_
   refine al_take (op_neq rfl rfl) rfl rfl rfl rfl (by simp) ?_
   first
     | refine al_op (op_pick rfl rfl) rfl (by simp) ?_
     | refine al_op (op_or rfl rfl rfl) rfl (by simp) ?_
   refine al_nil ⟨rfl, rfl, rfl, keep_of ?_⟩
   repeat (first | exact subx_refl | exact subx_known rfl gh3 subx_refl | refine subx_put rfl ?_)
  ·intro h3; have gh3 := h3
   try simp only [nrm] at h3
   refine al_pass rfl rfl rfl rfl (by simp) ?_
   refine al_pass rfl rfl rfl rfl (by simp) ?_
   first
     | refine al_op (op_pick rfl rfl) rfl (by simp) ?_
     | refine al_op (op_or rfl rfl rfl) rfl (by simp) ?_
   refine al_nil ⟨rfl, rfl, rfl, keep_of ?_⟩
   repeat (first | exact subx_refl | exact subx_known rfl gh3 subx_refl | refine subx_put rfl ?_)
  refine al_op (op_move rfl) rfl (by simp) ?_
  apply al_or 3 71 74 rfl
  ·intro h4; have gh4 := h4
   try simp only [nrm] at h4
   refine al_take (op_move rfl) rfl rfl rfl rfl (by simp) ?_
   refine al_take (op_neq rfl rfl) rfl rfl rfl rfl (by simp) ?_
   first
     | refine al_op (op_pick rfl rfl) rfl (by simp) ?_
     | refine al_op (op_or rfl rfl rfl) rfl (by simp) ?_
   refine al_nil ⟨rfl, rfl, rfl, keep_of ?_⟩
   repeat (first | exact subx_refl | exact subx_known rfl gh4 subx_refl | refine subx_put rfl ?_)
  ·intro h4; have gh4 := h4
   try simp only [nrm] at h4
   refine al_pass rfl rfl rfl rfl (by simp) ?_
   refine al_pass rfl rfl rfl rfl (by simp) ?_
   first
     | refine al_op (op_pick rfl rfl) rfl (by simp) ?_
     | refine al_op (op_or rfl rfl rfl) rfl (by simp) ?_
   refine al_nil ⟨rfl, rfl, rfl, keep_of ?_⟩
   repeat (first | exact subx_refl | exact subx_known rfl gh4 subx_refl | refine subx_put rfl ?_)
  refine al_nil ?_
  refine aw_cond rfl (fun h5 => ?_) (fun h5 => ?_)
  ·have gh5 := h5
   try simp only [nrm] at h5
   simp at h5
  ·have gh5 := h5
   try simp only [nrm] at h5
   refine aw_skip ?_
   refine aw_seq ?_
   refine aw_seq ?_
   refine aw_region ?_
   refine al_op (op_move rfl) rfl (by simp) ?_
   first
     | refine al_op (op_len_map Try.underlying40 rfl) rfl (by simp) ?_
     | refine al_op (op_len_slice Try.underlying40 rfl rfl) rfl (by simp) ?_
     | refine al_op (op_len_list Try.underlying40 rfl) rfl (by simp) ?_
     | refine al_op (op_len_v Try.underlying40 rfl) rfl (by simp) ?_
     | refine al_op (op_len_nil Try.underlying40 rfl) rfl (by simp) ?_
   refine al_op (op_move rfl) rfl (by simp) ?_
   refine al_nil ?_
   refine aw_block ?_
   refine aw_forT (ι := Nat) [6, 77] [] (fun i => (n.stateAt n.firsts (((n.clocks f1 (p1 % 61) true).drop 0).take (k - 0)) (((n.clocks f1 (p1 % 61) true).drop 0).take (k - 0)).length).length - i) (fun i => i ≤ (n.stateAt n.firsts (((n.clocks f1 (p1 % 61) true).drop 0).take (k - 0)) (((n.clocks f1 (p1 % 61) true).drop 0).take (k - 0)).length).length) (fun i => ([(77, .v (.int .i64 (i)))] : Env)) (fun i s => s) (0) ?_ ?_ ?_ (fun i hinv => ?_)
   ·exact Nat.zero_le _
   ·refine sub_cons (get_as rfl ?_) ?_; rotate_left; exact sub_nil
    all_goals (first | rfl | simp)
   ·rfl
   have hii := hinv
   refine aw_seq ?_
   refine aw_region ?_
   refine al_op (op_lss rfl rfl) rfl (by simp) ?_
   refine al_nil ?_
   refine aw_seq ?_
   refine aw_cond rfl (fun h6 => ?_) (fun h6 => ?_)
   ·have gh6 := h6
    try simp only [nrm] at h6
    refine aw_skip ?_
    refine aw_seq ?_
    refine aw_block ?_
    refine aw_seq ?_
    refine aw_region ?_
    refine al_op (op_move rfl) rfl (by simp) ?_
    refine al_op (op_assign rfl) rfl (by simp) ?_
    refine al_nil ?_
    refine aw_seq ?_
    refine aw_region ?_
    refine al_op (op_move rfl) rfl (by simp) ?_
    refine al_op (op_move rfl) rfl (by simp) ?_
    first
      | refine al_op (op_index_map default Try.underlying40 info41 rfl rfl rfl (by first | (with_reducible exact Int.toNat_natCast _) | rfl) (by omega) (by omega)) rfl (by simp) ?_
      | refine al_op (op_index_slice Try.underlying40 info41 rfl rfl rfl rfl (by omega) (by omega)) rfl (by simp) ?_
      | refine al_op (op_index_list Try.underlying40 info41 rfl rfl rfl (by decide) rfl) rfl (by simp) ?_
    first
      | refine al_op (op_load_rptr Try.underlying41 info41 rfl rfl) rfl (by simp) ?_
      | refine al_op (op_load_map Try.underlying41 info41 rfl rfl (by omega) rfl) rfl (by simp) ?_
      | refine al_op (op_load_ptr Try.underlying41 info41 rfl rfl rfl rfl) rfl (by simp) ?_
    refine al_op (op_gtr rfl rfl) rfl (by simp) ?_
    refine al_nil ?_
    refine aw_cond rfl (fun h7 => ?_) (fun h7 => ?_)
    ·have gh7 := h7
     try simp only [nrm] at h7
     have := hsb _ (getD_mem (v := (n.stateAt n.firsts (((n.clocks f1 (p1 % 61) true).drop 0).take (k - 0)) (((n.clocks f1 (p1 % 61) true).drop 0).take (k - 0)).length)) (i := i) (by omega)); unfold isBit at this; omega
    ·have gh7 := h7
     try simp only [nrm] at h7
     refine aw_skip ?_
     refine aw_region ?_
     refine al_op (op_add rfl rfl (by first | exact wrap_i64 (by omega) (by omega))) rfl (by simp) ?_
     refine al_op (op_move rfl) rfl (by simp) ?_
     refine al_nil ?_
     refine ⟨i + 1, ?_, ?_, ?_, ?_, ?_⟩
     ·omega
     ·omega
     ·refine sub_cons (get_as rfl ?_) ?_; rotate_left; exact sub_nil
      all_goals (first | rfl | simp)
     ·repeat (first | exact subx_refl | exact subx_del | refine subx_put rfl ?_)
     ·rfl
   ·have gh6 := h6
    try simp only [nrm] at h6
    refine aw_exit ?_
    obtain rfl : i = (n.stateAt n.firsts (((n.clocks f1 (p1 % 61) true).drop 0).take (k - 0)) (((n.clocks f1 (p1 % 61) true).drop 0).take (k - 0)).length).length := by omega
    refine aw_seq ?_
    refine aw_any (Checked.mixed Try.checked) ?_
    apply aany_seg (p := 0) (q := 11) (by kernel_rfl) rfl (by decide)
    ·
     first
       | apply ql_plain rfl (op_load_rptr Try.underlying27 info27 rfl rfl)
       | apply ql_plain rfl (op_load_map Try.underlying27 info27 rfl rfl (by omega) rfl)
       | apply ql_plain rfl (op_load_ptr Try.underlying27 info27 rfl rfl rfl rfl)
     apply ql_plain rfl (op_move rfl)
     apply ql_plain rfl (op_move rfl)
     apply ql_plain rfl (op_move rfl)
     apply ql_plain rfl (op_cut_map (f := encL) (l := k) (h := (n.clocks f1 (p1 % 61) true).length) Try.underlying39 info40 rfl rfl (OptI.of rfl rfl) OptI.none (by omega) (by omega))
     first
       | apply ql_call into36 rfl rfl rfl ((c_From _ (by assumption) _ (by assumption) _ (by assumption)) _)
       | apply ql_call into36 rfl rfl rfl (ac_told (re_cons (by first | exact .leaf _ _ (.same _) | exact .leaf _ _ (.vnil _) | exact .leaf _ _ (.nil _)) (re_cons (by first | exact .leaf _ _ (.same _) | exact .leaf _ _ (.vnil _) | exact .leaf _ _ (.nil _)) (re_cons (by first | exact .leaf _ _ (.same _) | exact .leaf _ _ (.vnil _) | exact .leaf _ _ (.nil _)) re_nil))) ((c_From _ (by assumption) _ (by assumption) _ (by assumption)) _))
     apply ql_plain rfl (op_move rfl)
     apply ql_plain rfl (op_extract rfl rfl rfl)
     apply ql_plain rfl (op_extract rfl rfl rfl)
     apply ql_plain rfl (op_assign rfl)
     apply ql_plain rfl (op_assign rfl)
     exact ql_nil
    ·simp
    refine aany_end rfl (by kernel_rfl) ?_
    refine aw_seq ?_
    refine aw_as 16 (.list 1 ((n.outsAt (n.stateAt n.firsts (((n.clocks f1 (p1 % 61) true).drop 0).take (k - 0)) (((n.clocks f1 (p1 % 61) true).drop 0).take (k - 0)).length) (((n.clocks f1 (p1 % 61) true).drop k).take ((n.clocks f1 (p1 % 61) true).length - k)) (((n.clocks f1 (p1 % 61) true).drop k).take ((n.clocks f1 (p1 % 61) true).length - k)).length).map encL)) rfl (by rw [rR]) ?_
    refine aw_as 17 (.v (.int .i64 (0))) rfl (by rw [rR]) ?_
    have jA : Ins (n.outsAt n.firsts (n.clocks f1 (p1 % 61) true) (n.clocks f1 (p1 % 61) true).length) := by have := (Net.run_Ins hn hfb iA).1; rw [rA] at this; exact this
    have jL : Ins (n.outsAt n.firsts (((n.clocks f1 (p1 % 61) true).drop 0).take (k - 0)) (((n.clocks f1 (p1 % 61) true).drop 0).take (k - 0)).length) := by have := (Net.run_Ins hn hfb iL).1; rw [rL] at this; exact this
    have jR : Ins (n.outsAt (n.stateAt n.firsts (((n.clocks f1 (p1 % 61) true).drop 0).take (k - 0)) (((n.clocks f1 (p1 % 61) true).drop 0).take (k - 0)).length) (((n.clocks f1 (p1 % 61) true).drop k).take ((n.clocks f1 (p1 % 61) true).length - k)) (((n.clocks f1 (p1 % 61) true).drop k).take ((n.clocks f1 (p1 % 61) true).length - k)).length) := by have := (Net.run_Ins hn hs8 iR).1; rw [rR] at this; exact this
    have oL := n.outsAt_length n.firsts (((n.clocks f1 (p1 % 61) true).drop 0).take (k - 0)) (((n.clocks f1 (p1 % 61) true).drop 0).take (k - 0)).length
    have oR := n.outsAt_length (n.stateAt n.firsts (((n.clocks f1 (p1 % 61) true).drop 0).take (k - 0)) (((n.clocks f1 (p1 % 61) true).drop 0).take (k - 0)).length) (((n.clocks f1 (p1 % 61) true).drop k).take ((n.clocks f1 (p1 % 61) true).length - k)) (((n.clocks f1 (p1 % 61) true).drop k).take ((n.clocks f1 (p1 % 61) true).length - k)).length
    have jB : Ins ((n.outsAt n.firsts (((n.clocks f1 (p1 % 61) true).drop 0).take (k - 0)) (((n.clocks f1 (p1 % 61) true).drop 0).take (k - 0)).length) ++ (n.outsAt (n.stateAt n.firsts (((n.clocks f1 (p1 % 61) true).drop 0).take (k - 0)) (((n.clocks f1 (p1 % 61) true).drop 0).take (k - 0)).length) (((n.clocks f1 (p1 % 61) true).drop k).take ((n.clocks f1 (p1 % 61) true).length - k)) (((n.clocks f1 (p1 % 61) true).drop k).take ((n.clocks f1 (p1 % 61) true).length - k)).length)) := jL.app jR (by omega)
    have hsp : (n.outsAt n.firsts (n.clocks f1 (p1 % 61) true) (n.clocks f1 (p1 % 61) true).length) = (n.outsAt n.firsts (((n.clocks f1 (p1 % 61) true).drop 0).take (k - 0)) (((n.clocks f1 (p1 % 61) true).drop 0).take (k - 0)).length) ++ (n.outsAt (n.stateAt n.firsts (((n.clocks f1 (p1 % 61) true).drop 0).take (k - 0)) (((n.clocks f1 (p1 % 61) true).drop 0).take (k - 0)).length) (((n.clocks f1 (p1 % 61) true).drop k).take ((n.clocks f1 (p1 % 61) true).length - k)) (((n.clocks f1 (p1 % 61) true).drop k).take ((n.clocks f1 (p1 % 61) true).length - k)).length) := by
      have e := n.outsAt_split n.firsts (n.clocks f1 (p1 % 61) true) k ((n.clocks f1 (p1 % 61) true).length - k)
      rw [show k + ((n.clocks f1 (p1 % 61) true).length - k) = (n.clocks f1 (p1 % 61) true).length from by omega] at e
      rw [e, hll, hlr]
      have e1 : (((n.clocks f1 (p1 % 61) true).drop 0).take (k - 0)) = (n.clocks f1 (p1 % 61) true).take k := by simp
      have e2 : (((n.clocks f1 (p1 % 61) true).drop k).take ((n.clocks f1 (p1 % 61) true).length - k)) = (n.clocks f1 (p1 % 61) true).drop k := List.take_of_length_le (by rw [List.length_drop] <;> exact Nat.le_refl _)
      rw [e2, e1, n.outsAt_congr k (fun j hj => (getD_take _ hj).symm), n.stateAt_congr k (fun j hj => (getD_take _ hj).symm)]
    refine aw_region ?_
    refine al_op (op_move rfl) rfl (by simp) ?_
    refine al_op (op_eql rfl rfl) rfl (by simp) ?_
    refine al_op (op_move rfl) rfl (by simp) ?_
    refine al_as 97 (.v (.bool true)) rfl (by rfl) ?_
    refine al_take (op_move rfl) rfl rfl rfl rfl (by simp) ?_
    refine al_take (op_build_nil Try.underlying39 info40 rfl rfl (by decide) rfl) rfl rfl rfl rfl (by simp) ?_
    refine al_take (op_move rfl) rfl rfl rfl rfl (by simp) ?_
    (refine al_takeR (op_append_new 101 Try.underlying39 Try.underlying39 rfl info40 rfl rfl (by decide) rfl rfl rfl (by first | exact .list _ | exact .vnil | exact .nil | exact .row _ _ _ _ rfl (by first | rfl | simp)) rfl (by first | omega | (simp; done) | (simp; omega)) (by show _ * 24 ≤ _; first | omega | (simp; done) | (simp; omega))) rfl rfl rfl rfl (by simp) ?_; rintro _ _ ⟨ver101, rfl, rfl⟩)
    refine al_take (op_move rfl) rfl rfl rfl rfl (by simp) ?_
    (refine al_takeR (op_append_map Try.underlying39 Try.underlying39 rfl info40 rfl rfl (by decide) rfl rfl rfl (by first | rfl | simp) rfl (by first | exact .list _ | exact .vnil | exact .nil | exact .row _ _ _ _ rfl (by first | rfl | simp)) rfl (by first | omega | (simp; done) | (simp; omega)) (by show _ * 24 ≤ _; first | omega | (simp; done) | (simp; omega))) rfl rfl rfl rfl (by simp) ?_; rintro _ _ ⟨ver103, rfl, rfl⟩)
    refine al_obj (id := 101) (.row 1 (((n.outsAt n.firsts (((n.clocks f1 (p1 % 61) true).drop 0).take (k - 0)) (((n.clocks f1 (p1 % 61) true).drop 0).take (k - 0)).length) ++ (n.outsAt (n.stateAt n.firsts (((n.clocks f1 (p1 % 61) true).drop 0).take (k - 0)) (((n.clocks f1 (p1 % 61) true).drop 0).take (k - 0)).length) (((n.clocks f1 (p1 % 61) true).drop k).take ((n.clocks f1 (p1 % 61) true).length - k)) (((n.clocks f1 (p1 % 61) true).drop k).take ((n.clocks f1 (p1 % 61) true).length - k)).length)).map encL)) rfl (by first | (simp; done) | (simp; rfl)) rfl ?_
    first
      | refine al_callp_take into30 rfl rfl rfl rfl rfl rfl ((l_all _ _ (by assumption) (by assumption)) _) (by simp) ?_
      | refine al_callp_take into30 rfl rfl rfl rfl rfl rfl (acp_lent (lend_cons (by first | exact lend_same | exact .leaf _ _ (.vnil _) | exact .leaf _ _ (.nil _) | exact lend_whole rfl (by first | rfl | (simp; done) | (simp; omega)) (clo_map (fun _ => rfl)) | exact lend_netg (by first | exact .same _ | exact lendL_vnil | exact lendL_whole rfl (by first | rfl | (simp; done) | (simp; omega)) (clo_map (fun _ => rfl))) (by first | exact .same _ | exact lendL_vnil | exact lendL_whole rfl (by first | rfl | (simp; done) | (simp; omega)) (clo_map (fun _ => rfl))) (by first | exact .same _ | exact lendL_vnil | exact lendL_whole rfl (by first | rfl | (simp; done) | (simp; omega)) (clo_map (fun _ => rfl))) (by first | exact .same _ | exact lendL_vnil | exact lendL_whole rfl (by first | rfl | (simp; done) | (simp; omega)) (clo_map (fun _ => rfl)))) (lend_cons (by first | exact lend_same | exact .leaf _ _ (.vnil _) | exact .leaf _ _ (.nil _) | exact lend_whole rfl (by first | rfl | (simp; done) | (simp; omega)) (clo_map (fun _ => rfl)) | exact lend_netg (by first | exact .same _ | exact lendL_vnil | exact lendL_whole rfl (by first | rfl | (simp; done) | (simp; omega)) (clo_map (fun _ => rfl))) (by first | exact .same _ | exact lendL_vnil | exact lendL_whole rfl (by first | rfl | (simp; done) | (simp; omega)) (clo_map (fun _ => rfl))) (by first | exact .same _ | exact lendL_vnil | exact lendL_whole rfl (by first | rfl | (simp; done) | (simp; omega)) (clo_map (fun _ => rfl))) (by first | exact .same _ | exact lendL_vnil | exact lendL_whole rfl (by first | rfl | (simp; done) | (simp; omega)) (clo_map (fun _ => rfl)))) lend_nil)) (l_all _ _ (by assumption) (by assumption)) rfl) (by simp) ?_
    first
      | refine al_op (op_pick rfl rfl) rfl (by simp) ?_
      | refine al_op (op_and rfl rfl rfl) rfl (by simp) ?_
    refine al_op (op_move rfl) rfl (by simp) ?_
    refine al_as 106 (.v (.bool true)) rfl (by rw [← hsp, sameL_refl]) ?_
    first
      | refine al_callp_take into13 rfl rfl rfl rfl rfl rfl ((l_awake4 ) _) (by simp) ?_
      | refine al_callp_take into13 rfl rfl rfl rfl rfl rfl (acp_lent lend_nil (l_awake4 ) rfl) (by simp) ?_
    first
      | refine al_op (op_pick rfl rfl) rfl (by simp) ?_
      | refine al_op (op_and rfl rfl rfl) rfl (by simp) ?_
    refine al_op (op_assign rfl) rfl (by simp) ?_
    refine al_nil ?_
    refine aw_freeze (fun _ => false) (fsub_cons (t := 6) rfl (.leaf _ _ (.same _)) fsub_nil) ?_
    refine aw_ret ?_
    refine ⟨_, res_1 rfl rfl, ?_, rfl⟩
    rfl
end Go.Proofs.Ytnnklpmgncbgnaa
