/- Printed walks (gen.py, gates_ann.py): part 226. -/
import Derived.Test.YtnnklpmgncbgnaaW225
import Derived.Test.YtnnklpmgncbgnaaFacts
set_option linter.unusedVariables false
set_option linter.unusedSimpArgs false
set_option maxRecDepth 20000
set_option maxHeartbeats 40000000
namespace Go.Proofs.Ytnnklpmgncbgnaa
open Go

theorem law_CycleEarly (n : Net) (hn : n.Small) (f1 f2 : List Int) (hf1 : OKB8 f1) (hf2 : OKB8 f2) (p1 p2 : Int) (hp1 : 0 ≤ p1) (hp2 : p1 ≤ 255) (hp3 : 0 ≤ p2) (hp4 : p2 ≤ 255) : ACp Try.prog 7 [encN n, .agg [.list 1 (f1.map encB), .list 1 (f2.map encB)], .agg [.v (.int .u8 p1), .v (.int .u8 p2)]] (.v (.bool (true))) := by
 refine acp_of rfl ?_
 refine ac_enter 100 Try.func7 rfl rfl (by simp) ?_
 refine aw_seq ?_
 refine aw_region ?_
 (refine al_opR (op_box 3 rfl rfl (by first | rfl | exact live_one rfl | (repeat (first | exact all_live_nil | refine all_live_clo rfl ?_ | refine all_live_slice rfl ?_ | refine all_live_map rfl ?_ | refine all_live_ptr rfl ?_)))) rfl (by simp) ?_; rintro _ _ ⟨ver3, rfl, rfl⟩)
 (refine al_opR (op_box 4 rfl rfl (by first | rfl | exact live_one rfl | (repeat (first | exact all_live_nil | refine all_live_clo rfl ?_ | refine all_live_slice rfl ?_ | refine all_live_map rfl ?_ | refine all_live_ptr rfl ?_)))) rfl (by simp) ?_; rintro _ _ ⟨ver4, rfl, rfl⟩)
 (refine al_opR (op_box 5 rfl rfl (by first | rfl | exact live_one rfl | (repeat (first | exact all_live_nil | refine all_live_clo rfl ?_ | refine all_live_slice rfl ?_ | refine all_live_map rfl ?_ | refine all_live_ptr rfl ?_)))) rfl (by simp) ?_; rintro _ _ ⟨ver5, rfl, rfl⟩)
 refine al_op (op_assign rfl) rfl (by simp) ?_
 refine al_nil ?_
 refine aw_seq ?_
 refine aw_seq ?_
 refine aw_region ?_
 first
   | refine al_op (op_load_rptr Try.underlying27 info27 rfl rfl) rfl (by simp) ?_
   | refine al_op (op_load_map Try.underlying27 info27 rfl rfl (by omega) rfl) rfl (by simp) ?_
   | refine al_op (op_load_ptr Try.underlying27 info27 rfl rfl rfl rfl) rfl (by simp) ?_
 refine al_callp into12 rfl rfl rfl (ac_told (re_cons (.leaf _ _ (.same _)) (re_cons (.leaf _ _ (.vnil 1)) re_nil)) (l_few n hn [] ins_nil _)) (by simp) ?_
 refine al_op (op_not rfl) rfl (by simp) ?_
 refine al_op (op_move rfl) rfl (by simp) ?_
 apply al_or 4 18 22 rfl
 ·intro h1; have gh1 := h1
  try simp only [nrm] at h1
  first
    | refine al_take (op_load_rptr Try.underlying27 info27 rfl rfl) rfl rfl rfl rfl (by simp) ?_
    | refine al_take (op_load_map Try.underlying27 info27 rfl rfl (by omega) rfl) rfl rfl rfl rfl (by simp) ?_
    | refine al_take (op_load_ptr Try.underlying27 info27 rfl rfl rfl rfl) rfl rfl rfl rfl (by simp) ?_
  first
    | refine al_callp_take into16 rfl rfl rfl rfl rfl rfl ((r_Valid _ (by assumption)) _) (by simp) ?_
    | refine al_callp_take into16 rfl rfl rfl rfl rfl rfl (acp_lent (lend_cons (by first | exact lend_same | exact .leaf _ _ (.vnil _) | exact .leaf _ _ (.nil _) | exact lend_whole rfl (by first | rfl | (simp; done) | (simp; omega)) (clo_map (fun _ => rfl)) | exact lend_netg (by first | exact .same _ | exact lendL_vnil | exact lendL_whole rfl (by first | rfl | (simp; done) | (simp; omega)) (clo_map (fun _ => rfl))) (by first | exact .same _ | exact lendL_vnil | exact lendL_whole rfl (by first | rfl | (simp; done) | (simp; omega)) (clo_map (fun _ => rfl))) (by first | exact .same _ | exact lendL_vnil | exact lendL_whole rfl (by first | rfl | (simp; done) | (simp; omega)) (clo_map (fun _ => rfl))) (by first | exact .same _ | exact lendL_vnil | exact lendL_whole rfl (by first | rfl | (simp; done) | (simp; omega)) (clo_map (fun _ => rfl)))) lend_nil) (r_Valid _ (by assumption)) rfl) (by simp) ?_
  refine al_take (op_not rfl) rfl rfl rfl rfl (by simp) ?_
  first
    | refine al_op (op_pick rfl rfl) rfl (by simp) ?_
    | refine al_op (op_or rfl rfl rfl) rfl (by simp) ?_
  refine al_nil ⟨rfl, rfl, rfl, keep_of ?_⟩
  repeat (first | exact subx_refl | exact subx_known rfl gh1 subx_refl | refine subx_put rfl ?_)
 ·intro h1; have gh1 := h1
  try simp only [nrm] at h1
  refine al_pass rfl rfl rfl rfl (by simp) ?_
  refine al_pass rfl rfl rfl rfl (by simp) ?_
  refine al_pass rfl rfl rfl rfl (by simp) ?_
  first
    | refine al_op (op_pick rfl rfl) rfl (by simp) ?_
    | refine al_op (op_or rfl rfl rfl) rfl (by simp) ?_
  refine al_nil ⟨rfl, rfl, rfl, keep_of ?_⟩
  repeat (first | exact subx_refl | exact subx_known rfl gh1 subx_refl | refine subx_put rfl ?_)
 refine al_nil ?_
 refine aw_cond rfl (fun h2 => ?_) (fun h2 => ?_)
 ·have gh2 := h2
  try simp only [nrm] at h2
  refine aw_seq ?_
  refine aw_region ?_
  first
    | refine al_callp into13 rfl rfl rfl ((l_awake4 ) _) (by simp) ?_
    | refine al_callp into13 rfl rfl rfl (acp_lent lend_nil (l_awake4 ) rfl) (by simp) ?_
  refine al_op (op_assign rfl) rfl (by simp) ?_
  refine al_nil ?_
  refine aw_freeze (fun _ => false) (fsub_cons (t := 6) rfl (.leaf _ _ (.same _)) fsub_nil) ?_
  refine aw_ret ?_
  refine ⟨_, res_1 rfl rfl, ?_, rfl⟩
  rfl
 ·have gh2 := h2
  try simp only [nrm] at h2
  refine aw_skip ?_
  refine aw_seq ?_
  obtain ⟨hfw, hv⟩ : n.few [] = true ∧ n.valid = true := by simpa using gh2
  obtain ⟨hfw1, hfw2⟩ := Net.few_facts hfw
  have hfo := Net.firsts_ok hn hv
  have hfb := Net.firsts_bytes hn
  refine aw_any (Checked.mixed Try.checked) ?_
  apply aany_seg (p := 0) (q := 18) (by kernel_rfl) rfl (by decide)
  ·
   first
     | apply ql_plain rfl (op_load_rptr Try.underlying27 info27 rfl rfl)
     | apply ql_plain rfl (op_load_map Try.underlying27 info27 rfl rfl (by omega) rfl)
     | apply ql_plain rfl (op_load_ptr Try.underlying27 info27 rfl rfl rfl rfl)
   first
     | apply ql_plain rfl (op_index_arptr Try.underlying64 info57 rfl rfl rfl (by decide) (by decide))
     | apply ql_plain rfl (op_index_aptr Try.underlying64 info57 rfl rfl rfl rfl (by decide) (by decide))
   first
     | apply ql_plain rfl (op_load_rptr Try.underlying57 info57 rfl rfl)
     | apply ql_plain rfl (op_load_map Try.underlying57 info57 rfl rfl (by omega) rfl)
     | apply ql_plain rfl (op_load_ptr Try.underlying57 info57 rfl rfl rfl rfl)
   first
     | apply ql_plain rfl (op_index_arptr Try.underlying37 info5 rfl rfl rfl (by decide) (by decide))
     | apply ql_plain rfl (op_index_aptr Try.underlying37 info5 rfl rfl rfl rfl (by decide) (by decide))
   first
     | apply ql_plain rfl (op_load_rptr Try.underlying5 info5 rfl rfl)
     | apply ql_plain rfl (op_load_map Try.underlying5 info5 rfl rfl (by omega) rfl)
     | apply ql_plain rfl (op_load_ptr Try.underlying5 info5 rfl rfl rfl rfl)
   apply ql_plain rfl (op_conv Try.underlying5 Try.underlying3 rfl (wrap_i64 (by omega) (by omega)))
   first
     | apply ql_plain rfl (op_rem rfl rfl (by omega) (rem_nn (by omega)))
     | apply ql_plain rfl (op_rem rfl rfl (by omega) rfl)
   first
     | apply ql_call into27 rfl rfl rfl ((l_clocks _ (by assumption) (by omega) _ (by assumption) _ _ (by omega) (by omega)) _)
     | apply ql_call into27 rfl rfl rfl (ac_told (re_cons (by first | exact .leaf _ _ (.same _) | exact .leaf _ _ (.vnil _) | exact .leaf _ _ (.nil _)) (re_cons (by first | exact .leaf _ _ (.same _) | exact .leaf _ _ (.vnil _) | exact .leaf _ _ (.nil _)) (re_cons (by first | exact .leaf _ _ (.same _) | exact .leaf _ _ (.vnil _) | exact .leaf _ _ (.nil _)) (re_cons (by first | exact .leaf _ _ (.same _) | exact .leaf _ _ (.vnil _) | exact .leaf _ _ (.nil _)) re_nil)))) ((l_clocks _ (by assumption) (by omega) _ (by assumption) _ _ (by omega) (by omega)) _))
   first
     | apply ql_plain rfl (op_load_rptr Try.underlying27 info27 rfl rfl)
     | apply ql_plain rfl (op_load_map Try.underlying27 info27 rfl rfl (by omega) rfl)
     | apply ql_plain rfl (op_load_ptr Try.underlying27 info27 rfl rfl rfl rfl)
   first
     | apply ql_plain rfl (op_index_arptr Try.underlying64 info57 rfl rfl rfl (by decide) (by decide))
     | apply ql_plain rfl (op_index_aptr Try.underlying64 info57 rfl rfl rfl rfl (by decide) (by decide))
   first
     | apply ql_plain rfl (op_load_rptr Try.underlying57 info57 rfl rfl)
     | apply ql_plain rfl (op_load_map Try.underlying57 info57 rfl rfl (by omega) rfl)
     | apply ql_plain rfl (op_load_ptr Try.underlying57 info57 rfl rfl rfl rfl)
   first
     | apply ql_plain rfl (op_index_arptr Try.underlying37 info5 rfl rfl rfl (by decide) (by decide))
     | apply ql_plain rfl (op_index_aptr Try.underlying37 info5 rfl rfl rfl rfl (by decide) (by decide))
   first
     | apply ql_plain rfl (op_load_rptr Try.underlying5 info5 rfl rfl)
     | apply ql_plain rfl (op_load_map Try.underlying5 info5 rfl rfl (by omega) rfl)
     | apply ql_plain rfl (op_load_ptr Try.underlying5 info5 rfl rfl rfl rfl)
   apply ql_plain rfl (op_conv Try.underlying5 Try.underlying3 rfl (wrap_i64 (by omega) (by omega)))
   first
     | apply ql_plain rfl (op_rem rfl rfl (by omega) (rem_nn (by omega)))
     | apply ql_plain rfl (op_rem rfl rfl (by omega) rfl)
   first
     | apply ql_call into27 rfl rfl rfl ((l_clocks _ (by assumption) (by omega) _ (by assumption) _ _ (by omega) (by omega)) _)
     | apply ql_call into27 rfl rfl rfl (ac_told (re_cons (by first | exact .leaf _ _ (.same _) | exact .leaf _ _ (.vnil _) | exact .leaf _ _ (.nil _)) (re_cons (by first | exact .leaf _ _ (.same _) | exact .leaf _ _ (.vnil _) | exact .leaf _ _ (.nil _)) (re_cons (by first | exact .leaf _ _ (.same _) | exact .leaf _ _ (.vnil _) | exact .leaf _ _ (.nil _)) (re_cons (by first | exact .leaf _ _ (.same _) | exact .leaf _ _ (.vnil _) | exact .leaf _ _ (.nil _)) re_nil)))) ((l_clocks _ (by assumption) (by omega) _ (by assumption) _ _ (by omega) (by omega)) _))
   apply ql_plain rfl (op_assign rfl)
   apply ql_plain rfl (op_assign rfl)
   exact ql_nil
  ·simp
  refine aany_end rfl (by kernel_rfl) ?_
  refine aw_seq ?_
  have hla : (n.clocks f1 (p1 % 31) true).length = (p1 % 31).toNat := n.clocks_length _ _ _
  have hlb : (n.clocks f2 (p1 % 31) true).length = (p1 % 31).toNat := n.clocks_length _ _ _
  refine aw_region ?_
  first
    | refine al_op (op_index_arptr Try.underlying37 info5 rfl rfl rfl (by decide) (by decide)) rfl (by simp) ?_
    | refine al_op (op_index_aptr Try.underlying37 info5 rfl rfl rfl rfl (by decide) (by decide)) rfl (by simp) ?_
  first
    | refine al_op (op_load_rptr Try.underlying5 info5 rfl rfl) rfl (by simp) ?_
    | refine al_op (op_load_map Try.underlying5 info5 rfl rfl (by omega) rfl) rfl (by simp) ?_
    | refine al_op (op_load_ptr Try.underlying5 info5 rfl rfl rfl rfl) rfl (by simp) ?_
  refine al_op (op_conv Try.underlying5 Try.underlying3 rfl (wrap_i64 (by omega) (by omega))) rfl (by simp) ?_
  refine al_op (op_move rfl) rfl (by simp) ?_
  first
    | refine al_op (op_len_map Try.underlying39 rfl) rfl (by simp) ?_
    | refine al_op (op_len_slice Try.underlying39 rfl rfl) rfl (by simp) ?_
    | refine al_op (op_len_list Try.underlying39 rfl) rfl (by simp) ?_
    | refine al_op (op_len_v Try.underlying39 rfl) rfl (by simp) ?_
    | refine al_op (op_len_nil Try.underlying39 rfl) rfl (by simp) ?_
  refine al_op (op_add rfl rfl (by first | exact wrap_i64 (by omega) (by omega))) rfl (by simp) ?_
  first
    | refine al_op (op_rem rfl rfl (by omega) (rem_nn (by omega))) rfl (by simp) ?_
    | refine al_op (op_rem rfl rfl (by omega) rfl) rfl (by simp) ?_
  refine al_op (op_assign rfl) rfl (by simp) ?_
  refine al_nil ?_
  refine aw_seq ?_
  obtain ⟨k, hk1, hk2⟩ := cut_mod (a := p2) (m := (n.clocks f1 (p1 % 31) true).length)
  refine aw_as 9 (.v (.int .i64 (k : Int))) rfl (by rw [hk1]) ?_
  refine aw_plan [0, 1, 2, 3, 5, 6, 7, 4, 8, 9] (Checked.mixed Try.checked) (by kernel_rfl) ?_
  refine afl_float rfl rfl (opk_of (op_build_nil Try.underlying39 info40 rfl rfl (by decide) rfl)) (by simp) ?_
  refine afl_float rfl rfl (opk_of (op_move rfl)) (by simp) ?_
  refine afl_float rfl rfl (opk_of (op_move rfl)) (by simp) ?_
  refine afl_float rfl rfl (opk_of (op_cut_map (f := encL) (l := 0) (h := k) Try.underlying39 info40 rfl rfl OptI.none (OptI.of rfl rfl) (by omega) (by omega))) (by simp) ?_
  refine afl_float rfl rfl (opk_of (op_move rfl)) (by simp) ?_
  refine afl_float rfl rfl (opk_of (op_move rfl)) (by simp) ?_
  refine afl_float rfl rfl (opk_of (op_cut_map (f := encL) (l := k) (h := (n.clocks f2 (p1 % 31) true).length) Try.underlying39 info40 rfl rfl (OptI.of rfl rfl) OptI.none (by omega) (by omega))) (by simp) ?_
  (refine afl_effR rfl rfl (by kernel_rfl) (op_append_new 51 Try.underlying39 Try.underlying39 rfl info40 rfl rfl (by decide) rfl rfl rfl (by first | exact .list _ | exact .vnil | exact .nil | exact .row _ _ _ _ rfl (by first | rfl | simp)) rfl (by first | omega | (simp; done) | (simp; omega)) (by show _ * 24 ≤ _; first | omega | (simp; done) | (simp; omega))) (by simp) ?_; rintro _ _ ⟨ver51, rfl, rfl⟩; refine ⟨?_, ?_⟩)
  ·
   refine loose_k rfl (opk_of (op_cut_map (f := encL) (l := k) (h := (n.clocks f2 (p1 % 31) true).length) Try.underlying39 info40 rfl rfl (OptI.of rfl rfl) OptI.none (by omega) (by omega))) ?_
   refine loose_k rfl (opk_of (op_move rfl)) ?_
   refine loose_k rfl (opk_of (op_move rfl)) ?_
   refine loose_anc 3 rfl (by kernel_rfl) ?_
   refine loose_anc 2 rfl (by kernel_rfl) ?_
   refine loose_anc 1 rfl (by kernel_rfl) ?_
   refine loose_anc 0 rfl (by kernel_rfl) ?_
   exact loose_nil
  (refine afl_effR rfl rfl (by kernel_rfl) (op_append_map Try.underlying39 Try.underlying39 rfl info40 rfl rfl (by decide) rfl rfl rfl (by first | rfl | simp) rfl (by first | exact .list _ | exact .vnil | exact .nil | exact .row _ _ _ _ rfl (by first | rfl | simp)) rfl (by first | omega | (simp; done) | (simp; omega)) (by show _ * 24 ≤ _; first | omega | (simp; done) | (simp; omega))) (by simp) ?_; rintro _ _ ⟨ver55, rfl, rfl⟩; refine ⟨?_, ?_⟩)
  ·
   refine loose_fix rfl ?_
   refine loose_anc 7 rfl (by kernel_rfl) ?_
   refine loose_anc 6 rfl (by kernel_rfl) ?_
   refine loose_anc 5 rfl (by kernel_rfl) ?_
   refine loose_anc 3 rfl (by kernel_rfl) ?_
   refine loose_anc 2 rfl (by kernel_rfl) ?_
   refine loose_anc 1 rfl (by kernel_rfl) ?_
   refine loose_anc 0 rfl (by kernel_rfl) ?_
   exact loose_nil
  refine afl_float rfl rfl (opk_of (op_assign rfl)) (by simp) ?_
  refine afl_end ?_
  refine aw_seq ?_
  refine aw_freeze (fun i => !(Nat.beq i 51)) (fsub_cons (t := 10) rfl (.leaf _ _ (frz_whole rfl rfl (by simp) (clo_map (fun _ => rfl)))) fsub_same) ?_
  refine aw_as 10 (.list 1 (((((n.clocks f1 (p1 % 31) true).drop 0).take (k - 0)) ++ (((n.clocks f2 (p1 % 31) true).drop k).take ((n.clocks f2 (p1 % 31) true).length - k))).map encL)) rfl (by simp <;> rfl) ?_
  have fa := n.clocks_fits f1 (p1 % 31) true
  have fb := n.clocks_fits f2 (p1 % 31) true
  have fm : n.Fits ((((n.clocks f1 (p1 % 31) true).drop 0).take (k - 0)) ++ (((n.clocks f2 (p1 % 31) true).drop k).take ((n.clocks f2 (p1 % 31) true).length - k))) := Net.Fits.append ((fa.drop 0).take _) ((fb.drop _).take _)
  have hlm : ((((n.clocks f1 (p1 % 31) true).drop 0).take (k - 0)) ++ (((n.clocks f2 (p1 % 31) true).drop k).take ((n.clocks f2 (p1 % 31) true).length - k))).length = (p1 % 31).toNat := by simp only [List.length_append, List.length_take, List.length_drop]; omega
  have iA := fa.ins hn (by omega)
  have iM := fm.ins hn (by omega)
  have rA := Net.run_fits hv hfo fa (by omega)
  have rM := Net.run_fits hv hfo fm (by omega)
  refine aw_region ?_
  first
    | refine al_op (op_load_rptr Try.underlying27 info27 rfl rfl) rfl (by simp) ?_
    | refine al_op (op_load_map Try.underlying27 info27 rfl rfl (by omega) rfl) rfl (by simp) ?_
    | refine al_op (op_load_ptr Try.underlying27 info27 rfl rfl rfl rfl) rfl (by simp) ?_
  refine al_op (op_move rfl) rfl (by simp) ?_
  first
    | refine al_callp into18 rfl rfl rfl ((c_Run _ (by assumption) _ (by assumption)) _) (by simp) ?_
    | refine al_callp into18 rfl rfl rfl (ac_told (re_cons (by first | exact .leaf _ _ (.same _) | exact .leaf _ _ (.vnil _) | exact .leaf _ _ (.nil _)) (re_cons (by first | exact .leaf _ _ (.same _) | exact .leaf _ _ (.vnil _) | exact .leaf _ _ (.nil _)) re_nil)) ((c_Run _ (by assumption) _ (by assumption)) _)) (by simp) ?_
  refine al_op (op_move rfl) rfl (by simp) ?_
  refine al_op (op_extract rfl rfl rfl) rfl (by simp) ?_
  refine al_op (op_extract rfl rfl rfl) rfl (by simp) ?_
  refine al_op (op_assign rfl) rfl (by simp) ?_
  refine al_op (op_assign rfl) rfl (by simp) ?_
  refine al_nil ?_
  refine aw_seq ?_
  refine aw_region ?_
  first
    | refine al_op (op_load_rptr Try.underlying27 info27 rfl rfl) rfl (by simp) ?_
    | refine al_op (op_load_map Try.underlying27 info27 rfl rfl (by omega) rfl) rfl (by simp) ?_
    | refine al_op (op_load_ptr Try.underlying27 info27 rfl rfl rfl rfl) rfl (by simp) ?_
  refine al_op (op_move rfl) rfl (by simp) ?_
  first
    | refine al_callp into18 rfl rfl rfl ((c_Run _ (by assumption) _ (by assumption)) _) (by simp) ?_
    | refine al_callp into18 rfl rfl rfl (ac_told (re_cons (by first | exact .leaf _ _ (.same _) | exact .leaf _ _ (.vnil _) | exact .leaf _ _ (.nil _)) (re_cons (by first | exact .leaf _ _ (.same _) | exact .leaf _ _ (.vnil _) | exact .leaf _ _ (.nil _)) re_nil)) ((c_Run _ (by assumption) _ (by assumption)) _)) (by simp) ?_
  refine al_op (op_move rfl) rfl (by simp) ?_
  refine al_op (op_extract rfl rfl rfl) rfl (by simp) ?_
  refine al_op (op_extract rfl rfl rfl) rfl (by simp) ?_
  refine al_op (op_assign rfl) rfl (by simp) ?_
  refine al_op (op_assign rfl) rfl (by simp) ?_
  refine al_nil ?_
  refine aw_seq ?_
  refine aw_as 11 (.list 1 ((n.outsAt n.firsts (n.clocks f1 (p1 % 31) true) (n.clocks f1 (p1 % 31) true).length).map encL)) rfl (by rw [rA]) ?_
  refine aw_as 12 (.v (.int .i64 (0))) rfl (by rw [rA]) ?_
  refine aw_as 13 (.list 1 ((n.outsAt n.firsts ((((n.clocks f1 (p1 % 31) true).drop 0).take (k - 0)) ++ (((n.clocks f2 (p1 % 31) true).drop k).take ((n.clocks f2 (p1 % 31) true).length - k))) ((((n.clocks f1 (p1 % 31) true).drop 0).take (k - 0)) ++ (((n.clocks f2 (p1 % 31) true).drop k).take ((n.clocks f2 (p1 % 31) true).length - k))).length).map encL)) rfl (by rw [rM]) ?_
  refine aw_as 14 (.v (.int .i64 (0))) rfl (by rw [rM]) ?_
  have jA : Ins (n.outsAt n.firsts (n.clocks f1 (p1 % 31) true) (n.clocks f1 (p1 % 31) true).length) := by have := (Net.run_Ins hn hfb iA).1; rw [rA] at this; exact this
  have jM : Ins (n.outsAt n.firsts ((((n.clocks f1 (p1 % 31) true).drop 0).take (k - 0)) ++ (((n.clocks f2 (p1 % 31) true).drop k).take ((n.clocks f2 (p1 % 31) true).length - k))) ((((n.clocks f1 (p1 % 31) true).drop 0).take (k - 0)) ++ (((n.clocks f2 (p1 % 31) true).drop k).take ((n.clocks f2 (p1 % 31) true).length - k))).length) := by have := (Net.run_Ins hn hfb iM).1; rw [rM] at this; exact this
  have cA := jA.cut 0 (k - 0)
  have cM := jM.cut 0 (k - 0)
  have oA := n.outsAt_length n.firsts (n.clocks f1 (p1 % 31) true) (n.clocks f1 (p1 % 31) true).length
  have oM := n.outsAt_length n.firsts ((((n.clocks f1 (p1 % 31) true).drop 0).take (k - 0)) ++ (((n.clocks f2 (p1 % 31) true).drop k).take ((n.clocks f2 (p1 % 31) true).length - k))) ((((n.clocks f1 (p1 % 31) true).drop 0).take (k - 0)) ++ (((n.clocks f2 (p1 % 31) true).drop k).take ((n.clocks f2 (p1 % 31) true).length - k))).length
  refine aw_any (Checked.mixed Try.checked) ?_
  apply aany_seg (p := 0) (q := 3) (by kernel_rfl) rfl (by decide)
  ·
   apply ql_plain rfl (op_move rfl)
   apply ql_plain rfl (op_eql rfl rfl)
   apply ql_plain rfl (op_move rfl)
   exact ql_nil
  ·simp
  apply aany_and 3 6 70 73 (by kernel_rfl) rfl (by decide) rfl (by simp)
  ·intro h3; have gh3 := h3
   try simp only [nrm] at h3
   apply ql_ex
   ·
    apply ql_take rfl rfl rfl rfl (op_move rfl)
    apply ql_take rfl rfl rfl rfl (op_eql rfl rfl)
    first
      | apply ql_plain rfl (op_pick rfl rfl)
      | apply ql_plain rfl (op_and rfl rfl rfl)
    exact ql_nil
   ·rfl
   ·repeat (first | exact subx_refl | exact subx_known rfl gh3 subx_refl | refine subx_put rfl ?_)
  ·intro h3; have gh3 := h3
   try simp only [nrm] at h3
   apply ql_ex
   ·
    apply ql_pass rfl rfl rfl rfl
    apply ql_pass rfl rfl rfl rfl
    first
      | apply ql_plain rfl (op_pick rfl rfl)
      | apply ql_plain rfl (op_and rfl rfl rfl)
    exact ql_nil
   ·rfl
   ·repeat (first | exact subx_refl | exact subx_known rfl gh3 subx_refl | refine subx_put rfl ?_)
  apply aany_seg (p := 6) (q := 7) (by kernel_rfl) rfl (by decide)
  ·
   apply ql_plain rfl (op_move rfl)
   exact ql_nil
  ·simp
  apply aany_and 7 13 74 80 (by kernel_rfl) rfl (by decide) rfl (by simp)
  ·intro h4; have gh4 := h4
   try simp only [nrm] at h4
   apply ql_ex
   ·
    apply ql_take rfl rfl rfl rfl (op_move rfl)
    first
      | apply ql_take rfl rfl rfl rfl (op_len_map Try.underlying39 rfl)
      | apply ql_take rfl rfl rfl rfl (op_len_slice Try.underlying39 rfl rfl)
      | apply ql_take rfl rfl rfl rfl (op_len_list Try.underlying39 rfl)
      | apply ql_take rfl rfl rfl rfl (op_len_v Try.underlying39 rfl)
      | apply ql_take rfl rfl rfl rfl (op_len_nil Try.underlying39 rfl)
    apply ql_take rfl rfl rfl rfl (op_move rfl)
    first
      | apply ql_take rfl rfl rfl rfl (op_len_map Try.underlying39 rfl)
      | apply ql_take rfl rfl rfl rfl (op_len_slice Try.underlying39 rfl rfl)
      | apply ql_take rfl rfl rfl rfl (op_len_list Try.underlying39 rfl)
      | apply ql_take rfl rfl rfl rfl (op_len_v Try.underlying39 rfl)
      | apply ql_take rfl rfl rfl rfl (op_len_nil Try.underlying39 rfl)
    apply ql_take rfl rfl rfl rfl (op_eql rfl rfl)
    first
      | apply ql_plain rfl (op_pick rfl rfl)
      | apply ql_plain rfl (op_and rfl rfl rfl)
    exact ql_nil
   ·rfl
   ·repeat (first | exact subx_refl | exact subx_known rfl gh4 subx_refl | refine subx_put rfl ?_)
  ·intro h4; have gh4 := h4
   try simp only [nrm] at h4
   apply ql_ex
   ·
    apply ql_pass rfl rfl rfl rfl
    apply ql_pass rfl rfl rfl rfl
    apply ql_pass rfl rfl rfl rfl
    apply ql_pass rfl rfl rfl rfl
    apply ql_pass rfl rfl rfl rfl
    first
      | apply ql_plain rfl (op_pick rfl rfl)
      | apply ql_plain rfl (op_and rfl rfl rfl)
    exact ql_nil
   ·rfl
   ·repeat (first | exact subx_refl | exact subx_known rfl gh4 subx_refl | refine subx_put rfl ?_)
  apply aany_seg (p := 13) (q := 14) (by kernel_rfl) rfl (by decide)
  ·
   apply ql_plain rfl (op_move rfl)
   exact ql_nil
  ·simp
  apply aany_and 14 20 81 87 (by kernel_rfl) rfl (by decide) rfl (by simp)
  ·intro h5; have gh5 := h5
   try simp only [nrm] at h5
   apply ql_ex
   ·
    apply ql_take rfl rfl rfl rfl (op_move rfl)
    first
      | apply ql_take rfl rfl rfl rfl (op_len_map Try.underlying39 rfl)
      | apply ql_take rfl rfl rfl rfl (op_len_slice Try.underlying39 rfl rfl)
      | apply ql_take rfl rfl rfl rfl (op_len_list Try.underlying39 rfl)
      | apply ql_take rfl rfl rfl rfl (op_len_v Try.underlying39 rfl)
      | apply ql_take rfl rfl rfl rfl (op_len_nil Try.underlying39 rfl)
    apply ql_take rfl rfl rfl rfl (op_move rfl)
    first
      | apply ql_take rfl rfl rfl rfl (op_len_map Try.underlying39 rfl)
      | apply ql_take rfl rfl rfl rfl (op_len_slice Try.underlying39 rfl rfl)
      | apply ql_take rfl rfl rfl rfl (op_len_list Try.underlying39 rfl)
      | apply ql_take rfl rfl rfl rfl (op_len_v Try.underlying39 rfl)
      | apply ql_take rfl rfl rfl rfl (op_len_nil Try.underlying39 rfl)
    apply ql_take rfl rfl rfl rfl (op_eql rfl rfl)
    first
      | apply ql_plain rfl (op_pick rfl rfl)
      | apply ql_plain rfl (op_and rfl rfl rfl)
    exact ql_nil
   ·rfl
   ·repeat (first | exact subx_refl | exact subx_known rfl gh5 subx_refl | refine subx_put rfl ?_)
  ·intro h5; have gh5 := h5
   try simp only [nrm] at h5
   apply ql_ex
   ·
    apply ql_pass rfl rfl rfl rfl
    apply ql_pass rfl rfl rfl rfl
    apply ql_pass rfl rfl rfl rfl
    apply ql_pass rfl rfl rfl rfl
    apply ql_pass rfl rfl rfl rfl
    first
      | apply ql_plain rfl (op_pick rfl rfl)
      | apply ql_plain rfl (op_and rfl rfl rfl)
    exact ql_nil
   ·rfl
   ·repeat (first | exact subx_refl | exact subx_known rfl gh5 subx_refl | refine subx_put rfl ?_)
  apply aany_seg (p := 20) (q := 21) (by kernel_rfl) rfl (by decide)
  ·
   apply ql_plain rfl (op_move rfl)
   exact ql_nil
  ·simp
  apply aany_and 21 29 88 96 (by kernel_rfl) rfl (by decide) rfl (by simp)
  ·intro h6; have gh6 := h6
   try simp only [nrm] at h6
   apply ql_ex
   ·
    apply ql_take rfl rfl rfl rfl (op_move rfl)
    apply ql_take rfl rfl rfl rfl (op_move rfl)
    apply ql_take rfl rfl rfl rfl (op_cut_map (f := encL) (l := 0) (h := k) Try.underlying39 info40 rfl rfl OptI.none (OptI.of rfl rfl) (by omega) (by omega))
    apply ql_take rfl rfl rfl rfl (op_move rfl)
    apply ql_take rfl rfl rfl rfl (op_move rfl)
    apply ql_take rfl rfl rfl rfl (op_cut_map (f := encL) (l := 0) (h := k) Try.underlying39 info40 rfl rfl OptI.none (OptI.of rfl rfl) (by omega) (by omega))
    first
      | apply ql_call_take into30 rfl rfl rfl rfl rfl rfl ((l_all _ _ (by assumption) (by assumption)) _)
      | apply ql_call_take into30 rfl rfl rfl rfl rfl rfl (acp_lent (lend_cons (by first | exact lend_same | exact .leaf _ _ (.vnil _) | exact .leaf _ _ (.nil _) | exact lend_whole rfl (by first | rfl | (simp; done) | (simp; omega)) (clo_map (fun _ => rfl)) | exact lend_netg (by first | exact .same _ | exact lendL_vnil | exact lendL_whole rfl (by first | rfl | (simp; done) | (simp; omega)) (clo_map (fun _ => rfl))) (by first | exact .same _ | exact lendL_vnil | exact lendL_whole rfl (by first | rfl | (simp; done) | (simp; omega)) (clo_map (fun _ => rfl))) (by first | exact .same _ | exact lendL_vnil | exact lendL_whole rfl (by first | rfl | (simp; done) | (simp; omega)) (clo_map (fun _ => rfl))) (by first | exact .same _ | exact lendL_vnil | exact lendL_whole rfl (by first | rfl | (simp; done) | (simp; omega)) (clo_map (fun _ => rfl)))) (lend_cons (by first | exact lend_same | exact .leaf _ _ (.vnil _) | exact .leaf _ _ (.nil _) | exact lend_whole rfl (by first | rfl | (simp; done) | (simp; omega)) (clo_map (fun _ => rfl)) | exact lend_netg (by first | exact .same _ | exact lendL_vnil | exact lendL_whole rfl (by first | rfl | (simp; done) | (simp; omega)) (clo_map (fun _ => rfl))) (by first | exact .same _ | exact lendL_vnil | exact lendL_whole rfl (by first | rfl | (simp; done) | (simp; omega)) (clo_map (fun _ => rfl))) (by first | exact .same _ | exact lendL_vnil | exact lendL_whole rfl (by first | rfl | (simp; done) | (simp; omega)) (clo_map (fun _ => rfl))) (by first | exact .same _ | exact lendL_vnil | exact lendL_whole rfl (by first | rfl | (simp; done) | (simp; omega)) (clo_map (fun _ => rfl)))) lend_nil)) (l_all _ _ (by assumption) (by assumption)) rfl)
    first
      | apply ql_plain rfl (op_pick rfl rfl)
      | apply ql_plain rfl (op_and rfl rfl rfl)
    exact ql_nil
   ·rfl
   ·repeat (first | exact subx_refl | exact subx_known rfl gh6 subx_refl | refine subx_put rfl ?_)
  ·intro h6; have gh6 := h6
   try simp only [nrm] at h6
   apply ql_ex
   ·
    apply ql_pass rfl rfl rfl rfl
    apply ql_pass rfl rfl rfl rfl
    apply ql_pass rfl rfl rfl rfl
    apply ql_pass rfl rfl rfl rfl
    apply ql_pass rfl rfl rfl rfl
    apply ql_pass rfl rfl rfl rfl
    apply ql_pass rfl rfl rfl rfl
    first
      | apply ql_plain rfl (op_pick rfl rfl)
      | apply ql_plain rfl (op_and rfl rfl rfl)
    exact ql_nil
   ·rfl
   ·repeat (first | exact subx_refl | exact subx_known rfl gh6 subx_refl | refine subx_put rfl ?_)
  apply aany_seg (p := 29) (q := 30) (by kernel_rfl) rfl (by decide)
  ·
   apply ql_plain rfl (op_move rfl)
   exact ql_nil
  ·simp
  apply aany_and 30 32 97 99 (by kernel_rfl) rfl (by decide) rfl (by simp)
  ·intro h7; have gh7 := h7
   try simp only [nrm] at h7
   apply ql_ex
   ·
    first
      | apply ql_call_take into13 rfl rfl rfl rfl rfl rfl ((l_awake4 ) _)
      | apply ql_call_take into13 rfl rfl rfl rfl rfl rfl (acp_lent lend_nil (l_awake4 ) rfl)
    first
      | apply ql_plain rfl (op_pick rfl rfl)
      | apply ql_plain rfl (op_and rfl rfl rfl)
    exact ql_nil
   ·rfl
   ·repeat (first | exact subx_refl | exact subx_known rfl gh7 subx_refl | refine subx_put rfl ?_)
  ·intro h7; have gh7 := h7
   try simp only [nrm] at h7
   apply ql_ex
   ·
    apply ql_pass rfl rfl rfl rfl
    first
      | apply ql_plain rfl (op_pick rfl rfl)
      | apply ql_plain rfl (op_and rfl rfl rfl)
    exact ql_nil
   ·rfl
   ·repeat (first | exact subx_refl | exact subx_known rfl gh7 subx_refl | refine subx_put rfl ?_)
  apply aany_seg (p := 32) (q := 33) (by kernel_rfl) rfl (by decide)
  ·
   apply ql_plain rfl (op_assign rfl)
   exact ql_nil
  ·simp
  refine aany_end rfl (by kernel_rfl) ?_
  refine aw_freeze (fun _ => false) (fsub_cons (t := 6) rfl (.leaf _ _ (.same _)) fsub_nil) ?_
  refine aw_ret ?_
  refine ⟨_, res_1 rfl rfl, ?_, rfl⟩
  have hec := n.early_cut (st := n.firsts) (a := (n.clocks f1 (p1 % 31) true)) (b := (n.clocks f2 (p1 % 31) true)) hk2 (by omega)
  rw [hec]
  simp [n.outsAt_length]
  omega
end Go.Proofs.Ytnnklpmgncbgnaa
