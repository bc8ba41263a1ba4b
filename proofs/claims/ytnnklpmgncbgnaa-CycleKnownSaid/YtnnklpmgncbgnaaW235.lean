/- Printed walks (gen.py, gates_ann.py): part 235. -/
import Derived.Test.YtnnklpmgncbgnaaW234
import Derived.Test.YtnnklpmgncbgnaaFacts
set_option linter.unusedVariables false
set_option linter.unusedSimpArgs false
set_option maxRecDepth 20000
set_option maxHeartbeats 40000000
namespace Go.Proofs.Ytnnklpmgncbgnaa
open Go

theorem law_CycleKnown (n : Net) (hn : n.Small) (f1 : List Int) (hf1 : OKB8 f1) (p1 p2 : Int) (hp1 : 0 ≤ p1) (hp2 : p1 ≤ 255) (hp3 : 0 ≤ p2) (hp4 : p2 ≤ 255) : ACp Try.prog 6 [encN n, .list 1 (f1.map encB), .agg [.v (.int .u8 p1), .v (.int .u8 p2)]] (.v (.bool (true))) := by
 refine acp_of rfl ?_
 have z1 := hn.insL
 have z2 := hn.regsL
 have z3 := hn.gatesL
 have z4 := hn.outsL
 refine ac_enter 173 Try.func6 rfl rfl (by simp) ?_
 refine aw_seq ?_
 refine aw_region ?_
 (refine al_opR (op_box 3 rfl rfl (by first | rfl | exact live_one rfl | (repeat (first | exact all_live_nil | refine all_live_clo rfl ?_ | refine all_live_slice rfl ?_ | refine all_live_map rfl ?_ | refine all_live_ptr rfl ?_)))) rfl (by simp) ?_; rintro _ _ ⟨ver3, rfl, rfl⟩)
 (refine al_opR (op_box 5 rfl rfl (by first | rfl | exact live_one rfl | (repeat (first | exact all_live_nil | refine all_live_clo rfl ?_ | refine all_live_slice rfl ?_ | refine all_live_map rfl ?_ | refine all_live_ptr rfl ?_)))) rfl (by simp) ?_; rintro _ _ ⟨ver5, rfl, rfl⟩)
 refine al_op (op_assign rfl) rfl (by simp) ?_
 refine al_nil ?_
 refine aw_seq ?_
 refine aw_seq ?_
 refine aw_region ?_
 first
   | refine al_op (op_load_rptr Try.underlying27 info27 rfl rfl) rfl (by simp) ?_
   | refine al_op (op_load_map Try.underlying27 info27 rfl rfl (by omega) rfl) rfl (by simp) ?_
   | refine al_op (op_load_ptr Try.underlying27 info27 rfl rfl rfl rfl) rfl (by simp) ?_
 refine al_callp into12 rfl rfl rfl (ac_told (re_cons (.leaf _ _ (.same _)) (re_cons (.leaf _ _ (.vnil 1)) re_nil)) (l_few n hn [] ins_nil _)) (by simp) ?_
 refine al_op (op_not rfl) rfl (by simp) ?_
 refine al_op (op_move rfl) rfl (by simp) ?_
 apply al_or 4 25 29 rfl
 ·intro h1; have gh1 := h1
  try simp only [nrm] at h1
  first
    | refine al_take (op_load_rptr Try.underlying27 info27 rfl rfl) rfl rfl rfl rfl (by simp) ?_
    | refine al_take (op_load_map Try.underlying27 info27 rfl rfl (by omega) rfl) rfl rfl rfl rfl (by simp) ?_
    | refine al_take (op_load_ptr Try.underlying27 info27 rfl rfl rfl rfl) rfl rfl rfl rfl (by simp) ?_
  first
    | refine al_callp_take into16 rfl rfl rfl rfl rfl rfl ((r_Valid _ (by assumption)) _) (by simp) ?_
    | refine al_callp_take into16 rfl rfl rfl rfl rfl rfl (acp_lent (lend_cons (by first | exact lend_same | exact .leaf _ _ (.vnil _) | exact .leaf _ _ (.nil _) | exact lend_whole rfl (by first | rfl | (simp; done) | (simp; omega)) (clo_map (fun _ => rfl)) | exact lend_netg (by first | exact .same _ | exact lendL_vnil | exact lendL_whole rfl (by first | rfl | (simp; done) | (simp; omega)) (clo_map (fun _ => rfl))) (by first | exact .same _ | exact lendL_vnil | exact lendL_whole rfl (by first | rfl | (simp; done) | (simp; omega)) (clo_map (fun _ => rfl))) (by first | exact .same _ | exact lendL_vnil | exact lendL_whole rfl (by first | rfl | (simp; done) | (simp; omega)) (clo_map (fun _ => rfl))) (by first | exact .same _ | exact lendL_vnil | exact lendL_whole rfl (by first | rfl | (simp; done) | (simp; omega)) (clo_map (fun _ => rfl)))) lend_nil) (r_Valid _ (by assumption)) rfl) (by simp) ?_
  refine al_take (op_not rfl) rfl rfl rfl rfl (by simp) ?_
  first
    | refine al_op (op_pick rfl rfl) rfl (by simp) ?_
    | refine al_op (op_or rfl rfl rfl) rfl (by simp) ?_
  refine al_nil ⟨rfl, rfl, rfl, keep_of ?_⟩
  repeat (first | exact subx_refl | exact subx_known rfl gh1 subx_refl | refine subx_put rfl ?_)
 ·intro h1; have gh1 := h1
  try simp only [nrm] at h1
  refine al_pass rfl rfl rfl rfl (by simp) ?_
  refine al_pass rfl rfl rfl rfl (by simp) ?_
  refine al_pass rfl rfl rfl rfl (by simp) ?_
  first
    | refine al_op (op_pick rfl rfl) rfl (by simp) ?_
    | refine al_op (op_or rfl rfl rfl) rfl (by simp) ?_
  refine al_nil ⟨rfl, rfl, rfl, keep_of ?_⟩
  repeat (first | exact subx_refl | exact subx_known rfl gh1 subx_refl | refine subx_put rfl ?_)
 refine al_nil ?_
 refine aw_cond rfl (fun h2 => ?_) (fun h2 => ?_)
 ·have gh2 := h2
  try simp only [nrm] at h2
  refine aw_seq ?_
  refine aw_region ?_
  first
    | refine al_callp into13 rfl rfl rfl ((l_awake4 ) _) (by simp) ?_
    | refine al_callp into13 rfl rfl rfl (acp_lent lend_nil (l_awake4 ) rfl) (by simp) ?_
  refine al_op (op_assign rfl) rfl (by simp) ?_
  refine al_nil ?_
  refine aw_freeze (fun _ => false) (fsub_cons (t := 6) rfl (.leaf _ _ (.same _)) fsub_nil) ?_
  refine aw_ret ?_
  refine ⟨_, res_1 rfl rfl, ?_, rfl⟩
  rfl
 ·have gh2 := h2
  try simp only [nrm] at h2
  refine aw_skip ?_
  refine aw_seq ?_
  obtain ⟨hfw, hv⟩ : n.few [] = true ∧ n.valid = true := by simpa using gh2
  obtain ⟨hfw1, hfw2⟩ := Net.few_facts hfw
  have hfo := Net.firsts_ok hn hv
  have hfb := Net.firsts_bytes hn
  refine aw_any (Checked.mixed Try.checked) ?_
  apply aany_seg (p := 0) (q := 12) (by kernel_rfl) rfl (by decide)
  ·
   first
     | apply ql_plain rfl (op_load_rptr Try.underlying27 info27 rfl rfl)
     | apply ql_plain rfl (op_load_map Try.underlying27 info27 rfl rfl (by omega) rfl)
     | apply ql_plain rfl (op_load_ptr Try.underlying27 info27 rfl rfl rfl rfl)
   apply ql_plain rfl (op_move rfl)
   first
     | apply ql_plain rfl (op_index_arptr Try.underlying37 info5 rfl rfl rfl (by decide) (by decide))
     | apply ql_plain rfl (op_index_aptr Try.underlying37 info5 rfl rfl rfl rfl (by decide) (by decide))
   first
     | apply ql_plain rfl (op_load_rptr Try.underlying5 info5 rfl rfl)
     | apply ql_plain rfl (op_load_map Try.underlying5 info5 rfl rfl (by omega) rfl)
     | apply ql_plain rfl (op_load_ptr Try.underlying5 info5 rfl rfl rfl rfl)
   apply ql_plain rfl (op_conv Try.underlying5 Try.underlying3 rfl (wrap_i64 (by omega) (by omega)))
   first
     | apply ql_plain rfl (op_rem rfl rfl (by omega) (rem_nn (by omega)))
     | apply ql_plain rfl (op_rem rfl rfl (by omega) rfl)
   first
     | apply ql_call into27 rfl rfl rfl ((l_clocks _ (by assumption) (by omega) _ (by assumption) _ _ (by omega) (by omega)) _)
     | apply ql_call into27 rfl rfl rfl (ac_told (re_cons (by first | exact .leaf _ _ (.same _) | exact .leaf _ _ (.vnil _) | exact .leaf _ _ (.nil _)) (re_cons (by first | exact .leaf _ _ (.same _) | exact .leaf _ _ (.vnil _) | exact .leaf _ _ (.nil _)) (re_cons (by first | exact .leaf _ _ (.same _) | exact .leaf _ _ (.vnil _) | exact .leaf _ _ (.nil _)) (re_cons (by first | exact .leaf _ _ (.same _) | exact .leaf _ _ (.vnil _) | exact .leaf _ _ (.nil _)) re_nil)))) ((l_clocks _ (by assumption) (by omega) _ (by assumption) _ _ (by omega) (by omega)) _))
   first
     | apply ql_plain rfl (op_index_arptr Try.underlying37 info5 rfl rfl rfl (by decide) (by decide))
     | apply ql_plain rfl (op_index_aptr Try.underlying37 info5 rfl rfl rfl rfl (by decide) (by decide))
   first
     | apply ql_plain rfl (op_load_rptr Try.underlying5 info5 rfl rfl)
     | apply ql_plain rfl (op_load_map Try.underlying5 info5 rfl rfl (by omega) rfl)
     | apply ql_plain rfl (op_load_ptr Try.underlying5 info5 rfl rfl rfl rfl)
   apply ql_plain rfl (op_conv Try.underlying5 Try.underlying3 rfl (wrap_i64 (by omega) (by omega)))
   apply ql_plain rfl (op_assign rfl)
   apply ql_plain rfl (op_assign rfl)
   exact ql_nil
  ·simp
  refine aany_end rfl (by kernel_rfl) ?_
  refine aw_seq ?_
  refine aw_freeze (fun i => Nat.beq i 3) fsub_same ?_
  refine aw_st (σ2 := ([(3, ver3, .row 4 [[.list 1 (n.ins.map encS), .list 3 (n.regs.map encR), .list 2 (n.gates.map encG), .list 2 (n.outs.map encP)]])] : Store)) rfl ?_
  have hla : (n.clocks f1 (p1 % 31) true).length = (p1 % 31).toNat := n.clocks_length _ _ _
  have fa := n.clocks_fits f1 (p1 % 31) true
  have iA := fa.ins hn (by omega)
  have rA := Net.run_fits hv hfo fa (by omega)
  have sN := Net.lessN_small hn p2
  have vN := Net.lessN_valid hn hv p2
  have fN : (n.lessN p2).Fits (lessA (n.clocks f1 (p1 % 31) true) p2) := Net.lessA_fits fa p2
  have hlb : (lessA (n.clocks f1 (p1 % 31) true) p2).length = (n.clocks f1 (p1 % 31) true).length := lessATo_length _ _ _
  have iN := fN.ins sN (by omega)
  have rN := Net.run_fits vN (Net.firsts_ok sN vN) fN (by omega)
  rw [hlb] at rN
  refine aw_region ?_
  first
    | refine al_op (op_load_rptr Try.underlying27 info27 rfl rfl) rfl (by simp) ?_
    | refine al_op (op_load_map Try.underlying27 info27 rfl rfl (by omega) rfl) rfl (by simp) ?_
    | refine al_op (op_load_ptr Try.underlying27 info27 rfl rfl rfl rfl) rfl (by simp) ?_
  (refine al_call into28 rfl rfl rfl (own_all 71 72 73 74 n (by omega) (by omega) (by omega) (by omega) rfl rfl rfl) (by simp) ?_; rintro _ _ ⟨vi, vr0, vg0, vo, rfl, rfl⟩)
  refine al_st (σ2 := ([(3, ver3, .row 4 [[.list 1 (n.ins.map encS), .list 3 (n.regs.map encR), .list 2 (n.gates.map encG), .list 2 (n.outs.map encP)]]), (74, vo, .row 2 (n.outs.map encP)), (73, vg0, .row 2 (n.gates.map encG)), (72, vr0, .row 3 (n.regs.map encR)), (71, vi, .row 1 (n.ins.map encS))] : Store)) rfl ?_
  (refine al_opR (op_alloc 9 info27 rfl rfl) rfl (by simp) ?_; rintro _ _ ⟨ver9, rfl, rfl⟩)
  first
    | refine al_op (op_store_ptr info27 rfl rfl rfl rfl rfl rfl (by first | rfl | exact live_one rfl | (repeat (first | exact all_live_nil | refine all_live_clo rfl ?_ | refine all_live_slice rfl ?_ | refine all_live_map rfl ?_ | refine all_live_ptr rfl ?_))) (by decide)) rfl (by simp) ?_
    | refine al_op (op_store_ptr info27 rfl rfl rfl rfl rfl rfl (by first | rfl | exact live_one rfl | (repeat (first | exact all_live_nil | refine all_live_clo rfl ?_ | refine all_live_slice rfl ?_ | refine all_live_map rfl ?_ | refine all_live_ptr rfl ?_))) (Nat.le_of_ble_eq_true rfl)) rfl (by simp) ?_
  refine al_nil ?_
  refine aw_seq ?_
  refine aw_seq ?_
  refine aw_st (σ2 := ([(3, ver3, .row 4 [[.list 1 (n.ins.map encS), .list 3 (n.regs.map encR), .list 2 (n.gates.map encG), .list 2 (n.outs.map encP)]]), (74, vo, .row 2 (n.outs.map encP)), (73, vg0, .row 2 (n.gates.map encG)), (72, vr0, .row 3 (n.regs.map encR)), (71, vi, .row 1 (n.ins.map encS)), (9, ver9, .row 4 [[.slice 71 vi 0 n.ins.length, .slice 72 vr0 0 n.regs.length, .slice 73 vg0 0 n.gates.length, .slice 74 vo 0 n.outs.length]])] : Store)) rfl ?_
  refine aw_region ?_
  first
    | refine al_op (op_field_rptr Try.underlying27 rfl info23 (by decide) rfl rfl) rfl (by simp) ?_
    | refine al_op (op_field_ptr Try.underlying27 rfl info23 (by decide) rfl rfl rfl) rfl (by simp) ?_
  first
    | refine al_op (op_load_rptr Try.underlying23 info23 rfl rfl) rfl (by simp) ?_
    | refine al_op (op_load_map Try.underlying23 info23 rfl rfl (by omega) rfl) rfl (by simp) ?_
    | refine al_op (op_load_ptr Try.underlying23 info23 rfl rfl rfl rfl) rfl (by simp) ?_
  first
    | refine al_op (op_len_map Try.underlying23 rfl) rfl (by simp) ?_
    | refine al_op (op_len_slice Try.underlying23 rfl rfl) rfl (by simp) ?_
    | refine al_op (op_len_list Try.underlying23 rfl) rfl (by simp) ?_
    | refine al_op (op_len_v Try.underlying23 rfl) rfl (by simp) ?_
    | refine al_op (op_len_nil Try.underlying23 rfl) rfl (by simp) ?_
  refine al_op (op_move rfl) rfl (by simp) ?_
  refine al_nil ?_
  refine aw_block ?_
  apply aw_only
  ·
   (first | apply sub_cons (t := 3) rfl | skip)
   (first | apply sub_cons (t := 6) rfl | skip)
   (first | apply sub_cons (t := 7) rfl | skip)
   (first | apply sub_cons (t := 8) rfl | skip)
   (first | apply sub_cons (t := 9) rfl | skip)
   (first | apply sub_cons (t := 45) rfl | skip)
   (first | apply sub_cons (t := 46) rfl | skip)
   exact sub_nil
  refine aw_forT (ι := Nat) [46] [] (fun i => n.regs.length - i) (fun i => i ≤ n.regs.length) (fun i => ([(46, .v (.int .i64 (i)))] : Env)) (fun i st => ([(3, ver3, .row 4 [[.list 1 (n.ins.map encS), .list 3 (n.regs.map encR), .list 2 (n.gates.map encG), .list 2 (n.outs.map encP)]]), (74, vo, .row 2 (n.outs.map encP)), (73, vg0, .row 2 (n.gates.map encG)), (72, vr0, .row 3 ((mixTo (n.lessRegs p2) n.regs i).map encR)), (71, vi, .row 1 (n.ins.map encS)), (9, ver9, .row 4 [[.slice 71 vi 0 n.ins.length, .slice 72 vr0 0 n.regs.length, .slice 73 vg0 0 n.gates.length, .slice 74 vo 0 n.outs.length]])] : Store)) (0) ?_ ?_ ?_ (fun i hinv => ?_)
  ·exact Nat.zero_le _
  ·refine sub_cons (get_as rfl ?_) ?_; rotate_left; exact sub_nil
   all_goals (first | rfl | simp)
  ·(rw [mixTo_zero] <;> rfl)
  refine aw_seq ?_
  refine aw_region ?_
  refine al_op (op_lss rfl rfl) rfl (by simp) ?_
  refine al_nil ?_
  refine aw_seq ?_
  refine aw_cond rfl (fun h3 => ?_) (fun h3 => ?_)
  ·have gh3 := h3
   try simp only [nrm] at h3
   refine aw_skip ?_
   refine aw_seq ?_
   refine aw_block ?_
   refine aw_seq ?_
   refine aw_region ?_
   refine al_op (op_move rfl) rfl (by simp) ?_
   refine al_op (op_assign rfl) rfl (by simp) ?_
   refine al_nil ?_
   have hbr := hn.bytes _ (getD_mem (v := n.regs) (i := i) (by omega))
   have hmg := n.less_get p2 i (by omega)
   rw [← hmg] at hbr
   have hml : (mixTo (n.lessRegs p2) n.regs i).length = n.regs.length := mixTo_length (n.lessRegs_length p2) i
   refine aw_plan [0, 1, 2, 3, 4, 5, 6, 7, 8, 9, 10, 11, 12, 13, 14, 15] (Checked.mixed Try.checked) (by kernel_rfl) ?_
   first
     | refine afl_float rfl rfl (opk_of (op_field_rptr Try.underlying27 rfl info23 (by decide) rfl rfl)) (by simp) ?_
     | refine afl_float rfl rfl (opk_of (op_field_ptr Try.underlying27 rfl info23 (by decide) rfl rfl rfl)) (by simp) ?_
   first
     | refine afl_float rfl rfl (opk_of (op_load_rptr Try.underlying23 info23 rfl rfl)) (by simp) ?_
     | refine afl_float rfl rfl (opk_of (op_load_map Try.underlying23 info23 rfl rfl (by omega) rfl)) (by simp) ?_
     | refine afl_float rfl rfl (opk_of (op_load_ptr Try.underlying23 info23 rfl rfl rfl rfl)) (by simp) ?_
   refine afl_float rfl rfl (opk_of (op_move rfl)) (by simp) ?_
   first
     | refine afl_float rfl rfl (opk_of (op_field_rptr Try.underlying27 rfl info23 (by decide) rfl rfl)) (by simp) ?_
     | refine afl_float rfl rfl (opk_of (op_field_ptr Try.underlying27 rfl info23 (by decide) rfl rfl rfl)) (by simp) ?_
   first
     | refine afl_float rfl rfl (opk_of (op_load_rptr Try.underlying23 info23 rfl rfl)) (by simp) ?_
     | refine afl_float rfl rfl (opk_of (op_load_map Try.underlying23 info23 rfl rfl (by omega) rfl)) (by simp) ?_
     | refine afl_float rfl rfl (opk_of (op_load_ptr Try.underlying23 info23 rfl rfl rfl rfl)) (by simp) ?_
   refine afl_float rfl rfl (opk_of (op_move rfl)) (by simp) ?_
   first
     | refine afl_float rfl rfl (opk_of (op_index_map default Try.underlying23 info62 rfl rfl rfl (by first | (with_reducible exact Int.toNat_natCast _) | rfl) (by omega) (by omega))) (by simp) ?_
     | refine afl_float rfl rfl (opk_of (op_index_slice Try.underlying23 info62 rfl rfl rfl rfl (by omega) (by omega))) (by simp) ?_
     | refine afl_float rfl rfl (opk_of (op_index_list Try.underlying23 info62 rfl rfl rfl (by decide) rfl)) (by simp) ?_
   first
     | refine afl_float rfl rfl (opk_of (op_field_rptr Try.underlying62 rfl info41 (by decide) rfl rfl)) (by simp) ?_
     | refine afl_float rfl rfl (opk_of (op_field_ptr Try.underlying62 rfl info41 (by decide) rfl rfl rfl)) (by simp) ?_
   first
     | refine afl_float rfl rfl (opk_of (op_load_rptr Try.underlying41 info41 rfl rfl)) (by simp) ?_
     | refine afl_float rfl rfl (opk_of (op_load_map Try.underlying41 info41 rfl rfl (by omega) rfl)) (by simp) ?_
     | refine afl_float rfl rfl (opk_of (op_load_ptr Try.underlying41 info41 rfl rfl rfl rfl)) (by simp) ?_
   refine afl_float rfl rfl (opk_of (op_move rfl)) (by simp) ?_
   refine afl_float rfl rfl (opk_of (op_move rfl)) (by simp) ?_
   refine afl_float rfl rfl (opk_of (op_add rfl rfl (by first | exact wrap_i64 (by omega) (by omega)))) (by simp) ?_
   first
     | refine afl_float rfl rfl (opk_call into29 rfl rfl rfl ((l_less _ _ (by omega) (by omega) (by omega)) _)) (by simp) ?_
     | refine afl_float rfl rfl (opk_call into29 rfl rfl rfl (acp_lent (lend_cons (by first | exact lend_same | exact .leaf _ _ (.vnil _) | exact .leaf _ _ (.nil _) | exact lend_whole rfl (by first | rfl | (simp; done) | (simp; omega)) (clo_map (fun _ => rfl)) | exact lend_netg (by first | exact .same _ | exact lendL_vnil | exact lendL_whole rfl (by first | rfl | (simp; done) | (simp; omega)) (clo_map (fun _ => rfl))) (by first | exact .same _ | exact lendL_vnil | exact lendL_whole rfl (by first | rfl | (simp; done) | (simp; omega)) (clo_map (fun _ => rfl))) (by first | exact .same _ | exact lendL_vnil | exact lendL_whole rfl (by first | rfl | (simp; done) | (simp; omega)) (clo_map (fun _ => rfl))) (by first | exact .same _ | exact lendL_vnil | exact lendL_whole rfl (by first | rfl | (simp; done) | (simp; omega)) (clo_map (fun _ => rfl)))) (lend_cons (by first | exact lend_same | exact .leaf _ _ (.vnil _) | exact .leaf _ _ (.nil _) | exact lend_whole rfl (by first | rfl | (simp; done) | (simp; omega)) (clo_map (fun _ => rfl)) | exact lend_netg (by first | exact .same _ | exact lendL_vnil | exact lendL_whole rfl (by first | rfl | (simp; done) | (simp; omega)) (clo_map (fun _ => rfl))) (by first | exact .same _ | exact lendL_vnil | exact lendL_whole rfl (by first | rfl | (simp; done) | (simp; omega)) (clo_map (fun _ => rfl))) (by first | exact .same _ | exact lendL_vnil | exact lendL_whole rfl (by first | rfl | (simp; done) | (simp; omega)) (clo_map (fun _ => rfl))) (by first | exact .same _ | exact lendL_vnil | exact lendL_whole rfl (by first | rfl | (simp; done) | (simp; omega)) (clo_map (fun _ => rfl)))) lend_nil)) (l_less _ _ (by omega) (by omega) (by omega)) rfl)) (by simp) ?_
   first
     | refine afl_float rfl rfl (opk_of (op_index_map default Try.underlying23 info62 rfl rfl rfl (by first | (with_reducible exact Int.toNat_natCast _) | rfl) (by omega) (by omega))) (by simp) ?_
     | refine afl_float rfl rfl (opk_of (op_index_slice Try.underlying23 info62 rfl rfl rfl rfl (by omega) (by omega))) (by simp) ?_
     | refine afl_float rfl rfl (opk_of (op_index_list Try.underlying23 info62 rfl rfl rfl (by decide) rfl)) (by simp) ?_
   first
     | refine afl_float rfl rfl (opk_of (op_field_rptr Try.underlying62 rfl info41 (by decide) rfl rfl)) (by simp) ?_
     | refine afl_float rfl rfl (opk_of (op_field_ptr Try.underlying62 rfl info41 (by decide) rfl rfl rfl)) (by simp) ?_
   (refine afl_eff rfl rfl (by kernel_rfl) (op_store_map (((mixTo (n.lessRegs p2) n.regs i).getD (0 + (i : Int).toNat) default).1, lessV ((mixTo (n.lessRegs p2) n.regs i).getD (0 + (i : Int).toNat) default).2.1 ((i : Int) + p2), ((mixTo (n.lessRegs p2) n.regs i).getD (0 + (i : Int).toNat) default).2.2) info41 rfl rfl rfl (by omega) rfl rfl rfl (Nat.le_of_ble_eq_true rfl) rfl) (by simp) ?_ ?_)
   ·
    refine loose_anc 14 rfl (by kernel_rfl) ?_
    refine loose_anc 13 rfl (by kernel_rfl) ?_
    refine loose_anc 12 rfl (by kernel_rfl) ?_
    refine loose_anc 11 rfl (by kernel_rfl) ?_
    refine loose_anc 10 rfl (by kernel_rfl) ?_
    refine loose_anc 9 rfl (by kernel_rfl) ?_
    refine loose_anc 8 rfl (by kernel_rfl) ?_
    refine loose_anc 7 rfl (by kernel_rfl) ?_
    refine loose_anc 6 rfl (by kernel_rfl) ?_
    refine loose_anc 5 rfl (by kernel_rfl) ?_
    refine loose_anc 4 rfl (by kernel_rfl) ?_
    refine loose_anc 3 rfl (by kernel_rfl) ?_
    refine loose_anc 2 rfl (by kernel_rfl) ?_
    refine loose_anc 1 rfl (by kernel_rfl) ?_
    refine loose_anc 0 rfl (by kernel_rfl) ?_
    exact loose_nil
   refine afl_end ?_
   refine aw_region ?_
   refine al_op (op_add rfl rfl (by first | exact wrap_i64 (by omega) (by omega))) rfl (by simp) ?_
   refine al_op (op_move rfl) rfl (by simp) ?_
   refine al_nil ?_
   refine ⟨i + 1, ?_, ?_, ?_, ?_, ?_⟩
   ·omega
   ·omega
   ·refine sub_cons (get_as rfl ?_) ?_; rotate_left; exact sub_nil
    all_goals (first | rfl | simp)
   ·repeat (first | exact subx_refl | exact subx_del | refine subx_put rfl ?_)
   ·(rw [n.less_next p2 i (by omega)] <;> rfl)
  ·have gh3 := h3
   try simp only [nrm] at h3
   refine aw_exit ?_
   obtain rfl : i = n.regs.length := by omega
   refine aw_st (σ2 := ([(3, ver3, .row 4 [[.list 1 (n.ins.map encS), .list 3 (n.regs.map encR), .list 2 (n.gates.map encG), .list 2 (n.outs.map encP)]]), (74, vo, .row 2 (n.outs.map encP)), (73, vg0, .row 2 (n.gates.map encG)), (72, vr0, .row 3 ((n.lessRegs p2).map encR)), (71, vi, .row 1 (n.ins.map encS)), (9, ver9, .row 4 [[.slice 71 vi 0 n.ins.length, .slice 72 vr0 0 n.regs.length, .slice 73 vg0 0 n.gates.length, .slice 74 vo 0 n.outs.length]])] : Store)) (by rw [n.less_all] <;> rfl) ?_
   refine aw_seq ?_
   refine aw_region ?_
   refine al_op (op_assign rfl) rfl (by simp) ?_
   refine al_nil ?_
   refine aw_seq ?_
   refine aw_seq ?_
   refine aw_region ?_
   refine al_op (op_move rfl) rfl (by simp) ?_
   first
     | refine al_op (op_len_map Try.underlying39 rfl) rfl (by simp) ?_
     | refine al_op (op_len_slice Try.underlying39 rfl rfl) rfl (by simp) ?_
     | refine al_op (op_len_list Try.underlying39 rfl) rfl (by simp) ?_
     | refine al_op (op_len_v Try.underlying39 rfl) rfl (by simp) ?_
     | refine al_op (op_len_nil Try.underlying39 rfl) rfl (by simp) ?_
   refine al_op (op_move rfl) rfl (by simp) ?_
   refine al_nil ?_
   refine aw_block ?_
   apply aw_only
   ·
    (first | apply sub_cons (t := 3) rfl | skip)
    (first | apply sub_cons (t := 6) rfl | skip)
    (first | apply sub_cons (t := 7) rfl | skip)
    (first | apply sub_cons (t := 8) rfl | skip)
    (first | apply sub_cons (t := 9) rfl | skip)
    (first | apply sub_cons (t := 11) rfl | skip)
    (first | apply sub_cons (t := 65) rfl | skip)
    (first | apply sub_cons (t := 66) rfl | skip)
    (first | apply sub_cons (t := 67) rfl | skip)
    exact sub_nil
   refine aw_own_map encL 11 1 11 rfl rfl (fun ver11 => ?_)
   refine aw_for2T (α := Nat) (β := Nat) [11, 67] [] (fun i ver => (n.clocks f1 (p1 % 31) true).length - i) (fun i ver => i ≤ (n.clocks f1 (p1 % 31) true).length) (fun i ver => ([(11, .slice 11 ver 0 (lessATo (n.clocks f1 (p1 % 31) true) p2 i).length), (67, .v (.int .i64 (i)))] : Env)) (fun i ver s => s.put 11 ver (.row 1 ((lessATo (n.clocks f1 (p1 % 31) true) p2 i).map encL))) (0) (ver11) ?_ ?_ ?_ (fun i ver hinv => ?_)
   ·exact Nat.zero_le _
   ·refine sub_cons (get_as rfl ?_) ?_; rotate_left; refine sub_cons (get_as rfl ?_) ?_; rotate_left; exact sub_nil
    all_goals (first | rfl | (simp; done) | (rw [lessATo_succ] <;> rfl))
   ·rfl
   have hlen := lessATo_length (n.clocks f1 (p1 % 31) true) p2 i
   refine aw_seq ?_
   refine aw_region ?_
   refine al_op (op_lss rfl rfl) rfl (by simp) ?_
   refine al_nil ?_
   refine aw_seq ?_
   refine aw_cond rfl (fun h4 => ?_) (fun h4 => ?_)
   ·have gh4 := h4
    try simp only [nrm] at h4
    refine aw_skip ?_
    refine aw_seq ?_
    refine aw_block ?_
    refine aw_seq ?_
    refine aw_region ?_
    refine al_op (op_move rfl) rfl (by simp) ?_
    first
      | refine al_op (op_index_map default Try.underlying39 info40 rfl rfl rfl (by first | (with_reducible exact Int.toNat_natCast _) | rfl) (by omega) (by omega)) rfl (by simp) ?_
      | refine al_op (op_index_slice Try.underlying39 info40 rfl rfl rfl rfl (by omega) (by omega)) rfl (by simp) ?_
      | refine al_op (op_index_list Try.underlying39 info40 rfl rfl rfl (by decide) rfl) rfl (by simp) ?_
    first
      | refine al_op (op_load_rptr Try.underlying40 info40 rfl rfl) rfl (by simp) ?_
      | refine al_op (op_load_map Try.underlying40 info40 rfl rfl (by omega) rfl) rfl (by simp) ?_
      | refine al_op (op_load_ptr Try.underlying40 info40 rfl rfl rfl rfl) rfl (by simp) ?_
    refine al_op (op_assign rfl) rfl (by simp) ?_
    refine al_op (op_assign rfl) rfl (by simp) ?_
    refine al_nil ?_
    refine aw_seq ?_
    refine aw_region ?_
    refine al_op (op_assign rfl) rfl (by simp) ?_
    refine al_nil ?_
    refine aw_seq ?_
    refine aw_seq ?_
    have hll := (iA.at i).len
    refine aw_region ?_
    refine al_op (op_move rfl) rfl (by simp) ?_
    first
      | refine al_op (op_len_map Try.underlying40 rfl) rfl (by simp) ?_
      | refine al_op (op_len_slice Try.underlying40 rfl rfl) rfl (by simp) ?_
      | refine al_op (op_len_list Try.underlying40 rfl) rfl (by simp) ?_
      | refine al_op (op_len_v Try.underlying40 rfl) rfl (by simp) ?_
      | refine al_op (op_len_nil Try.underlying40 rfl) rfl (by simp) ?_
    refine al_op (op_move rfl) rfl (by simp) ?_
    refine al_nil ?_
    refine aw_block ?_
    refine aw_own_map encB 14 1 14 rfl rfl (fun ver14 => ?_)
    refine aw_for2T (α := Nat) (β := Nat) [14, 15, 74, 75, 76, 77, 78, 79, 80, 81, 82, 83, 84, 85, 86, 87, 88, 89, 90] [] (fun j vj => ((n.clocks f1 (p1 % 31) true).getD i default).length - j) (fun j vj => j ≤ ((n.clocks f1 (p1 % 31) true).getD i default).length) (fun j vj => ([(14, .slice 14 vj 0 (lessCTo ((n.clocks f1 (p1 % 31) true).getD i default) i p2 j).length), (74, .v (.int .i64 (j)))] : Env)) (fun j vj st => st.put 14 vj (.row 1 ((lessCTo ((n.clocks f1 (p1 % 31) true).getD i default) i p2 j).map encB))) (0) (ver14) ?_ ?_ ?_ (fun j vj hinv => ?_)
    ·exact Nat.zero_le _
    ·refine sub_cons (get_as rfl ?_) ?_; rotate_left; refine sub_cons (get_as rfl ?_) ?_; rotate_left; exact sub_nil
     all_goals (first | rfl | (simp; done) | (rw [lessCTo_succ] <;> rfl))
    ·rfl
    have hlen2 := lessCTo_length ((n.clocks f1 (p1 % 31) true).getD i default) i p2 j
    refine aw_seq ?_
    refine aw_region ?_
    refine al_op (op_lss rfl rfl) rfl (by simp) ?_
    refine al_nil ?_
    refine aw_seq ?_
    refine aw_cond rfl (fun h5 => ?_) (fun h5 => ?_)
    ·have gh5 := h5
     try simp only [nrm] at h5
     refine aw_skip ?_
     refine aw_seq ?_
     refine aw_block ?_
     refine aw_seq ?_
     refine aw_region ?_
     refine al_op (op_move rfl) rfl (by simp) ?_
     refine al_op (op_assign rfl) rfl (by simp) ?_
     refine al_nil ?_
     have hlb2 := (iA.at i).rng _ (getD_mem (v := ((n.clocks f1 (p1 % 31) true).getD i default)) (i := j) (by omega))
     refine aw_region ?_
     refine al_op (op_move rfl) rfl (by simp) ?_
     refine al_op (op_move rfl) rfl (by simp) ?_
     refine al_op (op_move rfl) rfl (by simp) ?_
     first
       | refine al_op (op_index_map default Try.underlying40 info41 rfl rfl rfl (by first | (with_reducible exact Int.toNat_natCast _) | rfl) (by omega) (by omega)) rfl (by simp) ?_
       | refine al_op (op_index_slice Try.underlying40 info41 rfl rfl rfl rfl (by omega) (by omega)) rfl (by simp) ?_
       | refine al_op (op_index_list Try.underlying40 info41 rfl rfl rfl (by decide) rfl) rfl (by simp) ?_
     first
       | refine al_op (op_load_rptr Try.underlying41 info41 rfl rfl) rfl (by simp) ?_
       | refine al_op (op_load_map Try.underlying41 info41 rfl rfl (by omega) rfl) rfl (by simp) ?_
       | refine al_op (op_load_ptr Try.underlying41 info41 rfl rfl rfl rfl) rfl (by simp) ?_
     refine al_op (op_move rfl) rfl (by simp) ?_
     refine al_op (op_move rfl) rfl (by simp) ?_
     refine al_op (op_add rfl rfl (by first | exact wrap_i64 (by omega) (by omega))) rfl (by simp) ?_
     refine al_op (op_move rfl) rfl (by simp) ?_
     refine al_op (op_add rfl rfl (by first | exact wrap_i64 (by omega) (by omega))) rfl (by simp) ?_
     first
       | refine al_callp into29 rfl rfl rfl ((l_less _ _ (by omega) (by omega) (by omega)) _) (by simp) ?_
       | refine al_callp into29 rfl rfl rfl (acp_lent (lend_cons (by first | exact lend_same | exact .leaf _ _ (.vnil _) | exact .leaf _ _ (.nil _) | exact lend_whole rfl (by first | rfl | (simp; done) | (simp; omega)) (clo_map (fun _ => rfl)) | exact lend_netg (by first | exact .same _ | exact lendL_vnil | exact lendL_whole rfl (by first | rfl | (simp; done) | (simp; omega)) (clo_map (fun _ => rfl))) (by first | exact .same _ | exact lendL_vnil | exact lendL_whole rfl (by first | rfl | (simp; done) | (simp; omega)) (clo_map (fun _ => rfl))) (by first | exact .same _ | exact lendL_vnil | exact lendL_whole rfl (by first | rfl | (simp; done) | (simp; omega)) (clo_map (fun _ => rfl))) (by first | exact .same _ | exact lendL_vnil | exact lendL_whole rfl (by first | rfl | (simp; done) | (simp; omega)) (clo_map (fun _ => rfl)))) (lend_cons (by first | exact lend_same | exact .leaf _ _ (.vnil _) | exact .leaf _ _ (.nil _) | exact lend_whole rfl (by first | rfl | (simp; done) | (simp; omega)) (clo_map (fun _ => rfl)) | exact lend_netg (by first | exact .same _ | exact lendL_vnil | exact lendL_whole rfl (by first | rfl | (simp; done) | (simp; omega)) (clo_map (fun _ => rfl))) (by first | exact .same _ | exact lendL_vnil | exact lendL_whole rfl (by first | rfl | (simp; done) | (simp; omega)) (clo_map (fun _ => rfl))) (by first | exact .same _ | exact lendL_vnil | exact lendL_whole rfl (by first | rfl | (simp; done) | (simp; omega)) (clo_map (fun _ => rfl))) (by first | exact .same _ | exact lendL_vnil | exact lendL_whole rfl (by first | rfl | (simp; done) | (simp; omega)) (clo_map (fun _ => rfl)))) lend_nil)) (l_less _ _ (by omega) (by omega) (by omega)) rfl) (by simp) ?_
     refine al_op (op_buildSlice Try.underlying40 info41 rfl rfl (by decide) rfl (by decide) rfl (by first | rfl | (repeat (first | exact parts_nil | refine parts_cons rfl (by repeat (first | exact all_live_nil | refine all_live_clo rfl ?_ | refine all_live_slice rfl ?_ | refine all_live_map rfl ?_ | refine all_live_ptr rfl ?_)) ?_))) rfl rfl rfl) rfl (by simp) ?_
     first
       | (refine al_opR (op_append_one (lessV (((n.clocks f1 (p1 % 31) true).getD i default).getD j default) ((j : Int) + (i : Int) + p2)) Try.underlying40 Try.underlying40 rfl info41 rfl rfl (by decide) rfl rfl rfl (by first | rfl | simp) rfl rfl (by first | omega | (simp; done) | (simp; omega)) (by show _ * 1 ≤ _; first | omega | (simp; done) | (simp; omega))) rfl (by simp) ?_; rintro _ _ ⟨ver89, rfl, rfl⟩)
       | (refine al_opR (op_append_map Try.underlying40 Try.underlying40 rfl info41 rfl rfl (by decide) rfl rfl rfl (by first | rfl | simp) rfl (by first | exact .list _ | exact .vnil | exact .nil | exact .row _ _ _ _ rfl (by first | rfl | simp)) rfl (by first | omega | (simp; done) | (simp; omega)) (by show _ * 1 ≤ _; first | omega | (simp; done) | (simp; omega))) rfl (by simp) ?_; rintro _ _ ⟨ver89, rfl, rfl⟩)
     refine al_op (op_assign rfl) rfl (by simp) ?_
     refine al_nil ?_
     refine aw_region ?_
     refine al_op (op_add rfl rfl (by first | exact wrap_i64 (by omega) (by omega))) rfl (by simp) ?_
     refine al_op (op_move rfl) rfl (by simp) ?_
     refine al_nil ?_
     refine ⟨j + 1, ver89, ?_, ?_, ?_, ?_, ?_⟩
     ·omega
     ·omega
     ·refine sub_cons (get_as rfl ?_) ?_; rotate_left; refine sub_cons (get_as rfl ?_) ?_; rotate_left; exact sub_nil
      all_goals (first | rfl | (simp; done) | (rw [lessCTo_succ] <;> rfl))
     ·repeat (first | exact subx_refl | exact subx_del | refine subx_put rfl ?_)
     ·(rw [lessCTo_succ] <;> rfl)
    ·have gh5 := h5
     try simp only [nrm] at h5
     refine aw_exit ?_
     obtain rfl : j = ((n.clocks f1 (p1 % 31) true).getD i default).length := by omega
     refine aw_freeze (fun i => !(Nat.beq i 14)) (fsub_cons (t := 14) rfl (.leaf _ _ (frz_whole rfl rfl (by simp) (clo_map (fun _ => rfl)))) fsub_same) ?_
     refine aw_as 14 (.list 1 ((lessC ((n.clocks f1 (p1 % 31) true).getD i default) i p2).map encB)) rfl rfl ?_
     refine aw_region ?_
     refine al_op (op_move rfl) rfl (by simp) ?_
     refine al_op (op_move rfl) rfl (by simp) ?_
     refine al_op (op_buildSlice Try.underlying39 info40 rfl rfl (by decide) rfl (by decide) rfl (by first | rfl | (repeat (first | exact parts_nil | refine parts_cons rfl (by repeat (first | exact all_live_nil | refine all_live_clo rfl ?_ | refine all_live_slice rfl ?_ | refine all_live_map rfl ?_ | refine all_live_ptr rfl ?_)) ?_))) rfl rfl rfl) rfl (by simp) ?_
     first
       | (refine al_opR (op_append_one (lessC ((n.clocks f1 (p1 % 31) true).getD i default) i p2) Try.underlying39 Try.underlying39 rfl info40 rfl rfl (by decide) rfl rfl rfl (by first | rfl | simp) rfl rfl (by first | omega | (simp; done) | (simp; omega)) (by show _ * 24 ≤ _; first | omega | (simp; done) | (simp; omega))) rfl (by simp) ?_; rintro _ _ ⟨ver94, rfl, rfl⟩)
       | (refine al_opR (op_append_map Try.underlying39 Try.underlying39 rfl info40 rfl rfl (by decide) rfl rfl rfl (by first | rfl | simp) rfl (by first | exact .list _ | exact .vnil | exact .nil | exact .row _ _ _ _ rfl (by first | rfl | simp)) rfl (by first | omega | (simp; done) | (simp; omega)) (by show _ * 24 ≤ _; first | omega | (simp; done) | (simp; omega))) rfl (by simp) ?_; rintro _ _ ⟨ver94, rfl, rfl⟩)
     refine al_op (op_assign rfl) rfl (by simp) ?_
     refine al_nil ?_
     refine aw_region ?_
     refine al_op (op_add rfl rfl (by first | exact wrap_i64 (by omega) (by omega))) rfl (by simp) ?_
     refine al_op (op_move rfl) rfl (by simp) ?_
     refine al_nil ?_
     refine ⟨i + 1, ver94, ?_, ?_, ?_, ?_, ?_⟩
     ·omega
     ·omega
     ·refine sub_cons (get_as rfl ?_) ?_; rotate_left; refine sub_cons (get_as rfl ?_) ?_; rotate_left; exact sub_nil
      all_goals (first | rfl | (simp; done) | (rw [lessATo_succ] <;> rfl))
     ·repeat (first | exact subx_refl | exact subx_del | refine subx_put rfl ?_)
     ·(rw [lessATo_succ] <;> rfl)
   ·have gh4 := h4
    try simp only [nrm] at h4
    refine aw_exit ?_
    obtain rfl : i = (n.clocks f1 (p1 % 31) true).length := by omega
    refine aw_seq ?_
    refine aw_region ?_
    first
      | refine al_op (op_load_rptr Try.underlying27 info27 rfl rfl) rfl (by simp) ?_
      | refine al_op (op_load_map Try.underlying27 info27 rfl rfl (by omega) rfl) rfl (by simp) ?_
      | refine al_op (op_load_ptr Try.underlying27 info27 rfl rfl rfl rfl) rfl (by simp) ?_
    refine al_op (op_move rfl) rfl (by simp) ?_
    first
      | refine al_callp into18 rfl rfl rfl ((c_Run _ (by assumption) _ (by assumption)) _) (by simp) ?_
      | refine al_callp into18 rfl rfl rfl (ac_told (re_cons (by first | exact .leaf _ _ (.same _) | exact .leaf _ _ (.vnil _) | exact .leaf _ _ (.nil _)) (re_cons (by first | exact .leaf _ _ (.same _) | exact .leaf _ _ (.vnil _) | exact .leaf _ _ (.nil _)) re_nil)) ((c_Run _ (by assumption) _ (by assumption)) _)) (by simp) ?_
    refine al_op (op_move rfl) rfl (by simp) ?_
    refine al_op (op_extract rfl rfl rfl) rfl (by simp) ?_
    refine al_op (op_extract rfl rfl rfl) rfl (by simp) ?_
    refine al_op (op_assign rfl) rfl (by simp) ?_
    refine al_op (op_assign rfl) rfl (by simp) ?_
    refine al_nil ?_
    refine aw_seq ?_
    refine aw_as 16 (.list 1 ((n.outsAt n.firsts (n.clocks f1 (p1 % 31) true) (n.clocks f1 (p1 % 31) true).length).map encL)) rfl (by rw [rA]) ?_
    refine aw_as 17 (.v (.int .i64 (0))) rfl (by rw [rA]) ?_
    refine aw_region ?_
    first
      | refine al_op (op_load_rptr Try.underlying27 info27 rfl rfl) rfl (by simp) ?_
      | refine al_op (op_load_map Try.underlying27 info27 rfl rfl (by omega) rfl) rfl (by simp) ?_
      | refine al_op (op_load_ptr Try.underlying27 info27 rfl rfl rfl rfl) rfl (by simp) ?_
    refine al_freeze (fun _ => false) (fsub_cons (t := 103) rfl (.agg _ _ (frz2_cons (frz_whole rfl rfl (by simp) (clo_map (fun _ => rfl))) (frz2_cons (frz_whole rfl rfl (by rw [List.length_map, n.lessRegs_length]) (clo_map (fun _ => rfl))) (frz2_cons (frz_whole rfl rfl (by simp) (clo_map (fun _ => rfl))) (frz2_cons (frz_whole rfl rfl (by simp) (clo_map (fun _ => rfl))) frz2_nil))))) (fsub_cons (t := 11) rfl (.leaf _ _ (frz_whole rfl rfl (by simp) (clo_map (fun _ => rfl)))) fsub_same)) ?_
    refine al_st (keep_nothing _) ?_
    refine al_as 103 (encN (n.lessN p2)) rfl rfl ?_
    refine al_as 11 (.list 1 ((lessA (n.clocks f1 (p1 % 31) true) p2).map encL)) rfl rfl ?_
    refine al_op (op_move rfl) rfl (by simp) ?_
    first
      | refine al_callp into18 rfl rfl rfl ((c_Run _ (by assumption) _ (by assumption)) _) (by simp) ?_
      | refine al_callp into18 rfl rfl rfl (ac_told (re_cons (by first | exact .leaf _ _ (.same _) | exact .leaf _ _ (.vnil _) | exact .leaf _ _ (.nil _)) (re_cons (by first | exact .leaf _ _ (.same _) | exact .leaf _ _ (.vnil _) | exact .leaf _ _ (.nil _)) re_nil)) ((c_Run _ (by assumption) _ (by assumption)) _)) (by simp) ?_
    refine al_op (op_move rfl) rfl (by simp) ?_
    refine al_op (op_extract rfl rfl rfl) rfl (by simp) ?_
    refine al_op (op_extract rfl rfl rfl) rfl (by simp) ?_
    refine al_op (op_assign rfl) rfl (by simp) ?_
    refine al_op (op_assign rfl) rfl (by simp) ?_
    refine al_nil ?_
    refine aw_seq ?_
    refine aw_seq ?_
    refine aw_as 18 (.list 1 (((n.lessN p2).outsAt (n.lessN p2).firsts (lessA (n.clocks f1 (p1 % 31) true) p2) (n.clocks f1 (p1 % 31) true).length).map encL)) rfl (by rw [rN]) ?_
    refine aw_as 19 (.v (.int .i64 (0))) rfl (by rw [rN]) ?_
    have oA := n.outsAt_length n.firsts (n.clocks f1 (p1 % 31) true) (n.clocks f1 (p1 % 31) true).length
    have oN := (n.lessN p2).outsAt_length (n.lessN p2).firsts (lessA (n.clocks f1 (p1 % 31) true) p2) (n.clocks f1 (p1 % 31) true).length
    refine aw_region ?_
    refine al_op (op_move rfl) rfl (by simp) ?_
    refine al_op (op_neq rfl rfl) rfl (by simp) ?_
    refine al_op (op_move rfl) rfl (by simp) ?_
    apply al_or 3 110 113 rfl
    ·intro h6; have gh6 := h6
     try simp only [nrm] at h6
     refine al_take (op_move rfl) rfl rfl rfl rfl (by simp) ?_
     refine al_take (op_neq rfl rfl) rfl rfl rfl rfl (by simp) ?_
     first
       | refine al_op (op_pick rfl rfl) rfl (by simp) ?_
       | refine al_op (op_or rfl rfl rfl) rfl (by simp) ?_
     refine al_nil ⟨rfl, rfl, rfl, keep_of ?_⟩
     repeat (first | exact subx_refl | exact subx_known rfl gh6 subx_refl | refine subx_put rfl ?_)
    ·intro h6; have gh6 := h6
     try simp only [nrm] at h6
     refine al_pass rfl rfl rfl rfl (by simp) ?_
     refine al_pass rfl rfl rfl rfl (by simp) ?_
     first
       | refine al_op (op_pick rfl rfl) rfl (by simp) ?_
       | refine al_op (op_or rfl rfl rfl) rfl (by simp) ?_
     refine al_nil ⟨rfl, rfl, rfl, keep_of ?_⟩
     repeat (first | exact subx_refl | exact subx_known rfl gh6 subx_refl | refine subx_put rfl ?_)
    refine al_op (op_move rfl) rfl (by simp) ?_
    apply al_or 6 114 120 rfl
    ·intro h7; have gh7 := h7
     try simp only [nrm] at h7
     refine al_take (op_move rfl) rfl rfl rfl rfl (by simp) ?_
     first
       | refine al_take (op_len_map Try.underlying39 rfl) rfl rfl rfl rfl (by simp) ?_
       | refine al_take (op_len_slice Try.underlying39 rfl rfl) rfl rfl rfl rfl (by simp) ?_
       | refine al_take (op_len_list Try.underlying39 rfl) rfl rfl rfl rfl (by simp) ?_
       | refine al_take (op_len_v Try.underlying39 rfl) rfl rfl rfl rfl (by simp) ?_
       | refine al_take (op_len_nil Try.underlying39 rfl) rfl rfl rfl rfl (by simp) ?_
     refine al_take (op_move rfl) rfl rfl rfl rfl (by simp) ?_
     first
       | refine al_take (op_len_map Try.underlying39 rfl) rfl rfl rfl rfl (by simp) ?_
       | refine al_take (op_len_slice Try.underlying39 rfl rfl) rfl rfl rfl rfl (by simp) ?_
       | refine al_take (op_len_list Try.underlying39 rfl) rfl rfl rfl rfl (by simp) ?_
       | refine al_take (op_len_v Try.underlying39 rfl) rfl rfl rfl rfl (by simp) ?_
       | refine al_take (op_len_nil Try.underlying39 rfl) rfl rfl rfl rfl (by simp) ?_
     refine al_take (op_neq rfl rfl) rfl rfl rfl rfl (by simp) ?_
     first
       | refine al_op (op_pick rfl rfl) rfl (by simp) ?_
       | refine al_op (op_or rfl rfl rfl) rfl (by simp) ?_
     refine al_nil ⟨rfl, rfl, rfl, keep_of ?_⟩
     repeat (first | exact subx_refl | exact subx_known rfl gh7 subx_refl | refine subx_put rfl ?_)
    ·intro h7; have gh7 := h7
     try simp only [nrm] at h7
     refine al_pass rfl rfl rfl rfl (by simp) ?_
     refine al_pass rfl rfl rfl rfl (by simp) ?_
     refine al_pass rfl rfl rfl rfl (by simp) ?_
     refine al_pass rfl rfl rfl rfl (by simp) ?_
     refine al_pass rfl rfl rfl rfl (by simp) ?_
     first
       | refine al_op (op_pick rfl rfl) rfl (by simp) ?_
       | refine al_op (op_or rfl rfl rfl) rfl (by simp) ?_
     refine al_nil ⟨rfl, rfl, rfl, keep_of ?_⟩
     repeat (first | exact subx_refl | exact subx_known rfl gh7 subx_refl | refine subx_put rfl ?_)
    refine al_nil ?_
    refine aw_cond rfl (fun h8 => ?_) (fun h8 => ?_)
    ·have gh8 := h8
     try simp only [nrm] at h8
     omega
    ·have gh8 := h8
     try simp only [nrm] at h8
     refine aw_skip ?_
     refine aw_seq ?_
     refine aw_seq ?_
     refine aw_region ?_
     refine al_op (op_move rfl) rfl (by simp) ?_
     first
       | refine al_op (op_len_map Try.underlying39 rfl) rfl (by simp) ?_
       | refine al_op (op_len_slice Try.underlying39 rfl rfl) rfl (by simp) ?_
       | refine al_op (op_len_list Try.underlying39 rfl) rfl (by simp) ?_
       | refine al_op (op_len_v Try.underlying39 rfl) rfl (by simp) ?_
       | refine al_op (op_len_nil Try.underlying39 rfl) rfl (by simp) ?_
     refine al_op (op_move rfl) rfl (by simp) ?_
     refine al_nil ?_
     refine aw_block ?_
     apply aw_only
     ·
      (first | apply sub_cons (t := 6) rfl | skip)
      (first | apply sub_cons (t := 16) rfl | skip)
      (first | apply sub_cons (t := 18) rfl | skip)
      (first | apply sub_cons (t := 122) rfl | skip)
      (first | apply sub_cons (t := 123) rfl | skip)
      exact sub_nil
     refine aw_forT (ι := Nat) [6, 123] [] (fun i => (n.clocks f1 (p1 % 31) true).length - i) (fun i => i ≤ (n.clocks f1 (p1 % 31) true).length) (fun i => ([(123, .v (.int .i64 (i)))] : Env)) (fun i s => s) (0) ?_ ?_ ?_ (fun i hinv => ?_)
     ·exact Nat.zero_le _
     ·refine sub_cons (get_as rfl ?_) ?_; rotate_left; exact sub_nil
      all_goals (first | rfl | simp)
     ·rfl
     refine aw_seq ?_
     refine aw_region ?_
     refine al_op (op_lss rfl rfl) rfl (by simp) ?_
     refine al_nil ?_
     refine aw_seq ?_
     refine aw_cond rfl (fun h9 => ?_) (fun h9 => ?_)
     ·have gh9 := h9
      try simp only [nrm] at h9
      refine aw_skip ?_
      refine aw_seq ?_
      refine aw_block ?_
      refine aw_seq ?_
      refine aw_region ?_
      refine al_op (op_move rfl) rfl (by simp) ?_
      refine al_op (op_assign rfl) rfl (by simp) ?_
      refine al_nil ?_
      refine aw_seq ?_
      refine aw_seq ?_
      refine aw_any (Checked.mixed Try.checked) ?_
      apply aany_seg (p := 0) (q := 11) (by kernel_rfl) rfl (by decide)
      ·
       apply ql_plain rfl (op_move rfl)
       apply ql_plain rfl (op_move rfl)
       first
         | apply ql_plain rfl (op_index_map default Try.underlying39 info40 rfl rfl rfl (by first | (with_reducible exact Int.toNat_natCast _) | rfl) (by omega) (by omega))
         | apply ql_plain rfl (op_index_slice Try.underlying39 info40 rfl rfl rfl rfl (by omega) (by omega))
         | apply ql_plain rfl (op_index_list Try.underlying39 info40 rfl rfl rfl (by decide) rfl)
       first
         | apply ql_plain rfl (op_load_rptr Try.underlying40 info40 rfl rfl)
         | apply ql_plain rfl (op_load_map Try.underlying40 info40 rfl rfl (by omega) rfl)
         | apply ql_plain rfl (op_load_ptr Try.underlying40 info40 rfl rfl rfl rfl)
       first
         | apply ql_plain rfl (op_len_map Try.underlying40 rfl)
         | apply ql_plain rfl (op_len_slice Try.underlying40 rfl rfl)
         | apply ql_plain rfl (op_len_list Try.underlying40 rfl)
         | apply ql_plain rfl (op_len_v Try.underlying40 rfl)
         | apply ql_plain rfl (op_len_nil Try.underlying40 rfl)
       apply ql_plain rfl (op_move rfl)
       apply ql_plain rfl (op_move rfl)
       first
         | apply ql_plain rfl (op_index_map default Try.underlying39 info40 rfl rfl rfl (by first | (with_reducible exact Int.toNat_natCast _) | rfl) (by omega) (by omega))
         | apply ql_plain rfl (op_index_slice Try.underlying39 info40 rfl rfl rfl rfl (by omega) (by omega))
         | apply ql_plain rfl (op_index_list Try.underlying39 info40 rfl rfl rfl (by decide) rfl)
       first
         | apply ql_plain rfl (op_load_rptr Try.underlying40 info40 rfl rfl)
         | apply ql_plain rfl (op_load_map Try.underlying40 info40 rfl rfl (by omega) rfl)
         | apply ql_plain rfl (op_load_ptr Try.underlying40 info40 rfl rfl rfl rfl)
       first
         | apply ql_plain rfl (op_len_map Try.underlying40 rfl)
         | apply ql_plain rfl (op_len_slice Try.underlying40 rfl rfl)
         | apply ql_plain rfl (op_len_list Try.underlying40 rfl)
         | apply ql_plain rfl (op_len_v Try.underlying40 rfl)
         | apply ql_plain rfl (op_len_nil Try.underlying40 rfl)
       apply ql_plain rfl (op_neq rfl rfl)
       exact ql_nil
      ·simp
      refine aany_end rfl (by kernel_rfl) ?_
      refine aw_cond rfl (fun h10 => ?_) (fun h10 => ?_)
      ·have gh10 := h10
       try simp only [nrm] at h10
       have hcl := (Net.outs_cov hn hv fa (by omega) p2 i (by omega)).1; omega
      ·have gh10 := h10
       try simp only [nrm] at h10
       refine aw_skip ?_
       refine aw_seq ?_
       have hc := Net.outs_cov hn hv fa (by omega) p2 i (by omega)
       have hcl := hc.1
       have jA : Ins (n.outsAt n.firsts (n.clocks f1 (p1 % 31) true) (n.clocks f1 (p1 % 31) true).length) := by have := (Net.run_Ins hn hfb iA).1; rw [rA] at this; exact this
       have jl := (jA.at i).len
       refine aw_region ?_
       refine al_op (op_move rfl) rfl (by simp) ?_
       refine al_op (op_move rfl) rfl (by simp) ?_
       first
         | refine al_op (op_index_map default Try.underlying39 info40 rfl rfl rfl (by first | (with_reducible exact Int.toNat_natCast _) | rfl) (by omega) (by omega)) rfl (by simp) ?_
         | refine al_op (op_index_slice Try.underlying39 info40 rfl rfl rfl rfl (by omega) (by omega)) rfl (by simp) ?_
         | refine al_op (op_index_list Try.underlying39 info40 rfl rfl rfl (by decide) rfl) rfl (by simp) ?_
       first
         | refine al_op (op_load_rptr Try.underlying40 info40 rfl rfl) rfl (by simp) ?_
         | refine al_op (op_load_map Try.underlying40 info40 rfl rfl (by omega) rfl) rfl (by simp) ?_
         | refine al_op (op_load_ptr Try.underlying40 info40 rfl rfl rfl rfl) rfl (by simp) ?_
       first
         | refine al_op (op_len_map Try.underlying40 rfl) rfl (by simp) ?_
         | refine al_op (op_len_slice Try.underlying40 rfl rfl) rfl (by simp) ?_
         | refine al_op (op_len_list Try.underlying40 rfl) rfl (by simp) ?_
         | refine al_op (op_len_v Try.underlying40 rfl) rfl (by simp) ?_
         | refine al_op (op_len_nil Try.underlying40 rfl) rfl (by simp) ?_
       refine al_op (op_move rfl) rfl (by simp) ?_
       refine al_nil ?_
       refine aw_block ?_
       refine aw_forT (ι := Nat) [6, 21, 142, 143, 144, 145, 146, 147, 148, 149, 150, 151, 152, 153, 154, 155, 156, 157, 158, 159, 160, 161, 162, 163, 164, 165, 166, 167, 168, 169, 170] [] (fun j => ((n.outsAt n.firsts (n.clocks f1 (p1 % 31) true) (n.clocks f1 (p1 % 31) true).length).getD i default).length - j) (fun j => j ≤ ((n.outsAt n.firsts (n.clocks f1 (p1 % 31) true) (n.clocks f1 (p1 % 31) true).length).getD i default).length) (fun j => ([(142, .v (.int .i64 (j)))] : Env)) (fun j s => s) (0) ?_ ?_ ?_ (fun j hinv => ?_)
       ·exact Nat.zero_le _
       ·refine sub_cons (get_as rfl ?_) ?_; rotate_left; exact sub_nil
        all_goals (first | rfl | simp)
       ·rfl
       refine aw_seq ?_
       refine aw_region ?_
       refine al_op (op_lss rfl rfl) rfl (by simp) ?_
       refine al_nil ?_
       refine aw_seq ?_
       refine aw_cond rfl (fun h11 => ?_) (fun h11 => ?_)
       ·have gh11 := h11
        try simp only [nrm] at h11
        refine aw_skip ?_
        refine aw_seq ?_
        refine aw_block ?_
        refine aw_seq ?_
        refine aw_region ?_
        refine al_op (op_move rfl) rfl (by simp) ?_
        refine al_op (op_assign rfl) rfl (by simp) ?_
        refine al_nil ?_
        refine aw_seq ?_
        refine aw_any (Checked.mixed Try.checked) ?_
        apply aany_seg (p := 0) (q := 9) (by kernel_rfl) rfl (by decide)
        ·
         apply ql_plain rfl (op_move rfl)
         apply ql_plain rfl (op_move rfl)
         first
           | apply ql_plain rfl (op_index_map default Try.underlying39 info40 rfl rfl rfl (by first | (with_reducible exact Int.toNat_natCast _) | rfl) (by omega) (by omega))
           | apply ql_plain rfl (op_index_slice Try.underlying39 info40 rfl rfl rfl rfl (by omega) (by omega))
           | apply ql_plain rfl (op_index_list Try.underlying39 info40 rfl rfl rfl (by decide) rfl)
         first
           | apply ql_plain rfl (op_load_rptr Try.underlying40 info40 rfl rfl)
           | apply ql_plain rfl (op_load_map Try.underlying40 info40 rfl rfl (by omega) rfl)
           | apply ql_plain rfl (op_load_ptr Try.underlying40 info40 rfl rfl rfl rfl)
         apply ql_plain rfl (op_move rfl)
         first
           | apply ql_plain rfl (op_index_map default Try.underlying40 info41 rfl rfl rfl (by first | (with_reducible exact Int.toNat_natCast _) | rfl) (by omega) (by omega))
           | apply ql_plain rfl (op_index_slice Try.underlying40 info41 rfl rfl rfl rfl (by omega) (by omega))
           | apply ql_plain rfl (op_index_list Try.underlying40 info41 rfl rfl rfl (by decide) rfl)
         first
           | apply ql_plain rfl (op_load_rptr Try.underlying41 info41 rfl rfl)
           | apply ql_plain rfl (op_load_map Try.underlying41 info41 rfl rfl (by omega) rfl)
           | apply ql_plain rfl (op_load_ptr Try.underlying41 info41 rfl rfl rfl rfl)
         apply ql_plain rfl (op_neq rfl rfl)
         apply ql_plain rfl (op_move rfl)
         exact ql_nil
        ·simp
        apply aany_and 9 25 153 169 (by kernel_rfl) rfl (by decide) rfl (by simp)
        ·intro h12; have gh12 := h12
         try simp only [nrm] at h12
         apply ql_ex
         ·
          apply ql_take rfl rfl rfl rfl (op_move rfl)
          apply ql_take rfl rfl rfl rfl (op_move rfl)
          first
            | apply ql_take rfl rfl rfl rfl (op_index_map default Try.underlying39 info40 rfl rfl rfl (by first | (with_reducible exact Int.toNat_natCast _) | rfl) (by omega) (by omega))
            | apply ql_take rfl rfl rfl rfl (op_index_slice Try.underlying39 info40 rfl rfl rfl rfl (by omega) (by omega))
            | apply ql_take rfl rfl rfl rfl (op_index_list Try.underlying39 info40 rfl rfl rfl (by decide) rfl)
          first
            | apply ql_take rfl rfl rfl rfl (op_load_rptr Try.underlying40 info40 rfl rfl)
            | apply ql_take rfl rfl rfl rfl (op_load_map Try.underlying40 info40 rfl rfl (by omega) rfl)
            | apply ql_take rfl rfl rfl rfl (op_load_ptr Try.underlying40 info40 rfl rfl rfl rfl)
          apply ql_take rfl rfl rfl rfl (op_move rfl)
          first
            | apply ql_take rfl rfl rfl rfl (op_index_map default Try.underlying40 info41 rfl rfl rfl (by first | (with_reducible exact Int.toNat_natCast _) | rfl) (by omega) (by omega))
            | apply ql_take rfl rfl rfl rfl (op_index_slice Try.underlying40 info41 rfl rfl rfl rfl (by omega) (by omega))
            | apply ql_take rfl rfl rfl rfl (op_index_list Try.underlying40 info41 rfl rfl rfl (by decide) rfl)
          first
            | apply ql_take rfl rfl rfl rfl (op_load_rptr Try.underlying41 info41 rfl rfl)
            | apply ql_take rfl rfl rfl rfl (op_load_map Try.underlying41 info41 rfl rfl (by omega) rfl)
            | apply ql_take rfl rfl rfl rfl (op_load_ptr Try.underlying41 info41 rfl rfl rfl rfl)
          apply ql_take rfl rfl rfl rfl (op_move rfl)
          apply ql_take rfl rfl rfl rfl (op_move rfl)
          first
            | apply ql_take rfl rfl rfl rfl (op_index_map default Try.underlying39 info40 rfl rfl rfl (by first | (with_reducible exact Int.toNat_natCast _) | rfl) (by omega) (by omega))
            | apply ql_take rfl rfl rfl rfl (op_index_slice Try.underlying39 info40 rfl rfl rfl rfl (by omega) (by omega))
            | apply ql_take rfl rfl rfl rfl (op_index_list Try.underlying39 info40 rfl rfl rfl (by decide) rfl)
          first
            | apply ql_take rfl rfl rfl rfl (op_load_rptr Try.underlying40 info40 rfl rfl)
            | apply ql_take rfl rfl rfl rfl (op_load_map Try.underlying40 info40 rfl rfl (by omega) rfl)
            | apply ql_take rfl rfl rfl rfl (op_load_ptr Try.underlying40 info40 rfl rfl rfl rfl)
          apply ql_take rfl rfl rfl rfl (op_move rfl)
          first
            | apply ql_take rfl rfl rfl rfl (op_index_map default Try.underlying40 info41 rfl rfl rfl (by first | (with_reducible exact Int.toNat_natCast _) | rfl) (by omega) (by omega))
            | apply ql_take rfl rfl rfl rfl (op_index_slice Try.underlying40 info41 rfl rfl rfl rfl (by omega) (by omega))
            | apply ql_take rfl rfl rfl rfl (op_index_list Try.underlying40 info41 rfl rfl rfl (by decide) rfl)
          first
            | apply ql_take rfl rfl rfl rfl (op_load_rptr Try.underlying41 info41 rfl rfl)
            | apply ql_take rfl rfl rfl rfl (op_load_map Try.underlying41 info41 rfl rfl (by omega) rfl)
            | apply ql_take rfl rfl rfl rfl (op_load_ptr Try.underlying41 info41 rfl rfl rfl rfl)
          apply ql_take rfl rfl rfl rfl (op_neq rfl rfl)
          first
            | apply ql_plain rfl (op_pick rfl rfl)
            | apply ql_plain rfl (op_and rfl rfl rfl)
          exact ql_nil
         ·rfl
         ·repeat (first | exact subx_refl | exact subx_known rfl gh12 subx_refl | refine subx_put rfl ?_)
        ·intro h12; have gh12 := h12
         try simp only [nrm] at h12
         apply ql_ex
         ·
          apply ql_pass rfl rfl rfl rfl
          apply ql_pass rfl rfl rfl rfl
          apply ql_pass rfl rfl rfl rfl
          apply ql_pass rfl rfl rfl rfl
          apply ql_pass rfl rfl rfl rfl
          apply ql_pass rfl rfl rfl rfl
          apply ql_pass rfl rfl rfl rfl
          apply ql_pass rfl rfl rfl rfl
          apply ql_pass rfl rfl rfl rfl
          apply ql_pass rfl rfl rfl rfl
          apply ql_pass rfl rfl rfl rfl
          apply ql_pass rfl rfl rfl rfl
          apply ql_pass rfl rfl rfl rfl
          apply ql_pass rfl rfl rfl rfl
          apply ql_pass rfl rfl rfl rfl
          first
            | apply ql_plain rfl (op_pick rfl rfl)
            | apply ql_plain rfl (op_and rfl rfl rfl)
          exact ql_nil
         ·rfl
         ·repeat (first | exact subx_refl | exact subx_known rfl gh12 subx_refl | refine subx_put rfl ?_)
        refine aany_end rfl (by kernel_rfl) ?_
        refine aw_cond rfl (fun h13 => ?_) (fun h13 => ?_)
        ·have gh13 := h13
         try simp only [nrm] at h13
         rw [cov_at hc] at gh13; exact absurd gh13 (by decide)
        ·have gh13 := h13
         try simp only [nrm] at h13
         refine aw_skip ?_
         refine aw_region ?_
         refine al_op (op_add rfl rfl (by first | exact wrap_i64 (by omega) (by omega))) rfl (by simp) ?_
         refine al_op (op_move rfl) rfl (by simp) ?_
         refine al_nil ?_
         refine ⟨j + 1, ?_, ?_, ?_, ?_, ?_⟩
         ·omega
         ·omega
         ·refine sub_cons (get_as rfl ?_) ?_; rotate_left; exact sub_nil
          all_goals (first | rfl | simp)
         ·repeat (first | exact subx_refl | exact subx_del | refine subx_put rfl ?_)
         ·rfl
       ·have gh11 := h11
        try simp only [nrm] at h11
        refine aw_exit ?_
        skip
        refine aw_region ?_
        refine al_op (op_add rfl rfl (by first | exact wrap_i64 (by omega) (by omega))) rfl (by simp) ?_
        refine al_op (op_move rfl) rfl (by simp) ?_
        refine al_nil ?_
        refine ⟨i + 1, ?_, ?_, ?_, ?_, ?_⟩
        ·omega
        ·omega
        ·refine sub_cons (get_as rfl ?_) ?_; rotate_left; exact sub_nil
         all_goals (first | rfl | simp)
        ·repeat (first | exact subx_refl | exact subx_del | refine subx_put rfl ?_)
        ·rfl
     ·have gh9 := h9
      try simp only [nrm] at h9
      refine aw_exit ?_
      skip
      refine aw_seq ?_
      refine aw_region ?_
      first
        | refine al_callp into13 rfl rfl rfl ((l_awake4 ) _) (by simp) ?_
        | refine al_callp into13 rfl rfl rfl (acp_lent lend_nil (l_awake4 ) rfl) (by simp) ?_
      refine al_op (op_assign rfl) rfl (by simp) ?_
      refine al_nil ?_
      refine aw_freeze (fun _ => false) (fsub_cons (t := 6) rfl (.leaf _ _ (.same _)) fsub_nil) ?_
      refine aw_ret ?_
      refine ⟨_, res_1 rfl rfl, ?_, rfl⟩
      rfl
end Go.Proofs.Ytnnklpmgncbgnaa
