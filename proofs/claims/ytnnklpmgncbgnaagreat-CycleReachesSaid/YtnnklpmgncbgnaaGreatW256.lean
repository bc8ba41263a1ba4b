import Derived.Test.YtnnklpmgncbgnaaGreatW225
import Derived.Test.YtnnklpmgncbgnaaGreatW241
import Derived.Test.YtnnklpmgncbgnaaGreatCReaches
import Derived.Test.YtnnklpmgncbgnaaGreatFacts

import Derived.Test.YtnnklpmgncbgnaaGreatEngO
import Derived.Test.YtnnklpmgncbgnaaGreatGSpec

/- Printed walks (gen.py, gates_ann.py): part 251. -/




set_option linter.unusedVariables false
set_option linter.unusedSimpArgs false
set_option maxRecDepth 20000
set_option maxHeartbeats 40000000
namespace Go.Proofs.YtnnklpmgncbgnaaGreat
open Go

theorem r_small4 (n : Net) (hn : n.Small) : ACp Tryz.prog 25 [encN n] (.v (.bool (n.small))) := by
 refine acp_of rfl ?_
 have z1 := hn.insL
 have z2 := hn.regsL
 refine ac_enter 17 Tryz.func25 rfl rfl (by simp) ?_
 refine aw_seq ?_
 refine aw_region ?_
 (refine al_opR (op_box 1 rfl rfl (by first | rfl | exact live_one rfl | (repeat (first | exact all_live_nil | refine all_live_clo rfl ?_ | refine all_live_slice rfl ?_ | refine all_live_map rfl ?_ | refine all_live_ptr rfl ?_)))) rfl (by simp) ?_; rintro _ _ ⟨ver1, rfl, rfl⟩)
 refine al_op (op_assign rfl) rfl (by simp) ?_
 refine al_nil ?_
 refine aw_seq ?_
 refine aw_region ?_
 refine al_op (op_load_ptr Tryz.underlying27 info27 rfl rfl rfl rfl) rfl (by simp) ?_
 refine al_callp into15 rfl rfl rfl ((r_Known4 _ (by assumption)) _) (by simp) ?_
 refine al_op (op_move rfl) rfl (by simp) ?_
 apply al_and 5 5 10 rfl
 ·intro h1; have gh1 := h1
  try simp only [nrm] at h1
  refine al_take (op_field_ptr Tryz.underlying27 rfl info22 (by decide) rfl rfl rfl) rfl rfl rfl rfl (by simp) ?_
  refine al_take (op_load_ptr Tryz.underlying22 info22 rfl rfl rfl rfl) rfl rfl rfl rfl (by simp) ?_
  refine al_take (op_len_map Tryz.underlying22 rfl) rfl rfl rfl rfl (by simp) ?_
  refine al_take (op_leq rfl rfl) rfl rfl rfl rfl (by simp) ?_
  refine al_op (op_pick rfl rfl) rfl (by simp) ?_
  refine al_nil ⟨rfl, rfl, rfl, keep_of ?_⟩
  repeat (first | exact subx_refl | exact subx_known rfl gh1 subx_refl | refine subx_put rfl ?_)
 ·intro h1; have gh1 := h1
  try simp only [nrm] at h1
  refine al_pass rfl rfl rfl rfl (by simp) ?_
  refine al_pass rfl rfl rfl rfl (by simp) ?_
  refine al_pass rfl rfl rfl rfl (by simp) ?_
  refine al_pass rfl rfl rfl rfl (by simp) ?_
  refine al_op (op_pick rfl rfl) rfl (by simp) ?_
  refine al_nil ⟨rfl, rfl, rfl, keep_of ?_⟩
  repeat (first | exact subx_refl | exact subx_known rfl gh1 subx_refl | refine subx_put rfl ?_)
 refine al_op (op_move rfl) rfl (by simp) ?_
 apply al_and 5 11 16 rfl
 ·intro h2; have gh2 := h2
  try simp only [nrm] at h2
  refine al_take (op_field_ptr Tryz.underlying27 rfl info23 (by decide) rfl rfl rfl) rfl rfl rfl rfl (by simp) ?_
  refine al_take (op_load_ptr Tryz.underlying23 info23 rfl rfl rfl rfl) rfl rfl rfl rfl (by simp) ?_
  refine al_take (op_len_map Tryz.underlying23 rfl) rfl rfl rfl rfl (by simp) ?_
  refine al_take (op_leq rfl rfl) rfl rfl rfl rfl (by simp) ?_
  refine al_op (op_pick rfl rfl) rfl (by simp) ?_
  refine al_nil ⟨rfl, rfl, rfl, keep_of ?_⟩
  repeat (first | exact subx_refl | exact subx_known rfl gh2 subx_refl | refine subx_put rfl ?_)
 ·intro h2; have gh2 := h2
  try simp only [nrm] at h2
  refine al_pass rfl rfl rfl rfl (by simp) ?_
  refine al_pass rfl rfl rfl rfl (by simp) ?_
  refine al_pass rfl rfl rfl rfl (by simp) ?_
  refine al_pass rfl rfl rfl rfl (by simp) ?_
  refine al_op (op_pick rfl rfl) rfl (by simp) ?_
  refine al_nil ⟨rfl, rfl, rfl, keep_of ?_⟩
  repeat (first | exact subx_refl | exact subx_known rfl gh2 subx_refl | refine subx_put rfl ?_)
 refine al_op (op_assign rfl) rfl (by simp) ?_
 refine al_nil ?_
 refine aw_freeze (fun _ => false) (fsub_cons (t := 2) rfl (.leaf _ _ (.same _)) fsub_nil) ?_
 refine aw_ret ?_
 refine ⟨_, res_1 rfl rfl, ?_, rfl⟩
 rw [Net.small, ← Net.known4_same hn]

theorem r_bits4 (x : Int) (m : Nat) (h0 : 0 ≤ x) (h1 : x ≤ 4611686018427387904) (hm : m ≤ 60) : ACp Tryz.prog 55 [.v (.int .i64 (x)), .v (.int .i64 ((m : Int)))] (.list 1 ((bitsI x m).map encB)) := by
 refine acp_of rfl ?_
 refine ac_enter 21 Tryz.func55 rfl rfl (by simp) ?_
 refine aw_seq ?_
 refine aw_region ?_
 refine al_op (op_assign rfl) rfl (by simp) ?_
 refine al_nil ?_
 refine aw_seq ?_
 refine aw_region ?_
 refine al_op (op_assign rfl) rfl (by simp) ?_
 refine al_nil ?_
 refine aw_seq ?_
 refine aw_seq ?_
 refine aw_region ?_
 refine al_op (op_assign rfl) rfl (by simp) ?_
 refine al_nil ?_
 refine aw_block ?_
 refine aw_own_map encB 5 1 5 rfl rfl (fun ver5 => ?_)
 refine aw_for2T (α := Nat) (β := Nat) [5, 6] [] (fun i ver => m - i) (fun i ver => i ≤ m) (fun i ver => ([(5, .slice 5 ver 0 (bitsI x i).length), (6, .v (.int .i64 (i)))] : Env)) (fun i ver s => s.put 5 ver (.row 1 ((bitsI x i).map encB))) (0) (ver5) ?_ ?_ ?_ (fun i ver hinv => ?_)
 ·exact Nat.zero_le _
 ·refine sub_cons (get_as rfl ?_) ?_; rotate_left; refine sub_cons (get_as rfl ?_) ?_; rotate_left; exact sub_nil
  all_goals (first | rfl | (simp; done) | (rw [bitsI_succ] <;> rfl))
 ·rfl
 have hlen := bitsI_length x i
 refine aw_seq ?_
 refine aw_seq ?_
 refine aw_region ?_
 refine al_op (op_move rfl) rfl (by simp) ?_
 refine al_op (op_move rfl) rfl (by simp) ?_
 refine al_op (op_lss rfl rfl) rfl (by simp) ?_
 refine al_nil ?_
 refine aw_cond rfl (fun h1 => ?_) (fun h1 => ?_)
 ·have gh1 := h1
  try simp only [nrm] at h1
  refine aw_skip ?_
  refine aw_seq ?_
  refine aw_block ?_
  have hbr := bitI_range x i
  refine aw_region ?_
  refine al_op (op_move rfl) rfl (by simp) ?_
  refine al_op (op_move rfl) rfl (by simp) ?_
  refine al_op (op_move rfl) rfl (by simp) ?_
  refine al_op (op_shr rfl rfl (by omega) (shr_i64 (by omega))) rfl (by simp) ?_
  refine al_op (op_bitand rfl rfl (and_one _)) rfl (by simp) ?_
  refine al_op (op_conv Tryz.underlying3 Tryz.underlying44 rfl (bit_u8 x i)) rfl (by simp) ?_
  refine al_op (op_buildSlice Tryz.underlying28 info44 rfl rfl (by decide) rfl (by decide) rfl (by first | rfl | (repeat (first | exact parts_nil | refine parts_cons rfl (by repeat (first | exact all_live_nil | refine all_live_clo rfl ?_ | refine all_live_slice rfl ?_ | refine all_live_map rfl ?_ | refine all_live_ptr rfl ?_)) ?_))) rfl rfl rfl) rfl (by simp) ?_
  (refine al_opR (op_append_one (bitI x i) Tryz.underlying28 Tryz.underlying28 rfl info44 rfl rfl (by decide) rfl rfl rfl (by first | rfl | simp) rfl rfl (by first | omega | (simp; done) | (simp; omega)) (by show _ * 1 ≤ _; first | omega | (simp; done) | (simp; omega))) rfl (by simp) ?_; rintro _ _ ⟨ver19, rfl, rfl⟩)
  refine al_op (op_assign rfl) rfl (by simp) ?_
  refine al_nil ?_
  refine aw_region ?_
  refine al_op (op_move rfl) rfl (by simp) ?_
  refine al_op (op_add rfl rfl (by first | exact wrap_i64 (by omega) (by omega))) rfl (by simp) ?_
  refine al_op (op_assign rfl) rfl (by simp) ?_
  refine al_nil ?_
  refine ⟨i + 1, ver19, ?_, ?_, ?_, ?_, ?_⟩
  ·omega
  ·omega
  ·refine sub_cons (get_as rfl ?_) ?_; rotate_left; refine sub_cons (get_as rfl ?_) ?_; rotate_left; exact sub_nil
   all_goals (first | rfl | (simp; done) | (rw [bitsI_succ] <;> rfl))
  ·repeat (first | exact subx_refl | exact subx_del | refine subx_put rfl ?_)
  ·(rw [bitsI_succ] <;> rfl)
 ·have gh1 := h1
  try simp only [nrm] at h1
  refine aw_exit ?_
  obtain rfl : i = m := by omega
  refine aw_seq ?_
  refine aw_region ?_
  refine al_op (op_move rfl) rfl (by simp) ?_
  refine al_op (op_assign rfl) rfl (by simp) ?_
  refine al_nil ?_
  refine aw_freeze (fun _ => false) (fsub_cons (t := 4) rfl (by first | exact .leaf _ _ (frz_whole rfl rfl (by first | rfl | (simp; done) | (simp; omega)) (clo_map (fun _ => rfl))) | exact .leaf _ _ (.vnil 1) | exact .leaf _ _ (.nil 1) | exact .leaf _ _ (.same _)) fsub_nil) ?_
  refine aw_ret ?_
  refine ⟨_, res_1 rfl rfl, ?_, rfl⟩
  rfl

theorem r_number4 (l : List Int) (hb : Bit01 l) (hl : l.length ≤ 40) : ACp Tryz.prog 30 [.list 1 (l.map encB)] (.v (.int .i64 ((num l : Nat) : Int))) := by
 refine acp_of rfl ?_
 refine ac_enter 21 Tryz.func30 rfl rfl (by simp) ?_
 refine aw_seq ?_
 refine aw_region ?_
 refine al_op (op_assign rfl) rfl (by simp) ?_
 refine al_nil ?_
 refine aw_seq ?_
 refine aw_region ?_
 refine al_op (op_assign rfl) rfl (by simp) ?_
 refine al_nil ?_
 refine aw_seq ?_
 refine aw_seq ?_
 refine aw_region ?_
 refine al_op (op_move rfl) rfl (by simp) ?_
 refine al_op (op_len_map Tryz.underlying28 rfl) rfl (by simp) ?_
 refine al_op (op_move rfl) rfl (by simp) ?_
 refine al_nil ?_
 refine aw_block ?_
 refine aw_forT (ι := Nat) [3, 8] [] (fun i => l.length - i) (fun i => i ≤ l.length) (fun i => ([(3, .v (.int .i64 ((numTo l i : Nat) : Int))), (8, .v (.int .i64 (i)))] : Env)) (fun i s => s) (0) ?_ ?_ ?_ (fun i hinv => ?_)
 ·exact Nat.zero_le _
 ·refine sub_cons (get_as rfl ?_) ?_; rotate_left; refine sub_cons (get_as rfl ?_) ?_; rotate_left; exact sub_nil
  all_goals (first | rfl | simp)
 ·rfl
 refine aw_seq ?_
 refine aw_region ?_
 refine al_op (op_lss rfl rfl) rfl (by simp) ?_
 refine al_nil ?_
 refine aw_seq ?_
 refine aw_cond rfl (fun h1 => ?_) (fun h1 => ?_)
 ·have gh1 := h1
  try simp only [nrm] at h1
  refine aw_skip ?_
  refine aw_seq ?_
  refine aw_block ?_
  refine aw_seq ?_
  refine aw_region ?_
  refine al_op (op_move rfl) rfl (by simp) ?_
  refine al_op (op_index_map default Tryz.underlying28 info44 rfl rfl rfl (by first | (with_reducible exact Int.toNat_natCast _) | rfl) (by omega) (by omega)) rfl (by simp) ?_
  refine al_op (op_load_rptr Tryz.underlying44 info44 rfl rfl) rfl (by simp) ?_
  refine al_op (op_assign rfl) rfl (by simp) ?_
  refine al_op (op_assign rfl) rfl (by simp) ?_
  refine al_nil ?_
  obtain ⟨g1, g2, g3⟩ := bit01_get hb i
  have hb3 := lt62 (numTo_lt hb (i + 1)) (by omega)
  have hna := num_add hb i
  refine aw_region ?_
  refine al_op (op_move rfl) rfl (by simp) ?_
  refine al_op (op_move rfl) rfl (by simp) ?_
  refine al_op (op_conv Tryz.underlying44 Tryz.underlying3 rfl (conv_nat (by omega) (by omega))) rfl (by simp) ?_
  refine al_op (op_move rfl) rfl (by simp) ?_
  refine al_op (op_shl rfl rfl (by omega) (shl_i64 (by omega) (by omega))) rfl (by simp) ?_
  refine al_op (op_add rfl rfl ((congrArg IntKind.i64.wrap hna).trans (wrap_i64 (by omega) (by omega)))) rfl (by simp) ?_
  refine al_op (op_assign rfl) rfl (by simp) ?_
  refine al_nil ?_
  refine aw_region ?_
  refine al_op (op_add rfl rfl (by first | exact wrap_i64 (by omega) (by omega))) rfl (by simp) ?_
  refine al_op (op_move rfl) rfl (by simp) ?_
  refine al_nil ?_
  refine ⟨i + 1, ?_, ?_, ?_, ?_, ?_⟩
  ·omega
  ·omega
  ·refine sub_cons (get_as rfl ?_) ?_; rotate_left; refine sub_cons (get_as rfl ?_) ?_; rotate_left; exact sub_nil
   all_goals (first | rfl | simp)
  ·repeat (first | exact subx_refl | exact subx_del | refine subx_put rfl ?_)
  ·rfl
 ·have gh1 := h1
  try simp only [nrm] at h1
  refine aw_exit ?_
  obtain rfl : i = l.length := by omega
  refine aw_seq ?_
  refine aw_region ?_
  refine al_op (op_move rfl) rfl (by simp) ?_
  refine al_op (op_assign rfl) rfl (by simp) ?_
  refine al_nil ?_
  refine aw_freeze (fun _ => false) (fsub_cons (t := 2) rfl (.leaf _ _ (.same _)) fsub_nil) ?_
  refine aw_ret ?_
  refine ⟨_, res_1 rfl rfl, ?_, rfl⟩
  rfl

theorem r_next4 (n : Net) (hr : n.Ready) (s j : Nat) (hs : s ≤ 4096) (hj : j ≤ 1024) : ACp Tryz.prog 39 [encN n, .v (.int .i64 ((s : Nat) : Int)), .v (.int .i64 ((j : Nat) : Int))] (.v (.int .i64 ((n.nextNum (s : Int) j : Nat) : Int))) := by
 refine acp_of rfl ?_
 have hn := hr.small
 have hv := hr.v
 have y1 := hr.i
 have y2 := hr.r
 have hj01 := bitsI_01 (j : Int) n.ins.length
 have hjl := bitsI_length (j : Int) n.ins.length
 have hk01 := bitsI_01 (s : Int) n.regs.length
 have hkl := bitsI_length (s : Int) n.regs.length
 have r1 := bit_bytes (bit01_bit hj01)
 have r2 := bit_bytes (bit01_bit hk01)
 have r3 : (bitsI (j : Int) n.ins.length).length ≤ 140737488355328 := by omega
 have r4 : (bitsI (s : Int) n.regs.length).length ≤ 140737488355328 := by omega
 obtain ⟨t1, t2, t3⟩ := Net.next_01 hv (s : Int) j
 refine ac_enter 28 Tryz.func39 rfl rfl (by simp) ?_
 refine aw_seq ?_
 refine aw_region ?_
 (refine al_opR (op_box 3 rfl rfl (by first | rfl | exact live_one rfl | (repeat (first | exact all_live_nil | refine all_live_clo rfl ?_ | refine all_live_slice rfl ?_ | refine all_live_map rfl ?_ | refine all_live_ptr rfl ?_)))) rfl (by simp) ?_; rintro _ _ ⟨ver3, rfl, rfl⟩)
 refine al_op (op_assign rfl) rfl (by simp) ?_
 refine al_nil ?_
 refine aw_seq ?_
 refine aw_any (Checked.mixed Tryz.checked) ?_
 apply aany_seg (p := 0) (q := 19) (by kernel_rfl) rfl (by decide)
 ·
  apply ql_plain rfl (op_load_ptr Tryz.underlying27 info27 rfl rfl rfl rfl)
  apply ql_plain rfl (op_move rfl)
  apply ql_plain rfl (op_field_ptr Tryz.underlying27 rfl info22 (by decide) rfl rfl rfl)
  apply ql_plain rfl (op_load_ptr Tryz.underlying22 info22 rfl rfl rfl rfl)
  apply ql_plain rfl (op_len_map Tryz.underlying22 rfl)
  apply ql_call into55 rfl rfl rfl ((r_bits4 _ _ (by omega) (by omega) (by omega)) _)
  apply ql_plain rfl (op_move rfl)
  apply ql_plain rfl (op_field_ptr Tryz.underlying27 rfl info23 (by decide) rfl rfl rfl)
  apply ql_plain rfl (op_load_ptr Tryz.underlying23 info23 rfl rfl rfl rfl)
  apply ql_plain rfl (op_len_map Tryz.underlying23 rfl)
  apply ql_call into55 rfl rfl rfl ((r_bits4 _ _ (by omega) (by omega) (by omega)) _)
  apply ql_call into65 rfl rfl rfl ((r_Eval _ (by assumption) _ _ (by assumption) (by assumption) (by assumption) (by assumption)) _)
  apply ql_plain rfl (op_move rfl)
  apply ql_plain rfl (op_extract rfl rfl rfl)
  apply ql_plain rfl (op_extract rfl rfl rfl)
  apply ql_plain rfl (op_extract rfl rfl rfl)
  apply ql_plain rfl (op_assign rfl)
  apply ql_plain rfl (op_assign rfl)
  apply ql_plain rfl (op_assign rfl)
  exact ql_nil
 ·simp
 refine aany_end rfl (by kernel_rfl) ?_
 refine aw_seq ?_
 refine aw_region ?_
 refine al_op (op_move rfl) rfl (by simp) ?_
 refine al_callp into30 rfl rfl rfl ((r_number4 _ (by assumption) (by omega)) _) (by simp) ?_
 refine al_op (op_assign rfl) rfl (by simp) ?_
 refine al_nil ?_
 refine aw_freeze (fun _ => false) (fsub_cons (t := 6) rfl (.leaf _ _ (.same _)) fsub_nil) ?_
 refine aw_ret ?_
 refine ⟨_, res_1 rfl rfl, ?_, rfl⟩
 rw [Net.next_eval hv]
end Go.Proofs.YtnnklpmgncbgnaaGreat

/- Printed walks (gen.py, gates_ann.py): part 252. -/


set_option linter.unusedVariables false
set_option linter.unusedSimpArgs false
set_option maxRecDepth 20000
set_option maxHeartbeats 40000000
namespace Go.Proofs.YtnnklpmgncbgnaaGreat
open Go

theorem r_steps (n : Net) (hr : n.Ready) : ACp Tryz.prog 26 [encN n] (.list 1 (n.stepsL.map encI)) := by
 refine acp_of rfl ?_
 have hn := hr.small
 have y1 := hr.i
 have y2 := hr.r
 have z1 := hn.insL
 have z2 := hn.regsL
 have hsl := Net.states_le hr.r
 have hm2 := Net.many2_le hr.i
 obtain ⟨hb0, hb1⟩ := hr.begin
 have hfl : n.firsts.length = n.regs.length := by simp [Net.firsts]
 have hrl : (List.replicate ((n.states : Nat) : Int).toNat (0 : Int)).length = n.states := by simp
 refine ac_enter 70 Tryz.func26 rfl rfl (by simp) ?_
 refine aw_seq ?_
 refine aw_region ?_
 (refine al_opR (op_box 1 rfl rfl (by first | rfl | exact live_one rfl | (repeat (first | exact all_live_nil | refine all_live_clo rfl ?_ | refine all_live_slice rfl ?_ | refine all_live_map rfl ?_ | refine all_live_ptr rfl ?_)))) rfl (by simp) ?_; rintro _ _ ⟨ver1, rfl, rfl⟩)
 refine al_op (op_assign rfl) rfl (by simp) ?_
 refine al_nil ?_
 refine aw_seq ?_
 refine aw_region ?_
 refine al_op (op_field_ptr Tryz.underlying27 rfl info23 (by decide) rfl rfl rfl) rfl (by simp) ?_
 refine al_op (op_load_ptr Tryz.underlying23 info23 rfl rfl rfl rfl) rfl (by simp) ?_
 refine al_op (op_len_map Tryz.underlying23 rfl) rfl (by simp) ?_
 refine al_op (val_as (.v (.int .i64 ((n.states : Nat) : Int))) (op_shl (a := ((1 : Nat) : Int)) rfl rfl (by omega) (shl_i64 (by decide) (by omega))) (by rfl)) rfl (by simp) ?_
 (refine al_opR (op_makeN (f := encI) 14 (0 : Int) Tryz.underlying31 info3 rfl rfl (by decide) rfl rfl rfl rfl (by omega) (by show (8 : Int) * _ ≤ _; omega) (by omega)) rfl (by simp) ?_; rintro _ _ ⟨ver14, rfl, rfl⟩)
 refine al_op (op_assign rfl) rfl (by simp) ?_
 refine al_nil ?_
 refine aw_seq ?_
 refine aw_seq ?_
 refine aw_region ?_
 refine al_op (op_move rfl) rfl (by simp) ?_
 refine al_op (op_len_slice Tryz.underlying31 rfl rfl) rfl (by simp) ?_
 refine al_op (op_move rfl) rfl (by simp) ?_
 refine al_nil ?_
 refine aw_block ?_
 apply aw_only
 ·
  (first | apply sub_cons (t := 1) rfl | skip)
  (first | apply sub_cons (t := 2) rfl | skip)
  (first | apply sub_cons (t := 3) rfl | skip)
  (first | apply sub_cons (t := 16) rfl | skip)
  (first | apply sub_cons (t := 17) rfl | skip)
  exact sub_nil
 refine aw_forT (ι := Nat) [17] [] (fun k => n.states - k) (fun k => k ≤ n.states) (fun k => ([(17, .v (.int .i64 (k)))] : Env)) (fun k s => ([(1, ver1, .row 4 [[.list 1 (n.ins.map encS), .list 3 (n.regs.map encR), .list 2 (n.gates.map encG), .list 2 (n.outs.map encP)]]), (14, ver14, .row 1 ((fillN n.states k).map encI))] : Store)) (0) ?_ ?_ ?_ (fun k hinv => ?_)
 ·exact Nat.zero_le _
 ·refine sub_cons (get_as rfl ?_) ?_; rotate_left; exact sub_nil
  all_goals (first | rfl | simp)
 ·(rw [fillN_zero] <;> rfl)
 have hfl2 := fillN_len hinv
 refine aw_seq ?_
 refine aw_region ?_
 refine al_op (op_lss rfl rfl) rfl (by simp) ?_
 refine al_nil ?_
 refine aw_seq ?_
 refine aw_cond rfl (fun h1 => ?_) (fun h1 => ?_)
 ·have gh1 := h1
  try simp only [nrm] at h1
  refine aw_skip ?_
  refine aw_seq ?_
  refine aw_block ?_
  refine aw_seq ?_
  refine aw_region ?_
  refine al_op (op_move rfl) rfl (by simp) ?_
  refine al_op (op_assign rfl) rfl (by simp) ?_
  refine al_nil ?_
  refine aw_region ?_
  refine al_op (op_move rfl) rfl (by simp) ?_
  refine al_op (op_move rfl) rfl (by simp) ?_
  refine al_op (op_index_slice Tryz.underlying31 info3 rfl rfl rfl rfl (by omega) (by omega)) rfl (by simp) ?_
  refine al_op (op_store_map (-1 : Int) info3 rfl rfl rfl (by omega) rfl rfl rfl (Nat.le_of_ble_eq_true rfl) rfl) rfl (by simp) ?_
  refine al_nil ?_
  refine aw_region ?_
  refine al_op (op_add rfl rfl (by first | exact wrap_i64 (by omega) (by omega))) rfl (by simp) ?_
  refine al_op (op_move rfl) rfl (by simp) ?_
  refine al_nil ?_
  refine ⟨k + 1, ?_, ?_, ?_, ?_, ?_⟩
  ·omega
  ·first | trivial | omega
  ·refine sub_cons (get_as rfl ?_) ?_; rotate_left; exact sub_nil
   all_goals (first | rfl | simp)
  ·repeat (first | exact subx_refl | exact subx_del | refine subx_put rfl ?_)
  ·(rw [← fillN_step (by omega)] <;> rfl)
 ·have gh1 := h1
  try simp only [nrm] at h1
  refine aw_exit ?_
  obtain rfl : k = n.states := by omega
  refine aw_seq ?_
  have hfl2 := fillN_len (Nat.le_refl n.states)
  refine aw_region ?_
  refine al_op (op_move rfl) rfl (by simp) ?_
  refine al_op (op_load_ptr Tryz.underlying27 info27 rfl rfl rfl rfl) rfl (by simp) ?_
  refine al_callp into31 rfl rfl rfl ((r_First4 _ (by assumption)) _) (by simp) ?_
  refine al_callp into30 rfl rfl rfl (r_number4 _ hb0 (by omega) _) (by simp) ?_
  refine al_op (op_index_slice Tryz.underlying31 info3 rfl rfl rfl rfl (by omega) (by omega)) rfl (by simp) ?_
  refine al_op (op_store_map (0 : Int) info3 rfl rfl rfl (by omega) rfl rfl rfl (Nat.le_of_ble_eq_true rfl) rfl) rfl (by simp) ?_
  refine al_nil ?_
  refine aw_seq ?_
  refine aw_region ?_
  refine al_op (op_assign rfl) rfl (by simp) ?_
  refine al_nil ?_
  refine aw_block ?_
  apply aw_only
  ·
   (first | apply sub_cons (t := 1) rfl | skip)
   (first | apply sub_cons (t := 2) rfl | skip)
   (first | apply sub_cons (t := 3) rfl | skip)
   (first | apply sub_cons (t := 5) rfl | skip)
   exact sub_nil
  refine aw_for2T (α := Nat) (β := List Int) [2, 5] [] (fun c o0 => n.states - c) (fun c o0 => SI n c 0 0 false o0) (fun c o0 => ([(5, .v (.int .i64 (c)))] : Env)) (fun c o0 st => ([(1, ver1, .row 4 [[.list 1 (n.ins.map encS), .list 3 (n.regs.map encR), .list 2 (n.gates.map encG), .list 2 (n.outs.map encP)]]), (14, ver14, .row 1 (o0.map encI))] : Store)) (0) (((fillN n.states n.states).set (0 + num n.firsts) 0)) ?_ ?_ ?_ (fun c o0 hinv => ?_)
  ·exact si_init hr
  ·refine sub_cons (get_as rfl ?_) ?_; rotate_left; exact sub_nil
   all_goals (first | rfl | simp)
  ·rfl
  have hO := hinv
  have hOl := hO.len
  have hOc := hO.c0
  refine aw_seq ?_
  refine aw_block ?_
  refine aw_seq ?_
  refine aw_region ?_
  refine al_op (op_assign rfl) rfl (by simp) ?_
  refine al_nil ?_
  refine aw_seq ?_
  refine aw_seq ?_
  refine aw_region ?_
  refine al_op (op_move rfl) rfl (by simp) ?_
  refine al_op (op_len_slice Tryz.underlying31 rfl rfl) rfl (by simp) ?_
  refine al_op (op_move rfl) rfl (by simp) ?_
  refine al_nil ?_
  refine aw_block ?_
  refine aw_for3T (α := Nat) (β := Bool) (γ := List Int) [6, 7, 8, 9, 33, 34, 35, 36, 37, 38, 39, 40, 41, 42, 43, 44, 45, 46, 47, 48, 49, 50, 51, 52, 53, 54, 55, 56, 57, 58, 59, 60, 61, 62, 63, 64, 65, 66] [] (fun s b1 o1 => n.states - s) (fun s b1 o1 => SI n c s 0 b1 o1 ∧ s ≤ n.states) (fun s b1 o1 => ([(6, .v (.bool (b1))), (33, .v (.int .i64 (s)))] : Env)) (fun s b1 o1 st => ([(1, ver1, .row 4 [[.list 1 (n.ins.map encS), .list 3 (n.regs.map encR), .list 2 (n.gates.map encG), .list 2 (n.outs.map encP)]]), (14, ver14, .row 1 (o1.map encI))] : Store)) (0) (false) (o0) ?_ ?_ ?_ (fun s b1 o1 hinv => ?_)
  ·exact ⟨hO, Nat.zero_le _⟩
  ·refine sub_cons (get_as rfl ?_) ?_; rotate_left; refine sub_cons (get_as rfl ?_) ?_; rotate_left; exact sub_nil
   all_goals (first | rfl | simp)
  ·rfl
  obtain ⟨hM, hMs⟩ := hinv
  have hMl := hM.len
  refine aw_seq ?_
  refine aw_region ?_
  refine al_op (op_lss rfl rfl) rfl (by simp) ?_
  refine al_nil ?_
  refine aw_seq ?_
  refine aw_cond rfl (fun h2 => ?_) (fun h2 => ?_)
  ·have gh2 := h2
   try simp only [nrm] at h2
   refine aw_skip ?_
   refine aw_seq ?_
   refine aw_block ?_
   refine aw_seq ?_
   refine aw_region ?_
   refine al_op (op_move rfl) rfl (by simp) ?_
   refine al_op (op_assign rfl) rfl (by simp) ?_
   refine al_nil ?_
   refine aw_seq ?_
   refine aw_region ?_
   refine al_op (op_assign rfl) rfl (by simp) ?_
   refine al_nil ?_
   refine aw_block ?_
   refine aw_for3T (α := Nat) (β := Bool) (γ := List Int) [6, 8, 9, 36, 37, 38, 39, 40, 41, 42, 43, 44, 45, 46, 47, 48, 49, 50, 51, 52, 53, 54, 55, 56, 57, 58, 59, 60, 61, 62, 63, 64, 65] [] (fun i b2 o2 => n.many2 - i) (fun i b2 o2 => SI n c s i b2 o2) (fun i b2 o2 => ([(6, .v (.bool (b2))), (8, .v (.int .i64 (i)))] : Env)) (fun i b2 o2 st => ([(1, ver1, .row 4 [[.list 1 (n.ins.map encS), .list 3 (n.regs.map encR), .list 2 (n.gates.map encG), .list 2 (n.outs.map encP)]]), (14, ver14, .row 1 (o2.map encI))] : Store)) (0) (b1) (o1) ?_ ?_ ?_ (fun i b2 o2 hinv => ?_)
   ·exact hM
   ·refine sub_cons (get_as rfl ?_) ?_; rotate_left; refine sub_cons (get_as rfl ?_) ?_; rotate_left; exact sub_nil
    all_goals (first | rfl | simp)
   ·rfl
   have hI := hinv
   have hIl := hI.len
   refine aw_seq ?_
   refine aw_seq ?_
   refine aw_region ?_
   refine al_op (op_move rfl) rfl (by simp) ?_
   refine al_op (op_move rfl) rfl (by simp) ?_
   refine al_op (op_index_slice Tryz.underlying31 info3 rfl rfl rfl rfl (by omega) (by omega)) rfl (by simp) ?_
   refine al_op (val_as (.v (.int .i64 (o2.getD s default))) (op_load_map Tryz.underlying3 info3 rfl rfl (by omega) rfl) (by simp)) rfl (by simp) ?_
   refine al_op (op_move rfl) rfl (by simp) ?_
   refine al_op (op_eql rfl rfl) rfl (by simp) ?_
   refine al_op (op_move rfl) rfl (by simp) ?_
   apply al_and 7 42 49 rfl
   ·intro h3; have gh3 := h3
    try simp only [nrm] at h3
    refine al_take (op_move rfl) rfl rfl rfl rfl (by simp) ?_
    refine al_take (op_field_ptr Tryz.underlying27 rfl info22 (by decide) rfl rfl rfl) rfl rfl rfl rfl (by simp) ?_
    refine al_take (op_load_ptr Tryz.underlying22 info22 rfl rfl rfl rfl) rfl rfl rfl rfl (by simp) ?_
    refine al_take (op_len_map Tryz.underlying22 rfl) rfl rfl rfl rfl (by simp) ?_
    refine al_take (val_as (.v (.int .i64 ((n.many2 : Nat) : Int))) (op_shl (a := ((1 : Nat) : Int)) rfl rfl (by omega) (shl_i64 (by decide) (by omega))) (by rfl)) rfl rfl rfl rfl (by simp) ?_
    refine al_take (op_lss rfl rfl) rfl rfl rfl rfl (by simp) ?_
    refine al_op (op_pick rfl rfl) rfl (by simp) ?_
    refine al_nil ⟨rfl, rfl, rfl, keep_of ?_⟩
    repeat (first | exact subx_refl | exact subx_known rfl gh3 subx_refl | refine subx_put rfl ?_)
   ·intro h3; have gh3 := h3
    try simp only [nrm] at h3
    refine al_pass rfl rfl rfl rfl (by simp) ?_
    refine al_pass rfl rfl rfl rfl (by simp) ?_
    refine al_pass rfl rfl rfl rfl (by simp) ?_
    refine al_pass rfl rfl rfl rfl (by simp) ?_
    refine al_pass rfl rfl rfl rfl (by simp) ?_
    refine al_pass rfl rfl rfl rfl (by simp) ?_
    refine al_op (op_pick rfl rfl) rfl (by simp) ?_
    refine al_nil ⟨rfl, rfl, rfl, keep_of ?_⟩
    repeat (first | exact subx_refl | exact subx_known rfl gh3 subx_refl | refine subx_put rfl ?_)
   refine al_nil ?_
   refine aw_cond rfl (fun h4 => ?_) (fun h4 => ?_)
   ·have gh4 := h4
    try simp only [nrm] at h4
    refine aw_skip ?_
    refine aw_seq ?_
    refine aw_block ?_
    refine aw_seq ?_
    obtain ⟨hd1, hd2⟩ := hI.dist (by omega) gh4
    have hc0 := hI.c0
    have hil := hI.len
    have hst := n.nextNum_st (s : Int) i
    refine aw_region ?_
    refine al_op (op_load_ptr Tryz.underlying27 info27 rfl rfl rfl rfl) rfl (by simp) ?_
    refine al_op (op_move rfl) rfl (by simp) ?_
    refine al_op (op_move rfl) rfl (by simp) ?_
    refine al_callp into39 rfl rfl rfl (r_next4 n hr (s) (i) (by omega) (by omega) _) (by simp) ?_
    refine al_op (op_assign rfl) rfl (by simp) ?_
    refine al_nil ?_
    refine aw_seq ?_
    refine aw_region ?_
    refine al_op (op_move rfl) rfl (by simp) ?_
    refine al_op (op_move rfl) rfl (by simp) ?_
    refine al_op (op_index_slice Tryz.underlying31 info3 rfl rfl rfl rfl (by omega) (by omega)) rfl (by simp) ?_
    refine al_op (val_as (.v (.int .i64 (o2.getD (n.nextNum (s : Int) i) default))) (op_load_map Tryz.underlying3 info3 rfl rfl (by omega) rfl) (by simp)) rfl (by simp) ?_
    refine al_op (op_lss rfl rfl) rfl (by simp) ?_
    refine al_nil ?_
    refine aw_cond rfl (fun h5 => ?_) (fun h5 => ?_)
    ·have gh5 := h5
     try simp only [nrm] at h5
     refine aw_seq ?_
     refine aw_region ?_
     refine al_op (op_move rfl) rfl (by simp) ?_
     refine al_op (op_move rfl) rfl (by simp) ?_
     refine al_op (op_move rfl) rfl (by simp) ?_
     refine al_op (op_add rfl rfl (by first | exact wrap_i64 (by omega) (by omega))) rfl (by simp) ?_
     refine al_op (op_index_slice Tryz.underlying31 info3 rfl rfl rfl rfl (by omega) (by omega)) rfl (by simp) ?_
     refine al_op (op_store_map ((c : Int) + 1) info3 rfl rfl rfl (by omega) rfl rfl rfl (Nat.le_of_ble_eq_true rfl) rfl) rfl (by simp) ?_
     refine al_nil ?_
     refine aw_region ?_
     refine al_op (op_assign rfl) rfl (by simp) ?_
     refine al_nil ?_
     refine aw_region ?_
     refine al_op (op_move rfl) rfl (by simp) ?_
     refine al_op (op_add rfl rfl (by first | exact wrap_i64 (by omega) (by omega))) rfl (by simp) ?_
     refine al_op (op_assign rfl) rfl (by simp) ?_
     refine al_nil ?_
     refine ⟨i + 1, true, (o2.set (0 + n.nextNum (s : Int) i) ((c : Int) + 1)), ?_, ?_, ?_, ?_, ?_⟩
     ·omega
     ·first | exact hI.new hr hd1 hd2 (by assumption) | exact hI.old (by assumption)
     ·refine sub_cons (get_as rfl ?_) ?_; rotate_left; refine sub_cons (get_as rfl ?_) ?_; rotate_left; exact sub_nil
      all_goals (first | rfl | simp)
     ·repeat (first | exact subx_refl | exact subx_del | refine subx_put rfl ?_)
     ·rfl
    ·have gh5 := h5
     try simp only [nrm] at h5
     refine aw_skip ?_
     refine aw_region ?_
     refine al_op (op_move rfl) rfl (by simp) ?_
     refine al_op (op_add rfl rfl (by first | exact wrap_i64 (by omega) (by omega))) rfl (by simp) ?_
     refine al_op (op_assign rfl) rfl (by simp) ?_
     refine al_nil ?_
     refine ⟨i + 1, b2, o2, ?_, ?_, ?_, ?_, ?_⟩
     ·omega
     ·first | exact hI.new hr hd1 hd2 (by assumption) | exact hI.old (by assumption)
     ·refine sub_cons (get_as rfl ?_) ?_; rotate_left; refine sub_cons (get_as rfl ?_) ?_; rotate_left; exact sub_nil
      all_goals (first | rfl | simp)
     ·repeat (first | exact subx_refl | exact subx_del | refine subx_put rfl ?_)
     ·rfl
   ·have gh4 := h4
    try simp only [nrm] at h4
    refine aw_exit ?_
    skip
    refine aw_region ?_
    refine al_op (op_add rfl rfl (by first | exact wrap_i64 (by omega) (by omega))) rfl (by simp) ?_
    refine al_op (op_move rfl) rfl (by simp) ?_
    refine al_nil ?_
    refine ⟨s + 1, b2, o2, ?_, ?_, ?_, ?_, ?_⟩
    ·omega
    ·exact ⟨hI.skip (by omega) (by assumption), by omega⟩
    ·refine sub_cons (get_as rfl ?_) ?_; rotate_left; refine sub_cons (get_as rfl ?_) ?_; rotate_left; exact sub_nil
     all_goals (first | rfl | simp)
    ·repeat (first | exact subx_refl | exact subx_del | refine subx_put rfl ?_)
    ·rfl
  ·have gh2 := h2
   try simp only [nrm] at h2
   refine aw_exit ?_
   skip
   refine aw_seq ?_
   refine aw_region ?_
   refine al_op (op_move rfl) rfl (by simp) ?_
   refine al_op (op_not rfl) rfl (by simp) ?_
   refine al_nil ?_
   refine aw_cond rfl (fun h6 => ?_) (fun h6 => ?_)
   ·have gh6 := h6
    try simp only [nrm] at h6
    refine aw_seq ?_
    refine aw_region ?_
    refine al_op (op_move rfl) rfl (by simp) ?_
    refine al_op (op_assign rfl) rfl (by simp) ?_
    refine al_nil ?_
    refine aw_freeze (fun _ => false) (fsub_cons (t := 2) rfl (by first | exact .leaf _ _ (frz_whole rfl rfl (by first | rfl | (simp; done) | (simp; omega)) (clo_map (fun _ => rfl))) | exact .leaf _ _ (.vnil 1) | exact .leaf _ _ (.nil 1) | exact .leaf _ _ (.same _)) fsub_nil) ?_
    refine aw_ret ?_
    refine ⟨_, res_1 rfl rfl, ?_, rfl⟩
    (obtain rfl : b1 = false := by simpa using (show (!b1) = true by assumption)); (obtain rfl : s = n.states := by omega); rw [← hM.last hr] <;> rfl
   ·have gh6 := h6
    try simp only [nrm] at h6
    refine aw_skip ?_
    refine aw_region ?_
    refine al_op (op_move rfl) rfl (by simp) ?_
    refine al_op (op_add rfl rfl (by first | exact wrap_i64 (by omega) (by omega))) rfl (by simp) ?_
    refine al_op (op_assign rfl) rfl (by simp) ?_
    refine al_nil ?_
    refine ⟨c + 1, o1, ?_, ?_, ?_, ?_, ?_⟩
    ·(obtain rfl : b1 = true := by simpa using (show (!b1) = false by assumption)); (obtain rfl : s = n.states := by omega); (have := (hM.next hr).c0); omega
    ·(obtain rfl : b1 = true := by simpa using (show (!b1) = false by assumption)); (obtain rfl : s = n.states := by omega); exact hM.next hr
    ·refine sub_cons (get_as rfl ?_) ?_; rotate_left; exact sub_nil
     all_goals (first | rfl | simp)
    ·repeat (first | exact subx_refl | exact subx_del | refine subx_put rfl ?_)
    ·rfl

theorem r_Reach4 (n : Net) (hn : n.Small) : ACp Tryz.prog 7 [encN n] (.tuple [.list 1 (n.reach.1.map encI), .v (.int .i64 (n.reach.2))]) := by
 refine acp_of rfl ?_
 refine ac_enter 29 Tryz.func7 rfl rfl (by simp) ?_
 refine aw_seq ?_
 refine aw_region ?_
 (refine al_opR (op_box 1 rfl rfl (by first | rfl | exact live_one rfl | (repeat (first | exact all_live_nil | refine all_live_clo rfl ?_ | refine all_live_slice rfl ?_ | refine all_live_map rfl ?_ | refine all_live_ptr rfl ?_)))) rfl (by simp) ?_; rintro _ _ ⟨ver1, rfl, rfl⟩)
 refine al_op (op_assign rfl) rfl (by simp) ?_
 refine al_op (op_assign rfl) rfl (by simp) ?_
 refine al_nil ?_
 refine aw_seq ?_
 refine aw_seq ?_
 refine aw_region ?_
 refine al_op (op_load_ptr Tryz.underlying27 info27 rfl rfl rfl rfl) rfl (by simp) ?_
 refine al_callp into24 rfl rfl rfl ((r_Valid _ (by assumption)) _) (by simp) ?_
 refine al_op (op_not rfl) rfl (by simp) ?_
 refine al_nil ?_
 refine aw_cond rfl (fun h1 => ?_) (fun h1 => ?_)
 ·have gh1 := h1
  try simp only [nrm] at h1
  refine aw_seq ?_
  refine aw_region ?_
  refine al_op (op_assign rfl) rfl (by simp) ?_
  refine al_op (op_assign rfl) rfl (by simp) ?_
  refine al_nil ?_
  refine aw_freeze (fun _ => false) (fsub_cons (t := 2) rfl (by first | exact .leaf _ _ (frz_whole rfl rfl (by first | rfl | (simp; done) | (simp; omega)) (clo_map (fun _ => rfl))) | exact .leaf _ _ (.vnil 1) | exact .leaf _ _ (.nil 1) | exact .leaf _ _ (.same _)) (fsub_cons (t := 3) rfl (.leaf _ _ (.same _)) fsub_nil)) ?_
  refine aw_ret ?_
  refine ⟨_, res_2 rfl rfl rfl rfl rfl, ?_, rfl⟩
  rw [Net.reach_bad gh1] <;> rfl
 ·have gh1 := h1
  try simp only [nrm] at h1
  refine aw_skip ?_
  refine aw_seq ?_
  refine aw_seq ?_
  refine aw_region ?_
  refine al_op (op_load_ptr Tryz.underlying27 info27 rfl rfl rfl rfl) rfl (by simp) ?_
  refine al_callp into25 rfl rfl rfl ((r_small4 _ (by assumption)) _) (by simp) ?_
  refine al_op (op_not rfl) rfl (by simp) ?_
  refine al_nil ?_
  refine aw_cond rfl (fun h2 => ?_) (fun h2 => ?_)
  ·have gh2 := h2
   try simp only [nrm] at h2
   refine aw_seq ?_
   refine aw_region ?_
   refine al_op (op_assign rfl) rfl (by simp) ?_
   refine al_op (op_assign rfl) rfl (by simp) ?_
   refine al_nil ?_
   refine aw_freeze (fun _ => false) (fsub_cons (t := 2) rfl (by first | exact .leaf _ _ (frz_whole rfl rfl (by first | rfl | (simp; done) | (simp; omega)) (clo_map (fun _ => rfl))) | exact .leaf _ _ (.vnil 1) | exact .leaf _ _ (.nil 1) | exact .leaf _ _ (.same _)) (fsub_cons (t := 3) rfl (.leaf _ _ (.same _)) fsub_nil)) ?_
   refine aw_ret ?_
   refine ⟨_, res_2 rfl rfl rfl rfl rfl, ?_, rfl⟩
   rw [Net.reach_big (by assumption) gh2] <;> rfl
  ·have gh2 := h2
   try simp only [nrm] at h2
   have hfe := Net.fit_good (by assumption) (by assumption)
   have hr := Net.fit_ready hn hfe
   have hsl := Net.states_le hr.r
   have hstl := n.stepsL_len
   have hstl2 : n.stepsL.length ≤ 1000000000 := by omega
   refine aw_skip ?_
   refine aw_seq ?_
   refine aw_region ?_
   refine al_op (op_assign rfl) rfl (by simp) ?_
   refine al_nil ?_
   refine aw_seq ?_
   refine aw_seq ?_
   refine aw_region ?_
   refine al_op (op_load_ptr Tryz.underlying27 info27 rfl rfl rfl rfl) rfl (by simp) ?_
   refine al_callp into26 rfl rfl rfl ((r_steps _ (by assumption)) _) (by simp) ?_
   refine al_op (op_len_map Tryz.underlying31 rfl) rfl (by simp) ?_
   refine al_op (op_move rfl) rfl (by simp) ?_
   refine al_nil ?_
   refine aw_block ?_
   refine aw_own_map encI 4 1 4 rfl rfl (fun ver4 => ?_)
   refine aw_for2T (α := Nat) (β := Nat) [4, 16] [] (fun s ver => n.stepsL.length - s) (fun s ver => s ≤ n.stepsL.length) (fun s ver => ([(4, .slice 4 ver 0 (reachTo n.stepsL s).length), (16, .v (.int .i64 (s)))] : Env)) (fun s ver st => ([(1, ver1, .row 4 [[.list 1 (n.ins.map encS), .list 3 (n.regs.map encR), .list 2 (n.gates.map encG), .list 2 (n.outs.map encP)]]), (4, ver, .row 1 ((reachTo n.stepsL s).map encI))] : Store)) (0) (ver4) ?_ ?_ ?_ (fun s ver hinv => ?_)
   ·exact Nat.zero_le _
   ·refine sub_cons (get_as rfl ?_) ?_; rotate_left; refine sub_cons (get_as rfl ?_) ?_; rotate_left; exact sub_nil
    all_goals (first | rfl | (rw [reachTo_yes (by assumption)] <;> simp; done) | (rw [reachTo_no (by assumption)] <;> rfl) | simp)
   ·rfl
   have hrt := reachTo_len n.stepsL s
   refine aw_seq ?_
   refine aw_region ?_
   refine al_op (op_lss rfl rfl) rfl (by simp) ?_
   refine al_nil ?_
   refine aw_seq ?_
   refine aw_cond rfl (fun h3 => ?_) (fun h3 => ?_)
   ·have gh3 := h3
    try simp only [nrm] at h3
    refine aw_skip ?_
    refine aw_seq ?_
    refine aw_block ?_
    refine aw_seq ?_
    refine aw_region ?_
    refine al_op (op_move rfl) rfl (by simp) ?_
    refine al_op (op_index_map default Tryz.underlying31 info3 rfl rfl rfl (by first | (with_reducible exact Int.toNat_natCast _) | rfl) (by omega) (by omega)) rfl (by simp) ?_
    refine al_op (op_load_rptr Tryz.underlying3 info3 rfl rfl) rfl (by simp) ?_
    refine al_op (op_assign rfl) rfl (by simp) ?_
    refine al_op (op_assign rfl) rfl (by simp) ?_
    refine al_nil ?_
    refine aw_seq ?_
    refine aw_region ?_
    refine al_op (op_move rfl) rfl (by simp) ?_
    refine al_op (op_geq rfl rfl) rfl (by simp) ?_
    refine al_nil ?_
    refine aw_cond rfl (fun h4 => ?_) (fun h4 => ?_)
    ·have gh4 := h4
     try simp only [nrm] at h4
     refine aw_region ?_
     refine al_op (op_move rfl) rfl (by simp) ?_
     refine al_op (op_move rfl) rfl (by simp) ?_
     refine al_op (op_buildSlice Tryz.underlying31 info3 rfl rfl (by decide) rfl (by decide) rfl (by first | rfl | (repeat (first | exact parts_nil | refine parts_cons rfl (by repeat (first | exact all_live_nil | refine all_live_clo rfl ?_ | refine all_live_slice rfl ?_ | refine all_live_map rfl ?_ | refine all_live_ptr rfl ?_)) ?_))) rfl rfl rfl) rfl (by simp) ?_
     (refine al_opR (op_append_one (s : Int) Tryz.underlying31 Tryz.underlying31 rfl info3 rfl rfl (by decide) rfl rfl rfl (by first | rfl | simp) rfl rfl (by first | omega | (simp; done) | (simp; omega)) (by show _ * 8 ≤ _; first | omega | (simp; done) | (simp; omega))) rfl (by simp) ?_; rintro _ _ ⟨ver26, rfl, rfl⟩)
     refine al_op (op_assign rfl) rfl (by simp) ?_
     refine al_nil ?_
     refine aw_region ?_
     refine al_op (op_add rfl rfl (by first | exact wrap_i64 (by omega) (by omega))) rfl (by simp) ?_
     refine al_op (op_move rfl) rfl (by simp) ?_
     refine al_nil ?_
     refine ⟨s + 1, ver26, ?_, ?_, ?_, ?_, ?_⟩
     ·omega
     ·first | trivial | omega
     ·refine sub_cons (get_as rfl ?_) ?_; rotate_left; refine sub_cons (get_as rfl ?_) ?_; rotate_left; exact sub_nil
      all_goals (first | rfl | (rw [reachTo_yes (by assumption)] <;> simp; done) | (rw [reachTo_no (by assumption)] <;> rfl) | simp)
     ·repeat (first | exact subx_refl | exact subx_del | refine subx_put rfl ?_)
     ·first | (rw [reachTo_yes (by assumption), List.map_append] <;> rfl) | (rw [reachTo_no (by assumption)] <;> rfl)
    ·have gh4 := h4
     try simp only [nrm] at h4
     refine aw_skip ?_
     refine aw_region ?_
     refine al_op (op_add rfl rfl (by first | exact wrap_i64 (by omega) (by omega))) rfl (by simp) ?_
     refine al_op (op_move rfl) rfl (by simp) ?_
     refine al_nil ?_
     refine ⟨s + 1, ver, ?_, ?_, ?_, ?_, ?_⟩
     ·omega
     ·first | trivial | omega
     ·refine sub_cons (get_as rfl ?_) ?_; rotate_left; refine sub_cons (get_as rfl ?_) ?_; rotate_left; exact sub_nil
      all_goals (first | rfl | (rw [reachTo_yes (by assumption)] <;> simp; done) | (rw [reachTo_no (by assumption)] <;> rfl) | simp)
     ·repeat (first | exact subx_refl | exact subx_del | refine subx_put rfl ?_)
     ·first | (rw [reachTo_yes (by assumption), List.map_append] <;> rfl) | (rw [reachTo_no (by assumption)] <;> rfl)
   ·have gh3 := h3
    try simp only [nrm] at h3
    refine aw_exit ?_
    obtain rfl : s = n.stepsL.length := by omega
    have hrs := Net.reach_steps hr
    rw [← hstl] at hrs
    refine aw_seq ?_
    refine aw_region ?_
    refine al_op (op_move rfl) rfl (by simp) ?_
    refine al_op (op_assign rfl) rfl (by simp) ?_
    refine al_op (op_assign rfl) rfl (by simp) ?_
    refine al_nil ?_
    refine aw_freeze (fun _ => false) (fsub_cons (t := 2) rfl (by first | exact .leaf _ _ (frz_whole rfl rfl (by first | rfl | (simp; done) | (simp; omega)) (clo_map (fun _ => rfl))) | exact .leaf _ _ (.vnil 1) | exact .leaf _ _ (.nil 1) | exact .leaf _ _ (.same _)) (fsub_cons (t := 3) rfl (.leaf _ _ (.same _)) fsub_nil)) ?_
    refine aw_ret ?_
    refine ⟨_, res_2 rfl rfl rfl rfl rfl, ?_, rfl⟩
    rw [Net.reach_ok hr hfe, hrs] <;> rfl
end Go.Proofs.YtnnklpmgncbgnaaGreat

/- Printed walks (gen.py, gates_ann.py): part 253. -/



set_option linter.unusedVariables false
set_option linter.unusedSimpArgs false
set_option maxRecDepth 20000
set_option maxHeartbeats 40000000
namespace Go.Proofs.YtnnklpmgncbgnaaGreat
open Go

theorem q_goals (n : Net) (hr : n.Ready) (v4 x m : Nat) (hx : x < n.states) (hm : m ≤ 5000) : AC Tryz.prog 54 [encN n, .v (.int .i64 ((x : Nat) : Int)), .v (.int .i64 ((m : Nat) : Int))] ([(4, v4, .row 4 [[.list 1 (n.ins.map encS), .list 3 (n.regs.map encR), .list 2 (n.gates.map encG), .list 2 (n.outs.map encP)]])]) (fun r σ' => ∃ v3 v7 vs, r = .ret (.slice 814 v7 0 (m + 1)) ∧ σ' = GST n v4 v3 v7 (m + 1) (m + 1) vs (n.goalM x)) := by
 have hn := hr.small
 have y1 := hr.i
 have y2 := hr.r
 have z1 := hn.insL
 have z2 := hn.regsL
 have hsl := Net.states_le hr.r
 have hm2 := Net.many2_le hr.i
 obtain ⟨hb0, hb1⟩ := hr.begin
 have hfl : n.firsts.length = n.regs.length := by simp [Net.firsts]
 refine ac_enter 60 Tryz.func54 rfl rfl (by simp) ?_
 refine aw_seq ?_
 refine aw_region ?_
 (refine al_opR (op_box 803 rfl rfl (by first | rfl | exact live_one rfl | (repeat (first | exact all_live_nil | refine all_live_clo rfl ?_ | refine all_live_slice rfl ?_ | refine all_live_map rfl ?_ | refine all_live_ptr rfl ?_)))) rfl (by simp) ?_; rintro _ _ ⟨ver3, rfl, rfl⟩)
 refine al_op (op_assign rfl) rfl (by simp) ?_
 refine al_nil ?_
 refine aw_seq ?_
 refine aw_region ?_
 (refine al_opR (op_makeMap 900 Tryz.underlying98 (.inl rfl)) rfl (by simp) ?_; rintro _ _ ⟨ver11, rfl, rfl⟩)
 refine al_op (op_move rfl) rfl (by simp) ?_
 refine al_op (op_insert_k x true (g := bT) Tryz.underlying98 Tryz.underlying3 rfl rfl rfl rfl rfl rfl rfl) rfl (by simp) ?_
 refine al_op (op_move rfl) rfl (by simp) ?_
 (refine al_opR (op_list_own (mapS (fun _ => ver11)) [0] 814 Tryz.underlying96 info98 rfl rfl (by decide) rfl (by decide) rfl (parts_cons rfl (all_live_map rfl all_live_nil) parts_nil) rfl rfl (all_live_map rfl all_live_nil) rfl rfl) rfl (by simp) ?_; rintro _ _ ⟨ver14, rfl, rfl⟩)
 refine al_op (op_assign rfl) rfl (by simp) ?_
 refine al_perm (τ := GST n v4 ver3 ver14 1 1 (fun _ => ver11) (n.goalM x)) (get4 (show (900 : Nat) ≠ 814 by decide)) ?_
 refine al_nil ?_
 refine aw_seq ?_
 refine aw_block ?_
 apply aw_only
 ·
  (first | apply sub_cons (t := 2) rfl | skip)
  (first | apply sub_cons (t := 3) rfl | skip)
  (first | apply sub_cons (t := 6) rfl | skip)
  (first | apply sub_cons (t := 7) rfl | skip)
  exact sub_nil
 refine aw_for3T (α := Nat) (β := Nat) (γ := Nat → Nat) [7] [19] (fun q v7 vs => m + 1 - q) (fun q v7 vs => 1 ≤ q ∧ q ≤ m + 1) (fun q v7 vs => ([(7, .slice 814 v7 0 (List.range q).length)] : Env)) (fun q v7 vs st => (GST n v4 ver3 v7 q q vs (n.goalM x))) (1) (ver14) ((fun _ => ver11)) ?_ ?_ ?_ (fun q v7 vs hinv => ?_)
 ·exact ⟨Nat.le_refl _, by omega⟩
 ·refine sub_cons (get_as rfl ?_) ?_; rotate_left; exact sub_nil
  all_goals (first | rfl | (simp; done) | (rw [List.range_succ] <;> rfl))
 ·rfl
 obtain ⟨hq1, hq2⟩ := hinv
 have hrq : (List.range q).length = q := List.length_range
 refine aw_seq ?_
 refine aw_seq ?_
 refine aw_region ?_
 refine al_op (op_move rfl) rfl (by simp) ?_
 refine al_op (op_len_slice Tryz.underlying96 rfl rfl) rfl (by simp) ?_
 refine al_op (op_move rfl) rfl (by simp) ?_
 refine al_op (op_leq rfl rfl) rfl (by simp) ?_
 refine al_nil ?_
 refine aw_cond rfl (fun h1 => ?_) (fun h1 => ?_)
 ·have gh1 := h1
  try simp only [nrm] at h1
  refine aw_skip ?_
  refine aw_block ?_
  refine aw_seq ?_
  refine aw_region ?_
  (refine al_opR (op_makeMap (900 + q) Tryz.underlying98 (.inl rfl)) rfl (by simp) ?_; rintro _ _ ⟨ver19, rfl, rfl⟩)
  refine al_st (σ2 := (GST n v4 ver3 v7 q (q + 1) (setV vs q ver19) (M2 n x q []))) ((congrArg (fun z => Store.put z _ _ _) (gst_rows (M' := M2 n x q []) (fun k hk => (m2_other (by omega)).symm))).trans (gst_new (M := M2 n x q []) (i := q) m2_here)) ?_
  refine al_as 19 (.map (900 + q) ((setV vs q ver19) q)) rfl (by rw [setV, if_pos rfl]) ?_
  refine al_op (op_assign rfl) rfl (by simp) ?_
  refine al_nil ?_
  refine aw_seq ?_
  refine aw_seq ?_
  refine aw_region ?_
  refine al_op (op_assign rfl) rfl (by simp) ?_
  refine al_nil ?_
  refine aw_block ?_
  refine aw_forT (ι := Nat) [9, 10, 20, 21, 22, 23, 24, 25, 26, 27, 28, 29, 30, 31, 32, 33, 34, 35, 36, 37, 38, 39, 40, 41, 42, 43, 44, 45, 46, 47, 48, 49, 50, 51, 52, 53, 54] [] (fun s => n.states - s) (fun s => s ≤ n.states) (fun s => ([(9, .v (.int .i64 (s)))] : Env)) (fun s st => (GST n v4 ver3 v7 q (q + 1) (setV vs q ver19) (M2 n x q (n.befTo x (q - 1) s)))) (0) ?_ ?_ ?_ (fun s hinv => ?_)
  ·exact Nat.zero_le _
  ·refine sub_cons (get_as rfl ?_) ?_; rotate_left; exact sub_nil
   all_goals (first | rfl | simp)
  ·rfl
  have hss := hinv
  refine aw_seq ?_
  refine aw_seq ?_
  refine aw_region ?_
  refine al_op (op_move rfl) rfl (by simp) ?_
  refine al_op (op_field_ptr Tryz.underlying27 rfl info23 (by decide) rfl rfl rfl) rfl (by simp) ?_
  refine al_op (op_load_ptr Tryz.underlying23 info23 rfl rfl rfl rfl) rfl (by simp) ?_
  refine al_op (op_len_map Tryz.underlying23 rfl) rfl (by simp) ?_
  refine al_op (val_as (.v (.int .i64 ((n.states : Nat) : Int))) (op_shl (a := ((1 : Nat) : Int)) rfl rfl (by omega) (shl_i64 (by decide) (by omega))) (by rfl)) rfl (by simp) ?_
  refine al_op (op_lss rfl rfl) rfl (by simp) ?_
  refine al_nil ?_
  refine aw_cond rfl (fun h2 => ?_) (fun h2 => ?_)
  ·have gh2 := h2
   try simp only [nrm] at h2
   refine aw_skip ?_
   refine aw_seq ?_
   refine aw_block ?_
   refine aw_seq ?_
   refine aw_region ?_
   refine al_op (op_assign rfl) rfl (by simp) ?_
   refine al_nil ?_
   refine aw_block ?_
   refine aw_for2T (α := Nat) (β := Bool) [10, 28, 29, 30, 31, 32, 33, 34, 35, 36, 37, 38, 39, 40, 41, 42, 43, 44, 45, 46, 47, 48, 49, 50, 51, 52, 53, 54] [] (fun i got => n.many2 - i) (fun i got => GotI n x (q - 1) s i got) (fun i got => ([(10, .v (.int .i64 (i)))] : Env)) (fun i got st => (GST n v4 ver3 v7 q (q + 1) (setV vs q ver19) (M2 n x q (n.befTo x (q - 1) s ++ gotL s got)))) (0) (false) ?_ ?_ ?_ (fun i got hinv => ?_)
   ·exact got_zero
   ·refine sub_cons (get_as rfl ?_) ?_; rotate_left; exact sub_nil
    all_goals (first | rfl | simp)
   ·(rw [show n.befTo x (q - 1) s ++ gotL s false = n.befTo x (q - 1) s from List.append_nil _] <;> rfl)
   have hG := hinv
   refine aw_seq ?_
   refine aw_seq ?_
   refine aw_region ?_
   refine al_op (op_move rfl) rfl (by simp) ?_
   refine al_op (op_field_ptr Tryz.underlying27 rfl info22 (by decide) rfl rfl rfl) rfl (by simp) ?_
   refine al_op (op_load_ptr Tryz.underlying22 info22 rfl rfl rfl rfl) rfl (by simp) ?_
   refine al_op (op_len_map Tryz.underlying22 rfl) rfl (by simp) ?_
   refine al_op (val_as (.v (.int .i64 ((n.many2 : Nat) : Int))) (op_shl (a := ((1 : Nat) : Int)) rfl rfl (by omega) (shl_i64 (by decide) (by omega))) (by rfl)) rfl (by simp) ?_
   refine al_op (op_lss rfl rfl) rfl (by simp) ?_
   refine al_op (op_move rfl) rfl (by simp) ?_
   apply al_and 5 34 39 rfl
   ·intro h3; have gh3 := h3
    try simp only [nrm] at h3
    refine al_take (op_move rfl) rfl rfl rfl rfl (by simp) ?_
    refine al_take (op_move rfl) rfl rfl rfl rfl (by simp) ?_
    refine al_take (val_as (.v (.bool (got))) (op_lookup_bt s Tryz.underlying98 Tryz.underlying3 info4 rfl rfl (by exact gst_get (Nat.lt_succ_self q)) rfl rfl) (by rw [m2_here, bef_got])) rfl rfl rfl rfl (by simp) ?_
    refine al_take (op_not rfl) rfl rfl rfl rfl (by simp) ?_
    refine al_op (op_pick rfl rfl) rfl (by simp) ?_
    refine al_nil ⟨rfl, rfl, rfl, keep_of ?_⟩
    repeat (first | exact subx_refl | exact subx_known rfl gh3 subx_refl | refine subx_put rfl ?_)
   ·intro h3; have gh3 := h3
    try simp only [nrm] at h3
    refine al_pass rfl rfl rfl rfl (by simp) ?_
    refine al_pass rfl rfl rfl rfl (by simp) ?_
    refine al_pass rfl rfl rfl rfl (by simp) ?_
    refine al_pass rfl rfl rfl rfl (by simp) ?_
    refine al_op (op_pick rfl rfl) rfl (by simp) ?_
    refine al_nil ⟨rfl, rfl, rfl, keep_of ?_⟩
    repeat (first | exact subx_refl | exact subx_known rfl gh3 subx_refl | refine subx_put rfl ?_)
   refine al_nil ?_
   refine aw_cond rfl (fun h4 => ?_) (fun h4 => ?_)
   ·have gh4 := h4
    try simp only [nrm] at h4
    refine aw_skip ?_
    refine aw_seq ?_
    refine aw_block ?_
    refine aw_seq ?_
    have hXq : ((List.range q).getD (0 + (((List.range q).length : Int) - 1).toNat) default) = q - 1 := by rw [range_at (by rw [hrq]; omega), hrq]; omega
    have hin : i < n.many2 := by have := Bool.and_eq_true_iff.1 gh4; have := of_decide_eq_true this.1; omega
    have hgf : got = false := by have := (Bool.and_eq_true_iff.1 gh4).2; simpa using this
    refine aw_any (Checked.mixed Tryz.checked) ?_
    apply aany_seg (p := 0) (q := 11) (by kernel_rfl) rfl (by decide)
    ·
     apply ql_plain rfl (op_move rfl)
     apply ql_plain rfl (op_move rfl)
     apply ql_plain rfl (op_len_slice Tryz.underlying96 rfl rfl)
     apply ql_plain rfl (op_sub rfl rfl (by first | exact wrap_i64 (by omega) (by omega)))
     apply ql_plain rfl (op_index_slice (els := (List.range q).map (mapS (setV vs q ver19))) Tryz.underlying96 info98 rfl rfl gst_814 rfl (by omega) (by omega))
     apply ql_plain rfl (op_load_map (f := mapS (setV vs q ver19)) (l := List.range q) Tryz.underlying98 info98 rfl gst_814 (by omega) rfl)
     apply ql_plain rfl (op_load_ptr Tryz.underlying27 info27 rfl rfl rfl rfl)
     apply ql_plain rfl (op_move rfl)
     apply ql_plain rfl (op_move rfl)
     apply ql_call into39 rfl rfl rfl (r_next4 n hr s i (by omega) (by omega) _)
     apply ql_plain rfl (val_as (.v (.bool ((n.canB x (q - 1) (n.nextNum (s : Int) i))))) (op_lookup_bt (n.nextNum (s : Int) i) Tryz.underlying98 Tryz.underlying3 info4 rfl rfl (by rw [hXq]; exact gst_get (by omega)) rfl rfl) (by first | rw [hXq, m2_other (by omega), Net.goalM_find (n.nextNum_st _ _)] | rw [m2_other (by omega), Net.goalM_find (n.nextNum_st _ _)]))
     exact ql_nil
    ·simp
    refine aany_end rfl (by kernel_rfl) ?_
    refine aw_cond rfl (fun h5 => ?_) (fun h5 => ?_)
    ·have gh5 := h5
     try simp only [nrm] at h5
     refine aw_region ?_
     refine al_op (op_move rfl) rfl (by simp) ?_
     refine al_op (op_move rfl) rfl (by simp) ?_
     refine al_op (op_update_k s true (g := bT) Tryz.underlying98 Tryz.underlying3 rfl (by exact gst_get (Nat.lt_succ_self q)) rfl rfl rfl rfl rfl (by rw [m2_here, hgf]; exact bef_new)) rfl (by simp) ?_
     refine al_nil ?_
     refine aw_region ?_
     refine al_op (op_move rfl) rfl (by simp) ?_
     refine al_op (op_add rfl rfl (by first | exact wrap_i64 (by omega) (by omega))) rfl (by simp) ?_
     refine al_op (op_assign rfl) rfl (by simp) ?_
     refine al_nil ?_
     refine ⟨i + 1, true, ?_, ?_, ?_, ?_, ?_⟩
     ·(have hin2 : i < n.many2 := hin); omega
     ·first | exact GotI.hit hin (by assumption) | exact hG.miss (by assumption)
     ·refine sub_cons (get_as rfl ?_) ?_; rotate_left; exact sub_nil
      all_goals (first | rfl | simp)
     ·repeat (first | exact subx_refl | exact subx_del | refine subx_put rfl ?_)
     ·first | exact gst_keep rfl rfl rfl (fun _ _ => rfl) | (rw [hgf, gst_put (i := q) (M' := M2 n x q (n.befTo x (q - 1) s ++ gotL s true)) (by omega) (by rw [m2_here, m2_here]; simp [gotL]) (fun k _ hk => by rw [m2_other hk, m2_other hk])]; exact gst_keep rfl rfl rfl (fun _ _ => rfl))
    ·have gh5 := h5
     try simp only [nrm] at h5
     refine aw_skip ?_
     refine aw_region ?_
     refine al_op (op_move rfl) rfl (by simp) ?_
     refine al_op (op_add rfl rfl (by first | exact wrap_i64 (by omega) (by omega))) rfl (by simp) ?_
     refine al_op (op_assign rfl) rfl (by simp) ?_
     refine al_nil ?_
     refine ⟨i + 1, got, ?_, ?_, ?_, ?_, ?_⟩
     ·(have hin2 : i < n.many2 := hin); omega
     ·first | exact GotI.hit hin (by assumption) | exact hG.miss (by assumption)
     ·refine sub_cons (get_as rfl ?_) ?_; rotate_left; exact sub_nil
      all_goals (first | rfl | simp)
     ·repeat (first | exact subx_refl | exact subx_del | refine subx_put rfl ?_)
     ·first | exact gst_keep rfl rfl rfl (fun _ _ => rfl) | (rw [hgf, gst_put (i := q) (M' := M2 n x q (n.befTo x (q - 1) s ++ gotL s true)) (by omega) (by rw [m2_here, m2_here]; simp [gotL]) (fun k _ hk => by rw [m2_other hk, m2_other hk])]; exact gst_keep rfl rfl rfl (fun _ _ => rfl))
   ·have gh4 := h4
    try simp only [nrm] at h4
    refine aw_exit ?_
    skip
    refine aw_region ?_
    refine al_op (op_move rfl) rfl (by simp) ?_
    refine al_op (op_add rfl rfl (by first | exact wrap_i64 (by omega) (by omega))) rfl (by simp) ?_
    refine al_op (op_assign rfl) rfl (by simp) ?_
    refine al_nil ?_
    refine ⟨s + 1, ?_, ?_, ?_, ?_, ?_⟩
    ·omega
    ·omega
    ·refine sub_cons (get_as rfl ?_) ?_; rotate_left; exact sub_nil
     all_goals (first | rfl | simp)
    ·repeat (first | exact subx_refl | exact subx_del | refine subx_put rfl ?_)
    ·(rw [← hG.next gh4]; exact gst_keep rfl rfl rfl (fun _ _ => rfl))
  ·have gh2 := h2
   try simp only [nrm] at h2
   refine aw_exit ?_
   obtain rfl : s = n.states := by omega
   refine aw_st (σ2 := (GST n v4 ver3 v7 q (q + 1) (setV vs q ver19) (n.goalM x))) (gst_rows (fun k _ => m2_done hq1)) ?_
   refine aw_region ?_
   refine al_op (op_move rfl) rfl (by simp) ?_
   refine al_op (op_move rfl) rfl (by simp) ?_
   (refine al_opR (op_list_own (mapS (setV vs q ver19)) [q] 57 Tryz.underlying96 info98 rfl rfl (by decide) rfl (by decide) rfl (parts_cons rfl (all_live_map (gst_get (Nat.lt_succ_self q)) all_live_nil) parts_nil) rfl rfl (all_live_map (gst_get (Nat.lt_succ_self q)) all_live_nil) rfl rfl) rfl (by simp) ?_; rintro _ _ ⟨ver57, rfl, rfl⟩)
   (refine al_opR (op_append_map (k := [q]) Tryz.underlying96 Tryz.underlying96 rfl info98 rfl rfl (by decide) rfl rfl rfl (by first | rfl | simp) rfl (.row 57 ver57 _ _ (by rw [Store.get_put, if_pos rfl] <;> rfl) rfl) rfl (by simp; omega) (by show _ * 8 ≤ _; simp; omega)) rfl (by simp) ?_; rintro _ _ ⟨ver58, rfl, rfl⟩)
   refine al_op (op_assign rfl) rfl (by simp) ?_
   refine al_freeze (fun k => !(Nat.beq k 57)) fsub_same ?_
   refine al_st (σ2 := (GST n v4 ver3 ver58 (q + 1) (q + 1) (setV vs q ver19) (n.goalM x))) (by exact gst_app) ?_
   refine al_nil ?_
   refine ⟨q + 1, ver58, (setV vs q ver19), ?_, ?_, ?_, ?_, ?_⟩
   ·omega
   ·exact ⟨by omega, by omega⟩
   ·refine sub_cons (get_as rfl ?_) ?_; rotate_left; exact sub_nil
    all_goals (first | rfl | (simp; done) | (rw [List.range_succ] <;> rfl))
   ·repeat (first | exact subx_refl | exact subx_del | refine subx_put rfl ?_)
   ·exact gst_keep rfl rfl rfl (fun k _ => by (have : [19].contains (900 + k) = false := by simp; omega); rw [this]; rfl)
 ·have gh1 := h1
  try simp only [nrm] at h1
  refine aw_exit ?_
  obtain rfl : q = m + 1 := by omega
  refine aw_seq ?_
  refine aw_region ?_
  refine al_op (op_move rfl) rfl (by simp) ?_
  refine al_op (op_assign rfl) rfl (by simp) ?_
  refine al_nil ?_
  refine aw_ret ?_
  refine ⟨_, res_1 rfl rfl, ?_⟩
  exact ⟨ver3, v7, vs, by rw [hrq], rfl⟩
end Go.Proofs.YtnnklpmgncbgnaaGreat

/- Printed walks (gen.py, gates_ann.py): part 254. -/


set_option linter.unusedVariables false
set_option linter.unusedSimpArgs false
set_option maxRecDepth 20000
set_option maxHeartbeats 40000000
namespace Go.Proofs.YtnnklpmgncbgnaaGreat
open Go

theorem r_Round4 (n : Net) (hn : n.Small) (ins : List Int) (hb : Bytes ins) (hl : ins.length ≤ 1000) : ACp Tryz.prog 11 [encN n, .list 1 (ins.map encB)] (.tuple [.v (.int .i64 ((n.round ins).1)), .v (.int .i64 ((n.round ins).2.1)), .v (.int .i64 ((n.round ins).2.2))]) := by
 refine acp_of rfl ?_
 obtain ⟨b1, b2⟩ := hb
 have z1 := hn.insL
 have z2 := hn.regsL
 refine ac_enter 68 Tryz.func11 rfl rfl (by simp) ?_
 refine aw_seq ?_
 refine aw_region ?_
 (refine al_opR (op_box 2 rfl rfl (by first | rfl | exact live_one rfl | (repeat (first | exact all_live_nil | refine all_live_clo rfl ?_ | refine all_live_slice rfl ?_ | refine all_live_map rfl ?_ | refine all_live_ptr rfl ?_)))) rfl (by simp) ?_; rintro _ _ ⟨ver2, rfl, rfl⟩)
 refine al_op (op_assign rfl) rfl (by simp) ?_
 refine al_op (op_assign rfl) rfl (by simp) ?_
 refine al_op (op_assign rfl) rfl (by simp) ?_
 refine al_nil ?_
 refine aw_seq ?_
 refine aw_seq ?_
 refine aw_region ?_
 refine al_op (op_load_ptr Tryz.underlying27 info27 rfl rfl rfl rfl) rfl (by simp) ?_
 refine al_callp into24 rfl rfl rfl ((r_Valid _ (by assumption)) _) (by simp) ?_
 refine al_op (op_not rfl) rfl (by simp) ?_
 refine al_op (op_move rfl) rfl (by simp) ?_
 apply al_or 7 16 23 rfl
 ·intro h1; have gh1 := h1
  try simp only [nrm] at h1
  refine al_take (op_move rfl) rfl rfl rfl rfl (by simp) ?_
  refine al_take (op_len_map Tryz.underlying28 rfl) rfl rfl rfl rfl (by simp) ?_
  refine al_take (op_field_ptr Tryz.underlying27 rfl info22 (by decide) rfl rfl rfl) rfl rfl rfl rfl (by simp) ?_
  refine al_take (op_load_ptr Tryz.underlying22 info22 rfl rfl rfl rfl) rfl rfl rfl rfl (by simp) ?_
  refine al_take (op_len_map Tryz.underlying22 rfl) rfl rfl rfl rfl (by simp) ?_
  refine al_take (op_neq rfl rfl) rfl rfl rfl rfl (by simp) ?_
  refine al_op (op_pick rfl rfl) rfl (by simp) ?_
  refine al_nil ⟨rfl, rfl, rfl, keep_of ?_⟩
  repeat (first | exact subx_refl | exact subx_known rfl gh1 subx_refl | refine subx_put rfl ?_)
 ·intro h1; have gh1 := h1
  try simp only [nrm] at h1
  refine al_pass rfl rfl rfl rfl (by simp) ?_
  refine al_pass rfl rfl rfl rfl (by simp) ?_
  refine al_pass rfl rfl rfl rfl (by simp) ?_
  refine al_pass rfl rfl rfl rfl (by simp) ?_
  refine al_pass rfl rfl rfl rfl (by simp) ?_
  refine al_pass rfl rfl rfl rfl (by simp) ?_
  refine al_op (op_pick rfl rfl) rfl (by simp) ?_
  refine al_nil ⟨rfl, rfl, rfl, keep_of ?_⟩
  repeat (first | exact subx_refl | exact subx_known rfl gh1 subx_refl | refine subx_put rfl ?_)
 refine al_nil ?_
 refine aw_cond rfl (fun h2 => ?_) (fun h2 => ?_)
 ·have gh2 := h2
  try simp only [nrm] at h2
  refine aw_seq ?_
  refine aw_region ?_
  refine al_op (op_assign rfl) rfl (by simp) ?_
  refine al_op (op_assign rfl) rfl (by simp) ?_
  refine al_op (op_assign rfl) rfl (by simp) ?_
  refine al_nil ?_
  refine aw_freeze (fun _ => false) (fsub_cons (t := 4) rfl (.leaf _ _ (.same _)) (fsub_cons (t := 5) rfl (.leaf _ _ (.same _)) (fsub_cons (t := 6) rfl (.leaf _ _ (.same _)) fsub_nil))) ?_
  refine aw_ret ?_
  refine ⟨_, res_3 rfl rfl rfl rfl rfl rfl rfl, ?_, rfl⟩
  rw [Net.round_bad1 gh2]
 ·have gh2 := h2
  try simp only [nrm] at h2
  refine aw_skip ?_
  refine aw_seq ?_
  refine aw_seq ?_
  refine aw_region ?_
  refine al_op (op_move rfl) rfl (by simp) ?_
  refine al_op (op_len_map Tryz.underlying28 rfl) rfl (by simp) ?_
  refine al_op (op_move rfl) rfl (by simp) ?_
  refine al_nil ?_
  refine aw_block ?_
  apply aw_only
  ·
   (first | apply sub_cons (t := 1) rfl | skip)
   (first | apply sub_cons (t := 2) rfl | skip)
   (first | apply sub_cons (t := 4) rfl | skip)
   (first | apply sub_cons (t := 5) rfl | skip)
   (first | apply sub_cons (t := 6) rfl | skip)
   (first | apply sub_cons (t := 24) rfl | skip)
   (first | apply sub_cons (t := 25) rfl | skip)
   (first | apply sub_cons (t := 26) rfl | skip)
   exact sub_nil
  refine aw_forT (ι := Nat) [4, 5, 6, 26] [] (fun i => ins.length - i) (fun i => i ≤ ins.length ∧ ∀ q, q < i → bad01 (ins.getD q default) = false) (fun i => ([(26, .v (.int .i64 (i)))] : Env)) (fun i s => s) (0) ?_ ?_ ?_ (fun i hinv => ?_)
  ·exact ⟨Nat.zero_le _, fun q hq => absurd hq (Nat.not_lt_zero q)⟩
  ·refine sub_cons (get_as rfl ?_) ?_; rotate_left; exact sub_nil
   all_goals (first | rfl | simp)
  ·rfl
  have hii := hinv.1
  refine aw_seq ?_
  refine aw_region ?_
  refine al_op (op_lss rfl rfl) rfl (by simp) ?_
  refine al_nil ?_
  refine aw_seq ?_
  refine aw_cond rfl (fun h3 => ?_) (fun h3 => ?_)
  ·have gh3 := h3
   try simp only [nrm] at h3
   refine aw_skip ?_
   refine aw_seq ?_
   refine aw_block ?_
   refine aw_seq ?_
   refine aw_region ?_
   refine al_op (op_index_map default Tryz.underlying28 info44 rfl rfl rfl (by first | (with_reducible exact Int.toNat_natCast _) | rfl) (by omega) (by omega)) rfl (by simp) ?_
   refine al_op (op_load_rptr Tryz.underlying44 info44 rfl rfl) rfl (by simp) ?_
   refine al_op (op_assign rfl) rfl (by simp) ?_
   refine al_nil ?_
   refine aw_seq ?_
   refine aw_region ?_
   refine al_op (op_move rfl) rfl (by simp) ?_
   refine al_op (op_neq rfl rfl) rfl (by simp) ?_
   refine al_op (op_move rfl) rfl (by simp) ?_
   apply al_and 3 32 35 rfl
   ·intro h4; have gh4 := h4
    try simp only [nrm] at h4
    refine al_take (op_move rfl) rfl rfl rfl rfl (by simp) ?_
    refine al_take (op_neq rfl rfl) rfl rfl rfl rfl (by simp) ?_
    refine al_op (op_pick rfl rfl) rfl (by simp) ?_
    refine al_nil ⟨rfl, rfl, rfl, keep_of ?_⟩
    repeat (first | exact subx_refl | exact subx_known rfl gh4 subx_refl | refine subx_put rfl ?_)
   ·intro h4; have gh4 := h4
    try simp only [nrm] at h4
    refine al_pass rfl rfl rfl rfl (by simp) ?_
    refine al_pass rfl rfl rfl rfl (by simp) ?_
    refine al_op (op_pick rfl rfl) rfl (by simp) ?_
    refine al_nil ⟨rfl, rfl, rfl, keep_of ?_⟩
    repeat (first | exact subx_refl | exact subx_known rfl gh4 subx_refl | refine subx_put rfl ?_)
   refine al_nil ?_
   refine aw_cond rfl (fun h5 => ?_) (fun h5 => ?_)
   ·have gh5 := h5
    try simp only [nrm] at h5
    refine aw_seq ?_
    refine aw_region ?_
    refine al_op (op_assign rfl) rfl (by simp) ?_
    refine al_op (op_assign rfl) rfl (by simp) ?_
    refine al_op (op_assign rfl) rfl (by simp) ?_
    refine al_nil ?_
    refine aw_freeze (fun _ => false) (fsub_cons (t := 4) rfl (.leaf _ _ (.same _)) (fsub_cons (t := 5) rfl (.leaf _ _ (.same _)) (fsub_cons (t := 6) rfl (.leaf _ _ (.same _)) fsub_nil))) ?_
    refine aw_ret ?_
    refine ⟨_, res_3 rfl rfl rfl rfl rfl rfl rfl, ?_, rfl⟩
    rw [Net.round_bad2 b2 i (by omega) (by assumption)]
   ·have gh5 := h5
    try simp only [nrm] at h5
    refine aw_skip ?_
    refine aw_region ?_
    refine al_op (op_add rfl rfl (by first | exact wrap_i64 (by omega) (by omega))) rfl (by simp) ?_
    refine al_op (op_move rfl) rfl (by simp) ?_
    refine al_nil ?_
    refine ⟨i + 1, ?_, ?_, ?_, ?_, ?_⟩
    ·omega
    ·exact ⟨by omega, all_more01 hinv.2 (by assumption)⟩
    ·refine sub_cons (get_as rfl ?_) ?_; rotate_left; exact sub_nil
     all_goals (first | rfl | simp)
    ·repeat (first | exact subx_refl | exact subx_del | refine subx_put rfl ?_)
    ·rfl
  ·have gh3 := h3
   try simp only [nrm] at h3
   refine aw_exit ?_
   obtain rfl : i = ins.length := by omega
   have hall := hinv.2
   refine aw_seq ?_
   refine aw_seq ?_
   have hx1 := firstX_all b2 hall
   have hro := Net.roundOK_of gh2 hx1
   obtain ⟨hv, hl1, hi01⟩ := Net.roundOK_facts b2 hro
   refine aw_region ?_
   refine al_op (op_load_ptr Tryz.underlying27 info27 rfl rfl rfl rfl) rfl (by simp) ?_
   refine al_callp into25 rfl rfl rfl ((r_small4 _ (by assumption)) _) (by simp) ?_
   refine al_op (op_not rfl) rfl (by simp) ?_
   refine al_nil ?_
   refine aw_cond rfl (fun h6 => ?_) (fun h6 => ?_)
   ·have gh6 := h6
    try simp only [nrm] at h6
    refine aw_seq ?_
    refine aw_region ?_
    refine al_op (op_assign rfl) rfl (by simp) ?_
    refine al_op (op_assign rfl) rfl (by simp) ?_
    refine al_op (op_assign rfl) rfl (by simp) ?_
    refine al_nil ?_
    refine aw_freeze (fun _ => false) (fsub_cons (t := 4) rfl (.leaf _ _ (.same _)) (fsub_cons (t := 5) rfl (.leaf _ _ (.same _)) (fsub_cons (t := 6) rfl (.leaf _ _ (.same _)) fsub_nil))) ?_
    refine aw_ret ?_
    refine ⟨_, res_3 rfl rfl rfl rfl rfl rfl rfl, ?_, rfl⟩
    rw [Net.round, if_pos hro, if_neg (by simpa using (show (!n.small) = true by assumption))]
   ·have gh6 := h6
    try simp only [nrm] at h6
    refine aw_skip ?_
    refine aw_seq ?_
    refine aw_region ?_
    refine al_op (op_assign rfl) rfl (by simp) ?_
    refine al_nil ?_
    refine aw_seq ?_
    have hsm : n.small = true := by simpa using (show (!n.small) = false by assumption)
    have hfe : n.fitE = 0 := by rw [Net.fitE, if_pos hv, if_pos hsm]
    have hr := Net.fit_ready hn hfe
    have hsl := Net.states_le hr.r
    have hil := hr.i
    have hrl := hr.r
    obtain ⟨hb0, hb1⟩ := hr.begin
    have hfl : n.firsts.length = n.regs.length := by simp [Net.firsts]
    have hm2 := Net.many2_le hr.i
    have hni : num ins < n.many2 := by have := num_lt hi01; rw [hl1] at this; rw [Net.many2, Nat.shiftLeft_eq, Nat.one_mul]; exact this
    refine aw_region ?_
    refine al_op (op_load_ptr Tryz.underlying27 info27 rfl rfl rfl rfl) rfl (by simp) ?_
    refine al_callp into31 rfl rfl rfl ((r_First4 _ (by assumption)) _) (by simp) ?_
    refine al_callp into30 rfl rfl rfl (r_number4 _ hb0 (by omega) _) (by simp) ?_
    refine al_op (op_assign rfl) rfl (by simp) ?_
    refine al_nil ?_
    refine aw_block ?_
    apply aw_only
    ·
     (first | apply sub_cons (t := 1) rfl | skip)
     (first | apply sub_cons (t := 2) rfl | skip)
     (first | apply sub_cons (t := 4) rfl | skip)
     (first | apply sub_cons (t := 5) rfl | skip)
     (first | apply sub_cons (t := 6) rfl | skip)
     (first | apply sub_cons (t := 9) rfl | skip)
     (first | apply sub_cons (t := 10) rfl | skip)
     exact sub_nil
    refine aw_own_map encI 9 1 9 rfl rfl (fun ver9 => ?_)
    refine aw_for2T (α := Nat) (β := Nat) [4, 5, 6, 9, 10] [] (fun k ver => n.states + 1 - k) (fun k ver => firstTo (n.rhit ins) k = Option.none) (fun k ver => ([(9, .slice 9 ver 0 (n.seenL ins k).length), (10, .v (.int .i64 ((n.rnum ins k : Nat) : Int)))] : Env)) (fun k ver st => ([(2, ver2, .row 4 [[.list 1 (n.ins.map encS), .list 3 (n.regs.map encR), .list 2 (n.gates.map encG), .list 2 (n.outs.map encP)]]), (9, ver, .row 1 ((n.seenL ins k).map encI))] : Store)) (0) (ver9) ?_ ?_ ?_ (fun k ver hinv => ?_)
    ·rfl
    ·refine sub_cons (get_as rfl ?_) ?_; rotate_left; refine sub_cons (get_as rfl ?_) ?_; rotate_left; exact sub_nil
     all_goals (first | rfl | (rw [n.seenL_succ] <;> simp; done) | (rw [Net.rnum_next hr hl1 hi01] <;> rfl) | simp)
    ·rfl
    have hF := hinv
    have hke := Net.round_le hr hl1 hi01 hinv
    have hsl2 := n.seenL_len ins k
    have hrk := Net.rnum_lt (Net.rat hr hl1 hi01 k)
    refine aw_seq ?_
    refine aw_block ?_
    refine aw_seq ?_
    refine aw_seq ?_
    refine aw_region ?_
    refine al_op (op_move rfl) rfl (by simp) ?_
    refine al_op (op_len_slice Tryz.underlying31 rfl rfl) rfl (by simp) ?_
    refine al_op (op_move rfl) rfl (by simp) ?_
    refine al_nil ?_
    refine aw_block ?_
    refine aw_forT (ι := Nat) [4, 5, 6, 11, 12, 50, 51, 52, 53, 54, 55, 56, 57, 58, 59, 60, 61, 62, 63] [] (fun i => k - i) (fun i => i ≤ k ∧ ∀ q, q < i → ((n.rnum ins q : Int) == (n.rnum ins k : Int)) = false) (fun i => ([(50, .v (.int .i64 (i)))] : Env)) (fun i s => s) (0) ?_ ?_ ?_ (fun i hinv => ?_)
    ·exact ⟨Nat.zero_le _, fun q hq => absurd hq (Nat.not_lt_zero q)⟩
    ·refine sub_cons (get_as rfl ?_) ?_; rotate_left; exact sub_nil
     all_goals (first | rfl | simp)
    ·rfl
    obtain ⟨hik, hne⟩ := hinv
    refine aw_seq ?_
    refine aw_region ?_
    refine al_op (op_lss rfl rfl) rfl (by simp) ?_
    refine al_nil ?_
    refine aw_seq ?_
    refine aw_cond rfl (fun h7 => ?_) (fun h7 => ?_)
    ·have gh7 := h7
     try simp only [nrm] at h7
     refine aw_skip ?_
     refine aw_seq ?_
     refine aw_block ?_
     refine aw_seq ?_
     refine aw_region ?_
     refine al_op (op_move rfl) rfl (by simp) ?_
     refine al_op (op_index_slice Tryz.underlying31 info3 rfl rfl rfl rfl (by omega) (by omega)) rfl (by simp) ?_
     refine al_op (val_as (.v (.int .i64 ((n.rnum ins i : Int)))) (op_load_map Tryz.underlying3 info3 rfl rfl (by omega) rfl) (by rw [seen_eq (by omega)]; simp)) rfl (by simp) ?_
     refine al_op (op_assign rfl) rfl (by simp) ?_
     refine al_op (op_assign rfl) rfl (by simp) ?_
     refine al_nil ?_
     refine aw_seq ?_
     refine aw_region ?_
     refine al_op (op_move rfl) rfl (by simp) ?_
     refine al_op (op_move rfl) rfl (by simp) ?_
     refine al_op (op_eql rfl rfl) rfl (by simp) ?_
     refine al_nil ?_
     refine aw_cond rfl (fun h8 => ?_) (fun h8 => ?_)
     ·have gh8 := h8
      try simp only [nrm] at h8
      refine aw_seq ?_
      refine aw_region ?_
      refine al_op (op_move rfl) rfl (by simp) ?_
      refine al_op (op_move rfl) rfl (by simp) ?_
      refine al_op (op_len_slice Tryz.underlying31 rfl rfl) rfl (by simp) ?_
      refine al_op (op_move rfl) rfl (by simp) ?_
      refine al_op (op_sub rfl rfl (by first | exact wrap_i64 (by omega) (by omega))) rfl (by simp) ?_
      refine al_op (op_assign rfl) rfl (by simp) ?_
      refine al_op (op_assign rfl) rfl (by simp) ?_
      refine al_op (op_assign rfl) rfl (by simp) ?_
      refine al_nil ?_
      refine aw_freeze (fun _ => false) (fsub_cons (t := 4) rfl (.leaf _ _ (.same _)) (fsub_cons (t := 5) rfl (.leaf _ _ (.same _)) (fsub_cons (t := 6) rfl (.leaf _ _ (.same _)) fsub_nil))) ?_
      refine aw_ret ?_
      refine ⟨_, res_3 rfl rfl rfl rfl rfl rfl rfl, ?_, rfl⟩
      have hfd := Net.round_found hr hl1 hi01 hF (show i < k by omega) (by assumption)
      rw [Net.round, if_pos hro, if_pos hsm, hfd.1, hfd.2, n.seenL_len] <;> rfl
     ·have gh8 := h8
      try simp only [nrm] at h8
      refine aw_skip ?_
      refine aw_region ?_
      refine al_op (op_add rfl rfl (by first | exact wrap_i64 (by omega) (by omega))) rfl (by simp) ?_
      refine al_op (op_move rfl) rfl (by simp) ?_
      refine al_nil ?_
      refine ⟨i + 1, ?_, ?_, ?_, ?_, ?_⟩
      ·omega
      ·exact ⟨by omega, Net.more_ne hne (by assumption)⟩
      ·refine sub_cons (get_as rfl ?_) ?_; rotate_left; exact sub_nil
       all_goals (first | rfl | simp)
      ·repeat (first | exact subx_refl | exact subx_del | refine subx_put rfl ?_)
      ·rfl
    ·have gh7 := h7
     try simp only [nrm] at h7
     refine aw_exit ?_
     obtain rfl : k = i := by omega
     have hnew := hne
     refine aw_region ?_
     refine al_op (op_move rfl) rfl (by simp) ?_
     refine al_op (op_move rfl) rfl (by simp) ?_
     refine al_op (op_buildSlice Tryz.underlying31 info3 rfl rfl (by decide) rfl (by decide) rfl (by first | rfl | (repeat (first | exact parts_nil | refine parts_cons rfl (by repeat (first | exact all_live_nil | refine all_live_clo rfl ?_ | refine all_live_slice rfl ?_ | refine all_live_map rfl ?_ | refine all_live_ptr rfl ?_)) ?_))) rfl rfl rfl) rfl (by simp) ?_
     (refine al_opR (op_append_one (n.rnum ins k : Int) Tryz.underlying31 Tryz.underlying31 rfl info3 rfl rfl (by decide) rfl rfl rfl (by first | rfl | simp) rfl rfl (by first | omega | (simp; done) | (simp; omega)) (by show _ * 8 ≤ _; first | omega | (simp; done) | (simp; omega))) rfl (by simp) ?_; rintro _ _ ⟨ver67, rfl, rfl⟩)
     refine al_op (op_assign rfl) rfl (by simp) ?_
     refine al_nil ?_
     refine aw_any (Checked.mixed Tryz.checked) ?_
     apply aany_seg (p := 0) (q := 6) (by kernel_rfl) rfl (by decide)
     ·
      apply ql_plain rfl (op_load_ptr Tryz.underlying27 info27 rfl rfl rfl rfl)
      apply ql_plain rfl (op_move rfl)
      apply ql_plain rfl (op_move rfl)
      apply ql_call into30 rfl rfl rfl (r_number4 _ hi01 (by omega) _)
      apply ql_call into39 rfl rfl rfl (r_next4 n hr (n.rnum ins k) (num ins) (by omega) (by omega) _)
      apply ql_plain rfl (op_assign rfl)
      exact ql_nil
     ·simp
     refine aany_end rfl (by kernel_rfl) ?_
     refine ⟨k + 1, ver67, ?_, ?_, ?_, ?_, ?_⟩
     ·(have := Net.round_le hr hl1 hi01 (Net.round_new hF hnew)); omega
     ·exact Net.round_new hF hnew
     ·refine sub_cons (get_as rfl ?_) ?_; rotate_left; refine sub_cons (get_as rfl ?_) ?_; rotate_left; exact sub_nil
      all_goals (first | rfl | (rw [n.seenL_succ] <;> simp; done) | (rw [Net.rnum_next hr hl1 hi01] <;> rfl) | simp)
     ·repeat (first | exact subx_refl | exact subx_del | refine subx_put rfl ?_)
     ·(rw [n.seenL_succ, List.map_append] <;> rfl)
end Go.Proofs.YtnnklpmgncbgnaaGreat

/- Printed walks (gen.py, gates_ann.py): part 255. -/



set_option linter.unusedVariables false
set_option linter.unusedSimpArgs false
set_option maxRecDepth 20000
set_option maxHeartbeats 40000000
namespace Go.Proofs.YtnnklpmgncbgnaaGreat
open Go

theorem l_ints (l : List Int) (hl : l.length ≤ 1000000000) : ACp Tryz.prog 12 [.list 1 (l.map encI), .list 1 (l.map encI)] (.v (.bool (true))) := by
 refine acp_of rfl ?_
 refine ac_enter 26 Tryz.func12 rfl rfl (by simp) ?_
 refine aw_seq ?_
 refine aw_region ?_
 refine al_op (op_assign rfl) rfl (by simp) ?_
 refine al_nil ?_
 refine aw_seq ?_
 refine aw_seq ?_
 refine aw_region ?_
 refine al_op (op_move rfl) rfl (by simp) ?_
 first
   | refine al_op (op_len_map Tryz.underlying31 rfl) rfl (by simp) ?_
   | refine al_op (op_len_slice Tryz.underlying31 rfl rfl) rfl (by simp) ?_
   | refine al_op (op_len_list Tryz.underlying31 rfl) rfl (by simp) ?_
   | refine al_op (op_len_v Tryz.underlying31 rfl) rfl (by simp) ?_
   | refine al_op (op_len_nil Tryz.underlying31 rfl) rfl (by simp) ?_
 refine al_op (op_move rfl) rfl (by simp) ?_
 first
   | refine al_op (op_len_map Tryz.underlying31 rfl) rfl (by simp) ?_
   | refine al_op (op_len_slice Tryz.underlying31 rfl rfl) rfl (by simp) ?_
   | refine al_op (op_len_list Tryz.underlying31 rfl) rfl (by simp) ?_
   | refine al_op (op_len_v Tryz.underlying31 rfl) rfl (by simp) ?_
   | refine al_op (op_len_nil Tryz.underlying31 rfl) rfl (by simp) ?_
 refine al_op (op_neq rfl rfl) rfl (by simp) ?_
 refine al_nil ?_
 refine aw_cond rfl (fun h1 => ?_) (fun h1 => ?_)
 ·have gh1 := h1
  try simp only [nrm] at h1
  exact absurd gh1 (by simp)
 ·have gh1 := h1
  try simp only [nrm] at h1
  refine aw_skip ?_
  refine aw_seq ?_
  refine aw_seq ?_
  refine aw_region ?_
  refine al_op (op_move rfl) rfl (by simp) ?_
  first
    | refine al_op (op_len_map Tryz.underlying31 rfl) rfl (by simp) ?_
    | refine al_op (op_len_slice Tryz.underlying31 rfl rfl) rfl (by simp) ?_
    | refine al_op (op_len_list Tryz.underlying31 rfl) rfl (by simp) ?_
    | refine al_op (op_len_v Tryz.underlying31 rfl) rfl (by simp) ?_
    | refine al_op (op_len_nil Tryz.underlying31 rfl) rfl (by simp) ?_
  refine al_op (op_move rfl) rfl (by simp) ?_
  refine al_nil ?_
  refine aw_block ?_
  refine aw_forT (ι := Nat) [4, 13] [] (fun i => l.length - i) (fun i => i ≤ l.length) (fun i => ([(13, .v (.int .i64 (i)))] : Env)) (fun i s => s) (0) ?_ ?_ ?_ (fun i hinv => ?_)
  ·exact Nat.zero_le _
  ·refine sub_cons (get_as rfl ?_) ?_; rotate_left; exact sub_nil
   all_goals (first | rfl | simp)
  ·rfl
  refine aw_seq ?_
  refine aw_region ?_
  refine al_op (op_lss rfl rfl) rfl (by simp) ?_
  refine al_nil ?_
  refine aw_seq ?_
  refine aw_cond rfl (fun h2 => ?_) (fun h2 => ?_)
  ·have gh2 := h2
   try simp only [nrm] at h2
   refine aw_skip ?_
   refine aw_seq ?_
   refine aw_block ?_
   refine aw_seq ?_
   refine aw_region ?_
   refine al_op (op_move rfl) rfl (by simp) ?_
   refine al_op (op_assign rfl) rfl (by simp) ?_
   refine al_nil ?_
   refine aw_seq ?_
   refine aw_any (Checked.mixed Tryz.checked) ?_
   apply aany_seg (p := 0) (q := 9) (by kernel_rfl) rfl (by decide)
   ·
    apply ql_plain rfl (op_move rfl)
    apply ql_plain rfl (op_move rfl)
    first
      | apply ql_plain rfl (op_index_map default Tryz.underlying31 info3 rfl rfl rfl (by first | (with_reducible exact Int.toNat_natCast _) | rfl) (by omega) (by omega))
      | apply ql_plain rfl (op_index_slice Tryz.underlying31 info3 rfl rfl rfl rfl (by omega) (by omega))
      | apply ql_plain rfl (op_index_list Tryz.underlying31 info3 rfl rfl rfl (by decide) rfl)
    first
      | apply ql_plain rfl (op_load_rptr Tryz.underlying3 info3 rfl rfl)
      | apply ql_plain rfl (op_load_map Tryz.underlying3 info3 rfl rfl (by omega) rfl)
      | apply ql_plain rfl (op_load_ptr Tryz.underlying3 info3 rfl rfl rfl rfl)
    apply ql_plain rfl (op_move rfl)
    apply ql_plain rfl (op_move rfl)
    first
      | apply ql_plain rfl (op_index_map default Tryz.underlying31 info3 rfl rfl rfl (by first | (with_reducible exact Int.toNat_natCast _) | rfl) (by omega) (by omega))
      | apply ql_plain rfl (op_index_slice Tryz.underlying31 info3 rfl rfl rfl rfl (by omega) (by omega))
      | apply ql_plain rfl (op_index_list Tryz.underlying31 info3 rfl rfl rfl (by decide) rfl)
    first
      | apply ql_plain rfl (op_load_rptr Tryz.underlying3 info3 rfl rfl)
      | apply ql_plain rfl (op_load_map Tryz.underlying3 info3 rfl rfl (by omega) rfl)
      | apply ql_plain rfl (op_load_ptr Tryz.underlying3 info3 rfl rfl rfl rfl)
    apply ql_plain rfl (op_neq rfl rfl)
    exact ql_nil
   ·simp
   refine aany_end rfl (by kernel_rfl) ?_
   refine aw_cond rfl (fun h3 => ?_) (fun h3 => ?_)
   ·have gh3 := h3
    try simp only [nrm] at h3
    exact absurd gh3 (by simp)
   ·have gh3 := h3
    try simp only [nrm] at h3
    refine aw_skip ?_
    refine aw_region ?_
    refine al_op (op_add rfl rfl (by first | exact wrap_i64 (by omega) (by omega))) rfl (by simp) ?_
    refine al_op (op_move rfl) rfl (by simp) ?_
    refine al_nil ?_
    refine ⟨i + 1, ?_, ?_, ?_, ?_, ?_⟩
    ·omega
    ·omega
    ·refine sub_cons (get_as rfl ?_) ?_; rotate_left; exact sub_nil
     all_goals (first | rfl | simp)
    ·repeat (first | exact subx_refl | exact subx_del | refine subx_put rfl ?_)
    ·rfl
  ·have gh2 := h2
   try simp only [nrm] at h2
   refine aw_exit ?_
   skip
   refine aw_seq ?_
   refine aw_region ?_
   refine al_op (op_assign rfl) rfl (by simp) ?_
   refine al_nil ?_
   refine aw_freeze (fun _ => false) (fsub_cons (t := 4) rfl (.leaf _ _ (.same _)) fsub_nil) ?_
   refine aw_ret ?_
   refine ⟨_, res_1 rfl rfl, ?_, rfl⟩
   rfl
end Go.Proofs.YtnnklpmgncbgnaaGreat

/- Printed walks (gen.py, gates_ann.py): part 256. -/


set_option linter.unusedVariables false
set_option linter.unusedSimpArgs false
set_option maxRecDepth 20000
set_option maxHeartbeats 40000000
namespace Go.Proofs.YtnnklpmgncbgnaaGreat
open Go

theorem r_way (n : Net) (hr : n.Ready) (x : Nat) (hx : x < n.states) (hd : 0 ≤ n.dst x) : ACp Tryz.prog 29 [encN n, .v (.int .i64 ((num n.firsts : Nat) : Int)), .v (.int .i64 ((x : Nat) : Int)), .v (.int .i64 (n.dst x))] (.tuple [.list 1 ((n.wayTo x).map encL), .v (.bool (true))]) := by
 refine acp_of rfl ?_
 obtain ⟨w, hw⟩ := Net.way_f hr hd
 have hwl := hw.long
 rw [← hwl]
 have hws : w.length ≤ 4096 := by have := (Net.dst_range hr x).2.1; have := Net.states_le hr.r; omega
 have hn := hr.small
 have y1 := hr.i
 have y2 := hr.r
 have z1 := hn.insL
 have z2 := hn.regsL
 have hsl := Net.states_le hr.r
 have hm2 := Net.many2_le hr.i
 obtain ⟨hb0, hb1⟩ := hr.begin
 have hfl : n.firsts.length = n.regs.length := by simp [Net.firsts]
 refine ac_enter 63 Tryz.func29 rfl rfl (by simp) ?_
 refine aw_seq ?_
 refine aw_region ?_
 (refine al_opR (op_box 4 rfl rfl (by first | rfl | exact live_one rfl | (repeat (first | exact all_live_nil | refine all_live_clo rfl ?_ | refine all_live_slice rfl ?_ | refine all_live_map rfl ?_ | refine all_live_ptr rfl ?_)))) rfl (by simp) ?_; rintro _ _ ⟨ver4, rfl, rfl⟩)
 refine al_op (op_assign rfl) rfl (by simp) ?_
 refine al_op (op_assign rfl) rfl (by simp) ?_
 refine al_nil ?_
 refine aw_seq ?_
 refine aw_region ?_
 refine al_op (op_load_ptr Tryz.underlying27 info27 rfl rfl rfl rfl) rfl (by simp) ?_
 refine al_op (op_move rfl) rfl (by simp) ?_
 refine al_op (op_move rfl) rfl (by simp) ?_
 (refine al_call into54 rfl rfl rfl (q_goals n hr ver4 x w.length hx (by omega)) (by simp) ?_; rintro _ _ ⟨v3, v7, vs, rfl, rfl⟩)
 refine al_op (op_assign rfl) rfl (by simp) ?_
 refine al_nil ?_
 refine aw_seq ?_
 refine aw_region ?_
 refine al_op (op_assign rfl) rfl (by simp) ?_
 refine al_nil ?_
 refine aw_seq ?_
 refine aw_seq ?_
 refine aw_region ?_
 refine al_op (op_move rfl) rfl (by simp) ?_
 refine al_op (op_assign rfl) rfl (by simp) ?_
 refine al_nil ?_
 refine aw_block ?_
 apply aw_only
 ·
  (first | apply sub_cons (t := 1) rfl | skip)
  (first | apply sub_cons (t := 2) rfl | skip)
  (first | apply sub_cons (t := 4) rfl | skip)
  (first | apply sub_cons (t := 8) rfl | skip)
  (first | apply sub_cons (t := 9) rfl | skip)
  (first | apply sub_cons (t := 10) rfl | skip)
  (first | apply sub_cons (t := 11) rfl | skip)
  (first | apply sub_cons (t := 12) rfl | skip)
  exact sub_nil
 refine aw_own_map encL 11 1 11 rfl rfl (fun ver11 => ?_)
 refine aw_perm (τ := ((11, ver11, .row 1 ((wayB n w 0).map encL)) :: GST n ver4 v3 v7 (w.length + 1) (w.length + 1) vs (n.goalM x))) perm_front ?_
 refine aw_for2T (α := Nat) (β := Nat) [1, 8, 9, 11, 12] [] (fun k ver => w.length - k) (fun k ver => k ≤ w.length) (fun k ver => ([(1, .v (.int .i64 ((n.wayW w k : Nat) : Int))), (11, .slice 11 ver 0 (wayB n w k).length), (12, .v (.int .i64 ((w.length : Int) - (k : Int))))] : Env)) (fun k ver st => ((11, ver, .row 1 ((wayB n w k).map encL)) :: GST n ver4 v3 v7 (w.length + 1) (w.length + 1) vs (n.goalM x))) (0) (ver11) ?_ ?_ ?_ (fun k ver hinv => ?_)
 ·exact Nat.zero_le _
 ·refine sub_cons (get_as rfl ?_) ?_; rotate_left; refine sub_cons (get_as rfl ?_) ?_; rotate_left; refine sub_cons (get_as rfl ?_) ?_; rotate_left; exact sub_nil
  all_goals (first | rfl | simp)
 ·rfl
 have hkw := hinv
 have hwbl := wayB_len (n := n) hinv
 refine aw_seq ?_
 refine aw_seq ?_
 refine aw_region ?_
 refine al_op (op_move rfl) rfl (by simp) ?_
 refine al_op (op_gtr rfl rfl) rfl (by simp) ?_
 refine al_nil ?_
 refine aw_cond rfl (fun h1 => ?_) (fun h1 => ?_)
 ·have gh1 := h1
  try simp only [nrm] at h1
  refine aw_skip ?_
  refine aw_seq ?_
  refine aw_block ?_
  refine aw_seq ?_
  refine aw_region ?_
  refine al_op (op_assign rfl) rfl (by simp) ?_
  refine al_nil ?_
  refine aw_seq ?_
  refine aw_seq ?_
  refine aw_region ?_
  refine al_op (op_assign rfl) rfl (by simp) ?_
  refine al_nil ?_
  refine aw_block ?_
  refine aw_for3T (α := Nat) (β := Bool) (γ := Nat) [1, 11, 13, 14, 15, 25, 26, 27, 28, 29, 30, 31, 32, 33, 34, 35, 36, 37, 38, 39, 40, 41, 42, 43, 44, 45, 46, 47, 48, 49, 50, 51, 52, 53, 54, 55, 56] [] (fun i don vi => n.many2 - i) (fun i don vi => DonI w k i don) (fun i don vi => ([(1, .v (.int .i64 ((n.wayW w (k + don.toNat) : Nat) : Int))), (11, .slice 11 vi 0 (wayB n w (k + don.toNat)).length), (13, .v (.bool (don))), (14, .v (.int .i64 (i)))] : Env)) (fun i don vi st => ((11, vi, .row 1 ((wayB n w (k + don.toNat)).map encL)) :: GST n ver4 v3 v7 (w.length + 1) (w.length + 1) vs (n.goalM x))) (0) (false) (ver) ?_ ?_ ?_ (fun i don vi hinv => ?_)
  ·exact ⟨fun _ => Nat.zero_le _, fun h => (by cases h)⟩
  ·refine sub_cons (get_as rfl ?_) ?_; rotate_left; refine sub_cons (get_as rfl ?_) ?_; rotate_left; refine sub_cons (get_as rfl ?_) ?_; rotate_left; refine sub_cons (get_as rfl ?_) ?_; rotate_left; exact sub_nil
   all_goals (first | rfl | (rw [show n.wayW w (k + true.toNat) = n.nextNum (n.wayW w k : Int) i from by (rw [hit]; exact (n.wayW_succ (by omega)).symm)] <;> rfl) | (simp only [Bool.toNat_true]; rw [wayB_succ (by omega), ← hit] <;> simp; done) | simp)
  ·rfl
  have hI := hinv
  refine aw_seq ?_
  refine aw_seq ?_
  refine aw_region ?_
  refine al_op (op_move rfl) rfl (by simp) ?_
  refine al_op (op_field_ptr Tryz.underlying27 rfl info22 (by decide) rfl rfl rfl) rfl (by simp) ?_
  refine al_op (op_load_ptr Tryz.underlying22 info22 rfl rfl rfl rfl) rfl (by simp) ?_
  refine al_op (op_len_map Tryz.underlying22 rfl) rfl (by simp) ?_
  refine al_op (val_as (.v (.int .i64 ((n.many2 : Nat) : Int))) (op_shl (a := ((1 : Nat) : Int)) rfl rfl (by omega) (shl_i64 (by decide) (by omega))) (by rfl)) rfl (by simp) ?_
  refine al_op (op_lss rfl rfl) rfl (by simp) ?_
  refine al_op (op_move rfl) rfl (by simp) ?_
  apply al_and 3 31 34 rfl
  ·intro h2; have gh2 := h2
   try simp only [nrm] at h2
   refine al_take (op_move rfl) rfl rfl rfl rfl (by simp) ?_
   refine al_take (op_not rfl) rfl rfl rfl rfl (by simp) ?_
   refine al_op (op_pick rfl rfl) rfl (by simp) ?_
   refine al_nil ⟨rfl, rfl, rfl, keep_of ?_⟩
   repeat (first | exact subx_refl | exact subx_known rfl gh2 subx_refl | refine subx_put rfl ?_)
  ·intro h2; have gh2 := h2
   try simp only [nrm] at h2
   refine al_pass rfl rfl rfl rfl (by simp) ?_
   refine al_pass rfl rfl rfl rfl (by simp) ?_
   refine al_op (op_pick rfl rfl) rfl (by simp) ?_
   refine al_nil ⟨rfl, rfl, rfl, keep_of ?_⟩
   repeat (first | exact subx_refl | exact subx_known rfl gh2 subx_refl | refine subx_put rfl ?_)
  refine al_nil ?_
  refine aw_cond rfl (fun h3 => ?_) (fun h3 => ?_)
  ·have gh3 := h3
   try simp only [nrm] at h3
   refine aw_skip ?_
   refine aw_seq ?_
   refine aw_block ?_
   refine aw_seq ?_
   have hdf : don = false := by have := (Bool.and_eq_true_iff.1 gh3).2; simpa using this
   have hin : i < n.many2 := by have := of_decide_eq_true (Bool.and_eq_true_iff.1 gh3).1; omega
   subst hdf
   have hwk := Net.wayW_lt hr (w := w) k (by omega)
   have hwk2 : n.wayW w (k + false.toNat) ≤ 4096 := by show n.wayW w k ≤ 4096; omega
   have hik := hI.no rfl
   have hXq : ((List.range (w.length + 1)).getD (0 + ((w.length : Int) - (k : Int) - 1).toNat) default) = w.length - k - 1 := by rw [range_at (by omega)]; omega
   refine aw_region ?_
   refine al_op (op_load_ptr Tryz.underlying27 info27 rfl rfl rfl rfl) rfl (by simp) ?_
   refine al_op (op_move rfl) rfl (by simp) ?_
   refine al_op (op_move rfl) rfl (by simp) ?_
   refine al_callp into39 rfl rfl rfl (r_next4 n hr (n.wayW w (k + false.toNat)) i hwk2 (by omega) _) (by simp) ?_
   refine al_op (op_assign rfl) rfl (by simp) ?_
   refine al_nil ?_
   refine aw_seq ?_
   refine aw_region ?_
   refine al_op (op_move rfl) rfl (by simp) ?_
   refine al_op (op_move rfl) rfl (by simp) ?_
   refine al_op (op_sub rfl rfl (by first | exact wrap_i64 (by omega) (by omega))) rfl (by simp) ?_
   refine al_op (op_index_slice (els := (List.range (w.length + 1)).map (mapS vs)) Tryz.underlying96 info98 rfl rfl gst_814c rfl (by omega) (by omega)) rfl (by simp) ?_
   refine al_op (op_load_map (f := mapS vs) (l := List.range (w.length + 1)) Tryz.underlying98 info98 rfl gst_814c (by rw [List.length_range]; omega) rfl) rfl (by simp) ?_
   refine al_op (op_move rfl) rfl (by simp) ?_
   refine al_op (val_as (.v (.bool ((n.canB x (w.length - k - 1) (n.nextNum (n.wayW w k : Int) i))))) (op_lookup_bt (n.nextNum (n.wayW w k : Int) i) Tryz.underlying98 Tryz.underlying3 info4 rfl rfl (by rw [hXq]; exact gst_get11 (by omega)) rfl rfl) (by rw [Net.goalM_find (n.nextNum_st _ _)])) rfl (by simp) ?_
   refine al_nil ?_
   refine aw_cond rfl (fun h4 => ?_) (fun h4 => ?_)
   ·have gh4 := h4
    try simp only [nrm] at h4
    refine aw_seq ?_
    have hit := hw.here (by omega) hik (by assumption)
    refine aw_region ?_
    refine al_op (op_move rfl) rfl (by simp) ?_
    refine al_op (op_move rfl) rfl (by simp) ?_
    refine al_op (op_field_ptr Tryz.underlying27 rfl info22 (by decide) rfl rfl rfl) rfl (by simp) ?_
    refine al_op (op_load_ptr Tryz.underlying22 info22 rfl rfl rfl rfl) rfl (by simp) ?_
    refine al_op (op_len_map Tryz.underlying22 rfl) rfl (by simp) ?_
    refine al_callp into55 rfl rfl rfl (r_bits4 (i : Int) n.ins.length (by omega) (by omega) (by omega) _) (by simp) ?_
    refine al_op (op_buildSlice Tryz.underlying35 info28 rfl rfl (by decide) rfl (by decide) rfl (by first | rfl | (repeat (first | exact parts_nil | refine parts_cons rfl (by repeat (first | exact all_live_nil | refine all_live_clo rfl ?_ | refine all_live_slice rfl ?_ | refine all_live_map rfl ?_ | refine all_live_ptr rfl ?_)) ?_))) rfl rfl rfl) rfl (by simp) ?_
    (refine al_opR (op_append_one (bitsI (i : Int) n.ins.length) Tryz.underlying35 Tryz.underlying35 rfl info28 rfl rfl (by decide) rfl rfl rfl (by first | rfl | simp) rfl rfl (by first | omega | (simp; done) | (simp; omega)) (by show _ * 24 ≤ _; first | omega | (simp; done) | (simp; omega))) rfl (by simp) ?_; rintro _ _ ⟨ver55, rfl, rfl⟩)
    refine al_op (op_assign rfl) rfl (by simp) ?_
    refine al_nil ?_
    refine aw_region ?_
    refine al_op (op_move rfl) rfl (by simp) ?_
    refine al_op (op_assign rfl) rfl (by simp) ?_
    refine al_op (op_assign rfl) rfl (by simp) ?_
    refine al_nil ?_
    refine aw_region ?_
    refine al_op (op_move rfl) rfl (by simp) ?_
    refine al_op (op_add rfl rfl (by first | exact wrap_i64 (by omega) (by omega))) rfl (by simp) ?_
    refine al_op (op_assign rfl) rfl (by simp) ?_
    refine al_nil ?_
    refine ⟨i + 1, true, ver55, ?_, ?_, ?_, ?_, ?_⟩
    ·omega
    ·first | exact ⟨fun h => (by cases h), fun _ => by rw [← hit]⟩ | exact ⟨fun _ => hw.there (by omega) hik (by assumption), fun h => (by cases h)⟩
    ·refine sub_cons (get_as rfl ?_) ?_; rotate_left; refine sub_cons (get_as rfl ?_) ?_; rotate_left; refine sub_cons (get_as rfl ?_) ?_; rotate_left; refine sub_cons (get_as rfl ?_) ?_; rotate_left; exact sub_nil
     all_goals (first | rfl | (rw [show n.wayW w (k + true.toNat) = n.nextNum (n.wayW w k : Int) i from by (rw [hit]; exact (n.wayW_succ (by omega)).symm)] <;> rfl) | (simp only [Bool.toNat_true]; rw [wayB_succ (by omega), ← hit] <;> simp; done) | simp)
    ·repeat (first | exact subx_refl | exact subx_del | refine subx_put rfl ?_)
    ·first | exact congrArg (List.cons _) (gst_keep rfl rfl rfl (fun _ _ => rfl)) | (rw [show wayB n w (k + true.toNat) = wayB n w (k + false.toNat) ++ [bitsI (i : Int) n.ins.length] from by (rw [hit]; exact wayB_succ (by omega)), List.map_append]; exact congrArg (List.cons _) (gst_keep rfl rfl rfl (fun _ _ => rfl)))
   ·have gh4 := h4
    try simp only [nrm] at h4
    refine aw_skip ?_
    refine aw_region ?_
    refine al_op (op_move rfl) rfl (by simp) ?_
    refine al_op (op_add rfl rfl (by first | exact wrap_i64 (by omega) (by omega))) rfl (by simp) ?_
    refine al_op (op_assign rfl) rfl (by simp) ?_
    refine al_nil ?_
    refine ⟨i + 1, false, vi, ?_, ?_, ?_, ?_, ?_⟩
    ·omega
    ·first | exact ⟨fun h => (by cases h), fun _ => by rw [← hit]⟩ | exact ⟨fun _ => hw.there (by omega) hik (by assumption), fun h => (by cases h)⟩
    ·refine sub_cons (get_as rfl ?_) ?_; rotate_left; refine sub_cons (get_as rfl ?_) ?_; rotate_left; refine sub_cons (get_as rfl ?_) ?_; rotate_left; refine sub_cons (get_as rfl ?_) ?_; rotate_left; exact sub_nil
     all_goals (first | rfl | (rw [show n.wayW w (k + true.toNat) = n.nextNum (n.wayW w k : Int) i from by (rw [hit]; exact (n.wayW_succ (by omega)).symm)] <;> rfl) | (simp only [Bool.toNat_true]; rw [wayB_succ (by omega), ← hit] <;> simp; done) | simp)
    ·repeat (first | exact subx_refl | exact subx_del | refine subx_put rfl ?_)
    ·first | exact congrArg (List.cons _) (gst_keep rfl rfl rfl (fun _ _ => rfl)) | (rw [show wayB n w (k + true.toNat) = wayB n w (k + false.toNat) ++ [bitsI (i : Int) n.ins.length] from by (rw [hit]; exact wayB_succ (by omega)), List.map_append]; exact congrArg (List.cons _) (gst_keep rfl rfl rfl (fun _ _ => rfl)))
  ·have gh3 := h3
   try simp only [nrm] at h3
   refine aw_exit ?_
   skip
   refine aw_seq ?_
   refine aw_region ?_
   refine al_op (op_move rfl) rfl (by simp) ?_
   refine al_op (op_not rfl) rfl (by simp) ?_
   refine al_nil ?_
   refine aw_cond rfl (fun h5 => ?_) (fun h5 => ?_)
   ·have gh5 := h5
    try simp only [nrm] at h5
    rw [hI.end hw (by omega) (by assumption)] at gh5; cases gh5
   ·have gh5 := h5
    try simp only [nrm] at h5
    refine aw_skip ?_
    refine aw_region ?_
    refine al_op (op_move rfl) rfl (by simp) ?_
    refine al_op (op_sub rfl rfl (by first | exact wrap_i64 (by omega) (by omega))) rfl (by simp) ?_
    refine al_op (op_assign rfl) rfl (by simp) ?_
    refine al_nil ?_
    refine ⟨k + 1, vi, ?_, ?_, ?_, ?_, ?_⟩
    ·omega
    ·omega
    ·refine sub_cons (get_as rfl ?_) ?_; rotate_left; refine sub_cons (get_as rfl ?_) ?_; rotate_left; refine sub_cons (get_as rfl ?_) ?_; rotate_left; exact sub_nil
     all_goals (first | rfl | (congr 2; omega) | (rw [hI.end hw (by omega) (by assumption)] <;> rfl) | simp)
    ·repeat (first | exact subx_refl | exact subx_del | refine subx_put rfl ?_)
    ·(rw [hI.end hw (by omega) (by assumption)]; exact congrArg (List.cons _) (gst_keep rfl rfl rfl (fun _ _ => rfl)))
 ·have gh1 := h1
  try simp only [nrm] at h1
  refine aw_exit ?_
  obtain rfl : k = w.length := by omega
  have hwa := wayW_all hw
  have hwb := wayB_all hw
  refine aw_seq ?_
  refine aw_region ?_
  refine al_op (op_move rfl) rfl (by simp) ?_
  refine al_op (op_move rfl) rfl (by simp) ?_
  refine al_op (op_move rfl) rfl (by simp) ?_
  refine al_op (op_eql rfl rfl) rfl (by simp) ?_
  refine al_op (op_assign rfl) rfl (by simp) ?_
  refine al_op (op_assign rfl) rfl (by simp) ?_
  refine al_nil ?_
  refine aw_freeze (fun _ => false) (fsub_cons (t := 8) rfl (.leaf _ _ (frz_whole rfl rfl (List.length_map _).symm (clo_map (fun _ => rfl)))) (fsub_cons (t := 9) rfl (.leaf _ _ (.same _)) fsub_nil)) ?_
  refine aw_st (keep_nothing _) ?_
  refine aw_ret ?_
  refine ⟨_, res_2 rfl rfl rfl rfl rfl, ?_, rfl⟩
  rw [hwb, hwa, beq_self_eq_true]

theorem r_Way4 (n : Net) (hn : n.Small) (x : Int) : ACp Tryz.prog 9 [encN n, .v (.int .i64 (x))] (.tuple [.list 1 ((n.way x).1.map encL), .v (.int .i64 ((n.way x).2))]) := by
 refine acp_of rfl ?_
 have z2 := hn.regsL
 refine ac_enter 43 Tryz.func9 rfl rfl (by simp) ?_
 refine aw_seq ?_
 refine aw_region ?_
 (refine al_opR (op_box 2 rfl rfl (by first | rfl | exact live_one rfl | (repeat (first | exact all_live_nil | refine all_live_clo rfl ?_ | refine all_live_slice rfl ?_ | refine all_live_map rfl ?_ | refine all_live_ptr rfl ?_)))) rfl (by simp) ?_; rintro _ _ ⟨ver2, rfl, rfl⟩)
 refine al_op (op_assign rfl) rfl (by simp) ?_
 refine al_op (op_assign rfl) rfl (by simp) ?_
 refine al_nil ?_
 refine aw_seq ?_
 refine aw_seq ?_
 refine aw_region ?_
 refine al_op (op_load_ptr Tryz.underlying27 info27 rfl rfl rfl rfl) rfl (by simp) ?_
 refine al_callp into24 rfl rfl rfl ((r_Valid _ (by assumption)) _) (by simp) ?_
 refine al_op (op_not rfl) rfl (by simp) ?_
 refine al_nil ?_
 refine aw_cond rfl (fun h1 => ?_) (fun h1 => ?_)
 ·have gh1 := h1
  try simp only [nrm] at h1
  refine aw_seq ?_
  refine aw_region ?_
  refine al_op (op_assign rfl) rfl (by simp) ?_
  refine al_op (op_assign rfl) rfl (by simp) ?_
  refine al_nil ?_
  refine aw_freeze (fun _ => false) (fsub_cons (t := 4) rfl (by first | exact .leaf _ _ (frz_whole rfl rfl (by first | rfl | (simp; done) | (simp; omega)) (clo_map (fun _ => rfl))) | exact .leaf _ _ (.vnil 1) | exact .leaf _ _ (.nil 1) | exact .leaf _ _ (.same _)) (fsub_cons (t := 5) rfl (.leaf _ _ (.same _)) fsub_nil)) ?_
  refine aw_ret ?_
  refine ⟨_, res_2 rfl rfl rfl rfl rfl, ?_, rfl⟩
  rw [Net.way_f1 gh1] <;> rfl
 ·have gh1 := h1
  try simp only [nrm] at h1
  refine aw_skip ?_
  refine aw_seq ?_
  refine aw_seq ?_
  refine aw_region ?_
  refine al_op (op_load_ptr Tryz.underlying27 info27 rfl rfl rfl rfl) rfl (by simp) ?_
  refine al_callp into25 rfl rfl rfl ((r_small4 _ (by assumption)) _) (by simp) ?_
  refine al_op (op_not rfl) rfl (by simp) ?_
  refine al_nil ?_
  refine aw_cond rfl (fun h2 => ?_) (fun h2 => ?_)
  ·have gh2 := h2
   try simp only [nrm] at h2
   refine aw_seq ?_
   refine aw_region ?_
   refine al_op (op_assign rfl) rfl (by simp) ?_
   refine al_op (op_assign rfl) rfl (by simp) ?_
   refine al_nil ?_
   refine aw_freeze (fun _ => false) (fsub_cons (t := 4) rfl (by first | exact .leaf _ _ (frz_whole rfl rfl (by first | rfl | (simp; done) | (simp; omega)) (clo_map (fun _ => rfl))) | exact .leaf _ _ (.vnil 1) | exact .leaf _ _ (.nil 1) | exact .leaf _ _ (.same _)) (fsub_cons (t := 5) rfl (.leaf _ _ (.same _)) fsub_nil)) ?_
   refine aw_ret ?_
   refine ⟨_, res_2 rfl rfl rfl rfl rfl, ?_, rfl⟩
   rw [Net.way_f2 (by assumption) gh2] <;> rfl
  ·have gh2 := h2
   try simp only [nrm] at h2
   refine aw_skip ?_
   refine aw_seq ?_
   refine aw_seq ?_
   have hfe := Net.fit_good (by assumption) (by assumption)
   have hr := Net.fit_ready hn hfe
   have hsl := Net.states_le hr.r
   have hrl := hr.r
   obtain ⟨hb0, hb1⟩ := hr.begin
   have hfl : n.firsts.length = n.regs.length := by simp [Net.firsts]
   have hstl := n.stepsL_len
   have hse : ((1 <<< n.regs.length : Nat) : Int) = (n.states : Int) := rfl
   refine aw_region ?_
   refine al_op (op_move rfl) rfl (by simp) ?_
   refine al_op (op_lss rfl rfl) rfl (by simp) ?_
   refine al_op (op_move rfl) rfl (by simp) ?_
   apply al_or 7 17 24 rfl
   ·intro h3; have gh3 := h3
    try simp only [nrm] at h3
    refine al_take (op_move rfl) rfl rfl rfl rfl (by simp) ?_
    refine al_take (op_field_ptr Tryz.underlying27 rfl info23 (by decide) rfl rfl rfl) rfl rfl rfl rfl (by simp) ?_
    refine al_take (op_load_ptr Tryz.underlying23 info23 rfl rfl rfl rfl) rfl rfl rfl rfl (by simp) ?_
    refine al_take (op_len_map Tryz.underlying23 rfl) rfl rfl rfl rfl (by simp) ?_
    refine al_take (val_as (.v (.int .i64 ((n.states : Nat) : Int))) (op_shl (a := ((1 : Nat) : Int)) rfl rfl (by omega) (shl_i64 (by decide) (by omega))) (by rfl)) rfl rfl rfl rfl (by simp) ?_
    refine al_take (op_geq rfl rfl) rfl rfl rfl rfl (by simp) ?_
    refine al_op (op_pick rfl rfl) rfl (by simp) ?_
    refine al_nil ⟨rfl, rfl, rfl, keep_of ?_⟩
    repeat (first | exact subx_refl | exact subx_known rfl gh3 subx_refl | refine subx_put rfl ?_)
   ·intro h3; have gh3 := h3
    try simp only [nrm] at h3
    refine al_pass rfl rfl rfl rfl (by simp) ?_
    refine al_pass rfl rfl rfl rfl (by simp) ?_
    refine al_pass rfl rfl rfl rfl (by simp) ?_
    refine al_pass rfl rfl rfl rfl (by simp) ?_
    refine al_pass rfl rfl rfl rfl (by simp) ?_
    refine al_pass rfl rfl rfl rfl (by simp) ?_
    refine al_op (op_pick rfl rfl) rfl (by simp) ?_
    refine al_nil ⟨rfl, rfl, rfl, keep_of ?_⟩
    repeat (first | exact subx_refl | exact subx_known rfl gh3 subx_refl | refine subx_put rfl ?_)
   refine al_nil ?_
   refine aw_cond rfl (fun h4 => ?_) (fun h4 => ?_)
   ·have gh4 := h4
    try simp only [nrm] at h4
    refine aw_seq ?_
    refine aw_region ?_
    refine al_op (op_assign rfl) rfl (by simp) ?_
    refine al_op (op_assign rfl) rfl (by simp) ?_
    refine al_nil ?_
    refine aw_freeze (fun _ => false) (fsub_cons (t := 4) rfl (by first | exact .leaf _ _ (frz_whole rfl rfl (by first | rfl | (simp; done) | (simp; omega)) (clo_map (fun _ => rfl))) | exact .leaf _ _ (.vnil 1) | exact .leaf _ _ (.nil 1) | exact .leaf _ _ (.same _)) (fsub_cons (t := 5) rfl (.leaf _ _ (.same _)) fsub_nil)) ?_
    refine aw_ret ?_
    refine ⟨_, res_2 rfl rfl rfl rfl rfl, ?_, rfl⟩
    rw [Net.way_f3 hfe (by assumption)] <;> rfl
   ·have gh4 := h4
    try simp only [nrm] at h4
    refine aw_skip ?_
    refine aw_seq ?_
    have hxr : 0 ≤ x ∧ x < n.states := by (have h9 := (show (decide (x < 0) || decide (x ≥ (n.states : Int))) = false by assumption)); rw [Bool.or_eq_false_iff, decide_eq_false_iff_not, decide_eq_false_iff_not] at h9; omega
    obtain ⟨k, rfl⟩ := Int.eq_ofNat_of_zero_le hxr.1
    have hxs : k < n.states := by omega
    have hwk := Net.way_steps hr hfe hxs
    refine aw_region ?_
    refine al_op (op_load_ptr Tryz.underlying27 info27 rfl rfl rfl rfl) rfl (by simp) ?_
    refine al_callp into26 rfl rfl rfl ((r_steps _ (by assumption)) _) (by simp) ?_
    refine al_op (op_move rfl) rfl (by simp) ?_
    refine al_op (op_index_map default Tryz.underlying31 info3 rfl rfl rfl (by first | (with_reducible exact Int.toNat_natCast _) | rfl) (by omega) (by omega)) rfl (by simp) ?_
    refine al_op (val_as (.v (.int .i64 (n.dst k))) (op_load_rptr Tryz.underlying3 info3 rfl rfl) (by first | rw [n.stepsL_get hxs] | (simp only [Nat.zero_add, Int.toNat_natCast]; rw [n.stepsL_get hxs]))) rfl (by simp) ?_
    refine al_op (op_assign rfl) rfl (by simp) ?_
    refine al_nil ?_
    refine aw_seq ?_
    refine aw_seq ?_
    refine aw_region ?_
    refine al_op (op_move rfl) rfl (by simp) ?_
    refine al_op (op_lss rfl rfl) rfl (by simp) ?_
    refine al_nil ?_
    refine aw_cond rfl (fun h5 => ?_) (fun h5 => ?_)
    ·have gh5 := h5
     try simp only [nrm] at h5
     refine aw_seq ?_
     refine aw_region ?_
     refine al_op (op_assign rfl) rfl (by simp) ?_
     refine al_op (op_assign rfl) rfl (by simp) ?_
     refine al_nil ?_
     refine aw_freeze (fun _ => false) (fsub_cons (t := 4) rfl (by first | exact .leaf _ _ (frz_whole rfl rfl (by first | rfl | (simp; done) | (simp; omega)) (clo_map (fun _ => rfl))) | exact .leaf _ _ (.vnil 1) | exact .leaf _ _ (.nil 1) | exact .leaf _ _ (.same _)) (fsub_cons (t := 5) rfl (.leaf _ _ (.same _)) fsub_nil)) ?_
     refine aw_ret ?_
     refine ⟨_, res_2 rfl rfl rfl rfl rfl, ?_, rfl⟩
     rw [hwk, if_pos (of_decide_eq_true (show decide (n.dst k < 0) = true by assumption))] <;> rfl
    ·have gh5 := h5
     try simp only [nrm] at h5
     refine aw_skip ?_
     refine aw_seq ?_
     have hdk : 0 ≤ n.dst k := by have := of_decide_eq_false (show decide (n.dst k < 0) = false by assumption); omega
     refine aw_any (Checked.mixed Tryz.checked) ?_
     apply aany_seg (p := 0) (q := 12) (by kernel_rfl) rfl (by decide)
     ·
      apply ql_plain rfl (op_load_ptr Tryz.underlying27 info27 rfl rfl rfl rfl)
      apply ql_plain rfl (op_load_ptr Tryz.underlying27 info27 rfl rfl rfl rfl)
      apply ql_call into31 rfl rfl rfl ((r_First4 _ (by assumption)) _)
      apply ql_call into30 rfl rfl rfl (r_number4 _ hb0 (by omega) _)
      apply ql_plain rfl (op_move rfl)
      apply ql_plain rfl (op_move rfl)
      apply ql_call into29 rfl rfl rfl (r_way n hr k hxs hdk _)
      apply ql_plain rfl (op_move rfl)
      apply ql_plain rfl (op_extract rfl rfl rfl)
      apply ql_plain rfl (op_extract rfl rfl rfl)
      apply ql_plain rfl (op_assign rfl)
      apply ql_plain rfl (op_assign rfl)
      exact ql_nil
     ·simp
     refine aany_end rfl (by kernel_rfl) ?_
     refine aw_seq ?_
     refine aw_region ?_
     refine al_op (op_move rfl) rfl (by simp) ?_
     refine al_op (op_assign rfl) rfl (by simp) ?_
     refine al_op (op_assign rfl) rfl (by simp) ?_
     refine al_nil ?_
     refine aw_freeze (fun _ => false) (fsub_cons (t := 4) rfl (by first | exact .leaf _ _ (frz_whole rfl rfl (by first | rfl | (simp; done) | (simp; omega)) (clo_map (fun _ => rfl))) | exact .leaf _ _ (.vnil 1) | exact .leaf _ _ (.nil 1) | exact .leaf _ _ (.same _)) (fsub_cons (t := 5) rfl (.leaf _ _ (.same _)) fsub_nil)) ?_
     refine aw_ret ?_
     refine ⟨_, res_2 rfl rfl rfl rfl rfl, ?_, rfl⟩
     rw [hwk, if_neg (by omega)] <;> rfl
end Go.Proofs.YtnnklpmgncbgnaaGreat
