/- Printed walks (gen.py, gates_ann.py): part 119. -/
import Derived.Test.YtbpamlphacpkeaaW116
import Derived.Test.YtbpamlphacpkeaaW117
import Derived.Test.YtbpamlphacpkeaaFacts
set_option linter.unusedVariables false
set_option linter.unusedSimpArgs false
set_option maxRecDepth 20000
set_option maxHeartbeats 40000000
namespace Go.Proofs.Ytbpamlphacpkeaa
open Go

theorem q_own_clean (n : Net) (z1 : n.ins.length * 16 ≤ 140737488355328) (z2 : n.regs.length * 32 ≤ 140737488355328) (z3 : n.gates.length * 16 ≤ 140737488355328) (z4 : n.outs.length * 24 ≤ 140737488355328) : AC Try.prog 52 [encN n] ([]) (fun r σ' => ∃ vr vo a, r = .ret a ∧ FrzT σ' (fun i => decide (i ≤ 1)) a (.agg [.list 1 (n.ins.map encS), .slice 0 vr 0 n.regs.length, .list 2 (n.gates.map encG), .slice 1 vo 0 n.outs.length]) ∧ σ'.keep (fun i => decide (i ≤ 1)) = [(0, vr, .row 3 (n.regs.map encR)), (1, vo, .row 2 (n.outs.map encP))]) := by
 refine ac_enter 20 Try.func52 rfl rfl (by simp) ?_
 refine aw_seq ?_
 refine aw_region ?_
 (refine al_opR (op_box 31 rfl rfl (by first | rfl | exact live_one rfl | (repeat (first | exact all_live_nil | refine all_live_clo rfl ?_ | refine all_live_slice rfl ?_ | refine all_live_map rfl ?_ | refine all_live_ptr rfl ?_)))) rfl (by simp) ?_; rintro _ _ ⟨ver1, rfl, rfl⟩)
 (refine al_opR (op_alloc 32 info27 rfl rfl) rfl (by simp) ?_; rintro _ _ ⟨ver2, rfl, rfl⟩)
 refine al_nil ?_
 refine aw_seq ?_
 refine aw_plan [0, 1, 2, 4, 5, 6, 8, 9, 10, 12, 13, 14, 3, 7, 11, 15, 16, 17] (Checked.mixed Try.checked) (by kernel_rfl) ?_
 refine afl_float rfl rfl (opk_of (op_build_nil Try.underlying22 info9 rfl rfl (by decide) rfl)) (by simp) ?_
 refine afl_float rfl rfl (opk_of (op_field_ptr Try.underlying27 rfl info22 (by decide) rfl rfl rfl)) (by simp) ?_
 refine afl_float rfl rfl (opk_of (op_load_ptr Try.underlying22 info22 rfl rfl rfl rfl)) (by simp) ?_
 refine afl_float rfl rfl (opk_of (op_build_nil Try.underlying23 info93 rfl rfl (by decide) rfl)) (by simp) ?_
 refine afl_float rfl rfl (opk_of (op_field_ptr Try.underlying27 rfl info23 (by decide) rfl rfl rfl)) (by simp) ?_
 refine afl_float rfl rfl (opk_of (op_load_ptr Try.underlying23 info23 rfl rfl rfl rfl)) (by simp) ?_
 refine afl_float rfl rfl (opk_of (op_build_nil Try.underlying24 info86 rfl rfl (by decide) rfl)) (by simp) ?_
 refine afl_float rfl rfl (opk_of (op_field_ptr Try.underlying27 rfl info24 (by decide) rfl rfl rfl)) (by simp) ?_
 refine afl_float rfl rfl (opk_of (op_load_ptr Try.underlying24 info24 rfl rfl rfl rfl)) (by simp) ?_
 refine afl_float rfl rfl (opk_of (op_build_nil Try.underlying25 info69 rfl rfl (by decide) rfl)) (by simp) ?_
 refine afl_float rfl rfl (opk_of (op_field_ptr Try.underlying27 rfl info25 (by decide) rfl rfl rfl)) (by simp) ?_
 refine afl_float rfl rfl (opk_of (op_load_ptr Try.underlying25 info25 rfl rfl rfl rfl)) (by simp) ?_
 (refine afl_effR rfl rfl (by kernel_rfl) (op_append_new 20 Try.underlying22 Try.underlying22 rfl info9 rfl rfl (by decide) rfl rfl rfl (by first | exact .list _ | exact .vnil | exact .nil | exact .row _ _ _ _ rfl (by first | rfl | simp)) rfl (by first | omega | (simp; done) | (simp; omega)) (by show _ * 16 ≤ _; first | omega | (simp; done) | (simp; omega))) (by simp) ?_; rintro _ _ ⟨ver6, rfl, rfl⟩; refine ⟨?_, ?_⟩)
 ·
  refine loose_k rfl (opk_of (op_load_ptr Try.underlying25 info25 rfl rfl rfl rfl)) ?_
  refine loose_k rfl (opk_of (op_field_ptr Try.underlying27 rfl info25 (by decide) rfl rfl rfl)) ?_
  refine loose_k rfl (opk_of (op_build_nil Try.underlying25 info69 rfl rfl (by decide) rfl)) ?_
  refine loose_k rfl (opk_of (op_load_ptr Try.underlying24 info24 rfl rfl rfl rfl)) ?_
  refine loose_k rfl (opk_of (op_field_ptr Try.underlying27 rfl info24 (by decide) rfl rfl rfl)) ?_
  refine loose_k rfl (opk_of (op_build_nil Try.underlying24 info86 rfl rfl (by decide) rfl)) ?_
  refine loose_k rfl (opk_of (op_load_ptr Try.underlying23 info23 rfl rfl rfl rfl)) ?_
  refine loose_k rfl (opk_of (op_field_ptr Try.underlying27 rfl info23 (by decide) rfl rfl rfl)) ?_
  refine loose_k rfl (opk_of (op_build_nil Try.underlying23 info93 rfl rfl (by decide) rfl)) ?_
  refine loose_anc 2 rfl (by kernel_rfl) ?_
  refine loose_anc 1 rfl (by kernel_rfl) ?_
  refine loose_anc 0 rfl (by kernel_rfl) ?_
  exact loose_nil
 (refine afl_effR rfl rfl (by kernel_rfl) (op_append_new 0 Try.underlying23 Try.underlying23 rfl info93 rfl rfl (by decide) rfl rfl rfl (by first | exact .list _ | exact .vnil | exact .nil | exact .row _ _ _ _ rfl (by first | rfl | simp)) rfl (by first | omega | (simp; done) | (simp; omega)) (by show _ * 32 ≤ _; first | omega | (simp; done) | (simp; omega))) (by simp) ?_; rintro _ _ ⟨ver10, rfl, rfl⟩; refine ⟨?_, ?_⟩)
 ·
  refine loose_anc 3 rfl (by kernel_rfl) ?_
  refine loose_k rfl (opk_of (op_load_ptr Try.underlying25 info25 rfl rfl rfl rfl)) ?_
  refine loose_k rfl (opk_of (op_field_ptr Try.underlying27 rfl info25 (by decide) rfl rfl rfl)) ?_
  refine loose_k rfl (opk_of (op_build_nil Try.underlying25 info69 rfl rfl (by decide) rfl)) ?_
  refine loose_k rfl (opk_of (op_load_ptr Try.underlying24 info24 rfl rfl rfl rfl)) ?_
  refine loose_k rfl (opk_of (op_field_ptr Try.underlying27 rfl info24 (by decide) rfl rfl rfl)) ?_
  refine loose_k rfl (opk_of (op_build_nil Try.underlying24 info86 rfl rfl (by decide) rfl)) ?_
  refine loose_anc 6 rfl (by kernel_rfl) ?_
  refine loose_anc 5 rfl (by kernel_rfl) ?_
  refine loose_anc 4 rfl (by kernel_rfl) ?_
  refine loose_anc 2 rfl (by kernel_rfl) ?_
  refine loose_anc 1 rfl (by kernel_rfl) ?_
  refine loose_anc 0 rfl (by kernel_rfl) ?_
  exact loose_nil
 (refine afl_effR rfl rfl (by kernel_rfl) (op_append_new 21 Try.underlying24 Try.underlying24 rfl info86 rfl rfl (by decide) rfl rfl rfl (by first | exact .list _ | exact .vnil | exact .nil | exact .row _ _ _ _ rfl (by first | rfl | simp)) rfl (by first | omega | (simp; done) | (simp; omega)) (by show _ * 16 ≤ _; first | omega | (simp; done) | (simp; omega))) (by simp) ?_; rintro _ _ ⟨ver14, rfl, rfl⟩; refine ⟨?_, ?_⟩)
 ·
  refine loose_anc 7 rfl (by kernel_rfl) ?_
  refine loose_anc 3 rfl (by kernel_rfl) ?_
  refine loose_k rfl (opk_of (op_load_ptr Try.underlying25 info25 rfl rfl rfl rfl)) ?_
  refine loose_k rfl (opk_of (op_field_ptr Try.underlying27 rfl info25 (by decide) rfl rfl rfl)) ?_
  refine loose_k rfl (opk_of (op_build_nil Try.underlying25 info69 rfl rfl (by decide) rfl)) ?_
  refine loose_anc 10 rfl (by kernel_rfl) ?_
  refine loose_anc 9 rfl (by kernel_rfl) ?_
  refine loose_anc 8 rfl (by kernel_rfl) ?_
  refine loose_anc 6 rfl (by kernel_rfl) ?_
  refine loose_anc 5 rfl (by kernel_rfl) ?_
  refine loose_anc 4 rfl (by kernel_rfl) ?_
  refine loose_anc 2 rfl (by kernel_rfl) ?_
  refine loose_anc 1 rfl (by kernel_rfl) ?_
  refine loose_anc 0 rfl (by kernel_rfl) ?_
  exact loose_nil
 (refine afl_effR rfl rfl (by kernel_rfl) (op_append_new 1 Try.underlying25 Try.underlying25 rfl info69 rfl rfl (by decide) rfl rfl rfl (by first | exact .list _ | exact .vnil | exact .nil | exact .row _ _ _ _ rfl (by first | rfl | simp)) rfl (by first | omega | (simp; done) | (simp; omega)) (by show _ * 24 ≤ _; first | omega | (simp; done) | (simp; omega))) (by simp) ?_; rintro _ _ ⟨ver18, rfl, rfl⟩; refine ⟨?_, ?_⟩)
 ·
  refine loose_anc 11 rfl (by kernel_rfl) ?_
  refine loose_anc 7 rfl (by kernel_rfl) ?_
  refine loose_anc 3 rfl (by kernel_rfl) ?_
  refine loose_anc 14 rfl (by kernel_rfl) ?_
  refine loose_anc 13 rfl (by kernel_rfl) ?_
  refine loose_anc 12 rfl (by kernel_rfl) ?_
  refine loose_anc 10 rfl (by kernel_rfl) ?_
  refine loose_anc 9 rfl (by kernel_rfl) ?_
  refine loose_anc 8 rfl (by kernel_rfl) ?_
  refine loose_anc 6 rfl (by kernel_rfl) ?_
  refine loose_anc 5 rfl (by kernel_rfl) ?_
  refine loose_anc 4 rfl (by kernel_rfl) ?_
  refine loose_anc 2 rfl (by kernel_rfl) ?_
  refine loose_anc 1 rfl (by kernel_rfl) ?_
  refine loose_anc 0 rfl (by kernel_rfl) ?_
  exact loose_nil
 refine afl_float rfl rfl (opk_of (op_build_struct Try.underlying27 info27 rfl place27 rfl (by first | rfl | (repeat (first | exact parts_nil | refine parts_cons rfl (by repeat (first | exact all_live_nil | refine all_live_clo rfl ?_ | refine all_live_slice rfl ?_ | refine all_live_map rfl ?_ | refine all_live_ptr rfl ?_)) ?_))) rfl)) (by simp) ?_
 (refine afl_eff rfl rfl (by kernel_rfl) (op_store_ptr info27 rfl rfl rfl rfl rfl rfl (by first | rfl | exact live_one rfl | (repeat (first | exact all_live_nil | refine all_live_clo rfl ?_ | refine all_live_slice rfl ?_ | refine all_live_map rfl ?_ | refine all_live_ptr rfl ?_))) (Nat.le_of_ble_eq_true rfl)) (by simp) ?_ ?_)
 ·
  refine loose_anc 16 rfl (by kernel_rfl) ?_
  refine loose_anc 15 rfl (by kernel_rfl) ?_
  refine loose_anc 11 rfl (by kernel_rfl) ?_
  refine loose_anc 7 rfl (by kernel_rfl) ?_
  refine loose_anc 3 rfl (by kernel_rfl) ?_
  refine loose_anc 14 rfl (by kernel_rfl) ?_
  refine loose_anc 13 rfl (by kernel_rfl) ?_
  refine loose_anc 12 rfl (by kernel_rfl) ?_
  refine loose_anc 10 rfl (by kernel_rfl) ?_
  refine loose_anc 9 rfl (by kernel_rfl) ?_
  refine loose_anc 8 rfl (by kernel_rfl) ?_
  refine loose_anc 6 rfl (by kernel_rfl) ?_
  refine loose_anc 5 rfl (by kernel_rfl) ?_
  refine loose_anc 4 rfl (by kernel_rfl) ?_
  refine loose_anc 2 rfl (by kernel_rfl) ?_
  refine loose_anc 1 rfl (by kernel_rfl) ?_
  refine loose_anc 0 rfl (by kernel_rfl) ?_
  exact loose_nil
 refine afl_end ?_
 refine aw_ret ?_
 refine ⟨_, res_cell rfl Try.underlying27 info27 rfl rfl rfl rfl, ?_⟩
 exact ⟨_, _, _, rfl, .one _ _ (.agg _ _ (frz2_cons (frz_whole rfl rfl (by simp) (clo_map (fun _ => rfl))) (frz2_cons (.same _) (frz2_cons (frz_whole rfl rfl (by simp) (clo_map (fun _ => rfl))) (frz2_cons (.same _) frz2_nil))))), rfl⟩
theorem own_clean {σ : Store} (r o : Nat) (n : Net) (z1 : n.ins.length * 16 ≤ 140737488355328) (z2 : n.regs.length * 32 ≤ 140737488355328) (z3 : n.gates.length * 16 ≤ 140737488355328) (z4 : n.outs.length * 24 ≤ 140737488355328) (ht : tabOK [r, o] = true) (hb : σ.below 1000 = true) (hf : Store.free [r, o] [] σ = true) : AC Try.prog 52 [encN n] σ (fun x σ' => ∃ vr vo, x = .ret (.agg [.list 1 (n.ins.map encS), .slice r vr 0 n.regs.length, .list 2 (n.gates.map encG), .slice o vo 0 n.outs.length]) ∧ σ' = (σ.put o vo (.row 2 (n.outs.map encP))).put r vr (.row 3 (n.regs.map encR))) := by
  have hc : AC Try.prog 52 [encN n] [] (fun x σ' => ∃ vr vo, x = .ret (.agg [.list 1 (n.ins.map encS), .slice 0 vr 0 n.regs.length, .list 2 (n.gates.map encG), .slice 1 vo 0 n.outs.length]) ∧ σ' = [(0, vr, .row 3 (n.regs.map encR)), (1, vo, .row 2 (n.outs.map encP))]) := ac_frz (fun i => decide (i ≤ 1)) (q_own_clean n z1 z2 z3 z4) (by rintro r σ1 ⟨vr, vo, a, rfl, hf, hk⟩; exact ⟨a, _, rfl, hf, vr, vo, rfl, hk⟩)
  have := ac_at (σ := σ) [r, o] ht hc trivial hf hb (by rintro r σ' _ j _; rfl)
  refine ac_mono this ?_
  rintro x σ' ⟨_, _, ⟨vr, vo, rfl, rfl⟩, rfl, rfl⟩
  refine ⟨vr, vo, rfl, ?_⟩
  have e3 : (AObj.row 2 (n.outs.map encP)).rn (tab [r, o]) = .row 2 (n.outs.map encP) := by show AObj.row 2 _ = _; rw [rn_rows (fun _ => rfl)]
  have e4 : (AObj.row 3 (n.regs.map encR)).rn (tab [r, o]) = .row 3 (n.regs.map encR) := by show AObj.row 3 _ = _; rw [rn_rows (fun _ => rfl)]
  simp only [Store.putAll, e3, e4]
  rfl

def RCS (n : Net) (v1 v2 v10 vr vo vg ver : Nat) (s : MS) (lits : List Int) (tl : Store) : Store := (1, v1, .row 4 [[.list 1 (n.ins.map encS), .list 3 (n.regs.map encR), .list 2 (n.gates.map encG), .list 2 (n.outs.map encP)]]) :: (2, v2, .row 4 [[.v (.slice none 0 0), .v (.slice none 0 0), .v (.slice none 0 0), .v (.slice none 0 0)]]) :: (64, vo, .row 2 (n.outs.map encP)) :: (63, vr, .row 3 (n.regs.map encR)) :: (10, v10, .row 4 [[.list 1 (n.ins.map encS), .slice 63 vr 0 n.regs.length, .slice 62 vg 0 s.gates.length, .slice 64 vo 0 n.outs.length]]) :: (55, ver, .row 1 (lits.map encI)) :: (62, vg, .row 2 (s.gates.map encG)) :: tl
theorem cleanTo_zero {n : Net} : n.cleanTo 0 = (n.begin, n.setEv n.fst) := rfl

theorem q_rclean (n : Net) (hn : n.Small) : AC Try.prog 51 [encN n] ([]) (fun r σ' => ∃ a, r = .ret a ∧ FrzT σ' (fun _ => false) a (.tuple [encN n.clean.1, .v (.int .i64 (n.clean.2))])) := by
 refine ac_enter 151 Try.func51 rfl rfl (by simp) ?_
 refine aw_seq ?_
 refine aw_region ?_
 (refine al_opR (op_box 1 rfl rfl (by first | rfl | exact live_one rfl | (repeat (first | exact all_live_nil | refine all_live_clo rfl ?_ | refine all_live_slice rfl ?_ | refine all_live_map rfl ?_ | refine all_live_ptr rfl ?_)))) rfl (by simp) ?_; rintro _ _ ⟨ver1, rfl, rfl⟩)
 (refine al_opR (op_alloc 2 info27 rfl rfl) rfl (by simp) ?_; rintro _ _ ⟨ver2, rfl, rfl⟩)
 refine al_op (op_assign rfl) rfl (by simp) ?_
 refine al_nil ?_
 refine aw_seq ?_
 refine aw_seq ?_
 refine aw_region ?_
 refine al_op (op_load_ptr Try.underlying27 info27 rfl rfl rfl rfl) rfl (by simp) ?_
 refine al_callp into21 rfl rfl rfl ((r_Valid _ (by assumption)) _) (by simp) ?_
 refine al_op (op_not rfl) rfl (by simp) ?_
 refine al_nil ?_
 refine aw_cond rfl (fun h1 => ?_) (fun h1 => ?_)
 ·have gh1 := h1
  try simp only [nrm] at h1
  refine aw_seq ?_
  refine aw_region ?_
  refine al_op (op_build_struct Try.underlying27 info27 rfl place27 rfl (by first | rfl | (repeat (first | exact parts_nil | refine parts_cons rfl (by repeat (first | exact all_live_nil | refine all_live_clo rfl ?_ | refine all_live_slice rfl ?_ | refine all_live_map rfl ?_ | refine all_live_ptr rfl ?_)) ?_))) rfl) rfl (by simp) ?_
  refine al_op (op_store_ptr info27 rfl rfl rfl rfl rfl rfl (by first | rfl | exact live_one rfl | (repeat (first | exact all_live_nil | refine all_live_clo rfl ?_ | refine all_live_slice rfl ?_ | refine all_live_map rfl ?_ | refine all_live_ptr rfl ?_))) (by decide)) rfl (by simp) ?_
  refine al_op (op_assign rfl) rfl (by simp) ?_
  refine al_nil ?_
  refine aw_ret ?_
  refine ⟨_, res_cell_tmp rfl Try.underlying27 info27 rfl rfl rfl rfl rfl rfl rfl, ?_⟩
  rw [Net.clean, if_neg (by simpa using gh1)]; exact ⟨_, rfl, .tuple _ _ (frz3_cons (.agg _ _ (frz2_cons (.vnil 1) (frz2_cons (.vnil 3) (frz2_cons (.vnil 2) (frz2_cons (.vnil 2) frz2_nil))))) (frz3_cons (.leaf _ _ (.same _)) frz3_nil))⟩
 ·have gh1 := h1
  try simp only [nrm] at h1
  have hv : n.valid = true := by simpa using gh1
  obtain ⟨f1, f2, f3, f4, f5, f6, f7⟩ := Net.valid_facts hv
  have hfst : n.first = 1 + n.ins.length + n.regs.length := rfl
  have hrl := n.roots_length
  have hrx := Net.roots_ok hv
  have hkl := n.kept_length
  have hF : n.fst = 1 + n.ins.length + n.regs.length := rfl
  have hr1 : n.roots.length ≤ 100000 := by omega
  refine aw_skip ?_
  refine aw_seq ?_
  refine aw_region ?_
  refine al_op (op_assign rfl) rfl (by simp) ?_
  refine al_nil ?_
  refine aw_seq ?_
  refine aw_seq ?_
  refine aw_region ?_
  refine al_op (op_field_ptr Try.underlying27 rfl info23 (by decide) rfl rfl rfl) rfl (by simp) ?_
  refine al_op (op_load_ptr Try.underlying23 info23 rfl rfl rfl rfl) rfl (by simp) ?_
  refine al_op (op_len_map Try.underlying23 rfl) rfl (by simp) ?_
  refine al_op (op_move rfl) rfl (by simp) ?_
  refine al_nil ?_
  refine aw_block ?_
  apply aw_only
  ·
   (first | apply sub_cons (t := 1) rfl | skip)
   (first | apply sub_cons (t := 2) rfl | skip)
   (first | apply sub_cons (t := 3) rfl | skip)
   (first | apply sub_cons (t := 4) rfl | skip)
   (first | apply sub_cons (t := 22) rfl | skip)
   (first | apply sub_cons (t := 23) rfl | skip)
   (first | apply sub_cons (t := 24) rfl | skip)
   exact sub_nil
  refine aw_own_map encI 4 1 4 rfl rfl (fun ver4 => ?_)
  refine aw_for2T (α := Nat) (β := Nat) [4, 24] [6] (fun i ver => n.regs.length - i) (fun i ver => i ≤ n.regs.length) (fun i ver => ([(4, .slice 4 ver 0 ((n.regs.take i).map regX).length), (24, .v (.int .i64 (i)))] : Env)) (fun i ver s => s.put 4 ver (.row 1 (((n.regs.take i).map regX).map encI))) (0) (ver4) ?_ ?_ ?_ (fun i ver hinv => ?_)
  ·exact Nat.zero_le _
  ·refine sub_cons (get_as rfl ?_) ?_; rotate_left; refine sub_cons (get_as rfl ?_) ?_; rotate_left; exact sub_nil
   all_goals (first | rfl | (simp; done) | (simp only [take_succ_getD n.regs i (by omega), List.map_append, List.map_cons, List.map_nil] <;> rfl))
  ·rfl
  refine aw_seq ?_
  refine aw_region ?_
  refine al_op (op_lss rfl rfl) rfl (by simp) ?_
  refine al_nil ?_
  refine aw_seq ?_
  refine aw_cond rfl (fun h2 => ?_) (fun h2 => ?_)
  ·have gh2 := h2
   try simp only [nrm] at h2
   refine aw_skip ?_
   refine aw_seq ?_
   refine aw_block ?_
   refine aw_seq ?_
   refine aw_region ?_
   refine al_op (op_index_map default Try.underlying23 info93 rfl rfl rfl (by first | (with_reducible exact Int.toNat_natCast _) | rfl) (by omega) (by omega)) rfl (by simp) ?_
   refine al_op (op_load_rptr Try.underlying93 info93 rfl rfl) rfl (by simp) ?_
   (refine al_opR (op_alloc 6 info93 rfl rfl) rfl (by simp) ?_; rintro _ _ ⟨ver6, rfl, rfl⟩)
   refine al_op (op_store_ptr info93 rfl rfl rfl rfl rfl rfl (by first | rfl | exact live_one rfl | (repeat (first | exact all_live_nil | refine all_live_clo rfl ?_ | refine all_live_slice rfl ?_ | refine all_live_map rfl ?_ | refine all_live_ptr rfl ?_))) (Nat.le_of_ble_eq_true rfl)) rfl (by simp) ?_
   refine al_nil ?_
   refine aw_region ?_
   refine al_op (op_move rfl) rfl (by simp) ?_
   refine al_op (op_field_ptr Try.underlying93 rfl info3 (by decide) rfl rfl rfl) rfl (by simp) ?_
   refine al_op (op_load_ptr Try.underlying3 info3 rfl rfl rfl rfl) rfl (by simp) ?_
   refine al_op (op_buildSlice Try.underlying54 info3 rfl rfl (by decide) rfl (by decide) rfl (by first | rfl | (repeat (first | exact parts_nil | refine parts_cons rfl (by repeat (first | exact all_live_nil | refine all_live_clo rfl ?_ | refine all_live_slice rfl ?_ | refine all_live_map rfl ?_ | refine all_live_ptr rfl ?_)) ?_))) rfl rfl rfl) rfl (by simp) ?_
   (refine al_opR (op_append_one (regX (n.regs.getD i default)) Try.underlying54 Try.underlying54 rfl info3 rfl rfl (by decide) rfl rfl rfl (by first | rfl | simp) rfl rfl (by first | omega | (simp; done) | (simp; omega)) (by show _ * 8 ≤ _; first | omega | (simp; done) | (simp; omega))) rfl (by simp) ?_; rintro _ _ ⟨ver32, rfl, rfl⟩)
   refine al_op (op_assign rfl) rfl (by simp) ?_
   refine al_nil ?_
   refine aw_region ?_
   refine al_op (op_add rfl rfl (by first | exact wrap_i64 (by omega) (by omega))) rfl (by simp) ?_
   refine al_op (op_move rfl) rfl (by simp) ?_
   refine al_nil ?_
   refine ⟨i + 1, ver32, ?_, ?_, ?_, ?_, ?_⟩
   ·omega
   ·omega
   ·refine sub_cons (get_as rfl ?_) ?_; rotate_left; refine sub_cons (get_as rfl ?_) ?_; rotate_left; exact sub_nil
    all_goals (first | rfl | (simp; done) | (simp only [take_succ_getD n.regs i (by omega), List.map_append, List.map_cons, List.map_nil] <;> rfl))
   ·repeat (first | exact subx_refl | exact subx_del | refine subx_put rfl ?_)
   ·(simp only [take_succ_getD n.regs i (by omega), List.map_append, List.map_cons, List.map_nil] <;> rfl)
  ·have gh2 := h2
   try simp only [nrm] at h2
   refine aw_exit ?_
   obtain rfl : i = n.regs.length := by omega
   refine aw_seq ?_
   refine aw_seq ?_
   refine aw_region ?_
   refine al_op (op_field_ptr Try.underlying27 rfl info25 (by decide) rfl rfl rfl) rfl (by simp) ?_
   refine al_op (op_load_ptr Try.underlying25 info25 rfl rfl rfl rfl) rfl (by simp) ?_
   refine al_op (op_len_map Try.underlying25 rfl) rfl (by simp) ?_
   refine al_op (op_move rfl) rfl (by simp) ?_
   refine al_nil ?_
   refine aw_block ?_
   apply aw_only
   ·
    (first | apply sub_cons (t := 1) rfl | skip)
    (first | apply sub_cons (t := 2) rfl | skip)
    (first | apply sub_cons (t := 3) rfl | skip)
    (first | apply sub_cons (t := 4) rfl | skip)
    (first | apply sub_cons (t := 35) rfl | skip)
    (first | apply sub_cons (t := 36) rfl | skip)
    (first | apply sub_cons (t := 37) rfl | skip)
    exact sub_nil
   refine aw_for2T (α := Nat) (β := Nat) [4, 37] [8] (fun i ver => n.outs.length - i) (fun i ver => i ≤ n.outs.length) (fun i ver => ([(4, .slice 4 ver 0 ((n.regs.take n.regs.length).map regX ++ (n.outs.take i).map pinX).length), (37, .v (.int .i64 (i)))] : Env)) (fun i ver s => s.put 4 ver (.row 1 (((n.regs.take n.regs.length).map regX ++ (n.outs.take i).map pinX).map encI))) (0) (ver) ?_ ?_ ?_ (fun i ver hinv => ?_)
   ·exact Nat.zero_le _
   ·refine sub_cons (get_as rfl ?_) ?_; rotate_left; refine sub_cons (get_as rfl ?_) ?_; rotate_left; exact sub_nil
    all_goals (first | rfl | (simp; done) | (simp only [take_succ_getD n.outs i (by omega), List.map_append, List.map_cons, List.map_nil, ← List.append_assoc] <;> rfl))
   ·(simp only [List.take_zero, List.map_nil, List.append_nil] <;> rfl)
   refine aw_seq ?_
   refine aw_region ?_
   refine al_op (op_lss rfl rfl) rfl (by simp) ?_
   refine al_nil ?_
   refine aw_seq ?_
   refine aw_cond rfl (fun h3 => ?_) (fun h3 => ?_)
   ·have gh3 := h3
    try simp only [nrm] at h3
    refine aw_skip ?_
    refine aw_seq ?_
    refine aw_block ?_
    refine aw_seq ?_
    refine aw_region ?_
    refine al_op (op_index_map default Try.underlying25 info69 rfl rfl rfl (by first | (with_reducible exact Int.toNat_natCast _) | rfl) (by omega) (by omega)) rfl (by simp) ?_
    refine al_op (op_load_rptr Try.underlying69 info69 rfl rfl) rfl (by simp) ?_
    (refine al_opR (op_alloc 8 info69 rfl rfl) rfl (by simp) ?_; rintro _ _ ⟨ver8, rfl, rfl⟩)
    refine al_op (op_store_ptr info69 rfl rfl rfl rfl rfl rfl (by first | rfl | exact live_one rfl | (repeat (first | exact all_live_nil | refine all_live_clo rfl ?_ | refine all_live_slice rfl ?_ | refine all_live_map rfl ?_ | refine all_live_ptr rfl ?_))) (Nat.le_of_ble_eq_true rfl)) rfl (by simp) ?_
    refine al_nil ?_
    refine aw_region ?_
    refine al_op (op_move rfl) rfl (by simp) ?_
    refine al_op (op_field_ptr Try.underlying69 rfl info3 (by decide) rfl rfl rfl) rfl (by simp) ?_
    refine al_op (op_load_ptr Try.underlying3 info3 rfl rfl rfl rfl) rfl (by simp) ?_
    refine al_op (op_buildSlice Try.underlying54 info3 rfl rfl (by decide) rfl (by decide) rfl (by first | rfl | (repeat (first | exact parts_nil | refine parts_cons rfl (by repeat (first | exact all_live_nil | refine all_live_clo rfl ?_ | refine all_live_slice rfl ?_ | refine all_live_map rfl ?_ | refine all_live_ptr rfl ?_)) ?_))) rfl rfl rfl) rfl (by simp) ?_
    (refine al_opR (op_append_one (pinX (n.outs.getD i default)) Try.underlying54 Try.underlying54 rfl info3 rfl rfl (by decide) rfl rfl rfl (by first | rfl | simp) rfl rfl (by first | omega | (simp; done) | (simp; omega)) (by show _ * 8 ≤ _; first | omega | (simp; done) | (simp; omega))) rfl (by simp) ?_; rintro _ _ ⟨ver45, rfl, rfl⟩)
    refine al_op (op_assign rfl) rfl (by simp) ?_
    refine al_nil ?_
    refine aw_region ?_
    refine al_op (op_add rfl rfl (by first | exact wrap_i64 (by omega) (by omega))) rfl (by simp) ?_
    refine al_op (op_move rfl) rfl (by simp) ?_
    refine al_nil ?_
    refine ⟨i + 1, ver45, ?_, ?_, ?_, ?_, ?_⟩
    ·omega
    ·omega
    ·refine sub_cons (get_as rfl ?_) ?_; rotate_left; refine sub_cons (get_as rfl ?_) ?_; rotate_left; exact sub_nil
     all_goals (first | rfl | (simp; done) | (simp only [take_succ_getD n.outs i (by omega), List.map_append, List.map_cons, List.map_nil, ← List.append_assoc] <;> rfl))
    ·repeat (first | exact subx_refl | exact subx_del | refine subx_put rfl ?_)
    ·(simp only [take_succ_getD n.outs i (by omega), List.map_append, List.map_cons, List.map_nil, ← List.append_assoc] <;> rfl)
   ·have gh3 := h3
    try simp only [nrm] at h3
    refine aw_exit ?_
    obtain rfl : i = n.outs.length := by omega
    refine aw_seq ?_
    refine aw_freeze (fun i => !(Nat.beq i 4)) (fsub_cons (t := 4) rfl (.leaf _ _ (frz_whole rfl rfl (by simp) (clo_map (fun _ => rfl)))) fsub_same) ?_
    refine aw_as 4 (.list 1 (n.roots.map encI)) rfl (by rw [List.take_length, List.take_length]; rfl) ?_
    refine aw_region ?_
    refine al_op (op_load_ptr Try.underlying27 info27 rfl rfl rfl rfl) rfl (by simp) ?_
    refine al_op (op_move rfl) rfl (by simp) ?_
    refine al_callp into80 rfl rfl rfl ((r_cone _ (by assumption) (by assumption) _ (by assumption) (by assumption)) _) (by simp) ?_
    refine al_op (op_assign rfl) rfl (by simp) ?_
    refine al_nil ?_
    refine aw_seq ?_
    refine aw_as 9 (.list 1 (n.kept.map encT)) rfl rfl ?_
    refine aw_region ?_
    refine al_op (op_load_ptr Try.underlying27 info27 rfl rfl rfl rfl) rfl (by simp) ?_
    (refine al_call into52 rfl rfl rfl (own_clean 63 64 n (by omega) (by omega) (by omega) (by omega) rfl rfl rfl) (by simp) ?_; rintro _ _ ⟨vr, vo, rfl, rfl⟩)
    (refine al_opR (op_alloc 10 info27 rfl rfl) rfl (by simp) ?_; rintro _ _ ⟨ver10, rfl, rfl⟩)
    refine al_op (op_store_ptr info27 rfl rfl rfl rfl rfl rfl (by first | rfl | exact live_one rfl | (repeat (first | exact all_live_nil | refine all_live_clo rfl ?_ | refine all_live_slice rfl ?_ | refine all_live_map rfl ?_ | refine all_live_ptr rfl ?_))) (Nat.le_of_ble_eq_true rfl)) rfl (by simp) ?_
    refine al_nil ?_
    refine aw_seq ?_
    refine aw_region ?_
    refine al_op (op_field_ptr Try.underlying27 rfl info24 (by decide) rfl rfl rfl) rfl (by simp) ?_
    refine al_op (op_store_ptr info24 rfl rfl rfl rfl rfl rfl (by first | rfl | exact live_one rfl | (repeat (first | exact all_live_nil | refine all_live_clo rfl ?_ | refine all_live_slice rfl ?_ | refine all_live_map rfl ?_ | refine all_live_ptr rfl ?_))) (Nat.le_of_ble_eq_true rfl)) rfl (by simp) ?_
    refine al_nil ?_
    refine aw_seq ?_
    refine aw_region ?_
    refine al_op (op_move rfl) rfl (by simp) ?_
    refine al_op (op_len_map Try.underlying64 rfl) rfl (by simp) ?_
    (refine al_opR (op_makeN (f := encI) 55 (0 : Int) Try.underlying54 info3 rfl rfl (by decide) rfl rfl rfl rfl (by omega) (by show (8 : Int) * _ ≤ _; omega) (by omega)) rfl (by simp) ?_; rintro _ _ ⟨ver55, rfl, rfl⟩)
    refine al_op (op_assign rfl) rfl (by simp) ?_
    refine al_nil ?_
    refine aw_seq ?_
    refine aw_seq ?_
    refine aw_region ?_
    refine al_op (op_assign rfl) rfl (by simp) ?_
    refine al_nil ?_
    refine aw_block ?_
    apply aw_only
    ·
     (first | apply sub_cons (t := 1) rfl | skip)
     (first | apply sub_cons (t := 2) rfl | skip)
     (first | apply sub_cons (t := 3) rfl | skip)
     (first | apply sub_cons (t := 9) rfl | skip)
     (first | apply sub_cons (t := 10) rfl | skip)
     (first | apply sub_cons (t := 11) rfl | skip)
     (first | apply sub_cons (t := 12) rfl | skip)
     exact sub_nil
    refine aw_forT (ι := Nat) [11, 12] [] (fun i => n.fst - i) (fun i => i ≤ n.fst) (fun i => ([(11, .slice 55 ver55 0 (n.setEv i).length), (12, .v (.int .i64 (i)))] : Env)) (fun i st => st.put 55 ver55 (.row 1 ((n.setEv i).map encI))) (0) ?_ ?_ ?_ (fun i hinv => ?_)
    ·exact Nat.zero_le _
    ·refine sub_cons (get_as rfl ?_) ?_; rotate_left; refine sub_cons (get_as rfl ?_) ?_; rotate_left; exact sub_nil
     all_goals (first | rfl | (simp; done) | (rw [n.setEv_zero] <;> rfl) | (rw [n.setEv_length, n.setEv_length]))
    ·(rw [n.setEv_zero] <;> rfl)
    have hse := n.setEv_length i
    refine aw_seq ?_
    refine aw_seq ?_
    refine aw_region ?_
    refine al_op (op_move rfl) rfl (by simp) ?_
    refine al_op (op_load_ptr Try.underlying27 info27 rfl rfl rfl rfl) rfl (by simp) ?_
    refine al_callp into63 rfl rfl rfl ((r_first _ (by assumption)) _) (by simp) ?_
    refine al_op (op_lss rfl rfl) rfl (by simp) ?_
    refine al_nil ?_
    refine aw_cond rfl (fun h4 => ?_) (fun h4 => ?_)
    ·have gh4 := h4
     try simp only [nrm] at h4
     refine aw_skip ?_
     refine aw_seq ?_
     refine aw_block ?_
     refine aw_region ?_
     refine al_op (op_move rfl) rfl (by simp) ?_
     refine al_op (op_move rfl) rfl (by simp) ?_
     refine al_op (op_move rfl) rfl (by simp) ?_
     refine al_op (op_mul rfl rfl (by first | exact wrap_i64 (by omega) (by omega))) rfl (by simp) ?_
     refine al_op (op_index_slice Try.underlying54 info3 rfl rfl rfl rfl (by omega) (by omega)) rfl (by simp) ?_
     refine al_op (op_store_map (2 * (i : Int)) info3 rfl rfl rfl (by omega) rfl rfl rfl (Nat.le_of_ble_eq_true rfl) rfl) rfl (by simp) ?_
     refine al_nil ?_
     refine aw_region ?_
     refine al_op (op_move rfl) rfl (by simp) ?_
     refine al_op (op_add rfl rfl (by first | exact wrap_i64 (by omega) (by omega))) rfl (by simp) ?_
     refine al_op (op_assign rfl) rfl (by simp) ?_
     refine al_nil ?_
     refine ⟨i + 1, ?_, ?_, ?_, ?_, ?_⟩
     ·omega
     ·omega
     ·refine sub_cons (get_as rfl ?_) ?_; rotate_left; refine sub_cons (get_as rfl ?_) ?_; rotate_left; exact sub_nil
      all_goals (first | rfl | (simp; done) | (rw [n.setEv_zero] <;> rfl) | (rw [n.setEv_length, n.setEv_length]))
     ·repeat (first | exact subx_refl | exact subx_del | refine subx_put rfl ?_)
     ·rfl
    ·have gh4 := h4
     try simp only [nrm] at h4
     refine aw_exit ?_
     obtain rfl : i = n.fst := by omega
     refine aw_seq ?_
     refine aw_seq ?_
     refine aw_region ?_
     refine al_op (op_field_ptr Try.underlying27 rfl info24 (by decide) rfl rfl rfl) rfl (by simp) ?_
     refine al_op (op_load_ptr Try.underlying24 info24 rfl rfl rfl rfl) rfl (by simp) ?_
     refine al_op (op_len_map Try.underlying24 rfl) rfl (by simp) ?_
     refine al_op (op_move rfl) rfl (by simp) ?_
     refine al_nil ?_
     refine aw_block ?_
     apply aw_only
     ·
      (first | apply sub_cons (t := 1) rfl | skip)
      (first | apply sub_cons (t := 2) rfl | skip)
      (first | apply sub_cons (t := 3) rfl | skip)
      (first | apply sub_cons (t := 9) rfl | skip)
      (first | apply sub_cons (t := 10) rfl | skip)
      (first | apply sub_cons (t := 11) rfl | skip)
      (first | apply sub_cons (t := 68) rfl | skip)
      (first | apply sub_cons (t := 69) rfl | skip)
      (first | apply sub_cons (t := 70) rfl | skip)
      exact sub_nil
     refine aw_own_in encG 10 62 2 2 (by decide) rfl rfl rfl (fun vg => ?_)
     refine aw_for2T (α := Nat) (β := Nat) [11, 70] [14] (fun i vg => n.gates.length - i) (fun i vg => i ≤ n.gates.length) (fun i vg => ([(11, .slice 55 ver55 0 (n.cleanTo i).2.length), (70, .v (.int .i64 (i)))] : Env)) (fun i vg st => RCS n ver1 ver2 ver10 vr vo vg ver55 (n.cleanTo i).1 (n.cleanTo i).2 []) (0) (vg) ?_ ?_ ?_ (fun i vg hinv => ?_)
     ·exact Nat.zero_le _
     ·refine sub_cons (get_as rfl ?_) ?_; rotate_left; refine sub_cons (get_as rfl ?_) ?_; rotate_left; exact sub_nil
      all_goals (first | (rw [cleanTo_zero]; done) | rfl | (simp; done))
     ·(rw [cleanTo_zero] <;> rfl)
     have hci := Net.clean_inv hv i hinv
     obtain ⟨hc1, hc2, hc3⟩ := hci.ok hn hv hinv
     have hc4 := hci.len
     have hgl := hc1.gates
     refine aw_seq ?_
     refine aw_region ?_
     refine al_op (op_lss rfl rfl) rfl (by simp) ?_
     refine al_nil ?_
     refine aw_seq ?_
     refine aw_cond rfl (fun h5 => ?_) (fun h5 => ?_)
     ·have gh5 := h5
      try simp only [nrm] at h5
      refine aw_skip ?_
      refine aw_seq ?_
      refine aw_block ?_
      refine aw_seq ?_
      refine aw_region ?_
      refine al_op (op_move rfl) rfl (by simp) ?_
      refine al_op (op_index_map default Try.underlying24 info86 rfl rfl rfl (by first | (with_reducible exact Int.toNat_natCast _) | rfl) (by omega) (by omega)) rfl (by simp) ?_
      refine al_op (op_load_rptr Try.underlying86 info86 rfl rfl) rfl (by simp) ?_
      (refine al_opR (op_alloc 14 info86 rfl rfl) rfl (by simp) ?_; rintro _ _ ⟨ver14, rfl, rfl⟩)
      refine al_op (op_assign rfl) rfl (by simp) ?_
      refine al_op (op_store_ptr info86 rfl rfl rfl rfl rfl rfl (by first | rfl | exact live_one rfl | (repeat (first | exact all_live_nil | refine all_live_clo rfl ?_ | refine all_live_slice rfl ?_ | refine all_live_map rfl ?_ | refine all_live_ptr rfl ?_))) (Nat.le_of_ble_eq_true rfl)) rfl (by simp) ?_
      refine al_nil ?_
      refine aw_seq ?_
      refine aw_region ?_
      refine al_op (op_move rfl) rfl (by simp) ?_
      refine al_op (op_load_ptr Try.underlying27 info27 rfl rfl rfl rfl) rfl (by simp) ?_
      refine al_callp into63 rfl rfl rfl ((r_first _ (by assumption)) _) (by simp) ?_
      refine al_op (op_move rfl) rfl (by simp) ?_
      refine al_op (op_add rfl rfl (by first | exact wrap_i64 (by omega) (by omega))) rfl (by simp) ?_
      refine al_op (op_index_map default Try.underlying64 info4 rfl rfl rfl (by first | (with_reducible exact Int.toNat_natCast _) | rfl) (by omega) (by omega)) rfl (by simp) ?_
      refine al_op (op_load_rptr Try.underlying4 info4 rfl rfl) rfl (by simp) ?_
      refine al_nil ?_
      refine aw_cond rfl (fun h6 => ?_) (fun h6 => ?_)
      ·have gh6 := h6
       try simp only [nrm] at h6
       refine aw_seq ?_
       have hg5 := f5 i (by omega)
       have hle := Net.litsR_eq hv (i := i) (by omega)
       have hrr : ∀ x ∈ (n.litsR i), 0 ≤ x ∧ x ≤ 100000 := by rw [hle]; exact set_range hc3 (by have := hc1.lits; omega)
       have hrl2 : (n.litsR i).length = n.kept.length := by rw [hle, List.length_set]; omega
       have hrl3 : ((n.cleanTo i).2.set (0 + (n.first + (i : Int)).toNat) (2 * (n.first + ((n.cleanTo i).1.gates.length : Int)))).length = n.kept.length := hrl2
       have hrr2 : ∀ x ∈ (n.cleanTo i).2.set (0 + (n.first + (i : Int)).toNat) (2 * (n.first + ((n.cleanTo i).1.gates.length : Int))), 0 ≤ x ∧ x ≤ 100000 := hrr
       refine aw_any (Checked.mixed Try.checked) ?_
       apply aany_seg (p := 0) (q := 13) (by kernel_rfl) rfl (by decide)
       ·
        apply ql_plain rfl (op_move rfl)
        apply ql_plain rfl (op_load_ptr Try.underlying27 info27 rfl rfl rfl rfl)
        apply ql_call into63 rfl rfl rfl ((r_first _ (by assumption)) _)
        apply ql_plain rfl (op_move rfl)
        apply ql_plain rfl (op_add rfl rfl (by first | exact wrap_i64 (by omega) (by omega)))
        apply ql_plain rfl (op_load_ptr Try.underlying27 info27 rfl rfl rfl rfl)
        apply ql_call into63 rfl rfl rfl ((r_first _ (by assumption)) _)
        apply ql_plain rfl (op_field_ptr Try.underlying27 rfl info24 (by decide) rfl rfl rfl)
        apply ql_plain rfl (op_load_ptr Try.underlying24 info24 rfl rfl rfl rfl)
        apply ql_plain rfl (op_len_slice Try.underlying24 rfl rfl)
        apply ql_plain rfl (op_add rfl rfl (by first | exact wrap_i64 (by omega) (by omega)))
        apply ql_plain rfl (op_mul rfl rfl (by first | exact wrap_i64 (by omega) (by omega)))
        apply ql_plain rfl (op_index_slice Try.underlying54 info3 rfl rfl rfl rfl (by omega) (by omega))
        exact ql_nil
       ·simp
       refine aany_op (by kernel_rfl) rfl rfl (op_store_map (2 * (n.first + ((n.cleanTo i).1.gates.length : Int))) info3 rfl rfl rfl (by omega) rfl rfl rfl (Nat.le_of_ble_eq_true rfl) rfl) (by simp) ?_
       refine aany_end rfl (by kernel_rfl) ?_
       refine aw_any (Checked.mixed Try.checked) ?_
       apply aany_seg (p := 0) (q := 12) (by kernel_rfl) rfl (by decide)
       ·
        apply ql_plain rfl (op_field_ptr Try.underlying27 rfl info24 (by decide) rfl rfl rfl)
        apply ql_plain rfl (op_load_ptr Try.underlying24 info24 rfl rfl rfl rfl)
        apply ql_plain rfl (op_move rfl)
        apply ql_plain rfl (op_index_aptr Try.underlying86 info3 rfl rfl rfl rfl (by decide) (by decide))
        apply ql_plain rfl (op_load_ptr Try.underlying3 info3 rfl rfl rfl rfl)
        apply ql_call into83 rfl rfl rfl (acp_lent (lend_cons (by first | exact lend_same | exact .leaf _ _ (.vnil _) | exact .leaf _ _ (.nil _) | exact lend_whole rfl (by first | rfl | (simp; done) | (simp; omega)) (clo_map (fun _ => rfl)) | exact lend_netg (by first | exact .same _ | exact lendL_vnil | exact lendL_whole rfl (by first | rfl | (simp; done) | (simp; omega)) (clo_map (fun _ => rfl))) (by first | exact .same _ | exact lendL_vnil | exact lendL_whole rfl (by first | rfl | (simp; done) | (simp; omega)) (clo_map (fun _ => rfl))) (by first | exact .same _ | exact lendL_vnil | exact lendL_whole rfl (by first | rfl | (simp; done) | (simp; omega)) (clo_map (fun _ => rfl))) (by first | exact .same _ | exact lendL_vnil | exact lendL_whole rfl (by first | rfl | (simp; done) | (simp; omega)) (clo_map (fun _ => rfl)))) (lend_cons (by first | exact lend_same | exact .leaf _ _ (.vnil _) | exact .leaf _ _ (.nil _) | exact lend_whole rfl (by first | rfl | (simp; done) | (simp; omega)) (clo_map (fun _ => rfl)) | exact lend_netg (by first | exact .same _ | exact lendL_vnil | exact lendL_whole rfl (by first | rfl | (simp; done) | (simp; omega)) (clo_map (fun _ => rfl))) (by first | exact .same _ | exact lendL_vnil | exact lendL_whole rfl (by first | rfl | (simp; done) | (simp; omega)) (clo_map (fun _ => rfl))) (by first | exact .same _ | exact lendL_vnil | exact lendL_whole rfl (by first | rfl | (simp; done) | (simp; omega)) (clo_map (fun _ => rfl))) (by first | exact .same _ | exact lendL_vnil | exact lendL_whole rfl (by first | rfl | (simp; done) | (simp; omega)) (clo_map (fun _ => rfl)))) lend_nil)) (r_Now _ _ (by omega) (by omega) (by assumption) (by omega)) rfl)
        apply ql_plain rfl (op_move rfl)
        apply ql_plain rfl (op_index_aptr Try.underlying86 info3 rfl rfl rfl rfl (by decide) (by decide))
        apply ql_plain rfl (op_load_ptr Try.underlying3 info3 rfl rfl rfl rfl)
        apply ql_call into83 rfl rfl rfl (acp_lent (lend_cons (by first | exact lend_same | exact .leaf _ _ (.vnil _) | exact .leaf _ _ (.nil _) | exact lend_whole rfl (by first | rfl | (simp; done) | (simp; omega)) (clo_map (fun _ => rfl)) | exact lend_netg (by first | exact .same _ | exact lendL_vnil | exact lendL_whole rfl (by first | rfl | (simp; done) | (simp; omega)) (clo_map (fun _ => rfl))) (by first | exact .same _ | exact lendL_vnil | exact lendL_whole rfl (by first | rfl | (simp; done) | (simp; omega)) (clo_map (fun _ => rfl))) (by first | exact .same _ | exact lendL_vnil | exact lendL_whole rfl (by first | rfl | (simp; done) | (simp; omega)) (clo_map (fun _ => rfl))) (by first | exact .same _ | exact lendL_vnil | exact lendL_whole rfl (by first | rfl | (simp; done) | (simp; omega)) (clo_map (fun _ => rfl)))) (lend_cons (by first | exact lend_same | exact .leaf _ _ (.vnil _) | exact .leaf _ _ (.nil _) | exact lend_whole rfl (by first | rfl | (simp; done) | (simp; omega)) (clo_map (fun _ => rfl)) | exact lend_netg (by first | exact .same _ | exact lendL_vnil | exact lendL_whole rfl (by first | rfl | (simp; done) | (simp; omega)) (clo_map (fun _ => rfl))) (by first | exact .same _ | exact lendL_vnil | exact lendL_whole rfl (by first | rfl | (simp; done) | (simp; omega)) (clo_map (fun _ => rfl))) (by first | exact .same _ | exact lendL_vnil | exact lendL_whole rfl (by first | rfl | (simp; done) | (simp; omega)) (clo_map (fun _ => rfl))) (by first | exact .same _ | exact lendL_vnil | exact lendL_whole rfl (by first | rfl | (simp; done) | (simp; omega)) (clo_map (fun _ => rfl)))) lend_nil)) (r_Now _ _ (by omega) (by omega) (by assumption) (by omega)) rfl)
        apply ql_plain rfl (op_build_array Try.underlying86 info86 rfl info3 rfl (by first | rfl | (repeat (first | exact parts_nil | refine parts_cons rfl (by repeat (first | exact all_live_nil | refine all_live_clo rfl ?_ | refine all_live_slice rfl ?_ | refine all_live_map rfl ?_ | refine all_live_ptr rfl ?_)) ?_))) rfl)
        apply ql_plain rfl (op_buildSlice Try.underlying24 info86 rfl rfl (by decide) rfl (by decide) rfl (by first | rfl | (repeat (first | exact parts_nil | refine parts_cons rfl (by repeat (first | exact all_live_nil | refine all_live_clo rfl ?_ | refine all_live_slice rfl ?_ | refine all_live_map rfl ?_ | refine all_live_ptr rfl ?_)) ?_))) rfl rfl rfl)
        exact ql_nil
       ·simp
       (refine aany_opR (by kernel_rfl) rfl rfl (op_append_one (nowV (n.litsR i) (n.gates.getD i default).1, nowV (n.litsR i) (n.gates.getD i default).2) Try.underlying24 Try.underlying24 rfl info86 rfl rfl (by decide) rfl rfl rfl (by first | rfl | simp) rfl rfl (by first | omega | (simp; done) | (simp; omega)) (by show _ * 16 ≤ _; first | omega | (simp; done) | (simp; omega))) (by simp) ?_; rintro _ _ ⟨ver107, rfl, rfl⟩)
       apply aany_seg (p := 13) (q := 14) (by kernel_rfl) rfl (by decide)
       ·
        apply ql_plain rfl (op_field_ptr Try.underlying27 rfl info24 (by decide) rfl rfl rfl)
        exact ql_nil
       ·simp
       refine aany_op (by kernel_rfl) rfl rfl (op_store_ptr info24 rfl rfl rfl rfl rfl rfl (by first | rfl | exact live_one rfl | (repeat (first | exact all_live_nil | refine all_live_clo rfl ?_ | refine all_live_slice rfl ?_ | refine all_live_map rfl ?_ | refine all_live_ptr rfl ?_))) (Nat.le_of_ble_eq_true rfl)) (by simp) ?_
       refine aany_end rfl (by kernel_rfl) ?_
       refine aw_region ?_
       refine al_op (op_add rfl rfl (by first | exact wrap_i64 (by omega) (by omega))) rfl (by simp) ?_
       refine al_op (op_move rfl) rfl (by simp) ?_
       refine al_nil ?_
       refine ⟨i + 1, ver107, ?_, ?_, ?_, ?_, ?_⟩
       ·omega
       ·omega
       ·refine sub_cons (get_as rfl ?_) ?_; rotate_left; refine sub_cons (get_as rfl ?_) ?_; rotate_left; exact sub_nil
        all_goals (first | (rw [(Net.clean_inv hv i (by omega)).len, (Net.clean_inv hv (i + 1) (by omega)).len]; done) | rfl | (simp; done))
       ·repeat (first | exact subx_refl | exact subx_del | refine subx_put rfl ?_)
       ·first | (rw [Net.cleanTo_yesR hv (by omega) (by assumption)] <;> rfl) | (rw [Net.cleanTo_noR (by assumption)] <;> rfl)
      ·have gh6 := h6
       try simp only [nrm] at h6
       refine aw_skip ?_
       refine aw_region ?_
       refine al_op (op_add rfl rfl (by first | exact wrap_i64 (by omega) (by omega))) rfl (by simp) ?_
       refine al_op (op_move rfl) rfl (by simp) ?_
       refine al_nil ?_
       refine ⟨i + 1, vg, ?_, ?_, ?_, ?_, ?_⟩
       ·omega
       ·omega
       ·refine sub_cons (get_as rfl ?_) ?_; rotate_left; refine sub_cons (get_as rfl ?_) ?_; rotate_left; exact sub_nil
        all_goals (first | (rw [(Net.clean_inv hv i (by omega)).len, (Net.clean_inv hv (i + 1) (by omega)).len]; done) | rfl | (simp; done))
       ·repeat (first | exact subx_refl | exact subx_del | refine subx_put rfl ?_)
       ·first | (rw [Net.cleanTo_yesR hv (by omega) (by assumption)] <;> rfl) | (rw [Net.cleanTo_noR (by assumption)] <;> rfl)
     ·have gh5 := h5
      try simp only [nrm] at h5
      refine aw_exit ?_
      obtain rfl : i = n.gates.length := by omega
      have hml : (n.cleanTo n.gates.length).2.length ≤ 100000 := by omega
      refine aw_seq ?_
      refine aw_seq ?_
      refine aw_region ?_
      refine al_op (op_field_ptr Try.underlying27 rfl info23 (by decide) rfl rfl rfl) rfl (by simp) ?_
      refine al_op (op_load_ptr Try.underlying23 info23 rfl rfl rfl rfl) rfl (by simp) ?_
      refine al_op (op_len_slice Try.underlying23 rfl rfl) rfl (by simp) ?_
      refine al_op (op_move rfl) rfl (by simp) ?_
      refine al_nil ?_
      refine aw_block ?_
      apply aw_only
      ·
       (first | apply sub_cons (t := 1) rfl | skip)
       (first | apply sub_cons (t := 2) rfl | skip)
       (first | apply sub_cons (t := 3) rfl | skip)
       (first | apply sub_cons (t := 10) rfl | skip)
       (first | apply sub_cons (t := 11) rfl | skip)
       (first | apply sub_cons (t := 112) rfl | skip)
       (first | apply sub_cons (t := 113) rfl | skip)
       exact sub_nil
      refine aw_forT (ι := Nat) [113] [] (fun i => n.regs.length - i) (fun i => i ≤ n.regs.length) (fun i => ([(113, .v (.int .i64 (i)))] : Env)) (fun i st => st.put 63 vr (.row 3 ((regsS (n.cleanTo n.gates.length).2 n.regs i).map encR))) (0) ?_ ?_ ?_ (fun i hinv => ?_)
      ·exact Nat.zero_le _
      ·refine sub_cons (get_as rfl ?_) ?_; rotate_left; exact sub_nil
       all_goals (first | rfl | simp)
      ·rfl
      have hrl5 := regsS_length (n.cleanTo n.gates.length).2 n.regs i
      refine aw_seq ?_
      refine aw_region ?_
      refine al_op (op_lss rfl rfl) rfl (by simp) ?_
      refine al_nil ?_
      refine aw_seq ?_
      refine aw_cond rfl (fun h7 => ?_) (fun h7 => ?_)
      ·have gh7 := h7
       try simp only [nrm] at h7
       refine aw_skip ?_
       refine aw_seq ?_
       refine aw_block ?_
       refine aw_seq ?_
       refine aw_region ?_
       refine al_op (op_move rfl) rfl (by simp) ?_
       refine al_op (op_assign rfl) rfl (by simp) ?_
       refine al_nil ?_
       have hf6 := f6 i (by omega)
       refine aw_any (Checked.mixed Try.checked) ?_
       apply aany_seg (p := 0) (q := 13) (by kernel_rfl) rfl (by decide)
       ·
        apply ql_plain rfl (op_field_ptr Try.underlying27 rfl info23 (by decide) rfl rfl rfl)
        apply ql_plain rfl (op_load_ptr Try.underlying23 info23 rfl rfl rfl rfl)
        apply ql_plain rfl (op_move rfl)
        apply ql_plain rfl (op_move rfl)
        apply ql_plain rfl (op_field_ptr Try.underlying27 rfl info23 (by decide) rfl rfl rfl)
        apply ql_plain rfl (op_load_ptr Try.underlying23 info23 rfl rfl rfl rfl)
        apply ql_plain rfl (op_move rfl)
        apply ql_plain rfl (op_index_map default Try.underlying23 info93 rfl rfl rfl (by first | (with_reducible exact Int.toNat_natCast _) | rfl) (by omega) (by omega))
        apply ql_plain rfl (op_field_rptr Try.underlying93 rfl info3 (by decide) rfl rfl)
        apply ql_plain rfl (op_load_rptr Try.underlying3 info3 rfl rfl)
        apply ql_call into83 rfl rfl rfl (acp_lent (lend_cons (by first | exact lend_same | exact .leaf _ _ (.vnil _) | exact .leaf _ _ (.nil _) | exact lend_whole rfl (by first | rfl | (simp; done) | (simp; omega)) (clo_map (fun _ => rfl)) | exact lend_netg (by first | exact .same _ | exact lendL_vnil | exact lendL_whole rfl (by first | rfl | (simp; done) | (simp; omega)) (clo_map (fun _ => rfl))) (by first | exact .same _ | exact lendL_vnil | exact lendL_whole rfl (by first | rfl | (simp; done) | (simp; omega)) (clo_map (fun _ => rfl))) (by first | exact .same _ | exact lendL_vnil | exact lendL_whole rfl (by first | rfl | (simp; done) | (simp; omega)) (clo_map (fun _ => rfl))) (by first | exact .same _ | exact lendL_vnil | exact lendL_whole rfl (by first | rfl | (simp; done) | (simp; omega)) (clo_map (fun _ => rfl)))) (lend_cons (by first | exact lend_same | exact .leaf _ _ (.vnil _) | exact .leaf _ _ (.nil _) | exact lend_whole rfl (by first | rfl | (simp; done) | (simp; omega)) (clo_map (fun _ => rfl)) | exact lend_netg (by first | exact .same _ | exact lendL_vnil | exact lendL_whole rfl (by first | rfl | (simp; done) | (simp; omega)) (clo_map (fun _ => rfl))) (by first | exact .same _ | exact lendL_vnil | exact lendL_whole rfl (by first | rfl | (simp; done) | (simp; omega)) (clo_map (fun _ => rfl))) (by first | exact .same _ | exact lendL_vnil | exact lendL_whole rfl (by first | rfl | (simp; done) | (simp; omega)) (clo_map (fun _ => rfl))) (by first | exact .same _ | exact lendL_vnil | exact lendL_whole rfl (by first | rfl | (simp; done) | (simp; omega)) (clo_map (fun _ => rfl)))) lend_nil)) (r_Now _ _ (by omega) (by omega) (by assumption) (by omega)) rfl)
        apply ql_plain rfl (op_index_slice Try.underlying23 info93 rfl rfl rfl rfl (by omega) (by omega))
        apply ql_plain rfl (op_field_ptr Try.underlying93 rfl info3 (by decide) rfl rfl rfl)
        exact ql_nil
       ·simp
       refine aany_op (by kernel_rfl) rfl rfl (op_store_map (((regsS (n.cleanTo n.gates.length).2 n.regs i).getD (0 + (i : Int).toNat) default).1, ((regsS (n.cleanTo n.gates.length).2 n.regs i).getD (0 + (i : Int).toNat) default).2.1, nowV (n.cleanTo n.gates.length).2 (n.regs.getD i default).2.2) info3 rfl rfl rfl (by omega) rfl rfl rfl (Nat.le_of_ble_eq_true rfl) rfl) (by simp) ?_
       refine aany_end rfl (by kernel_rfl) ?_
       refine aw_region ?_
       refine al_op (op_add rfl rfl (by first | exact wrap_i64 (by omega) (by omega))) rfl (by simp) ?_
       refine al_op (op_move rfl) rfl (by simp) ?_
       refine al_nil ?_
       refine ⟨i + 1, ?_, ?_, ?_, ?_, ?_⟩
       ·omega
       ·omega
       ·refine sub_cons (get_as rfl ?_) ?_; rotate_left; exact sub_nil
        all_goals (first | rfl | simp)
       ·repeat (first | exact subx_refl | exact subx_del | refine subx_put rfl ?_)
       ·(rw [regsS_step (n.cleanTo n.gates.length).2 n.regs i (by omega)] <;> rfl)
      ·have gh7 := h7
       try simp only [nrm] at h7
       refine aw_exit ?_
       obtain rfl : i = n.regs.length := by omega
       refine aw_seq ?_
       refine aw_seq ?_
       refine aw_region ?_
       refine al_op (op_field_ptr Try.underlying27 rfl info25 (by decide) rfl rfl rfl) rfl (by simp) ?_
       refine al_op (op_load_ptr Try.underlying25 info25 rfl rfl rfl rfl) rfl (by simp) ?_
       refine al_op (op_len_slice Try.underlying25 rfl rfl) rfl (by simp) ?_
       refine al_op (op_move rfl) rfl (by simp) ?_
       refine al_nil ?_
       refine aw_block ?_
       apply aw_only
       ·
        (first | apply sub_cons (t := 1) rfl | skip)
        (first | apply sub_cons (t := 2) rfl | skip)
        (first | apply sub_cons (t := 3) rfl | skip)
        (first | apply sub_cons (t := 10) rfl | skip)
        (first | apply sub_cons (t := 11) rfl | skip)
        (first | apply sub_cons (t := 132) rfl | skip)
        (first | apply sub_cons (t := 133) rfl | skip)
        exact sub_nil
       refine aw_forT (ι := Nat) [133] [] (fun i => n.outs.length - i) (fun i => i ≤ n.outs.length) (fun i => ([(133, .v (.int .i64 (i)))] : Env)) (fun i st => st.put 64 vo (.row 2 ((outsTo (n.cleanTo n.gates.length).2 n.outs i).map encP))) (0) ?_ ?_ ?_ (fun i hinv => ?_)
       ·exact Nat.zero_le _
       ·refine sub_cons (get_as rfl ?_) ?_; rotate_left; exact sub_nil
        all_goals (first | rfl | simp)
       ·rfl
       have hol := outsTo_length (n.cleanTo n.gates.length).2 n.outs i
       refine aw_seq ?_
       refine aw_region ?_
       refine al_op (op_lss rfl rfl) rfl (by simp) ?_
       refine al_nil ?_
       refine aw_seq ?_
       refine aw_cond rfl (fun h8 => ?_) (fun h8 => ?_)
       ·have gh8 := h8
        try simp only [nrm] at h8
        refine aw_skip ?_
        refine aw_seq ?_
        refine aw_block ?_
        refine aw_seq ?_
        refine aw_region ?_
        refine al_op (op_move rfl) rfl (by simp) ?_
        refine al_op (op_assign rfl) rfl (by simp) ?_
        refine al_nil ?_
        have hf7 := f7 i (by omega)
        refine aw_any (Checked.mixed Try.checked) ?_
        apply aany_seg (p := 0) (q := 13) (by kernel_rfl) rfl (by decide)
        ·
         apply ql_plain rfl (op_field_ptr Try.underlying27 rfl info25 (by decide) rfl rfl rfl)
         apply ql_plain rfl (op_load_ptr Try.underlying25 info25 rfl rfl rfl rfl)
         apply ql_plain rfl (op_move rfl)
         apply ql_plain rfl (op_move rfl)
         apply ql_plain rfl (op_field_ptr Try.underlying27 rfl info25 (by decide) rfl rfl rfl)
         apply ql_plain rfl (op_load_ptr Try.underlying25 info25 rfl rfl rfl rfl)
         apply ql_plain rfl (op_move rfl)
         apply ql_plain rfl (op_index_map default Try.underlying25 info69 rfl rfl rfl (by first | (with_reducible exact Int.toNat_natCast _) | rfl) (by omega) (by omega))
         apply ql_plain rfl (op_field_rptr Try.underlying69 rfl info3 (by decide) rfl rfl)
         apply ql_plain rfl (op_load_rptr Try.underlying3 info3 rfl rfl)
         apply ql_call into83 rfl rfl rfl (acp_lent (lend_cons (by first | exact lend_same | exact .leaf _ _ (.vnil _) | exact .leaf _ _ (.nil _) | exact lend_whole rfl (by first | rfl | (simp; done) | (simp; omega)) (clo_map (fun _ => rfl)) | exact lend_netg (by first | exact .same _ | exact lendL_vnil | exact lendL_whole rfl (by first | rfl | (simp; done) | (simp; omega)) (clo_map (fun _ => rfl))) (by first | exact .same _ | exact lendL_vnil | exact lendL_whole rfl (by first | rfl | (simp; done) | (simp; omega)) (clo_map (fun _ => rfl))) (by first | exact .same _ | exact lendL_vnil | exact lendL_whole rfl (by first | rfl | (simp; done) | (simp; omega)) (clo_map (fun _ => rfl))) (by first | exact .same _ | exact lendL_vnil | exact lendL_whole rfl (by first | rfl | (simp; done) | (simp; omega)) (clo_map (fun _ => rfl)))) (lend_cons (by first | exact lend_same | exact .leaf _ _ (.vnil _) | exact .leaf _ _ (.nil _) | exact lend_whole rfl (by first | rfl | (simp; done) | (simp; omega)) (clo_map (fun _ => rfl)) | exact lend_netg (by first | exact .same _ | exact lendL_vnil | exact lendL_whole rfl (by first | rfl | (simp; done) | (simp; omega)) (clo_map (fun _ => rfl))) (by first | exact .same _ | exact lendL_vnil | exact lendL_whole rfl (by first | rfl | (simp; done) | (simp; omega)) (clo_map (fun _ => rfl))) (by first | exact .same _ | exact lendL_vnil | exact lendL_whole rfl (by first | rfl | (simp; done) | (simp; omega)) (clo_map (fun _ => rfl))) (by first | exact .same _ | exact lendL_vnil | exact lendL_whole rfl (by first | rfl | (simp; done) | (simp; omega)) (clo_map (fun _ => rfl)))) lend_nil)) (r_Now _ _ (by omega) (by omega) (by assumption) (by omega)) rfl)
         apply ql_plain rfl (op_index_slice Try.underlying25 info69 rfl rfl rfl rfl (by omega) (by omega))
         apply ql_plain rfl (op_field_ptr Try.underlying69 rfl info3 (by decide) rfl rfl rfl)
         exact ql_nil
        ·simp
        refine aany_op (by kernel_rfl) rfl rfl (op_store_map (((outsTo (n.cleanTo n.gates.length).2 n.outs i).getD (0 + (i : Int).toNat) default).1, nowV (n.cleanTo n.gates.length).2 (n.outs.getD i default).2) info3 rfl rfl rfl (by omega) rfl rfl rfl (Nat.le_of_ble_eq_true rfl) rfl) (by simp) ?_
        refine aany_end rfl (by kernel_rfl) ?_
        refine aw_region ?_
        refine al_op (op_add rfl rfl (by first | exact wrap_i64 (by omega) (by omega))) rfl (by simp) ?_
        refine al_op (op_move rfl) rfl (by simp) ?_
        refine al_nil ?_
        refine ⟨i + 1, ?_, ?_, ?_, ?_, ?_⟩
        ·omega
        ·omega
        ·refine sub_cons (get_as rfl ?_) ?_; rotate_left; exact sub_nil
         all_goals (first | rfl | simp)
        ·repeat (first | exact subx_refl | exact subx_del | refine subx_put rfl ?_)
        ·(rw [outsTo_step2 (n.cleanTo n.gates.length).2 n.outs i (by omega)] <;> rfl)
       ·have gh8 := h8
        try simp only [nrm] at h8
        refine aw_exit ?_
        obtain rfl : i = n.outs.length := by omega
        refine aw_seq ?_
        refine aw_region ?_
        refine al_op (op_load_ptr Try.underlying27 info27 rfl rfl rfl rfl) rfl (by simp) ?_
        refine al_op (op_store_ptr info27 rfl rfl rfl rfl rfl rfl (by first | rfl | exact live_one rfl | (repeat (first | exact all_live_nil | refine all_live_clo rfl ?_ | refine all_live_slice rfl ?_ | refine all_live_map rfl ?_ | refine all_live_ptr rfl ?_))) (Nat.le_of_ble_eq_true rfl)) rfl (by simp) ?_
        refine al_op (op_assign rfl) rfl (by simp) ?_
        refine al_nil ?_
        refine aw_ret ?_
        refine ⟨_, res_cell_tmp rfl Try.underlying27 info27 rfl rfl rfl rfl rfl rfl rfl, ?_⟩
        rw [Net.clean, if_pos hv, laidN_eq2]; exact ⟨_, rfl, .tuple _ _ (frz3_cons (.agg _ _ (frz2_cons (.same _) (frz2_cons (frz_whole rfl rfl (by first | rfl | (simp; done) | (simp [regsS_length]; done)) (clo_map (fun _ => rfl))) (frz2_cons (frz_whole rfl rfl (by first | rfl | (simp; done) | (simp [regsS_length]; done)) (clo_map (fun _ => rfl))) (frz2_cons (frz_whole rfl rfl (by first | rfl | (simp; done) | (simp [outsTo_length]; done)) (clo_map (fun _ => rfl))) frz2_nil))))) (frz3_cons (.leaf _ _ (.same _)) frz3_nil))⟩
theorem r_clean (n : Net) (hn : n.Small) : ACp Try.prog 51 [encN n] (.tuple [encN n.clean.1, .v (.int .i64 (n.clean.2))]) :=
  acp_of rfl (ac_frz (fun _ => false) (q_rclean n hn) (by rintro r σ1 ⟨a, rfl, hf⟩; exact ⟨a, _, rfl, hf, rfl, keep_no _⟩))
end Go.Proofs.Ytbpamlphacpkeaa
