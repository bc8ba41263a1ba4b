/- Printed walks (gen.py, gates_ann.py): part 111. -/
import Derived.Test.YtbpamlphacpkeaaW90
import Derived.Test.YtbpamlphacpkeaaGShare
import Derived.Test.YtbpamlphacpkeaaGKnown
import Derived.Test.YtbpamlphacpkeaaFacts
set_option linter.unusedVariables false
set_option linter.unusedSimpArgs false
set_option maxRecDepth 20000
set_option maxHeartbeats 40000000
namespace Go.Proofs.Ytbpamlphacpkeaa
open Go

theorem mk_makeT {σ : Store} (m g t r : Nat) (ins names : List ByteArray) (inits : List Int) (z1 : ∀ s ∈ ins, s.size ≤ 140737488355328) (z2 : ∀ s ∈ names, s.size ≤ 140737488355328) (z3 : ∀ x ∈ inits, 0 ≤ x ∧ x ≤ 255) (z4 : ins.length ≤ 100000) (z5 : names.length ≤ 100000) (z6 : inits.length ≤ 100000) (hok : makeOK ins names inits = true) (ht : tabOK [m, g, t, r] = true) (hb : σ.below 1000 = true) (hf : Store.free [m, g, t, r] [] σ = true) : AC Try.prog 28 [.list 1 (ins.map encS), .list 1 (names.map encS), .list 1 (inits.map encB)] σ (fun x σ' => ∃ vm vg vt vr, x = .ret (.tuple [.ptr m vm 0 0, .v (.int .i64 0)]) ∧ σ' = (((σ.put g vg (.row 2 ((MS.make ins names inits).gates.map encG))).put r vr (.row 3 ((MS.make ins names inits).regs.map encR))).put m vm (.row 6 [(MS.make ins names inits).cells g t r vg vt vr])).put t vt (.map (thEnts (MS.make ins names inits).th))) := by
  have h : AC Try.prog 28 [.list 1 (ins.map encS), .list 1 (names.map encS), .list 1 (inits.map encB)] [] (fun r σ' => ∃ vm vg vt vr, r = .ret (.tuple [.ptr 0 vm 0 0, .v (.int .i64 0)]) ∧ σ' = [(2, vt, .map (thEnts [])), (0, vm, .row 6 [(MS.make ins names inits).cells 1 2 3 vg vt vr]), (3, vr, .row 3 ((MS.make ins names inits).regs.map encR)), (1, vg, .row 2 ((MS.make ins names inits).gates.map encG))]) :=
    ac_mono (q_mMake ins names inits z1 z2 z3 z4 z5 z6) (by intro x σ' h; rw [if_pos hok] at h; exact h)
  have := ac_at (σ := σ) [m, g, t, r] ht h trivial hf hb (by rintro r σ' _ j _; rfl)
  refine ac_mono this ?_
  rintro x σ' ⟨_, _, ⟨vm, vg, vt, vr, rfl, rfl⟩, rfl, rfl⟩
  refine ⟨vm, vg, vt, vr, rfl, ?_⟩
  have e4 : (AObj.row 3 ((MS.make ins names inits).regs.map encR)).rn (tab [m, g, t, r]) = .row 3 ((MS.make ins names inits).regs.map encR) := by show AObj.row 3 _ = _; rw [rn_rows (fun _ => rfl)]
  simp only [Store.putAll, e4]
  rfl

theorem q_again (n : Net) (hn : n.Small) (hv : n.valid = true) : AC Try.prog 81 [encN n] ([]) (fun r σ' => ∃ vm vg vt vr, r = .ret (.ptr 0 vm 0 0) ∧ σ'.keep (fun i => decide (i ≤ 3)) = [(1, vg, .row 2 (n.begin.gates.map encG)), (3, vr, .row 3 (n.begin.regs.map encR)), (0, vm, .row 6 [n.begin.cells 1 2 3 vg vt vr]), (2, vt, .map (thEnts n.begin.th))]) := by
 obtain ⟨f1, f2, f3, f4, f5, f6, f7⟩ := Net.valid_facts hv
 obtain ⟨hok, hgood⟩ := Net.begin_ok hn hv
 have y2 : ∀ s ∈ n.regs.map regN, s.size ≤ 140737488355328 := by
   intro s hs
   obtain ⟨r, hr, rfl⟩ := List.mem_map.1 hs
   exact hn.regs r hr
 have y3 : ∀ x ∈ n.regs.map regI, 0 ≤ x ∧ x ≤ 255 := by
   intro x hx
   obtain ⟨r, hr, rfl⟩ := List.mem_map.1 hx
   exact hn.bytes r hr
 refine ac_enter 36 Try.func81 rfl rfl (by simp) ?_
 refine aw_seq ?_
 refine aw_region ?_
 (refine al_opR (op_box 31 rfl rfl (by first | rfl | exact live_one rfl | (repeat (first | exact all_live_nil | refine all_live_clo rfl ?_ | refine all_live_slice rfl ?_ | refine all_live_map rfl ?_ | refine all_live_ptr rfl ?_)))) rfl (by simp) ?_; rintro _ _ ⟨ver1, rfl, rfl⟩)
 refine al_op (op_assign rfl) rfl (by simp) ?_
 refine al_nil ?_
 refine aw_seq ?_
 refine aw_region ?_
 refine al_op (op_assign rfl) rfl (by simp) ?_
 refine al_nil ?_
 refine aw_seq ?_
 refine aw_region ?_
 refine al_op (op_assign rfl) rfl (by simp) ?_
 refine al_nil ?_
 refine aw_seq ?_
 refine aw_seq ?_
 refine aw_region ?_
 refine al_op (op_field_ptr Try.underlying27 rfl info23 (by decide) rfl rfl rfl) rfl (by simp) ?_
 refine al_op (op_load_ptr Try.underlying23 info23 rfl rfl rfl rfl) rfl (by simp) ?_
 refine al_op (op_len_map Try.underlying23 rfl) rfl (by simp) ?_
 refine al_op (op_move rfl) rfl (by simp) ?_
 refine al_nil ?_
 refine aw_block ?_
 refine aw_own_map encS 33 1 3 rfl rfl (fun ver3 => ?_)
 refine aw_own_map encB 34 1 4 rfl rfl (fun ver4 => ?_)
 refine aw_for3T (α := Nat) (β := Nat) (γ := Nat) [3, 4, 12] [36] (fun i v3 v4 => n.regs.length - i) (fun i v3 v4 => i ≤ n.regs.length) (fun i v3 v4 => ([(3, .slice 33 v3 0 ((n.regs.take i).map regN).length), (4, .slice 34 v4 0 ((n.regs.take i).map regI).length), (12, .v (.int .i64 (i)))] : Env)) (fun i v3 v4 s => (s.put 33 v3 (.row 1 (((n.regs.take i).map regN).map encS))).put 34 v4 (.row 1 (((n.regs.take i).map regI).map encB))) (0) (ver3) (ver4) ?_ ?_ ?_ (fun i v3 v4 hinv => ?_)
 ·exact Nat.zero_le _
 ·refine sub_cons (get_as rfl ?_) ?_; rotate_left; refine sub_cons (get_as rfl ?_) ?_; rotate_left; refine sub_cons (get_as rfl ?_) ?_; rotate_left; exact sub_nil
  all_goals (first | rfl | (simp; done) | (simp only [take_succ_getD n.regs i (by omega), List.map_append, List.map_cons, List.map_nil] <;> rfl))
 ·rfl
 refine aw_seq ?_
 refine aw_region ?_
 refine al_op (op_lss rfl rfl) rfl (by simp) ?_
 refine al_nil ?_
 refine aw_seq ?_
 refine aw_cond rfl (fun h1 => ?_) (fun h1 => ?_)
 ·have gh1 := h1
  try simp only [nrm] at h1
  refine aw_skip ?_
  refine aw_seq ?_
  refine aw_block ?_
  refine aw_seq ?_
  refine aw_region ?_
  refine al_op (op_index_map default Try.underlying23 info93 rfl rfl rfl (by first | (with_reducible exact Int.toNat_natCast _) | rfl) (by omega) (by omega)) rfl (by simp) ?_
  refine al_op (op_load_rptr Try.underlying93 info93 rfl rfl) rfl (by simp) ?_
  (refine al_opR (op_alloc 36 info93 rfl rfl) rfl (by simp) ?_; rintro _ _ ⟨ver6, rfl, rfl⟩)
  refine al_op (op_store_ptr info93 rfl rfl rfl rfl rfl rfl (by first | rfl | exact live_one rfl | (repeat (first | exact all_live_nil | refine all_live_clo rfl ?_ | refine all_live_slice rfl ?_ | refine all_live_map rfl ?_ | refine all_live_ptr rfl ?_))) (Nat.le_of_ble_eq_true rfl)) rfl (by simp) ?_
  refine al_nil ?_
  refine aw_plan [0, 1, 2, 3, 5, 6, 7, 8, 4, 9, 10, 11] (Checked.mixed Try.checked) (by kernel_rfl) ?_
  refine afl_float rfl rfl (opk_of (op_move rfl)) (by simp) ?_
  refine afl_float rfl rfl (opk_of (op_field_ptr Try.underlying93 rfl info9 (by decide) rfl rfl rfl)) (by simp) ?_
  refine afl_float rfl rfl (opk_of (op_load_ptr Try.underlying9 info9 rfl rfl rfl rfl)) (by simp) ?_
  refine afl_float rfl rfl (opk_of (op_buildSlice Try.underlying22 info9 rfl rfl (by decide) rfl (by decide) rfl (by first | rfl | (repeat (first | exact parts_nil | refine parts_cons rfl (by repeat (first | exact all_live_nil | refine all_live_clo rfl ?_ | refine all_live_slice rfl ?_ | refine all_live_map rfl ?_ | refine all_live_ptr rfl ?_)) ?_))) rfl rfl rfl)) (by simp) ?_
  refine afl_float rfl rfl (opk_of (op_move rfl)) (by simp) ?_
  refine afl_float rfl rfl (opk_of (op_field_ptr Try.underlying93 rfl info65 (by decide) rfl rfl rfl)) (by simp) ?_
  refine afl_float rfl rfl (opk_of (op_load_ptr Try.underlying65 info65 rfl rfl rfl rfl)) (by simp) ?_
  refine afl_float rfl rfl (opk_of (op_buildSlice Try.underlying28 info65 rfl rfl (by decide) rfl (by decide) rfl (by first | rfl | (repeat (first | exact parts_nil | refine parts_cons rfl (by repeat (first | exact all_live_nil | refine all_live_clo rfl ?_ | refine all_live_slice rfl ?_ | refine all_live_map rfl ?_ | refine all_live_ptr rfl ?_)) ?_))) rfl rfl rfl)) (by simp) ?_
  (refine afl_effR rfl rfl (by kernel_rfl) (op_append_one (regN (n.regs.getD i default)) Try.underlying22 Try.underlying22 rfl info9 rfl rfl (by decide) rfl rfl rfl (by first | rfl | simp) rfl rfl (by first | omega | (simp; done) | (simp; omega)) (by show _ * 16 ≤ _; first | omega | (simp; done) | (simp; omega))) (by simp) ?_; rintro _ _ ⟨ver20, rfl, rfl⟩; refine ⟨?_, ?_⟩)
  ·
   refine loose_k rfl (opk_of (op_buildSlice Try.underlying28 info65 rfl rfl (by decide) rfl (by decide) rfl (by first | rfl | (repeat (first | exact parts_nil | refine parts_cons rfl (by repeat (first | exact all_live_nil | refine all_live_clo rfl ?_ | refine all_live_slice rfl ?_ | refine all_live_map rfl ?_ | refine all_live_ptr rfl ?_)) ?_))) rfl rfl rfl)) ?_
   refine loose_k rfl (opk_of (op_load_ptr Try.underlying65 info65 rfl rfl rfl rfl)) ?_
   refine loose_k rfl (opk_of (op_field_ptr Try.underlying93 rfl info65 (by decide) rfl rfl rfl)) ?_
   refine loose_k rfl (opk_of (op_move rfl)) ?_
   refine loose_anc 3 rfl (by kernel_rfl) ?_
   refine loose_anc 2 rfl (by kernel_rfl) ?_
   refine loose_anc 1 rfl (by kernel_rfl) ?_
   refine loose_anc 0 rfl (by kernel_rfl) ?_
   exact loose_nil
  (refine afl_effR rfl rfl (by kernel_rfl) (op_append_one (regI (n.regs.getD i default)) Try.underlying28 Try.underlying28 rfl info65 rfl rfl (by decide) rfl rfl rfl (by first | rfl | simp) rfl rfl (by first | omega | (simp; done) | (simp; omega)) (by show _ * 1 ≤ _; first | omega | (simp; done) | (simp; omega))) (by simp) ?_; rintro _ _ ⟨ver25, rfl, rfl⟩; refine ⟨?_, ?_⟩)
  ·
   refine loose_anc 4 rfl (by kernel_rfl) ?_
   refine loose_anc 8 rfl (by kernel_rfl) ?_
   refine loose_anc 7 rfl (by kernel_rfl) ?_
   refine loose_anc 6 rfl (by kernel_rfl) ?_
   refine loose_anc 5 rfl (by kernel_rfl) ?_
   refine loose_anc 3 rfl (by kernel_rfl) ?_
   refine loose_anc 2 rfl (by kernel_rfl) ?_
   refine loose_anc 1 rfl (by kernel_rfl) ?_
   refine loose_anc 0 rfl (by kernel_rfl) ?_
   exact loose_nil
  refine afl_float rfl rfl (opk_of (op_assign rfl)) (by simp) ?_
  refine afl_float rfl rfl (opk_of (op_assign rfl)) (by simp) ?_
  refine afl_end ?_
  refine aw_region ?_
  refine al_op (op_add rfl rfl (by first | exact wrap_i64 (by omega) (by omega))) rfl (by simp) ?_
  refine al_op (op_move rfl) rfl (by simp) ?_
  refine al_nil ?_
  refine ⟨i + 1, ver20, ver25, ?_, ?_, ?_, ?_, ?_⟩
  ·omega
  ·omega
  ·refine sub_cons (get_as rfl ?_) ?_; rotate_left; refine sub_cons (get_as rfl ?_) ?_; rotate_left; refine sub_cons (get_as rfl ?_) ?_; rotate_left; exact sub_nil
   all_goals (first | rfl | (simp; done) | (simp only [take_succ_getD n.regs i (by omega), List.map_append, List.map_cons, List.map_nil] <;> rfl))
  ·repeat (first | exact subx_refl | exact subx_del | refine subx_put rfl ?_)
  ·(simp only [take_succ_getD n.regs i (by omega), List.map_append, List.map_cons, List.map_nil] <;> rfl)
 ·have gh1 := h1
  try simp only [nrm] at h1
  refine aw_exit ?_
  obtain rfl : i = n.regs.length := by omega
  refine aw_seq ?_
  refine aw_freeze (fun i => Nat.beq i 31) (fsub_cons (t := 3) rfl (.leaf _ _ (frz_whole rfl rfl (by simp) (clo_map (fun _ => rfl)))) (fsub_cons (t := 4) rfl (.leaf _ _ (frz_whole rfl rfl (by simp) (clo_map (fun _ => rfl)))) fsub_same)) ?_
  refine aw_as 3 (.list 1 ((n.regs.map regN).map encS)) rfl (by rw [List.take_length]) ?_
  refine aw_as 4 (.list 1 ((n.regs.map regI).map encB)) rfl (by rw [List.take_length]) ?_
  refine aw_region ?_
  refine al_op (op_field_ptr Try.underlying27 rfl info22 (by decide) rfl rfl rfl) rfl (by simp) ?_
  refine al_op (op_load_ptr Try.underlying22 info22 rfl rfl rfl rfl) rfl (by simp) ?_
  refine al_op (op_move rfl) rfl (by simp) ?_
  refine al_op (op_move rfl) rfl (by simp) ?_
  (refine al_call into28 rfl rfl rfl (mk_makeT 0 1 2 3 n.ins (n.regs.map regN) (n.regs.map regI) hn.ins y2 y3 (by omega) (by simp; omega) (by simp; omega) hok rfl rfl rfl) (by simp) ?_; rintro _ _ ⟨vm, vg, vt, vr, rfl, rfl⟩)
  refine al_op (op_move rfl) rfl (by simp) ?_
  refine al_op (op_extract rfl rfl rfl) rfl (by simp) ?_
  refine al_op (op_extract rfl rfl rfl) rfl (by simp) ?_
  refine al_op (op_assign rfl) rfl (by simp) ?_
  refine al_op (op_assign rfl) rfl (by simp) ?_
  refine al_nil ?_
  refine aw_seq ?_
  refine aw_region ?_
  refine al_op (op_move rfl) rfl (by simp) ?_
  refine al_op (op_assign rfl) rfl (by simp) ?_
  refine al_nil ?_
  refine aw_ret ?_
  refine ⟨_, res_1 rfl rfl, ?_⟩
  exact ⟨_, _, _, _, rfl, rfl⟩
theorem again_at {σ : Store} (m g t r : Nat) (n : Net) (hn : n.Small) (hv : n.valid = true) (ht : tabOK [m, g, t, r] = true) (hb : σ.below 1000 = true) (hf : Store.free [m, g, t, r] [] σ = true) : AC Try.prog 81 [encN n] σ (fun x σ' => ∃ vm vg vt vr, x = .ret (.ptr m vm 0 0) ∧ σ' = (((σ.put t vt (.map (thEnts n.begin.th))).put m vm (.row 6 [n.begin.cells g t r vg vt vr])).put r vr (.row 3 (n.begin.regs.map encR))).put g vg (.row 2 (n.begin.gates.map encG))) := by
  have h := ac_keep (fun i => decide (i ≤ 3)) (q_again n hn hv)
  have h : AC Try.prog 81 [encN n] [] (fun r σ' => ∃ vm vg vt vr, r = .ret (.ptr 0 vm 0 0) ∧ σ' = [(1, vg, .row 2 (n.begin.gates.map encG)), (3, vr, .row 3 (n.begin.regs.map encR)), (0, vm, .row 6 [n.begin.cells 1 2 3 vg vt vr]), (2, vt, .map (thEnts n.begin.th))]) := ac_mono h (by rintro x σ1 ⟨σ2, ⟨vm, vg, vt, vr, rfl, e⟩, rfl⟩; exact ⟨vm, vg, vt, vr, rfl, e⟩)
  have := ac_at (σ := σ) [m, g, t, r] ht h trivial hf hb (by rintro r σ' _ j _; rfl)
  refine ac_mono this ?_
  rintro x σ' ⟨_, _, ⟨vm, vg, vt, vr, rfl, rfl⟩, rfl, rfl⟩
  refine ⟨vm, vg, vt, vr, rfl, ?_⟩
  have e4 : (AObj.row 3 (n.begin.regs.map encR)).rn (tab [m, g, t, r]) = .row 3 (n.begin.regs.map encR) := by show AObj.row 3 _ = _; rw [rn_rows (fun _ => rfl)]
  simp only [Store.putAll, e4]
  rfl
end Go.Proofs.Ytbpamlphacpkeaa
