/- Printed walks (gen.py, gates_ann.py): part 113. -/
import Derived.Test.YtbpamlphacpkeaaW90
import Derived.Test.YtbpamlphacpkeaaGShare
import Derived.Test.YtbpamlphacpkeaaGKnown
import Derived.Test.YtbpamlphacpkeaaFacts
set_option linter.unusedVariables false
set_option linter.unusedSimpArgs false
set_option maxRecDepth 20000
set_option maxHeartbeats 40000000
namespace Go.Proofs.Ytbpamlphacpkeaa
open Go

theorem mk_makeT {σ : Store} (m g t r : Nat) (ins names : List ByteArray) (inits : List Int) (z1 : ∀ s ∈ ins, s.size ≤ 140737488355328) (z2 : ∀ s ∈ names, s.size ≤ 140737488355328) (z3 : ∀ x ∈ inits, 0 ≤ x ∧ x ≤ 255) (z4 : ins.length ≤ 100000) (z5 : names.length ≤ 100000) (z6 : inits.length ≤ 100000) (hok : makeOK ins names inits = true) (ht : tabOK [m, g, t, r] = true) (hb : σ.below 1000 = true) (hf : Store.free [m, g, t, r] [] σ = true) : AC Try.prog 28 [.list 1 (ins.map encS), .list 1 (names.map encS), .list 1 (inits.map encB)] σ (fun x σ' => ∃ vm vg vt vr, x = .ret (.tuple [.ptr m vm 0 0, .v (.int .i64 0)]) ∧ σ' = (((σ.put g vg (.row 2 ((MS.make ins names inits).gates.map encG))).put r vr (.row 3 ((MS.make ins names inits).regs.map encR))).put m vm (.row 6 [(MS.make ins names inits).cells g t r vg vt vr])).put t vt (.map (thEnts (MS.make ins names inits).th))) := by
  have h : AC Try.prog 28 [.list 1 (ins.map encS), .list 1 (names.map encS), .list 1 (inits.map encB)] [] (fun r σ' => ∃ vm vg vt vr, r = .ret (.tuple [.ptr 0 vm 0 0, .v (.int .i64 0)]) ∧ σ' = [(2, vt, .map (thEnts [])), (0, vm, .row 6 [(MS.make ins names inits).cells 1 2 3 vg vt vr]), (3, vr, .row 3 ((MS.make ins names inits).regs.map encR)), (1, vg, .row 2 ((MS.make ins names inits).gates.map encG))]) :=
    ac_mono (q_mMake ins names inits z1 z2 z3 z4 z5 z6) (by intro x σ' h; rw [if_pos hok] at h; exact h)
  have := ac_at (σ := σ) [m, g, t, r] ht h trivial hf hb (by rintro r σ' _ j _; rfl)
  refine ac_mono this ?_
  rintro x σ' ⟨_, _, ⟨vm, vg, vt, vr, rfl, rfl⟩, rfl, rfl⟩
  refine ⟨vm, vg, vt, vr, rfl, ?_⟩
  have e4 : (AObj.row 3 ((MS.make ins names inits).regs.map encR)).rn (tab [m, g, t, r]) = .row 3 ((MS.make ins names inits).regs.map encR) := by show AObj.row 3 _ = _; rw [rn_rows (fun _ => rfl)]
  simp only [Store.putAll, e4]
  rfl

theorem q_again (n : Net) (hn : n.Small) (hv : n.valid = true) : AC Try.prog 81 [encN n] ([]) (fun r σ' => ∃ vm vg vt vr, r = .ret (.ptr 0 vm 0 0) ∧ σ'.keep (fun i => decide (i ≤ 3)) = [(1, vg, .row 2 (n.begin.gates.map encG)), (3, vr, .row 3 (n.begin.regs.map encR)), (0, vm, .row 6 [n.begin.cells 1 2 3 vg vt vr]), (2, vt, .map (thEnts n.begin.th))]) := by
 obtain ⟨f1, f2, f3, f4, f5, f6, f7⟩ := Net.valid_facts hv
 obtain ⟨hok, hgood⟩ := Net.begin_ok hn hv
 have y2 : ∀ s ∈ n.regs.map regN, s.size ≤ 140737488355328 := by
   intro s hs
   obtain ⟨r, hr, rfl⟩ := List.mem_map.1 hs
   exact hn.regs r hr
 have y3 : ∀ x ∈ n.regs.map regI, 0 ≤ x ∧ x ≤ 255 := by
   intro x hx
   obtain ⟨r, hr, rfl⟩ := List.mem_map.1 hx
   exact hn.bytes r hr
 refine ac_enter 36 Try.func81 rfl rfl (by simp) ?_
 refine aw_seq ?_
 refine aw_region ?_
 (refine al_opR (op_box 31 rfl rfl (by first | rfl | exact live_one rfl | (repeat (first | exact all_live_nil | refine all_live_clo rfl ?_ | refine all_live_slice rfl ?_ | refine all_live_map rfl ?_ | refine all_live_ptr rfl ?_)))) rfl (by simp) ?_; rintro _ _ ⟨ver1, rfl, rfl⟩)
 refine al_op (op_assign rfl) rfl (by simp) ?_
 refine al_nil ?_
 refine aw_seq ?_
 refine aw_region ?_
 refine al_op (op_assign rfl) rfl (by simp) ?_
 refine al_nil ?_
 refine aw_seq ?_
 refine aw_region ?_
 refine al_op (op_assign rfl) rfl (by simp) ?_
 refine al_nil ?_
 refine aw_seq ?_
 refine aw_seq ?_
 refine aw_region ?_
 refine al_op (op_field_ptr Try.underlying27 rfl info23 (by decide) rfl rfl rfl) rfl (by simp) ?_
 refine al_op (op_load_ptr Try.underlying23 info23 rfl rfl rfl rfl) rfl (by simp) ?_
 refine al_op (op_len_map Try.underlying23 rfl) rfl (by simp) ?_
 refine al_op (op_move rfl) rfl (by simp) ?_
 refine al_nil ?_
 refine aw_block ?_
 refine aw_own_map encS 33 1 3 rfl rfl (fun ver3 => ?_)
 refine aw_own_map encB 34 1 4 rfl rfl (fun ver4 => ?_)
 refine aw_for3T (α := Nat) (β := Nat) (γ := Nat) [3, 4, 12] [36] (fun i v3 v4 => n.regs.length - i) (fun i v3 v4 => i ≤ n.regs.length) (fun i v3 v4 => ([(3, .slice 33 v3 0 ((n.regs.take i).map regN).length), (4, .slice 34 v4 0 ((n.regs.take i).map regI).length), (12, .v (.int .i64 (i)))] : Env)) (fun i v3 v4 s => (s.put 33 v3 (.row 1 (((n.regs.take i).map regN).map encS))).put 34 v4 (.row 1 (((n.regs.take i).map regI).map encB))) (0) (ver3) (ver4) ?_ ?_ ?_ (fun i v3 v4 hinv => ?_)
 ·exact Nat.zero_le _
 ·refine sub_cons (get_as rfl ?_) ?_; rotate_left; refine sub_cons (get_as rfl ?_) ?_; rotate_left; refine sub_cons (get_as rfl ?_) ?_; rotate_left; exact sub_nil
  all_goals (first | rfl | (simp; done) | (simp only [take_succ_getD n.regs i (by omega), List.map_append, List.map_cons, List.map_nil] <;> rfl))
 ·rfl
 refine aw_seq ?_
 refine aw_region ?_
 refine al_op (op_lss rfl rfl) rfl (by simp) ?_
 refine al_nil ?_
 refine aw_seq ?_
 refine aw_cond rfl (fun h1 => ?_) (fun h1 => ?_)
 ·have gh1 := h1
  try simp only [nrm] at h1
  refine aw_skip ?_
  refine aw_seq ?_
  refine aw_block ?_
  refine aw_seq ?_
  refine aw_region ?_
  refine al_op (op_index_map default Try.underlying23 info93 rfl rfl rfl (by first | (with_reducible exact Int.toNat_natCast _) | rfl) (by omega) (by omega)) rfl (by simp) ?_
  refine al_op (op_load_rptr Try.underlying93 info93 rfl rfl) rfl (by simp) ?_
  (refine al_opR (op_alloc 36 info93 rfl rfl) rfl (by simp) ?_; rintro _ _ ⟨ver6, rfl, rfl⟩)
  refine al_op (op_store_ptr info93 rfl rfl rfl rfl rfl rfl (by first | rfl | exact live_one rfl | (repeat (first | exact all_live_nil | refine all_live_clo rfl ?_ | refine all_live_slice rfl ?_ | refine all_live_map rfl ?_ | refine all_live_ptr rfl ?_))) (Nat.le_of_ble_eq_true rfl)) rfl (by simp) ?_
  refine al_nil ?_
  refine aw_plan [0, 1, 2, 3, 5, 6, 7, 8, 4, 9, 10, 11] (Checked.mixed Try.checked) (by kernel_rfl) ?_
  refine afl_float rfl rfl (opk_of (op_move rfl)) (by simp) ?_
  refine afl_float rfl rfl (opk_of (op_field_ptr Try.underlying93 rfl info9 (by decide) rfl rfl rfl)) (by simp) ?_
  refine afl_float rfl rfl (opk_of (op_load_ptr Try.underlying9 info9 rfl rfl rfl rfl)) (by simp) ?_
  refine afl_float rfl rfl (opk_of (op_buildSlice Try.underlying22 info9 rfl rfl (by decide) rfl (by decide) rfl (by first | rfl | (repeat (first | exact parts_nil | refine parts_cons rfl (by repeat (first | exact all_live_nil | refine all_live_clo rfl ?_ | refine all_live_slice rfl ?_ | refine all_live_map rfl ?_ | refine all_live_ptr rfl ?_)) ?_))) rfl rfl rfl)) (by simp) ?_
  refine afl_float rfl rfl (opk_of (op_move rfl)) (by simp) ?_
  refine afl_float rfl rfl (opk_of (op_field_ptr Try.underlying93 rfl info65 (by decide) rfl rfl rfl)) (by simp) ?_
  refine afl_float rfl rfl (opk_of (op_load_ptr Try.underlying65 info65 rfl rfl rfl rfl)) (by simp) ?_
  refine afl_float rfl rfl (opk_of (op_buildSlice Try.underlying28 info65 rfl rfl (by decide) rfl (by decide) rfl (by first | rfl | (repeat (first | exact parts_nil | refine parts_cons rfl (by repeat (first | exact all_live_nil | refine all_live_clo rfl ?_ | refine all_live_slice rfl ?_ | refine all_live_map rfl ?_ | refine all_live_ptr rfl ?_)) ?_))) rfl rfl rfl)) (by simp) ?_
  (refine afl_effR rfl rfl (by kernel_rfl) (op_append_one (regN (n.regs.getD i default)) Try.underlying22 Try.underlying22 rfl info9 rfl rfl (by decide) rfl rfl rfl (by first | rfl | simp) rfl rfl (by first | omega | (simp; done) | (simp; omega)) (by show _ * 16 ≤ _; first | omega | (simp; done) | (simp; omega))) (by simp) ?_; rintro _ _ ⟨ver20, rfl, rfl⟩; refine ⟨?_, ?_⟩)
  ·
   refine loose_k rfl (opk_of (op_buildSlice Try.underlying28 info65 rfl rfl (by decide) rfl (by decide) rfl (by first | rfl | (repeat (first | exact parts_nil | refine parts_cons rfl (by repeat (first | exact all_live_nil | refine all_live_clo rfl ?_ | refine all_live_slice rfl ?_ | refine all_live_map rfl ?_ | refine all_live_ptr rfl ?_)) ?_))) rfl rfl rfl)) ?_
   refine loose_k rfl (opk_of (op_load_ptr Try.underlying65 info65 rfl rfl rfl rfl)) ?_
   refine loose_k rfl (opk_of (op_field_ptr Try.underlying93 rfl info65 (by decide) rfl rfl rfl)) ?_
   refine loose_k rfl (opk_of (op_move rfl)) ?_
   refine loose_anc 3 rfl (by kernel_rfl) ?_
   refine loose_anc 2 rfl (by kernel_rfl) ?_
   refine loose_anc 1 rfl (by kernel_rfl) ?_
   refine loose_anc 0 rfl (by kernel_rfl) ?_
   exact loose_nil
  (refine afl_effR rfl rfl (by kernel_rfl) (op_append_one (regI (n.regs.getD i default)) Try.underlying28 Try.underlying28 rfl info65 rfl rfl (by decide) rfl rfl rfl (by first | rfl | simp) rfl rfl (by first | omega | (simp; done) | (simp; omega)) (by show _ * 1 ≤ _; first | omega | (simp; done) | (simp; omega))) (by simp) ?_; rintro _ _ ⟨ver25, rfl, rfl⟩; refine ⟨?_, ?_⟩)
  ·
   refine loose_anc 4 rfl (by kernel_rfl) ?_
   refine loose_anc 8 rfl (by kernel_rfl) ?_
   refine loose_anc 7 rfl (by kernel_rfl) ?_
   refine loose_anc 6 rfl (by kernel_rfl) ?_
   refine loose_anc 5 rfl (by kernel_rfl) ?_
   refine loose_anc 3 rfl (by kernel_rfl) ?_
   refine loose_anc 2 rfl (by kernel_rfl) ?_
   refine loose_anc 1 rfl (by kernel_rfl) ?_
   refine loose_anc 0 rfl (by kernel_rfl) ?_
   exact loose_nil
  refine afl_float rfl rfl (opk_of (op_assign rfl)) (by simp) ?_
  refine afl_float rfl rfl (opk_of (op_assign rfl)) (by simp) ?_
  refine afl_end ?_
  refine aw_region ?_
  refine al_op (op_add rfl rfl (by first | exact wrap_i64 (by omega) (by omega))) rfl (by simp) ?_
  refine al_op (op_move rfl) rfl (by simp) ?_
  refine al_nil ?_
  refine ⟨i + 1, ver20, ver25, ?_, ?_, ?_, ?_, ?_⟩
  ·omega
  ·omega
  ·refine sub_cons (get_as rfl ?_) ?_; rotate_left; refine sub_cons (get_as rfl ?_) ?_; rotate_left; refine sub_cons (get_as rfl ?_) ?_; rotate_left; exact sub_nil
   all_goals (first | rfl | (simp; done) | (simp only [take_succ_getD n.regs i (by omega), List.map_append, List.map_cons, List.map_nil] <;> rfl))
  ·repeat (first | exact subx_refl | exact subx_del | refine subx_put rfl ?_)
  ·(simp only [take_succ_getD n.regs i (by omega), List.map_append, List.map_cons, List.map_nil] <;> rfl)
 ·have gh1 := h1
  try simp only [nrm] at h1
  refine aw_exit ?_
  obtain rfl : i = n.regs.length := by omega
  refine aw_seq ?_
  refine aw_freeze (fun i => Nat.beq i 31) (fsub_cons (t := 3) rfl (.leaf _ _ (frz_whole rfl rfl (by simp) (clo_map (fun _ => rfl)))) (fsub_cons (t := 4) rfl (.leaf _ _ (frz_whole rfl rfl (by simp) (clo_map (fun _ => rfl)))) fsub_same)) ?_
  refine aw_as 3 (.list 1 ((n.regs.map regN).map encS)) rfl (by rw [List.take_length]) ?_
  refine aw_as 4 (.list 1 ((n.regs.map regI).map encB)) rfl (by rw [List.take_length]) ?_
  refine aw_region ?_
  refine al_op (op_field_ptr Try.underlying27 rfl info22 (by decide) rfl rfl rfl) rfl (by simp) ?_
  refine al_op (op_load_ptr Try.underlying22 info22 rfl rfl rfl rfl) rfl (by simp) ?_
  refine al_op (op_move rfl) rfl (by simp) ?_
  refine al_op (op_move rfl) rfl (by simp) ?_
  (refine al_call into28 rfl rfl rfl (mk_makeT 0 1 2 3 n.ins (n.regs.map regN) (n.regs.map regI) hn.ins y2 y3 (by omega) (by simp; omega) (by simp; omega) hok rfl rfl rfl) (by simp) ?_; rintro _ _ ⟨vm, vg, vt, vr, rfl, rfl⟩)
  refine al_op (op_move rfl) rfl (by simp) ?_
  refine al_op (op_extract rfl rfl rfl) rfl (by simp) ?_
  refine al_op (op_extract rfl rfl rfl) rfl (by simp) ?_
  refine al_op (op_assign rfl) rfl (by simp) ?_
  refine al_op (op_assign rfl) rfl (by simp) ?_
  refine al_nil ?_
  refine aw_seq ?_
  refine aw_region ?_
  refine al_op (op_move rfl) rfl (by simp) ?_
  refine al_op (op_assign rfl) rfl (by simp) ?_
  refine al_nil ?_
  refine aw_ret ?_
  refine ⟨_, res_1 rfl rfl, ?_⟩
  exact ⟨_, _, _, _, rfl, rfl⟩
theorem again_at {σ : Store} (m g t r : Nat) (n : Net) (hn : n.Small) (hv : n.valid = true) (ht : tabOK [m, g, t, r] = true) (hb : σ.below 1000 = true) (hf : Store.free [m, g, t, r] [] σ = true) : AC Try.prog 81 [encN n] σ (fun x σ' => ∃ vm vg vt vr, x = .ret (.ptr m vm 0 0) ∧ σ' = (((σ.put t vt (.map (thEnts n.begin.th))).put m vm (.row 6 [n.begin.cells g t r vg vt vr])).put r vr (.row 3 (n.begin.regs.map encR))).put g vg (.row 2 (n.begin.gates.map encG))) := by
  have h := ac_keep (fun i => decide (i ≤ 3)) (q_again n hn hv)
  have h : AC Try.prog 81 [encN n] [] (fun r σ' => ∃ vm vg vt vr, r = .ret (.ptr 0 vm 0 0) ∧ σ' = [(1, vg, .row 2 (n.begin.gates.map encG)), (3, vr, .row 3 (n.begin.regs.map encR)), (0, vm, .row 6 [n.begin.cells 1 2 3 vg vt vr]), (2, vt, .map (thEnts n.begin.th))]) := ac_mono h (by rintro x σ1 ⟨σ2, ⟨vm, vg, vt, vr, rfl, e⟩, rfl⟩; exact ⟨vm, vg, vt, vr, rfl, e⟩)
  have := ac_at (σ := σ) [m, g, t, r] ht h trivial hf hb (by rintro r σ' _ j _; rfl)
  refine ac_mono this ?_
  rintro x σ' ⟨_, _, ⟨vm, vg, vt, vr, rfl, rfl⟩, rfl, rfl⟩
  refine ⟨vm, vg, vt, vr, rfl, ?_⟩
  have e4 : (AObj.row 3 (n.begin.regs.map encR)).rn (tab [m, g, t, r]) = .row 3 (n.begin.regs.map encR) := by show AObj.row 3 _ = _; rw [rn_rows (fun _ => rfl)]
  simp only [Store.putAll, e4]
  rfl

theorem q_clonep (l : List (ByteArray × Int)) (hl : l.length * 24 ≤ 140737488355328) : AC Try.prog 78 [.list 2 (l.map encP)] ([]) (fun r σ' => ∃ ver, r = .ret (.slice 0 ver 0 l.length) ∧ σ' = [(0, ver, .row 2 (l.map encP))]) := by
 refine ac_enter 8 Try.func78 rfl rfl (by simp) ?_
 refine aw_seq ?_
 refine aw_region ?_
 refine al_op (op_assign rfl) rfl (by simp) ?_
 refine al_nil ?_
 refine aw_seq ?_
 refine aw_seq ?_
 refine aw_region ?_
 refine al_op (op_move rfl) rfl (by simp) ?_
 (refine al_opR (op_snil Try.underlying25 rfl rfl) rfl (by simp) ?_; rintro _ _ ⟨⟨b4, rfl, hb4⟩, rfl⟩)
 refine al_nil ?_
 refine aw_cond rfl (fun h1 => ?_) (fun h1 => ?_)
 ·have gh1 := h1
  try simp only [nrm] at h1
  refine aw_seq ?_
  refine aw_region ?_
  refine al_op (op_assign rfl) rfl (by simp) ?_
  refine al_nil ?_
  refine aw_own_map encP 0 2 2 rfl rfl (fun ver2 => ?_)
  refine aw_ret ?_
  refine ⟨_, res_1 rfl rfl, ?_⟩
  have hl0 : l = [] := by simpa using hb4 gh1
  subst hl0
  exact ⟨ver2, rfl, rfl⟩
 ·have gh1 := h1
  try simp only [nrm] at h1
  refine aw_skip ?_
  refine aw_seq ?_
  refine aw_region ?_
  refine al_op (op_build_nil Try.underlying25 info69 rfl rfl (by decide) rfl) rfl (by simp) ?_
  refine al_op (op_move rfl) rfl (by simp) ?_
  (refine al_opR (op_append_new 0 Try.underlying25 Try.underlying25 rfl info69 rfl rfl (by decide) rfl rfl rfl (by first | exact .list _ | exact .vnil | exact .nil | exact .row _ _ _ _ rfl (by first | rfl | simp)) rfl (by first | omega | (simp; done) | (simp; omega)) (by show _ * 24 ≤ _; first | omega | (simp; done) | (simp; omega))) rfl (by simp) ?_; rintro _ _ ⟨ver7, rfl, rfl⟩)
  refine al_op (op_assign rfl) rfl (by simp) ?_
  refine al_nil ?_
  refine aw_ret ?_
  refine ⟨_, res_1 rfl rfl, ?_⟩
  exact ⟨ver7, rfl, rfl⟩
theorem clonep_own {σ : Store} (nid : Nat) (l : List (ByteArray × Int)) (hl : l.length * 24 ≤ 140737488355328) (ht : tabOK [nid] = true) (hb : σ.below 1000 = true) (hf : Store.free [nid] [] σ = true) : AC Try.prog 78 [.list 2 (l.map encP)] σ (fun x σ' => ∃ ver, x = .ret (.slice nid ver 0 l.length) ∧ σ' = σ.put nid ver (.row 2 (l.map encP))) := by
  have := ac_at (σ := σ) [nid] ht (q_clonep l hl) trivial hf hb (by rintro r σ' _ j _; rfl)
  refine ac_mono this ?_
  rintro x σ' ⟨_, _, ⟨ver, rfl, rfl⟩, rfl, rfl⟩
  refine ⟨ver, rfl, ?_⟩
  have e2 : (AObj.row 2 (l.map encP)).rn (tab [nid]) = .row 2 (l.map encP) := by show AObj.row 2 _ = _; rw [rn_rows (fun _ => rfl)]
  simp only [Store.putAll, e2]
  rfl

theorem q_to (v0 : Nat) (made : List Int) (l : Int) (h0 : 0 ≤ l) (hl : (l / 2).toNat < made.length) (hml : made.length ≤ 100000) (hm : ∀ x ∈ made, 0 ≤ x ∧ x ≤ 100000) : AC Try.prog 95 [.v (.int .i64 (l)), .ptr 0 v0 0 0] ([(0, v0, .row 1 [[.list 1 (made.map encI)]])]) (fun r σ' => r = .ret (.v (.int .i64 (nowV made l))) ∧ σ' = [(0, v0, .row 1 [[.list 1 (made.map encI)]])]) := by
 have hx := hm _ (getD_mem hl)
 refine ac_enter 12 Try.func95 rfl rfl (by simp) ?_
 refine aw_seq ?_
 refine aw_region ?_
 refine al_op (op_assign rfl) rfl (by simp) ?_
 refine al_nil ?_
 refine aw_seq ?_
 refine aw_region ?_
 refine al_op (op_load_ptr Try.underlying54 info54 rfl rfl rfl rfl) rfl (by simp) ?_
 refine al_op (op_move rfl) rfl (by simp) ?_
 refine al_op (op_quo rfl rfl (by omega) (quo_nn (by omega) (by omega) (by omega))) rfl (by simp) ?_
 refine al_op (op_index_map default Try.underlying54 info3 rfl rfl rfl (by first | (with_reducible exact Int.toNat_natCast _) | rfl) (by omega) (by omega)) rfl (by simp) ?_
 refine al_op (op_load_rptr Try.underlying3 info3 rfl rfl) rfl (by simp) ?_
 refine al_op (op_move rfl) rfl (by simp) ?_
 refine al_op (op_bitand rfl rfl (and_one _)) rfl (by simp) ?_
 refine al_op (op_bitxor rfl rfl (xor_bit (by omega) (by omega) (by omega))) rfl (by simp) ?_
 refine al_op (op_assign rfl) rfl (by simp) ?_
 refine al_nil ?_
 refine aw_ret ?_
 refine ⟨_, res_1 rfl rfl, ?_⟩
 rw [nowV, Nat.zero_add]; exact ⟨rfl, rfl⟩
theorem to_at {σ : Store} (c v0 : Nat) (made : List Int) (l : Int) (h0 : 0 ≤ l) (hl : (l / 2).toNat < made.length) (hml : made.length ≤ 100000) (hm : ∀ x ∈ made, 0 ≤ x ∧ x ≤ 100000) (ht : tabOK [c] = true) (hb : σ.below 1000 = true) (h1 : σ.get c = some (v0, .row 1 [[.list 1 (made.map encI)]])) :
    AC Try.prog 95 [.v (.int .i64 (l)), .ptr c v0 0 0] σ (fun r σ' => r = .ret (.v (.int .i64 (nowV made l))) ∧ σ' = σ) := by
  have hm2 : Store.match (tab [c]) σ [(0, v0, .row 1 [[.list 1 (made.map encI)]])] := ⟨h1, trivial⟩
  have hf : Store.free [c] [(0, v0, .row 1 [[.list 1 (made.map encI)]])] σ = true := by simp [Store.free, Store.get, List.range_succ]
  exact ac_ro [c] ht (q_to v0 made l h0 hl hml hm) hm2 hf hb

theorem q_mNetF (s : MS) (vm vg vt vr : Nat) (next : List Int) (outs : List (ByteArray × Int)) (hs : s.OK) (hsm : (s.made []).Small) (hnx : ∀ x ∈ next, x ≤ 9223372036854775807) (hnl : next.length ≤ 100000) (ho : ∀ p ∈ outs, p.1.size ≤ 140737488355328 ∧ p.2 ≤ 9223372036854775807) (hol : outs.length ≤ 100000) : AC Try.prog 39 [.ptr 0 vm 0 0, .list 1 (next.map encI), .list 2 (outs.map encP)] (mk0 s vm vg vt vr) (fun r σ' => ∃ a, r = .ret a ∧ FrzT σ' (fun i => decide (i ≤ 3)) a (.tuple [encN (s.net next outs).1, .v (.int .i64 ((s.net next outs).2))]) ∧ σ'.keep (fun i => decide (i ≤ 3)) = mk0 s vm vg vt vr) := by
 have hs0 := hs
 obtain ⟨k1, k2, k3, _⟩ := hs0
 refine ac_enter 55 Try.func39 rfl rfl (by simp) ?_
 refine aw_seq ?_
 refine aw_region ?_
 (refine al_opR (op_alloc 6 info27 rfl rfl) rfl (by simp) ?_; rintro _ _ ⟨ver6, rfl, rfl⟩)
 refine al_op (op_assign rfl) rfl (by simp) ?_
 refine al_nil ?_
 refine aw_seq ?_
 refine aw_seq ?_
 refine aw_region ?_
 refine al_op (op_move rfl) rfl (by simp) ?_
 refine al_callp into71 rfl rfl rfl (ac_told (re_cons (.leaf _ _ (.same _)) (re_cons (.leaf _ _ (.vnil 1)) re_nil)) (mk_ro (m := 0) (g := 1) (t := 2) (r := 3) (m_no s vm vg vt vr [] hs (by simp)) rfl rfl rfl rfl rfl rfl rfl rfl)) (by simp) ?_
 refine al_op (op_assign rfl) rfl (by simp) ?_
 refine al_nil ?_
 refine aw_seq ?_
 refine aw_region ?_
 refine al_op (op_move rfl) rfl (by simp) ?_
 refine al_op (op_neq rfl rfl) rfl (by simp) ?_
 refine al_nil ?_
 refine aw_cond rfl (fun h1 => ?_) (fun h1 => ?_)
 ·have gh1 := h1
  try simp only [nrm] at h1
  exact absurd gh1 (by simp [MS.no, allTo])
 ·have gh1 := h1
  try simp only [nrm] at h1
  refine aw_skip ?_
  refine aw_seq ?_
  refine aw_seq ?_
  refine aw_region ?_
  refine al_op (op_move rfl) rfl (by simp) ?_
  refine al_op (op_len_map Try.underlying54 rfl) rfl (by simp) ?_
  refine al_op (op_move rfl) rfl (by simp) ?_
  refine al_op (op_nilCheck_ptr rfl rfl) rfl (by simp) ?_
  refine al_op (op_field_ptr Try.underlying73 rfl info27 (by decide) rfl rfl rfl) rfl (by simp) ?_
  refine al_op (op_field_ptr Try.underlying27 rfl info23 (by decide) rfl rfl rfl) rfl (by simp) ?_
  refine al_op (op_load_ptr Try.underlying23 info23 rfl rfl rfl rfl) rfl (by simp) ?_
  refine al_op (op_len_slice Try.underlying23 rfl rfl) rfl (by simp) ?_
  refine al_op (op_neq rfl rfl) rfl (by simp) ?_
  refine al_nil ?_
  refine aw_cond rfl (fun h2 => ?_) (fun h2 => ?_)
  ·have gh2 := h2
   try simp only [nrm] at h2
   refine aw_seq ?_
   refine aw_region ?_
   refine al_op (op_build_struct Try.underlying27 info27 rfl place27 rfl (by first | rfl | (repeat (first | exact parts_nil | refine parts_cons rfl (by repeat (first | exact all_live_nil | refine all_live_clo rfl ?_ | refine all_live_slice rfl ?_ | refine all_live_map rfl ?_ | refine all_live_ptr rfl ?_)) ?_))) rfl) rfl (by simp) ?_
   refine al_op (op_store_ptr info27 rfl rfl rfl rfl rfl rfl (by first | rfl | exact live_one rfl | (repeat (first | exact all_live_nil | refine all_live_clo rfl ?_ | refine all_live_slice rfl ?_ | refine all_live_map rfl ?_ | refine all_live_ptr rfl ?_))) (by decide)) rfl (by simp) ?_
   refine al_op (op_assign rfl) rfl (by simp) ?_
   refine al_nil ?_
   refine aw_ret ?_
   refine ⟨_, res_cell_tmp rfl Try.underlying27 info27 rfl rfl rfl rfl rfl rfl rfl, ?_⟩
   rw [MS.net_len gh2]; exact ⟨_, rfl, .tuple _ _ (frz3_cons (.agg _ _ (frz2_cons (.vnil 1) (frz2_cons (.vnil 3) (frz2_cons (.vnil 2) (frz2_cons (.vnil 2) frz2_nil))))) (frz3_cons (.leaf _ _ (.same _)) frz3_nil)), rfl⟩
  ·have gh2 := h2
   try simp only [nrm] at h2
   have hl : next.length = s.regs.length := by omega
   have hsm2 : (⟨s.ins, nextTo next s.regs next.length, s.gates, outs⟩ : Net).Small := MS.nexts_small hsm hnx hl ho hol
   refine aw_skip ?_
   refine aw_seq ?_
   refine aw_region ?_
   refine al_op (op_move rfl) rfl (by simp) ?_
   refine al_op (op_nilCheck_ptr rfl rfl) rfl (by simp) ?_
   refine al_op (op_field_ptr Try.underlying73 rfl info27 (by decide) rfl rfl rfl) rfl (by simp) ?_
   refine al_op (op_load_ptr Try.underlying27 info27 rfl rfl rfl rfl) rfl (by simp) ?_
   (refine al_call into77 rfl rfl rfl (ac_told (re_cons (re2_agg (re2_cons (.same _) (re2_cons (.same _) (re2_cons (.same _) (re2_cons (.vnil 2) re2_nil))))) re_nil) (copied_own 3 1 4 vr vg s.ins s.regs s.gates [] (by omega) (by omega) (by omega) (by simp) rfl rfl rfl rfl rfl)) (by simp) ?_; rintro _ _ ⟨ver32, rfl, rfl⟩)
   (refine al_opR (op_alloc 9 info27 rfl rfl) rfl (by simp) ?_; rintro _ _ ⟨ver9, rfl, rfl⟩)
   refine al_op (op_store_ptr info27 rfl rfl rfl rfl rfl rfl (by first | rfl | exact live_one rfl | (repeat (first | exact all_live_nil | refine all_live_clo rfl ?_ | refine all_live_slice rfl ?_ | refine all_live_map rfl ?_ | refine all_live_ptr rfl ?_))) (Nat.le_of_ble_eq_true rfl)) rfl (by simp) ?_
   refine al_nil ?_
   refine aw_seq ?_
   refine aw_region ?_
   refine al_op (op_move rfl) rfl (by simp) ?_
   refine al_callp into78 rfl rfl rfl (acn_lend (lend_cons (by first | exact lend_same | exact .leaf _ _ (.vnil _) | exact .leaf _ _ (.nil _) | exact lend_whole rfl (by first | rfl | (simp; done) | (simp; omega)) (clo_map (fun _ => rfl)) | exact lend_netg (by first | exact .same _ | exact lendL_vnil | exact lendL_whole rfl (by first | rfl | (simp; done) | (simp; omega)) (clo_map (fun _ => rfl))) (by first | exact .same _ | exact lendL_vnil | exact lendL_whole rfl (by first | rfl | (simp; done) | (simp; omega)) (clo_map (fun _ => rfl))) (by first | exact .same _ | exact lendL_vnil | exact lendL_whole rfl (by first | rfl | (simp; done) | (simp; omega)) (clo_map (fun _ => rfl))) (by first | exact .same _ | exact lendL_vnil | exact lendL_whole rfl (by first | rfl | (simp; done) | (simp; omega)) (clo_map (fun _ => rfl)))) lend_nil) (n_clone_P _ (by omega))) (by simp) ?_
   refine al_op (op_field_ptr Try.underlying27 rfl info25 (by decide) rfl rfl rfl) rfl (by simp) ?_
   refine al_op (op_store_ptr info25 rfl rfl rfl rfl rfl rfl (by first | rfl | exact live_one rfl | (repeat (first | exact all_live_nil | refine all_live_clo rfl ?_ | refine all_live_slice rfl ?_ | refine all_live_map rfl ?_ | refine all_live_ptr rfl ?_))) (Nat.le_of_ble_eq_true rfl)) rfl (by simp) ?_
   refine al_nil ?_
   refine aw_seq ?_
   refine aw_seq ?_
   refine aw_region ?_
   refine al_op (op_move rfl) rfl (by simp) ?_
   refine al_op (op_len_map Try.underlying54 rfl) rfl (by simp) ?_
   refine al_op (op_move rfl) rfl (by simp) ?_
   refine al_nil ?_
   refine aw_block ?_
   refine aw_forT (ι := Nat) [38] [] (fun i => next.length - i) (fun i => i ≤ next.length) (fun i => ([(38, .v (.int .i64 (i)))] : Env)) (fun i st => st.put 4 ver32 (.row 3 ((nextTo next s.regs i).map encR))) (0) ?_ ?_ ?_ (fun i hinv => ?_)
   ·exact Nat.zero_le _
   ·refine sub_cons (get_as rfl ?_) ?_; rotate_left; exact sub_nil
    all_goals (first | rfl | simp)
   ·rfl
   have hml := nextTo_length next s.regs i
   refine aw_seq ?_
   refine aw_region ?_
   refine al_op (op_lss rfl rfl) rfl (by simp) ?_
   refine al_nil ?_
   refine aw_seq ?_
   refine aw_cond rfl (fun h3 => ?_) (fun h3 => ?_)
   ·have gh3 := h3
    try simp only [nrm] at h3
    refine aw_skip ?_
    refine aw_seq ?_
    refine aw_block ?_
    refine aw_seq ?_
    refine aw_region ?_
    refine al_op (op_move rfl) rfl (by simp) ?_
    refine al_op (op_index_map default Try.underlying54 info3 rfl rfl rfl (by first | (with_reducible exact Int.toNat_natCast _) | rfl) (by omega) (by omega)) rfl (by simp) ?_
    refine al_op (op_load_rptr Try.underlying3 info3 rfl rfl) rfl (by simp) ?_
    refine al_op (op_assign rfl) rfl (by simp) ?_
    refine al_op (op_assign rfl) rfl (by simp) ?_
    refine al_nil ?_
    refine aw_region ?_
    refine al_op (op_field_ptr Try.underlying27 rfl info23 (by decide) rfl rfl rfl) rfl (by simp) ?_
    refine al_op (op_load_ptr Try.underlying23 info23 rfl rfl rfl rfl) rfl (by simp) ?_
    refine al_op (op_move rfl) rfl (by simp) ?_
    refine al_op (op_move rfl) rfl (by simp) ?_
    refine al_op (op_index_slice Try.underlying23 info93 rfl rfl rfl rfl (by omega) (by omega)) rfl (by simp) ?_
    refine al_op (op_field_ptr Try.underlying93 rfl info3 (by decide) rfl rfl rfl) rfl (by simp) ?_
    refine al_op (op_store_map (((nextTo next s.regs i).getD (0 + (i : Int).toNat) default).1, ((nextTo next s.regs i).getD (0 + (i : Int).toNat) default).2.1, next.getD i default) info3 rfl rfl rfl (by omega) rfl rfl rfl (Nat.le_of_ble_eq_true rfl) rfl) rfl (by simp) ?_
    refine al_nil ?_
    refine aw_region ?_
    refine al_op (op_add rfl rfl (by first | exact wrap_i64 (by omega) (by omega))) rfl (by simp) ?_
    refine al_op (op_move rfl) rfl (by simp) ?_
    refine al_nil ?_
    refine ⟨i + 1, ?_, ?_, ?_, ?_, ?_⟩
    ·omega
    ·omega
    ·refine sub_cons (get_as rfl ?_) ?_; rotate_left; exact sub_nil
     all_goals (first | rfl | simp)
    ·repeat (first | exact subx_refl | exact subx_del | refine subx_put rfl ?_)
    ·(rw [nextTo_step next s.regs i (by omega)] <;> rfl)
   ·have gh3 := h3
    try simp only [nrm] at h3
    refine aw_exit ?_
    obtain rfl : i = next.length := by omega
    refine aw_seq ?_
    refine aw_seq ?_
    refine aw_region ?_
    refine al_op (op_load_ptr Try.underlying27 info27 rfl rfl rfl rfl) rfl (by simp) ?_
    refine al_callp into27 rfl rfl rfl (acp_lent (lend_cons (by first | exact lend_same | exact .leaf _ _ (.vnil _) | exact .leaf _ _ (.nil _) | exact lend_whole rfl (by first | rfl | (simp; done) | (simp; omega)) (clo_map (fun _ => rfl)) | exact lend_netg (by first | exact .same _ | exact lendL_vnil | exact lendL_whole rfl (by first | rfl | (simp; done) | (simp; omega)) (clo_map (fun _ => rfl))) (by first | exact .same _ | exact lendL_vnil | exact lendL_whole rfl (by first | rfl | (simp; done) | (simp; omega)) (clo_map (fun _ => rfl))) (by first | exact .same _ | exact lendL_vnil | exact lendL_whole rfl (by first | rfl | (simp; done) | (simp; omega)) (clo_map (fun _ => rfl))) (by first | exact .same _ | exact lendL_vnil | exact lendL_whole rfl (by first | rfl | (simp; done) | (simp; omega)) (clo_map (fun _ => rfl)))) lend_nil) (c_valid _ (by assumption)) rfl) (by simp) ?_
    refine al_op (op_not rfl) rfl (by simp) ?_
    refine al_nil ?_
    refine aw_cond rfl (fun h4 => ?_) (fun h4 => ?_)
    ·have gh4 := h4
     try simp only [nrm] at h4
     refine aw_seq ?_
     refine aw_region ?_
     refine al_op (op_build_struct Try.underlying27 info27 rfl place27 rfl (by first | rfl | (repeat (first | exact parts_nil | refine parts_cons rfl (by repeat (first | exact all_live_nil | refine all_live_clo rfl ?_ | refine all_live_slice rfl ?_ | refine all_live_map rfl ?_ | refine all_live_ptr rfl ?_)) ?_))) rfl) rfl (by simp) ?_
     refine al_op (op_store_ptr info27 rfl rfl rfl rfl rfl rfl (by first | rfl | exact live_one rfl | (repeat (first | exact all_live_nil | refine all_live_clo rfl ?_ | refine all_live_slice rfl ?_ | refine all_live_map rfl ?_ | refine all_live_ptr rfl ?_))) (by decide)) rfl (by simp) ?_
     refine al_op (op_assign rfl) rfl (by simp) ?_
     refine al_nil ?_
     refine aw_ret ?_
     refine ⟨_, res_cell_tmp rfl Try.underlying27 info27 rfl rfl rfl rfl rfl rfl rfl, ?_⟩
     rw [MS.net_bad hl (by rw [Bool.not_eq_true'] at gh4; exact gh4)]; exact ⟨_, rfl, .tuple _ _ (frz3_cons (.agg _ _ (frz2_cons (.vnil 1) (frz2_cons (.vnil 3) (frz2_cons (.vnil 2) (frz2_cons (.vnil 2) frz2_nil))))) (frz3_cons (.leaf _ _ (.same _)) frz3_nil)), rfl⟩
    ·have gh4 := h4
     try simp only [nrm] at h4
     refine aw_skip ?_
     refine aw_seq ?_
     refine aw_region ?_
     refine al_op (op_load_ptr Try.underlying27 info27 rfl rfl rfl rfl) rfl (by simp) ?_
     refine al_op (op_store_ptr info27 rfl rfl rfl rfl rfl rfl (by first | rfl | exact live_one rfl | (repeat (first | exact all_live_nil | refine all_live_clo rfl ?_ | refine all_live_slice rfl ?_ | refine all_live_map rfl ?_ | refine all_live_ptr rfl ?_))) (Nat.le_of_ble_eq_true rfl)) rfl (by simp) ?_
     refine al_op (op_assign rfl) rfl (by simp) ?_
     refine al_nil ?_
     refine aw_ret ?_
     refine ⟨_, res_cell_tmp rfl Try.underlying27 info27 rfl rfl rfl rfl rfl rfl rfl, ?_⟩
     rw [MS.net_ok hl (by rw [Bool.not_eq_false'] at gh4; exact gh4)]; exact ⟨_, rfl, .tuple _ _ (frz3_cons (.agg _ _ (frz2_cons (.same _) (frz2_cons (frz_whole rfl rfl (by first | rfl | simp [MS.nexts, nextTo_length]) (clo_map (fun _ => rfl))) (frz2_cons (.same _) (frz2_cons (.same _) frz2_nil))))) (frz3_cons (.leaf _ _ (.same _)) frz3_nil)), rfl⟩
theorem m_NetF (s : MS) (vm vg vt vr : Nat) (next : List Int) (outs : List (ByteArray × Int)) (hs : s.OK) (hsm : (s.made []).Small) (hnx : ∀ x ∈ next, x ≤ 9223372036854775807) (hnl : next.length ≤ 100000) (ho : ∀ p ∈ outs, p.1.size ≤ 140737488355328 ∧ p.2 ≤ 9223372036854775807) (hol : outs.length ≤ 100000) : AC Try.prog 39 [.ptr 0 vm 0 0, .list 1 (next.map encI), .list 2 (outs.map encP)] (mk0 s vm vg vt vr) (fun r σ' => r = .ret (.tuple [encN (s.net next outs).1, .v (.int .i64 ((s.net next outs).2))]) ∧ σ' = mk0 s vm vg vt vr) :=
  ac_frz (fun i => decide (i ≤ 3)) (q_mNetF s vm vg vt vr next outs hs hsm hnx hnl ho hol) (by rintro r σ1 ⟨a, rfl, hf, hk⟩; exact ⟨a, _, rfl, hf, rfl, hk⟩)

theorem q_laid (s : MS) (vm vg vt vr : Nat) (n : Net) (hn : n.Small) (hv : n.valid = true) (made : List Int) (hs : s.OK) (hsm : (s.made []).Small) (hreg : s.regs = n.begin.regs) (hins : s.ins = n.ins) (hml : made.length = 1 + n.ins.length + n.regs.length + n.gates.length) (hmr : ∀ x ∈ made, 0 ≤ x ∧ x ≤ 100000) (hok : (laidN n s made).valid = true) : AC Try.prog 82 [.ptr 0 vm 0 0, encN n, .list 1 (made.map encI)] (mk0 s vm vg vt vr) (fun r σ' => r = .ret (.tuple [encN (laidN n s made), .v (.int .i64 (0))]) ∧ σ'.keep (fun i => decide (i ≤ 3)) = mk0 s vm vg vt vr) := by
 obtain ⟨f1, f2, f3, f4, f5, f6, f7⟩ := Net.valid_facts hv
 have hnow : ∀ l : Int, 0 ≤ l → (l / 2).toNat < made.length → nowV made l ≤ 9223372036854775807 := by
   intro l h0 h1
   have := hmr _ (getD_mem h1)
   unfold nowV
   rw [Nat.zero_add, flip_eq]
   split
   · split <;> omega
   · omega
 have hnx : ∀ x ∈ n.regs.map (nextV made), x ≤ 9223372036854775807 := by
   intro x hx
   obtain ⟨r, hr, rfl⟩ := List.mem_map.1 hx
   obtain ⟨k, hk, rfl⟩ := List.getElem_of_mem hr
   have hf := f6 k hk
   rw [List.getD_eq_getElem?_getD, List.getElem?_eq_getElem hk] at hf
   simp only [Option.getD_some] at hf
   exact hnow _ hf.2.1 (by omega)
 have hox : ∀ p ∈ n.outs.map (sharedP made), p.1.size ≤ 140737488355328 ∧ p.2 ≤ 9223372036854775807 := by
   intro x hx
   obtain ⟨r, hr, rfl⟩ := List.mem_map.1 hx
   refine ⟨hn.outs r hr, ?_⟩
   obtain ⟨k, hk, rfl⟩ := List.getElem_of_mem hr
   have hf := f7 k hk
   rw [List.getD_eq_getElem?_getD, List.getElem?_eq_getElem hk] at hf
   simp only [Option.getD_some] at hf
   exact hnow _ hf.1 (by omega)
 have hnet := laid_net hreg hins hok
 refine ac_enter 56 Try.func82 rfl rfl (by simp) ?_
 refine aw_seq ?_
 refine aw_region ?_
 (refine al_opR (op_box 4 rfl rfl (by first | rfl | exact live_one rfl | (repeat (first | exact all_live_nil | refine all_live_clo rfl ?_ | refine all_live_slice rfl ?_ | refine all_live_map rfl ?_ | refine all_live_ptr rfl ?_)))) rfl (by simp) ?_; rintro _ _ ⟨ver4, rfl, rfl⟩)
 (refine al_opR (op_box 5 rfl rfl (by first | rfl | exact live_one rfl | (repeat (first | exact all_live_nil | refine all_live_clo rfl ?_ | refine all_live_slice rfl ?_ | refine all_live_map rfl ?_ | refine all_live_ptr rfl ?_)))) rfl (by simp) ?_; rintro _ _ ⟨ver5, rfl, rfl⟩)
 (refine al_opR (op_alloc 6 info27 rfl rfl) rfl (by simp) ?_; rintro _ _ ⟨ver6, rfl, rfl⟩)
 refine al_op (op_assign rfl) rfl (by simp) ?_
 refine al_nil ?_
 refine aw_seq ?_
 refine aw_region ?_
 refine al_op (op_closure rfl rfl) rfl (by simp) ?_
 refine al_op (op_assign rfl) rfl (by simp) ?_
 refine al_nil ?_
 refine aw_seq ?_
 refine aw_region ?_
 refine al_op (op_assign rfl) rfl (by simp) ?_
 refine al_nil ?_
 refine aw_seq ?_
 refine aw_seq ?_
 refine aw_region ?_
 refine al_op (op_field_ptr Try.underlying27 rfl info23 (by decide) rfl rfl rfl) rfl (by simp) ?_
 refine al_op (op_load_ptr Try.underlying23 info23 rfl rfl rfl rfl) rfl (by simp) ?_
 refine al_op (op_len_map Try.underlying23 rfl) rfl (by simp) ?_
 refine al_op (op_move rfl) rfl (by simp) ?_
 refine al_nil ?_
 refine aw_block ?_
 refine aw_own_map encI 9 1 9 rfl rfl (fun ver9 => ?_)
 refine aw_for2T (α := Nat) (β := Nat) [9, 18] [11] (fun i ver => n.regs.length - i) (fun i ver => i ≤ n.regs.length) (fun i ver => ([(9, .slice 9 ver 0 ((n.regs.take i).map (nextV made)).length), (18, .v (.int .i64 (i)))] : Env)) (fun i ver st => st.put 9 ver (.row 1 (((n.regs.take i).map (nextV made)).map encI))) (0) (ver9) ?_ ?_ ?_ (fun i ver hinv => ?_)
 ·exact Nat.zero_le _
 ·refine sub_cons (get_as rfl ?_) ?_; rotate_left; refine sub_cons (get_as rfl ?_) ?_; rotate_left; exact sub_nil
  all_goals (first | rfl | (simp; done) | (simp only [take_succ_getD n.regs i (by omega), List.map_append, List.map_cons, List.map_nil] <;> rfl))
 ·rfl
 refine aw_seq ?_
 refine aw_region ?_
 refine al_op (op_lss rfl rfl) rfl (by simp) ?_
 refine al_nil ?_
 refine aw_seq ?_
 refine aw_cond rfl (fun h1 => ?_) (fun h1 => ?_)
 ·have gh1 := h1
  try simp only [nrm] at h1
  refine aw_skip ?_
  refine aw_seq ?_
  refine aw_block ?_
  refine aw_seq ?_
  refine aw_region ?_
  refine al_op (op_index_map default Try.underlying23 info93 rfl rfl rfl (by first | (with_reducible exact Int.toNat_natCast _) | rfl) (by omega) (by omega)) rfl (by simp) ?_
  refine al_op (op_load_rptr Try.underlying93 info93 rfl rfl) rfl (by simp) ?_
  (refine al_opR (op_alloc 11 info93 rfl rfl) rfl (by simp) ?_; rintro _ _ ⟨ver11, rfl, rfl⟩)
  refine al_op (op_store_ptr info93 rfl rfl rfl rfl rfl rfl (by first | rfl | exact live_one rfl | (repeat (first | exact all_live_nil | refine all_live_clo rfl ?_ | refine all_live_slice rfl ?_ | refine all_live_map rfl ?_ | refine all_live_ptr rfl ?_))) (Nat.le_of_ble_eq_true rfl)) rfl (by simp) ?_
  refine al_nil ?_
  have hf6 := f6 i (by omega)
  refine aw_region ?_
  refine al_op (op_move rfl) rfl (by simp) ?_
  refine al_op (op_move rfl) rfl (by simp) ?_
  refine al_op (op_field_ptr Try.underlying93 rfl info3 (by decide) rfl rfl rfl) rfl (by simp) ?_
  refine al_op (op_load_ptr Try.underlying3 info3 rfl rfl rfl rfl) rfl (by simp) ?_
  refine al_callp into95 rfl rfl rfl (to_at 5 ver5 made _ (by omega) (by omega) (by omega) hmr rfl rfl rfl) (by simp) ?_
  refine al_op (op_buildSlice Try.underlying54 info3 rfl rfl (by decide) rfl (by decide) rfl (by first | rfl | (repeat (first | exact parts_nil | refine parts_cons rfl (by repeat (first | exact all_live_nil | refine all_live_clo rfl ?_ | refine all_live_slice rfl ?_ | refine all_live_map rfl ?_ | refine all_live_ptr rfl ?_)) ?_))) rfl rfl rfl) rfl (by simp) ?_
  (refine al_opR (op_append_one (nextV made (n.regs.getD i default)) Try.underlying54 Try.underlying54 rfl info3 rfl rfl (by decide) rfl rfl rfl (by first | rfl | simp) rfl rfl (by first | omega | (simp; done) | (simp; omega)) (by show _ * 8 ≤ _; first | omega | (simp; done) | (simp; omega))) rfl (by simp) ?_; rintro _ _ ⟨ver28, rfl, rfl⟩)
  refine al_op (op_assign rfl) rfl (by simp) ?_
  refine al_nil ?_
  refine aw_region ?_
  refine al_op (op_add rfl rfl (by first | exact wrap_i64 (by omega) (by omega))) rfl (by simp) ?_
  refine al_op (op_move rfl) rfl (by simp) ?_
  refine al_nil ?_
  refine ⟨i + 1, ver28, ?_, ?_, ?_, ?_, ?_⟩
  ·omega
  ·omega
  ·refine sub_cons (get_as rfl ?_) ?_; rotate_left; refine sub_cons (get_as rfl ?_) ?_; rotate_left; exact sub_nil
   all_goals (first | rfl | (simp; done) | (simp only [take_succ_getD n.regs i (by omega), List.map_append, List.map_cons, List.map_nil] <;> rfl))
  ·repeat (first | exact subx_refl | exact subx_del | refine subx_put rfl ?_)
  ·(simp only [take_succ_getD n.regs i (by omega), List.map_append, List.map_cons, List.map_nil] <;> rfl)
 ·have gh1 := h1
  try simp only [nrm] at h1
  refine aw_exit ?_
  obtain rfl : i = n.regs.length := by omega
  refine aw_seq ?_
  refine aw_region ?_
  refine al_op (op_field_ptr Try.underlying27 rfl info25 (by decide) rfl rfl rfl) rfl (by simp) ?_
  refine al_op (op_load_ptr Try.underlying25 info25 rfl rfl rfl rfl) rfl (by simp) ?_
  (refine al_call into78 rfl rfl rfl (clonep_own 12 n.outs (by omega) rfl rfl rfl) (by simp) ?_; rintro _ _ ⟨ver32, rfl, rfl⟩)
  refine al_op (op_assign rfl) rfl (by simp) ?_
  refine al_nil ?_
  refine aw_seq ?_
  refine aw_seq ?_
  refine aw_region ?_
  refine al_op (op_move rfl) rfl (by simp) ?_
  refine al_op (op_len_slice Try.underlying25 rfl rfl) rfl (by simp) ?_
  refine al_op (op_move rfl) rfl (by simp) ?_
  refine al_nil ?_
  refine aw_block ?_
  refine aw_forT (ι := Nat) [35] [] (fun i => n.outs.length - i) (fun i => i ≤ n.outs.length) (fun i => ([(35, .v (.int .i64 (i)))] : Env)) (fun i st => st.put 12 ver32 (.row 2 ((outsTo made n.outs i).map encP))) (0) ?_ ?_ ?_ (fun i hinv => ?_)
  ·exact Nat.zero_le _
  ·refine sub_cons (get_as rfl ?_) ?_; rotate_left; exact sub_nil
   all_goals (first | rfl | simp)
  ·rfl
  have hol := outsTo_length made n.outs i
  refine aw_seq ?_
  refine aw_region ?_
  refine al_op (op_lss rfl rfl) rfl (by simp) ?_
  refine al_nil ?_
  refine aw_seq ?_
  refine aw_cond rfl (fun h2 => ?_) (fun h2 => ?_)
  ·have gh2 := h2
   try simp only [nrm] at h2
   refine aw_skip ?_
   refine aw_seq ?_
   refine aw_block ?_
   refine aw_seq ?_
   refine aw_region ?_
   refine al_op (op_move rfl) rfl (by simp) ?_
   refine al_op (op_assign rfl) rfl (by simp) ?_
   refine al_nil ?_
   have hoi := outsTo_get made n.outs i (by omega)
   have hq0 : 0 ≤ ((outsTo made n.outs i).getD (0 + (i : Int).toNat) default).2 := by rw [hoi]; exact (f7 i (by omega)).1
   have hq1 : (((outsTo made n.outs i).getD (0 + (i : Int).toNat) default).2 / 2).toNat < made.length := by rw [hoi]; have := f7 i (by omega); omega
   refine aw_region ?_
   refine al_op (op_move rfl) rfl (by simp) ?_
   refine al_op (op_move rfl) rfl (by simp) ?_
   refine al_op (op_move rfl) rfl (by simp) ?_
   refine al_op (op_move rfl) rfl (by simp) ?_
   refine al_op (op_move rfl) rfl (by simp) ?_
   refine al_op (op_index_slice Try.underlying25 info69 rfl rfl rfl rfl (by omega) (by omega)) rfl (by simp) ?_
   refine al_op (op_field_ptr Try.underlying69 rfl info3 (by decide) rfl rfl rfl) rfl (by simp) ?_
   refine al_op (op_load_map Try.underlying3 info3 rfl rfl (by omega) rfl) rfl (by simp) ?_
   refine al_callp into95 rfl rfl rfl (to_at 5 ver5 made _ hq0 hq1 (by omega) hmr rfl rfl rfl) (by simp) ?_
   refine al_op (op_index_slice Try.underlying25 info69 rfl rfl rfl rfl (by omega) (by omega)) rfl (by simp) ?_
   refine al_op (op_field_ptr Try.underlying69 rfl info3 (by decide) rfl rfl rfl) rfl (by simp) ?_
   refine al_op (op_store_map (((outsTo made n.outs i).getD (0 + (i : Int).toNat) default).1, nowV made ((outsTo made n.outs i).getD (0 + (i : Int).toNat) default).2) info3 rfl rfl rfl (by omega) rfl rfl rfl (Nat.le_of_ble_eq_true rfl) rfl) rfl (by simp) ?_
   refine al_nil ?_
   refine aw_region ?_
   refine al_op (op_add rfl rfl (by first | exact wrap_i64 (by omega) (by omega))) rfl (by simp) ?_
   refine al_op (op_move rfl) rfl (by simp) ?_
   refine al_nil ?_
   refine ⟨i + 1, ?_, ?_, ?_, ?_, ?_⟩
   ·omega
   ·omega
   ·refine sub_cons (get_as rfl ?_) ?_; rotate_left; exact sub_nil
    all_goals (first | rfl | simp)
   ·repeat (first | exact subx_refl | exact subx_del | refine subx_put rfl ?_)
   ·(rw [outsTo_step made n.outs i (by omega)] <;> rfl)
  ·have gh2 := h2
   try simp only [nrm] at h2
   refine aw_exit ?_
   obtain rfl : i = n.outs.length := by omega
   refine aw_seq ?_
   refine aw_freeze (fun i => !(Nat.beq i 9 || Nat.beq i 12)) (fsub_cons (t := 9) rfl (.leaf _ _ (frz_whole rfl rfl (by simp) (clo_map (fun _ => rfl)))) (fsub_cons (t := 12) rfl (.leaf _ _ (frz_whole rfl rfl (by simp [outsTo_length]) (clo_map (fun _ => rfl)))) fsub_same)) ?_
   refine aw_as 9 (.list 1 ((n.regs.map (nextV made)).map encI)) rfl (by rw [List.take_length]) ?_
   refine aw_as 12 (.list 2 ((n.outs.map (sharedP made)).map encP)) rfl (by rw [outsTo_all]) ?_
   refine aw_region ?_
   refine al_op (op_move rfl) rfl (by simp) ?_
   refine al_op (op_move rfl) rfl (by simp) ?_
   refine al_op (op_move rfl) rfl (by simp) ?_
   refine al_callp into39 rfl rfl rfl (mk_ro (m := 0) (g := 1) (t := 2) (r := 3) (m_NetF s vm vg vt vr (n.regs.map (nextV made)) (n.outs.map (sharedP made)) hs hsm hnx (by simp; omega) hox (by simp; omega)) rfl rfl rfl rfl rfl rfl rfl rfl) (by simp) ?_
   refine al_op (op_extract rfl rfl rfl) rfl (by simp) ?_
   refine al_op (op_extract rfl rfl rfl) rfl (by simp) ?_
   refine al_op (op_store_ptr info27 rfl rfl rfl rfl rfl rfl (by first | rfl | exact live_one rfl | (repeat (first | exact all_live_nil | refine all_live_clo rfl ?_ | refine all_live_slice rfl ?_ | refine all_live_map rfl ?_ | refine all_live_ptr rfl ?_))) (Nat.le_of_ble_eq_true rfl)) rfl (by simp) ?_
   refine al_op (op_assign rfl) rfl (by simp) ?_
   refine al_nil ?_
   refine aw_ret ?_
   refine ⟨_, res_cell_tmp rfl Try.underlying27 info27 rfl rfl rfl rfl rfl rfl rfl, ?_⟩
   refine ⟨?_, rfl⟩
   show AEnd.ret (.tuple [encN (s.net (n.regs.map (nextV made)) (n.outs.map (sharedP made))).1, .v (.int .i64 (s.net (n.regs.map (nextV made)) (n.outs.map (sharedP made))).2)]) = _
   rw [hnet]
theorem m_laid (s : MS) (vm vg vt vr : Nat) (n : Net) (hn : n.Small) (hv : n.valid = true) (made : List Int) (hs : s.OK) (hsm : (s.made []).Small) (hreg : s.regs = n.begin.regs) (hins : s.ins = n.ins) (hml : made.length = 1 + n.ins.length + n.regs.length + n.gates.length) (hmr : ∀ x ∈ made, 0 ≤ x ∧ x ≤ 100000) (hok : (laidN n s made).valid = true) : AC Try.prog 82 [.ptr 0 vm 0 0, encN n, .list 1 (made.map encI)] (mk0 s vm vg vt vr) (fun r σ' => r = .ret (.tuple [encN (laidN n s made), .v (.int .i64 (0))]) ∧ σ' = mk0 s vm vg vt vr) :=
  ac_mono (ac_keep (fun i => decide (i ≤ 3)) (q_laid s vm vg vt vr n hn hv made hs hsm hreg hins hml hmr hok)) (by rintro x σ1 ⟨σ2, ⟨rfl, e⟩, rfl⟩; exact ⟨rfl, e⟩)
end Go.Proofs.Ytbpamlphacpkeaa
