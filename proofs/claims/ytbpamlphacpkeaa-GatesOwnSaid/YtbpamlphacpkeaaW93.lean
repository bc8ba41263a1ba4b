/- Printed walks (gen.py, gates_ann.py): part 93. -/
import Derived.Test.YtbpamlphacpkeaaW90
import Derived.Test.YtbpamlphacpkeaaW86
import Derived.Test.YtbpamlphacpkeaaFacts
set_option linter.unusedVariables false
set_option linter.unusedSimpArgs false
set_option maxRecDepth 20000
set_option maxHeartbeats 40000000
namespace Go.Proofs.Ytbpamlphacpkeaa
open Go

theorem q_own_own (vg vr vi : Nat) (ins : List ByteArray) (regs : List (ByteArray × Int × Int)) (gates : List (Int × Int)) (z1 : ins.length * 16 ≤ 140737488355328) (z2 : regs.length * 32 ≤ 140737488355328) (z3 : gates.length * 16 ≤ 140737488355328) : AC Try.prog 52 [.agg [.slice 2 vi 0 ins.length, .slice 1 vr 0 regs.length, .slice 0 vg 0 gates.length, .v (.slice none 0 0)]] ([(0, vg, .row 2 (gates.map encG)), (1, vr, .row 3 (regs.map encR)), (2, vi, .row 1 (ins.map encS))]) (fun r σ' => ∃ ver a, r = .ret a ∧ FrzT σ' (fun i => decide (i ≤ 3)) a (.agg [.list 1 (ins.map encS), .slice 3 ver 0 regs.length, .list 2 (gates.map encG), .list 2 (([] : List (ByteArray × Int)).map encP)]) ∧ σ'.keep (fun i => decide (i ≤ 3)) = [(0, vg, .row 2 (gates.map encG)), (1, vr, .row 3 (regs.map encR)), (2, vi, .row 1 (ins.map encS)), (3, ver, .row 3 (regs.map encR))]) := by
 refine ac_enter 20 Try.func52 rfl rfl (by simp) ?_
 refine aw_seq ?_
 refine aw_region ?_
 (refine al_opR (op_box 31 rfl rfl (by first | rfl | exact live_one rfl | (repeat (first | exact all_live_nil | refine all_live_clo rfl ?_ | refine all_live_slice rfl ?_ | refine all_live_map rfl ?_ | refine all_live_ptr rfl ?_)))) rfl (by simp) ?_; rintro _ _ ⟨ver1, rfl, rfl⟩)
 (refine al_opR (op_alloc 32 info27 rfl rfl) rfl (by simp) ?_; rintro _ _ ⟨ver2, rfl, rfl⟩)
 refine al_nil ?_
 refine aw_seq ?_
 refine aw_plan [0, 1, 2, 4, 5, 6, 8, 9, 10, 12, 13, 14, 3, 7, 11, 15, 16, 17] (Checked.mixed Try.checked) (by kernel_rfl) ?_
 refine afl_float rfl rfl (opk_of (op_build_nil Try.underlying22 info9 rfl rfl (by decide) rfl)) (by simp) ?_
 refine afl_float rfl rfl (opk_of (op_field_ptr Try.underlying27 rfl info22 (by decide) rfl rfl rfl)) (by simp) ?_
 refine afl_float rfl rfl (opk_of (op_load_ptr Try.underlying22 info22 rfl rfl rfl rfl)) (by simp) ?_
 refine afl_float rfl rfl (opk_of (op_build_nil Try.underlying23 info93 rfl rfl (by decide) rfl)) (by simp) ?_
 refine afl_float rfl rfl (opk_of (op_field_ptr Try.underlying27 rfl info23 (by decide) rfl rfl rfl)) (by simp) ?_
 refine afl_float rfl rfl (opk_of (op_load_ptr Try.underlying23 info23 rfl rfl rfl rfl)) (by simp) ?_
 refine afl_float rfl rfl (opk_of (op_build_nil Try.underlying24 info86 rfl rfl (by decide) rfl)) (by simp) ?_
 refine afl_float rfl rfl (opk_of (op_field_ptr Try.underlying27 rfl info24 (by decide) rfl rfl rfl)) (by simp) ?_
 refine afl_float rfl rfl (opk_of (op_load_ptr Try.underlying24 info24 rfl rfl rfl rfl)) (by simp) ?_
 refine afl_float rfl rfl (opk_of (op_build_nil Try.underlying25 info69 rfl rfl (by decide) rfl)) (by simp) ?_
 refine afl_float rfl rfl (opk_of (op_field_ptr Try.underlying27 rfl info25 (by decide) rfl rfl rfl)) (by simp) ?_
 refine afl_float rfl rfl (opk_of (op_load_ptr Try.underlying25 info25 rfl rfl rfl rfl)) (by simp) ?_
 (refine afl_effR rfl rfl (by kernel_rfl) (op_append_new 23 Try.underlying22 Try.underlying22 rfl info9 rfl rfl (by decide) rfl rfl rfl (by first | exact .list _ | exact .vnil | exact .nil | exact .row _ _ _ _ rfl (by first | rfl | simp)) rfl (by first | omega | (simp; done) | (simp; omega)) (by show _ * 16 ≤ _; first | omega | (simp; done) | (simp; omega))) (by simp) ?_; rintro _ _ ⟨ver6, rfl, rfl⟩; refine ⟨?_, ?_⟩)
 ·
  refine loose_k rfl (opk_of (op_load_ptr Try.underlying25 info25 rfl rfl rfl rfl)) ?_
  refine loose_k rfl (opk_of (op_field_ptr Try.underlying27 rfl info25 (by decide) rfl rfl rfl)) ?_
  refine loose_k rfl (opk_of (op_build_nil Try.underlying25 info69 rfl rfl (by decide) rfl)) ?_
  refine loose_k rfl (opk_of (op_load_ptr Try.underlying24 info24 rfl rfl rfl rfl)) ?_
  refine loose_k rfl (opk_of (op_field_ptr Try.underlying27 rfl info24 (by decide) rfl rfl rfl)) ?_
  refine loose_k rfl (opk_of (op_build_nil Try.underlying24 info86 rfl rfl (by decide) rfl)) ?_
  refine loose_k rfl (opk_of (op_load_ptr Try.underlying23 info23 rfl rfl rfl rfl)) ?_
  refine loose_k rfl (opk_of (op_field_ptr Try.underlying27 rfl info23 (by decide) rfl rfl rfl)) ?_
  refine loose_k rfl (opk_of (op_build_nil Try.underlying23 info93 rfl rfl (by decide) rfl)) ?_
  refine loose_anc 2 rfl (by kernel_rfl) ?_
  refine loose_anc 1 rfl (by kernel_rfl) ?_
  refine loose_anc 0 rfl (by kernel_rfl) ?_
  exact loose_nil
 (refine afl_effR rfl rfl (by kernel_rfl) (op_append_new 3 Try.underlying23 Try.underlying23 rfl info93 rfl rfl (by decide) rfl rfl rfl (by first | exact .list _ | exact .vnil | exact .nil | exact .row _ _ _ _ rfl (by first | rfl | simp)) rfl (by first | omega | (simp; done) | (simp; omega)) (by show _ * 32 ≤ _; first | omega | (simp; done) | (simp; omega))) (by simp) ?_; rintro _ _ ⟨ver10, rfl, rfl⟩; refine ⟨?_, ?_⟩)
 ·
  refine loose_anc 3 rfl (by kernel_rfl) ?_
  refine loose_k rfl (opk_of (op_load_ptr Try.underlying25 info25 rfl rfl rfl rfl)) ?_
  refine loose_k rfl (opk_of (op_field_ptr Try.underlying27 rfl info25 (by decide) rfl rfl rfl)) ?_
  refine loose_k rfl (opk_of (op_build_nil Try.underlying25 info69 rfl rfl (by decide) rfl)) ?_
  refine loose_k rfl (opk_of (op_load_ptr Try.underlying24 info24 rfl rfl rfl rfl)) ?_
  refine loose_k rfl (opk_of (op_field_ptr Try.underlying27 rfl info24 (by decide) rfl rfl rfl)) ?_
  refine loose_k rfl (opk_of (op_build_nil Try.underlying24 info86 rfl rfl (by decide) rfl)) ?_
  refine loose_anc 6 rfl (by kernel_rfl) ?_
  refine loose_anc 5 rfl (by kernel_rfl) ?_
  refine loose_anc 4 rfl (by kernel_rfl) ?_
  refine loose_anc 2 rfl (by kernel_rfl) ?_
  refine loose_anc 1 rfl (by kernel_rfl) ?_
  refine loose_anc 0 rfl (by kernel_rfl) ?_
  exact loose_nil
 (refine afl_effR rfl rfl (by kernel_rfl) (op_append_new 21 Try.underlying24 Try.underlying24 rfl info86 rfl rfl (by decide) rfl rfl rfl (by first | exact .list _ | exact .vnil | exact .nil | exact .row _ _ _ _ rfl (by first | rfl | simp)) rfl (by first | omega | (simp; done) | (simp; omega)) (by show _ * 16 ≤ _; first | omega | (simp; done) | (simp; omega))) (by simp) ?_; rintro _ _ ⟨ver14, rfl, rfl⟩; refine ⟨?_, ?_⟩)
 ·
  refine loose_anc 7 rfl (by kernel_rfl) ?_
  refine loose_anc 3 rfl (by kernel_rfl) ?_
  refine loose_k rfl (opk_of (op_load_ptr Try.underlying25 info25 rfl rfl rfl rfl)) ?_
  refine loose_k rfl (opk_of (op_field_ptr Try.underlying27 rfl info25 (by decide) rfl rfl rfl)) ?_
  refine loose_k rfl (opk_of (op_build_nil Try.underlying25 info69 rfl rfl (by decide) rfl)) ?_
  refine loose_anc 10 rfl (by kernel_rfl) ?_
  refine loose_anc 9 rfl (by kernel_rfl) ?_
  refine loose_anc 8 rfl (by kernel_rfl) ?_
  refine loose_anc 6 rfl (by kernel_rfl) ?_
  refine loose_anc 5 rfl (by kernel_rfl) ?_
  refine loose_anc 4 rfl (by kernel_rfl) ?_
  refine loose_anc 2 rfl (by kernel_rfl) ?_
  refine loose_anc 1 rfl (by kernel_rfl) ?_
  refine loose_anc 0 rfl (by kernel_rfl) ?_
  exact loose_nil
 (refine afl_effR rfl rfl (by kernel_rfl) (op_append_new 25 Try.underlying25 Try.underlying25 rfl info69 rfl rfl (by decide) rfl rfl rfl (by first | exact .list _ | exact .vnil | exact .nil | exact .row _ _ _ _ rfl (by first | rfl | simp)) (k := ([] : List (ByteArray × Int))) (f := encP) rfl (by first | omega | (simp; done) | (simp; omega)) (by show _ * 24 ≤ _; first | omega | (simp; done) | (simp; omega))) (by simp) ?_; rintro _ _ ⟨ver18, rfl, rfl⟩; refine ⟨?_, ?_⟩)
 ·
  refine loose_anc 11 rfl (by kernel_rfl) ?_
  refine loose_anc 7 rfl (by kernel_rfl) ?_
  refine loose_anc 3 rfl (by kernel_rfl) ?_
  refine loose_anc 14 rfl (by kernel_rfl) ?_
  refine loose_anc 13 rfl (by kernel_rfl) ?_
  refine loose_anc 12 rfl (by kernel_rfl) ?_
  refine loose_anc 10 rfl (by kernel_rfl) ?_
  refine loose_anc 9 rfl (by kernel_rfl) ?_
  refine loose_anc 8 rfl (by kernel_rfl) ?_
  refine loose_anc 6 rfl (by kernel_rfl) ?_
  refine loose_anc 5 rfl (by kernel_rfl) ?_
  refine loose_anc 4 rfl (by kernel_rfl) ?_
  refine loose_anc 2 rfl (by kernel_rfl) ?_
  refine loose_anc 1 rfl (by kernel_rfl) ?_
  refine loose_anc 0 rfl (by kernel_rfl) ?_
  exact loose_nil
 refine afl_float rfl rfl (opk_of (op_build_struct Try.underlying27 info27 rfl place27 rfl (by first | rfl | (repeat (first | exact parts_nil | refine parts_cons rfl (by repeat (first | exact all_live_nil | refine all_live_clo rfl ?_ | refine all_live_slice rfl ?_ | refine all_live_map rfl ?_ | refine all_live_ptr rfl ?_)) ?_))) rfl)) (by simp) ?_
 (refine afl_eff rfl rfl (by kernel_rfl) (op_store_ptr info27 rfl rfl rfl rfl rfl rfl (by first | rfl | exact live_one rfl | (repeat (first | exact all_live_nil | refine all_live_clo rfl ?_ | refine all_live_slice rfl ?_ | refine all_live_map rfl ?_ | refine all_live_ptr rfl ?_))) (Nat.le_of_ble_eq_true rfl)) (by simp) ?_ ?_)
 ·
  refine loose_anc 16 rfl (by kernel_rfl) ?_
  refine loose_anc 15 rfl (by kernel_rfl) ?_
  refine loose_anc 11 rfl (by kernel_rfl) ?_
  refine loose_anc 7 rfl (by kernel_rfl) ?_
  refine loose_anc 3 rfl (by kernel_rfl) ?_
  refine loose_anc 14 rfl (by kernel_rfl) ?_
  refine loose_anc 13 rfl (by kernel_rfl) ?_
  refine loose_anc 12 rfl (by kernel_rfl) ?_
  refine loose_anc 10 rfl (by kernel_rfl) ?_
  refine loose_anc 9 rfl (by kernel_rfl) ?_
  refine loose_anc 8 rfl (by kernel_rfl) ?_
  refine loose_anc 6 rfl (by kernel_rfl) ?_
  refine loose_anc 5 rfl (by kernel_rfl) ?_
  refine loose_anc 4 rfl (by kernel_rfl) ?_
  refine loose_anc 2 rfl (by kernel_rfl) ?_
  refine loose_anc 1 rfl (by kernel_rfl) ?_
  refine loose_anc 0 rfl (by kernel_rfl) ?_
  exact loose_nil
 refine afl_end ?_
 refine aw_ret ?_
 refine ⟨_, res_cell rfl Try.underlying27 info27 rfl rfl rfl rfl, ?_⟩
 exact ⟨_, _, rfl, .one _ _ (.agg _ _ (frz2_cons (frz_whole rfl rfl (by simp) (clo_map (fun _ => rfl))) (frz2_cons (.same _) (frz2_cons (frz_whole rfl rfl (by simp) (clo_map (fun _ => rfl))) (frz2_cons (frz_whole rfl rfl (by simp) (clo_map (fun _ => rfl))) frz2_nil))))), rfl⟩
theorem own_own {σ : Store} (g r i n : Nat) (vg vr vi : Nat) (ins : List ByteArray) (regs : List (ByteArray × Int × Int)) (gates : List (Int × Int)) (z1 : ins.length * 16 ≤ 140737488355328) (z2 : regs.length * 32 ≤ 140737488355328) (z3 : gates.length * 16 ≤ 140737488355328) (ht : tabOK [g, r, i, n] = true) (hb : σ.below 1000 = true) (h1 : σ.get g = some (vg, .row 2 (gates.map encG))) (h2 : σ.get r = some (vr, .row 3 (regs.map encR))) (h3 : σ.get i = some (vi, .row 1 (ins.map encS))) (h4 : σ.get n = none) :
    AC Try.prog 52 [.agg [.slice i vi 0 ins.length, .slice r vr 0 regs.length, .slice g vg 0 gates.length, .v (.slice none 0 0)]] σ (fun x σ' => ∃ ver, x = .ret (.agg [.list 1 (ins.map encS), .slice n ver 0 regs.length, .list 2 (gates.map encG), .list 2 (([] : List (ByteArray × Int)).map encP)]) ∧ σ' = (((σ.put n ver (.row 3 (regs.map encR))).put i vi (.row 1 (ins.map encS))).put r vr (.row 3 (regs.map encR))).put g vg (.row 2 (gates.map encG))) := by
  have e2 : (AObj.row 2 (gates.map encG)).rn (tab [g, r, i, n]) = .row 2 (gates.map encG) := by show AObj.row 2 _ = _; rw [rn_rows (fun _ => rfl)]
  have e3 : (AObj.row 1 (ins.map encS)).rn (tab [g, r, i, n]) = .row 1 (ins.map encS) := by show AObj.row 1 _ = _; rw [rn_rows (fun _ => rfl)]
  have e4 : (AObj.row 3 (regs.map encR)).rn (tab [g, r, i, n]) = .row 3 (regs.map encR) := by show AObj.row 3 _ = _; rw [rn_rows (fun _ => rfl)]
  have hm : Store.match (tab [g, r, i, n]) σ [(0, vg, .row 2 (gates.map encG)), (1, vr, .row 3 (regs.map encR)), (2, vi, .row 1 (ins.map encS))] := ⟨by rw [e2]; exact h1, by rw [e4]; exact h2, by rw [e3]; exact h3, trivial⟩
  have hf : Store.free [g, r, i, n] [(0, vg, .row 2 (gates.map encG)), (1, vr, .row 3 (regs.map encR)), (2, vi, .row 1 (ins.map encS))] σ = true := by simp [Store.free, Store.get, List.range_succ, tab, h4]
  have hc : AC Try.prog 52 [.agg [.slice 2 vi 0 ins.length, .slice 1 vr 0 regs.length, .slice 0 vg 0 gates.length, .v (.slice none 0 0)]] [(0, vg, .row 2 (gates.map encG)), (1, vr, .row 3 (regs.map encR)), (2, vi, .row 1 (ins.map encS))] (fun x σ' => ∃ ver, x = .ret (.agg [.list 1 (ins.map encS), .slice 3 ver 0 regs.length, .list 2 (gates.map encG), .list 2 (([] : List (ByteArray × Int)).map encP)]) ∧ σ' = [(0, vg, .row 2 (gates.map encG)), (1, vr, .row 3 (regs.map encR)), (2, vi, .row 1 (ins.map encS)), (3, ver, .row 3 (regs.map encR))]) := ac_frz (fun i => decide (i ≤ 3)) (q_own_own vg vr vi ins regs gates z1 z2 z3) (by rintro r σ1 ⟨ver, a, rfl, hf, hk⟩; exact ⟨a, _, rfl, hf, ver, rfl, hk⟩)
  have := ac_at [g, r, i, n] ht hc hm hf hb (by
    rintro x σ' ⟨ver, rfl, rfl⟩ j h
    simp only [Store.get] at h ⊢
    revert h
    cases Nat.beq 0 j <;> cases Nat.beq 1 j <;> cases Nat.beq 2 j <;> cases Nat.beq 3 j <;> simp)
  refine ac_mono this ?_
  rintro x σ' ⟨_, _, ⟨ver, rfl, rfl⟩, rfl, rfl⟩
  refine ⟨ver, rfl, ?_⟩
  simp only [Store.putAll, e2, e3, e4]
  rfl

theorem q_rNet (s : MS) (vm vg vr vi : Nat) (next : List Int) (outs : List (ByteArray × Int)) (hs : s.Good) (hnx : ∀ x ∈ next, x ≤ 9223372036854775807) (hnl : next.length ≤ 100000) (ho : ∀ p ∈ outs, p.1.size ≤ 140737488355328 ∧ p.2 ≤ 9223372036854775807) (hol : outs.length ≤ 100000) : AC Try.prog 40 [.ptr 0 vm 0 0, .list 1 (next.map encI), .list 2 (outs.map encP)] (rk0 s vm vg vr vi) (fun r σ' => ∃ a, r = .ret a ∧ FrzT σ' (fun i => decide (i ≤ 3)) a (.tuple [encN (s.net next outs).1, .v (.int .i64 ((s.net next outs).2))]) ∧ σ'.keep (fun i => decide (i ≤ 3)) = rk0 s vm vg vr vi) := by
 obtain ⟨k1, k2, k3, _⟩ := hs.ok
 refine ac_enter 49 Try.func40 rfl rfl (by simp) ?_
 refine aw_seq ?_
 refine aw_region ?_
 (refine al_opR (op_alloc 6 info27 rfl rfl) rfl (by simp) ?_; rintro _ _ ⟨ver6, rfl, rfl⟩)
 refine al_op (op_assign rfl) rfl (by simp) ?_
 refine al_nil ?_
 refine aw_seq ?_
 refine aw_seq ?_
 refine aw_region ?_
 refine al_op (op_move rfl) rfl (by simp) ?_
 refine al_op (op_len_map Try.underlying54 rfl) rfl (by simp) ?_
 refine al_op (op_move rfl) rfl (by simp) ?_
 refine al_op (op_nilCheck_ptr rfl rfl) rfl (by simp) ?_
 refine al_op (op_field_ptr Try.underlying111 rfl info27 (by decide) rfl rfl rfl) rfl (by simp) ?_
 refine al_op (op_field_ptr Try.underlying27 rfl info23 (by decide) rfl rfl rfl) rfl (by simp) ?_
 refine al_op (op_load_ptr Try.underlying23 info23 rfl rfl rfl rfl) rfl (by simp) ?_
 refine al_op (op_len_slice Try.underlying23 rfl rfl) rfl (by simp) ?_
 refine al_op (op_neq rfl rfl) rfl (by simp) ?_
 refine al_nil ?_
 refine aw_cond rfl (fun h1 => ?_) (fun h1 => ?_)
 ·have gh1 := h1
  try simp only [nrm] at h1
  refine aw_seq ?_
  refine aw_region ?_
  refine al_op (op_build_struct Try.underlying27 info27 rfl place27 rfl (by first | rfl | (repeat (first | exact parts_nil | refine parts_cons rfl (by repeat (first | exact all_live_nil | refine all_live_clo rfl ?_ | refine all_live_slice rfl ?_ | refine all_live_map rfl ?_ | refine all_live_ptr rfl ?_)) ?_))) rfl) rfl (by simp) ?_
  refine al_op (op_store_ptr info27 rfl rfl rfl rfl rfl rfl (by first | rfl | exact live_one rfl | (repeat (first | exact all_live_nil | refine all_live_clo rfl ?_ | refine all_live_slice rfl ?_ | refine all_live_map rfl ?_ | refine all_live_ptr rfl ?_))) (by decide)) rfl (by simp) ?_
  refine al_op (op_assign rfl) rfl (by simp) ?_
  refine al_nil ?_
  refine aw_ret ?_
  refine ⟨_, res_cell_tmp rfl Try.underlying27 info27 rfl rfl rfl rfl rfl rfl rfl, ?_⟩
  rw [MS.net_len gh1]; exact ⟨_, rfl, .tuple _ _ (frz3_cons (.agg _ _ (frz2_cons (.vnil 1) (frz2_cons (.vnil 3) (frz2_cons (.vnil 2) (frz2_cons (.vnil 2) frz2_nil))))) (frz3_cons (.leaf _ _ (.same _)) frz3_nil)), rfl⟩
 ·have gh1 := h1
  try simp only [nrm] at h1
  have hl : next.length = s.regs.length := by omega
  have hsm2 : (⟨s.ins, nextTo next s.regs next.length, s.gates, outs⟩ : Net).Small := MS.nexts_small hs.small hnx hl ho hol
  refine aw_skip ?_
  refine aw_seq ?_
  refine aw_region ?_
  refine al_op (op_move rfl) rfl (by simp) ?_
  refine al_op (op_nilCheck_ptr rfl rfl) rfl (by simp) ?_
  refine al_op (op_field_ptr Try.underlying111 rfl info27 (by decide) rfl rfl rfl) rfl (by simp) ?_
  refine al_op (op_load_ptr Try.underlying27 info27 rfl rfl rfl rfl) rfl (by simp) ?_
  (refine al_call into52 rfl rfl rfl (own_own 1 2 3 4 vg vr vi s.ins s.regs s.gates (by omega) (by omega) (by omega) rfl rfl rfl rfl rfl rfl) (by simp) ?_; rintro _ _ ⟨ver24, rfl, rfl⟩)
  (refine al_opR (op_alloc 8 info27 rfl rfl) rfl (by simp) ?_; rintro _ _ ⟨ver8, rfl, rfl⟩)
  refine al_op (op_store_ptr info27 rfl rfl rfl rfl rfl rfl (by first | rfl | exact live_one rfl | (repeat (first | exact all_live_nil | refine all_live_clo rfl ?_ | refine all_live_slice rfl ?_ | refine all_live_map rfl ?_ | refine all_live_ptr rfl ?_))) (Nat.le_of_ble_eq_true rfl)) rfl (by simp) ?_
  refine al_nil ?_
  refine aw_seq ?_
  refine aw_seq ?_
  refine aw_region ?_
  refine al_op (op_move rfl) rfl (by simp) ?_
  refine al_op (op_len_map Try.underlying54 rfl) rfl (by simp) ?_
  refine al_op (op_move rfl) rfl (by simp) ?_
  refine al_nil ?_
  refine aw_block ?_
  refine aw_forT (ι := Nat) [27] [] (fun i => next.length - i) (fun i => i ≤ next.length) (fun i => ([(27, .v (.int .i64 (i)))] : Env)) (fun i st => st.put 4 ver24 (.row 3 ((nextTo next s.regs i).map encR))) (0) ?_ ?_ ?_ (fun i hinv => ?_)
  ·exact Nat.zero_le _
  ·refine sub_cons (get_as rfl ?_) ?_; rotate_left; exact sub_nil
   all_goals (first | rfl | simp)
  ·rfl
  have hml := nextTo_length next s.regs i
  refine aw_seq ?_
  refine aw_region ?_
  refine al_op (op_lss rfl rfl) rfl (by simp) ?_
  refine al_nil ?_
  refine aw_seq ?_
  refine aw_cond rfl (fun h2 => ?_) (fun h2 => ?_)
  ·have gh2 := h2
   try simp only [nrm] at h2
   refine aw_skip ?_
   refine aw_seq ?_
   refine aw_block ?_
   refine aw_seq ?_
   refine aw_region ?_
   refine al_op (op_move rfl) rfl (by simp) ?_
   refine al_op (op_assign rfl) rfl (by simp) ?_
   refine al_nil ?_
   refine aw_any (Checked.mixed Try.checked) ?_
   apply aany_seg (p := 0) (q := 9) (by kernel_rfl) rfl (by decide)
   ·
    apply ql_plain rfl (op_field_ptr Try.underlying27 rfl info23 (by decide) rfl rfl rfl)
    apply ql_plain rfl (op_load_ptr Try.underlying23 info23 rfl rfl rfl rfl)
    apply ql_plain rfl (op_move rfl)
    apply ql_plain rfl (op_move rfl)
    apply ql_plain rfl (op_move rfl)
    apply ql_plain rfl (op_index_map default Try.underlying54 info3 rfl rfl rfl (by first | (with_reducible exact Int.toNat_natCast _) | rfl) (by omega) (by omega))
    apply ql_plain rfl (op_load_rptr Try.underlying3 info3 rfl rfl)
    apply ql_plain rfl (op_index_slice Try.underlying23 info93 rfl rfl rfl rfl (by omega) (by omega))
    apply ql_plain rfl (op_field_ptr Try.underlying93 rfl info3 (by decide) rfl rfl rfl)
    exact ql_nil
   ·simp
   refine aany_op (by kernel_rfl) rfl rfl (op_store_map (((nextTo next s.regs i).getD (0 + (i : Int).toNat) default).1, ((nextTo next s.regs i).getD (0 + (i : Int).toNat) default).2.1, next.getD i default) info3 rfl rfl rfl (by omega) rfl rfl rfl (Nat.le_of_ble_eq_true rfl) rfl) (by simp) ?_
   refine aany_end rfl (by kernel_rfl) ?_
   refine aw_region ?_
   refine al_op (op_add rfl rfl (by first | exact wrap_i64 (by omega) (by omega))) rfl (by simp) ?_
   refine al_op (op_move rfl) rfl (by simp) ?_
   refine al_nil ?_
   refine ⟨i + 1, ?_, ?_, ?_, ?_, ?_⟩
   ·omega
   ·omega
   ·refine sub_cons (get_as rfl ?_) ?_; rotate_left; exact sub_nil
    all_goals (first | rfl | simp)
   ·repeat (first | exact subx_refl | exact subx_del | refine subx_put rfl ?_)
   ·(rw [nextTo_step next s.regs i (by omega)] <;> rfl)
  ·have gh2 := h2
   try simp only [nrm] at h2
   refine aw_exit ?_
   obtain rfl : i = next.length := by omega
   refine aw_seq ?_
   refine aw_region ?_
   refine al_op (op_build_nil Try.underlying25 info69 rfl rfl (by decide) rfl) rfl (by simp) ?_
   refine al_op (op_move rfl) rfl (by simp) ?_
   (refine al_opR (op_append_new 40 Try.underlying25 Try.underlying25 rfl info69 rfl rfl (by decide) rfl rfl rfl (by first | exact .list _ | exact .vnil | exact .nil | exact .row _ _ _ _ rfl (by first | rfl | simp)) rfl (by first | omega | (simp; done) | (simp; omega)) (by show _ * 24 ≤ _; first | omega | (simp; done) | (simp; omega))) rfl (by simp) ?_; rintro _ _ ⟨ver42, rfl, rfl⟩)
   refine al_op (op_field_ptr Try.underlying27 rfl info25 (by decide) rfl rfl rfl) rfl (by simp) ?_
   refine al_op (op_store_ptr info25 rfl rfl rfl rfl rfl rfl (by first | rfl | exact live_one rfl | (repeat (first | exact all_live_nil | refine all_live_clo rfl ?_ | refine all_live_slice rfl ?_ | refine all_live_map rfl ?_ | refine all_live_ptr rfl ?_))) (Nat.le_of_ble_eq_true rfl)) rfl (by simp) ?_
   refine al_nil ?_
   refine aw_seq ?_
   refine aw_seq ?_
   refine aw_region ?_
   refine al_op (op_load_ptr Try.underlying27 info27 rfl rfl rfl rfl) rfl (by simp) ?_
   refine al_callp into21 rfl rfl rfl (acp_lent (lend_cons (by first | exact lend_same | exact .leaf _ _ (.vnil _) | exact .leaf _ _ (.nil _) | exact lend_whole rfl (by first | rfl | (simp; done) | (simp; omega)) (clo_map (fun _ => rfl)) | exact lend_netg (by first | exact .same _ | exact lendL_vnil | exact lendL_whole rfl (by first | rfl | (simp; done) | (simp; omega)) (clo_map (fun _ => rfl))) (by first | exact .same _ | exact lendL_vnil | exact lendL_whole rfl (by first | rfl | (simp; done) | (simp; omega)) (clo_map (fun _ => rfl))) (by first | exact .same _ | exact lendL_vnil | exact lendL_whole rfl (by first | rfl | (simp; done) | (simp; omega)) (clo_map (fun _ => rfl))) (by first | exact .same _ | exact lendL_vnil | exact lendL_whole rfl (by first | rfl | (simp; done) | (simp; omega)) (clo_map (fun _ => rfl)))) lend_nil) (r_Valid _ (by assumption)) rfl) (by simp) ?_
   refine al_op (op_not rfl) rfl (by simp) ?_
   refine al_nil ?_
   refine aw_cond rfl (fun h3 => ?_) (fun h3 => ?_)
   ·have gh3 := h3
    try simp only [nrm] at h3
    refine aw_seq ?_
    refine aw_region ?_
    refine al_op (op_build_struct Try.underlying27 info27 rfl place27 rfl (by first | rfl | (repeat (first | exact parts_nil | refine parts_cons rfl (by repeat (first | exact all_live_nil | refine all_live_clo rfl ?_ | refine all_live_slice rfl ?_ | refine all_live_map rfl ?_ | refine all_live_ptr rfl ?_)) ?_))) rfl) rfl (by simp) ?_
    refine al_op (op_store_ptr info27 rfl rfl rfl rfl rfl rfl (by first | rfl | exact live_one rfl | (repeat (first | exact all_live_nil | refine all_live_clo rfl ?_ | refine all_live_slice rfl ?_ | refine all_live_map rfl ?_ | refine all_live_ptr rfl ?_))) (by decide)) rfl (by simp) ?_
    refine al_op (op_assign rfl) rfl (by simp) ?_
    refine al_nil ?_
    refine aw_ret ?_
    refine ⟨_, res_cell_tmp rfl Try.underlying27 info27 rfl rfl rfl rfl rfl rfl rfl, ?_⟩
    rw [MS.net_bad hl (by rw [Bool.not_eq_true'] at gh3; exact gh3)]; exact ⟨_, rfl, .tuple _ _ (frz3_cons (.agg _ _ (frz2_cons (.vnil 1) (frz2_cons (.vnil 3) (frz2_cons (.vnil 2) (frz2_cons (.vnil 2) frz2_nil))))) (frz3_cons (.leaf _ _ (.same _)) frz3_nil)), rfl⟩
   ·have gh3 := h3
    try simp only [nrm] at h3
    refine aw_skip ?_
    refine aw_seq ?_
    refine aw_region ?_
    refine al_op (op_load_ptr Try.underlying27 info27 rfl rfl rfl rfl) rfl (by simp) ?_
    refine al_op (op_store_ptr info27 rfl rfl rfl rfl rfl rfl (by first | rfl | exact live_one rfl | (repeat (first | exact all_live_nil | refine all_live_clo rfl ?_ | refine all_live_slice rfl ?_ | refine all_live_map rfl ?_ | refine all_live_ptr rfl ?_))) (Nat.le_of_ble_eq_true rfl)) rfl (by simp) ?_
    refine al_op (op_assign rfl) rfl (by simp) ?_
    refine al_nil ?_
    refine aw_ret ?_
    refine ⟨_, res_cell_tmp rfl Try.underlying27 info27 rfl rfl rfl rfl rfl rfl rfl, ?_⟩
    rw [MS.net_ok hl (by rw [Bool.not_eq_false'] at gh3; exact gh3)]; exact ⟨_, rfl, .tuple _ _ (frz3_cons (.agg _ _ (frz2_cons (.same _) (frz2_cons (frz_whole rfl rfl (by first | rfl | simp [MS.nexts, nextTo_length]) (clo_map (fun _ => rfl))) (frz2_cons (.same _) (frz2_cons (frz_whole rfl rfl (by first | rfl | simp [MS.nexts, nextTo_length]) (clo_map (fun _ => rfl))) frz2_nil))))) (frz3_cons (.leaf _ _ (.same _)) frz3_nil)), rfl⟩
theorem r_Net (s : MS) (vm vg vr vi : Nat) (next : List Int) (outs : List (ByteArray × Int)) (hs : s.Good) (hnx : ∀ x ∈ next, x ≤ 9223372036854775807) (hnl : next.length ≤ 100000) (ho : ∀ p ∈ outs, p.1.size ≤ 140737488355328 ∧ p.2 ≤ 9223372036854775807) (hol : outs.length ≤ 100000) : AC Try.prog 40 [.ptr 0 vm 0 0, .list 1 (next.map encI), .list 2 (outs.map encP)] (rk0 s vm vg vr vi) (fun r σ' => r = .ret (.tuple [encN (s.net next outs).1, .v (.int .i64 ((s.net next outs).2))]) ∧ σ' = rk0 s vm vg vr vi) :=
  ac_frz (fun i => decide (i ≤ 3)) (q_rNet s vm vg vr vi next outs hs hnx hnl ho hol) (by rintro r σ1 ⟨a, rfl, hf, hk⟩; exact ⟨a, _, rfl, hf, rfl, hk⟩)

theorem makeOK_rlen {ins names : List ByteArray} {inits : List Int} (h : ((names.length : Int) != inits.length || decide ((names.length : Int) > 500)) = true) : makeOK ins names inits = false := by
  cases e : makeOK ins names inits with
  | false => rfl
  | true =>
    unfold makeOK at e
    rw [Bool.and_eq_true, decide_eq_true_eq] at e
    obtain ⟨_, f2, _⟩ := Net.valid_facts e.2
    have f2 : (regsOf names inits names.length).length ≤ 500 := f2
    rw [regsOf_length] at f2
    simp only [Bool.or_eq_true, bne_iff_ne, decide_eq_true_eq] at h
    omega
theorem makeOK_rl {names : List ByteArray} {inits : List Int} (h : ((names.length : Int) != inits.length || decide ((names.length : Int) > 500)) = false) : names.length = inits.length := by
  simp only [Bool.or_eq_false_iff, bne_eq_false_iff_eq] at h
  omega
theorem q_rMake (ins names : List ByteArray) (inits : List Int) (z1 : ∀ s ∈ ins, s.size ≤ 140737488355328) (z2 : ∀ s ∈ names, s.size ≤ 140737488355328) (z3 : ∀ x ∈ inits, 0 ≤ x ∧ x ≤ 255) (z4 : ins.length ≤ 100000) (z5 : names.length ≤ 100000) (z6 : inits.length ≤ 100000) : AC Try.prog 29 [.list 1 (ins.map encS), .list 1 (names.map encS), .list 1 (inits.map encB)] ([]) (fun r σ' => if makeOK ins names inits then ∃ vm vg vr vi, r = .ret (.tuple [.ptr 0 vm 0 0, .v (.int .i64 (0))]) ∧ σ'.keep (fun i => decide (i ≤ 3)) = [(3, vi, .row 1 ((MS.make ins names inits).ins.map encS)), (2, vr, .row 3 ((MS.make ins names inits).regs.map encR)), (0, vm, .row 4 [(MS.make ins names inits).rcells 1 2 3 vg vr vi]), (1, vg, .row 2 ((MS.make ins names inits).gates.map encG))] else r = .ret (.tuple [.v (.pointer none), .v (.int .i64 (2))])) := by
 refine ac_enter 50 Try.func29 rfl rfl (by simp) ?_
 refine aw_seq ?_
 refine aw_region ?_
 refine al_op (op_assign rfl) rfl (by simp) ?_
 refine al_op (op_assign rfl) rfl (by simp) ?_
 refine al_nil ?_
 refine aw_seq ?_
 refine aw_seq ?_
 refine aw_region ?_
 refine al_op (op_move rfl) rfl (by simp) ?_
 refine al_op (op_len_map Try.underlying22 rfl) rfl (by simp) ?_
 refine al_op (op_move rfl) rfl (by simp) ?_
 refine al_op (op_len_map Try.underlying28 rfl) rfl (by simp) ?_
 refine al_op (op_neq rfl rfl) rfl (by simp) ?_
 refine al_op (op_move rfl) rfl (by simp) ?_
 apply al_or 4 15 19 rfl
 ·intro h1; have gh1 := h1
  try simp only [nrm] at h1
  refine al_take (op_move rfl) rfl rfl rfl rfl (by simp) ?_
  refine al_take (op_len_map Try.underlying22 rfl) rfl rfl rfl rfl (by simp) ?_
  refine al_take (op_gtr rfl rfl) rfl rfl rfl rfl (by simp) ?_
  refine al_op (op_pick rfl rfl) rfl (by simp) ?_
  refine al_nil ⟨rfl, rfl, rfl, keep_of ?_⟩
  repeat (first | exact subx_refl | exact subx_known rfl gh1 subx_refl | refine subx_put rfl ?_)
 ·intro h1; have gh1 := h1
  try simp only [nrm] at h1
  refine al_pass rfl rfl rfl rfl (by simp) ?_
  refine al_pass rfl rfl rfl rfl (by simp) ?_
  refine al_pass rfl rfl rfl rfl (by simp) ?_
  refine al_op (op_pick rfl rfl) rfl (by simp) ?_
  refine al_nil ⟨rfl, rfl, rfl, keep_of ?_⟩
  repeat (first | exact subx_refl | exact subx_known rfl gh1 subx_refl | refine subx_put rfl ?_)
 refine al_nil ?_
 refine aw_cond rfl (fun h2 => ?_) (fun h2 => ?_)
 ·have gh2 := h2
  try simp only [nrm] at h2
  refine aw_seq ?_
  refine aw_region ?_
  refine al_op (op_assign rfl) rfl (by simp) ?_
  refine al_op (op_assign rfl) rfl (by simp) ?_
  refine al_nil ?_
  refine aw_ret ?_
  refine ⟨_, res_2 rfl rfl rfl rfl rfl, ?_⟩
  show if makeOK ins names inits = true then _ else _
  rw [if_neg (by rw [makeOK_rlen gh2]; decide)]
 ·have gh2 := h2
  try simp only [nrm] at h2
  have hl := makeOK_rl gh2
  have hsm : (⟨ins, regsOf names inits names.length, [], []⟩ : Net).Small := MS.make_small z1 z2 z3 z4 z5 hl
  refine aw_skip ?_
  refine aw_seq ?_
  refine aw_region ?_
  refine al_op (op_build_nil Try.underlying22 info9 rfl rfl (by decide) rfl) rfl (by simp) ?_
  refine al_op (op_move rfl) rfl (by simp) ?_
  (refine al_opR (op_append_new 3 Try.underlying22 Try.underlying22 rfl info9 rfl rfl (by decide) rfl rfl rfl (by first | exact .list _ | exact .vnil | exact .nil | exact .row _ _ _ _ rfl (by first | rfl | simp)) rfl (by first | omega | (simp; done) | (simp; omega)) (by show _ * 16 ≤ _; first | omega | (simp; done) | (simp; omega))) rfl (by simp) ?_; rintro _ _ ⟨ver22, rfl, rfl⟩)
  refine al_op (op_build_struct Try.underlying27 info27 rfl place27 rfl (by first | rfl | (repeat (first | exact parts_nil | refine parts_cons rfl (by repeat (first | exact all_live_nil | refine all_live_clo rfl ?_ | refine all_live_slice rfl ?_ | refine all_live_map rfl ?_ | refine all_live_ptr rfl ?_)) ?_))) rfl) rfl (by simp) ?_
  (refine al_opR (op_alloc 8 info27 rfl rfl) rfl (by simp) ?_; rintro _ _ ⟨ver8, rfl, rfl⟩)
  refine al_op (op_store_ptr info27 rfl rfl rfl rfl rfl rfl (by first | rfl | exact live_one rfl | (repeat (first | exact all_live_nil | refine all_live_clo rfl ?_ | refine all_live_slice rfl ?_ | refine all_live_map rfl ?_ | refine all_live_ptr rfl ?_))) (Nat.le_of_ble_eq_true rfl)) rfl (by simp) ?_
  refine al_nil ?_
  refine aw_seq ?_
  refine aw_seq ?_
  refine aw_region ?_
  refine al_op (op_move rfl) rfl (by simp) ?_
  refine al_op (op_len_map Try.underlying22 rfl) rfl (by simp) ?_
  refine al_op (op_move rfl) rfl (by simp) ?_
  refine al_nil ?_
  refine aw_block ?_
  refine aw_own_in encR 8 2 3 1 (by decide) rfl rfl rfl (fun vr => ?_)
  refine aw_for2T (α := Nat) (β := Nat) [26] [] (fun i ver => names.length - i) (fun i ver => i ≤ names.length) (fun i ver => ([(26, .v (.int .i64 (i)))] : Env)) (fun i ver s => (s.put 2 ver (.row 3 ((regsOf names inits i).map encR))).put 8 ver8 (.row 4 [[.slice 3 ver22 0 ins.length, .slice 2 ver 0 (regsOf names inits i).length, .v (.slice none 0 0), .v (.slice none 0 0)]])) (0) (vr) ?_ ?_ ?_ (fun i ver hinv => ?_)
  ·exact Nat.zero_le _
  ·refine sub_cons (get_as rfl ?_) ?_; rotate_left; exact sub_nil
   all_goals (first | rfl | simp)
  ·rfl
  have hrl := regsOf_length names inits i
  refine aw_seq ?_
  refine aw_region ?_
  refine al_op (op_lss rfl rfl) rfl (by simp) ?_
  refine al_nil ?_
  refine aw_seq ?_
  refine aw_cond rfl (fun h3 => ?_) (fun h3 => ?_)
  ·have gh3 := h3
   try simp only [nrm] at h3
   refine aw_skip ?_
   refine aw_seq ?_
   refine aw_block ?_
   refine aw_seq ?_
   refine aw_region ?_
   refine al_op (op_move rfl) rfl (by simp) ?_
   refine al_op (op_assign rfl) rfl (by simp) ?_
   refine al_nil ?_
   refine aw_any (Checked.mixed Try.checked) ?_
   apply aany_seg (p := 0) (q := 12) (by kernel_rfl) rfl (by decide)
   ·
    apply ql_plain rfl (op_field_ptr Try.underlying27 rfl info23 (by decide) rfl rfl rfl)
    apply ql_plain rfl (op_load_ptr Try.underlying23 info23 rfl rfl rfl rfl)
    apply ql_plain rfl (op_move rfl)
    apply ql_plain rfl (op_move rfl)
    apply ql_plain rfl (op_index_map default Try.underlying22 info9 rfl rfl rfl (by first | (with_reducible exact Int.toNat_natCast _) | rfl) (by omega) (by omega))
    apply ql_plain rfl (op_load_rptr Try.underlying9 info9 rfl rfl)
    apply ql_plain rfl (op_move rfl)
    apply ql_plain rfl (op_move rfl)
    apply ql_plain rfl (op_index_map default Try.underlying28 info65 rfl rfl rfl (by first | (with_reducible exact Int.toNat_natCast _) | rfl) (by omega) (by omega))
    apply ql_plain rfl (op_load_rptr Try.underlying65 info65 rfl rfl)
    apply ql_plain rfl (op_build_struct Try.underlying93 info93 rfl place93 rfl (by first | rfl | (repeat (first | exact parts_nil | refine parts_cons rfl (by repeat (first | exact all_live_nil | refine all_live_clo rfl ?_ | refine all_live_slice rfl ?_ | refine all_live_map rfl ?_ | refine all_live_ptr rfl ?_)) ?_))) rfl)
    apply ql_plain rfl (op_buildSlice Try.underlying23 info93 rfl rfl (by decide) rfl (by decide) rfl (by first | rfl | (repeat (first | exact parts_nil | refine parts_cons rfl (by repeat (first | exact all_live_nil | refine all_live_clo rfl ?_ | refine all_live_slice rfl ?_ | refine all_live_map rfl ?_ | refine all_live_ptr rfl ?_)) ?_))) rfl rfl rfl)
    exact ql_nil
   ·simp
   (refine aany_opR (by kernel_rfl) rfl rfl (op_append_one (names.getD i default, inits.getD i default, 0) Try.underlying23 Try.underlying23 rfl info93 rfl rfl (by decide) rfl rfl rfl (by first | rfl | simp) rfl rfl (by first | omega | (simp; done) | (simp; omega)) (by show _ * 32 ≤ _; first | omega | (simp; done) | (simp; omega))) (by simp) ?_; rintro _ _ ⟨ver41, rfl, rfl⟩)
   apply aany_seg (p := 13) (q := 14) (by kernel_rfl) rfl (by decide)
   ·
    apply ql_plain rfl (op_field_ptr Try.underlying27 rfl info23 (by decide) rfl rfl rfl)
    exact ql_nil
   ·simp
   refine aany_op (by kernel_rfl) rfl rfl (op_store_ptr info23 rfl rfl rfl rfl rfl rfl (by first | rfl | exact live_one rfl | (repeat (first | exact all_live_nil | refine all_live_clo rfl ?_ | refine all_live_slice rfl ?_ | refine all_live_map rfl ?_ | refine all_live_ptr rfl ?_))) (Nat.le_of_ble_eq_true rfl)) (by simp) ?_
   refine aany_end rfl (by kernel_rfl) ?_
   refine aw_region ?_
   refine al_op (op_add rfl rfl (by first | exact wrap_i64 (by omega) (by omega))) rfl (by simp) ?_
   refine al_op (op_move rfl) rfl (by simp) ?_
   refine al_nil ?_
   refine ⟨i + 1, ver41, ?_, ?_, ?_, ?_, ?_⟩
   ·omega
   ·omega
   ·refine sub_cons (get_as rfl ?_) ?_; rotate_left; exact sub_nil
    all_goals (first | rfl | simp)
   ·repeat (first | exact subx_refl | exact subx_del | refine subx_put rfl ?_)
   ·first | (rw [regsOf_succ] <;> rfl)
  ·have gh3 := h3
   try simp only [nrm] at h3
   refine aw_exit ?_
   obtain rfl : i = names.length := by omega
   refine aw_seq ?_
   refine aw_seq ?_
   refine aw_region ?_
   refine al_op (op_load_ptr Try.underlying27 info27 rfl rfl rfl rfl) rfl (by simp) ?_
   refine al_callp into21 rfl rfl rfl (acp_lent (lend_cons (by first | exact lend_same | exact .leaf _ _ (.vnil _) | exact .leaf _ _ (.nil _) | exact lend_whole rfl (by first | rfl | (simp; done) | (simp; omega)) (clo_map (fun _ => rfl)) | exact lend_netg (by first | exact .same _ | exact lendL_vnil | exact lendL_whole rfl (by first | rfl | (simp; done) | (simp; omega)) (clo_map (fun _ => rfl))) (by first | exact .same _ | exact lendL_vnil | exact lendL_whole rfl (by first | rfl | (simp; done) | (simp; omega)) (clo_map (fun _ => rfl))) (by first | exact .same _ | exact lendL_vnil | exact lendL_whole rfl (by first | rfl | (simp; done) | (simp; omega)) (clo_map (fun _ => rfl))) (by first | exact .same _ | exact lendL_vnil | exact lendL_whole rfl (by first | rfl | (simp; done) | (simp; omega)) (clo_map (fun _ => rfl)))) lend_nil) (r_Valid _ (by assumption)) rfl) (by simp) ?_
   refine al_op (op_not rfl) rfl (by simp) ?_
   refine al_nil ?_
   refine aw_cond rfl (fun h4 => ?_) (fun h4 => ?_)
   ·have gh4 := h4
    try simp only [nrm] at h4
    refine aw_seq ?_
    refine aw_region ?_
    refine al_op (op_assign rfl) rfl (by simp) ?_
    refine al_op (op_assign rfl) rfl (by simp) ?_
    refine al_nil ?_
    refine aw_ret ?_
    refine ⟨_, res_2 rfl rfl rfl rfl rfl, ?_⟩
    show if makeOK ins names inits = true then _ else _
    rw [if_neg (by rw [makeOK_bad gh4]; decide)]
   ·have gh4 := h4
    try simp only [nrm] at h4
    refine aw_skip ?_
    refine aw_seq ?_
    refine aw_region ?_
    refine al_op (op_load_ptr Try.underlying27 info27 rfl rfl rfl rfl) rfl (by simp) ?_
    refine al_op (op_build_struct Try.underlying111 info111 rfl place111 rfl (by first | rfl | (repeat (first | exact parts_nil | refine parts_cons rfl (by repeat (first | exact all_live_nil | refine all_live_clo rfl ?_ | refine all_live_slice rfl ?_ | refine all_live_map rfl ?_ | refine all_live_ptr rfl ?_)) ?_))) rfl) rfl (by simp) ?_
    (refine al_opR (op_box 0 rfl rfl (by first | rfl | exact live_one rfl | (repeat (first | exact all_live_nil | refine all_live_clo rfl ?_ | refine all_live_slice rfl ?_ | refine all_live_map rfl ?_ | refine all_live_ptr rfl ?_)))) rfl (by simp) ?_; rintro _ _ ⟨ver49, rfl, rfl⟩)
    refine al_op (op_assign rfl) rfl (by simp) ?_
    refine al_op (op_assign rfl) rfl (by simp) ?_
    refine al_nil ?_
    refine aw_own_in encG 0 1 2 2 (by decide) rfl rfl rfl (fun vg => ?_)
    refine aw_ret ?_
    refine ⟨_, res_2 rfl rfl rfl rfl rfl, ?_⟩
    show if makeOK ins names inits = true then _ else _
    rw [if_pos (makeOK_ok hl gh4)]; exact ⟨_, _, _, _, rfl, rfl⟩
end Go.Proofs.Ytbpamlphacpkeaa
