/- Printed walks (gen.py, gates_ann.py): part 116. -/
import Derived.Test.YtbpamlphacpkeaaW114
import Derived.Test.YtbpamlphacpkeaaW93
import Derived.Test.YtbpamlphacpkeaaGShareR
import Derived.Test.YtbpamlphacpkeaaFacts
set_option linter.unusedVariables false
set_option linter.unusedSimpArgs false
set_option maxRecDepth 20000
set_option maxHeartbeats 40000000
namespace Go.Proofs.Ytbpamlphacpkeaa
open Go

theorem r_Now (made : List Int) (l : Int) (h0 : 0 ≤ l) (hl : (l / 2).toNat < made.length) (hm : ∀ x ∈ made, 0 ≤ x ∧ x ≤ 100000) (hml : made.length ≤ 100000) : ACp Try.prog 83 [.list 1 (made.map encI), .v (.int .i64 (l))] (.v (.int .i64 (nowV made l))) := by
 refine acp_of rfl ?_
 have hx := hm _ (getD_mem hl)
 refine ac_enter 19 Try.func83 rfl rfl (by simp) ?_
 refine aw_seq ?_
 refine aw_region ?_
 refine al_op (op_assign rfl) rfl (by simp) ?_
 refine al_nil ?_
 refine aw_seq ?_
 refine aw_seq ?_
 refine aw_region ?_
 refine al_op (op_move rfl) rfl (by simp) ?_
 refine al_op (op_rem rfl rfl (by omega) (rem_nn (by omega))) rfl (by simp) ?_
 refine al_op (op_eql rfl rfl) rfl (by simp) ?_
 refine al_nil ?_
 refine aw_cond rfl (fun h1 => ?_) (fun h1 => ?_)
 ·have gh1 := h1
  try simp only [nrm] at h1
  refine aw_seq ?_
  refine aw_region ?_
  refine al_op (op_move rfl) rfl (by simp) ?_
  refine al_op (op_move rfl) rfl (by simp) ?_
  refine al_op (op_quo rfl rfl (by omega) (quo_nn (by omega) (by omega) (by omega))) rfl (by simp) ?_
  refine al_op (op_index_map default Try.underlying54 info3 rfl rfl rfl (by first | (with_reducible exact Int.toNat_natCast _) | rfl) (by omega) (by omega)) rfl (by simp) ?_
  refine al_op (op_load_rptr Try.underlying3 info3 rfl rfl) rfl (by simp) ?_
  refine al_callp into74 rfl rfl rfl ((r_inverse _ (by omega) (by omega)) _) (by simp) ?_
  refine al_op (op_assign rfl) rfl (by simp) ?_
  refine al_nil ?_
  refine aw_freeze (fun _ => false) (fsub_cons (t := 4) rfl (.leaf _ _ (.same _)) fsub_nil) ?_
  refine aw_ret ?_
  refine ⟨_, res_1 rfl rfl, ?_, rfl⟩
  rw [nowV, Nat.zero_add, if_pos (by omega)]
 ·have gh1 := h1
  try simp only [nrm] at h1
  refine aw_skip ?_
  refine aw_seq ?_
  refine aw_region ?_
  refine al_op (op_move rfl) rfl (by simp) ?_
  refine al_op (op_move rfl) rfl (by simp) ?_
  refine al_op (op_quo rfl rfl (by omega) (quo_nn (by omega) (by omega) (by omega))) rfl (by simp) ?_
  refine al_op (op_index_map default Try.underlying54 info3 rfl rfl rfl (by first | (with_reducible exact Int.toNat_natCast _) | rfl) (by omega) (by omega)) rfl (by simp) ?_
  refine al_op (op_load_rptr Try.underlying3 info3 rfl rfl) rfl (by simp) ?_
  refine al_op (op_assign rfl) rfl (by simp) ?_
  refine al_nil ?_
  refine aw_freeze (fun _ => false) (fsub_cons (t := 4) rfl (.leaf _ _ (.same _)) fsub_nil) ?_
  refine aw_ret ?_
  refine ⟨_, res_1 rfl rfl, ?_, rfl⟩
  rw [nowV, Nat.zero_add, if_neg (by omega)]

theorem q_own_new (n : Net) (z1 : n.ins.length * 16 ≤ 140737488355328) (z2 : n.regs.length * 32 ≤ 140737488355328) (z3 : n.gates.length * 16 ≤ 140737488355328) (z4 : n.outs.length * 24 ≤ 140737488355328) : AC Try.prog 52 [encN n] ([]) (fun r σ' => ∃ vi vr a, r = .ret a ∧ FrzT σ' (fun i => decide (i ≤ 1)) a (.agg [.slice 0 vi 0 n.ins.length, .slice 1 vr 0 n.regs.length, .list 2 (n.gates.map encG), .list 2 (n.outs.map encP)]) ∧ σ'.keep (fun i => decide (i ≤ 1)) = [(0, vi, .row 1 (n.ins.map encS)), (1, vr, .row 3 (n.regs.map encR))]) := by
 refine ac_enter 20 Try.func52 rfl rfl (by simp) ?_
 refine aw_seq ?_
 refine aw_region ?_
 (refine al_opR (op_box 31 rfl rfl (by first | rfl | exact live_one rfl | (repeat (first | exact all_live_nil | refine all_live_clo rfl ?_ | refine all_live_slice rfl ?_ | refine all_live_map rfl ?_ | refine all_live_ptr rfl ?_)))) rfl (by simp) ?_; rintro _ _ ⟨ver1, rfl, rfl⟩)
 (refine al_opR (op_alloc 32 info27 rfl rfl) rfl (by simp) ?_; rintro _ _ ⟨ver2, rfl, rfl⟩)
 refine al_nil ?_
 refine aw_seq ?_
 refine aw_plan [0, 1, 2, 4, 5, 6, 8, 9, 10, 12, 13, 14, 3, 7, 11, 15, 16, 17] (Checked.mixed Try.checked) (by kernel_rfl) ?_
 refine afl_float rfl rfl (opk_of (op_build_nil Try.underlying22 info9 rfl rfl (by decide) rfl)) (by simp) ?_
 refine afl_float rfl rfl (opk_of (op_field_ptr Try.underlying27 rfl info22 (by decide) rfl rfl rfl)) (by simp) ?_
 refine afl_float rfl rfl (opk_of (op_load_ptr Try.underlying22 info22 rfl rfl rfl rfl)) (by simp) ?_
 refine afl_float rfl rfl (opk_of (op_build_nil Try.underlying23 info93 rfl rfl (by decide) rfl)) (by simp) ?_
 refine afl_float rfl rfl (opk_of (op_field_ptr Try.underlying27 rfl info23 (by decide) rfl rfl rfl)) (by simp) ?_
 refine afl_float rfl rfl (opk_of (op_load_ptr Try.underlying23 info23 rfl rfl rfl rfl)) (by simp) ?_
 refine afl_float rfl rfl (opk_of (op_build_nil Try.underlying24 info86 rfl rfl (by decide) rfl)) (by simp) ?_
 refine afl_float rfl rfl (opk_of (op_field_ptr Try.underlying27 rfl info24 (by decide) rfl rfl rfl)) (by simp) ?_
 refine afl_float rfl rfl (opk_of (op_load_ptr Try.underlying24 info24 rfl rfl rfl rfl)) (by simp) ?_
 refine afl_float rfl rfl (opk_of (op_build_nil Try.underlying25 info69 rfl rfl (by decide) rfl)) (by simp) ?_
 refine afl_float rfl rfl (opk_of (op_field_ptr Try.underlying27 rfl info25 (by decide) rfl rfl rfl)) (by simp) ?_
 refine afl_float rfl rfl (opk_of (op_load_ptr Try.underlying25 info25 rfl rfl rfl rfl)) (by simp) ?_
 (refine afl_effR rfl rfl (by kernel_rfl) (op_append_new 0 Try.underlying22 Try.underlying22 rfl info9 rfl rfl (by decide) rfl rfl rfl (by first | exact .list _ | exact .vnil | exact .nil | exact .row _ _ _ _ rfl (by first | rfl | simp)) rfl (by first | omega | (simp; done) | (simp; omega)) (by show _ * 16 ≤ _; first | omega | (simp; done) | (simp; omega))) (by simp) ?_; rintro _ _ ⟨ver6, rfl, rfl⟩; refine ⟨?_, ?_⟩)
 ·
  refine loose_k rfl (opk_of (op_load_ptr Try.underlying25 info25 rfl rfl rfl rfl)) ?_
  refine loose_k rfl (opk_of (op_field_ptr Try.underlying27 rfl info25 (by decide) rfl rfl rfl)) ?_
  refine loose_k rfl (opk_of (op_build_nil Try.underlying25 info69 rfl rfl (by decide) rfl)) ?_
  refine loose_k rfl (opk_of (op_load_ptr Try.underlying24 info24 rfl rfl rfl rfl)) ?_
  refine loose_k rfl (opk_of (op_field_ptr Try.underlying27 rfl info24 (by decide) rfl rfl rfl)) ?_
  refine loose_k rfl (opk_of (op_build_nil Try.underlying24 info86 rfl rfl (by decide) rfl)) ?_
  refine loose_k rfl (opk_of (op_load_ptr Try.underlying23 info23 rfl rfl rfl rfl)) ?_
  refine loose_k rfl (opk_of (op_field_ptr Try.underlying27 rfl info23 (by decide) rfl rfl rfl)) ?_
  refine loose_k rfl (opk_of (op_build_nil Try.underlying23 info93 rfl rfl (by decide) rfl)) ?_
  refine loose_anc 2 rfl (by kernel_rfl) ?_
  refine loose_anc 1 rfl (by kernel_rfl) ?_
  refine loose_anc 0 rfl (by kernel_rfl) ?_
  exact loose_nil
 (refine afl_effR rfl rfl (by kernel_rfl) (op_append_new 1 Try.underlying23 Try.underlying23 rfl info93 rfl rfl (by decide) rfl rfl rfl (by first | exact .list _ | exact .vnil | exact .nil | exact .row _ _ _ _ rfl (by first | rfl | simp)) rfl (by first | omega | (simp; done) | (simp; omega)) (by show _ * 32 ≤ _; first | omega | (simp; done) | (simp; omega))) (by simp) ?_; rintro _ _ ⟨ver10, rfl, rfl⟩; refine ⟨?_, ?_⟩)
 ·
  refine loose_anc 3 rfl (by kernel_rfl) ?_
  refine loose_k rfl (opk_of (op_load_ptr Try.underlying25 info25 rfl rfl rfl rfl)) ?_
  refine loose_k rfl (opk_of (op_field_ptr Try.underlying27 rfl info25 (by decide) rfl rfl rfl)) ?_
  refine loose_k rfl (opk_of (op_build_nil Try.underlying25 info69 rfl rfl (by decide) rfl)) ?_
  refine loose_k rfl (opk_of (op_load_ptr Try.underlying24 info24 rfl rfl rfl rfl)) ?_
  refine loose_k rfl (opk_of (op_field_ptr Try.underlying27 rfl info24 (by decide) rfl rfl rfl)) ?_
  refine loose_k rfl (opk_of (op_build_nil Try.underlying24 info86 rfl rfl (by decide) rfl)) ?_
  refine loose_anc 6 rfl (by kernel_rfl) ?_
  refine loose_anc 5 rfl (by kernel_rfl) ?_
  refine loose_anc 4 rfl (by kernel_rfl) ?_
  refine loose_anc 2 rfl (by kernel_rfl) ?_
  refine loose_anc 1 rfl (by kernel_rfl) ?_
  refine loose_anc 0 rfl (by kernel_rfl) ?_
  exact loose_nil
 (refine afl_effR rfl rfl (by kernel_rfl) (op_append_new 21 Try.underlying24 Try.underlying24 rfl info86 rfl rfl (by decide) rfl rfl rfl (by first | exact .list _ | exact .vnil | exact .nil | exact .row _ _ _ _ rfl (by first | rfl | simp)) rfl (by first | omega | (simp; done) | (simp; omega)) (by show _ * 16 ≤ _; first | omega | (simp; done) | (simp; omega))) (by simp) ?_; rintro _ _ ⟨ver14, rfl, rfl⟩; refine ⟨?_, ?_⟩)
 ·
  refine loose_anc 7 rfl (by kernel_rfl) ?_
  refine loose_anc 3 rfl (by kernel_rfl) ?_
  refine loose_k rfl (opk_of (op_load_ptr Try.underlying25 info25 rfl rfl rfl rfl)) ?_
  refine loose_k rfl (opk_of (op_field_ptr Try.underlying27 rfl info25 (by decide) rfl rfl rfl)) ?_
  refine loose_k rfl (opk_of (op_build_nil Try.underlying25 info69 rfl rfl (by decide) rfl)) ?_
  refine loose_anc 10 rfl (by kernel_rfl) ?_
  refine loose_anc 9 rfl (by kernel_rfl) ?_
  refine loose_anc 8 rfl (by kernel_rfl) ?_
  refine loose_anc 6 rfl (by kernel_rfl) ?_
  refine loose_anc 5 rfl (by kernel_rfl) ?_
  refine loose_anc 4 rfl (by kernel_rfl) ?_
  refine loose_anc 2 rfl (by kernel_rfl) ?_
  refine loose_anc 1 rfl (by kernel_rfl) ?_
  refine loose_anc 0 rfl (by kernel_rfl) ?_
  exact loose_nil
 (refine afl_effR rfl rfl (by kernel_rfl) (op_append_new 25 Try.underlying25 Try.underlying25 rfl info69 rfl rfl (by decide) rfl rfl rfl (by first | exact .list _ | exact .vnil | exact .nil | exact .row _ _ _ _ rfl (by first | rfl | simp)) rfl (by first | omega | (simp; done) | (simp; omega)) (by show _ * 24 ≤ _; first | omega | (simp; done) | (simp; omega))) (by simp) ?_; rintro _ _ ⟨ver18, rfl, rfl⟩; refine ⟨?_, ?_⟩)
 ·
  refine loose_anc 11 rfl (by kernel_rfl) ?_
  refine loose_anc 7 rfl (by kernel_rfl) ?_
  refine loose_anc 3 rfl (by kernel_rfl) ?_
  refine loose_anc 14 rfl (by kernel_rfl) ?_
  refine loose_anc 13 rfl (by kernel_rfl) ?_
  refine loose_anc 12 rfl (by kernel_rfl) ?_
  refine loose_anc 10 rfl (by kernel_rfl) ?_
  refine loose_anc 9 rfl (by kernel_rfl) ?_
  refine loose_anc 8 rfl (by kernel_rfl) ?_
  refine loose_anc 6 rfl (by kernel_rfl) ?_
  refine loose_anc 5 rfl (by kernel_rfl) ?_
  refine loose_anc 4 rfl (by kernel_rfl) ?_
  refine loose_anc 2 rfl (by kernel_rfl) ?_
  refine loose_anc 1 rfl (by kernel_rfl) ?_
  refine loose_anc 0 rfl (by kernel_rfl) ?_
  exact loose_nil
 refine afl_float rfl rfl (opk_of (op_build_struct Try.underlying27 info27 rfl place27 rfl (by first | rfl | (repeat (first | exact parts_nil | refine parts_cons rfl (by repeat (first | exact all_live_nil | refine all_live_clo rfl ?_ | refine all_live_slice rfl ?_ | refine all_live_map rfl ?_ | refine all_live_ptr rfl ?_)) ?_))) rfl)) (by simp) ?_
 (refine afl_eff rfl rfl (by kernel_rfl) (op_store_ptr info27 rfl rfl rfl rfl rfl rfl (by first | rfl | exact live_one rfl | (repeat (first | exact all_live_nil | refine all_live_clo rfl ?_ | refine all_live_slice rfl ?_ | refine all_live_map rfl ?_ | refine all_live_ptr rfl ?_))) (Nat.le_of_ble_eq_true rfl)) (by simp) ?_ ?_)
 ·
  refine loose_anc 16 rfl (by kernel_rfl) ?_
  refine loose_anc 15 rfl (by kernel_rfl) ?_
  refine loose_anc 11 rfl (by kernel_rfl) ?_
  refine loose_anc 7 rfl (by kernel_rfl) ?_
  refine loose_anc 3 rfl (by kernel_rfl) ?_
  refine loose_anc 14 rfl (by kernel_rfl) ?_
  refine loose_anc 13 rfl (by kernel_rfl) ?_
  refine loose_anc 12 rfl (by kernel_rfl) ?_
  refine loose_anc 10 rfl (by kernel_rfl) ?_
  refine loose_anc 9 rfl (by kernel_rfl) ?_
  refine loose_anc 8 rfl (by kernel_rfl) ?_
  refine loose_anc 6 rfl (by kernel_rfl) ?_
  refine loose_anc 5 rfl (by kernel_rfl) ?_
  refine loose_anc 4 rfl (by kernel_rfl) ?_
  refine loose_anc 2 rfl (by kernel_rfl) ?_
  refine loose_anc 1 rfl (by kernel_rfl) ?_
  refine loose_anc 0 rfl (by kernel_rfl) ?_
  exact loose_nil
 refine afl_end ?_
 refine aw_ret ?_
 refine ⟨_, res_cell rfl Try.underlying27 info27 rfl rfl rfl rfl, ?_⟩
 exact ⟨_, _, _, rfl, .one _ _ (.agg _ _ (frz2_cons (.same _) (frz2_cons (.same _) (frz2_cons (frz_whole rfl rfl (by simp) (clo_map (fun _ => rfl))) (frz2_cons (frz_whole rfl rfl (by simp) (clo_map (fun _ => rfl))) frz2_nil))))), rfl⟩
theorem own_new {σ : Store} (i r : Nat) (n : Net) (z1 : n.ins.length * 16 ≤ 140737488355328) (z2 : n.regs.length * 32 ≤ 140737488355328) (z3 : n.gates.length * 16 ≤ 140737488355328) (z4 : n.outs.length * 24 ≤ 140737488355328) (ht : tabOK [i, r] = true) (hb : σ.below 1000 = true) (hf : Store.free [i, r] [] σ = true) : AC Try.prog 52 [encN n] σ (fun x σ' => ∃ vi vr, x = .ret (.agg [.slice i vi 0 n.ins.length, .slice r vr 0 n.regs.length, .list 2 (n.gates.map encG), .list 2 (n.outs.map encP)]) ∧ σ' = (σ.put r vr (.row 3 (n.regs.map encR))).put i vi (.row 1 (n.ins.map encS))) := by
  have hc : AC Try.prog 52 [encN n] [] (fun x σ' => ∃ vi vr, x = .ret (.agg [.slice 0 vi 0 n.ins.length, .slice 1 vr 0 n.regs.length, .list 2 (n.gates.map encG), .list 2 (n.outs.map encP)]) ∧ σ' = [(0, vi, .row 1 (n.ins.map encS)), (1, vr, .row 3 (n.regs.map encR))]) := ac_frz (fun i => decide (i ≤ 1)) (q_own_new n z1 z2 z3 z4) (by rintro r σ1 ⟨vi, vr, a, rfl, hf, hk⟩; exact ⟨a, _, rfl, hf, vi, vr, rfl, hk⟩)
  have := ac_at (σ := σ) [i, r] ht hc trivial hf hb (by rintro r σ' _ j _; rfl)
  refine ac_mono this ?_
  rintro x σ' ⟨_, _, ⟨vi, vr, rfl, rfl⟩, rfl, rfl⟩
  refine ⟨vi, vr, rfl, ?_⟩
  have e3 : (AObj.row 1 (n.ins.map encS)).rn (tab [i, r]) = .row 1 (n.ins.map encS) := by show AObj.row 1 _ = _; rw [rn_rows (fun _ => rfl)]
  have e4 : (AObj.row 3 (n.regs.map encR)).rn (tab [i, r]) = .row 3 (n.regs.map encR) := by show AObj.row 3 _ = _; rw [rn_rows (fun _ => rfl)]
  simp only [Store.putAll, e3, e4]
  rfl

def RHS (n : Net) (v1 v2 : Nat) (s : MS) (wm wg wr wi : Nat) (made : List Int) (ver : Nat) (tl : Store) : Store := (1, v1, .row 4 [[.list 1 (n.ins.map encS), .list 3 (n.regs.map encR), .list 2 (n.gates.map encG), .list 2 (n.outs.map encP)]]) :: (2, v2, .row 4 [[.v (.slice none 0 0), .v (.slice none 0 0), .v (.slice none 0 0), .v (.slice none 0 0)]]) :: (63, wr, .row 3 (s.regs.map encR)) :: (64, wi, .row 1 (s.ins.map encS)) :: (61, wm, .row 4 [s.rcells 62 63 64 wg wr wi]) :: (5, ver, .row 1 (made.map encI)) :: (62, wg, .row 2 (s.gates.map encG)) :: tl
theorem rh_below (n : Net) (v1 v2 : Nat) (s : MS) (wm wg wr wi : Nat) (made : List Int) (ver : Nat) (tl : Store) (hb : tl.below 1000 = true) : (RHS n v1 v2 s wm wg wr wi made ver tl).below 1000 = true := by
  simp only [RHS, Store.below, hb]; rfl
theorem rh_r {f : FuncId} {n : Net} {v1 v2 : Nat} {s s' : MS} {wm wg wr wi : Nat} {made : List Int} {ver : Nat} {tl : Store} {bvs : List AVal} {a : AVal} (h : AC Try.prog f (.ptr 0 wm 0 0 :: bvs) (rk0 s wm wg wr wi) (fun x σ' => ∃ vg', x = .ret a ∧ σ' = rk0 s' wm vg' wr wi)) (hb : tl.below 1000 = true) (hc : bvs.all AVal.clo = true) (ha : a.clo = true) :
    AC Try.prog f (.ptr 61 wm 0 0 :: bvs) (RHS n v1 v2 s wm wg wr wi made ver tl) (fun x σ' => ∃ vg', x = .ret a ∧ σ' = RHS n v1 v2 s' wm vg' wr wi made ver tl) :=
  ac_mono (rk_at (m := 61) (g := 62) (r := 63) (i := 64) h rfl (rh_below _ _ _ _ _ _ _ _ _ _ _ hb) rfl rfl rfl rfl hc ha) (by rintro x σ' ⟨vg', rfl, rfl⟩; exact ⟨vg', rfl, rfl⟩)
theorem r_AndW (n : Net) (s : MS) (vm vg vr vi : Nat) (a b : Int) (h1 : n.ins.length = s.ins.length) (h2 : n.regs.length = s.regs.length) (hs : (s.wr n).Good) (ha : a ≤ 9223372036854775807) (hb : b ≤ 9223372036854775807) : AC Try.prog 32 [.ptr 0 vm 0 0, .v (.int .i64 (a)), .v (.int .i64 (b))] (rk0 (s.wr n) vm vg vr vi) (fun r σ' => ∃ vg', r = .ret (.tuple [.v (.int .i64 ((s.and a b).1.1)), .v (.int .i64 ((s.and a b).1.2))]) ∧ σ' = rk0 ((s.and a b).2.wr n) vm vg' vr vi) := by
  have := r_And (s.wr n) vm vg vr vi a b hs ha hb
  rw [MS.and_wr h1 h2] at this
  exact this

theorem q_rshare (n : Net) (hn : n.Small) : AC Try.prog 49 [encN n] ([]) (fun r σ' => ∃ a, r = .ret a ∧ FrzT σ' (fun _ => false) a (.tuple [encN n.share.1, .v (.int .i64 (n.share.2))])) := by
 refine ac_enter 119 Try.func49 rfl rfl (by simp) ?_
 refine aw_seq ?_
 refine aw_region ?_
 (refine al_opR (op_box 1 rfl rfl (by first | rfl | exact live_one rfl | (repeat (first | exact all_live_nil | refine all_live_clo rfl ?_ | refine all_live_slice rfl ?_ | refine all_live_map rfl ?_ | refine all_live_ptr rfl ?_)))) rfl (by simp) ?_; rintro _ _ ⟨ver1, rfl, rfl⟩)
 (refine al_opR (op_alloc 2 info27 rfl rfl) rfl (by simp) ?_; rintro _ _ ⟨ver2, rfl, rfl⟩)
 refine al_op (op_assign rfl) rfl (by simp) ?_
 refine al_nil ?_
 refine aw_seq ?_
 refine aw_seq ?_
 refine aw_region ?_
 refine al_op (op_load_ptr Try.underlying27 info27 rfl rfl rfl rfl) rfl (by simp) ?_
 refine al_callp into21 rfl rfl rfl ((r_Valid _ (by assumption)) _) (by simp) ?_
 refine al_op (op_not rfl) rfl (by simp) ?_
 refine al_nil ?_
 refine aw_cond rfl (fun h1 => ?_) (fun h1 => ?_)
 ·have gh1 := h1
  try simp only [nrm] at h1
  refine aw_seq ?_
  refine aw_region ?_
  refine al_op (op_build_struct Try.underlying27 info27 rfl place27 rfl (by first | rfl | (repeat (first | exact parts_nil | refine parts_cons rfl (by repeat (first | exact all_live_nil | refine all_live_clo rfl ?_ | refine all_live_slice rfl ?_ | refine all_live_map rfl ?_ | refine all_live_ptr rfl ?_)) ?_))) rfl) rfl (by simp) ?_
  refine al_op (op_store_ptr info27 rfl rfl rfl rfl rfl rfl (by first | rfl | exact live_one rfl | (repeat (first | exact all_live_nil | refine all_live_clo rfl ?_ | refine all_live_slice rfl ?_ | refine all_live_map rfl ?_ | refine all_live_ptr rfl ?_))) (by decide)) rfl (by simp) ?_
  refine al_op (op_assign rfl) rfl (by simp) ?_
  refine al_nil ?_
  refine aw_ret ?_
  refine ⟨_, res_cell_tmp rfl Try.underlying27 info27 rfl rfl rfl rfl rfl rfl rfl, ?_⟩
  rw [Net.share, if_neg (by simpa using gh1)]; exact ⟨_, rfl, .tuple _ _ (frz3_cons (.agg _ _ (frz2_cons (.vnil 1) (frz2_cons (.vnil 3) (frz2_cons (.vnil 2) (frz2_cons (.vnil 2) frz2_nil))))) (frz3_cons (.leaf _ _ (.same _)) frz3_nil))⟩
 ·have gh1 := h1
  try simp only [nrm] at h1
  have hv : n.valid = true := by simpa using gh1
  obtain ⟨f1, f2, f3, f4, f5, f6, f7⟩ := Net.valid_facts hv
  obtain ⟨_, hbg⟩ := Net.begin_ok hn hv
  have hfst : n.first = 1 + n.ins.length + n.regs.length := rfl
  refine aw_skip ?_
  refine aw_seq ?_
  refine aw_region ?_
  refine al_op (op_load_ptr Try.underlying27 info27 rfl rfl rfl rfl) rfl (by simp) ?_
  (refine al_call into52 rfl rfl rfl (own_new 64 63 n (by omega) (by omega) (by omega) (by omega) rfl rfl rfl) (by simp) ?_; rintro _ _ ⟨wi, wr, rfl, rfl⟩)
  refine al_op (op_build_struct Try.underlying111 info111 rfl place111 rfl (by first | rfl | (repeat (first | exact parts_nil | refine parts_cons rfl (by repeat (first | exact all_live_nil | refine all_live_clo rfl ?_ | refine all_live_slice rfl ?_ | refine all_live_map rfl ?_ | refine all_live_ptr rfl ?_)) ?_))) rfl) rfl (by simp) ?_
  (refine al_opR (op_box 61 rfl rfl (by first | rfl | exact live_one rfl | (repeat (first | exact all_live_nil | refine all_live_clo rfl ?_ | refine all_live_slice rfl ?_ | refine all_live_map rfl ?_ | refine all_live_ptr rfl ?_)))) rfl (by simp) ?_; rintro _ _ ⟨ver21, rfl, rfl⟩)
  refine al_op (op_assign rfl) rfl (by simp) ?_
  refine al_nil ?_
  refine aw_seq ?_
  refine aw_region ?_
  refine al_op (op_move rfl) rfl (by simp) ?_
  refine al_op (op_move rfl) rfl (by simp) ?_
  refine al_op (op_nilCheck_ptr rfl rfl) rfl (by simp) ?_
  refine al_op (op_field_ptr Try.underlying111 rfl info27 (by decide) rfl rfl rfl) rfl (by simp) ?_
  refine al_op (op_field_ptr Try.underlying27 rfl info24 (by decide) rfl rfl rfl) rfl (by simp) ?_
  refine al_op (op_store_ptr info24 rfl rfl rfl rfl rfl rfl (by first | rfl | exact live_one rfl | (repeat (first | exact all_live_nil | refine all_live_clo rfl ?_ | refine all_live_slice rfl ?_ | refine all_live_map rfl ?_ | refine all_live_ptr rfl ?_))) (Nat.le_of_ble_eq_true rfl)) rfl (by simp) ?_
  refine al_op (op_nilCheck_ptr rfl rfl) rfl (by simp) ?_
  refine al_op (op_field_ptr Try.underlying111 rfl info27 (by decide) rfl rfl rfl) rfl (by simp) ?_
  refine al_op (op_field_ptr Try.underlying27 rfl info25 (by decide) rfl rfl rfl) rfl (by simp) ?_
  refine al_op (op_store_ptr info25 rfl rfl rfl rfl rfl rfl (by first | rfl | exact live_one rfl | (repeat (first | exact all_live_nil | refine all_live_clo rfl ?_ | refine all_live_slice rfl ?_ | refine all_live_map rfl ?_ | refine all_live_ptr rfl ?_))) (Nat.le_of_ble_eq_true rfl)) rfl (by simp) ?_
  refine al_nil ?_
  refine aw_seq ?_
  refine aw_region ?_
  refine al_op (op_assign rfl) rfl (by simp) ?_
  refine al_nil ?_
  refine aw_seq ?_
  refine aw_seq ?_
  refine aw_region ?_
  refine al_op (op_assign rfl) rfl (by simp) ?_
  refine al_nil ?_
  refine aw_block ?_
  refine aw_own_map encI 5 1 5 rfl rfl (fun ver5 => ?_)
  refine aw_for2T (α := Nat) (β := Nat) [5, 6] [] (fun i ver => 1 + n.ins.length + n.regs.length - i) (fun i ver => i ≤ 1 + n.ins.length + n.regs.length) (fun i ver => ([(5, .slice 5 ver 0 (evens i).length), (6, .v (.int .i64 (i)))] : Env)) (fun i ver s => s.put 5 ver (.row 1 ((evens i).map encI))) (0) (ver5) ?_ ?_ ?_ (fun i ver hinv => ?_)
  ·exact Nat.zero_le _
  ·refine sub_cons (get_as rfl ?_) ?_; rotate_left; refine sub_cons (get_as rfl ?_) ?_; rotate_left; exact sub_nil
   all_goals (first | rfl | (simp; done) | (rw [evens_succ] <;> rfl))
  ·rfl
  have hel := evens_length i
  refine aw_seq ?_
  refine aw_seq ?_
  refine aw_region ?_
  refine al_op (op_move rfl) rfl (by simp) ?_
  refine al_op (op_load_ptr Try.underlying27 info27 rfl rfl rfl rfl) rfl (by simp) ?_
  refine al_callp into63 rfl rfl rfl ((r_first _ (by assumption)) _) (by simp) ?_
  refine al_op (op_lss rfl rfl) rfl (by simp) ?_
  refine al_nil ?_
  refine aw_cond rfl (fun h2 => ?_) (fun h2 => ?_)
  ·have gh2 := h2
   try simp only [nrm] at h2
   refine aw_skip ?_
   refine aw_seq ?_
   refine aw_block ?_
   refine aw_region ?_
   refine al_op (op_move rfl) rfl (by simp) ?_
   refine al_op (op_move rfl) rfl (by simp) ?_
   refine al_op (op_mul rfl rfl (by first | exact wrap_i64 (by omega) (by omega))) rfl (by simp) ?_
   refine al_op (op_buildSlice Try.underlying54 info3 rfl rfl (by decide) rfl (by decide) rfl (by first | rfl | (repeat (first | exact parts_nil | refine parts_cons rfl (by repeat (first | exact all_live_nil | refine all_live_clo rfl ?_ | refine all_live_slice rfl ?_ | refine all_live_map rfl ?_ | refine all_live_ptr rfl ?_)) ?_))) rfl rfl rfl) rfl (by simp) ?_
   (refine al_opR (op_append_one (2 * (i : Int)) Try.underlying54 Try.underlying54 rfl info3 rfl rfl (by decide) rfl rfl rfl (by first | rfl | simp) rfl rfl (by first | omega | (simp; done) | (simp; omega)) (by show _ * 8 ≤ _; first | omega | (simp; done) | (simp; omega))) rfl (by simp) ?_; rintro _ _ ⟨ver40, rfl, rfl⟩)
   refine al_op (op_assign rfl) rfl (by simp) ?_
   refine al_nil ?_
   refine aw_region ?_
   refine al_op (op_move rfl) rfl (by simp) ?_
   refine al_op (op_add rfl rfl (by first | exact wrap_i64 (by omega) (by omega))) rfl (by simp) ?_
   refine al_op (op_assign rfl) rfl (by simp) ?_
   refine al_nil ?_
   refine ⟨i + 1, ver40, ?_, ?_, ?_, ?_, ?_⟩
   ·omega
   ·omega
   ·refine sub_cons (get_as rfl ?_) ?_; rotate_left; refine sub_cons (get_as rfl ?_) ?_; rotate_left; exact sub_nil
    all_goals (first | rfl | (simp; done) | (rw [evens_succ] <;> rfl))
   ·repeat (first | exact subx_refl | exact subx_del | refine subx_put rfl ?_)
   ·(rw [evens_succ] <;> rfl)
  ·have gh2 := h2
   try simp only [nrm] at h2
   refine aw_exit ?_
   obtain rfl : i = 1 + n.ins.length + n.regs.length := by omega
   refine aw_seq ?_
   refine aw_seq ?_
   refine aw_region ?_
   refine al_op (op_field_ptr Try.underlying27 rfl info24 (by decide) rfl rfl rfl) rfl (by simp) ?_
   refine al_op (op_load_ptr Try.underlying24 info24 rfl rfl rfl rfl) rfl (by simp) ?_
   refine al_op (op_len_map Try.underlying24 rfl) rfl (by simp) ?_
   refine al_op (op_move rfl) rfl (by simp) ?_
   refine al_nil ?_
   refine aw_block ?_
   refine aw_own_in encG 61 62 2 2 (by decide) rfl rfl rfl (fun wg => ?_)
   refine aw_for3T (α := Nat) (β := Nat) (γ := Nat) [5, 44] [8] (fun i ver vg => n.gates.length - i) (fun i ver vg => i ≤ n.gates.length) (fun i ver vg => ([(5, .slice 5 ver 0 (n.shareTo i).2.length), (44, .v (.int .i64 (i)))] : Env)) (fun i ver vg st => RHS n ver1 ver2 ((n.shareTo i).1.wr n) ver21 vg wr wi (n.shareTo i).2 ver []) (0) (ver) (wg) ?_ ?_ ?_ (fun i ver vg hinv => ?_)
   ·exact Nat.zero_le _
   ·refine sub_cons (get_as rfl ?_) ?_; rotate_left; refine sub_cons (get_as rfl ?_) ?_; rotate_left; exact sub_nil
    all_goals (first | rfl | (simp; done))
   ·rfl
   have hz := Net.share_inv0 hn hv i hinv
   have hmr := hz.range
   refine aw_seq ?_
   refine aw_region ?_
   refine al_op (op_lss rfl rfl) rfl (by simp) ?_
   refine al_nil ?_
   refine aw_seq ?_
   refine aw_cond rfl (fun h3 => ?_) (fun h3 => ?_)
   ·have gh3 := h3
    try simp only [nrm] at h3
    refine aw_skip ?_
    refine aw_seq ?_
    refine aw_block ?_
    refine aw_seq ?_
    refine aw_region ?_
    refine al_op (op_index_map default Try.underlying24 info86 rfl rfl rfl (by first | (with_reducible exact Int.toNat_natCast _) | rfl) (by omega) (by omega)) rfl (by simp) ?_
    refine al_op (op_load_rptr Try.underlying86 info86 rfl rfl) rfl (by simp) ?_
    (refine al_opR (op_alloc 8 info86 rfl rfl) rfl (by simp) ?_; rintro _ _ ⟨ver8, rfl, rfl⟩)
    refine al_op (op_store_ptr info86 rfl rfl rfl rfl rfl rfl (by first | rfl | exact live_one rfl | (repeat (first | exact all_live_nil | refine all_live_clo rfl ?_ | refine all_live_slice rfl ?_ | refine all_live_map rfl ?_ | refine all_live_ptr rfl ?_))) (Nat.le_of_ble_eq_true rfl)) rfl (by simp) ?_
    refine al_nil ?_
    refine aw_seq ?_
    have hg5 := f5 i (by omega)
    have hzl := hz.len
    have hw1 : n.ins.length = (n.shareTo i).1.ins.length := by rw [hz.same.1]; rfl
    have hw2 : n.regs.length = (n.shareTo i).1.regs.length := by rw [hz.same.2, n.begin_regs]
    have hgw : ((n.shareTo i).1.wr n).Good := MS.wr_good hn hz.bits.good hw1 hw2
    have hA := now_le hmr (l := (n.gates.getD i default).1) (by omega)
    have hB := now_le hmr (l := (n.gates.getD i default).2) (by omega)
    have hml : (n.shareTo i).2.length ≤ 100000 := by omega
    refine aw_any (Checked.mixed Try.checked) ?_
    apply aany_seg (p := 0) (q := 9) (by kernel_rfl) rfl (by decide)
    ·
     apply ql_plain rfl (op_move rfl)
     apply ql_plain rfl (op_move rfl)
     apply ql_plain rfl (op_index_aptr Try.underlying86 info3 rfl rfl rfl rfl (by decide) (by decide))
     apply ql_plain rfl (op_load_ptr Try.underlying3 info3 rfl rfl rfl rfl)
     apply ql_call into83 rfl rfl rfl (acp_lent (lend_cons (by first | exact lend_same | exact .leaf _ _ (.vnil _) | exact .leaf _ _ (.nil _) | exact lend_whole rfl (by first | rfl | (simp; done) | (simp; omega)) (clo_map (fun _ => rfl)) | exact lend_netg (by first | exact .same _ | exact lendL_vnil | exact lendL_whole rfl (by first | rfl | (simp; done) | (simp; omega)) (clo_map (fun _ => rfl))) (by first | exact .same _ | exact lendL_vnil | exact lendL_whole rfl (by first | rfl | (simp; done) | (simp; omega)) (clo_map (fun _ => rfl))) (by first | exact .same _ | exact lendL_vnil | exact lendL_whole rfl (by first | rfl | (simp; done) | (simp; omega)) (clo_map (fun _ => rfl))) (by first | exact .same _ | exact lendL_vnil | exact lendL_whole rfl (by first | rfl | (simp; done) | (simp; omega)) (clo_map (fun _ => rfl)))) (lend_cons (by first | exact lend_same | exact .leaf _ _ (.vnil _) | exact .leaf _ _ (.nil _) | exact lend_whole rfl (by first | rfl | (simp; done) | (simp; omega)) (clo_map (fun _ => rfl)) | exact lend_netg (by first | exact .same _ | exact lendL_vnil | exact lendL_whole rfl (by first | rfl | (simp; done) | (simp; omega)) (clo_map (fun _ => rfl))) (by first | exact .same _ | exact lendL_vnil | exact lendL_whole rfl (by first | rfl | (simp; done) | (simp; omega)) (clo_map (fun _ => rfl))) (by first | exact .same _ | exact lendL_vnil | exact lendL_whole rfl (by first | rfl | (simp; done) | (simp; omega)) (clo_map (fun _ => rfl))) (by first | exact .same _ | exact lendL_vnil | exact lendL_whole rfl (by first | rfl | (simp; done) | (simp; omega)) (clo_map (fun _ => rfl)))) lend_nil)) (r_Now _ _ (by omega) (by omega) (by assumption) (by omega)) rfl)
     apply ql_plain rfl (op_move rfl)
     apply ql_plain rfl (op_index_aptr Try.underlying86 info3 rfl rfl rfl rfl (by decide) (by decide))
     apply ql_plain rfl (op_load_ptr Try.underlying3 info3 rfl rfl rfl rfl)
     apply ql_call into83 rfl rfl rfl (acp_lent (lend_cons (by first | exact lend_same | exact .leaf _ _ (.vnil _) | exact .leaf _ _ (.nil _) | exact lend_whole rfl (by first | rfl | (simp; done) | (simp; omega)) (clo_map (fun _ => rfl)) | exact lend_netg (by first | exact .same _ | exact lendL_vnil | exact lendL_whole rfl (by first | rfl | (simp; done) | (simp; omega)) (clo_map (fun _ => rfl))) (by first | exact .same _ | exact lendL_vnil | exact lendL_whole rfl (by first | rfl | (simp; done) | (simp; omega)) (clo_map (fun _ => rfl))) (by first | exact .same _ | exact lendL_vnil | exact lendL_whole rfl (by first | rfl | (simp; done) | (simp; omega)) (clo_map (fun _ => rfl))) (by first | exact .same _ | exact lendL_vnil | exact lendL_whole rfl (by first | rfl | (simp; done) | (simp; omega)) (clo_map (fun _ => rfl)))) (lend_cons (by first | exact lend_same | exact .leaf _ _ (.vnil _) | exact .leaf _ _ (.nil _) | exact lend_whole rfl (by first | rfl | (simp; done) | (simp; omega)) (clo_map (fun _ => rfl)) | exact lend_netg (by first | exact .same _ | exact lendL_vnil | exact lendL_whole rfl (by first | rfl | (simp; done) | (simp; omega)) (clo_map (fun _ => rfl))) (by first | exact .same _ | exact lendL_vnil | exact lendL_whole rfl (by first | rfl | (simp; done) | (simp; omega)) (clo_map (fun _ => rfl))) (by first | exact .same _ | exact lendL_vnil | exact lendL_whole rfl (by first | rfl | (simp; done) | (simp; omega)) (clo_map (fun _ => rfl))) (by first | exact .same _ | exact lendL_vnil | exact lendL_whole rfl (by first | rfl | (simp; done) | (simp; omega)) (clo_map (fun _ => rfl)))) lend_nil)) (r_Now _ _ (by omega) (by omega) (by assumption) (by omega)) rfl)
     exact ql_nil
    ·simp
    (refine aany_call (by kernel_rfl) rfl into32 rfl rfl rfl (rh_r (r_AndW n (n.shareTo i).1 ver21 vg wr wi _ _ hw1 hw2 hgw hA hB) rfl rfl rfl) (by simp) ?_; rintro _ _ ⟨vg58, rfl, rfl⟩)
    apply aany_seg (p := 10) (q := 15) (by kernel_rfl) rfl (by decide)
    ·
     apply ql_plain rfl (op_move rfl)
     apply ql_plain rfl (op_extract rfl rfl rfl)
     apply ql_plain rfl (op_extract rfl rfl rfl)
     apply ql_plain rfl (op_assign rfl)
     apply ql_plain rfl (op_assign rfl)
     exact ql_nil
    ·simp
    refine aany_end rfl (by kernel_rfl) ?_
    refine aw_region ?_
    refine al_op (op_move rfl) rfl (by simp) ?_
    refine al_op (op_move rfl) rfl (by simp) ?_
    refine al_op (op_buildSlice Try.underlying54 info3 rfl rfl (by decide) rfl (by decide) rfl (by first | rfl | (repeat (first | exact parts_nil | refine parts_cons rfl (by repeat (first | exact all_live_nil | refine all_live_clo rfl ?_ | refine all_live_slice rfl ?_ | refine all_live_map rfl ?_ | refine all_live_ptr rfl ?_)) ?_))) rfl rfl rfl) rfl (by simp) ?_
    (refine al_opR (op_append_one _ Try.underlying54 Try.underlying54 rfl info3 rfl rfl (by decide) rfl rfl rfl (by first | rfl | simp) rfl rfl (by first | omega | (simp; done) | (simp; omega)) (by show _ * 8 ≤ _; first | omega | (simp; done) | (simp; omega))) rfl (by simp) ?_; rintro _ _ ⟨ver64, rfl, rfl⟩)
    refine al_op (op_assign rfl) rfl (by simp) ?_
    refine al_nil ?_
    refine aw_region ?_
    refine al_op (op_add rfl rfl (by first | exact wrap_i64 (by omega) (by omega))) rfl (by simp) ?_
    refine al_op (op_move rfl) rfl (by simp) ?_
    refine al_nil ?_
    refine ⟨i + 1, ver64, vg58, ?_, ?_, ?_, ?_, ?_⟩
    ·omega
    ·omega
    ·refine sub_cons (get_as rfl ?_) ?_; rotate_left; refine sub_cons (get_as rfl ?_) ?_; rotate_left; exact sub_nil
     all_goals (first | rfl | (simp; done))
    ·repeat (first | exact subx_refl | exact subx_del | refine subx_put rfl ?_)
    ·rfl
   ·have gh3 := h3
    try simp only [nrm] at h3
    refine aw_exit ?_
    obtain rfl : i = n.gates.length := by omega
    have hzl := hz.len
    have hml : (n.shareTo n.gates.length).2.length ≤ 100000 := by omega
    refine aw_seq ?_
    refine aw_seq ?_
    refine aw_region ?_
    refine al_op (op_field_ptr Try.underlying27 rfl info23 (by decide) rfl rfl rfl) rfl (by simp) ?_
    refine al_op (op_load_ptr Try.underlying23 info23 rfl rfl rfl rfl) rfl (by simp) ?_
    refine al_op (op_len_map Try.underlying23 rfl) rfl (by simp) ?_
    refine al_op (op_move rfl) rfl (by simp) ?_
    refine al_nil ?_
    refine aw_block ?_
    refine aw_forT (ι := Nat) [69] [] (fun i => n.regs.length - i) (fun i => i ≤ n.regs.length) (fun i => ([(69, .v (.int .i64 (i)))] : Env)) (fun i st => st.put 63 wr (.row 3 ((regsS (n.shareTo n.gates.length).2 n.regs i).map encR))) (0) ?_ ?_ ?_ (fun i hinv => ?_)
    ·exact Nat.zero_le _
    ·refine sub_cons (get_as rfl ?_) ?_; rotate_left; exact sub_nil
     all_goals (first | rfl | simp)
    ·rfl
    have hrl := regsS_length (n.shareTo n.gates.length).2 n.regs i
    have e0 : ((n.shareTo n.gates.length).1.wr n).regs.length = n.regs.length := rfl
    refine aw_seq ?_
    refine aw_region ?_
    refine al_op (op_lss rfl rfl) rfl (by simp) ?_
    refine al_nil ?_
    refine aw_seq ?_
    refine aw_cond rfl (fun h4 => ?_) (fun h4 => ?_)
    ·have gh4 := h4
     try simp only [nrm] at h4
     refine aw_skip ?_
     refine aw_seq ?_
     refine aw_block ?_
     refine aw_seq ?_
     refine aw_region ?_
     refine al_op (op_move rfl) rfl (by simp) ?_
     refine al_op (op_assign rfl) rfl (by simp) ?_
     refine al_nil ?_
     have hf6 := f6 i (by omega)
     refine aw_any (Checked.mixed Try.checked) ?_
     apply aany_seg (p := 0) (q := 16) (by kernel_rfl) rfl (by decide)
     ·
      apply ql_plain rfl (op_move rfl)
      apply ql_plain rfl (op_nilCheck_ptr rfl rfl)
      apply ql_plain rfl (op_field_ptr Try.underlying111 rfl info27 (by decide) rfl rfl rfl)
      apply ql_plain rfl (op_field_ptr Try.underlying27 rfl info23 (by decide) rfl rfl rfl)
      apply ql_plain rfl (op_load_ptr Try.underlying23 info23 rfl rfl rfl rfl)
      apply ql_plain rfl (op_move rfl)
      apply ql_plain rfl (op_move rfl)
      apply ql_plain rfl (op_field_ptr Try.underlying27 rfl info23 (by decide) rfl rfl rfl)
      apply ql_plain rfl (op_load_ptr Try.underlying23 info23 rfl rfl rfl rfl)
      apply ql_plain rfl (op_move rfl)
      apply ql_plain rfl (op_index_map default Try.underlying23 info93 rfl rfl rfl (by first | (with_reducible exact Int.toNat_natCast _) | rfl) (by omega) (by omega))
      apply ql_plain rfl (op_field_rptr Try.underlying93 rfl info3 (by decide) rfl rfl)
      apply ql_plain rfl (op_load_rptr Try.underlying3 info3 rfl rfl)
      apply ql_call into83 rfl rfl rfl (acp_lent (lend_cons (by first | exact lend_same | exact .leaf _ _ (.vnil _) | exact .leaf _ _ (.nil _) | exact lend_whole rfl (by first | rfl | (simp; done) | (simp; omega)) (clo_map (fun _ => rfl)) | exact lend_netg (by first | exact .same _ | exact lendL_vnil | exact lendL_whole rfl (by first | rfl | (simp; done) | (simp; omega)) (clo_map (fun _ => rfl))) (by first | exact .same _ | exact lendL_vnil | exact lendL_whole rfl (by first | rfl | (simp; done) | (simp; omega)) (clo_map (fun _ => rfl))) (by first | exact .same _ | exact lendL_vnil | exact lendL_whole rfl (by first | rfl | (simp; done) | (simp; omega)) (clo_map (fun _ => rfl))) (by first | exact .same _ | exact lendL_vnil | exact lendL_whole rfl (by first | rfl | (simp; done) | (simp; omega)) (clo_map (fun _ => rfl)))) (lend_cons (by first | exact lend_same | exact .leaf _ _ (.vnil _) | exact .leaf _ _ (.nil _) | exact lend_whole rfl (by first | rfl | (simp; done) | (simp; omega)) (clo_map (fun _ => rfl)) | exact lend_netg (by first | exact .same _ | exact lendL_vnil | exact lendL_whole rfl (by first | rfl | (simp; done) | (simp; omega)) (clo_map (fun _ => rfl))) (by first | exact .same _ | exact lendL_vnil | exact lendL_whole rfl (by first | rfl | (simp; done) | (simp; omega)) (clo_map (fun _ => rfl))) (by first | exact .same _ | exact lendL_vnil | exact lendL_whole rfl (by first | rfl | (simp; done) | (simp; omega)) (clo_map (fun _ => rfl))) (by first | exact .same _ | exact lendL_vnil | exact lendL_whole rfl (by first | rfl | (simp; done) | (simp; omega)) (clo_map (fun _ => rfl)))) lend_nil)) (r_Now _ _ (by omega) (by omega) (by assumption) (by omega)) rfl)
      apply ql_plain rfl (op_index_slice Try.underlying23 info93 rfl rfl rfl rfl (by omega) (by omega))
      apply ql_plain rfl (op_field_ptr Try.underlying93 rfl info3 (by decide) rfl rfl rfl)
      exact ql_nil
     ·simp
     refine aany_op (by kernel_rfl) rfl rfl (op_store_map (((regsS (n.shareTo n.gates.length).2 n.regs i).getD (0 + (i : Int).toNat) default).1, ((regsS (n.shareTo n.gates.length).2 n.regs i).getD (0 + (i : Int).toNat) default).2.1, nowV (n.shareTo n.gates.length).2 (n.regs.getD i default).2.2) info3 rfl rfl rfl (by omega) rfl rfl rfl (Nat.le_of_ble_eq_true rfl) rfl) (by simp) ?_
     refine aany_end rfl (by kernel_rfl) ?_
     refine aw_region ?_
     refine al_op (op_add rfl rfl (by first | exact wrap_i64 (by omega) (by omega))) rfl (by simp) ?_
     refine al_op (op_move rfl) rfl (by simp) ?_
     refine al_nil ?_
     refine ⟨i + 1, ?_, ?_, ?_, ?_, ?_⟩
     ·omega
     ·omega
     ·refine sub_cons (get_as rfl ?_) ?_; rotate_left; exact sub_nil
      all_goals (first | rfl | simp)
     ·repeat (first | exact subx_refl | exact subx_del | refine subx_put rfl ?_)
     ·(rw [regsS_step (n.shareTo n.gates.length).2 n.regs i (by omega)] <;> rfl)
    ·have gh4 := h4
     try simp only [nrm] at h4
     refine aw_exit ?_
     obtain rfl : i = n.regs.length := by omega
     refine aw_seq ?_
     refine aw_seq ?_
     refine aw_region ?_
     refine al_op (op_field_ptr Try.underlying27 rfl info25 (by decide) rfl rfl rfl) rfl (by simp) ?_
     refine al_op (op_load_ptr Try.underlying25 info25 rfl rfl rfl rfl) rfl (by simp) ?_
     refine al_op (op_len_map Try.underlying25 rfl) rfl (by simp) ?_
     refine al_op (op_move rfl) rfl (by simp) ?_
     refine al_nil ?_
     refine aw_block ?_
     refine aw_own_in encP 61 65 2 3 (by decide) rfl rfl rfl (fun vo => ?_)
     refine aw_for2T (α := Nat) (β := Nat) [92] [13] (fun i vo => n.outs.length - i) (fun i vo => i ≤ n.outs.length) (fun i vo => ([(92, .v (.int .i64 (i)))] : Env)) (fun i vo st => (st.put 65 vo (.row 2 (((n.outs.take i).map (sharedP (n.shareTo n.gates.length).2)).map encP))).put 61 ver21 (.row 4 [[.slice 64 wi 0 n.ins.length, .slice 63 wr 0 n.regs.length, .slice 62 vg 0 (n.shareTo n.gates.length).1.gates.length, .slice 65 vo 0 ((n.outs.take i).map (sharedP (n.shareTo n.gates.length).2)).length]])) (0) (vo) ?_ ?_ ?_ (fun i vo hinv => ?_)
     ·exact Nat.zero_le _
     ·refine sub_cons (get_as rfl ?_) ?_; rotate_left; exact sub_nil
      all_goals (first | rfl | simp)
     ·rfl
     refine aw_seq ?_
     refine aw_region ?_
     refine al_op (op_lss rfl rfl) rfl (by simp) ?_
     refine al_nil ?_
     refine aw_seq ?_
     refine aw_cond rfl (fun h5 => ?_) (fun h5 => ?_)
     ·have gh5 := h5
      try simp only [nrm] at h5
      refine aw_skip ?_
      refine aw_seq ?_
      refine aw_block ?_
      refine aw_seq ?_
      refine aw_region ?_
      refine al_op (op_index_map default Try.underlying25 info69 rfl rfl rfl (by first | (with_reducible exact Int.toNat_natCast _) | rfl) (by omega) (by omega)) rfl (by simp) ?_
      refine al_op (op_load_rptr Try.underlying69 info69 rfl rfl) rfl (by simp) ?_
      (refine al_opR (op_alloc 13 info69 rfl rfl) rfl (by simp) ?_; rintro _ _ ⟨ver13, rfl, rfl⟩)
      refine al_op (op_store_ptr info69 rfl rfl rfl rfl rfl rfl (by first | rfl | exact live_one rfl | (repeat (first | exact all_live_nil | refine all_live_clo rfl ?_ | refine all_live_slice rfl ?_ | refine all_live_map rfl ?_ | refine all_live_ptr rfl ?_))) (Nat.le_of_ble_eq_true rfl)) rfl (by simp) ?_
      refine al_nil ?_
      have hf7 := f7 i (by omega)
      refine aw_plan [0, 1, 2, 3, 4, 5, 6, 7, 8, 9, 10, 11, 12, 13, 14, 15, 16, 17, 18] (Checked.mixed Try.checked) (by kernel_rfl) ?_
      refine afl_float rfl rfl (opk_of (op_move rfl)) (by simp) ?_
      refine afl_float rfl rfl (opk_of (op_move rfl)) (by simp) ?_
      refine afl_float rfl rfl (opk_of (op_nilCheck_ptr rfl rfl)) (by simp) ?_
      refine afl_float rfl rfl (opk_of (op_field_ptr Try.underlying111 rfl info27 (by decide) rfl rfl rfl)) (by simp) ?_
      refine afl_float rfl rfl (opk_of (op_field_ptr Try.underlying27 rfl info25 (by decide) rfl rfl rfl)) (by simp) ?_
      refine afl_float rfl rfl (opk_of (op_load_ptr Try.underlying25 info25 rfl rfl rfl rfl)) (by simp) ?_
      refine afl_float rfl rfl (opk_of (op_field_ptr Try.underlying69 rfl info9 (by decide) rfl rfl rfl)) (by simp) ?_
      refine afl_float rfl rfl (opk_of (op_load_ptr Try.underlying9 info9 rfl rfl rfl rfl)) (by simp) ?_
      refine afl_float rfl rfl (opk_of (op_move rfl)) (by simp) ?_
      refine afl_float rfl rfl (opk_of (op_field_ptr Try.underlying69 rfl info3 (by decide) rfl rfl rfl)) (by simp) ?_
      refine afl_float rfl rfl (opk_of (op_load_ptr Try.underlying3 info3 rfl rfl rfl rfl)) (by simp) ?_
      refine afl_float rfl rfl (opk_call into83 rfl rfl rfl (acp_lent (lend_cons (by first | exact lend_same | exact .leaf _ _ (.vnil _) | exact .leaf _ _ (.nil _) | exact lend_whole rfl (by first | rfl | (simp; done) | (simp; omega)) (clo_map (fun _ => rfl)) | exact lend_netg (by first | exact .same _ | exact lendL_vnil | exact lendL_whole rfl (by first | rfl | (simp; done) | (simp; omega)) (clo_map (fun _ => rfl))) (by first | exact .same _ | exact lendL_vnil | exact lendL_whole rfl (by first | rfl | (simp; done) | (simp; omega)) (clo_map (fun _ => rfl))) (by first | exact .same _ | exact lendL_vnil | exact lendL_whole rfl (by first | rfl | (simp; done) | (simp; omega)) (clo_map (fun _ => rfl))) (by first | exact .same _ | exact lendL_vnil | exact lendL_whole rfl (by first | rfl | (simp; done) | (simp; omega)) (clo_map (fun _ => rfl)))) (lend_cons (by first | exact lend_same | exact .leaf _ _ (.vnil _) | exact .leaf _ _ (.nil _) | exact lend_whole rfl (by first | rfl | (simp; done) | (simp; omega)) (clo_map (fun _ => rfl)) | exact lend_netg (by first | exact .same _ | exact lendL_vnil | exact lendL_whole rfl (by first | rfl | (simp; done) | (simp; omega)) (clo_map (fun _ => rfl))) (by first | exact .same _ | exact lendL_vnil | exact lendL_whole rfl (by first | rfl | (simp; done) | (simp; omega)) (clo_map (fun _ => rfl))) (by first | exact .same _ | exact lendL_vnil | exact lendL_whole rfl (by first | rfl | (simp; done) | (simp; omega)) (clo_map (fun _ => rfl))) (by first | exact .same _ | exact lendL_vnil | exact lendL_whole rfl (by first | rfl | (simp; done) | (simp; omega)) (clo_map (fun _ => rfl)))) lend_nil)) (r_Now _ _ (by omega) (by omega) (by assumption) (by omega)) rfl)) (by simp) ?_
      refine afl_float rfl rfl (opk_of (op_build_struct Try.underlying69 info69 rfl place69 rfl (by first | rfl | (repeat (first | exact parts_nil | refine parts_cons rfl (by repeat (first | exact all_live_nil | refine all_live_clo rfl ?_ | refine all_live_slice rfl ?_ | refine all_live_map rfl ?_ | refine all_live_ptr rfl ?_)) ?_))) rfl)) (by simp) ?_
      refine afl_float rfl rfl (opk_of (op_buildSlice Try.underlying25 info69 rfl rfl (by decide) rfl (by decide) rfl (by first | rfl | (repeat (first | exact parts_nil | refine parts_cons rfl (by repeat (first | exact all_live_nil | refine all_live_clo rfl ?_ | refine all_live_slice rfl ?_ | refine all_live_map rfl ?_ | refine all_live_ptr rfl ?_)) ?_))) rfl rfl rfl)) (by simp) ?_
      (refine afl_effR rfl rfl (by kernel_rfl) (op_append_one (sharedP (n.shareTo n.gates.length).2 (n.outs.getD i default)) Try.underlying25 Try.underlying25 rfl info69 rfl rfl (by decide) rfl rfl rfl (by first | rfl | simp) rfl rfl (by first | omega | (simp; done) | (simp; omega)) (by show _ * 24 ≤ _; first | omega | (simp; done) | (simp; omega))) (by simp) ?_; rintro _ _ ⟨ver110, rfl, rfl⟩; refine ⟨?_, ?_⟩)
      ·
       refine loose_anc 13 rfl (by kernel_rfl) ?_
       refine loose_anc 12 rfl (by kernel_rfl) ?_
       refine loose_anc 11 rfl (by kernel_rfl) ?_
       refine loose_anc 10 rfl (by kernel_rfl) ?_
       refine loose_anc 9 rfl (by kernel_rfl) ?_
       refine loose_anc 8 rfl (by kernel_rfl) ?_
       refine loose_anc 7 rfl (by kernel_rfl) ?_
       refine loose_anc 6 rfl (by kernel_rfl) ?_
       refine loose_anc 5 rfl (by kernel_rfl) ?_
       refine loose_anc 4 rfl (by kernel_rfl) ?_
       refine loose_anc 3 rfl (by kernel_rfl) ?_
       refine loose_anc 2 rfl (by kernel_rfl) ?_
       refine loose_anc 1 rfl (by kernel_rfl) ?_
       refine loose_k rfl (opk_of (op_move rfl)) ?_
       exact loose_nil
      refine afl_float rfl rfl (opk_of (op_nilCheck_ptr rfl rfl)) (by simp) ?_
      refine afl_float rfl rfl (opk_of (op_field_ptr Try.underlying111 rfl info27 (by decide) rfl rfl rfl)) (by simp) ?_
      refine afl_float rfl rfl (opk_of (op_field_ptr Try.underlying27 rfl info25 (by decide) rfl rfl rfl)) (by simp) ?_
      (refine afl_eff rfl rfl (by kernel_rfl) (op_store_ptr info25 rfl rfl rfl rfl rfl rfl (by first | rfl | exact live_one rfl | (repeat (first | exact all_live_nil | refine all_live_clo rfl ?_ | refine all_live_slice rfl ?_ | refine all_live_map rfl ?_ | refine all_live_ptr rfl ?_))) (Nat.le_of_ble_eq_true rfl)) (by simp) ?_ ?_)
      ·
       refine loose_anc 17 rfl (by kernel_rfl) ?_
       refine loose_anc 16 rfl (by kernel_rfl) ?_
       refine loose_anc 15 rfl (by kernel_rfl) ?_
       refine loose_anc 14 rfl (by kernel_rfl) ?_
       refine loose_anc 13 rfl (by kernel_rfl) ?_
       refine loose_anc 12 rfl (by kernel_rfl) ?_
       refine loose_anc 11 rfl (by kernel_rfl) ?_
       refine loose_anc 10 rfl (by kernel_rfl) ?_
       refine loose_anc 9 rfl (by kernel_rfl) ?_
       refine loose_anc 8 rfl (by kernel_rfl) ?_
       refine loose_anc 7 rfl (by kernel_rfl) ?_
       refine loose_anc 6 rfl (by kernel_rfl) ?_
       refine loose_anc 5 rfl (by kernel_rfl) ?_
       refine loose_anc 4 rfl (by kernel_rfl) ?_
       refine loose_anc 3 rfl (by kernel_rfl) ?_
       refine loose_anc 2 rfl (by kernel_rfl) ?_
       refine loose_anc 1 rfl (by kernel_rfl) ?_
       refine loose_anc 0 rfl (by kernel_rfl) ?_
       exact loose_nil
      refine afl_end ?_
      refine aw_region ?_
      refine al_op (op_add rfl rfl (by first | exact wrap_i64 (by omega) (by omega))) rfl (by simp) ?_
      refine al_op (op_move rfl) rfl (by simp) ?_
      refine al_nil ?_
      refine ⟨i + 1, ver110, ?_, ?_, ?_, ?_, ?_⟩
      ·omega
      ·omega
      ·refine sub_cons (get_as rfl ?_) ?_; rotate_left; exact sub_nil
       all_goals (first | rfl | simp)
      ·repeat (first | exact subx_refl | exact subx_del | refine subx_put rfl ?_)
      ·(simp only [take_succ_getD n.outs i (by omega), List.map_append, List.map_cons, List.map_nil] <;> rfl)
     ·have gh5 := h5
      try simp only [nrm] at h5
      refine aw_exit ?_
      obtain rfl : i = n.outs.length := by omega
      refine aw_seq ?_
      refine aw_region ?_
      refine al_op (op_move rfl) rfl (by simp) ?_
      refine al_op (op_nilCheck_ptr rfl rfl) rfl (by simp) ?_
      refine al_op (op_field_ptr Try.underlying111 rfl info27 (by decide) rfl rfl rfl) rfl (by simp) ?_
      refine al_op (op_load_ptr Try.underlying27 info27 rfl rfl rfl rfl) rfl (by simp) ?_
      refine al_op (op_store_ptr info27 rfl rfl rfl rfl rfl rfl (by first | rfl | exact live_one rfl | (repeat (first | exact all_live_nil | refine all_live_clo rfl ?_ | refine all_live_slice rfl ?_ | refine all_live_map rfl ?_ | refine all_live_ptr rfl ?_))) (Nat.le_of_ble_eq_true rfl)) rfl (by simp) ?_
      refine al_op (op_assign rfl) rfl (by simp) ?_
      refine al_nil ?_
      refine aw_ret ?_
      refine ⟨_, res_cell_tmp rfl Try.underlying27 info27 rfl rfl rfl rfl rfl rfl rfl, ?_⟩
      rw [Net.share, if_pos hv, laidN_eq]; exact ⟨_, rfl, .tuple _ _ (frz3_cons (.agg _ _ (frz2_cons (frz_whole rfl rfl (by first | rfl | (simp; done) | (simp [regsS_length]; done)) (clo_map (fun _ => rfl))) (frz2_cons (frz_whole rfl rfl (by first | rfl | (simp; done) | (simp [regsS_length]; done)) (clo_map (fun _ => rfl))) (frz2_cons (frz_whole rfl rfl (by first | rfl | (simp; done) | (simp [regsS_length]; done)) (clo_map (fun _ => rfl))) (frz2_cons (frz_whole rfl rfl (by first | rfl | (simp; done) | (simp [regsS_length]; done)) (clo_map (fun _ => rfl))) frz2_nil))))) (frz3_cons (.leaf _ _ (.same _)) frz3_nil))⟩
theorem r_share (n : Net) (hn : n.Small) : ACp Try.prog 49 [encN n] (.tuple [encN n.share.1, .v (.int .i64 (n.share.2))]) :=
  acp_of rfl (ac_frz (fun _ => false) (q_rshare n hn) (by rintro r σ1 ⟨a, rfl, hf⟩; exact ⟨a, _, rfl, hf, rfl, keep_no _⟩))
end Go.Proofs.Ytbpamlphacpkeaa
