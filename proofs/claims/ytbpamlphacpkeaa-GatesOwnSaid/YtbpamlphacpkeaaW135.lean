/- Printed walks (gen.py, gates_ann.py): part 135. -/
import Derived.Test.YtbpamlphacpkeaaW133
import Derived.Test.YtbpamlphacpkeaaW114
import Derived.Test.YtbpamlphacpkeaaEngT
import Derived.Test.YtbpamlphacpkeaaFacts
set_option linter.unusedVariables false
set_option linter.unusedSimpArgs false
set_option maxRecDepth 20000
set_option maxHeartbeats 40000000
namespace Go.Proofs.Ytbpamlphacpkeaa
open Go

def spoiltS : ByteArray := ByteArray.mk #[115, 112, 111, 105, 108, 116]
def zeroR : ByteArray × Int × Int := (ByteArray.mk #[], 0, 0)
def zeroP : ByteArray × Int := (ByteArray.mk #[], 0)
theorem q_spoil (vi vr vg vo : Nat) (ins : List ByteArray) (regs : List (ByteArray × Int × Int)) (gates : List (Int × Int)) (outs : List (ByteArray × Int)) (z1 : ins.length ≤ 140737488355328) (z2 : regs.length ≤ 140737488355328) (z3 : gates.length ≤ 140737488355328) (z4 : outs.length ≤ 140737488355328) : AC Try.prog 53 [.agg [.slice 0 vi 0 ins.length, .slice 1 vr 0 regs.length, .slice 2 vg 0 gates.length, .slice 3 vo 0 outs.length]] ([(0, vi, .row 1 (ins.map encS)), (1, vr, .row 3 (regs.map encR)), (2, vg, .row 2 (gates.map encG)), (3, vo, .row 2 (outs.map encP))]) (fun r σ' => r = .ret (.tuple []) ∧ ∃ (l1 : List ByteArray) (l2 : List (ByteArray × Int × Int)) (l3 : List (Int × Int)) (l4 : List (ByteArray × Int)), σ'.keep (fun i => decide (i ≤ 3)) = [(0, vi, .row 1 (l1.map encS)), (1, vr, .row 3 (l2.map encR)), (2, vg, .row 2 (l3.map encG)), (3, vo, .row 2 (l4.map encP))]) := by
 refine ac_enter 53 Try.func53 rfl rfl (by simp) ?_
 refine aw_seq ?_
 refine aw_region ?_
 (refine al_opR (op_box 31 rfl rfl (by first | rfl | exact live_one rfl | (repeat (first | exact all_live_nil | refine all_live_clo rfl ?_ | refine all_live_slice rfl ?_ | refine all_live_map rfl ?_ | refine all_live_ptr rfl ?_)))) rfl (by simp) ?_; rintro _ _ ⟨ver1, rfl, rfl⟩)
 refine al_nil ?_
 refine aw_seq ?_
 refine aw_seq ?_
 refine aw_region ?_
 refine al_op (op_field_ptr Try.underlying27 rfl info22 (by decide) rfl rfl rfl) rfl (by simp) ?_
 refine al_op (op_load_ptr Try.underlying22 info22 rfl rfl rfl rfl) rfl (by simp) ?_
 refine al_op (op_len_slice Try.underlying22 rfl rfl) rfl (by simp) ?_
 refine al_op (op_move rfl) rfl (by simp) ?_
 refine al_nil ?_
 refine aw_block ?_
 refine aw_for2T (α := Nat) (β := List ByteArray) [9] [] (fun i l => ins.length - i) (fun i l => i ≤ ins.length ∧ l.length = ins.length) (fun i l => ([(9, .v (.int .i64 (i)))] : Env)) (fun i l st => st.put 0 vi (.row 1 (l.map encS))) (0) (ins) ?_ ?_ ?_ (fun i l hinv => ?_)
 ·exact ⟨Nat.zero_le _, rfl⟩
 ·refine sub_cons (get_as rfl ?_) ?_; rotate_left; exact sub_nil
  all_goals (first | rfl | simp)
 ·rfl
 obtain ⟨hi, hl0⟩ := hinv
 refine aw_seq ?_
 refine aw_region ?_
 refine al_op (op_lss rfl rfl) rfl (by simp) ?_
 refine al_nil ?_
 refine aw_seq ?_
 refine aw_cond rfl (fun h1 => ?_) (fun h1 => ?_)
 ·have gh1 := h1
  try simp only [nrm] at h1
  refine aw_skip ?_
  refine aw_seq ?_
  refine aw_block ?_
  refine aw_seq ?_
  refine aw_region ?_
  refine al_op (op_move rfl) rfl (by simp) ?_
  refine al_op (op_assign rfl) rfl (by simp) ?_
  refine al_nil ?_
  refine aw_region ?_
  refine al_op (op_field_ptr Try.underlying27 rfl info22 (by decide) rfl rfl rfl) rfl (by simp) ?_
  refine al_op (op_load_ptr Try.underlying22 info22 rfl rfl rfl rfl) rfl (by simp) ?_
  refine al_op (op_move rfl) rfl (by simp) ?_
  refine al_op (op_index_slice Try.underlying22 info9 rfl rfl rfl rfl (by omega) (by omega)) rfl (by simp) ?_
  refine al_op (op_store_map spoiltS info9 rfl rfl rfl (by omega) rfl rfl rfl (Nat.le_of_ble_eq_true rfl) rfl) rfl (by simp) ?_
  refine al_nil ?_
  refine aw_region ?_
  refine al_op (op_add rfl rfl (by first | exact wrap_i64 (by omega) (by omega))) rfl (by simp) ?_
  refine al_op (op_move rfl) rfl (by simp) ?_
  refine al_nil ?_
  refine ⟨i + 1, l.set (0 + (i : Int).toNat) spoiltS, ?_, ?_, ?_, ?_, ?_⟩
  ·omega
  ·exact ⟨by omega, by rw [List.length_set]; exact hl0⟩
  ·refine sub_cons (get_as rfl ?_) ?_; rotate_left; exact sub_nil
   all_goals (first | rfl | simp)
  ·repeat (first | exact subx_refl | exact subx_del | refine subx_put rfl ?_)
  ·rfl
 ·have gh1 := h1
  try simp only [nrm] at h1
  refine aw_exit ?_
  obtain rfl : i = ins.length := by omega
  refine aw_seq ?_
  refine aw_seq ?_
  refine aw_region ?_
  refine al_op (op_field_ptr Try.underlying27 rfl info23 (by decide) rfl rfl rfl) rfl (by simp) ?_
  refine al_op (op_load_ptr Try.underlying23 info23 rfl rfl rfl rfl) rfl (by simp) ?_
  refine al_op (op_len_slice Try.underlying23 rfl rfl) rfl (by simp) ?_
  refine al_op (op_move rfl) rfl (by simp) ?_
  refine al_nil ?_
  refine aw_block ?_
  refine aw_for2T (α := Nat) (β := List (ByteArray × Int × Int)) [20] [] (fun i l => regs.length - i) (fun i l => i ≤ regs.length ∧ l.length = regs.length) (fun i l => ([(20, .v (.int .i64 (i)))] : Env)) (fun i l st => st.put 1 vr (.row 3 (l.map encR))) (0) (regs) ?_ ?_ ?_ (fun i l hinv => ?_)
  ·exact ⟨Nat.zero_le _, rfl⟩
  ·refine sub_cons (get_as rfl ?_) ?_; rotate_left; exact sub_nil
   all_goals (first | rfl | simp)
  ·rfl
  obtain ⟨hi, hl1⟩ := hinv
  refine aw_seq ?_
  refine aw_region ?_
  refine al_op (op_lss rfl rfl) rfl (by simp) ?_
  refine al_nil ?_
  refine aw_seq ?_
  refine aw_cond rfl (fun h2 => ?_) (fun h2 => ?_)
  ·have gh2 := h2
   try simp only [nrm] at h2
   refine aw_skip ?_
   refine aw_seq ?_
   refine aw_block ?_
   refine aw_seq ?_
   refine aw_region ?_
   refine al_op (op_move rfl) rfl (by simp) ?_
   refine al_op (op_assign rfl) rfl (by simp) ?_
   refine al_nil ?_
   refine aw_region ?_
   refine al_op (op_field_ptr Try.underlying27 rfl info23 (by decide) rfl rfl rfl) rfl (by simp) ?_
   refine al_op (op_load_ptr Try.underlying23 info23 rfl rfl rfl rfl) rfl (by simp) ?_
   refine al_op (op_move rfl) rfl (by simp) ?_
   refine al_op (op_build_struct Try.underlying93 info93 rfl place93 rfl (by first | rfl | (repeat (first | exact parts_nil | refine parts_cons rfl (by repeat (first | exact all_live_nil | refine all_live_clo rfl ?_ | refine all_live_slice rfl ?_ | refine all_live_map rfl ?_ | refine all_live_ptr rfl ?_)) ?_))) rfl) rfl (by simp) ?_
   refine al_op (op_index_slice Try.underlying23 info93 rfl rfl rfl rfl (by omega) (by omega)) rfl (by simp) ?_
   refine al_op (op_store_map zeroR info93 rfl rfl rfl (by omega) rfl rfl rfl (Nat.le_of_ble_eq_true rfl) rfl) rfl (by simp) ?_
   refine al_nil ?_
   refine aw_region ?_
   refine al_op (op_add rfl rfl (by first | exact wrap_i64 (by omega) (by omega))) rfl (by simp) ?_
   refine al_op (op_move rfl) rfl (by simp) ?_
   refine al_nil ?_
   refine ⟨i + 1, l.set (0 + (i : Int).toNat) zeroR, ?_, ?_, ?_, ?_, ?_⟩
   ·omega
   ·exact ⟨by omega, by rw [List.length_set]; exact hl1⟩
   ·refine sub_cons (get_as rfl ?_) ?_; rotate_left; exact sub_nil
    all_goals (first | rfl | simp)
   ·repeat (first | exact subx_refl | exact subx_del | refine subx_put rfl ?_)
   ·rfl
  ·have gh2 := h2
   try simp only [nrm] at h2
   refine aw_exit ?_
   obtain rfl : i = regs.length := by omega
   refine aw_seq ?_
   refine aw_seq ?_
   refine aw_region ?_
   refine al_op (op_field_ptr Try.underlying27 rfl info24 (by decide) rfl rfl rfl) rfl (by simp) ?_
   refine al_op (op_load_ptr Try.underlying24 info24 rfl rfl rfl rfl) rfl (by simp) ?_
   refine al_op (op_len_slice Try.underlying24 rfl rfl) rfl (by simp) ?_
   refine al_op (op_move rfl) rfl (by simp) ?_
   refine al_nil ?_
   refine aw_block ?_
   refine aw_for2T (α := Nat) (β := List (Int × Int)) [32] [] (fun i l => gates.length - i) (fun i l => i ≤ gates.length ∧ l.length = gates.length) (fun i l => ([(32, .v (.int .i64 (i)))] : Env)) (fun i l st => st.put 2 vg (.row 2 (l.map encG))) (0) (gates) ?_ ?_ ?_ (fun i l hinv => ?_)
   ·exact ⟨Nat.zero_le _, rfl⟩
   ·refine sub_cons (get_as rfl ?_) ?_; rotate_left; exact sub_nil
    all_goals (first | rfl | simp)
   ·rfl
   obtain ⟨hi, hl2⟩ := hinv
   refine aw_seq ?_
   refine aw_region ?_
   refine al_op (op_lss rfl rfl) rfl (by simp) ?_
   refine al_nil ?_
   refine aw_seq ?_
   refine aw_cond rfl (fun h3 => ?_) (fun h3 => ?_)
   ·have gh3 := h3
    try simp only [nrm] at h3
    refine aw_skip ?_
    refine aw_seq ?_
    refine aw_block ?_
    refine aw_seq ?_
    refine aw_region ?_
    refine al_op (op_move rfl) rfl (by simp) ?_
    refine al_op (op_assign rfl) rfl (by simp) ?_
    refine al_nil ?_
    refine aw_region ?_
    refine al_op (op_field_ptr Try.underlying27 rfl info24 (by decide) rfl rfl rfl) rfl (by simp) ?_
    refine al_op (op_load_ptr Try.underlying24 info24 rfl rfl rfl rfl) rfl (by simp) ?_
    refine al_op (op_move rfl) rfl (by simp) ?_
    refine al_op (op_build_array Try.underlying86 info86 rfl info3 rfl (by first | rfl | (repeat (first | exact parts_nil | refine parts_cons rfl (by repeat (first | exact all_live_nil | refine all_live_clo rfl ?_ | refine all_live_slice rfl ?_ | refine all_live_map rfl ?_ | refine all_live_ptr rfl ?_)) ?_))) rfl) rfl (by simp) ?_
    refine al_op (op_index_slice Try.underlying24 info86 rfl rfl rfl rfl (by omega) (by omega)) rfl (by simp) ?_
    refine al_op (op_store_map (1, 1) info86 rfl rfl rfl (by omega) rfl rfl rfl (Nat.le_of_ble_eq_true rfl) rfl) rfl (by simp) ?_
    refine al_nil ?_
    refine aw_region ?_
    refine al_op (op_add rfl rfl (by first | exact wrap_i64 (by omega) (by omega))) rfl (by simp) ?_
    refine al_op (op_move rfl) rfl (by simp) ?_
    refine al_nil ?_
    refine ⟨i + 1, l.set (0 + (i : Int).toNat) (1, 1), ?_, ?_, ?_, ?_, ?_⟩
    ·omega
    ·exact ⟨by omega, by rw [List.length_set]; exact hl2⟩
    ·refine sub_cons (get_as rfl ?_) ?_; rotate_left; exact sub_nil
     all_goals (first | rfl | simp)
    ·repeat (first | exact subx_refl | exact subx_del | refine subx_put rfl ?_)
    ·rfl
   ·have gh3 := h3
    try simp only [nrm] at h3
    refine aw_exit ?_
    obtain rfl : i = gates.length := by omega
    refine aw_seq ?_
    refine aw_region ?_
    refine al_op (op_field_ptr Try.underlying27 rfl info25 (by decide) rfl rfl rfl) rfl (by simp) ?_
    refine al_op (op_load_ptr Try.underlying25 info25 rfl rfl rfl rfl) rfl (by simp) ?_
    refine al_op (op_len_slice Try.underlying25 rfl rfl) rfl (by simp) ?_
    refine al_op (op_move rfl) rfl (by simp) ?_
    refine al_nil ?_
    refine aw_block ?_
    refine aw_for2T (α := Nat) (β := List (ByteArray × Int)) [44] [] (fun i l => outs.length - i) (fun i l => i ≤ outs.length ∧ l.length = outs.length) (fun i l => ([(44, .v (.int .i64 (i)))] : Env)) (fun i l st => st.put 3 vo (.row 2 (l.map encP))) (0) (outs) ?_ ?_ ?_ (fun i l hinv => ?_)
    ·exact ⟨Nat.zero_le _, rfl⟩
    ·refine sub_cons (get_as rfl ?_) ?_; rotate_left; exact sub_nil
     all_goals (first | rfl | simp)
    ·rfl
    obtain ⟨hi, hl3⟩ := hinv
    refine aw_seq ?_
    refine aw_region ?_
    refine al_op (op_lss rfl rfl) rfl (by simp) ?_
    refine al_nil ?_
    refine aw_seq ?_
    refine aw_cond rfl (fun h4 => ?_) (fun h4 => ?_)
    ·have gh4 := h4
     try simp only [nrm] at h4
     refine aw_skip ?_
     refine aw_seq ?_
     refine aw_block ?_
     refine aw_seq ?_
     refine aw_region ?_
     refine al_op (op_move rfl) rfl (by simp) ?_
     refine al_op (op_assign rfl) rfl (by simp) ?_
     refine al_nil ?_
     refine aw_region ?_
     refine al_op (op_field_ptr Try.underlying27 rfl info25 (by decide) rfl rfl rfl) rfl (by simp) ?_
     refine al_op (op_load_ptr Try.underlying25 info25 rfl rfl rfl rfl) rfl (by simp) ?_
     refine al_op (op_move rfl) rfl (by simp) ?_
     refine al_op (op_build_struct Try.underlying69 info69 rfl place69 rfl (by first | rfl | (repeat (first | exact parts_nil | refine parts_cons rfl (by repeat (first | exact all_live_nil | refine all_live_clo rfl ?_ | refine all_live_slice rfl ?_ | refine all_live_map rfl ?_ | refine all_live_ptr rfl ?_)) ?_))) rfl) rfl (by simp) ?_
     refine al_op (op_index_slice Try.underlying25 info69 rfl rfl rfl rfl (by omega) (by omega)) rfl (by simp) ?_
     refine al_op (op_store_map zeroP info69 rfl rfl rfl (by omega) rfl rfl rfl (Nat.le_of_ble_eq_true rfl) rfl) rfl (by simp) ?_
     refine al_nil ?_
     refine aw_region ?_
     refine al_op (op_add rfl rfl (by first | exact wrap_i64 (by omega) (by omega))) rfl (by simp) ?_
     refine al_op (op_move rfl) rfl (by simp) ?_
     refine al_nil ?_
     refine ⟨i + 1, l.set (0 + (i : Int).toNat) zeroP, ?_, ?_, ?_, ?_, ?_⟩
     ·omega
     ·exact ⟨by omega, by rw [List.length_set]; exact hl3⟩
     ·refine sub_cons (get_as rfl ?_) ?_; rotate_left; exact sub_nil
      all_goals (first | rfl | simp)
     ·repeat (first | exact subx_refl | exact subx_del | refine subx_put rfl ?_)
     ·rfl
    ·have gh4 := h4
     try simp only [nrm] at h4
     refine aw_exit ?_
     obtain rfl : i = outs.length := by omega
     refine ⟨_, res_0 rfl, ?_⟩
     exact ⟨rfl, _, _, _, _, rfl⟩
theorem spoil_at {σ : Store} (i r g o : Nat) (vi vr vg vo : Nat) (ins : List ByteArray) (regs : List (ByteArray × Int × Int)) (gates : List (Int × Int)) (outs : List (ByteArray × Int)) (z1 : ins.length ≤ 140737488355328) (z2 : regs.length ≤ 140737488355328) (z3 : gates.length ≤ 140737488355328) (z4 : outs.length ≤ 140737488355328) (ht : tabOK [i, r, g, o] = true) (hb : σ.below 1000 = true) (h1 : σ.get i = some (vi, .row 1 (ins.map encS))) (h2 : σ.get r = some (vr, .row 3 (regs.map encR))) (h3 : σ.get g = some (vg, .row 2 (gates.map encG))) (h4 : σ.get o = some (vo, .row 2 (outs.map encP))) :
    AC Try.prog 53 [.agg [.slice i vi 0 ins.length, .slice r vr 0 regs.length, .slice g vg 0 gates.length, .slice o vo 0 outs.length]] σ (fun x σ' => ∃ (l1 : List ByteArray) (l2 : List (ByteArray × Int × Int)) (l3 : List (Int × Int)) (l4 : List (ByteArray × Int)), x = .ret (.tuple []) ∧ σ' = (((σ.put o vo (.row 2 (l4.map encP))).put g vg (.row 2 (l3.map encG))).put r vr (.row 3 (l2.map encR))).put i vi (.row 1 (l1.map encS))) := by
  have e1 : ∀ l : List ByteArray, (AObj.row 1 (l.map encS)).rn (tab [i, r, g, o]) = .row 1 (l.map encS) := fun l => by show AObj.row 1 _ = _; rw [rn_rows (fun _ => rfl)]
  have e2 : ∀ l : List (Int × Int), (AObj.row 2 (l.map encG)).rn (tab [i, r, g, o]) = .row 2 (l.map encG) := fun l => by show AObj.row 2 _ = _; rw [rn_rows (fun _ => rfl)]
  have e3 : ∀ l : List (ByteArray × Int × Int), (AObj.row 3 (l.map encR)).rn (tab [i, r, g, o]) = .row 3 (l.map encR) := fun l => by show AObj.row 3 _ = _; rw [rn_rows (fun _ => rfl)]
  have e4 : ∀ l : List (ByteArray × Int), (AObj.row 2 (l.map encP)).rn (tab [i, r, g, o]) = .row 2 (l.map encP) := fun l => by show AObj.row 2 _ = _; rw [rn_rows (fun _ => rfl)]
  have hm : Store.match (tab [i, r, g, o]) σ [(0, vi, .row 1 (ins.map encS)), (1, vr, .row 3 (regs.map encR)), (2, vg, .row 2 (gates.map encG)), (3, vo, .row 2 (outs.map encP))] := ⟨by rw [e1]; exact h1, by rw [e3]; exact h2, by rw [e2]; exact h3, by rw [e4]; exact h4, trivial⟩
  have hf : Store.free [i, r, g, o] [(0, vi, .row 1 (ins.map encS)), (1, vr, .row 3 (regs.map encR)), (2, vg, .row 2 (gates.map encG)), (3, vo, .row 2 (outs.map encP))] σ = true := by simp [Store.free, Store.get, List.range_succ]
  have := ac_at [i, r, g, o] ht (ac_keep (fun i => decide (i ≤ 3)) (q_spoil vi vr vg vo ins regs gates outs z1 z2 z3 z4)) hm hf hb (by
    rintro x σ' ⟨σ2, ⟨_, _, _, _, _, e⟩, rfl⟩ j h
    rw [e] at h
    simp only [Store.get] at h ⊢
    revert h
    cases Nat.beq 0 j <;> cases Nat.beq 1 j <;> cases Nat.beq 2 j <;> cases Nat.beq 3 j <;> simp)
  refine ac_mono this ?_
  rintro x σ' ⟨_, _, ⟨σ2, ⟨rfl, l1, l2, l3, l4, e⟩, rfl⟩, rfl, rfl⟩
  refine ⟨l1, l2, l3, l4, rfl, ?_⟩
  rw [e]
  simp only [Store.putAll, e1, e2, e3, e4]
  rfl

theorem q_own_all (n : Net) (z1 : n.ins.length * 16 ≤ 140737488355328) (z2 : n.regs.length * 32 ≤ 140737488355328) (z3 : n.gates.length * 16 ≤ 140737488355328) (z4 : n.outs.length * 24 ≤ 140737488355328) : AC Try.prog 52 [encN n] ([]) (fun r σ' => ∃ vi vr vg vo a, r = .ret a ∧ a = (.agg [.slice 0 vi 0 n.ins.length, .slice 1 vr 0 n.regs.length, .slice 2 vg 0 n.gates.length, .slice 3 vo 0 n.outs.length]) ∧ NewT σ' a (encN n) ∧ FrzT σ' (fun _ => false) a (encN n) ∧ σ'.keep (fun i => decide (i ≤ 3)) = [(0, vi, .row 1 (n.ins.map encS)), (1, vr, .row 3 (n.regs.map encR)), (2, vg, .row 2 (n.gates.map encG)), (3, vo, .row 2 (n.outs.map encP))]) := by
 refine ac_enter 20 Try.func52 rfl rfl (by simp) ?_
 refine aw_seq ?_
 refine aw_region ?_
 (refine al_opR (op_box 31 rfl rfl (by first | rfl | exact live_one rfl | (repeat (first | exact all_live_nil | refine all_live_clo rfl ?_ | refine all_live_slice rfl ?_ | refine all_live_map rfl ?_ | refine all_live_ptr rfl ?_)))) rfl (by simp) ?_; rintro _ _ ⟨ver1, rfl, rfl⟩)
 (refine al_opR (op_alloc 32 info27 rfl rfl) rfl (by simp) ?_; rintro _ _ ⟨ver2, rfl, rfl⟩)
 refine al_nil ?_
 refine aw_seq ?_
 refine aw_plan [0, 1, 2, 4, 5, 6, 8, 9, 10, 12, 13, 14, 3, 7, 11, 15, 16, 17] (Checked.mixed Try.checked) (by kernel_rfl) ?_
 refine afl_float rfl rfl (opk_of (op_build_nil Try.underlying22 info9 rfl rfl (by decide) rfl)) (by simp) ?_
 refine afl_float rfl rfl (opk_of (op_field_ptr Try.underlying27 rfl info22 (by decide) rfl rfl rfl)) (by simp) ?_
 refine afl_float rfl rfl (opk_of (op_load_ptr Try.underlying22 info22 rfl rfl rfl rfl)) (by simp) ?_
 refine afl_float rfl rfl (opk_of (op_build_nil Try.underlying23 info93 rfl rfl (by decide) rfl)) (by simp) ?_
 refine afl_float rfl rfl (opk_of (op_field_ptr Try.underlying27 rfl info23 (by decide) rfl rfl rfl)) (by simp) ?_
 refine afl_float rfl rfl (opk_of (op_load_ptr Try.underlying23 info23 rfl rfl rfl rfl)) (by simp) ?_
 refine afl_float rfl rfl (opk_of (op_build_nil Try.underlying24 info86 rfl rfl (by decide) rfl)) (by simp) ?_
 refine afl_float rfl rfl (opk_of (op_field_ptr Try.underlying27 rfl info24 (by decide) rfl rfl rfl)) (by simp) ?_
 refine afl_float rfl rfl (opk_of (op_load_ptr Try.underlying24 info24 rfl rfl rfl rfl)) (by simp) ?_
 refine afl_float rfl rfl (opk_of (op_build_nil Try.underlying25 info69 rfl rfl (by decide) rfl)) (by simp) ?_
 refine afl_float rfl rfl (opk_of (op_field_ptr Try.underlying27 rfl info25 (by decide) rfl rfl rfl)) (by simp) ?_
 refine afl_float rfl rfl (opk_of (op_load_ptr Try.underlying25 info25 rfl rfl rfl rfl)) (by simp) ?_
 (refine afl_effR rfl rfl (by kernel_rfl) (op_append_new 0 Try.underlying22 Try.underlying22 rfl info9 rfl rfl (by decide) rfl rfl rfl (by first | exact .list _ | exact .vnil | exact .nil | exact .row _ _ _ _ rfl (by first | rfl | simp)) rfl (by first | omega | (simp; done) | (simp; omega)) (by show _ * 16 ≤ _; first | omega | (simp; done) | (simp; omega))) (by simp) ?_; rintro _ _ ⟨ver6, rfl, rfl⟩; refine ⟨?_, ?_⟩)
 ·
  refine loose_k rfl (opk_of (op_load_ptr Try.underlying25 info25 rfl rfl rfl rfl)) ?_
  refine loose_k rfl (opk_of (op_field_ptr Try.underlying27 rfl info25 (by decide) rfl rfl rfl)) ?_
  refine loose_k rfl (opk_of (op_build_nil Try.underlying25 info69 rfl rfl (by decide) rfl)) ?_
  refine loose_k rfl (opk_of (op_load_ptr Try.underlying24 info24 rfl rfl rfl rfl)) ?_
  refine loose_k rfl (opk_of (op_field_ptr Try.underlying27 rfl info24 (by decide) rfl rfl rfl)) ?_
  refine loose_k rfl (opk_of (op_build_nil Try.underlying24 info86 rfl rfl (by decide) rfl)) ?_
  refine loose_k rfl (opk_of (op_load_ptr Try.underlying23 info23 rfl rfl rfl rfl)) ?_
  refine loose_k rfl (opk_of (op_field_ptr Try.underlying27 rfl info23 (by decide) rfl rfl rfl)) ?_
  refine loose_k rfl (opk_of (op_build_nil Try.underlying23 info93 rfl rfl (by decide) rfl)) ?_
  refine loose_anc 2 rfl (by kernel_rfl) ?_
  refine loose_anc 1 rfl (by kernel_rfl) ?_
  refine loose_anc 0 rfl (by kernel_rfl) ?_
  exact loose_nil
 (refine afl_effR rfl rfl (by kernel_rfl) (op_append_new 1 Try.underlying23 Try.underlying23 rfl info93 rfl rfl (by decide) rfl rfl rfl (by first | exact .list _ | exact .vnil | exact .nil | exact .row _ _ _ _ rfl (by first | rfl | simp)) rfl (by first | omega | (simp; done) | (simp; omega)) (by show _ * 32 ≤ _; first | omega | (simp; done) | (simp; omega))) (by simp) ?_; rintro _ _ ⟨ver10, rfl, rfl⟩; refine ⟨?_, ?_⟩)
 ·
  refine loose_fix rfl ?_
  refine loose_k rfl (opk_of (op_load_ptr Try.underlying25 info25 rfl rfl rfl rfl)) ?_
  refine loose_k rfl (opk_of (op_field_ptr Try.underlying27 rfl info25 (by decide) rfl rfl rfl)) ?_
  refine loose_k rfl (opk_of (op_build_nil Try.underlying25 info69 rfl rfl (by decide) rfl)) ?_
  refine loose_k rfl (opk_of (op_load_ptr Try.underlying24 info24 rfl rfl rfl rfl)) ?_
  refine loose_k rfl (opk_of (op_field_ptr Try.underlying27 rfl info24 (by decide) rfl rfl rfl)) ?_
  refine loose_k rfl (opk_of (op_build_nil Try.underlying24 info86 rfl rfl (by decide) rfl)) ?_
  refine loose_anc 6 rfl (by kernel_rfl) ?_
  refine loose_anc 5 rfl (by kernel_rfl) ?_
  refine loose_anc 4 rfl (by kernel_rfl) ?_
  refine loose_anc 2 rfl (by kernel_rfl) ?_
  refine loose_anc 1 rfl (by kernel_rfl) ?_
  refine loose_anc 0 rfl (by kernel_rfl) ?_
  exact loose_nil
 (refine afl_effR rfl rfl (by kernel_rfl) (op_append_new 2 Try.underlying24 Try.underlying24 rfl info86 rfl rfl (by decide) rfl rfl rfl (by first | exact .list _ | exact .vnil | exact .nil | exact .row _ _ _ _ rfl (by first | rfl | simp)) rfl (by first | omega | (simp; done) | (simp; omega)) (by show _ * 16 ≤ _; first | omega | (simp; done) | (simp; omega))) (by simp) ?_; rintro _ _ ⟨ver14, rfl, rfl⟩; refine ⟨?_, ?_⟩)
 ·
  refine loose_fix rfl ?_
  refine loose_fix rfl ?_
  refine loose_k rfl (opk_of (op_load_ptr Try.underlying25 info25 rfl rfl rfl rfl)) ?_
  refine loose_k rfl (opk_of (op_field_ptr Try.underlying27 rfl info25 (by decide) rfl rfl rfl)) ?_
  refine loose_k rfl (opk_of (op_build_nil Try.underlying25 info69 rfl rfl (by decide) rfl)) ?_
  refine loose_anc 10 rfl (by kernel_rfl) ?_
  refine loose_anc 9 rfl (by kernel_rfl) ?_
  refine loose_anc 8 rfl (by kernel_rfl) ?_
  refine loose_anc 6 rfl (by kernel_rfl) ?_
  refine loose_anc 5 rfl (by kernel_rfl) ?_
  refine loose_anc 4 rfl (by kernel_rfl) ?_
  refine loose_anc 2 rfl (by kernel_rfl) ?_
  refine loose_anc 1 rfl (by kernel_rfl) ?_
  refine loose_anc 0 rfl (by kernel_rfl) ?_
  exact loose_nil
 (refine afl_effR rfl rfl (by kernel_rfl) (op_append_new 3 Try.underlying25 Try.underlying25 rfl info69 rfl rfl (by decide) rfl rfl rfl (by first | exact .list _ | exact .vnil | exact .nil | exact .row _ _ _ _ rfl (by first | rfl | simp)) rfl (by first | omega | (simp; done) | (simp; omega)) (by show _ * 24 ≤ _; first | omega | (simp; done) | (simp; omega))) (by simp) ?_; rintro _ _ ⟨ver18, rfl, rfl⟩; refine ⟨?_, ?_⟩)
 ·
  refine loose_fix rfl ?_
  refine loose_fix rfl ?_
  refine loose_fix rfl ?_
  refine loose_anc 14 rfl (by kernel_rfl) ?_
  refine loose_anc 13 rfl (by kernel_rfl) ?_
  refine loose_anc 12 rfl (by kernel_rfl) ?_
  refine loose_anc 10 rfl (by kernel_rfl) ?_
  refine loose_anc 9 rfl (by kernel_rfl) ?_
  refine loose_anc 8 rfl (by kernel_rfl) ?_
  refine loose_anc 6 rfl (by kernel_rfl) ?_
  refine loose_anc 5 rfl (by kernel_rfl) ?_
  refine loose_anc 4 rfl (by kernel_rfl) ?_
  refine loose_anc 2 rfl (by kernel_rfl) ?_
  refine loose_anc 1 rfl (by kernel_rfl) ?_
  refine loose_anc 0 rfl (by kernel_rfl) ?_
  exact loose_nil
 refine afl_float rfl rfl (opk_of (op_build_struct Try.underlying27 info27 rfl place27 rfl (by first | rfl | (repeat (first | exact parts_nil | refine parts_cons rfl (by repeat (first | exact all_live_nil | refine all_live_clo rfl ?_ | refine all_live_slice rfl ?_ | refine all_live_map rfl ?_ | refine all_live_ptr rfl ?_)) ?_))) rfl)) (by simp) ?_
 (refine afl_eff rfl rfl (by kernel_rfl) (op_store_ptr info27 rfl rfl rfl rfl rfl rfl (by first | rfl | exact live_one rfl | (repeat (first | exact all_live_nil | refine all_live_clo rfl ?_ | refine all_live_slice rfl ?_ | refine all_live_map rfl ?_ | refine all_live_ptr rfl ?_))) (Nat.le_of_ble_eq_true rfl)) (by simp) ?_ ?_)
 ·
  refine loose_anc 16 rfl (by kernel_rfl) ?_
  refine loose_fix rfl ?_
  refine loose_fix rfl ?_
  refine loose_fix rfl ?_
  refine loose_fix rfl ?_
  refine loose_anc 14 rfl (by kernel_rfl) ?_
  refine loose_anc 13 rfl (by kernel_rfl) ?_
  refine loose_anc 12 rfl (by kernel_rfl) ?_
  refine loose_anc 10 rfl (by kernel_rfl) ?_
  refine loose_anc 9 rfl (by kernel_rfl) ?_
  refine loose_anc 8 rfl (by kernel_rfl) ?_
  refine loose_anc 6 rfl (by kernel_rfl) ?_
  refine loose_anc 5 rfl (by kernel_rfl) ?_
  refine loose_anc 4 rfl (by kernel_rfl) ?_
  refine loose_anc 2 rfl (by kernel_rfl) ?_
  refine loose_anc 1 rfl (by kernel_rfl) ?_
  refine loose_anc 0 rfl (by kernel_rfl) ?_
  exact loose_nil
 refine afl_end ?_
 refine aw_ret ?_
 refine ⟨_, res_cell rfl Try.underlying27 info27 rfl rfl rfl rfl, ?_⟩
 exact ⟨_, _, _, _, _, rfl, rfl, .one _ _ (.agg _ _ (new2_cons (new_map rfl rfl (fun _ => rfl)) (new2_cons (new_map rfl rfl (fun _ => rfl)) (new2_cons (new_map rfl rfl (fun _ => rfl)) (new2_cons (new_map rfl rfl (fun _ => rfl)) new2_nil))))), .one _ _ (.agg _ _ (frz2_cons (frz_whole rfl rfl (by simp) (clo_map (fun _ => rfl))) (frz2_cons (frz_whole rfl rfl (by simp) (clo_map (fun _ => rfl))) (frz2_cons (frz_whole rfl rfl (by simp) (clo_map (fun _ => rfl))) (frz2_cons (frz_whole rfl rfl (by simp) (clo_map (fun _ => rfl))) frz2_nil))))), rfl⟩
theorem own_all {σ : Store} (i r g o : Nat) (n : Net) (z1 : n.ins.length * 16 ≤ 140737488355328) (z2 : n.regs.length * 32 ≤ 140737488355328) (z3 : n.gates.length * 16 ≤ 140737488355328) (z4 : n.outs.length * 24 ≤ 140737488355328) (ht : tabOK [i, r, g, o] = true) (hb : σ.below 1000 = true) (hf : Store.free [i, r, g, o] [] σ = true) : AC Try.prog 52 [encN n] σ (fun x σ' => ∃ vi vr vg vo, x = .ret (.agg [.slice i vi 0 n.ins.length, .slice r vr 0 n.regs.length, .slice g vg 0 n.gates.length, .slice o vo 0 n.outs.length]) ∧ σ' = (((σ.put o vo (.row 2 (n.outs.map encP))).put g vg (.row 2 (n.gates.map encG))).put r vr (.row 3 (n.regs.map encR))).put i vi (.row 1 (n.ins.map encS))) := by
  have hc : AC Try.prog 52 [encN n] [] (fun x σ' => ∃ vi vr vg vo, x = .ret (.agg [.slice 0 vi 0 n.ins.length, .slice 1 vr 0 n.regs.length, .slice 2 vg 0 n.gates.length, .slice 3 vo 0 n.outs.length]) ∧ σ' = [(0, vi, .row 1 (n.ins.map encS)), (1, vr, .row 3 (n.regs.map encR)), (2, vg, .row 2 (n.gates.map encG)), (3, vo, .row 2 (n.outs.map encP))]) := ac_mono (ac_keep (fun i => decide (i ≤ 3)) (q_own_all n z1 z2 z3 z4)) (by rintro r σ1 ⟨σ2, ⟨vi, vr, vg, vo, a, rfl, rfl, _, _, hk⟩, rfl⟩; exact ⟨vi, vr, vg, vo, rfl, hk⟩)
  have := ac_at (σ := σ) [i, r, g, o] ht hc trivial hf hb (by rintro r σ' _ j _; rfl)
  refine ac_mono this ?_
  rintro x σ' ⟨_, _, ⟨vi, vr, vg, vo, rfl, rfl⟩, rfl, rfl⟩
  refine ⟨vi, vr, vg, vo, rfl, ?_⟩
  have e1 : (AObj.row 1 (n.ins.map encS)).rn (tab [i, r, g, o]) = .row 1 (n.ins.map encS) := by show AObj.row 1 _ = _; rw [rn_rows (fun _ => rfl)]
  have e2 : (AObj.row 2 (n.gates.map encG)).rn (tab [i, r, g, o]) = .row 2 (n.gates.map encG) := by show AObj.row 2 _ = _; rw [rn_rows (fun _ => rfl)]
  have e3 : (AObj.row 3 (n.regs.map encR)).rn (tab [i, r, g, o]) = .row 3 (n.regs.map encR) := by show AObj.row 3 _ = _; rw [rn_rows (fun _ => rfl)]
  have e4 : (AObj.row 2 (n.outs.map encP)).rn (tab [i, r, g, o]) = .row 2 (n.outs.map encP) := by show AObj.row 2 _ = _; rw [rn_rows (fun _ => rfl)]
  simp only [Store.putAll, e1, e2, e3, e4]
  rfl
theorem r_own_new (n : Net) (z1 : n.ins.length * 16 ≤ 140737488355328) (z2 : n.regs.length * 32 ≤ 140737488355328) (z3 : n.gates.length * 16 ≤ 140737488355328) (z4 : n.outs.length * 24 ≤ 140737488355328) : AC Try.prog 52 [encN n] [] (fun r σ' => ∃ a, r = .ret a ∧ NewT σ' a (encN n)) :=
  ac_mono (q_own_all n z1 z2 z3 z4) (by rintro r σ1 ⟨_, _, _, _, a, rfl, rfl, hn, hf, _⟩; exact ⟨_, rfl, hn⟩)
theorem own_pure (n : Net) (z1 : n.ins.length * 16 ≤ 140737488355328) (z2 : n.regs.length * 32 ≤ 140737488355328) (z3 : n.gates.length * 16 ≤ 140737488355328) (z4 : n.outs.length * 24 ≤ 140737488355328) : ACp Try.prog 52 [encN n] (encN n) :=
  acp_of rfl (ac_frz (fun _ => false) (q_own_all n z1 z2 z3 z4) (by rintro r σ1 ⟨_, _, _, _, a, rfl, _, _, hf, _⟩; exact ⟨a, _, rfl, hf, rfl, keep_no _⟩))
end Go.Proofs.Ytbpamlphacpkeaa
