/- Printed walks (gen.py, gates_ann.py): part 07. -/
import Derived.Test.YtbpamlphacpkeaaW06
import Derived.Test.YtbpamlphacpkeaaFacts
set_option linter.unusedVariables false
set_option linter.unusedSimpArgs false
set_option maxRecDepth 20000
namespace Go.Proofs.Ytbpamlphacpkeaa
open Go

theorem c_eval (n : Net) (hn : n.Small) (ins regs : List Int) (hi1 : ins.length ≤ 140737488355328) (hr1 : regs.length ≤ 140737488355328) (hi2 : ∀ x ∈ ins, 0 ≤ x ∧ x ≤ 255) (hr2 : ∀ x ∈ regs, 0 ≤ x ∧ x ≤ 255) : ACp Try.prog 16 [encN n, .list 1 (ins.map encB), .list 1 (regs.map encB)] (.tuple [.list 1 ((n.eval ins regs).1.map encB), .list 1 ((n.eval ins regs).2.1.map encB), .v (.int .i64 ((n.eval ins regs).2.2))]) := by
  refine acp_of rfl ?_
  refine ac_enter 56 Try.func16 rfl rfl (by simp) ?_
  refine aw_seq ?_
  refine aw_region ?_
  (refine al_opR (op_box 3 rfl rfl (by first | rfl | exact live_one rfl | (repeat (first | exact all_live_nil | refine all_live_clo rfl ?_ | refine all_live_slice rfl ?_ | refine all_live_map rfl ?_ | refine all_live_ptr rfl ?_)))) rfl (by simp) ?_; rintro _ _ ⟨ver3, rfl, rfl⟩)
  refine al_op (op_assign rfl) rfl (by simp) ?_
  refine al_op (op_assign rfl) rfl (by simp) ?_
  refine al_op (op_assign rfl) rfl (by simp) ?_
  refine al_nil ?_
  refine aw_seq ?_
  refine aw_region ?_
  first
    | refine al_op (op_load_rptr Try.underlying27 info27 rfl rfl) rfl (by simp) ?_
    | refine al_op (op_load_map Try.underlying27 info27 rfl rfl (by omega) rfl) rfl (by simp) ?_
    | refine al_op (op_load_ptr Try.underlying27 info27 rfl rfl rfl rfl) rfl (by simp) ?_
  refine al_op (op_move rfl) rfl (by simp) ?_
  refine al_op (op_move rfl) rfl (by simp) ?_
  first
    | refine al_callp into18 rfl rfl rfl ((c_all _ (by assumption) _ _ (by assumption) (by assumption) (by assumption) (by assumption)) _) (by simp) ?_
    | refine al_callp into18 rfl rfl rfl (ac_told (re_cons (by first | exact .leaf _ _ (.same _) | exact .leaf _ _ (.vnil _) | exact .leaf _ _ (.nil _)) (re_cons (by first | exact .leaf _ _ (.same _) | exact .leaf _ _ (.vnil _) | exact .leaf _ _ (.nil _)) (re_cons (by first | exact .leaf _ _ (.same _) | exact .leaf _ _ (.vnil _) | exact .leaf _ _ (.nil _)) re_nil))) ((c_all _ (by assumption) _ _ (by assumption) (by assumption) (by assumption) (by assumption)) _)) (by simp) ?_
  refine al_op (op_move rfl) rfl (by simp) ?_
  refine al_op (op_extract rfl rfl rfl) rfl (by simp) ?_
  refine al_op (op_extract rfl rfl rfl) rfl (by simp) ?_
  refine al_op (op_assign rfl) rfl (by simp) ?_
  refine al_op (op_assign rfl) rfl (by simp) ?_
  refine al_nil ?_
  refine aw_seq ?_
  refine aw_seq ?_
  refine aw_region ?_
  refine al_op (op_move rfl) rfl (by simp) ?_
  refine al_op (op_neq rfl rfl) rfl (by simp) ?_
  refine al_nil ?_
  refine aw_cond rfl (fun h1 => ?_) (fun h1 => ?_)
  · have gh1 := h1
    try simp only [decide_eq_true_eq, decide_eq_false_iff_not, Bool.not_eq_true', Bool.not_eq_false', beq_iff_eq, bne_iff_ne, beq_eq_false_iff_ne, bne_eq_false_iff_eq, Bool.or_eq_true, Bool.and_eq_true, Bool.or_eq_false_iff, gt_iff_lt, ge_iff_le] at h1
    have hb : n.bad ins regs = true := by
      cases e : n.bad ins regs with
      | true => rfl
      | false => exact absurd (Net.all_err.2 e) (by simpa using h1)
    have he : (n.all ins regs).2 = 2 := by rw [Net.all_bad hb]
    refine aw_seq ?_
    refine aw_region ?_
    refine al_op (op_move rfl) rfl (by simp) ?_
    refine al_op (op_assign rfl) rfl (by simp) ?_
    refine al_op (op_assign rfl) rfl (by simp) ?_
    refine al_op (op_assign rfl) rfl (by simp) ?_
    refine al_nil ?_
    refine aw_freeze (fun _ => false) (fsub_cons (t := 6) rfl (by first | exact .leaf _ _ (frz_whole rfl rfl (by first | rfl | (simp; done) | (simp; omega)) (clo_map (fun _ => rfl))) | exact .leaf _ _ (.vnil 1) | exact .leaf _ _ (.nil 1) | exact .leaf _ _ (.same _)) (fsub_cons (t := 7) rfl (by first | exact .leaf _ _ (frz_whole rfl rfl (by first | rfl | (simp; done) | (simp; omega)) (clo_map (fun _ => rfl))) | exact .leaf _ _ (.vnil 1) | exact .leaf _ _ (.nil 1) | exact .leaf _ _ (.same _)) (fsub_cons (t := 8) rfl (.leaf _ _ (.same _)) fsub_nil))) ?_
    refine aw_ret ?_
    refine ⟨_, res_3 rfl rfl rfl rfl rfl rfl rfl, ?_, rfl⟩
    rw [Net.eval_bad hb, he]; rfl
  · have gh1 := h1
    try simp only [decide_eq_true_eq, decide_eq_false_iff_not, Bool.not_eq_true', Bool.not_eq_false', beq_iff_eq, bne_iff_ne, beq_eq_false_iff_ne, bne_eq_false_iff_eq, Bool.or_eq_true, Bool.and_eq_true, Bool.or_eq_false_iff, gt_iff_lt, ge_iff_le] at h1
    have hb : n.bad ins regs = false := Net.all_err.1 (by simpa using h1)
    have he : (n.all ins regs).1 = n.valsTo ins regs n.gates.length := by rw [Net.all_ok hb]
    obtain ⟨hv, el1, el2⟩ := Net.not_bad hb
    obtain ⟨f1, f2, f3, f4, f5, f6, f7⟩ := Net.valid_facts hv
    have hlen := n.valsTo_length ins regs n.gates.length
    have hrg := n.valsTo_range hi2 hr2 n.gates.length
    rw [← he] at hlen hrg
    refine aw_skip ?_
    refine aw_seq ?_
    refine aw_seq ?_
    refine aw_region ?_
    first
      | refine al_op (op_field_rptr Try.underlying27 rfl info25 (by decide) rfl rfl) rfl (by simp) ?_
      | refine al_op (op_field_ptr Try.underlying27 rfl info25 (by decide) rfl rfl rfl) rfl (by simp) ?_
    first
      | refine al_op (op_load_rptr Try.underlying25 info25 rfl rfl) rfl (by simp) ?_
      | refine al_op (op_load_map Try.underlying25 info25 rfl rfl (by omega) rfl) rfl (by simp) ?_
      | refine al_op (op_load_ptr Try.underlying25 info25 rfl rfl rfl rfl) rfl (by simp) ?_
    first
      | refine al_op (op_len_map Try.underlying25 rfl) rfl (by simp) ?_
      | refine al_op (op_len_slice Try.underlying25 rfl rfl) rfl (by simp) ?_
      | refine al_op (op_len_list Try.underlying25 rfl) rfl (by simp) ?_
      | refine al_op (op_len_v Try.underlying25 rfl) rfl (by simp) ?_
      | refine al_op (op_len_nil Try.underlying25 rfl) rfl (by simp) ?_
    refine al_op (op_move rfl) rfl (by simp) ?_
    refine al_nil ?_
    refine aw_block ?_
    refine aw_own_map encB 6 1 6 rfl rfl (fun ver6 => ?_)
    refine aw_for2T (α := Nat) (β := Nat) [6, 27] [11] (fun i ver => n.outs.length - i) (fun i ver => i ≤ n.outs.length) (fun i ver => ([(6, .slice 6 ver 0 ((n.outs.take i).map fun p => ofB (n.all ins regs).1 p.2).length), (27, .v (.int .i64 (i)))] : Env)) (fun i ver s => s.put 6 ver (.row 1 (((n.outs.take i).map fun p => ofB (n.all ins regs).1 p.2).map encB))) (0) (ver6) ?_ ?_ ?_ (fun i ver hinv => ?_)
    · exact Nat.zero_le _
    · refine sub_cons (get_as rfl ?_) ?_; rotate_left; refine sub_cons (get_as rfl ?_) ?_; rotate_left; exact sub_nil
      all_goals (first | rfl | (simp; done) | (simp only [take_succ_getD n.outs i (by omega), List.map_append, List.map_cons, List.map_nil] <;> rfl))
    · rfl
    refine aw_seq ?_
    refine aw_region ?_
    refine al_op (op_lss rfl rfl) rfl (by simp) ?_
    refine al_nil ?_
    refine aw_seq ?_
    refine aw_cond rfl (fun h2 => ?_) (fun h2 => ?_)
    · have gh2 := h2
      try simp only [decide_eq_true_eq, decide_eq_false_iff_not, Bool.not_eq_true', Bool.not_eq_false', beq_iff_eq, bne_iff_ne, beq_eq_false_iff_ne, bne_eq_false_iff_eq, Bool.or_eq_true, Bool.and_eq_true, Bool.or_eq_false_iff, gt_iff_lt, ge_iff_le] at h2
      refine aw_skip ?_
      refine aw_seq ?_
      refine aw_block ?_
      refine aw_seq ?_
      refine aw_region ?_
      first
        | refine al_op (op_index_map default Try.underlying25 info69 rfl rfl rfl (by first | (with_reducible exact Int.toNat_natCast _) | rfl) (by omega) (by omega)) rfl (by simp) ?_
        | refine al_op (op_index_slice Try.underlying25 info69 rfl rfl rfl rfl (by omega) (by omega)) rfl (by simp) ?_
        | refine al_op (op_index_list Try.underlying25 info69 rfl rfl rfl (by decide) rfl) rfl (by simp) ?_
      first
        | refine al_op (op_load_rptr Try.underlying69 info69 rfl rfl) rfl (by simp) ?_
        | refine al_op (op_load_map Try.underlying69 info69 rfl rfl (by omega) rfl) rfl (by simp) ?_
        | refine al_op (op_load_ptr Try.underlying69 info69 rfl rfl rfl rfl) rfl (by simp) ?_
      (refine al_opR (op_alloc 11 info69 rfl rfl) rfl (by simp) ?_; rintro _ _ ⟨ver11, rfl, rfl⟩)
      first
        | refine al_op (op_store_ptr info69 rfl rfl rfl rfl rfl rfl (by first | rfl | exact live_one rfl | (repeat (first | exact all_live_nil | refine all_live_clo rfl ?_ | refine all_live_slice rfl ?_ | refine all_live_map rfl ?_ | refine all_live_ptr rfl ?_))) (by decide)) rfl (by simp) ?_
        | refine al_op (op_store_ptr info69 rfl rfl rfl rfl rfl rfl (by first | rfl | exact live_one rfl | (repeat (first | exact all_live_nil | refine all_live_clo rfl ?_ | refine all_live_slice rfl ?_ | refine all_live_map rfl ?_ | refine all_live_ptr rfl ?_))) (Nat.le_of_ble_eq_true rfl)) rfl (by simp) ?_
      refine al_nil ?_
      have hg := f7 i (by omega)
      refine aw_region ?_
      refine al_op (op_move rfl) rfl (by simp) ?_
      refine al_op (op_move rfl) rfl (by simp) ?_
      first
        | refine al_op (op_field_rptr Try.underlying69 rfl info3 (by decide) rfl rfl) rfl (by simp) ?_
        | refine al_op (op_field_ptr Try.underlying69 rfl info3 (by decide) rfl rfl rfl) rfl (by simp) ?_
      first
        | refine al_op (op_load_rptr Try.underlying3 info3 rfl rfl) rfl (by simp) ?_
        | refine al_op (op_load_map Try.underlying3 info3 rfl rfl (by omega) rfl) rfl (by simp) ?_
        | refine al_op (op_load_ptr Try.underlying3 info3 rfl rfl rfl rfl) rfl (by simp) ?_
      first
        | refine al_callp into54 rfl rfl rfl ((c_of _ _ (by omega) (by omega) (by omega) (by assumption)) _) (by simp) ?_
        | refine al_callp into54 rfl rfl rfl (acp_lent (lend_cons (by first | exact lend_same | exact .leaf _ _ (.vnil _) | exact .leaf _ _ (.nil _) | exact lend_whole rfl (by first | rfl | simp) (clo_map (fun _ => rfl))) (lend_cons (by first | exact lend_same | exact .leaf _ _ (.vnil _) | exact .leaf _ _ (.nil _) | exact lend_whole rfl (by first | rfl | simp) (clo_map (fun _ => rfl))) lend_nil)) (c_of _ _ (by omega) (by omega) (by omega) (by assumption)) rfl) (by simp) ?_
      refine al_op (op_buildSlice Try.underlying28 info65 rfl rfl (by decide) rfl (by decide) rfl (by first | rfl | (repeat (first | exact parts_nil | refine parts_cons rfl (by repeat (first | exact all_live_nil | refine all_live_clo rfl ?_ | refine all_live_slice rfl ?_ | refine all_live_map rfl ?_ | refine all_live_ptr rfl ?_)) ?_))) rfl rfl rfl) rfl (by simp) ?_
      first
        | (refine al_opR (op_append_one (ofB (n.all ins regs).1 (n.outs.getD i default).2) Try.underlying28 Try.underlying28 rfl info65 rfl rfl (by decide) rfl rfl rfl (by first | rfl | simp) rfl rfl (by first | omega | (simp; done) | (simp; omega)) (by show _ * 1 ≤ _; first | omega | (simp; done) | (simp; omega))) rfl (by simp) ?_; rintro _ _ ⟨ver37, rfl, rfl⟩)
        | (refine al_opR (op_append_map Try.underlying28 Try.underlying28 rfl info65 rfl rfl (by decide) rfl rfl rfl (by first | rfl | simp) rfl (by first | exact .list _ | exact .vnil | exact .nil | exact .row _ _ _ _ rfl (by first | rfl | simp)) rfl (by first | omega | (simp; done) | (simp; omega)) (by show _ * 1 ≤ _; first | omega | (simp; done) | (simp; omega))) rfl (by simp) ?_; rintro _ _ ⟨ver37, rfl, rfl⟩)
      refine al_op (op_assign rfl) rfl (by simp) ?_
      refine al_nil ?_
      refine aw_region ?_
      refine al_op (op_add rfl rfl (by first | exact wrap_i64 (by omega) (by omega))) rfl (by simp) ?_
      refine al_op (op_move rfl) rfl (by simp) ?_
      refine al_nil ?_
      refine ⟨i + 1, ver37, ?_, ?_, ?_, ?_, ?_⟩
      · omega
      · omega
      · refine sub_cons (get_as rfl ?_) ?_; rotate_left; refine sub_cons (get_as rfl ?_) ?_; rotate_left; exact sub_nil
        all_goals (first | rfl | (simp; done) | (simp only [take_succ_getD n.outs i (by omega), List.map_append, List.map_cons, List.map_nil] <;> rfl))
      · repeat (first | exact subx_refl | exact subx_del | refine subx_put rfl ?_)
      · (simp only [take_succ_getD n.outs i (by omega), List.map_append, List.map_cons, List.map_nil] <;> rfl)
    · have gh2 := h2
      try simp only [decide_eq_true_eq, decide_eq_false_iff_not, Bool.not_eq_true', Bool.not_eq_false', beq_iff_eq, bne_iff_ne, beq_eq_false_iff_ne, bne_eq_false_iff_eq, Bool.or_eq_true, Bool.and_eq_true, Bool.or_eq_false_iff, gt_iff_lt, ge_iff_le] at h2
      refine aw_exit ?_
      obtain rfl : i = n.outs.length := by omega
      refine aw_seq ?_
      refine aw_seq ?_
      refine aw_region ?_
      first
        | refine al_op (op_field_rptr Try.underlying27 rfl info23 (by decide) rfl rfl) rfl (by simp) ?_
        | refine al_op (op_field_ptr Try.underlying27 rfl info23 (by decide) rfl rfl rfl) rfl (by simp) ?_
      first
        | refine al_op (op_load_rptr Try.underlying23 info23 rfl rfl) rfl (by simp) ?_
        | refine al_op (op_load_map Try.underlying23 info23 rfl rfl (by omega) rfl) rfl (by simp) ?_
        | refine al_op (op_load_ptr Try.underlying23 info23 rfl rfl rfl rfl) rfl (by simp) ?_
      first
        | refine al_op (op_len_map Try.underlying23 rfl) rfl (by simp) ?_
        | refine al_op (op_len_slice Try.underlying23 rfl rfl) rfl (by simp) ?_
        | refine al_op (op_len_list Try.underlying23 rfl) rfl (by simp) ?_
        | refine al_op (op_len_v Try.underlying23 rfl) rfl (by simp) ?_
        | refine al_op (op_len_nil Try.underlying23 rfl) rfl (by simp) ?_
      refine al_op (op_move rfl) rfl (by simp) ?_
      refine al_nil ?_
      refine aw_block ?_
      refine aw_own_map encB 7 1 7 rfl rfl (fun ver7 => ?_)
      refine aw_for2T (α := Nat) (β := Nat) [7, 42] [13] (fun i ver => n.regs.length - i) (fun i ver => i ≤ n.regs.length) (fun i ver => ([(7, .slice 7 ver 0 ((n.regs.take i).map fun p => ofB (n.all ins regs).1 p.2.2).length), (42, .v (.int .i64 (i)))] : Env)) (fun i ver s => s.put 7 ver (.row 1 (((n.regs.take i).map fun p => ofB (n.all ins regs).1 p.2.2).map encB))) (0) (ver7) ?_ ?_ ?_ (fun i ver hinv => ?_)
      · exact Nat.zero_le _
      · refine sub_cons (get_as rfl ?_) ?_; rotate_left; refine sub_cons (get_as rfl ?_) ?_; rotate_left; exact sub_nil
        all_goals (first | rfl | (simp; done) | (simp only [take_succ_getD n.regs i (by omega), List.map_append, List.map_cons, List.map_nil] <;> rfl))
      · rfl
      refine aw_seq ?_
      refine aw_region ?_
      refine al_op (op_lss rfl rfl) rfl (by simp) ?_
      refine al_nil ?_
      refine aw_seq ?_
      refine aw_cond rfl (fun h3 => ?_) (fun h3 => ?_)
      · have gh3 := h3
        try simp only [decide_eq_true_eq, decide_eq_false_iff_not, Bool.not_eq_true', Bool.not_eq_false', beq_iff_eq, bne_iff_ne, beq_eq_false_iff_ne, bne_eq_false_iff_eq, Bool.or_eq_true, Bool.and_eq_true, Bool.or_eq_false_iff, gt_iff_lt, ge_iff_le] at h3
        refine aw_skip ?_
        refine aw_seq ?_
        refine aw_block ?_
        refine aw_seq ?_
        refine aw_region ?_
        first
          | refine al_op (op_index_map default Try.underlying23 info93 rfl rfl rfl (by first | (with_reducible exact Int.toNat_natCast _) | rfl) (by omega) (by omega)) rfl (by simp) ?_
          | refine al_op (op_index_slice Try.underlying23 info93 rfl rfl rfl rfl (by omega) (by omega)) rfl (by simp) ?_
          | refine al_op (op_index_list Try.underlying23 info93 rfl rfl rfl (by decide) rfl) rfl (by simp) ?_
        first
          | refine al_op (op_load_rptr Try.underlying93 info93 rfl rfl) rfl (by simp) ?_
          | refine al_op (op_load_map Try.underlying93 info93 rfl rfl (by omega) rfl) rfl (by simp) ?_
          | refine al_op (op_load_ptr Try.underlying93 info93 rfl rfl rfl rfl) rfl (by simp) ?_
        (refine al_opR (op_alloc 13 info93 rfl rfl) rfl (by simp) ?_; rintro _ _ ⟨ver13, rfl, rfl⟩)
        first
          | refine al_op (op_store_ptr info93 rfl rfl rfl rfl rfl rfl (by first | rfl | exact live_one rfl | (repeat (first | exact all_live_nil | refine all_live_clo rfl ?_ | refine all_live_slice rfl ?_ | refine all_live_map rfl ?_ | refine all_live_ptr rfl ?_))) (by decide)) rfl (by simp) ?_
          | refine al_op (op_store_ptr info93 rfl rfl rfl rfl rfl rfl (by first | rfl | exact live_one rfl | (repeat (first | exact all_live_nil | refine all_live_clo rfl ?_ | refine all_live_slice rfl ?_ | refine all_live_map rfl ?_ | refine all_live_ptr rfl ?_))) (Nat.le_of_ble_eq_true rfl)) rfl (by simp) ?_
        refine al_nil ?_
        have hg := f6 i (by omega)
        refine aw_region ?_
        refine al_op (op_move rfl) rfl (by simp) ?_
        refine al_op (op_move rfl) rfl (by simp) ?_
        first
          | refine al_op (op_field_rptr Try.underlying93 rfl info3 (by decide) rfl rfl) rfl (by simp) ?_
          | refine al_op (op_field_ptr Try.underlying93 rfl info3 (by decide) rfl rfl rfl) rfl (by simp) ?_
        first
          | refine al_op (op_load_rptr Try.underlying3 info3 rfl rfl) rfl (by simp) ?_
          | refine al_op (op_load_map Try.underlying3 info3 rfl rfl (by omega) rfl) rfl (by simp) ?_
          | refine al_op (op_load_ptr Try.underlying3 info3 rfl rfl rfl rfl) rfl (by simp) ?_
        first
          | refine al_callp into54 rfl rfl rfl ((c_of _ _ (by omega) (by omega) (by omega) (by assumption)) _) (by simp) ?_
          | refine al_callp into54 rfl rfl rfl (acp_lent (lend_cons (by first | exact lend_same | exact .leaf _ _ (.vnil _) | exact .leaf _ _ (.nil _) | exact lend_whole rfl (by first | rfl | simp) (clo_map (fun _ => rfl))) (lend_cons (by first | exact lend_same | exact .leaf _ _ (.vnil _) | exact .leaf _ _ (.nil _) | exact lend_whole rfl (by first | rfl | simp) (clo_map (fun _ => rfl))) lend_nil)) (c_of _ _ (by omega) (by omega) (by omega) (by assumption)) rfl) (by simp) ?_
        refine al_op (op_buildSlice Try.underlying28 info65 rfl rfl (by decide) rfl (by decide) rfl (by first | rfl | (repeat (first | exact parts_nil | refine parts_cons rfl (by repeat (first | exact all_live_nil | refine all_live_clo rfl ?_ | refine all_live_slice rfl ?_ | refine all_live_map rfl ?_ | refine all_live_ptr rfl ?_)) ?_))) rfl rfl rfl) rfl (by simp) ?_
        first
          | (refine al_opR (op_append_one (ofB (n.all ins regs).1 (n.regs.getD i default).2.2) Try.underlying28 Try.underlying28 rfl info65 rfl rfl (by decide) rfl rfl rfl (by first | rfl | simp) rfl rfl (by first | omega | (simp; done) | (simp; omega)) (by show _ * 1 ≤ _; first | omega | (simp; done) | (simp; omega))) rfl (by simp) ?_; rintro _ _ ⟨ver52, rfl, rfl⟩)
          | (refine al_opR (op_append_map Try.underlying28 Try.underlying28 rfl info65 rfl rfl (by decide) rfl rfl rfl (by first | rfl | simp) rfl (by first | exact .list _ | exact .vnil | exact .nil | exact .row _ _ _ _ rfl (by first | rfl | simp)) rfl (by first | omega | (simp; done) | (simp; omega)) (by show _ * 1 ≤ _; first | omega | (simp; done) | (simp; omega))) rfl (by simp) ?_; rintro _ _ ⟨ver52, rfl, rfl⟩)
        refine al_op (op_assign rfl) rfl (by simp) ?_
        refine al_nil ?_
        refine aw_region ?_
        refine al_op (op_add rfl rfl (by first | exact wrap_i64 (by omega) (by omega))) rfl (by simp) ?_
        refine al_op (op_move rfl) rfl (by simp) ?_
        refine al_nil ?_
        refine ⟨i + 1, ver52, ?_, ?_, ?_, ?_, ?_⟩
        · omega
        · omega
        · refine sub_cons (get_as rfl ?_) ?_; rotate_left; refine sub_cons (get_as rfl ?_) ?_; rotate_left; exact sub_nil
          all_goals (first | rfl | (simp; done) | (simp only [take_succ_getD n.regs i (by omega), List.map_append, List.map_cons, List.map_nil] <;> rfl))
        · repeat (first | exact subx_refl | exact subx_del | refine subx_put rfl ?_)
        · (simp only [take_succ_getD n.regs i (by omega), List.map_append, List.map_cons, List.map_nil] <;> rfl)
      · have gh3 := h3
        try simp only [decide_eq_true_eq, decide_eq_false_iff_not, Bool.not_eq_true', Bool.not_eq_false', beq_iff_eq, bne_iff_ne, beq_eq_false_iff_ne, bne_eq_false_iff_eq, Bool.or_eq_true, Bool.and_eq_true, Bool.or_eq_false_iff, gt_iff_lt, ge_iff_le] at h3
        refine aw_exit ?_
        obtain rfl : i = n.regs.length := by omega
        refine aw_seq ?_
        refine aw_region ?_
        refine al_op (op_move rfl) rfl (by simp) ?_
        refine al_op (op_move rfl) rfl (by simp) ?_
        refine al_op (op_assign rfl) rfl (by simp) ?_
        refine al_op (op_assign rfl) rfl (by simp) ?_
        refine al_op (op_assign rfl) rfl (by simp) ?_
        refine al_nil ?_
        refine aw_freeze (fun _ => false) (fsub_cons (t := 6) rfl (by first | exact .leaf _ _ (frz_whole rfl rfl (by first | rfl | (simp; done) | (simp; omega)) (clo_map (fun _ => rfl))) | exact .leaf _ _ (.vnil 1) | exact .leaf _ _ (.nil 1) | exact .leaf _ _ (.same _)) (fsub_cons (t := 7) rfl (by first | exact .leaf _ _ (frz_whole rfl rfl (by first | rfl | (simp; done) | (simp; omega)) (clo_map (fun _ => rfl))) | exact .leaf _ _ (.vnil 1) | exact .leaf _ _ (.nil 1) | exact .leaf _ _ (.same _)) (fsub_cons (t := 8) rfl (.leaf _ _ (.same _)) fsub_nil))) ?_
        refine aw_ret ?_
        refine ⟨_, res_3 rfl rfl rfl rfl rfl rfl rfl, ?_, rfl⟩
        rw [Net.eval_ok hb, he]
end Go.Proofs.Ytbpamlphacpkeaa
