/- Printed walks (gen.py, gates_ann.py): part 14. -/
import Derived.Test.YtbpamlphacpkeaaW13
import Derived.Test.YtbpamlphacpkeaaFacts
set_option linter.unusedVariables false
set_option linter.unusedSimpArgs false
set_option maxRecDepth 20000
namespace Go.Proofs.Ytbpamlphacpkeaa
open Go

theorem r_Valid (n : Net) (hn : n.Small) : ACp Try.prog 21 [encN n] (.v (.bool (n.valid))) := by
  refine acp_of rfl ?_
  have hn0 := hn
  obtain ⟨b1, b2, b3, b4, b5, b6, b7, b8, b9, b10, b11⟩ := hn
  have k1 : n.first = 1 + n.ins.length + n.regs.length := rfl
  refine ac_enter 135 Try.func21 rfl rfl (by simp) ?_
  refine aw_seq ?_
  refine aw_region ?_
  (refine al_opR (op_box 1 rfl rfl (by first | rfl | exact live_one rfl | (repeat (first | exact all_live_nil | refine all_live_clo rfl ?_ | refine all_live_slice rfl ?_ | refine all_live_map rfl ?_ | refine all_live_ptr rfl ?_)))) rfl (by simp) ?_; rintro _ _ ⟨ver1, rfl, rfl⟩)
  refine al_op (op_assign rfl) rfl (by simp) ?_
  refine al_nil ?_
  refine aw_seq ?_
  refine aw_region ?_
  refine al_op (op_assign rfl) rfl (by simp) ?_
  refine al_op (op_assign rfl) rfl (by simp) ?_
  refine al_nil ?_
  refine aw_seq ?_
  refine aw_seq ?_
  refine aw_region ?_
  first
    | refine al_op (op_field_rptr Try.underlying27 rfl info23 (by decide) rfl rfl) rfl (by simp) ?_
    | refine al_op (op_field_ptr Try.underlying27 rfl info23 (by decide) rfl rfl rfl) rfl (by simp) ?_
  first
    | refine al_op (op_load_rptr Try.underlying23 info23 rfl rfl) rfl (by simp) ?_
    | refine al_op (op_load_map Try.underlying23 info23 rfl rfl (by omega) rfl) rfl (by simp) ?_
    | refine al_op (op_load_ptr Try.underlying23 info23 rfl rfl rfl rfl) rfl (by simp) ?_
  first
    | refine al_op (op_len_map Try.underlying23 rfl) rfl (by simp) ?_
    | refine al_op (op_len_slice Try.underlying23 rfl rfl) rfl (by simp) ?_
    | refine al_op (op_len_list Try.underlying23 rfl) rfl (by simp) ?_
    | refine al_op (op_len_v Try.underlying23 rfl) rfl (by simp) ?_
    | refine al_op (op_len_nil Try.underlying23 rfl) rfl (by simp) ?_
  refine al_op (op_gtr rfl rfl) rfl (by simp) ?_
  refine al_op (op_move rfl) rfl (by simp) ?_
  apply al_or 5 20 25 rfl
  · intro h1; have gh1 := h1
    try simp only [decide_eq_true_eq, decide_eq_false_iff_not, Bool.not_eq_true', Bool.not_eq_false', beq_iff_eq, bne_iff_ne, beq_eq_false_iff_ne, bne_eq_false_iff_eq, Bool.or_eq_true, Bool.and_eq_true, Bool.or_eq_false_iff, gt_iff_lt, ge_iff_le] at h1
    first
      | refine al_take (op_field_rptr Try.underlying27 rfl info25 (by decide) rfl rfl) rfl rfl rfl rfl (by simp) ?_
      | refine al_take (op_field_ptr Try.underlying27 rfl info25 (by decide) rfl rfl rfl) rfl rfl rfl rfl (by simp) ?_
    first
      | refine al_take (op_load_rptr Try.underlying25 info25 rfl rfl) rfl rfl rfl rfl (by simp) ?_
      | refine al_take (op_load_map Try.underlying25 info25 rfl rfl (by omega) rfl) rfl rfl rfl rfl (by simp) ?_
      | refine al_take (op_load_ptr Try.underlying25 info25 rfl rfl rfl rfl) rfl rfl rfl rfl (by simp) ?_
    first
      | refine al_take (op_len_map Try.underlying25 rfl) rfl rfl rfl rfl (by simp) ?_
      | refine al_take (op_len_slice Try.underlying25 rfl rfl) rfl rfl rfl rfl (by simp) ?_
      | refine al_take (op_len_list Try.underlying25 rfl) rfl rfl rfl rfl (by simp) ?_
      | refine al_take (op_len_v Try.underlying25 rfl) rfl rfl rfl rfl (by simp) ?_
      | refine al_take (op_len_nil Try.underlying25 rfl) rfl rfl rfl rfl (by simp) ?_
    refine al_take (op_gtr rfl rfl) rfl rfl rfl rfl (by simp) ?_
    first
      | refine al_op (op_pick rfl rfl) rfl (by simp) ?_
      | refine al_op (op_or rfl rfl rfl) rfl (by simp) ?_
    refine al_nil ⟨rfl, rfl, rfl, keep_of ?_⟩
    repeat (first | exact subx_refl | exact subx_known rfl gh1 subx_refl | refine subx_put rfl ?_)
  · intro h1; have gh1 := h1
    try simp only [decide_eq_true_eq, decide_eq_false_iff_not, Bool.not_eq_true', Bool.not_eq_false', beq_iff_eq, bne_iff_ne, beq_eq_false_iff_ne, bne_eq_false_iff_eq, Bool.or_eq_true, Bool.and_eq_true, Bool.or_eq_false_iff, gt_iff_lt, ge_iff_le] at h1
    refine al_pass rfl rfl rfl rfl (by simp) ?_
    refine al_pass rfl rfl rfl rfl (by simp) ?_
    refine al_pass rfl rfl rfl rfl (by simp) ?_
    refine al_pass rfl rfl rfl rfl (by simp) ?_
    first
      | refine al_op (op_pick rfl rfl) rfl (by simp) ?_
      | refine al_op (op_or rfl rfl rfl) rfl (by simp) ?_
    refine al_nil ⟨rfl, rfl, rfl, keep_of ?_⟩
    repeat (first | exact subx_refl | exact subx_known rfl gh1 subx_refl | refine subx_put rfl ?_)
  refine al_op (op_move rfl) rfl (by simp) ?_
  apply al_or 5 26 31 rfl
  · intro h2; have gh2 := h2
    try simp only [decide_eq_true_eq, decide_eq_false_iff_not, Bool.not_eq_true', Bool.not_eq_false', beq_iff_eq, bne_iff_ne, beq_eq_false_iff_ne, bne_eq_false_iff_eq, Bool.or_eq_true, Bool.and_eq_true, Bool.or_eq_false_iff, gt_iff_lt, ge_iff_le] at h2
    first
      | refine al_take (op_field_rptr Try.underlying27 rfl info24 (by decide) rfl rfl) rfl rfl rfl rfl (by simp) ?_
      | refine al_take (op_field_ptr Try.underlying27 rfl info24 (by decide) rfl rfl rfl) rfl rfl rfl rfl (by simp) ?_
    first
      | refine al_take (op_load_rptr Try.underlying24 info24 rfl rfl) rfl rfl rfl rfl (by simp) ?_
      | refine al_take (op_load_map Try.underlying24 info24 rfl rfl (by omega) rfl) rfl rfl rfl rfl (by simp) ?_
      | refine al_take (op_load_ptr Try.underlying24 info24 rfl rfl rfl rfl) rfl rfl rfl rfl (by simp) ?_
    first
      | refine al_take (op_len_map Try.underlying24 rfl) rfl rfl rfl rfl (by simp) ?_
      | refine al_take (op_len_slice Try.underlying24 rfl rfl) rfl rfl rfl rfl (by simp) ?_
      | refine al_take (op_len_list Try.underlying24 rfl) rfl rfl rfl rfl (by simp) ?_
      | refine al_take (op_len_v Try.underlying24 rfl) rfl rfl rfl rfl (by simp) ?_
      | refine al_take (op_len_nil Try.underlying24 rfl) rfl rfl rfl rfl (by simp) ?_
    refine al_take (op_gtr rfl rfl) rfl rfl rfl rfl (by simp) ?_
    first
      | refine al_op (op_pick rfl rfl) rfl (by simp) ?_
      | refine al_op (op_or rfl rfl rfl) rfl (by simp) ?_
    refine al_nil ⟨rfl, rfl, rfl, keep_of ?_⟩
    repeat (first | exact subx_refl | exact subx_known rfl gh2 subx_refl | refine subx_put rfl ?_)
  · intro h2; have gh2 := h2
    try simp only [decide_eq_true_eq, decide_eq_false_iff_not, Bool.not_eq_true', Bool.not_eq_false', beq_iff_eq, bne_iff_ne, beq_eq_false_iff_ne, bne_eq_false_iff_eq, Bool.or_eq_true, Bool.and_eq_true, Bool.or_eq_false_iff, gt_iff_lt, ge_iff_le] at h2
    refine al_pass rfl rfl rfl rfl (by simp) ?_
    refine al_pass rfl rfl rfl rfl (by simp) ?_
    refine al_pass rfl rfl rfl rfl (by simp) ?_
    refine al_pass rfl rfl rfl rfl (by simp) ?_
    first
      | refine al_op (op_pick rfl rfl) rfl (by simp) ?_
      | refine al_op (op_or rfl rfl rfl) rfl (by simp) ?_
    refine al_nil ⟨rfl, rfl, rfl, keep_of ?_⟩
    repeat (first | exact subx_refl | exact subx_known rfl gh2 subx_refl | refine subx_put rfl ?_)
  refine al_nil ?_
  refine aw_cond rfl (fun h3 => ?_) (fun h3 => ?_)
  · have gh3 := h3
    try simp only [decide_eq_true_eq, decide_eq_false_iff_not, Bool.not_eq_true', Bool.not_eq_false', beq_iff_eq, bne_iff_ne, beq_eq_false_iff_ne, bne_eq_false_iff_eq, Bool.or_eq_true, Bool.and_eq_true, Bool.or_eq_false_iff, gt_iff_lt, ge_iff_le] at h3
    refine aw_seq ?_
    refine aw_region ?_
    refine al_op (op_assign rfl) rfl (by simp) ?_
    refine al_nil ?_
    refine aw_freeze (fun _ => false) (fsub_cons (t := 2) rfl (.leaf _ _ (.same _)) fsub_nil) ?_
    refine aw_ret ?_
    refine ⟨_, res_1 rfl rfl, ?_, rfl⟩
    rw [head_long gh3]
  · have gh3 := h3
    try simp only [decide_eq_true_eq, decide_eq_false_iff_not, Bool.not_eq_true', Bool.not_eq_false', beq_iff_eq, bne_iff_ne, beq_eq_false_iff_ne, bne_eq_false_iff_eq, Bool.or_eq_true, Bool.and_eq_true, Bool.or_eq_false_iff, gt_iff_lt, ge_iff_le] at h3
    refine aw_skip ?_
    refine aw_seq ?_
    refine aw_seq ?_
    refine aw_region ?_
    first
      | refine al_op (op_field_rptr Try.underlying27 rfl info23 (by decide) rfl rfl) rfl (by simp) ?_
      | refine al_op (op_field_ptr Try.underlying27 rfl info23 (by decide) rfl rfl rfl) rfl (by simp) ?_
    first
      | refine al_op (op_load_rptr Try.underlying23 info23 rfl rfl) rfl (by simp) ?_
      | refine al_op (op_load_map Try.underlying23 info23 rfl rfl (by omega) rfl) rfl (by simp) ?_
      | refine al_op (op_load_ptr Try.underlying23 info23 rfl rfl rfl rfl) rfl (by simp) ?_
    first
      | refine al_op (op_len_map Try.underlying23 rfl) rfl (by simp) ?_
      | refine al_op (op_len_slice Try.underlying23 rfl rfl) rfl (by simp) ?_
      | refine al_op (op_len_list Try.underlying23 rfl) rfl (by simp) ?_
      | refine al_op (op_len_v Try.underlying23 rfl) rfl (by simp) ?_
      | refine al_op (op_len_nil Try.underlying23 rfl) rfl (by simp) ?_
    refine al_op (op_move rfl) rfl (by simp) ?_
    refine al_nil ?_
    refine aw_block ?_
    refine aw_own_map encS 3 1 3 rfl rfl (fun ver3 => ?_)
    refine aw_for2T (α := Nat) (β := Nat) [2, 3, 35] [6] (fun i ver => n.regs.length - i) (fun i ver => i ≤ n.regs.length ∧ allTo (fun k => known (n.regs.getD k default).2.1) i = true) (fun i ver => ([(3, .slice 3 ver 0 ((n.regs.take i).map Prod.fst).length), (35, .v (.int .i64 (i)))] : Env)) (fun i ver s => s.put 3 ver (.row 1 (((n.regs.take i).map Prod.fst).map encS))) (0) (ver3) ?_ ?_ ?_ (fun i ver hinv => ?_)
    · exact ⟨Nat.zero_le _, rfl⟩
    · refine sub_cons (get_as rfl ?_) ?_; rotate_left; refine sub_cons (get_as rfl ?_) ?_; rotate_left; exact sub_nil
      all_goals (first | rfl | (simp; done) | (simp only [take_succ_getD n.regs i (by omega), List.map_append, List.map_cons, List.map_nil] <;> rfl))
    · rfl
    have hi := hinv.1
    refine aw_seq ?_
    refine aw_region ?_
    refine al_op (op_lss rfl rfl) rfl (by simp) ?_
    refine al_nil ?_
    refine aw_seq ?_
    refine aw_cond rfl (fun h4 => ?_) (fun h4 => ?_)
    · have gh4 := h4
      try simp only [decide_eq_true_eq, decide_eq_false_iff_not, Bool.not_eq_true', Bool.not_eq_false', beq_iff_eq, bne_iff_ne, beq_eq_false_iff_ne, bne_eq_false_iff_eq, Bool.or_eq_true, Bool.and_eq_true, Bool.or_eq_false_iff, gt_iff_lt, ge_iff_le] at h4
      refine aw_skip ?_
      refine aw_seq ?_
      refine aw_block ?_
      refine aw_seq ?_
      refine aw_region ?_
      first
        | refine al_op (op_index_map default Try.underlying23 info93 rfl rfl rfl (by first | (with_reducible exact Int.toNat_natCast _) | rfl) (by omega) (by omega)) rfl (by simp) ?_
        | refine al_op (op_index_slice Try.underlying23 info93 rfl rfl rfl rfl (by omega) (by omega)) rfl (by simp) ?_
        | refine al_op (op_index_list Try.underlying23 info93 rfl rfl rfl (by decide) rfl) rfl (by simp) ?_
      first
        | refine al_op (op_load_rptr Try.underlying93 info93 rfl rfl) rfl (by simp) ?_
        | refine al_op (op_load_map Try.underlying93 info93 rfl rfl (by omega) rfl) rfl (by simp) ?_
        | refine al_op (op_load_ptr Try.underlying93 info93 rfl rfl rfl rfl) rfl (by simp) ?_
      (refine al_opR (op_alloc 6 info93 rfl rfl) rfl (by simp) ?_; rintro _ _ ⟨ver6, rfl, rfl⟩)
      first
        | refine al_op (op_store_ptr info93 rfl rfl rfl rfl rfl rfl (by first | rfl | exact live_one rfl | (repeat (first | exact all_live_nil | refine all_live_clo rfl ?_ | refine all_live_slice rfl ?_ | refine all_live_map rfl ?_ | refine all_live_ptr rfl ?_))) (by decide)) rfl (by simp) ?_
        | refine al_op (op_store_ptr info93 rfl rfl rfl rfl rfl rfl (by first | rfl | exact live_one rfl | (repeat (first | exact all_live_nil | refine all_live_clo rfl ?_ | refine all_live_slice rfl ?_ | refine all_live_map rfl ?_ | refine all_live_ptr rfl ?_))) (Nat.le_of_ble_eq_true rfl)) rfl (by simp) ?_
      refine al_nil ?_
      refine aw_seq ?_
      refine aw_region ?_
      refine al_op (op_move rfl) rfl (by simp) ?_
      first
        | refine al_op (op_field_rptr Try.underlying93 rfl info9 (by decide) rfl rfl) rfl (by simp) ?_
        | refine al_op (op_field_ptr Try.underlying93 rfl info9 (by decide) rfl rfl rfl) rfl (by simp) ?_
      first
        | refine al_op (op_load_rptr Try.underlying9 info9 rfl rfl) rfl (by simp) ?_
        | refine al_op (op_load_map Try.underlying9 info9 rfl rfl (by omega) rfl) rfl (by simp) ?_
        | refine al_op (op_load_ptr Try.underlying9 info9 rfl rfl rfl rfl) rfl (by simp) ?_
      refine al_op (op_buildSlice Try.underlying22 info9 rfl rfl (by decide) rfl (by decide) rfl (by first | rfl | (repeat (first | exact parts_nil | refine parts_cons rfl (by repeat (first | exact all_live_nil | refine all_live_clo rfl ?_ | refine all_live_slice rfl ?_ | refine all_live_map rfl ?_ | refine all_live_ptr rfl ?_)) ?_))) rfl rfl rfl) rfl (by simp) ?_
      first
        | (refine al_opR (op_append_one (n.regs.getD i default).1 Try.underlying22 Try.underlying22 rfl info9 rfl rfl (by decide) rfl rfl rfl (by first | rfl | simp) rfl rfl (by first | omega | (simp; done) | (simp; omega)) (by show _ * 16 ≤ _; first | omega | (simp; done) | (simp; omega))) rfl (by simp) ?_; rintro _ _ ⟨ver43, rfl, rfl⟩)
        | (refine al_opR (op_append_map Try.underlying22 Try.underlying22 rfl info9 rfl rfl (by decide) rfl rfl rfl (by first | rfl | simp) rfl (by first | exact .list _ | exact .vnil | exact .nil | exact .row _ _ _ _ rfl (by first | rfl | simp)) rfl (by first | omega | (simp; done) | (simp; omega)) (by show _ * 16 ≤ _; first | omega | (simp; done) | (simp; omega))) rfl (by simp) ?_; rintro _ _ ⟨ver43, rfl, rfl⟩)
      refine al_op (op_assign rfl) rfl (by simp) ?_
      refine al_nil ?_
      refine aw_seq ?_
      refine aw_region ?_
      first
        | refine al_op (op_field_rptr Try.underlying93 rfl info65 (by decide) rfl rfl) rfl (by simp) ?_
        | refine al_op (op_field_ptr Try.underlying93 rfl info65 (by decide) rfl rfl rfl) rfl (by simp) ?_
      first
        | refine al_op (op_load_rptr Try.underlying65 info65 rfl rfl) rfl (by simp) ?_
        | refine al_op (op_load_map Try.underlying65 info65 rfl rfl (by omega) rfl) rfl (by simp) ?_
        | refine al_op (op_load_ptr Try.underlying65 info65 rfl rfl rfl rfl) rfl (by simp) ?_
      first
        | refine al_callp into60 rfl rfl rfl ((r_known _) _) (by simp) ?_
        | refine al_callp into60 rfl rfl rfl (acp_lent (lend_cons (by first | exact lend_same | exact .leaf _ _ (.vnil _) | exact .leaf _ _ (.nil _) | exact lend_whole rfl (by first | rfl | simp) (clo_map (fun _ => rfl))) lend_nil) (r_known _) rfl) (by simp) ?_
      refine al_op (op_not rfl) rfl (by simp) ?_
      refine al_nil ?_
      refine aw_cond rfl (fun h5 => ?_) (fun h5 => ?_)
      · have gh5 := h5
        try simp only [decide_eq_true_eq, decide_eq_false_iff_not, Bool.not_eq_true', Bool.not_eq_false', beq_iff_eq, bne_iff_ne, beq_eq_false_iff_ne, bne_eq_false_iff_eq, Bool.or_eq_true, Bool.and_eq_true, Bool.or_eq_false_iff, gt_iff_lt, ge_iff_le] at h5
        refine aw_seq ?_
        refine aw_region ?_
        refine al_op (op_assign rfl) rfl (by simp) ?_
        refine al_nil ?_
        refine aw_freeze (fun _ => false) (fsub_cons (t := 2) rfl (.leaf _ _ (.same _)) fsub_nil) ?_
        refine aw_ret ?_
        refine ⟨_, res_1 rfl rfl, ?_, rfl⟩
        rw [Net.valid_reg i (by omega) (by rw [reg_lits (b8 _ (getD_mem (v := n.regs) (i := i) (by omega))).1, show known (n.regs.getD i default).2.1 = false from by simpa using gh5]; rfl)]
      · have gh5 := h5
        try simp only [decide_eq_true_eq, decide_eq_false_iff_not, Bool.not_eq_true', Bool.not_eq_false', beq_iff_eq, bne_iff_ne, beq_eq_false_iff_ne, bne_eq_false_iff_eq, Bool.or_eq_true, Bool.and_eq_true, Bool.or_eq_false_iff, gt_iff_lt, ge_iff_le] at h5
        refine aw_skip ?_
        refine aw_region ?_
        refine al_op (op_add rfl rfl (by first | exact wrap_i64 (by omega) (by omega))) rfl (by simp) ?_
        refine al_op (op_move rfl) rfl (by simp) ?_
        refine al_nil ?_
        refine ⟨i + 1, ver43, ?_, ?_, ?_, ?_, ?_⟩
        · omega
        · exact ⟨by omega, allTo_succ hinv.2 (by simpa using gh5)⟩
        · refine sub_cons (get_as rfl ?_) ?_; rotate_left; refine sub_cons (get_as rfl ?_) ?_; rotate_left; exact sub_nil
          all_goals (first | rfl | (simp; done) | (simp only [take_succ_getD n.regs i (by omega), List.map_append, List.map_cons, List.map_nil] <;> rfl))
        · repeat (first | exact subx_refl | exact subx_del | refine subx_put rfl ?_)
        · (simp only [take_succ_getD n.regs i (by omega), List.map_append, List.map_cons, List.map_nil] <;> rfl)
    · have gh4 := h4
      try simp only [decide_eq_true_eq, decide_eq_false_iff_not, Bool.not_eq_true', Bool.not_eq_false', beq_iff_eq, bne_iff_ne, beq_eq_false_iff_ne, bne_eq_false_iff_eq, Bool.or_eq_true, Bool.and_eq_true, Bool.or_eq_false_iff, gt_iff_lt, ge_iff_le] at h4
      refine aw_exit ?_
      obtain rfl : i = n.regs.length := by omega
      have a35 := hinv.2
      clear hinv hi
      refine aw_seq ?_
      refine aw_seq ?_
      refine aw_region ?_
      first
        | refine al_op (op_field_rptr Try.underlying27 rfl info25 (by decide) rfl rfl) rfl (by simp) ?_
        | refine al_op (op_field_ptr Try.underlying27 rfl info25 (by decide) rfl rfl rfl) rfl (by simp) ?_
      first
        | refine al_op (op_load_rptr Try.underlying25 info25 rfl rfl) rfl (by simp) ?_
        | refine al_op (op_load_map Try.underlying25 info25 rfl rfl (by omega) rfl) rfl (by simp) ?_
        | refine al_op (op_load_ptr Try.underlying25 info25 rfl rfl rfl rfl) rfl (by simp) ?_
      first
        | refine al_op (op_len_map Try.underlying25 rfl) rfl (by simp) ?_
        | refine al_op (op_len_slice Try.underlying25 rfl rfl) rfl (by simp) ?_
        | refine al_op (op_len_list Try.underlying25 rfl) rfl (by simp) ?_
        | refine al_op (op_len_v Try.underlying25 rfl) rfl (by simp) ?_
        | refine al_op (op_len_nil Try.underlying25 rfl) rfl (by simp) ?_
      refine al_op (op_move rfl) rfl (by simp) ?_
      refine al_nil ?_
      refine aw_block ?_
      refine aw_own_map encS 4 1 4 rfl rfl (fun ver4 => ?_)
      refine aw_for2T (α := Nat) (β := Nat) [4, 52] [8] (fun i ver => n.outs.length - i) (fun i ver => i ≤ n.outs.length) (fun i ver => ([(4, .slice 4 ver 0 ((n.outs.take i).map Prod.fst).length), (52, .v (.int .i64 (i)))] : Env)) (fun i ver s => s.put 4 ver (.row 1 (((n.outs.take i).map Prod.fst).map encS))) (0) (ver4) ?_ ?_ ?_ (fun i ver hinv => ?_)
      · exact Nat.zero_le _
      · refine sub_cons (get_as rfl ?_) ?_; rotate_left; refine sub_cons (get_as rfl ?_) ?_; rotate_left; exact sub_nil
        all_goals (first | rfl | (simp; done) | (simp only [take_succ_getD n.outs i (by omega), List.map_append, List.map_cons, List.map_nil] <;> rfl))
      · rfl
      refine aw_seq ?_
      refine aw_region ?_
      refine al_op (op_lss rfl rfl) rfl (by simp) ?_
      refine al_nil ?_
      refine aw_seq ?_
      refine aw_cond rfl (fun h6 => ?_) (fun h6 => ?_)
      · have gh6 := h6
        try simp only [decide_eq_true_eq, decide_eq_false_iff_not, Bool.not_eq_true', Bool.not_eq_false', beq_iff_eq, bne_iff_ne, beq_eq_false_iff_ne, bne_eq_false_iff_eq, Bool.or_eq_true, Bool.and_eq_true, Bool.or_eq_false_iff, gt_iff_lt, ge_iff_le] at h6
        refine aw_skip ?_
        refine aw_seq ?_
        refine aw_block ?_
        refine aw_seq ?_
        refine aw_region ?_
        first
          | refine al_op (op_index_map default Try.underlying25 info69 rfl rfl rfl (by first | (with_reducible exact Int.toNat_natCast _) | rfl) (by omega) (by omega)) rfl (by simp) ?_
          | refine al_op (op_index_slice Try.underlying25 info69 rfl rfl rfl rfl (by omega) (by omega)) rfl (by simp) ?_
          | refine al_op (op_index_list Try.underlying25 info69 rfl rfl rfl (by decide) rfl) rfl (by simp) ?_
        first
          | refine al_op (op_load_rptr Try.underlying69 info69 rfl rfl) rfl (by simp) ?_
          | refine al_op (op_load_map Try.underlying69 info69 rfl rfl (by omega) rfl) rfl (by simp) ?_
          | refine al_op (op_load_ptr Try.underlying69 info69 rfl rfl rfl rfl) rfl (by simp) ?_
        (refine al_opR (op_alloc 8 info69 rfl rfl) rfl (by simp) ?_; rintro _ _ ⟨ver8, rfl, rfl⟩)
        first
          | refine al_op (op_store_ptr info69 rfl rfl rfl rfl rfl rfl (by first | rfl | exact live_one rfl | (repeat (first | exact all_live_nil | refine all_live_clo rfl ?_ | refine all_live_slice rfl ?_ | refine all_live_map rfl ?_ | refine all_live_ptr rfl ?_))) (by decide)) rfl (by simp) ?_
          | refine al_op (op_store_ptr info69 rfl rfl rfl rfl rfl rfl (by first | rfl | exact live_one rfl | (repeat (first | exact all_live_nil | refine all_live_clo rfl ?_ | refine all_live_slice rfl ?_ | refine all_live_map rfl ?_ | refine all_live_ptr rfl ?_))) (Nat.le_of_ble_eq_true rfl)) rfl (by simp) ?_
        refine al_nil ?_
        refine aw_region ?_
        refine al_op (op_move rfl) rfl (by simp) ?_
        first
          | refine al_op (op_field_rptr Try.underlying69 rfl info9 (by decide) rfl rfl) rfl (by simp) ?_
          | refine al_op (op_field_ptr Try.underlying69 rfl info9 (by decide) rfl rfl rfl) rfl (by simp) ?_
        first
          | refine al_op (op_load_rptr Try.underlying9 info9 rfl rfl) rfl (by simp) ?_
          | refine al_op (op_load_map Try.underlying9 info9 rfl rfl (by omega) rfl) rfl (by simp) ?_
          | refine al_op (op_load_ptr Try.underlying9 info9 rfl rfl rfl rfl) rfl (by simp) ?_
        refine al_op (op_buildSlice Try.underlying22 info9 rfl rfl (by decide) rfl (by decide) rfl (by first | rfl | (repeat (first | exact parts_nil | refine parts_cons rfl (by repeat (first | exact all_live_nil | refine all_live_clo rfl ?_ | refine all_live_slice rfl ?_ | refine all_live_map rfl ?_ | refine all_live_ptr rfl ?_)) ?_))) rfl rfl rfl) rfl (by simp) ?_
        first
          | (refine al_opR (op_append_one (n.outs.getD i default).1 Try.underlying22 Try.underlying22 rfl info9 rfl rfl (by decide) rfl rfl rfl (by first | rfl | simp) rfl rfl (by first | omega | (simp; done) | (simp; omega)) (by show _ * 16 ≤ _; first | omega | (simp; done) | (simp; omega))) rfl (by simp) ?_; rintro _ _ ⟨ver60, rfl, rfl⟩)
          | (refine al_opR (op_append_map Try.underlying22 Try.underlying22 rfl info9 rfl rfl (by decide) rfl rfl rfl (by first | rfl | simp) rfl (by first | exact .list _ | exact .vnil | exact .nil | exact .row _ _ _ _ rfl (by first | rfl | simp)) rfl (by first | omega | (simp; done) | (simp; omega)) (by show _ * 16 ≤ _; first | omega | (simp; done) | (simp; omega))) rfl (by simp) ?_; rintro _ _ ⟨ver60, rfl, rfl⟩)
        refine al_op (op_assign rfl) rfl (by simp) ?_
        refine al_nil ?_
        refine aw_region ?_
        refine al_op (op_add rfl rfl (by first | exact wrap_i64 (by omega) (by omega))) rfl (by simp) ?_
        refine al_op (op_move rfl) rfl (by simp) ?_
        refine al_nil ?_
        refine ⟨i + 1, ver60, ?_, ?_, ?_, ?_, ?_⟩
        · omega
        · omega
        · refine sub_cons (get_as rfl ?_) ?_; rotate_left; refine sub_cons (get_as rfl ?_) ?_; rotate_left; exact sub_nil
          all_goals (first | rfl | (simp; done) | (simp only [take_succ_getD n.outs i (by omega), List.map_append, List.map_cons, List.map_nil] <;> rfl))
        · repeat (first | exact subx_refl | exact subx_del | refine subx_put rfl ?_)
        · (simp only [take_succ_getD n.outs i (by omega), List.map_append, List.map_cons, List.map_nil] <;> rfl)
      · have gh6 := h6
        try simp only [decide_eq_true_eq, decide_eq_false_iff_not, Bool.not_eq_true', Bool.not_eq_false', beq_iff_eq, bne_iff_ne, beq_eq_false_iff_ne, bne_eq_false_iff_eq, Bool.or_eq_true, Bool.and_eq_true, Bool.or_eq_false_iff, gt_iff_lt, ge_iff_le] at h6
        refine aw_exit ?_
        obtain rfl : i = n.outs.length := by omega
        refine aw_seq ?_
        refine aw_seq ?_
        have c2 := names_take b2
        have c3 := names_take b3
        refine aw_region ?_
        first
          | refine al_op (op_field_rptr Try.underlying27 rfl info22 (by decide) rfl rfl) rfl (by simp) ?_
          | refine al_op (op_field_ptr Try.underlying27 rfl info22 (by decide) rfl rfl rfl) rfl (by simp) ?_
        first
          | refine al_op (op_load_rptr Try.underlying22 info22 rfl rfl) rfl (by simp) ?_
          | refine al_op (op_load_map Try.underlying22 info22 rfl rfl (by omega) rfl) rfl (by simp) ?_
          | refine al_op (op_load_ptr Try.underlying22 info22 rfl rfl rfl rfl) rfl (by simp) ?_
        first
          | refine al_callp into61 rfl rfl rfl ((r_Names _ (by assumption)) _) (by simp) ?_
          | refine al_callp into61 rfl rfl rfl (acp_lent (lend_cons (by first | exact lend_same | exact .leaf _ _ (.vnil _) | exact .leaf _ _ (.nil _) | exact lend_whole rfl (by first | rfl | simp) (clo_map (fun _ => rfl))) lend_nil) (r_Names _ (by assumption)) rfl) (by simp) ?_
        refine al_op (op_not rfl) rfl (by simp) ?_
        refine al_op (op_move rfl) rfl (by simp) ?_
        apply al_or 4 66 70 rfl
        · intro h7; have gh7 := h7
          try simp only [decide_eq_true_eq, decide_eq_false_iff_not, Bool.not_eq_true', Bool.not_eq_false', beq_iff_eq, bne_iff_ne, beq_eq_false_iff_ne, bne_eq_false_iff_eq, Bool.or_eq_true, Bool.and_eq_true, Bool.or_eq_false_iff, gt_iff_lt, ge_iff_le] at h7
          refine al_take (op_move rfl) rfl rfl rfl rfl (by simp) ?_
          first
            | refine al_callp_take into61 rfl rfl rfl rfl rfl rfl ((r_Names _ (by assumption)) _) (by simp) ?_
            | refine al_callp_take into61 rfl rfl rfl rfl rfl rfl (acp_lent (lend_cons (by first | exact lend_same | exact .leaf _ _ (.vnil _) | exact .leaf _ _ (.nil _) | exact lend_whole rfl (by first | rfl | simp) (clo_map (fun _ => rfl))) lend_nil) (r_Names _ (by assumption)) rfl) (by simp) ?_
          refine al_take (op_not rfl) rfl rfl rfl rfl (by simp) ?_
          first
            | refine al_op (op_pick rfl rfl) rfl (by simp) ?_
            | refine al_op (op_or rfl rfl rfl) rfl (by simp) ?_
          refine al_nil ⟨rfl, rfl, rfl, keep_of ?_⟩
          repeat (first | exact subx_refl | exact subx_known rfl gh7 subx_refl | refine subx_put rfl ?_)
        · intro h7; have gh7 := h7
          try simp only [decide_eq_true_eq, decide_eq_false_iff_not, Bool.not_eq_true', Bool.not_eq_false', beq_iff_eq, bne_iff_ne, beq_eq_false_iff_ne, bne_eq_false_iff_eq, Bool.or_eq_true, Bool.and_eq_true, Bool.or_eq_false_iff, gt_iff_lt, ge_iff_le] at h7
          refine al_pass rfl rfl rfl rfl (by simp) ?_
          refine al_pass rfl rfl rfl rfl (by simp) ?_
          refine al_pass rfl rfl rfl rfl (by simp) ?_
          first
            | refine al_op (op_pick rfl rfl) rfl (by simp) ?_
            | refine al_op (op_or rfl rfl rfl) rfl (by simp) ?_
          refine al_nil ⟨rfl, rfl, rfl, keep_of ?_⟩
          repeat (first | exact subx_refl | exact subx_known rfl gh7 subx_refl | refine subx_put rfl ?_)
        refine al_op (op_move rfl) rfl (by simp) ?_
        apply al_or 4 71 75 rfl
        · intro h8; have gh8 := h8
          try simp only [decide_eq_true_eq, decide_eq_false_iff_not, Bool.not_eq_true', Bool.not_eq_false', beq_iff_eq, bne_iff_ne, beq_eq_false_iff_ne, bne_eq_false_iff_eq, Bool.or_eq_true, Bool.and_eq_true, Bool.or_eq_false_iff, gt_iff_lt, ge_iff_le] at h8
          refine al_take (op_move rfl) rfl rfl rfl rfl (by simp) ?_
          first
            | refine al_callp_take into61 rfl rfl rfl rfl rfl rfl ((r_Names _ (by assumption)) _) (by simp) ?_
            | refine al_callp_take into61 rfl rfl rfl rfl rfl rfl (acp_lent (lend_cons (by first | exact lend_same | exact .leaf _ _ (.vnil _) | exact .leaf _ _ (.nil _) | exact lend_whole rfl (by first | rfl | simp) (clo_map (fun _ => rfl))) lend_nil) (r_Names _ (by assumption)) rfl) (by simp) ?_
          refine al_take (op_not rfl) rfl rfl rfl rfl (by simp) ?_
          first
            | refine al_op (op_pick rfl rfl) rfl (by simp) ?_
            | refine al_op (op_or rfl rfl rfl) rfl (by simp) ?_
          refine al_nil ⟨rfl, rfl, rfl, keep_of ?_⟩
          repeat (first | exact subx_refl | exact subx_known rfl gh8 subx_refl | refine subx_put rfl ?_)
        · intro h8; have gh8 := h8
          try simp only [decide_eq_true_eq, decide_eq_false_iff_not, Bool.not_eq_true', Bool.not_eq_false', beq_iff_eq, bne_iff_ne, beq_eq_false_iff_ne, bne_eq_false_iff_eq, Bool.or_eq_true, Bool.and_eq_true, Bool.or_eq_false_iff, gt_iff_lt, ge_iff_le] at h8
          refine al_pass rfl rfl rfl rfl (by simp) ?_
          refine al_pass rfl rfl rfl rfl (by simp) ?_
          refine al_pass rfl rfl rfl rfl (by simp) ?_
          first
            | refine al_op (op_pick rfl rfl) rfl (by simp) ?_
            | refine al_op (op_or rfl rfl rfl) rfl (by simp) ?_
          refine al_nil ⟨rfl, rfl, rfl, keep_of ?_⟩
          repeat (first | exact subx_refl | exact subx_known rfl gh8 subx_refl | refine subx_put rfl ?_)
        refine al_nil ?_
        refine aw_cond rfl (fun h9 => ?_) (fun h9 => ?_)
        · have gh9 := h9
          try simp only [decide_eq_true_eq, decide_eq_false_iff_not, Bool.not_eq_true', Bool.not_eq_false', beq_iff_eq, bne_iff_ne, beq_eq_false_iff_ne, bne_eq_false_iff_eq, Bool.or_eq_true, Bool.and_eq_true, Bool.or_eq_false_iff, gt_iff_lt, ge_iff_le] at h9
          refine aw_seq ?_
          refine aw_region ?_
          refine al_op (op_assign rfl) rfl (by simp) ?_
          refine al_nil ?_
          refine aw_freeze (fun _ => false) (fsub_cons (t := 2) rfl (.leaf _ _ (.same _)) fsub_nil) ?_
          refine aw_ret ?_
          refine ⟨_, res_1 rfl rfl, ?_, rfl⟩
          rw [head_names (by simpa [List.take_length] using gh9)]
        · have gh9 := h9
          try simp only [decide_eq_true_eq, decide_eq_false_iff_not, Bool.not_eq_true', Bool.not_eq_false', beq_iff_eq, bne_iff_ne, beq_eq_false_iff_ne, bne_eq_false_iff_eq, Bool.or_eq_true, Bool.and_eq_true, Bool.or_eq_false_iff, gt_iff_lt, ge_iff_le] at h9
          have hh : n.okHead = true := head_all (by omega) (by simpa [List.take_length] using gh9)
          obtain ⟨e1, e2, e3, e4⟩ := okHead_len hh
          refine aw_skip ?_
          refine aw_seq ?_
          refine aw_seq ?_
          refine aw_region ?_
          first
            | refine al_op (op_field_rptr Try.underlying27 rfl info24 (by decide) rfl rfl) rfl (by simp) ?_
            | refine al_op (op_field_ptr Try.underlying27 rfl info24 (by decide) rfl rfl rfl) rfl (by simp) ?_
          first
            | refine al_op (op_load_rptr Try.underlying24 info24 rfl rfl) rfl (by simp) ?_
            | refine al_op (op_load_map Try.underlying24 info24 rfl rfl (by omega) rfl) rfl (by simp) ?_
            | refine al_op (op_load_ptr Try.underlying24 info24 rfl rfl rfl rfl) rfl (by simp) ?_
          first
            | refine al_op (op_len_map Try.underlying24 rfl) rfl (by simp) ?_
            | refine al_op (op_len_slice Try.underlying24 rfl rfl) rfl (by simp) ?_
            | refine al_op (op_len_list Try.underlying24 rfl) rfl (by simp) ?_
            | refine al_op (op_len_v Try.underlying24 rfl) rfl (by simp) ?_
            | refine al_op (op_len_nil Try.underlying24 rfl) rfl (by simp) ?_
          refine al_op (op_move rfl) rfl (by simp) ?_
          refine al_nil ?_
          refine aw_block ?_
          refine aw_forT (ι := Nat) [2, 79] [10] (fun i => n.gates.length - i) (fun i => i ≤ n.gates.length ∧ allTo n.gateAt i = true) (fun i => ([(79, .v (.int .i64 (i)))] : Env)) (fun i s => s) (0) ?_ ?_ ?_ (fun i hinv => ?_)
          · exact ⟨Nat.zero_le _, rfl⟩
          · refine sub_cons (get_as rfl ?_) ?_; rotate_left; exact sub_nil
            all_goals (first | rfl | simp)
          · rfl
          have hi := hinv.1
          refine aw_seq ?_
          refine aw_region ?_
          refine al_op (op_lss rfl rfl) rfl (by simp) ?_
          refine al_nil ?_
          refine aw_seq ?_
          refine aw_cond rfl (fun h10 => ?_) (fun h10 => ?_)
          · have gh10 := h10
            try simp only [decide_eq_true_eq, decide_eq_false_iff_not, Bool.not_eq_true', Bool.not_eq_false', beq_iff_eq, bne_iff_ne, beq_eq_false_iff_ne, bne_eq_false_iff_eq, Bool.or_eq_true, Bool.and_eq_true, Bool.or_eq_false_iff, gt_iff_lt, ge_iff_le] at h10
            refine aw_skip ?_
            refine aw_seq ?_
            refine aw_block ?_
            refine aw_seq ?_
            refine aw_region ?_
            refine al_op (op_move rfl) rfl (by simp) ?_
            first
              | refine al_op (op_index_map default Try.underlying24 info86 rfl rfl rfl (by first | (with_reducible exact Int.toNat_natCast _) | rfl) (by omega) (by omega)) rfl (by simp) ?_
              | refine al_op (op_index_slice Try.underlying24 info86 rfl rfl rfl rfl (by omega) (by omega)) rfl (by simp) ?_
              | refine al_op (op_index_list Try.underlying24 info86 rfl rfl rfl (by decide) rfl) rfl (by simp) ?_
            first
              | refine al_op (op_load_rptr Try.underlying86 info86 rfl rfl) rfl (by simp) ?_
              | refine al_op (op_load_map Try.underlying86 info86 rfl rfl (by omega) rfl) rfl (by simp) ?_
              | refine al_op (op_load_ptr Try.underlying86 info86 rfl rfl rfl rfl) rfl (by simp) ?_
            (refine al_opR (op_alloc 10 info86 rfl rfl) rfl (by simp) ?_; rintro _ _ ⟨ver10, rfl, rfl⟩)
            refine al_op (op_assign rfl) rfl (by simp) ?_
            first
              | refine al_op (op_store_ptr info86 rfl rfl rfl rfl rfl rfl (by first | rfl | exact live_one rfl | (repeat (first | exact all_live_nil | refine all_live_clo rfl ?_ | refine all_live_slice rfl ?_ | refine all_live_map rfl ?_ | refine all_live_ptr rfl ?_))) (by decide)) rfl (by simp) ?_
              | refine al_op (op_store_ptr info86 rfl rfl rfl rfl rfl rfl (by first | rfl | exact live_one rfl | (repeat (first | exact all_live_nil | refine all_live_clo rfl ?_ | refine all_live_slice rfl ?_ | refine all_live_map rfl ?_ | refine all_live_ptr rfl ?_))) (Nat.le_of_ble_eq_true rfl)) rfl (by simp) ?_
            refine al_nil ?_
            refine aw_seq ?_
            have hgi := b9 _ (getD_mem (v := n.gates) (i := i) (by omega))
            refine aw_any (Checked.mixed Try.checked) ?_
            apply aany_seg (p := 0) (q := 9) (by kernel_rfl) rfl (by decide)
            ·
              first
                | apply ql_plain rfl (op_index_arptr Try.underlying86 info3 rfl rfl rfl (by decide) (by decide))
                | apply ql_plain rfl (op_index_aptr Try.underlying86 info3 rfl rfl rfl rfl (by decide) (by decide))
              first
                | apply ql_plain rfl (op_load_rptr Try.underlying3 info3 rfl rfl)
                | apply ql_plain rfl (op_load_map Try.underlying3 info3 rfl rfl (by omega) rfl)
                | apply ql_plain rfl (op_load_ptr Try.underlying3 info3 rfl rfl rfl rfl)
              first
                | apply ql_plain rfl (op_load_rptr Try.underlying27 info27 rfl rfl)
                | apply ql_plain rfl (op_load_map Try.underlying27 info27 rfl rfl (by omega) rfl)
                | apply ql_plain rfl (op_load_ptr Try.underlying27 info27 rfl rfl rfl rfl)
              first
                | apply ql_call into63 rfl rfl rfl ((r_first _ (by assumption)) _)
                | apply ql_call into63 rfl rfl rfl (acp_lent (lend_cons (by first | exact lend_same | exact .leaf _ _ (.vnil _) | exact .leaf _ _ (.nil _) | exact lend_whole rfl (by first | rfl | simp) (clo_map (fun _ => rfl))) lend_nil) (r_first _ (by assumption)) rfl)
              apply ql_plain rfl (op_move rfl)
              apply ql_plain rfl (op_add rfl rfl (by first | exact wrap_i64 (by omega) (by omega)))
              first
                | apply ql_call into62 rfl rfl rfl ((r_lit _ _ (by omega)) _)
                | apply ql_call into62 rfl rfl rfl (acp_lent (lend_cons (by first | exact lend_same | exact .leaf _ _ (.vnil _) | exact .leaf _ _ (.nil _) | exact lend_whole rfl (by first | rfl | simp) (clo_map (fun _ => rfl))) (lend_cons (by first | exact lend_same | exact .leaf _ _ (.vnil _) | exact .leaf _ _ (.nil _) | exact lend_whole rfl (by first | rfl | simp) (clo_map (fun _ => rfl))) lend_nil)) (r_lit _ _ (by omega)) rfl)
              apply ql_plain rfl (op_not rfl)
              apply ql_plain rfl (op_move rfl)
              exact ql_nil
            · simp
            apply aany_or 9 18 92 101 (by kernel_rfl) rfl (by decide) rfl (by simp)
            · intro h11; have gh11 := h11
              try simp only [decide_eq_true_eq, decide_eq_false_iff_not, Bool.not_eq_true', Bool.not_eq_false', beq_iff_eq, bne_iff_ne, beq_eq_false_iff_ne, bne_eq_false_iff_eq, Bool.or_eq_true, Bool.and_eq_true, Bool.or_eq_false_iff, gt_iff_lt, ge_iff_le] at h11
              apply ql_ex
              ·
                first
                  | apply ql_take rfl rfl rfl rfl (op_index_arptr Try.underlying86 info3 rfl rfl rfl (by decide) (by decide))
                  | apply ql_take rfl rfl rfl rfl (op_index_aptr Try.underlying86 info3 rfl rfl rfl rfl (by decide) (by decide))
                first
                  | apply ql_take rfl rfl rfl rfl (op_load_rptr Try.underlying3 info3 rfl rfl)
                  | apply ql_take rfl rfl rfl rfl (op_load_map Try.underlying3 info3 rfl rfl (by omega) rfl)
                  | apply ql_take rfl rfl rfl rfl (op_load_ptr Try.underlying3 info3 rfl rfl rfl rfl)
                first
                  | apply ql_take rfl rfl rfl rfl (op_load_rptr Try.underlying27 info27 rfl rfl)
                  | apply ql_take rfl rfl rfl rfl (op_load_map Try.underlying27 info27 rfl rfl (by omega) rfl)
                  | apply ql_take rfl rfl rfl rfl (op_load_ptr Try.underlying27 info27 rfl rfl rfl rfl)
                first
                  | apply ql_call_take into63 rfl rfl rfl rfl rfl rfl ((r_first _ (by assumption)) _)
                  | apply ql_call_take into63 rfl rfl rfl rfl rfl rfl (acp_lent (lend_cons (by first | exact lend_same | exact .leaf _ _ (.vnil _) | exact .leaf _ _ (.nil _) | exact lend_whole rfl (by first | rfl | simp) (clo_map (fun _ => rfl))) lend_nil) (r_first _ (by assumption)) rfl)
                apply ql_take rfl rfl rfl rfl (op_move rfl)
                apply ql_take rfl rfl rfl rfl (op_add rfl rfl (by first | exact wrap_i64 (by omega) (by omega)))
                first
                  | apply ql_call_take into62 rfl rfl rfl rfl rfl rfl ((r_lit _ _ (by omega)) _)
                  | apply ql_call_take into62 rfl rfl rfl rfl rfl rfl (acp_lent (lend_cons (by first | exact lend_same | exact .leaf _ _ (.vnil _) | exact .leaf _ _ (.nil _) | exact lend_whole rfl (by first | rfl | simp) (clo_map (fun _ => rfl))) (lend_cons (by first | exact lend_same | exact .leaf _ _ (.vnil _) | exact .leaf _ _ (.nil _) | exact lend_whole rfl (by first | rfl | simp) (clo_map (fun _ => rfl))) lend_nil)) (r_lit _ _ (by omega)) rfl)
                apply ql_take rfl rfl rfl rfl (op_not rfl)
                first
                  | apply ql_plain rfl (op_pick rfl rfl)
                  | apply ql_plain rfl (op_or rfl rfl rfl)
                exact ql_nil
              · rfl
              · repeat (first | exact subx_refl | exact subx_known rfl gh11 subx_refl | refine subx_put rfl ?_)
            · intro h11; have gh11 := h11
              try simp only [decide_eq_true_eq, decide_eq_false_iff_not, Bool.not_eq_true', Bool.not_eq_false', beq_iff_eq, bne_iff_ne, beq_eq_false_iff_ne, bne_eq_false_iff_eq, Bool.or_eq_true, Bool.and_eq_true, Bool.or_eq_false_iff, gt_iff_lt, ge_iff_le] at h11
              apply ql_ex
              ·
                apply ql_pass rfl rfl rfl rfl
                apply ql_pass rfl rfl rfl rfl
                apply ql_pass rfl rfl rfl rfl
                apply ql_pass rfl rfl rfl rfl
                apply ql_pass rfl rfl rfl rfl
                apply ql_pass rfl rfl rfl rfl
                apply ql_pass rfl rfl rfl rfl
                apply ql_pass rfl rfl rfl rfl
                first
                  | apply ql_plain rfl (op_pick rfl rfl)
                  | apply ql_plain rfl (op_or rfl rfl rfl)
                exact ql_nil
              · rfl
              · repeat (first | exact subx_refl | exact subx_known rfl gh11 subx_refl | refine subx_put rfl ?_)
            refine aany_end rfl (by kernel_rfl) ?_
            refine aw_cond rfl (fun h12 => ?_) (fun h12 => ?_)
            · have gh12 := h12
              try simp only [decide_eq_true_eq, decide_eq_false_iff_not, Bool.not_eq_true', Bool.not_eq_false', beq_iff_eq, bne_iff_ne, beq_eq_false_iff_ne, bne_eq_false_iff_eq, Bool.or_eq_true, Bool.and_eq_true, Bool.or_eq_false_iff, gt_iff_lt, ge_iff_le] at h12
              refine aw_seq ?_
              refine aw_region ?_
              refine al_op (op_assign rfl) rfl (by simp) ?_
              refine al_nil ?_
              refine aw_freeze (fun _ => false) (fsub_cons (t := 2) rfl (.leaf _ _ (.same _)) fsub_nil) ?_
              refine aw_ret ?_
              refine ⟨_, res_1 rfl rfl, ?_, rfl⟩
              rw [Net.valid_gate i (by omega) (by rw [gate_lits]; exact not_or_not gh12)]
            · have gh12 := h12
              try simp only [decide_eq_true_eq, decide_eq_false_iff_not, Bool.not_eq_true', Bool.not_eq_false', beq_iff_eq, bne_iff_ne, beq_eq_false_iff_ne, bne_eq_false_iff_eq, Bool.or_eq_true, Bool.and_eq_true, Bool.or_eq_false_iff, gt_iff_lt, ge_iff_le] at h12
              refine aw_skip ?_
              refine aw_region ?_
              refine al_op (op_add rfl rfl (by first | exact wrap_i64 (by omega) (by omega))) rfl (by simp) ?_
              refine al_op (op_move rfl) rfl (by simp) ?_
              refine al_nil ?_
              refine ⟨i + 1, ?_, ?_, ?_, ?_, ?_⟩
              · omega
              · exact ⟨by omega, allTo_succ hinv.2 (by rw [gate_lits]; exact not_or_not gh12)⟩
              · refine sub_cons (get_as rfl ?_) ?_; rotate_left; exact sub_nil
                all_goals (first | rfl | simp)
              · repeat (first | exact subx_refl | exact subx_del | refine subx_put rfl ?_)
              · rfl
          · have gh10 := h10
            try simp only [decide_eq_true_eq, decide_eq_false_iff_not, Bool.not_eq_true', Bool.not_eq_false', beq_iff_eq, bne_iff_ne, beq_eq_false_iff_ne, bne_eq_false_iff_eq, Bool.or_eq_true, Bool.and_eq_true, Bool.or_eq_false_iff, gt_iff_lt, ge_iff_le] at h10
            refine aw_exit ?_
            obtain rfl : i = n.gates.length := by omega
            have a79 := hinv.2
            clear hinv hi
            refine aw_seq ?_
            refine aw_any (Checked.mixed Try.checked) ?_
            apply aany_seg (p := 0) (q := 7) (by kernel_rfl) rfl (by decide)
            ·
              first
                | apply ql_plain rfl (op_load_rptr Try.underlying27 info27 rfl rfl)
                | apply ql_plain rfl (op_load_map Try.underlying27 info27 rfl rfl (by omega) rfl)
                | apply ql_plain rfl (op_load_ptr Try.underlying27 info27 rfl rfl rfl rfl)
              first
                | apply ql_call into63 rfl rfl rfl ((r_first _ (by assumption)) _)
                | apply ql_call into63 rfl rfl rfl (acp_lent (lend_cons (by first | exact lend_same | exact .leaf _ _ (.vnil _) | exact .leaf _ _ (.nil _) | exact lend_whole rfl (by first | rfl | simp) (clo_map (fun _ => rfl))) lend_nil) (r_first _ (by assumption)) rfl)
              first
                | apply ql_plain rfl (op_field_rptr Try.underlying27 rfl info24 (by decide) rfl rfl)
                | apply ql_plain rfl (op_field_ptr Try.underlying27 rfl info24 (by decide) rfl rfl rfl)
              first
                | apply ql_plain rfl (op_load_rptr Try.underlying24 info24 rfl rfl)
                | apply ql_plain rfl (op_load_map Try.underlying24 info24 rfl rfl (by omega) rfl)
                | apply ql_plain rfl (op_load_ptr Try.underlying24 info24 rfl rfl rfl rfl)
              first
                | apply ql_plain rfl (op_len_map Try.underlying24 rfl)
                | apply ql_plain rfl (op_len_slice Try.underlying24 rfl rfl)
                | apply ql_plain rfl (op_len_list Try.underlying24 rfl)
                | apply ql_plain rfl (op_len_v Try.underlying24 rfl)
                | apply ql_plain rfl (op_len_nil Try.underlying24 rfl)
              apply ql_plain rfl (op_add rfl rfl (by first | exact wrap_i64 (by omega) (by omega)))
              apply ql_plain rfl (op_assign rfl)
              exact ql_nil
            · simp
            refine aany_end rfl (by kernel_rfl) ?_
            refine aw_seq ?_
            refine aw_seq ?_
            refine aw_region ?_
            first
              | refine al_op (op_field_rptr Try.underlying27 rfl info23 (by decide) rfl rfl) rfl (by simp) ?_
              | refine al_op (op_field_ptr Try.underlying27 rfl info23 (by decide) rfl rfl rfl) rfl (by simp) ?_
            first
              | refine al_op (op_load_rptr Try.underlying23 info23 rfl rfl) rfl (by simp) ?_
              | refine al_op (op_load_map Try.underlying23 info23 rfl rfl (by omega) rfl) rfl (by simp) ?_
              | refine al_op (op_load_ptr Try.underlying23 info23 rfl rfl rfl rfl) rfl (by simp) ?_
            first
              | refine al_op (op_len_map Try.underlying23 rfl) rfl (by simp) ?_
              | refine al_op (op_len_slice Try.underlying23 rfl rfl) rfl (by simp) ?_
              | refine al_op (op_len_list Try.underlying23 rfl) rfl (by simp) ?_
              | refine al_op (op_len_v Try.underlying23 rfl) rfl (by simp) ?_
              | refine al_op (op_len_nil Try.underlying23 rfl) rfl (by simp) ?_
            refine al_op (op_move rfl) rfl (by simp) ?_
            refine al_nil ?_
            refine aw_block ?_
            refine aw_forT (ι := Nat) [2, 112] [13] (fun i => n.regs.length - i) (fun i => i ≤ n.regs.length ∧ allTo n.regAt i = true) (fun i => ([(112, .v (.int .i64 (i)))] : Env)) (fun i s => s) (0) ?_ ?_ ?_ (fun i hinv => ?_)
            · exact ⟨Nat.zero_le _, rfl⟩
            · refine sub_cons (get_as rfl ?_) ?_; rotate_left; exact sub_nil
              all_goals (first | rfl | simp)
            · rfl
            have hi := hinv.1
            refine aw_seq ?_
            refine aw_region ?_
            refine al_op (op_lss rfl rfl) rfl (by simp) ?_
            refine al_nil ?_
            refine aw_seq ?_
            refine aw_cond rfl (fun h13 => ?_) (fun h13 => ?_)
            · have gh13 := h13
              try simp only [decide_eq_true_eq, decide_eq_false_iff_not, Bool.not_eq_true', Bool.not_eq_false', beq_iff_eq, bne_iff_ne, beq_eq_false_iff_ne, bne_eq_false_iff_eq, Bool.or_eq_true, Bool.and_eq_true, Bool.or_eq_false_iff, gt_iff_lt, ge_iff_le] at h13
              refine aw_skip ?_
              refine aw_seq ?_
              refine aw_block ?_
              refine aw_seq ?_
              refine aw_region ?_
              first
                | refine al_op (op_index_map default Try.underlying23 info93 rfl rfl rfl (by first | (with_reducible exact Int.toNat_natCast _) | rfl) (by omega) (by omega)) rfl (by simp) ?_
                | refine al_op (op_index_slice Try.underlying23 info93 rfl rfl rfl rfl (by omega) (by omega)) rfl (by simp) ?_
                | refine al_op (op_index_list Try.underlying23 info93 rfl rfl rfl (by decide) rfl) rfl (by simp) ?_
              first
                | refine al_op (op_load_rptr Try.underlying93 info93 rfl rfl) rfl (by simp) ?_
                | refine al_op (op_load_map Try.underlying93 info93 rfl rfl (by omega) rfl) rfl (by simp) ?_
                | refine al_op (op_load_ptr Try.underlying93 info93 rfl rfl rfl rfl) rfl (by simp) ?_
              (refine al_opR (op_alloc 13 info93 rfl rfl) rfl (by simp) ?_; rintro _ _ ⟨ver13, rfl, rfl⟩)
              first
                | refine al_op (op_store_ptr info93 rfl rfl rfl rfl rfl rfl (by first | rfl | exact live_one rfl | (repeat (first | exact all_live_nil | refine all_live_clo rfl ?_ | refine all_live_slice rfl ?_ | refine all_live_map rfl ?_ | refine all_live_ptr rfl ?_))) (by decide)) rfl (by simp) ?_
                | refine al_op (op_store_ptr info93 rfl rfl rfl rfl rfl rfl (by first | rfl | exact live_one rfl | (repeat (first | exact all_live_nil | refine all_live_clo rfl ?_ | refine all_live_slice rfl ?_ | refine all_live_map rfl ?_ | refine all_live_ptr rfl ?_))) (Nat.le_of_ble_eq_true rfl)) rfl (by simp) ?_
              refine al_nil ?_
              refine aw_seq ?_
              have hgi := b10 _ (getD_mem (v := n.regs) (i := i) (by omega))
              refine aw_region ?_
              first
                | refine al_op (op_field_rptr Try.underlying93 rfl info3 (by decide) rfl rfl) rfl (by simp) ?_
                | refine al_op (op_field_ptr Try.underlying93 rfl info3 (by decide) rfl rfl rfl) rfl (by simp) ?_
              first
                | refine al_op (op_load_rptr Try.underlying3 info3 rfl rfl) rfl (by simp) ?_
                | refine al_op (op_load_map Try.underlying3 info3 rfl rfl (by omega) rfl) rfl (by simp) ?_
                | refine al_op (op_load_ptr Try.underlying3 info3 rfl rfl rfl rfl) rfl (by simp) ?_
              refine al_op (op_move rfl) rfl (by simp) ?_
              first
                | refine al_callp into62 rfl rfl rfl ((r_lit _ _ (by omega)) _) (by simp) ?_
                | refine al_callp into62 rfl rfl rfl (acp_lent (lend_cons (by first | exact lend_same | exact .leaf _ _ (.vnil _) | exact .leaf _ _ (.nil _) | exact lend_whole rfl (by first | rfl | simp) (clo_map (fun _ => rfl))) (lend_cons (by first | exact lend_same | exact .leaf _ _ (.vnil _) | exact .leaf _ _ (.nil _) | exact lend_whole rfl (by first | rfl | simp) (clo_map (fun _ => rfl))) lend_nil)) (r_lit _ _ (by omega)) rfl) (by simp) ?_
              refine al_op (op_not rfl) rfl (by simp) ?_
              refine al_nil ?_
              refine aw_cond rfl (fun h14 => ?_) (fun h14 => ?_)
              · have gh14 := h14
                try simp only [decide_eq_true_eq, decide_eq_false_iff_not, Bool.not_eq_true', Bool.not_eq_false', beq_iff_eq, bne_iff_ne, beq_eq_false_iff_ne, bne_eq_false_iff_eq, Bool.or_eq_true, Bool.and_eq_true, Bool.or_eq_false_iff, gt_iff_lt, ge_iff_le] at h14
                refine aw_seq ?_
                refine aw_region ?_
                refine al_op (op_assign rfl) rfl (by simp) ?_
                refine al_nil ?_
                refine aw_freeze (fun _ => false) (fsub_cons (t := 2) rfl (.leaf _ _ (.same _)) fsub_nil) ?_
                refine aw_ret ?_
                refine ⟨_, res_1 rfl rfl, ?_, rfl⟩
                rw [Net.valid_reg i (by omega) (by rw [reg_lits (b8 _ (getD_mem (v := n.regs) (i := i) (by omega))).1, show litOK (n.regs.getD i default).2.2 (n.first + n.gates.length) = false from by simpa using gh14, Bool.and_false])]
              · have gh14 := h14
                try simp only [decide_eq_true_eq, decide_eq_false_iff_not, Bool.not_eq_true', Bool.not_eq_false', beq_iff_eq, bne_iff_ne, beq_eq_false_iff_ne, bne_eq_false_iff_eq, Bool.or_eq_true, Bool.and_eq_true, Bool.or_eq_false_iff, gt_iff_lt, ge_iff_le] at h14
                refine aw_skip ?_
                refine aw_region ?_
                refine al_op (op_add rfl rfl (by first | exact wrap_i64 (by omega) (by omega))) rfl (by simp) ?_
                refine al_op (op_move rfl) rfl (by simp) ?_
                refine al_nil ?_
                refine ⟨i + 1, ?_, ?_, ?_, ?_, ?_⟩
                · omega
                · exact ⟨by omega, allTo_succ hinv.2 (by rw [reg_lits (b8 _ (getD_mem (v := n.regs) (i := i) (by omega))).1, allTo_iff.1 a35 i (by omega)]; simpa using gh14)⟩
                · refine sub_cons (get_as rfl ?_) ?_; rotate_left; exact sub_nil
                  all_goals (first | rfl | simp)
                · repeat (first | exact subx_refl | exact subx_del | refine subx_put rfl ?_)
                · rfl
            · have gh13 := h13
              try simp only [decide_eq_true_eq, decide_eq_false_iff_not, Bool.not_eq_true', Bool.not_eq_false', beq_iff_eq, bne_iff_ne, beq_eq_false_iff_ne, bne_eq_false_iff_eq, Bool.or_eq_true, Bool.and_eq_true, Bool.or_eq_false_iff, gt_iff_lt, ge_iff_le] at h13
              refine aw_exit ?_
              obtain rfl : i = n.regs.length := by omega
              have a112 := hinv.2
              clear hinv hi
              refine aw_seq ?_
              refine aw_seq ?_
              refine aw_region ?_
              first
                | refine al_op (op_field_rptr Try.underlying27 rfl info25 (by decide) rfl rfl) rfl (by simp) ?_
                | refine al_op (op_field_ptr Try.underlying27 rfl info25 (by decide) rfl rfl rfl) rfl (by simp) ?_
              first
                | refine al_op (op_load_rptr Try.underlying25 info25 rfl rfl) rfl (by simp) ?_
                | refine al_op (op_load_map Try.underlying25 info25 rfl rfl (by omega) rfl) rfl (by simp) ?_
                | refine al_op (op_load_ptr Try.underlying25 info25 rfl rfl rfl rfl) rfl (by simp) ?_
              first
                | refine al_op (op_len_map Try.underlying25 rfl) rfl (by simp) ?_
                | refine al_op (op_len_slice Try.underlying25 rfl rfl) rfl (by simp) ?_
                | refine al_op (op_len_list Try.underlying25 rfl) rfl (by simp) ?_
                | refine al_op (op_len_v Try.underlying25 rfl) rfl (by simp) ?_
                | refine al_op (op_len_nil Try.underlying25 rfl) rfl (by simp) ?_
              refine al_op (op_move rfl) rfl (by simp) ?_
              refine al_nil ?_
              refine aw_block ?_
              refine aw_forT (ι := Nat) [2, 125] [15] (fun i => n.outs.length - i) (fun i => i ≤ n.outs.length ∧ allTo n.outAt i = true) (fun i => ([(125, .v (.int .i64 (i)))] : Env)) (fun i s => s) (0) ?_ ?_ ?_ (fun i hinv => ?_)
              · exact ⟨Nat.zero_le _, rfl⟩
              · refine sub_cons (get_as rfl ?_) ?_; rotate_left; exact sub_nil
                all_goals (first | rfl | simp)
              · rfl
              have hi := hinv.1
              refine aw_seq ?_
              refine aw_region ?_
              refine al_op (op_lss rfl rfl) rfl (by simp) ?_
              refine al_nil ?_
              refine aw_seq ?_
              refine aw_cond rfl (fun h15 => ?_) (fun h15 => ?_)
              · have gh15 := h15
                try simp only [decide_eq_true_eq, decide_eq_false_iff_not, Bool.not_eq_true', Bool.not_eq_false', beq_iff_eq, bne_iff_ne, beq_eq_false_iff_ne, bne_eq_false_iff_eq, Bool.or_eq_true, Bool.and_eq_true, Bool.or_eq_false_iff, gt_iff_lt, ge_iff_le] at h15
                refine aw_skip ?_
                refine aw_seq ?_
                refine aw_block ?_
                refine aw_seq ?_
                refine aw_region ?_
                first
                  | refine al_op (op_index_map default Try.underlying25 info69 rfl rfl rfl (by first | (with_reducible exact Int.toNat_natCast _) | rfl) (by omega) (by omega)) rfl (by simp) ?_
                  | refine al_op (op_index_slice Try.underlying25 info69 rfl rfl rfl rfl (by omega) (by omega)) rfl (by simp) ?_
                  | refine al_op (op_index_list Try.underlying25 info69 rfl rfl rfl (by decide) rfl) rfl (by simp) ?_
                first
                  | refine al_op (op_load_rptr Try.underlying69 info69 rfl rfl) rfl (by simp) ?_
                  | refine al_op (op_load_map Try.underlying69 info69 rfl rfl (by omega) rfl) rfl (by simp) ?_
                  | refine al_op (op_load_ptr Try.underlying69 info69 rfl rfl rfl rfl) rfl (by simp) ?_
                (refine al_opR (op_alloc 15 info69 rfl rfl) rfl (by simp) ?_; rintro _ _ ⟨ver15, rfl, rfl⟩)
                first
                  | refine al_op (op_store_ptr info69 rfl rfl rfl rfl rfl rfl (by first | rfl | exact live_one rfl | (repeat (first | exact all_live_nil | refine all_live_clo rfl ?_ | refine all_live_slice rfl ?_ | refine all_live_map rfl ?_ | refine all_live_ptr rfl ?_))) (by decide)) rfl (by simp) ?_
                  | refine al_op (op_store_ptr info69 rfl rfl rfl rfl rfl rfl (by first | rfl | exact live_one rfl | (repeat (first | exact all_live_nil | refine all_live_clo rfl ?_ | refine all_live_slice rfl ?_ | refine all_live_map rfl ?_ | refine all_live_ptr rfl ?_))) (Nat.le_of_ble_eq_true rfl)) rfl (by simp) ?_
                refine al_nil ?_
                refine aw_seq ?_
                have hgi := b11 _ (getD_mem (v := n.outs) (i := i) (by omega))
                refine aw_region ?_
                first
                  | refine al_op (op_field_rptr Try.underlying69 rfl info3 (by decide) rfl rfl) rfl (by simp) ?_
                  | refine al_op (op_field_ptr Try.underlying69 rfl info3 (by decide) rfl rfl rfl) rfl (by simp) ?_
                first
                  | refine al_op (op_load_rptr Try.underlying3 info3 rfl rfl) rfl (by simp) ?_
                  | refine al_op (op_load_map Try.underlying3 info3 rfl rfl (by omega) rfl) rfl (by simp) ?_
                  | refine al_op (op_load_ptr Try.underlying3 info3 rfl rfl rfl rfl) rfl (by simp) ?_
                refine al_op (op_move rfl) rfl (by simp) ?_
                first
                  | refine al_callp into62 rfl rfl rfl ((r_lit _ _ (by omega)) _) (by simp) ?_
                  | refine al_callp into62 rfl rfl rfl (acp_lent (lend_cons (by first | exact lend_same | exact .leaf _ _ (.vnil _) | exact .leaf _ _ (.nil _) | exact lend_whole rfl (by first | rfl | simp) (clo_map (fun _ => rfl))) (lend_cons (by first | exact lend_same | exact .leaf _ _ (.vnil _) | exact .leaf _ _ (.nil _) | exact lend_whole rfl (by first | rfl | simp) (clo_map (fun _ => rfl))) lend_nil)) (r_lit _ _ (by omega)) rfl) (by simp) ?_
                refine al_op (op_not rfl) rfl (by simp) ?_
                refine al_nil ?_
                refine aw_cond rfl (fun h16 => ?_) (fun h16 => ?_)
                · have gh16 := h16
                  try simp only [decide_eq_true_eq, decide_eq_false_iff_not, Bool.not_eq_true', Bool.not_eq_false', beq_iff_eq, bne_iff_ne, beq_eq_false_iff_ne, bne_eq_false_iff_eq, Bool.or_eq_true, Bool.and_eq_true, Bool.or_eq_false_iff, gt_iff_lt, ge_iff_le] at h16
                  refine aw_seq ?_
                  refine aw_region ?_
                  refine al_op (op_assign rfl) rfl (by simp) ?_
                  refine al_nil ?_
                  refine aw_freeze (fun _ => false) (fsub_cons (t := 2) rfl (.leaf _ _ (.same _)) fsub_nil) ?_
                  refine aw_ret ?_
                  refine ⟨_, res_1 rfl rfl, ?_, rfl⟩
                  rw [Net.valid_out i (by omega) (by rw [out_lits]; simpa using gh16)]
                · have gh16 := h16
                  try simp only [decide_eq_true_eq, decide_eq_false_iff_not, Bool.not_eq_true', Bool.not_eq_false', beq_iff_eq, bne_iff_ne, beq_eq_false_iff_ne, bne_eq_false_iff_eq, Bool.or_eq_true, Bool.and_eq_true, Bool.or_eq_false_iff, gt_iff_lt, ge_iff_le] at h16
                  refine aw_skip ?_
                  refine aw_region ?_
                  refine al_op (op_add rfl rfl (by first | exact wrap_i64 (by omega) (by omega))) rfl (by simp) ?_
                  refine al_op (op_move rfl) rfl (by simp) ?_
                  refine al_nil ?_
                  refine ⟨i + 1, ?_, ?_, ?_, ?_, ?_⟩
                  · omega
                  · exact ⟨by omega, allTo_succ hinv.2 (by rw [out_lits]; simpa using gh16)⟩
                  · refine sub_cons (get_as rfl ?_) ?_; rotate_left; exact sub_nil
                    all_goals (first | rfl | simp)
                  · repeat (first | exact subx_refl | exact subx_del | refine subx_put rfl ?_)
                  · rfl
              · have gh15 := h15
                try simp only [decide_eq_true_eq, decide_eq_false_iff_not, Bool.not_eq_true', Bool.not_eq_false', beq_iff_eq, bne_iff_ne, beq_eq_false_iff_ne, bne_eq_false_iff_eq, Bool.or_eq_true, Bool.and_eq_true, Bool.or_eq_false_iff, gt_iff_lt, ge_iff_le] at h15
                refine aw_exit ?_
                obtain rfl : i = n.outs.length := by omega
                have a125 := hinv.2
                clear hinv hi
                refine aw_seq ?_
                refine aw_region ?_
                refine al_op (op_assign rfl) rfl (by simp) ?_
                refine al_nil ?_
                refine aw_freeze (fun _ => false) (fsub_cons (t := 2) rfl (.leaf _ _ (.same _)) fsub_nil) ?_
                refine aw_ret ?_
                refine ⟨_, res_1 rfl rfl, ?_, rfl⟩
                rw [Net.valid_all hh a79 a112 a125]
end Go.Proofs.Ytbpamlphacpkeaa
