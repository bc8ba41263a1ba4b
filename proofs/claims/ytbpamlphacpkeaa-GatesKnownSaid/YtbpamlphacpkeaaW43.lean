/- Printed walks (gen.py, gates_ann.py): part 43. -/
import Derived.Test.YtbpamlphacpkeaaW42
import Derived.Test.YtbpamlphacpkeaaFacts
set_option linter.unusedVariables false
set_option linter.unusedSimpArgs false
set_option maxRecDepth 20000
namespace Go.Proofs.Ytbpamlphacpkeaa
open Go

theorem l_more (l : List Int) (turn : Int) (hl : l.length ≤ 100000) (ht0 : 0 ≤ turn) (ht1 : turn ≤ 255) : ACp Try.prog 23 [.list 1 (l.map encB), .v (.int .u8 (turn))] (.list 1 ((moreTo l turn l.length).map encB)) := by
  refine acp_of rfl ?_
  refine ac_enter 40 Try.func23 rfl rfl (by simp) ?_
  refine aw_seq ?_
  refine aw_region ?_
  refine al_op (op_assign rfl) rfl (by simp) ?_
  refine al_nil ?_
  refine aw_seq ?_
  refine aw_region ?_
  (refine al_opR (op_list_own encB ([] : List Int) 7 Try.underlying28 info65 rfl rfl (by decide) rfl (by decide) rfl (by first | rfl | (repeat (first | exact parts_nil | refine parts_cons rfl (by repeat (first | exact all_live_nil | refine all_live_clo rfl ?_ | refine all_live_slice rfl ?_ | refine all_live_map rfl ?_ | refine all_live_ptr rfl ?_)) ?_))) rfl rfl (by first | rfl | (repeat (first | exact parts_nil | refine parts_cons rfl (by repeat (first | exact all_live_nil | refine all_live_clo rfl ?_ | refine all_live_slice rfl ?_ | refine all_live_map rfl ?_ | refine all_live_ptr rfl ?_)) ?_))) rfl rfl) rfl (by simp) ?_; rintro _ _ ⟨ver7, rfl, rfl⟩)
  refine al_op (op_move rfl) rfl (by simp) ?_
  (refine al_opR (op_append_map Try.underlying28 Try.underlying28 rfl info65 rfl rfl (by decide) rfl rfl rfl (by first | rfl | simp) rfl (by first | exact .list _ | exact .vnil | exact .nil | exact .row _ _ _ _ rfl (by first | rfl | simp)) rfl (by first | omega | (simp; done) | (simp; omega)) (by show _ * 1 ≤ _; first | omega | (simp; done) | (simp; omega))) rfl (by simp) ?_; rintro _ _ ⟨ver9, rfl, rfl⟩)
  refine al_op (op_assign rfl) rfl (by simp) ?_
  refine al_nil ?_
  refine aw_seq ?_
  refine aw_seq ?_
  refine aw_region ?_
  refine al_op (op_move rfl) rfl (by simp) ?_
  first
    | refine al_op (op_len_map Try.underlying28 rfl) rfl (by simp) ?_
    | refine al_op (op_len_slice Try.underlying28 rfl rfl) rfl (by simp) ?_
    | refine al_op (op_len_list Try.underlying28 rfl) rfl (by simp) ?_
    | refine al_op (op_len_v Try.underlying28 rfl) rfl (by simp) ?_
    | refine al_op (op_len_nil Try.underlying28 rfl) rfl (by simp) ?_
  refine al_op (op_move rfl) rfl (by simp) ?_
  refine al_nil ?_
  refine aw_block ?_
  refine aw_forT (ι := Nat) [12] [] (fun i => l.length - i) (fun i => i ≤ l.length) (fun i => ([(12, .v (.int .i64 (i)))] : Env)) (fun i s => s.put 7 ver9 (.row 1 ((moreTo l turn i).map encB))) (0) ?_ ?_ ?_ (fun i hinv => ?_)
  · exact Nat.zero_le _
  · refine sub_cons (get_as rfl ?_) ?_; rotate_left; exact sub_nil
    all_goals (first | rfl | simp)
  · rfl
  have hml := moreTo_length l turn i
  have e0 : (([] : List Int) ++ l).length = l.length := rfl
  refine aw_seq ?_
  refine aw_region ?_
  refine al_op (op_lss rfl rfl) rfl (by simp) ?_
  refine al_nil ?_
  refine aw_seq ?_
  refine aw_cond rfl (fun h1 => ?_) (fun h1 => ?_)
  · have gh1 := h1
    try simp only [decide_eq_true_eq, decide_eq_false_iff_not, Bool.not_eq_true', Bool.not_eq_false', beq_iff_eq, bne_iff_ne, beq_eq_false_iff_ne, bne_eq_false_iff_eq, Bool.or_eq_true, Bool.and_eq_true, Bool.or_eq_false_iff, gt_iff_lt, ge_iff_le] at h1
    refine aw_skip ?_
    refine aw_seq ?_
    refine aw_block ?_
    refine aw_seq ?_
    refine aw_region ?_
    refine al_op (op_move rfl) rfl (by simp) ?_
    refine al_op (op_assign rfl) rfl (by simp) ?_
    refine al_nil ?_
    refine aw_seq ?_
    refine aw_region ?_
    refine al_op (op_move rfl) rfl (by simp) ?_
    refine al_op (op_move rfl) rfl (by simp) ?_
    first
      | refine al_op (op_index_map default Try.underlying28 info65 rfl rfl rfl (by first | (with_reducible exact Int.toNat_natCast _) | rfl) (by omega) (by omega)) rfl (by simp) ?_
      | refine al_op (op_index_slice Try.underlying28 info65 rfl rfl rfl rfl (by omega) (by omega)) rfl (by simp) ?_
      | refine al_op (op_index_list Try.underlying28 info65 rfl rfl rfl (by decide) rfl) rfl (by simp) ?_
    first
      | refine al_op (op_load_rptr Try.underlying65 info65 rfl rfl) rfl (by simp) ?_
      | refine al_op (op_load_map Try.underlying65 info65 rfl rfl (by omega) rfl) rfl (by simp) ?_
      | refine al_op (op_load_ptr Try.underlying65 info65 rfl rfl rfl rfl) rfl (by simp) ?_
    refine al_op (op_eql rfl rfl) rfl (by simp) ?_
    refine al_op (op_move rfl) rfl (by simp) ?_
    apply al_and 7 20 27 rfl
    · intro h2; have gh2 := h2
      try simp only [decide_eq_true_eq, decide_eq_false_iff_not, Bool.not_eq_true', Bool.not_eq_false', beq_iff_eq, bne_iff_ne, beq_eq_false_iff_ne, bne_eq_false_iff_eq, Bool.or_eq_true, Bool.and_eq_true, Bool.or_eq_false_iff, gt_iff_lt, ge_iff_le] at h2
      refine al_take (op_move rfl) rfl rfl rfl rfl (by simp) ?_
      refine al_take (op_move rfl) rfl rfl rfl rfl (by simp) ?_
      refine al_take (op_conv Try.underlying5 Try.underlying3 rfl (wrap_i64 (by omega) (by omega))) rfl rfl rfl rfl (by simp) ?_
      refine al_take (op_add rfl rfl (by first | exact wrap_i64 (by omega) (by omega))) rfl rfl rfl rfl (by simp) ?_
      first
        | refine al_take (op_rem rfl rfl (by omega) (rem_nn (by omega))) rfl rfl rfl rfl (by simp) ?_
        | refine al_take (op_rem rfl rfl (by omega) rfl) rfl rfl rfl rfl (by simp) ?_
      refine al_take (op_gtr rfl rfl) rfl rfl rfl rfl (by simp) ?_
      first
        | refine al_op (op_pick rfl rfl) rfl (by simp) ?_
        | refine al_op (op_and rfl rfl rfl) rfl (by simp) ?_
      refine al_nil ⟨rfl, rfl, rfl, keep_of ?_⟩
      repeat (first | exact subx_refl | exact subx_known rfl gh2 subx_refl | refine subx_put rfl ?_)
    · intro h2; have gh2 := h2
      try simp only [decide_eq_true_eq, decide_eq_false_iff_not, Bool.not_eq_true', Bool.not_eq_false', beq_iff_eq, bne_iff_ne, beq_eq_false_iff_ne, bne_eq_false_iff_eq, Bool.or_eq_true, Bool.and_eq_true, Bool.or_eq_false_iff, gt_iff_lt, ge_iff_le] at h2
      refine al_pass rfl rfl rfl rfl (by simp) ?_
      refine al_pass rfl rfl rfl rfl (by simp) ?_
      refine al_pass rfl rfl rfl rfl (by simp) ?_
      refine al_pass rfl rfl rfl rfl (by simp) ?_
      refine al_pass rfl rfl rfl rfl (by simp) ?_
      refine al_pass rfl rfl rfl rfl (by simp) ?_
      first
        | refine al_op (op_pick rfl rfl) rfl (by simp) ?_
        | refine al_op (op_and rfl rfl rfl) rfl (by simp) ?_
      refine al_nil ⟨rfl, rfl, rfl, keep_of ?_⟩
      repeat (first | exact subx_refl | exact subx_known rfl gh2 subx_refl | refine subx_put rfl ?_)
    refine al_nil ?_
    refine aw_cond rfl (fun h3 => ?_) (fun h3 => ?_)
    · have gh3 := h3
      try simp only [decide_eq_true_eq, decide_eq_false_iff_not, Bool.not_eq_true', Bool.not_eq_false', beq_iff_eq, bne_iff_ne, beq_eq_false_iff_ne, bne_eq_false_iff_eq, Bool.or_eq_true, Bool.and_eq_true, Bool.or_eq_false_iff, gt_iff_lt, ge_iff_le] at h3
      refine aw_region ?_
      refine al_op (op_move rfl) rfl (by simp) ?_
      refine al_op (op_move rfl) rfl (by simp) ?_
      refine al_op (op_move rfl) rfl (by simp) ?_
      refine al_op (op_move rfl) rfl (by simp) ?_
      refine al_op (op_quo rfl rfl (by omega) (quo_u8 (by omega) (by omega) (by omega))) rfl (by simp) ?_
      refine al_op (op_conv Try.underlying5 Try.underlying3 rfl (wrap_i64 (by omega) (by omega))) rfl (by simp) ?_
      refine al_op (op_add rfl rfl (by first | exact wrap_i64 (by omega) (by omega))) rfl (by simp) ?_
      first
        | refine al_op (op_rem rfl rfl (by omega) (rem_nn (by omega))) rfl (by simp) ?_
        | refine al_op (op_rem rfl rfl (by omega) rfl) rfl (by simp) ?_
      refine al_op (op_conv Try.underlying3 Try.underlying65 rfl (wrap_u8 (by omega) (by omega))) rfl (by simp) ?_
      first
        | refine al_op (op_index_map default Try.underlying28 info65 rfl rfl rfl (by first | (with_reducible exact Int.toNat_natCast _) | rfl) (by omega) (by omega)) rfl (by simp) ?_
        | refine al_op (op_index_slice Try.underlying28 info65 rfl rfl rfl rfl (by omega) (by omega)) rfl (by simp) ?_
        | refine al_op (op_index_list Try.underlying28 info65 rfl rfl rfl (by decide) rfl) rfl (by simp) ?_
      refine al_op (op_store_map (((i : Int) + turn / 3) % 2) info65 rfl rfl rfl (by omega) rfl rfl rfl (Nat.le_of_ble_eq_true rfl) rfl) rfl (by simp) ?_
      refine al_nil ?_
      refine aw_region ?_
      refine al_op (op_add rfl rfl (by first | exact wrap_i64 (by omega) (by omega))) rfl (by simp) ?_
      refine al_op (op_move rfl) rfl (by simp) ?_
      refine al_nil ?_
      refine ⟨i + 1, ?_, ?_, ?_, ?_, ?_⟩
      · omega
      · omega
      · refine sub_cons (get_as rfl ?_) ?_; rotate_left; exact sub_nil
        all_goals (first | rfl | simp)
      · repeat (first | exact subx_refl | exact subx_del | refine subx_put rfl ?_)
      · first | (rw [moreTo_keep (by omega) gh3] <;> rfl) | (rw [moreTo_tell (by omega) gh3] <;> rfl)
    · have gh3 := h3
      try simp only [decide_eq_true_eq, decide_eq_false_iff_not, Bool.not_eq_true', Bool.not_eq_false', beq_iff_eq, bne_iff_ne, beq_eq_false_iff_ne, bne_eq_false_iff_eq, Bool.or_eq_true, Bool.and_eq_true, Bool.or_eq_false_iff, gt_iff_lt, ge_iff_le] at h3
      refine aw_skip ?_
      refine aw_region ?_
      refine al_op (op_add rfl rfl (by first | exact wrap_i64 (by omega) (by omega))) rfl (by simp) ?_
      refine al_op (op_move rfl) rfl (by simp) ?_
      refine al_nil ?_
      refine ⟨i + 1, ?_, ?_, ?_, ?_, ?_⟩
      · omega
      · omega
      · refine sub_cons (get_as rfl ?_) ?_; rotate_left; exact sub_nil
        all_goals (first | rfl | simp)
      · repeat (first | exact subx_refl | exact subx_del | refine subx_put rfl ?_)
      · first | (rw [moreTo_keep (by omega) gh3] <;> rfl) | (rw [moreTo_tell (by omega) gh3] <;> rfl)
  · have gh1 := h1
    try simp only [decide_eq_true_eq, decide_eq_false_iff_not, Bool.not_eq_true', Bool.not_eq_false', beq_iff_eq, bne_iff_ne, beq_eq_false_iff_ne, bne_eq_false_iff_eq, Bool.or_eq_true, Bool.and_eq_true, Bool.or_eq_false_iff, gt_iff_lt, ge_iff_le] at h1
    refine aw_exit ?_
    obtain rfl : i = l.length := by omega
    refine aw_seq ?_
    refine aw_region ?_
    refine al_op (op_move rfl) rfl (by simp) ?_
    refine al_op (op_assign rfl) rfl (by simp) ?_
    refine al_nil ?_
    refine aw_freeze (fun _ => false) (fsub_cons (t := 4) rfl (by first | exact .leaf _ _ (frz_whole rfl rfl (by first | rfl | (simp; done) | (simp; omega)) (clo_map (fun _ => rfl))) | exact .leaf _ _ (.vnil 1) | exact .leaf _ _ (.nil 1) | exact .leaf _ _ (.same _)) fsub_nil) ?_
    refine aw_ret ?_
    refine ⟨_, res_1 rfl rfl, ?_, rfl⟩
    rfl
end Go.Proofs.Ytbpamlphacpkeaa
