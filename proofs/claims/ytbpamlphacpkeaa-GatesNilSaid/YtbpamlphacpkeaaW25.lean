/- Printed walks (gen.py, gates_ann.py): part 25. -/
import Derived.Test.YtbpamlphacpkeaaW24
import Derived.Test.YtbpamlphacpkeaaFacts
set_option linter.unusedVariables false
set_option linter.unusedSimpArgs false
set_option maxRecDepth 20000
namespace Go.Proofs.Ytbpamlphacpkeaa
open Go

theorem q_Net0 (s : MS) (vm vg vt vr : Nat) (outs : List (ByteArray × Int)) (hs : s.OK) (hreg : s.regs = []) (hn : (s.made outs).Small) (z4 : outs.length * 24 ≤ 140737488355328) : AC Try.prog 39 [.ptr 0 vm 0 0, .list 1 (([] : List Int).map encI), .list 2 (outs.map encP)] (mk0 s vm vg vt vr) (fun r σ' => r = .ret (.tuple [encN (s.net0 outs).1, .v (.int .i64 ((s.net0 outs).2))]) ∧ σ'.keep (fun i => decide (i ≤ 3)) = mk0 s vm vg vt vr) := by
  have hs0 := hs
  obtain ⟨k1, k2, k3, _⟩ := hs0
  refine ac_enter 55 Try.func39 rfl rfl (by simp) ?_
  refine aw_seq ?_
  refine aw_region ?_
  (refine al_opR (op_alloc 6 info27 rfl rfl) rfl (by simp) ?_; rintro _ _ ⟨ver6, rfl, rfl⟩)
  refine al_op (op_assign rfl) rfl (by simp) ?_
  refine al_nil ?_
  refine aw_seq ?_
  refine aw_seq ?_
  refine aw_region ?_
  refine al_op (op_move rfl) rfl (by simp) ?_
  refine al_callp into71 rfl rfl rfl (ac_told (re_cons (.leaf _ _ (.same _)) (re_cons (.leaf _ _ (.vnil 1)) re_nil)) (mk_ro (m := 0) (g := 1) (t := 2) (r := 3) (m_no s vm vg vt vr [] hs (by simp)) rfl rfl rfl rfl rfl rfl rfl rfl)) (by simp) ?_
  refine al_op (op_assign rfl) rfl (by simp) ?_
  refine al_nil ?_
  refine aw_seq ?_
  refine aw_region ?_
  refine al_op (op_move rfl) rfl (by simp) ?_
  refine al_op (op_neq rfl rfl) rfl (by simp) ?_
  refine al_nil ?_
  refine aw_cond rfl (fun h1 => ?_) (fun h1 => ?_)
  · have gh1 := h1
    try simp only [decide_eq_true_eq, decide_eq_false_iff_not, Bool.not_eq_true', Bool.not_eq_false', beq_iff_eq, bne_iff_ne, beq_eq_false_iff_ne, bne_eq_false_iff_eq, Bool.or_eq_true, Bool.and_eq_true, Bool.or_eq_false_iff, gt_iff_lt, ge_iff_le] at h1
    exact absurd gh1 (by simp [MS.no, allTo])
  · have gh1 := h1
    try simp only [decide_eq_true_eq, decide_eq_false_iff_not, Bool.not_eq_true', Bool.not_eq_false', beq_iff_eq, bne_iff_ne, beq_eq_false_iff_ne, bne_eq_false_iff_eq, Bool.or_eq_true, Bool.and_eq_true, Bool.or_eq_false_iff, gt_iff_lt, ge_iff_le] at h1
    refine aw_skip ?_
    refine aw_seq ?_
    refine aw_seq ?_
    refine aw_region ?_
    refine al_op (op_move rfl) rfl (by simp) ?_
    first
      | refine al_op (op_len_map Try.underlying54 rfl) rfl (by simp) ?_
      | refine al_op (op_len_slice Try.underlying54 rfl rfl) rfl (by simp) ?_
      | refine al_op (op_len_list Try.underlying54 rfl) rfl (by simp) ?_
      | refine al_op (op_len_v Try.underlying54 rfl) rfl (by simp) ?_
      | refine al_op (op_len_nil Try.underlying54 rfl) rfl (by simp) ?_
    refine al_op (op_move rfl) rfl (by simp) ?_
    first
      | refine al_op (op_nilCheck_rptr rfl) rfl (by simp) ?_
      | refine al_op (op_nilCheck_ptr rfl rfl) rfl (by simp) ?_
    first
      | refine al_op (op_field_rptr Try.underlying73 rfl info27 (by decide) rfl rfl) rfl (by simp) ?_
      | refine al_op (op_field_ptr Try.underlying73 rfl info27 (by decide) rfl rfl rfl) rfl (by simp) ?_
    first
      | refine al_op (op_field_rptr Try.underlying27 rfl info23 (by decide) rfl rfl) rfl (by simp) ?_
      | refine al_op (op_field_ptr Try.underlying27 rfl info23 (by decide) rfl rfl rfl) rfl (by simp) ?_
    first
      | refine al_op (op_load_rptr Try.underlying23 info23 rfl rfl) rfl (by simp) ?_
      | refine al_op (op_load_map Try.underlying23 info23 rfl rfl (by omega) rfl) rfl (by simp) ?_
      | refine al_op (op_load_ptr Try.underlying23 info23 rfl rfl rfl rfl) rfl (by simp) ?_
    first
      | refine al_op (op_len_map Try.underlying23 rfl) rfl (by simp) ?_
      | refine al_op (op_len_slice Try.underlying23 rfl rfl) rfl (by simp) ?_
      | refine al_op (op_len_list Try.underlying23 rfl) rfl (by simp) ?_
      | refine al_op (op_len_v Try.underlying23 rfl) rfl (by simp) ?_
      | refine al_op (op_len_nil Try.underlying23 rfl) rfl (by simp) ?_
    refine al_op (op_neq rfl rfl) rfl (by simp) ?_
    refine al_nil ?_
    refine aw_cond rfl (fun h2 => ?_) (fun h2 => ?_)
    · have gh2 := h2
      try simp only [decide_eq_true_eq, decide_eq_false_iff_not, Bool.not_eq_true', Bool.not_eq_false', beq_iff_eq, bne_iff_ne, beq_eq_false_iff_ne, bne_eq_false_iff_eq, Bool.or_eq_true, Bool.and_eq_true, Bool.or_eq_false_iff, gt_iff_lt, ge_iff_le] at h2
      rw [hreg] at gh2; exact absurd gh2 (by decide)
    · have gh2 := h2
      try simp only [decide_eq_true_eq, decide_eq_false_iff_not, Bool.not_eq_true', Bool.not_eq_false', beq_iff_eq, bne_iff_ne, beq_eq_false_iff_ne, bne_eq_false_iff_eq, Bool.or_eq_true, Bool.and_eq_true, Bool.or_eq_false_iff, gt_iff_lt, ge_iff_le] at h2
      refine aw_skip ?_
      refine aw_seq ?_
      refine aw_region ?_
      refine al_op (op_move rfl) rfl (by simp) ?_
      first
        | refine al_op (op_nilCheck_rptr rfl) rfl (by simp) ?_
        | refine al_op (op_nilCheck_ptr rfl rfl) rfl (by simp) ?_
      first
        | refine al_op (op_field_rptr Try.underlying73 rfl info27 (by decide) rfl rfl) rfl (by simp) ?_
        | refine al_op (op_field_ptr Try.underlying73 rfl info27 (by decide) rfl rfl rfl) rfl (by simp) ?_
      first
        | refine al_op (op_load_rptr Try.underlying27 info27 rfl rfl) rfl (by simp) ?_
        | refine al_op (op_load_map Try.underlying27 info27 rfl rfl (by omega) rfl) rfl (by simp) ?_
        | refine al_op (op_load_ptr Try.underlying27 info27 rfl rfl rfl rfl) rfl (by simp) ?_
      refine al_callp into77 rfl rfl rfl (ac_told (re_cons (re2_agg (re2_cons (.same _) (re2_cons (.same _) (re2_cons (.same _) (re2_cons (.vnil 2) re2_nil))))) re_nil) (m_copied 3 1 vr vg s.ins s.regs s.gates [] (by omega) (by omega) (by omega) (by simp) rfl rfl rfl rfl)) (by simp) ?_
      (refine al_opR (op_alloc 9 info27 rfl rfl) rfl (by simp) ?_; rintro _ _ ⟨ver9, rfl, rfl⟩)
      first
        | refine al_op (op_store_ptr info27 rfl rfl rfl rfl rfl rfl (by first | rfl | exact live_one rfl | (repeat (first | exact all_live_nil | refine all_live_clo rfl ?_ | refine all_live_slice rfl ?_ | refine all_live_map rfl ?_ | refine all_live_ptr rfl ?_))) (by decide)) rfl (by simp) ?_
        | refine al_op (op_store_ptr info27 rfl rfl rfl rfl rfl rfl (by first | rfl | exact live_one rfl | (repeat (first | exact all_live_nil | refine all_live_clo rfl ?_ | refine all_live_slice rfl ?_ | refine all_live_map rfl ?_ | refine all_live_ptr rfl ?_))) (Nat.le_of_ble_eq_true rfl)) rfl (by simp) ?_
      refine al_nil ?_
      refine aw_seq ?_
      refine aw_region ?_
      refine al_op (op_move rfl) rfl (by simp) ?_
      refine al_callp into78 rfl rfl rfl (acn_lend (lend_cons (by first | exact lend_same | exact .leaf _ _ (.vnil _) | exact .leaf _ _ (.nil _) | exact lend_whole rfl (by first | rfl | simp) (clo_map (fun _ => rfl))) lend_nil) (n_clone_P _ (by omega))) (by simp) ?_
      first
        | refine al_op (op_field_rptr Try.underlying27 rfl info25 (by decide) rfl rfl) rfl (by simp) ?_
        | refine al_op (op_field_ptr Try.underlying27 rfl info25 (by decide) rfl rfl rfl) rfl (by simp) ?_
      first
        | refine al_op (op_store_ptr info25 rfl rfl rfl rfl rfl rfl (by first | rfl | exact live_one rfl | (repeat (first | exact all_live_nil | refine all_live_clo rfl ?_ | refine all_live_slice rfl ?_ | refine all_live_map rfl ?_ | refine all_live_ptr rfl ?_))) (by decide)) rfl (by simp) ?_
        | refine al_op (op_store_ptr info25 rfl rfl rfl rfl rfl rfl (by first | rfl | exact live_one rfl | (repeat (first | exact all_live_nil | refine all_live_clo rfl ?_ | refine all_live_slice rfl ?_ | refine all_live_map rfl ?_ | refine all_live_ptr rfl ?_))) (Nat.le_of_ble_eq_true rfl)) rfl (by simp) ?_
      refine al_nil ?_
      refine aw_seq ?_
      refine aw_seq ?_
      refine aw_region ?_
      refine al_op (op_move rfl) rfl (by simp) ?_
      first
        | refine al_op (op_len_map Try.underlying54 rfl) rfl (by simp) ?_
        | refine al_op (op_len_slice Try.underlying54 rfl rfl) rfl (by simp) ?_
        | refine al_op (op_len_list Try.underlying54 rfl) rfl (by simp) ?_
        | refine al_op (op_len_v Try.underlying54 rfl) rfl (by simp) ?_
        | refine al_op (op_len_nil Try.underlying54 rfl) rfl (by simp) ?_
      refine al_op (op_move rfl) rfl (by simp) ?_
      refine al_nil ?_
      refine aw_block ?_
      refine aw_forT (ι := Nat) [38] [] (fun i => 0 - i) (fun i => True) (fun i => ([(38, .v (.int .i64 (i)))] : Env)) (fun i s => s) (0) ?_ ?_ ?_ (fun i hinv => ?_)
      · first | trivial | omega | simp
      · refine sub_cons (get_as rfl ?_) ?_; rotate_left; exact sub_nil
        all_goals (first | rfl | simp)
      · rfl
      refine aw_seq ?_
      refine aw_region ?_
      refine al_op (op_lss rfl rfl) rfl (by simp) ?_
      refine al_nil ?_
      refine aw_seq ?_
      refine aw_cond rfl (fun h3 => ?_) (fun h3 => ?_)
      · have gh3 := h3
        try simp only [decide_eq_true_eq, decide_eq_false_iff_not, Bool.not_eq_true', Bool.not_eq_false', beq_iff_eq, bne_iff_ne, beq_eq_false_iff_ne, bne_eq_false_iff_eq, Bool.or_eq_true, Bool.and_eq_true, Bool.or_eq_false_iff, gt_iff_lt, ge_iff_le] at h3
        exact absurd h3 (by simp)
      · have gh3 := h3
        try simp only [decide_eq_true_eq, decide_eq_false_iff_not, Bool.not_eq_true', Bool.not_eq_false', beq_iff_eq, bne_iff_ne, beq_eq_false_iff_ne, bne_eq_false_iff_eq, Bool.or_eq_true, Bool.and_eq_true, Bool.or_eq_false_iff, gt_iff_lt, ge_iff_le] at h3
        refine aw_exit ?_
        refine aw_seq ?_
        refine aw_seq ?_
        refine aw_region ?_
        first
          | refine al_op (op_load_rptr Try.underlying27 info27 rfl rfl) rfl (by simp) ?_
          | refine al_op (op_load_map Try.underlying27 info27 rfl rfl (by omega) rfl) rfl (by simp) ?_
          | refine al_op (op_load_ptr Try.underlying27 info27 rfl rfl rfl rfl) rfl (by simp) ?_
        refine al_callp into27 rfl rfl rfl (c_valid (s.made outs) hn _) (by simp) ?_
        refine al_op (op_not rfl) rfl (by simp) ?_
        refine al_nil ?_
        refine aw_cond rfl (fun h4 => ?_) (fun h4 => ?_)
        · have gh4 := h4
          try simp only [decide_eq_true_eq, decide_eq_false_iff_not, Bool.not_eq_true', Bool.not_eq_false', beq_iff_eq, bne_iff_ne, beq_eq_false_iff_ne, bne_eq_false_iff_eq, Bool.or_eq_true, Bool.and_eq_true, Bool.or_eq_false_iff, gt_iff_lt, ge_iff_le] at h4
          refine aw_seq ?_
          refine aw_region ?_
          refine al_op (op_build_struct Try.underlying27 info27 rfl place27 rfl (by first | rfl | (repeat (first | exact parts_nil | refine parts_cons rfl (by repeat (first | exact all_live_nil | refine all_live_clo rfl ?_ | refine all_live_slice rfl ?_ | refine all_live_map rfl ?_ | refine all_live_ptr rfl ?_)) ?_))) rfl) rfl (by simp) ?_
          first
            | refine al_op (op_store_ptr info27 rfl rfl rfl rfl rfl rfl (by first | rfl | exact live_one rfl | (repeat (first | exact all_live_nil | refine all_live_clo rfl ?_ | refine all_live_slice rfl ?_ | refine all_live_map rfl ?_ | refine all_live_ptr rfl ?_))) (by decide)) rfl (by simp) ?_
            | refine al_op (op_store_ptr info27 rfl rfl rfl rfl rfl rfl (by first | rfl | exact live_one rfl | (repeat (first | exact all_live_nil | refine all_live_clo rfl ?_ | refine all_live_slice rfl ?_ | refine all_live_map rfl ?_ | refine all_live_ptr rfl ?_))) (Nat.le_of_ble_eq_true rfl)) rfl (by simp) ?_
          refine al_op (op_assign rfl) rfl (by simp) ?_
          refine al_nil ?_
          refine aw_ret ?_
          refine ⟨_, res_re2 (res_cell_tmp rfl Try.underlying27 info27 rfl rfl rfl rfl rfl rfl rfl) (re2_agg (re2_cons (.vnil 1) (re2_cons (.vnil 3) (re2_cons (.vnil 2) (re2_cons (.vnil 2) re2_nil))))) rfl rfl, ?_⟩
          rw [MS.net0, if_neg (by simpa using gh4)]; exact ⟨rfl, rfl⟩
        · have gh4 := h4
          try simp only [decide_eq_true_eq, decide_eq_false_iff_not, Bool.not_eq_true', Bool.not_eq_false', beq_iff_eq, bne_iff_ne, beq_eq_false_iff_ne, bne_eq_false_iff_eq, Bool.or_eq_true, Bool.and_eq_true, Bool.or_eq_false_iff, gt_iff_lt, ge_iff_le] at h4
          refine aw_skip ?_
          refine aw_seq ?_
          refine aw_region ?_
          first
            | refine al_op (op_load_rptr Try.underlying27 info27 rfl rfl) rfl (by simp) ?_
            | refine al_op (op_load_map Try.underlying27 info27 rfl rfl (by omega) rfl) rfl (by simp) ?_
            | refine al_op (op_load_ptr Try.underlying27 info27 rfl rfl rfl rfl) rfl (by simp) ?_
          first
            | refine al_op (op_store_ptr info27 rfl rfl rfl rfl rfl rfl (by first | rfl | exact live_one rfl | (repeat (first | exact all_live_nil | refine all_live_clo rfl ?_ | refine all_live_slice rfl ?_ | refine all_live_map rfl ?_ | refine all_live_ptr rfl ?_))) (by decide)) rfl (by simp) ?_
            | refine al_op (op_store_ptr info27 rfl rfl rfl rfl rfl rfl (by first | rfl | exact live_one rfl | (repeat (first | exact all_live_nil | refine all_live_clo rfl ?_ | refine all_live_slice rfl ?_ | refine all_live_map rfl ?_ | refine all_live_ptr rfl ?_))) (Nat.le_of_ble_eq_true rfl)) rfl (by simp) ?_
          refine al_op (op_assign rfl) rfl (by simp) ?_
          refine al_nil ?_
          refine aw_ret ?_
          refine ⟨_, res_cell_tmp rfl Try.underlying27 info27 rfl rfl rfl rfl rfl rfl rfl, ?_⟩
          rw [MS.net0, if_pos (by simpa using gh4)]; exact ⟨rfl, rfl⟩
end Go.Proofs.Ytbpamlphacpkeaa
