/- Printed walks (gen.py, gates_ann.py): part 52. -/
import Derived.Test.YtbpamlphacpkeaaW51
import Derived.Test.YtbpamlphacpkeaaFacts
set_option linter.unusedVariables false
set_option linter.unusedSimpArgs false
set_option maxRecDepth 20000
namespace Go.Proofs.Ytbpamlphacpkeaa
open Go

theorem c_levels (n : Net) (hn : n.Small) : ACp Try.prog 45 [encN n] (.tuple [.list 1 (n.levels.1.map encI), .v (.int .i64 (n.levels.2))]) := by
  refine acp_of rfl ?_
  have k1 : n.first = 1 + n.ins.length + n.regs.length := rfl
  refine ac_enter 45 Try.func45 rfl rfl (by simp) ?_
  refine aw_seq ?_
  refine aw_region ?_
  (refine al_opR (op_box 1 rfl rfl (by first | rfl | exact live_one rfl | (repeat (first | exact all_live_nil | refine all_live_clo rfl ?_ | refine all_live_slice rfl ?_ | refine all_live_map rfl ?_ | refine all_live_ptr rfl ?_)))) rfl (by simp) ?_; rintro _ _ ⟨ver1, rfl, rfl⟩)
  refine al_op (op_assign rfl) rfl (by simp) ?_
  refine al_op (op_assign rfl) rfl (by simp) ?_
  refine al_nil ?_
  refine aw_seq ?_
  refine aw_seq ?_
  refine aw_region ?_
  first
    | refine al_op (op_load_rptr Try.underlying27 info27 rfl rfl) rfl (by simp) ?_
    | refine al_op (op_load_map Try.underlying27 info27 rfl rfl (by omega) rfl) rfl (by simp) ?_
    | refine al_op (op_load_ptr Try.underlying27 info27 rfl rfl rfl rfl) rfl (by simp) ?_
  first
    | refine al_callp into27 rfl rfl rfl ((c_valid _ (by assumption)) _) (by simp) ?_
    | refine al_callp into27 rfl rfl rfl (acp_lent (lend_cons (by first | exact lend_same | exact .leaf _ _ (.vnil _) | exact .leaf _ _ (.nil _) | exact lend_whole rfl (by first | rfl | simp) (clo_map (fun _ => rfl))) lend_nil) (c_valid _ (by assumption)) rfl) (by simp) ?_
  refine al_op (op_not rfl) rfl (by simp) ?_
  refine al_nil ?_
  refine aw_cond rfl (fun h1 => ?_) (fun h1 => ?_)
  · have gh1 := h1
    try simp only [decide_eq_true_eq, decide_eq_false_iff_not, Bool.not_eq_true', Bool.not_eq_false', beq_iff_eq, bne_iff_ne, beq_eq_false_iff_ne, bne_eq_false_iff_eq, Bool.or_eq_true, Bool.and_eq_true, Bool.or_eq_false_iff, gt_iff_lt, ge_iff_le] at h1
    refine aw_seq ?_
    refine aw_region ?_
    refine al_op (op_assign rfl) rfl (by simp) ?_
    refine al_op (op_assign rfl) rfl (by simp) ?_
    refine al_nil ?_
    refine aw_freeze (fun _ => false) (fsub_cons (t := 2) rfl (by first | exact .leaf _ _ (frz_whole rfl rfl (by first | rfl | (simp; done) | (simp; omega)) (clo_map (fun _ => rfl))) | exact .leaf _ _ (.vnil 1) | exact .leaf _ _ (.nil 1) | exact .leaf _ _ (.same _)) (fsub_cons (t := 3) rfl (.leaf _ _ (.same _)) fsub_nil)) ?_
    refine aw_ret ?_
    refine ⟨_, res_2 rfl rfl rfl rfl rfl, ?_, rfl⟩
    rw [Net.levels, if_neg (by simpa using gh1)]; rfl
  · have gh1 := h1
    try simp only [decide_eq_true_eq, decide_eq_false_iff_not, Bool.not_eq_true', Bool.not_eq_false', beq_iff_eq, bne_iff_ne, beq_eq_false_iff_ne, bne_eq_false_iff_eq, Bool.or_eq_true, Bool.and_eq_true, Bool.or_eq_false_iff, gt_iff_lt, ge_iff_le] at h1
    have hv : n.valid = true := by simpa using gh1
    obtain ⟨f1, f2, f3, f4, f5, f6, f7⟩ := Net.valid_facts hv
    refine aw_skip ?_
    refine aw_seq ?_
    refine aw_region ?_
    first
      | refine al_op (op_field_rptr Try.underlying27 rfl info22 (by decide) rfl rfl) rfl (by simp) ?_
      | refine al_op (op_field_ptr Try.underlying27 rfl info22 (by decide) rfl rfl rfl) rfl (by simp) ?_
    first
      | refine al_op (op_load_rptr Try.underlying22 info22 rfl rfl) rfl (by simp) ?_
      | refine al_op (op_load_map Try.underlying22 info22 rfl rfl (by omega) rfl) rfl (by simp) ?_
      | refine al_op (op_load_ptr Try.underlying22 info22 rfl rfl rfl rfl) rfl (by simp) ?_
    first
      | refine al_op (op_len_map Try.underlying22 rfl) rfl (by simp) ?_
      | refine al_op (op_len_slice Try.underlying22 rfl rfl) rfl (by simp) ?_
      | refine al_op (op_len_list Try.underlying22 rfl) rfl (by simp) ?_
      | refine al_op (op_len_v Try.underlying22 rfl) rfl (by simp) ?_
      | refine al_op (op_len_nil Try.underlying22 rfl) rfl (by simp) ?_
    refine al_op (op_add rfl rfl (by first | exact wrap_i64 (by omega) (by omega))) rfl (by simp) ?_
    first
      | refine al_op (op_field_rptr Try.underlying27 rfl info23 (by decide) rfl rfl) rfl (by simp) ?_
      | refine al_op (op_field_ptr Try.underlying27 rfl info23 (by decide) rfl rfl rfl) rfl (by simp) ?_
    first
      | refine al_op (op_load_rptr Try.underlying23 info23 rfl rfl) rfl (by simp) ?_
      | refine al_op (op_load_map Try.underlying23 info23 rfl rfl (by omega) rfl) rfl (by simp) ?_
      | refine al_op (op_load_ptr Try.underlying23 info23 rfl rfl rfl rfl) rfl (by simp) ?_
    first
      | refine al_op (op_len_map Try.underlying23 rfl) rfl (by simp) ?_
      | refine al_op (op_len_slice Try.underlying23 rfl rfl) rfl (by simp) ?_
      | refine al_op (op_len_list Try.underlying23 rfl) rfl (by simp) ?_
      | refine al_op (op_len_v Try.underlying23 rfl) rfl (by simp) ?_
      | refine al_op (op_len_nil Try.underlying23 rfl) rfl (by simp) ?_
    refine al_op (op_add rfl rfl (by first | exact wrap_i64 (by omega) (by omega))) rfl (by simp) ?_
    (refine al_opR (op_makeN (f := encI) 18 (0 : Int) Try.underlying54 info3 rfl rfl (by decide) rfl rfl rfl rfl (by omega) (by show (8 : Int) * _ ≤ _; omega) (by omega)) rfl (by simp) ?_; rintro _ _ ⟨ver18, rfl, rfl⟩)
    refine al_op (op_assign rfl) rfl (by simp) ?_
    refine al_nil ?_
    refine aw_seq ?_
    refine aw_seq ?_
    refine aw_region ?_
    first
      | refine al_op (op_field_rptr Try.underlying27 rfl info24 (by decide) rfl rfl) rfl (by simp) ?_
      | refine al_op (op_field_ptr Try.underlying27 rfl info24 (by decide) rfl rfl rfl) rfl (by simp) ?_
    first
      | refine al_op (op_load_rptr Try.underlying24 info24 rfl rfl) rfl (by simp) ?_
      | refine al_op (op_load_map Try.underlying24 info24 rfl rfl (by omega) rfl) rfl (by simp) ?_
      | refine al_op (op_load_ptr Try.underlying24 info24 rfl rfl rfl rfl) rfl (by simp) ?_
    first
      | refine al_op (op_len_map Try.underlying24 rfl) rfl (by simp) ?_
      | refine al_op (op_len_slice Try.underlying24 rfl rfl) rfl (by simp) ?_
      | refine al_op (op_len_list Try.underlying24 rfl) rfl (by simp) ?_
      | refine al_op (op_len_v Try.underlying24 rfl) rfl (by simp) ?_
      | refine al_op (op_len_nil Try.underlying24 rfl) rfl (by simp) ?_
    refine al_op (op_move rfl) rfl (by simp) ?_
    refine al_nil ?_
    refine aw_block ?_
    refine aw_for2T (α := Nat) (β := Nat) [4, 22] [6] (fun i ver => n.gates.length - i) (fun i ver => i ≤ n.gates.length) (fun i ver => ([(4, .slice 18 ver 0 (n.levTo i).length), (22, .v (.int .i64 (i)))] : Env)) (fun i ver s => s.put 18 ver (.row 1 ((n.levTo i).map encI))) (0) (ver18) ?_ ?_ ?_ (fun i ver hinv => ?_)
    · exact Nat.zero_le _
    · refine sub_cons (get_as rfl ?_) ?_; rotate_left; refine sub_cons (get_as rfl ?_) ?_; rotate_left; exact sub_nil
      all_goals (first | rfl | (simp; done))
    · rfl
    refine aw_seq ?_
    refine aw_region ?_
    refine al_op (op_lss rfl rfl) rfl (by simp) ?_
    refine al_nil ?_
    refine aw_seq ?_
    refine aw_cond rfl (fun h2 => ?_) (fun h2 => ?_)
    · have gh2 := h2
      try simp only [decide_eq_true_eq, decide_eq_false_iff_not, Bool.not_eq_true', Bool.not_eq_false', beq_iff_eq, bne_iff_ne, beq_eq_false_iff_ne, bne_eq_false_iff_eq, Bool.or_eq_true, Bool.and_eq_true, Bool.or_eq_false_iff, gt_iff_lt, ge_iff_le] at h2
      refine aw_skip ?_
      refine aw_seq ?_
      refine aw_block ?_
      refine aw_seq ?_
      refine aw_region ?_
      first
        | refine al_op (op_index_map default Try.underlying24 info86 rfl rfl rfl (by first | (with_reducible exact Int.toNat_natCast _) | rfl) (by omega) (by omega)) rfl (by simp) ?_
        | refine al_op (op_index_slice Try.underlying24 info86 rfl rfl rfl rfl (by omega) (by omega)) rfl (by simp) ?_
        | refine al_op (op_index_list Try.underlying24 info86 rfl rfl rfl (by decide) rfl) rfl (by simp) ?_
      first
        | refine al_op (op_load_rptr Try.underlying86 info86 rfl rfl) rfl (by simp) ?_
        | refine al_op (op_load_map Try.underlying86 info86 rfl rfl (by omega) rfl) rfl (by simp) ?_
        | refine al_op (op_load_ptr Try.underlying86 info86 rfl rfl rfl rfl) rfl (by simp) ?_
      (refine al_opR (op_alloc 6 info86 rfl rfl) rfl (by simp) ?_; rintro _ _ ⟨ver6, rfl, rfl⟩)
      first
        | refine al_op (op_store_ptr info86 rfl rfl rfl rfl rfl rfl (by first | rfl | exact live_one rfl | (repeat (first | exact all_live_nil | refine all_live_clo rfl ?_ | refine all_live_slice rfl ?_ | refine all_live_map rfl ?_ | refine all_live_ptr rfl ?_))) (by decide)) rfl (by simp) ?_
        | refine al_op (op_store_ptr info86 rfl rfl rfl rfl rfl rfl (by first | rfl | exact live_one rfl | (repeat (first | exact all_live_nil | refine all_live_clo rfl ?_ | refine all_live_slice rfl ?_ | refine all_live_map rfl ?_ | refine all_live_ptr rfl ?_))) (Nat.le_of_ble_eq_true rfl)) rfl (by simp) ?_
      refine al_nil ?_
      have hg := f5 i (by omega)
      have hlen := n.levTo_length i
      have hr1 := n.levTo_range i (0 + ((n.gates.getD i default).1 / 2).toNat)
      have hr2 := n.levTo_range i (0 + ((n.gates.getD i default).2 / 2).toNat)
      refine aw_any (Checked.mixed Try.checked) ?_
      apply aany_seg (p := 0) (q := 16) (by kernel_rfl) rfl (by decide)
      ·
        apply ql_plain rfl (op_move rfl)
        apply ql_plain rfl (op_move rfl)
        first
          | apply ql_plain rfl (op_index_arptr Try.underlying86 info3 rfl rfl rfl (by decide) (by decide))
          | apply ql_plain rfl (op_index_aptr Try.underlying86 info3 rfl rfl rfl rfl (by decide) (by decide))
        first
          | apply ql_plain rfl (op_load_rptr Try.underlying3 info3 rfl rfl)
          | apply ql_plain rfl (op_load_map Try.underlying3 info3 rfl rfl (by omega) rfl)
          | apply ql_plain rfl (op_load_ptr Try.underlying3 info3 rfl rfl rfl rfl)
        apply ql_plain rfl (op_quo rfl rfl (by omega) (quo_nn (by omega) (by omega) (by omega)))
        first
          | apply ql_plain rfl (op_index_map default Try.underlying54 info3 rfl rfl rfl (by first | (with_reducible exact Int.toNat_natCast _) | rfl) (by omega) (by omega))
          | apply ql_plain rfl (op_index_slice Try.underlying54 info3 rfl rfl rfl rfl (by omega) (by omega))
          | apply ql_plain rfl (op_index_list Try.underlying54 info3 rfl rfl rfl (by decide) rfl)
        first
          | apply ql_plain rfl (op_load_rptr Try.underlying3 info3 rfl rfl)
          | apply ql_plain rfl (op_load_map Try.underlying3 info3 rfl rfl (by omega) rfl)
          | apply ql_plain rfl (op_load_ptr Try.underlying3 info3 rfl rfl rfl rfl)
        apply ql_plain rfl (op_move rfl)
        first
          | apply ql_plain rfl (op_index_arptr Try.underlying86 info3 rfl rfl rfl (by decide) (by decide))
          | apply ql_plain rfl (op_index_aptr Try.underlying86 info3 rfl rfl rfl rfl (by decide) (by decide))
        first
          | apply ql_plain rfl (op_load_rptr Try.underlying3 info3 rfl rfl)
          | apply ql_plain rfl (op_load_map Try.underlying3 info3 rfl rfl (by omega) rfl)
          | apply ql_plain rfl (op_load_ptr Try.underlying3 info3 rfl rfl rfl rfl)
        apply ql_plain rfl (op_quo rfl rfl (by omega) (quo_nn (by omega) (by omega) (by omega)))
        first
          | apply ql_plain rfl (op_index_map default Try.underlying54 info3 rfl rfl rfl (by first | (with_reducible exact Int.toNat_natCast _) | rfl) (by omega) (by omega))
          | apply ql_plain rfl (op_index_slice Try.underlying54 info3 rfl rfl rfl rfl (by omega) (by omega))
          | apply ql_plain rfl (op_index_list Try.underlying54 info3 rfl rfl rfl (by decide) rfl)
        first
          | apply ql_plain rfl (op_load_rptr Try.underlying3 info3 rfl rfl)
          | apply ql_plain rfl (op_load_map Try.underlying3 info3 rfl rfl (by omega) rfl)
          | apply ql_plain rfl (op_load_ptr Try.underlying3 info3 rfl rfl rfl rfl)
        apply ql_plain rfl (op_max rfl rfl)
        apply ql_plain rfl (op_add rfl rfl (by first | exact wrap_i64 (by omega) (by omega)))
        apply ql_plain rfl (op_buildSlice Try.underlying54 info3 rfl rfl (by decide) rfl (by decide) rfl (by first | rfl | (repeat (first | exact parts_nil | refine parts_cons rfl (by repeat (first | exact all_live_nil | refine all_live_clo rfl ?_ | refine all_live_slice rfl ?_ | refine all_live_map rfl ?_ | refine all_live_ptr rfl ?_)) ?_))) rfl rfl rfl)
        exact ql_nil
      · simp
      first
        | (refine aany_opR (by kernel_rfl) rfl rfl (op_append_one (levAt (n.levTo i) (n.gates.getD i default)) Try.underlying54 Try.underlying54 rfl info3 rfl rfl (by decide) rfl rfl rfl (by first | rfl | simp) rfl rfl (by first | omega | (simp; done) | (simp; omega)) (by show _ * 8 ≤ _; first | omega | (simp; done) | (simp; omega))) (by simp) ?_; rintro _ _ ⟨ver42, rfl, rfl⟩)
        | (refine aany_opR (by kernel_rfl) rfl rfl (op_append_map Try.underlying54 Try.underlying54 rfl info3 rfl rfl (by decide) rfl rfl rfl (by first | rfl | simp) rfl (by first | exact .list _ | exact .vnil | exact .nil | exact .row _ _ _ _ rfl (by first | rfl | simp)) rfl (by first | omega | (simp; done) | (simp; omega)) (by show _ * 8 ≤ _; first | omega | (simp; done) | (simp; omega))) (by simp) ?_; rintro _ _ ⟨ver42, rfl, rfl⟩)
      apply aany_seg (p := 17) (q := 18) (by kernel_rfl) rfl (by decide)
      ·
        apply ql_plain rfl (op_assign rfl)
        exact ql_nil
      · simp
      refine aany_end rfl (by kernel_rfl) ?_
      refine aw_region ?_
      refine al_op (op_add rfl rfl (by first | exact wrap_i64 (by omega) (by omega))) rfl (by simp) ?_
      refine al_op (op_move rfl) rfl (by simp) ?_
      refine al_nil ?_
      refine ⟨i + 1, ver42, ?_, ?_, ?_, ?_, ?_⟩
      · omega
      · omega
      · refine sub_cons (get_as rfl ?_) ?_; rotate_left; refine sub_cons (get_as rfl ?_) ?_; rotate_left; exact sub_nil
        all_goals (first | rfl | (simp; done))
      · repeat (first | exact subx_refl | exact subx_del | refine subx_put rfl ?_)
      · rfl
    · have gh2 := h2
      try simp only [decide_eq_true_eq, decide_eq_false_iff_not, Bool.not_eq_true', Bool.not_eq_false', beq_iff_eq, bne_iff_ne, beq_eq_false_iff_ne, bne_eq_false_iff_eq, Bool.or_eq_true, Bool.and_eq_true, Bool.or_eq_false_iff, gt_iff_lt, ge_iff_le] at h2
      refine aw_exit ?_
      obtain rfl : i = n.gates.length := by omega
      refine aw_seq ?_
      refine aw_region ?_
      refine al_op (op_move rfl) rfl (by simp) ?_
      refine al_op (op_assign rfl) rfl (by simp) ?_
      refine al_op (op_assign rfl) rfl (by simp) ?_
      refine al_nil ?_
      refine aw_freeze (fun _ => false) (fsub_cons (t := 2) rfl (by first | exact .leaf _ _ (frz_whole rfl rfl (by first | rfl | (simp; done) | (simp; omega)) (clo_map (fun _ => rfl))) | exact .leaf _ _ (.vnil 1) | exact .leaf _ _ (.nil 1) | exact .leaf _ _ (.same _)) (fsub_cons (t := 3) rfl (.leaf _ _ (.same _)) fsub_nil)) ?_
      refine aw_ret ?_
      refine ⟨_, res_2 rfl rfl rfl rfl rfl, ?_, rfl⟩
      rw [Net.levels, if_pos hv]

theorem r_levels (n : Net) (hn : n.Small) : ACp Try.prog 46 [encN n] (.tuple [.list 1 (n.levels.1.map encI), .v (.int .i64 (n.levels.2))]) := by
  refine acp_of rfl ?_
  have k1 : n.first = 1 + n.ins.length + n.regs.length := rfl
  refine ac_enter 39 Try.func46 rfl rfl (by simp) ?_
  refine aw_seq ?_
  refine aw_region ?_
  (refine al_opR (op_box 1 rfl rfl (by first | rfl | exact live_one rfl | (repeat (first | exact all_live_nil | refine all_live_clo rfl ?_ | refine all_live_slice rfl ?_ | refine all_live_map rfl ?_ | refine all_live_ptr rfl ?_)))) rfl (by simp) ?_; rintro _ _ ⟨ver1, rfl, rfl⟩)
  refine al_op (op_assign rfl) rfl (by simp) ?_
  refine al_op (op_assign rfl) rfl (by simp) ?_
  refine al_nil ?_
  refine aw_seq ?_
  refine aw_seq ?_
  refine aw_region ?_
  first
    | refine al_op (op_load_rptr Try.underlying27 info27 rfl rfl) rfl (by simp) ?_
    | refine al_op (op_load_map Try.underlying27 info27 rfl rfl (by omega) rfl) rfl (by simp) ?_
    | refine al_op (op_load_ptr Try.underlying27 info27 rfl rfl rfl rfl) rfl (by simp) ?_
  first
    | refine al_callp into21 rfl rfl rfl ((r_Valid _ (by assumption)) _) (by simp) ?_
    | refine al_callp into21 rfl rfl rfl (acp_lent (lend_cons (by first | exact lend_same | exact .leaf _ _ (.vnil _) | exact .leaf _ _ (.nil _) | exact lend_whole rfl (by first | rfl | simp) (clo_map (fun _ => rfl))) lend_nil) (r_Valid _ (by assumption)) rfl) (by simp) ?_
  refine al_op (op_not rfl) rfl (by simp) ?_
  refine al_nil ?_
  refine aw_cond rfl (fun h1 => ?_) (fun h1 => ?_)
  · have gh1 := h1
    try simp only [decide_eq_true_eq, decide_eq_false_iff_not, Bool.not_eq_true', Bool.not_eq_false', beq_iff_eq, bne_iff_ne, beq_eq_false_iff_ne, bne_eq_false_iff_eq, Bool.or_eq_true, Bool.and_eq_true, Bool.or_eq_false_iff, gt_iff_lt, ge_iff_le] at h1
    refine aw_seq ?_
    refine aw_region ?_
    refine al_op (op_assign rfl) rfl (by simp) ?_
    refine al_op (op_assign rfl) rfl (by simp) ?_
    refine al_nil ?_
    refine aw_freeze (fun _ => false) (fsub_cons (t := 2) rfl (by first | exact .leaf _ _ (frz_whole rfl rfl (by first | rfl | (simp; done) | (simp; omega)) (clo_map (fun _ => rfl))) | exact .leaf _ _ (.vnil 1) | exact .leaf _ _ (.nil 1) | exact .leaf _ _ (.same _)) (fsub_cons (t := 3) rfl (.leaf _ _ (.same _)) fsub_nil)) ?_
    refine aw_ret ?_
    refine ⟨_, res_2 rfl rfl rfl rfl rfl, ?_, rfl⟩
    rw [Net.levels, if_neg (by simpa using gh1)]; rfl
  · have gh1 := h1
    try simp only [decide_eq_true_eq, decide_eq_false_iff_not, Bool.not_eq_true', Bool.not_eq_false', beq_iff_eq, bne_iff_ne, beq_eq_false_iff_ne, bne_eq_false_iff_eq, Bool.or_eq_true, Bool.and_eq_true, Bool.or_eq_false_iff, gt_iff_lt, ge_iff_le] at h1
    have hv : n.valid = true := by simpa using gh1
    obtain ⟨f1, f2, f3, f4, f5, f6, f7⟩ := Net.valid_facts hv
    refine aw_skip ?_
    refine aw_seq ?_
    refine aw_region ?_
    first
      | refine al_op (op_load_rptr Try.underlying27 info27 rfl rfl) rfl (by simp) ?_
      | refine al_op (op_load_map Try.underlying27 info27 rfl rfl (by omega) rfl) rfl (by simp) ?_
      | refine al_op (op_load_ptr Try.underlying27 info27 rfl rfl rfl rfl) rfl (by simp) ?_
    first
      | refine al_callp into63 rfl rfl rfl ((r_first _ (by assumption)) _) (by simp) ?_
      | refine al_callp into63 rfl rfl rfl (acp_lent (lend_cons (by first | exact lend_same | exact .leaf _ _ (.vnil _) | exact .leaf _ _ (.nil _) | exact lend_whole rfl (by first | rfl | simp) (clo_map (fun _ => rfl))) lend_nil) (r_first _ (by assumption)) rfl) (by simp) ?_
    (refine al_opR (op_makeN (f := encI) 12 (0 : Int) Try.underlying54 info3 rfl rfl (by decide) rfl rfl rfl rfl (by omega) (by show (8 : Int) * _ ≤ _; omega) (by omega)) rfl (by simp) ?_; rintro _ _ ⟨ver12, rfl, rfl⟩)
    refine al_op (op_assign rfl) rfl (by simp) ?_
    refine al_nil ?_
    refine aw_seq ?_
    refine aw_seq ?_
    refine aw_region ?_
    first
      | refine al_op (op_field_rptr Try.underlying27 rfl info24 (by decide) rfl rfl) rfl (by simp) ?_
      | refine al_op (op_field_ptr Try.underlying27 rfl info24 (by decide) rfl rfl rfl) rfl (by simp) ?_
    first
      | refine al_op (op_load_rptr Try.underlying24 info24 rfl rfl) rfl (by simp) ?_
      | refine al_op (op_load_map Try.underlying24 info24 rfl rfl (by omega) rfl) rfl (by simp) ?_
      | refine al_op (op_load_ptr Try.underlying24 info24 rfl rfl rfl rfl) rfl (by simp) ?_
    first
      | refine al_op (op_len_map Try.underlying24 rfl) rfl (by simp) ?_
      | refine al_op (op_len_slice Try.underlying24 rfl rfl) rfl (by simp) ?_
      | refine al_op (op_len_list Try.underlying24 rfl) rfl (by simp) ?_
      | refine al_op (op_len_v Try.underlying24 rfl) rfl (by simp) ?_
      | refine al_op (op_len_nil Try.underlying24 rfl) rfl (by simp) ?_
    refine al_op (op_move rfl) rfl (by simp) ?_
    refine al_nil ?_
    refine aw_block ?_
    refine aw_for2T (α := Nat) (β := Nat) [4, 16] [6] (fun i ver => n.gates.length - i) (fun i ver => i ≤ n.gates.length) (fun i ver => ([(4, .slice 12 ver 0 (n.levTo i).length), (16, .v (.int .i64 (i)))] : Env)) (fun i ver s => s.put 12 ver (.row 1 ((n.levTo i).map encI))) (0) (ver12) ?_ ?_ ?_ (fun i ver hinv => ?_)
    · exact Nat.zero_le _
    · refine sub_cons (get_as rfl ?_) ?_; rotate_left; refine sub_cons (get_as rfl ?_) ?_; rotate_left; exact sub_nil
      all_goals (first | rfl | (simp; done))
    · rfl
    refine aw_seq ?_
    refine aw_region ?_
    refine al_op (op_lss rfl rfl) rfl (by simp) ?_
    refine al_nil ?_
    refine aw_seq ?_
    refine aw_cond rfl (fun h2 => ?_) (fun h2 => ?_)
    · have gh2 := h2
      try simp only [decide_eq_true_eq, decide_eq_false_iff_not, Bool.not_eq_true', Bool.not_eq_false', beq_iff_eq, bne_iff_ne, beq_eq_false_iff_ne, bne_eq_false_iff_eq, Bool.or_eq_true, Bool.and_eq_true, Bool.or_eq_false_iff, gt_iff_lt, ge_iff_le] at h2
      refine aw_skip ?_
      refine aw_seq ?_
      refine aw_block ?_
      refine aw_seq ?_
      refine aw_region ?_
      first
        | refine al_op (op_index_map default Try.underlying24 info86 rfl rfl rfl (by first | (with_reducible exact Int.toNat_natCast _) | rfl) (by omega) (by omega)) rfl (by simp) ?_
        | refine al_op (op_index_slice Try.underlying24 info86 rfl rfl rfl rfl (by omega) (by omega)) rfl (by simp) ?_
        | refine al_op (op_index_list Try.underlying24 info86 rfl rfl rfl (by decide) rfl) rfl (by simp) ?_
      first
        | refine al_op (op_load_rptr Try.underlying86 info86 rfl rfl) rfl (by simp) ?_
        | refine al_op (op_load_map Try.underlying86 info86 rfl rfl (by omega) rfl) rfl (by simp) ?_
        | refine al_op (op_load_ptr Try.underlying86 info86 rfl rfl rfl rfl) rfl (by simp) ?_
      (refine al_opR (op_alloc 6 info86 rfl rfl) rfl (by simp) ?_; rintro _ _ ⟨ver6, rfl, rfl⟩)
      first
        | refine al_op (op_store_ptr info86 rfl rfl rfl rfl rfl rfl (by first | rfl | exact live_one rfl | (repeat (first | exact all_live_nil | refine all_live_clo rfl ?_ | refine all_live_slice rfl ?_ | refine all_live_map rfl ?_ | refine all_live_ptr rfl ?_))) (by decide)) rfl (by simp) ?_
        | refine al_op (op_store_ptr info86 rfl rfl rfl rfl rfl rfl (by first | rfl | exact live_one rfl | (repeat (first | exact all_live_nil | refine all_live_clo rfl ?_ | refine all_live_slice rfl ?_ | refine all_live_map rfl ?_ | refine all_live_ptr rfl ?_))) (Nat.le_of_ble_eq_true rfl)) rfl (by simp) ?_
      refine al_nil ?_
      have hg := f5 i (by omega)
      have hlen := n.levTo_length i
      have hr1 := n.levTo_range i (0 + ((n.gates.getD i default).1 / 2).toNat)
      have hr2 := n.levTo_range i (0 + ((n.gates.getD i default).2 / 2).toNat)
      refine aw_any (Checked.mixed Try.checked) ?_
      apply aany_seg (p := 0) (q := 16) (by kernel_rfl) rfl (by decide)
      ·
        apply ql_plain rfl (op_move rfl)
        apply ql_plain rfl (op_move rfl)
        first
          | apply ql_plain rfl (op_index_arptr Try.underlying86 info3 rfl rfl rfl (by decide) (by decide))
          | apply ql_plain rfl (op_index_aptr Try.underlying86 info3 rfl rfl rfl rfl (by decide) (by decide))
        first
          | apply ql_plain rfl (op_load_rptr Try.underlying3 info3 rfl rfl)
          | apply ql_plain rfl (op_load_map Try.underlying3 info3 rfl rfl (by omega) rfl)
          | apply ql_plain rfl (op_load_ptr Try.underlying3 info3 rfl rfl rfl rfl)
        apply ql_plain rfl (op_quo rfl rfl (by omega) (quo_nn (by omega) (by omega) (by omega)))
        first
          | apply ql_plain rfl (op_index_map default Try.underlying54 info3 rfl rfl rfl (by first | (with_reducible exact Int.toNat_natCast _) | rfl) (by omega) (by omega))
          | apply ql_plain rfl (op_index_slice Try.underlying54 info3 rfl rfl rfl rfl (by omega) (by omega))
          | apply ql_plain rfl (op_index_list Try.underlying54 info3 rfl rfl rfl (by decide) rfl)
        first
          | apply ql_plain rfl (op_load_rptr Try.underlying3 info3 rfl rfl)
          | apply ql_plain rfl (op_load_map Try.underlying3 info3 rfl rfl (by omega) rfl)
          | apply ql_plain rfl (op_load_ptr Try.underlying3 info3 rfl rfl rfl rfl)
        apply ql_plain rfl (op_move rfl)
        first
          | apply ql_plain rfl (op_index_arptr Try.underlying86 info3 rfl rfl rfl (by decide) (by decide))
          | apply ql_plain rfl (op_index_aptr Try.underlying86 info3 rfl rfl rfl rfl (by decide) (by decide))
        first
          | apply ql_plain rfl (op_load_rptr Try.underlying3 info3 rfl rfl)
          | apply ql_plain rfl (op_load_map Try.underlying3 info3 rfl rfl (by omega) rfl)
          | apply ql_plain rfl (op_load_ptr Try.underlying3 info3 rfl rfl rfl rfl)
        apply ql_plain rfl (op_quo rfl rfl (by omega) (quo_nn (by omega) (by omega) (by omega)))
        first
          | apply ql_plain rfl (op_index_map default Try.underlying54 info3 rfl rfl rfl (by first | (with_reducible exact Int.toNat_natCast _) | rfl) (by omega) (by omega))
          | apply ql_plain rfl (op_index_slice Try.underlying54 info3 rfl rfl rfl rfl (by omega) (by omega))
          | apply ql_plain rfl (op_index_list Try.underlying54 info3 rfl rfl rfl (by decide) rfl)
        first
          | apply ql_plain rfl (op_load_rptr Try.underlying3 info3 rfl rfl)
          | apply ql_plain rfl (op_load_map Try.underlying3 info3 rfl rfl (by omega) rfl)
          | apply ql_plain rfl (op_load_ptr Try.underlying3 info3 rfl rfl rfl rfl)
        apply ql_plain rfl (op_max rfl rfl)
        apply ql_plain rfl (op_add rfl rfl (by first | exact wrap_i64 (by omega) (by omega)))
        apply ql_plain rfl (op_buildSlice Try.underlying54 info3 rfl rfl (by decide) rfl (by decide) rfl (by first | rfl | (repeat (first | exact parts_nil | refine parts_cons rfl (by repeat (first | exact all_live_nil | refine all_live_clo rfl ?_ | refine all_live_slice rfl ?_ | refine all_live_map rfl ?_ | refine all_live_ptr rfl ?_)) ?_))) rfl rfl rfl)
        exact ql_nil
      · simp
      first
        | (refine aany_opR (by kernel_rfl) rfl rfl (op_append_one (levAt (n.levTo i) (n.gates.getD i default)) Try.underlying54 Try.underlying54 rfl info3 rfl rfl (by decide) rfl rfl rfl (by first | rfl | simp) rfl rfl (by first | omega | (simp; done) | (simp; omega)) (by show _ * 8 ≤ _; first | omega | (simp; done) | (simp; omega))) (by simp) ?_; rintro _ _ ⟨ver36, rfl, rfl⟩)
        | (refine aany_opR (by kernel_rfl) rfl rfl (op_append_map Try.underlying54 Try.underlying54 rfl info3 rfl rfl (by decide) rfl rfl rfl (by first | rfl | simp) rfl (by first | exact .list _ | exact .vnil | exact .nil | exact .row _ _ _ _ rfl (by first | rfl | simp)) rfl (by first | omega | (simp; done) | (simp; omega)) (by show _ * 8 ≤ _; first | omega | (simp; done) | (simp; omega))) (by simp) ?_; rintro _ _ ⟨ver36, rfl, rfl⟩)
      apply aany_seg (p := 17) (q := 18) (by kernel_rfl) rfl (by decide)
      ·
        apply ql_plain rfl (op_assign rfl)
        exact ql_nil
      · simp
      refine aany_end rfl (by kernel_rfl) ?_
      refine aw_region ?_
      refine al_op (op_add rfl rfl (by first | exact wrap_i64 (by omega) (by omega))) rfl (by simp) ?_
      refine al_op (op_move rfl) rfl (by simp) ?_
      refine al_nil ?_
      refine ⟨i + 1, ver36, ?_, ?_, ?_, ?_, ?_⟩
      · omega
      · omega
      · refine sub_cons (get_as rfl ?_) ?_; rotate_left; refine sub_cons (get_as rfl ?_) ?_; rotate_left; exact sub_nil
        all_goals (first | rfl | (simp; done))
      · repeat (first | exact subx_refl | exact subx_del | refine subx_put rfl ?_)
      · rfl
    · have gh2 := h2
      try simp only [decide_eq_true_eq, decide_eq_false_iff_not, Bool.not_eq_true', Bool.not_eq_false', beq_iff_eq, bne_iff_ne, beq_eq_false_iff_ne, bne_eq_false_iff_eq, Bool.or_eq_true, Bool.and_eq_true, Bool.or_eq_false_iff, gt_iff_lt, ge_iff_le] at h2
      refine aw_exit ?_
      obtain rfl : i = n.gates.length := by omega
      refine aw_seq ?_
      refine aw_region ?_
      refine al_op (op_move rfl) rfl (by simp) ?_
      refine al_op (op_assign rfl) rfl (by simp) ?_
      refine al_op (op_assign rfl) rfl (by simp) ?_
      refine al_nil ?_
      refine aw_freeze (fun _ => false) (fsub_cons (t := 2) rfl (by first | exact .leaf _ _ (frz_whole rfl rfl (by first | rfl | (simp; done) | (simp; omega)) (clo_map (fun _ => rfl))) | exact .leaf _ _ (.vnil 1) | exact .leaf _ _ (.nil 1) | exact .leaf _ _ (.same _)) (fsub_cons (t := 3) rfl (.leaf _ _ (.same _)) fsub_nil)) ?_
      refine aw_ret ?_
      refine ⟨_, res_2 rfl rfl rfl rfl rfl, ?_, rfl⟩
      rw [Net.levels, if_pos hv]

theorem l_ints (l m : List Int) (hl : l.length ≤ 140737488355328) : ACp Try.prog 47 [.list 1 (l.map encI), .list 1 (m.map encI)] (.v (.bool (sameBits l m))) := by
  refine acp_of rfl ?_
  refine ac_enter 26 Try.func47 rfl rfl (by simp) ?_
  refine aw_seq ?_
  refine aw_region ?_
  refine al_op (op_assign rfl) rfl (by simp) ?_
  refine al_nil ?_
  refine aw_seq ?_
  refine aw_seq ?_
  refine aw_region ?_
  refine al_op (op_move rfl) rfl (by simp) ?_
  first
    | refine al_op (op_len_map Try.underlying54 rfl) rfl (by simp) ?_
    | refine al_op (op_len_slice Try.underlying54 rfl rfl) rfl (by simp) ?_
    | refine al_op (op_len_list Try.underlying54 rfl) rfl (by simp) ?_
    | refine al_op (op_len_v Try.underlying54 rfl) rfl (by simp) ?_
    | refine al_op (op_len_nil Try.underlying54 rfl) rfl (by simp) ?_
  refine al_op (op_move rfl) rfl (by simp) ?_
  first
    | refine al_op (op_len_map Try.underlying54 rfl) rfl (by simp) ?_
    | refine al_op (op_len_slice Try.underlying54 rfl rfl) rfl (by simp) ?_
    | refine al_op (op_len_list Try.underlying54 rfl) rfl (by simp) ?_
    | refine al_op (op_len_v Try.underlying54 rfl) rfl (by simp) ?_
    | refine al_op (op_len_nil Try.underlying54 rfl) rfl (by simp) ?_
  refine al_op (op_neq rfl rfl) rfl (by simp) ?_
  refine al_nil ?_
  refine aw_cond rfl (fun h1 => ?_) (fun h1 => ?_)
  · have gh1 := h1
    try simp only [decide_eq_true_eq, decide_eq_false_iff_not, Bool.not_eq_true', Bool.not_eq_false', beq_iff_eq, bne_iff_ne, beq_eq_false_iff_ne, bne_eq_false_iff_eq, Bool.or_eq_true, Bool.and_eq_true, Bool.or_eq_false_iff, gt_iff_lt, ge_iff_le] at h1
    refine aw_seq ?_
    refine aw_region ?_
    refine al_op (op_assign rfl) rfl (by simp) ?_
    refine al_nil ?_
    refine aw_freeze (fun _ => false) (fsub_cons (t := 4) rfl (.leaf _ _ (.same _)) fsub_nil) ?_
    refine aw_ret ?_
    refine ⟨_, res_1 rfl rfl, ?_, rfl⟩
    rw [sameBits, show ((l.length : Int) == m.length) = false from by simpa using gh1]; rfl
  · have gh1 := h1
    try simp only [decide_eq_true_eq, decide_eq_false_iff_not, Bool.not_eq_true', Bool.not_eq_false', beq_iff_eq, bne_iff_ne, beq_eq_false_iff_ne, bne_eq_false_iff_eq, Bool.or_eq_true, Bool.and_eq_true, Bool.or_eq_false_iff, gt_iff_lt, ge_iff_le] at h1
    refine aw_skip ?_
    refine aw_seq ?_
    refine aw_seq ?_
    refine aw_region ?_
    refine al_op (op_move rfl) rfl (by simp) ?_
    first
      | refine al_op (op_len_map Try.underlying54 rfl) rfl (by simp) ?_
      | refine al_op (op_len_slice Try.underlying54 rfl rfl) rfl (by simp) ?_
      | refine al_op (op_len_list Try.underlying54 rfl) rfl (by simp) ?_
      | refine al_op (op_len_v Try.underlying54 rfl) rfl (by simp) ?_
      | refine al_op (op_len_nil Try.underlying54 rfl) rfl (by simp) ?_
    refine al_op (op_move rfl) rfl (by simp) ?_
    refine al_nil ?_
    refine aw_block ?_
    refine aw_forT (ι := Nat) [4, 13] [] (fun i => l.length - i) (fun i => i ≤ l.length ∧ allTo (fun i => (l.getD i default) == (m.getD i default)) i = true) (fun i => ([(13, .v (.int .i64 (i)))] : Env)) (fun i s => s) (0) ?_ ?_ ?_ (fun i hinv => ?_)
    · exact ⟨Nat.zero_le _, rfl⟩
    · refine sub_cons (get_as rfl ?_) ?_; rotate_left; exact sub_nil
      all_goals (first | rfl | simp)
    · rfl
    have hi := hinv.1
    refine aw_seq ?_
    refine aw_region ?_
    refine al_op (op_lss rfl rfl) rfl (by simp) ?_
    refine al_nil ?_
    refine aw_seq ?_
    refine aw_cond rfl (fun h2 => ?_) (fun h2 => ?_)
    · have gh2 := h2
      try simp only [decide_eq_true_eq, decide_eq_false_iff_not, Bool.not_eq_true', Bool.not_eq_false', beq_iff_eq, bne_iff_ne, beq_eq_false_iff_ne, bne_eq_false_iff_eq, Bool.or_eq_true, Bool.and_eq_true, Bool.or_eq_false_iff, gt_iff_lt, ge_iff_le] at h2
      refine aw_skip ?_
      refine aw_seq ?_
      refine aw_block ?_
      refine aw_seq ?_
      refine aw_region ?_
      refine al_op (op_move rfl) rfl (by simp) ?_
      refine al_op (op_assign rfl) rfl (by simp) ?_
      refine al_nil ?_
      refine aw_seq ?_
      refine aw_any (Checked.mixed Try.checked) ?_
      apply aany_seg (p := 0) (q := 9) (by kernel_rfl) rfl (by decide)
      ·
        apply ql_plain rfl (op_move rfl)
        apply ql_plain rfl (op_move rfl)
        first
          | apply ql_plain rfl (op_index_map default Try.underlying54 info3 rfl rfl rfl (by first | (with_reducible exact Int.toNat_natCast _) | rfl) (by omega) (by omega))
          | apply ql_plain rfl (op_index_slice Try.underlying54 info3 rfl rfl rfl rfl (by omega) (by omega))
          | apply ql_plain rfl (op_index_list Try.underlying54 info3 rfl rfl rfl (by decide) rfl)
        first
          | apply ql_plain rfl (op_load_rptr Try.underlying3 info3 rfl rfl)
          | apply ql_plain rfl (op_load_map Try.underlying3 info3 rfl rfl (by omega) rfl)
          | apply ql_plain rfl (op_load_ptr Try.underlying3 info3 rfl rfl rfl rfl)
        apply ql_plain rfl (op_move rfl)
        apply ql_plain rfl (op_move rfl)
        first
          | apply ql_plain rfl (op_index_map default Try.underlying54 info3 rfl rfl rfl (by first | (with_reducible exact Int.toNat_natCast _) | rfl) (by omega) (by omega))
          | apply ql_plain rfl (op_index_slice Try.underlying54 info3 rfl rfl rfl rfl (by omega) (by omega))
          | apply ql_plain rfl (op_index_list Try.underlying54 info3 rfl rfl rfl (by decide) rfl)
        first
          | apply ql_plain rfl (op_load_rptr Try.underlying3 info3 rfl rfl)
          | apply ql_plain rfl (op_load_map Try.underlying3 info3 rfl rfl (by omega) rfl)
          | apply ql_plain rfl (op_load_ptr Try.underlying3 info3 rfl rfl rfl rfl)
        apply ql_plain rfl (op_neq rfl rfl)
        exact ql_nil
      · simp
      refine aany_end rfl (by kernel_rfl) ?_
      refine aw_cond rfl (fun h3 => ?_) (fun h3 => ?_)
      · have gh3 := h3
        try simp only [decide_eq_true_eq, decide_eq_false_iff_not, Bool.not_eq_true', Bool.not_eq_false', beq_iff_eq, bne_iff_ne, beq_eq_false_iff_ne, bne_eq_false_iff_eq, Bool.or_eq_true, Bool.and_eq_true, Bool.or_eq_false_iff, gt_iff_lt, ge_iff_le] at h3
        refine aw_seq ?_
        refine aw_region ?_
        refine al_op (op_assign rfl) rfl (by simp) ?_
        refine al_nil ?_
        refine aw_freeze (fun _ => false) (fsub_cons (t := 4) rfl (.leaf _ _ (.same _)) fsub_nil) ?_
        refine aw_ret ?_
        refine ⟨_, res_1 rfl rfl, ?_, rfl⟩
        rw [sameBits, allTo_false i (by omega) (by simpa using gh3), Bool.and_false]
      · have gh3 := h3
        try simp only [decide_eq_true_eq, decide_eq_false_iff_not, Bool.not_eq_true', Bool.not_eq_false', beq_iff_eq, bne_iff_ne, beq_eq_false_iff_ne, bne_eq_false_iff_eq, Bool.or_eq_true, Bool.and_eq_true, Bool.or_eq_false_iff, gt_iff_lt, ge_iff_le] at h3
        refine aw_skip ?_
        refine aw_region ?_
        refine al_op (op_add rfl rfl (by first | exact wrap_i64 (by omega) (by omega))) rfl (by simp) ?_
        refine al_op (op_move rfl) rfl (by simp) ?_
        refine al_nil ?_
        refine ⟨i + 1, ?_, ?_, ?_, ?_, ?_⟩
        · omega
        · exact ⟨by omega, allTo_succ hinv.2 (by simpa using gh3)⟩
        · refine sub_cons (get_as rfl ?_) ?_; rotate_left; exact sub_nil
          all_goals (first | rfl | simp)
        · repeat (first | exact subx_refl | exact subx_del | refine subx_put rfl ?_)
        · rfl
    · have gh2 := h2
      try simp only [decide_eq_true_eq, decide_eq_false_iff_not, Bool.not_eq_true', Bool.not_eq_false', beq_iff_eq, bne_iff_ne, beq_eq_false_iff_ne, bne_eq_false_iff_eq, Bool.or_eq_true, Bool.and_eq_true, Bool.or_eq_false_iff, gt_iff_lt, ge_iff_le] at h2
      refine aw_exit ?_
      obtain rfl : i = l.length := by omega
      refine aw_seq ?_
      refine aw_region ?_
      refine al_op (op_assign rfl) rfl (by simp) ?_
      refine al_nil ?_
      refine aw_freeze (fun _ => false) (fsub_cons (t := 4) rfl (.leaf _ _ (.same _)) fsub_nil) ?_
      refine aw_ret ?_
      refine ⟨_, res_1 rfl rfl, ?_, rfl⟩
      rw [sameBits, hinv.2, Bool.and_true, show ((l.length : Int) == m.length) = true from by simpa using gh1]
end Go.Proofs.Ytbpamlphacpkeaa
