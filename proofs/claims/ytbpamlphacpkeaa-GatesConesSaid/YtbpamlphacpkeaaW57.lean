/- Printed walks (gen.py, gates_ann.py): part 57. -/
import Derived.Test.YtbpamlphacpkeaaW55
import Derived.Test.YtbpamlphacpkeaaFacts
set_option linter.unusedVariables false
set_option linter.unusedSimpArgs false
set_option maxRecDepth 20000
namespace Go.Proofs.Ytbpamlphacpkeaa
open Go

theorem r_Cone (n : Net) (hn : n.Small) (lit : Int) (hl0 : -9223372036854775808 ≤ lit) (hl1 : lit ≤ 9223372036854775807) : ACp Try.prog 44 [encN n, .v (.int .i64 (lit))] (.tuple [.list 1 ((n.cone lit).1.map encI), .v (.int .i64 ((n.cone lit).2))]) := by
  refine acp_of rfl ?_
  have hr := n.nodes_range
  have k1 : n.first = 1 + n.ins.length + n.regs.length := rfl
  have z1 := hn.insL
  have z2 := hn.regsL
  have z3 := hn.gatesL
  refine ac_enter 42 Try.func44 rfl rfl (by simp) ?_
  refine aw_seq ?_
  refine aw_region ?_
  (refine al_opR (op_box 2 rfl rfl (by first | rfl | exact live_one rfl | (repeat (first | exact all_live_nil | refine all_live_clo rfl ?_ | refine all_live_slice rfl ?_ | refine all_live_map rfl ?_ | refine all_live_ptr rfl ?_)))) rfl (by simp) ?_; rintro _ _ ⟨ver2, rfl, rfl⟩)
  refine al_op (op_assign rfl) rfl (by simp) ?_
  refine al_op (op_assign rfl) rfl (by simp) ?_
  refine al_nil ?_
  refine aw_seq ?_
  refine aw_seq ?_
  refine aw_any (Checked.mixed Try.checked) ?_
  apply aany_seg (p := 0) (q := 4) (by kernel_rfl) rfl (by decide)
  ·
    first
      | apply ql_plain rfl (op_load_rptr Try.underlying27 info27 rfl rfl)
      | apply ql_plain rfl (op_load_map Try.underlying27 info27 rfl rfl (by omega) rfl)
      | apply ql_plain rfl (op_load_ptr Try.underlying27 info27 rfl rfl rfl rfl)
    first
      | apply ql_call into21 rfl rfl rfl ((r_Valid _ (by assumption)) _)
      | apply ql_call into21 rfl rfl rfl (acp_lent (lend_cons (by first | exact lend_same | exact .leaf _ _ (.vnil _) | exact .leaf _ _ (.nil _) | exact lend_whole rfl (by first | rfl | simp) (clo_map (fun _ => rfl))) lend_nil) (r_Valid _ (by assumption)) rfl)
    apply ql_plain rfl (op_not rfl)
    apply ql_plain rfl (op_move rfl)
    exact ql_nil
  · simp
  apply aany_or 4 14 12 22 (by kernel_rfl) rfl (by decide) rfl (by simp)
  · intro h1; have gh1 := h1
    try simp only [decide_eq_true_eq, decide_eq_false_iff_not, Bool.not_eq_true', Bool.not_eq_false', beq_iff_eq, bne_iff_ne, beq_eq_false_iff_ne, bne_eq_false_iff_eq, Bool.or_eq_true, Bool.and_eq_true, Bool.or_eq_false_iff, gt_iff_lt, ge_iff_le] at h1
    apply ql_ex
    ·
      apply ql_take rfl rfl rfl rfl (op_move rfl)
      first
        | apply ql_take rfl rfl rfl rfl (op_load_rptr Try.underlying27 info27 rfl rfl)
        | apply ql_take rfl rfl rfl rfl (op_load_map Try.underlying27 info27 rfl rfl (by omega) rfl)
        | apply ql_take rfl rfl rfl rfl (op_load_ptr Try.underlying27 info27 rfl rfl rfl rfl)
      first
        | apply ql_call_take into63 rfl rfl rfl rfl rfl rfl ((r_first _ (by assumption)) _)
        | apply ql_call_take into63 rfl rfl rfl rfl rfl rfl (acp_lent (lend_cons (by first | exact lend_same | exact .leaf _ _ (.vnil _) | exact .leaf _ _ (.nil _) | exact lend_whole rfl (by first | rfl | simp) (clo_map (fun _ => rfl))) lend_nil) (r_first _ (by assumption)) rfl)
      first
        | apply ql_take rfl rfl rfl rfl (op_field_rptr Try.underlying27 rfl info24 (by decide) rfl rfl)
        | apply ql_take rfl rfl rfl rfl (op_field_ptr Try.underlying27 rfl info24 (by decide) rfl rfl rfl)
      first
        | apply ql_take rfl rfl rfl rfl (op_load_rptr Try.underlying24 info24 rfl rfl)
        | apply ql_take rfl rfl rfl rfl (op_load_map Try.underlying24 info24 rfl rfl (by omega) rfl)
        | apply ql_take rfl rfl rfl rfl (op_load_ptr Try.underlying24 info24 rfl rfl rfl rfl)
      first
        | apply ql_take rfl rfl rfl rfl (op_len_map Try.underlying24 rfl)
        | apply ql_take rfl rfl rfl rfl (op_len_slice Try.underlying24 rfl rfl)
        | apply ql_take rfl rfl rfl rfl (op_len_list Try.underlying24 rfl)
        | apply ql_take rfl rfl rfl rfl (op_len_v Try.underlying24 rfl)
        | apply ql_take rfl rfl rfl rfl (op_len_nil Try.underlying24 rfl)
      apply ql_take rfl rfl rfl rfl (op_add rfl rfl (by first | exact wrap_i64 (by omega) (by omega)))
      first
        | apply ql_call_take into62 rfl rfl rfl rfl rfl rfl ((r_lit _ _ (by omega)) _)
        | apply ql_call_take into62 rfl rfl rfl rfl rfl rfl (acp_lent (lend_cons (by first | exact lend_same | exact .leaf _ _ (.vnil _) | exact .leaf _ _ (.nil _) | exact lend_whole rfl (by first | rfl | simp) (clo_map (fun _ => rfl))) (lend_cons (by first | exact lend_same | exact .leaf _ _ (.vnil _) | exact .leaf _ _ (.nil _) | exact lend_whole rfl (by first | rfl | simp) (clo_map (fun _ => rfl))) lend_nil)) (r_lit _ _ (by omega)) rfl)
      apply ql_take rfl rfl rfl rfl (op_not rfl)
      first
        | apply ql_plain rfl (op_pick rfl rfl)
        | apply ql_plain rfl (op_or rfl rfl rfl)
      exact ql_nil
    · rfl
    · repeat (first | exact subx_refl | exact subx_known rfl gh1 subx_refl | refine subx_put rfl ?_)
  · intro h1; have gh1 := h1
    try simp only [decide_eq_true_eq, decide_eq_false_iff_not, Bool.not_eq_true', Bool.not_eq_false', beq_iff_eq, bne_iff_ne, beq_eq_false_iff_ne, bne_eq_false_iff_eq, Bool.or_eq_true, Bool.and_eq_true, Bool.or_eq_false_iff, gt_iff_lt, ge_iff_le] at h1
    apply ql_ex
    ·
      apply ql_pass rfl rfl rfl rfl
      apply ql_pass rfl rfl rfl rfl
      apply ql_pass rfl rfl rfl rfl
      apply ql_pass rfl rfl rfl rfl
      apply ql_pass rfl rfl rfl rfl
      apply ql_pass rfl rfl rfl rfl
      apply ql_pass rfl rfl rfl rfl
      apply ql_pass rfl rfl rfl rfl
      apply ql_pass rfl rfl rfl rfl
      first
        | apply ql_plain rfl (op_pick rfl rfl)
        | apply ql_plain rfl (op_or rfl rfl rfl)
      exact ql_nil
    · rfl
    · repeat (first | exact subx_refl | exact subx_known rfl gh1 subx_refl | refine subx_put rfl ?_)
  refine aany_end rfl (by kernel_rfl) ?_
  refine aw_cond rfl (fun h2 => ?_) (fun h2 => ?_)
  · have gh2 := h2
    try simp only [decide_eq_true_eq, decide_eq_false_iff_not, Bool.not_eq_true', Bool.not_eq_false', beq_iff_eq, bne_iff_ne, beq_eq_false_iff_ne, bne_eq_false_iff_eq, Bool.or_eq_true, Bool.and_eq_true, Bool.or_eq_false_iff, gt_iff_lt, ge_iff_le] at h2
    refine aw_seq ?_
    refine aw_region ?_
    refine al_op (op_assign rfl) rfl (by simp) ?_
    refine al_op (op_assign rfl) rfl (by simp) ?_
    refine al_nil ?_
    refine aw_freeze (fun _ => false) (fsub_cons (t := 4) rfl (by first | exact .leaf _ _ (frz_whole rfl rfl (by first | rfl | (simp; done) | (simp; omega)) (clo_map (fun _ => rfl))) | exact .leaf _ _ (.vnil 1) | exact .leaf _ _ (.nil 1) | exact .leaf _ _ (.same _)) (fsub_cons (t := 5) rfl (.leaf _ _ (.same _)) fsub_nil)) ?_
    refine aw_ret ?_
    refine ⟨_, res_2 rfl rfl rfl rfl rfl, ?_, rfl⟩
    rw [Net.cone_bad2 gh2]; rfl
  · have gh2 := h2
    try simp only [decide_eq_true_eq, decide_eq_false_iff_not, Bool.not_eq_true', Bool.not_eq_false', beq_iff_eq, bne_iff_ne, beq_eq_false_iff_ne, bne_eq_false_iff_eq, Bool.or_eq_true, Bool.and_eq_true, Bool.or_eq_false_iff, gt_iff_lt, ge_iff_le] at h2
    have hc := Net.cone_ref gh2
    obtain ⟨hv, hq0, hq1⟩ := hc
    obtain ⟨f1, f2, f3, f4, f5, f6, f7⟩ := Net.valid_facts hv
    have hul := n.used_length [lit]
    obtain ⟨u1, u2⟩ := one_lit ⟨hv, hq0, hq1⟩
    refine aw_skip ?_
    refine aw_seq ?_
    refine aw_region ?_
    first
      | refine al_op (op_load_rptr Try.underlying27 info27 rfl rfl) rfl (by simp) ?_
      | refine al_op (op_load_map Try.underlying27 info27 rfl rfl (by omega) rfl) rfl (by simp) ?_
      | refine al_op (op_load_ptr Try.underlying27 info27 rfl rfl rfl rfl) rfl (by simp) ?_
    refine al_op (op_move rfl) rfl (by simp) ?_
    refine al_op (op_list encI [lit] Try.underlying54 info3 rfl rfl (by decide) rfl (by decide) rfl (by first | rfl | (repeat (first | exact parts_nil | refine parts_cons rfl (by repeat (first | exact all_live_nil | refine all_live_clo rfl ?_ | refine all_live_slice rfl ?_ | refine all_live_map rfl ?_ | refine all_live_ptr rfl ?_)) ?_))) rfl rfl rfl rfl) rfl (by simp) ?_
    first
      | refine al_callp into80 rfl rfl rfl ((r_cone _ (by assumption) (by assumption) _ (by assumption) (by assumption)) _) (by simp) ?_
      | refine al_callp into80 rfl rfl rfl (ac_told (re_cons (by first | exact .leaf _ _ (.same _) | exact .leaf _ _ (.vnil _) | exact .leaf _ _ (.nil _)) (re_cons (by first | exact .leaf _ _ (.same _) | exact .leaf _ _ (.vnil _) | exact .leaf _ _ (.nil _)) re_nil)) ((r_cone _ (by assumption) (by assumption) _ (by assumption) (by assumption)) _)) (by simp) ?_
    refine al_op (op_assign rfl) rfl (by simp) ?_
    refine al_nil ?_
    refine aw_seq ?_
    refine aw_region ?_
    refine al_op (op_assign rfl) rfl (by simp) ?_
    refine al_nil ?_
    refine aw_seq ?_
    refine aw_seq ?_
    refine aw_region ?_
    refine al_op (op_move rfl) rfl (by simp) ?_
    first
      | refine al_op (op_len_map Try.underlying64 rfl) rfl (by simp) ?_
      | refine al_op (op_len_slice Try.underlying64 rfl rfl) rfl (by simp) ?_
      | refine al_op (op_len_list Try.underlying64 rfl) rfl (by simp) ?_
      | refine al_op (op_len_v Try.underlying64 rfl) rfl (by simp) ?_
      | refine al_op (op_len_nil Try.underlying64 rfl) rfl (by simp) ?_
    refine al_op (op_move rfl) rfl (by simp) ?_
    refine al_nil ?_
    refine aw_block ?_
    refine aw_own_map encI 7 1 7 rfl rfl (fun ver7 => ?_)
    refine aw_for2T (α := Nat) (β := Nat) [7, 29] [] (fun i ver => (n.used [lit]).length - i) (fun i ver => i ≤ (n.used [lit]).length) (fun i ver => ([(7, .slice 7 ver 0 (coneTo (n.used [lit]) i).length), (29, .v (.int .i64 (i)))] : Env)) (fun i ver s => s.put 7 ver (.row 1 ((coneTo (n.used [lit]) i).map encI))) (0) (ver7) ?_ ?_ ?_ (fun i ver hinv => ?_)
    · exact Nat.zero_le _
    · refine sub_cons (get_as rfl ?_) ?_; rotate_left; refine sub_cons (get_as rfl ?_) ?_; rotate_left; exact sub_nil
      all_goals (first | rfl | (simp; done) | (rw [coneTo_yes gh4] <;> rfl) | (rw [coneTo_no gh4] <;> rfl))
    · rfl
    refine aw_seq ?_
    refine aw_region ?_
    refine al_op (op_lss rfl rfl) rfl (by simp) ?_
    refine al_nil ?_
    refine aw_seq ?_
    refine aw_cond rfl (fun h3 => ?_) (fun h3 => ?_)
    · have gh3 := h3
      try simp only [decide_eq_true_eq, decide_eq_false_iff_not, Bool.not_eq_true', Bool.not_eq_false', beq_iff_eq, bne_iff_ne, beq_eq_false_iff_ne, bne_eq_false_iff_eq, Bool.or_eq_true, Bool.and_eq_true, Bool.or_eq_false_iff, gt_iff_lt, ge_iff_le] at h3
      refine aw_skip ?_
      refine aw_seq ?_
      refine aw_block ?_
      refine aw_seq ?_
      refine aw_region ?_
      refine al_op (op_move rfl) rfl (by simp) ?_
      refine al_op (op_assign rfl) rfl (by simp) ?_
      refine al_nil ?_
      refine aw_seq ?_
      refine aw_region ?_
      refine al_op (op_move rfl) rfl (by simp) ?_
      refine al_op (op_move rfl) rfl (by simp) ?_
      first
        | refine al_op (op_index_map default Try.underlying64 info4 rfl rfl rfl (by first | (with_reducible exact Int.toNat_natCast _) | rfl) (by omega) (by omega)) rfl (by simp) ?_
        | refine al_op (op_index_slice Try.underlying64 info4 rfl rfl rfl rfl (by omega) (by omega)) rfl (by simp) ?_
        | refine al_op (op_index_list Try.underlying64 info4 rfl rfl rfl (by decide) rfl) rfl (by simp) ?_
      first
        | refine al_op (op_load_rptr Try.underlying4 info4 rfl rfl) rfl (by simp) ?_
        | refine al_op (op_load_map Try.underlying4 info4 rfl rfl (by omega) rfl) rfl (by simp) ?_
        | refine al_op (op_load_ptr Try.underlying4 info4 rfl rfl rfl rfl) rfl (by simp) ?_
      refine al_nil ?_
      refine aw_cond rfl (fun h4 => ?_) (fun h4 => ?_)
      · have gh4 := h4
        try simp only [decide_eq_true_eq, decide_eq_false_iff_not, Bool.not_eq_true', Bool.not_eq_false', beq_iff_eq, bne_iff_ne, beq_eq_false_iff_ne, bne_eq_false_iff_eq, Bool.or_eq_true, Bool.and_eq_true, Bool.or_eq_false_iff, gt_iff_lt, ge_iff_le] at h4
        have hcl := coneTo_length (n.used [lit]) i
        refine aw_region ?_
        refine al_op (op_move rfl) rfl (by simp) ?_
        refine al_op (op_move rfl) rfl (by simp) ?_
        refine al_op (op_buildSlice Try.underlying54 info3 rfl rfl (by decide) rfl (by decide) rfl (by first | rfl | (repeat (first | exact parts_nil | refine parts_cons rfl (by repeat (first | exact all_live_nil | refine all_live_clo rfl ?_ | refine all_live_slice rfl ?_ | refine all_live_map rfl ?_ | refine all_live_ptr rfl ?_)) ?_))) rfl rfl rfl) rfl (by simp) ?_
        first
          | (refine al_opR (op_append_one (i : Int) Try.underlying54 Try.underlying54 rfl info3 rfl rfl (by decide) rfl rfl rfl (by first | rfl | simp) rfl rfl (by first | omega | (simp; done) | (simp; omega)) (by show _ * 8 ≤ _; first | omega | (simp; done) | (simp; omega))) rfl (by simp) ?_; rintro _ _ ⟨ver39, rfl, rfl⟩)
          | (refine al_opR (op_append_map Try.underlying54 Try.underlying54 rfl info3 rfl rfl (by decide) rfl rfl rfl (by first | rfl | simp) rfl (by first | exact .list _ | exact .vnil | exact .nil | exact .row _ _ _ _ rfl (by first | rfl | simp)) rfl (by first | omega | (simp; done) | (simp; omega)) (by show _ * 8 ≤ _; first | omega | (simp; done) | (simp; omega))) rfl (by simp) ?_; rintro _ _ ⟨ver39, rfl, rfl⟩)
        refine al_op (op_assign rfl) rfl (by simp) ?_
        refine al_nil ?_
        refine aw_region ?_
        refine al_op (op_add rfl rfl (by first | exact wrap_i64 (by omega) (by omega))) rfl (by simp) ?_
        refine al_op (op_move rfl) rfl (by simp) ?_
        refine al_nil ?_
        refine ⟨i + 1, ver39, ?_, ?_, ?_, ?_, ?_⟩
        · omega
        · omega
        · refine sub_cons (get_as rfl ?_) ?_; rotate_left; refine sub_cons (get_as rfl ?_) ?_; rotate_left; exact sub_nil
          all_goals (first | rfl | (simp; done) | (rw [coneTo_yes gh4] <;> rfl) | (rw [coneTo_no gh4] <;> rfl))
        · repeat (first | exact subx_refl | exact subx_del | refine subx_put rfl ?_)
        · first | (rw [coneTo_yes gh4] <;> rfl) | (rw [coneTo_no gh4] <;> rfl)
      · have gh4 := h4
        try simp only [decide_eq_true_eq, decide_eq_false_iff_not, Bool.not_eq_true', Bool.not_eq_false', beq_iff_eq, bne_iff_ne, beq_eq_false_iff_ne, bne_eq_false_iff_eq, Bool.or_eq_true, Bool.and_eq_true, Bool.or_eq_false_iff, gt_iff_lt, ge_iff_le] at h4
        refine aw_skip ?_
        refine aw_region ?_
        refine al_op (op_add rfl rfl (by first | exact wrap_i64 (by omega) (by omega))) rfl (by simp) ?_
        refine al_op (op_move rfl) rfl (by simp) ?_
        refine al_nil ?_
        refine ⟨i + 1, ver, ?_, ?_, ?_, ?_, ?_⟩
        · omega
        · omega
        · refine sub_cons (get_as rfl ?_) ?_; rotate_left; refine sub_cons (get_as rfl ?_) ?_; rotate_left; exact sub_nil
          all_goals (first | rfl | (simp; done) | (rw [coneTo_yes gh4] <;> rfl) | (rw [coneTo_no gh4] <;> rfl))
        · repeat (first | exact subx_refl | exact subx_del | refine subx_put rfl ?_)
        · first | (rw [coneTo_yes gh4] <;> rfl) | (rw [coneTo_no gh4] <;> rfl)
    · have gh3 := h3
      try simp only [decide_eq_true_eq, decide_eq_false_iff_not, Bool.not_eq_true', Bool.not_eq_false', beq_iff_eq, bne_iff_ne, beq_eq_false_iff_ne, bne_eq_false_iff_eq, Bool.or_eq_true, Bool.and_eq_true, Bool.or_eq_false_iff, gt_iff_lt, ge_iff_le] at h3
      refine aw_exit ?_
      obtain rfl : i = (n.used [lit]).length := by omega
      refine aw_seq ?_
      refine aw_region ?_
      refine al_op (op_move rfl) rfl (by simp) ?_
      refine al_op (op_assign rfl) rfl (by simp) ?_
      refine al_op (op_assign rfl) rfl (by simp) ?_
      refine al_nil ?_
      refine aw_freeze (fun _ => false) (fsub_cons (t := 4) rfl (by first | exact .leaf _ _ (frz_whole rfl rfl (by first | rfl | (simp; done) | (simp; omega)) (clo_map (fun _ => rfl))) | exact .leaf _ _ (.vnil 1) | exact .leaf _ _ (.nil 1) | exact .leaf _ _ (.same _)) (fsub_cons (t := 5) rfl (.leaf _ _ (.same _)) fsub_nil)) ?_
      refine aw_ret ?_
      refine ⟨_, res_2 rfl rfl rfl rfl rfl, ?_, rfl⟩
      rw [Net.cone_yes ⟨hv, hq0, hq1⟩]
end Go.Proofs.Ytbpamlphacpkeaa
