/- Printed walks (gen.py, gates_ann.py): part 61. -/
import Derived.Test.YtbpamlphacpkeaaW57
import Derived.Test.YtbpamlphacpkeaaW56
import Derived.Test.YtbpamlphacpkeaaW41
import Derived.Test.YtbpamlphacpkeaaGCone
import Derived.Test.YtbpamlphacpkeaaFacts
set_option linter.unusedVariables false
set_option linter.unusedSimpArgs false
set_option maxRecDepth 20000
set_option maxHeartbeats 2000000
namespace Go.Proofs.Ytbpamlphacpkeaa
open Go

theorem l_bitsI (l : List Int) (m : Int) (k : Nat) (x : Bool) (e : m = k) (hl : l.length ≤ 140737488355328) (hm : k ≤ 100000) (hv : ∀ y ∈ l, 0 ≤ y ∧ y ≤ 255) : ACp Try.prog 22 [.list 1 (l.map encB), .v (.int .i64 (m)), .v (.bool (x))] (.list 1 ((bitsOf l k x).map encB)) := by
  subst e; exact l_bits l k x hl hm hv
theorem law_GatesCones (n : Net) (hn : n.Small) (lit : Int) (ht0 : -9223372036854775808 ≤ lit) (ht1 : lit ≤ 9223372036854775807) (l0 l1 l2 : List Int) (hl0 : l0.length ≤ 140737488355328) (hl1 : l1.length ≤ 140737488355328) (hl2 : l2.length ≤ 140737488355328) (hv0 : ∀ y ∈ l0, 0 ≤ y ∧ y ≤ 255) (hv1 : ∀ y ∈ l1, 0 ≤ y ∧ y ≤ 255) (hv2 : ∀ y ∈ l2, 0 ≤ y ∧ y ≤ 255) : ACp Try.prog 9 [encN n, .v (.int .i64 (lit)), .agg [.list 1 (l0.map encB), .list 1 (l1.map encB), .list 1 (l2.map encB)]] (.v (.bool (true))) := by
  refine acp_of rfl ?_
  refine ac_enter 194 Try.func9 rfl rfl (by simp) ?_
  refine aw_seq ?_
  refine aw_region ?_
  (refine al_opR (op_box 3 rfl rfl (by first | rfl | exact live_one rfl | (repeat (first | exact all_live_nil | refine all_live_clo rfl ?_ | refine all_live_slice rfl ?_ | refine all_live_map rfl ?_ | refine all_live_ptr rfl ?_)))) rfl (by simp) ?_; rintro _ _ ⟨ver3, rfl, rfl⟩)
  (refine al_opR (op_box 5 rfl rfl (by first | rfl | exact live_one rfl | (repeat (first | exact all_live_nil | refine all_live_clo rfl ?_ | refine all_live_slice rfl ?_ | refine all_live_map rfl ?_ | refine all_live_ptr rfl ?_)))) rfl (by simp) ?_; rintro _ _ ⟨ver5, rfl, rfl⟩)
  refine al_op (op_assign rfl) rfl (by simp) ?_
  refine al_nil ?_
  refine aw_seq ?_
  refine aw_seq ?_
  refine aw_region ?_
  first
    | refine al_op (op_load_rptr Try.underlying27 info27 rfl rfl) rfl (by simp) ?_
    | refine al_op (op_load_map Try.underlying27 info27 rfl rfl (by omega) rfl) rfl (by simp) ?_
    | refine al_op (op_load_ptr Try.underlying27 info27 rfl rfl rfl rfl) rfl (by simp) ?_
  first
    | refine al_callp into14 rfl rfl rfl ((l_few _ (by assumption)) _) (by simp) ?_
    | refine al_callp into14 rfl rfl rfl (acp_lent (lend_cons (by first | exact lend_same | exact .leaf _ _ (.vnil _) | exact .leaf _ _ (.nil _) | exact lend_whole rfl (by first | rfl | simp) (clo_map (fun _ => rfl))) lend_nil) (l_few _ (by assumption)) rfl) (by simp) ?_
  refine al_op (op_not rfl) rfl (by simp) ?_
  refine al_op (op_move rfl) rfl (by simp) ?_
  apply al_or 4 28 32 rfl
  · intro h1; have gh1 := h1
    try simp only [decide_eq_true_eq, decide_eq_false_iff_not, Bool.not_eq_true', Bool.not_eq_false', beq_iff_eq, bne_iff_ne, beq_eq_false_iff_ne, bne_eq_false_iff_eq, Bool.or_eq_true, Bool.and_eq_true, Bool.or_eq_false_iff, gt_iff_lt, ge_iff_le] at h1
    first
      | refine al_take (op_load_rptr Try.underlying27 info27 rfl rfl) rfl rfl rfl rfl (by simp) ?_
      | refine al_take (op_load_map Try.underlying27 info27 rfl rfl (by omega) rfl) rfl rfl rfl rfl (by simp) ?_
      | refine al_take (op_load_ptr Try.underlying27 info27 rfl rfl rfl rfl) rfl rfl rfl rfl (by simp) ?_
    first
      | refine al_callp_take into21 rfl rfl rfl rfl rfl rfl ((r_Valid _ (by assumption)) _) (by simp) ?_
      | refine al_callp_take into21 rfl rfl rfl rfl rfl rfl (acp_lent (lend_cons (by first | exact lend_same | exact .leaf _ _ (.vnil _) | exact .leaf _ _ (.nil _) | exact lend_whole rfl (by first | rfl | simp) (clo_map (fun _ => rfl))) lend_nil) (r_Valid _ (by assumption)) rfl) (by simp) ?_
    refine al_take (op_not rfl) rfl rfl rfl rfl (by simp) ?_
    first
      | refine al_op (op_pick rfl rfl) rfl (by simp) ?_
      | refine al_op (op_or rfl rfl rfl) rfl (by simp) ?_
    refine al_nil ⟨rfl, rfl, rfl, keep_of ?_⟩
    repeat (first | exact subx_refl | exact subx_known rfl gh1 subx_refl | refine subx_put rfl ?_)
  · intro h1; have gh1 := h1
    try simp only [decide_eq_true_eq, decide_eq_false_iff_not, Bool.not_eq_true', Bool.not_eq_false', beq_iff_eq, bne_iff_ne, beq_eq_false_iff_ne, bne_eq_false_iff_eq, Bool.or_eq_true, Bool.and_eq_true, Bool.or_eq_false_iff, gt_iff_lt, ge_iff_le] at h1
    refine al_pass rfl rfl rfl rfl (by simp) ?_
    refine al_pass rfl rfl rfl rfl (by simp) ?_
    refine al_pass rfl rfl rfl rfl (by simp) ?_
    first
      | refine al_op (op_pick rfl rfl) rfl (by simp) ?_
      | refine al_op (op_or rfl rfl rfl) rfl (by simp) ?_
    refine al_nil ⟨rfl, rfl, rfl, keep_of ?_⟩
    repeat (first | exact subx_refl | exact subx_known rfl gh1 subx_refl | refine subx_put rfl ?_)
  refine al_nil ?_
  refine aw_cond rfl (fun h2 => ?_) (fun h2 => ?_)
  · have gh2 := h2
    try simp only [decide_eq_true_eq, decide_eq_false_iff_not, Bool.not_eq_true', Bool.not_eq_false', beq_iff_eq, bne_iff_ne, beq_eq_false_iff_ne, bne_eq_false_iff_eq, Bool.or_eq_true, Bool.and_eq_true, Bool.or_eq_false_iff, gt_iff_lt, ge_iff_le] at h2
    refine aw_seq ?_
    refine aw_region ?_
    first
      | refine al_callp into15 rfl rfl rfl ((l_awake ) _) (by simp) ?_
      | refine al_callp into15 rfl rfl rfl (acp_lent lend_nil (l_awake ) rfl) (by simp) ?_
    refine al_op (op_assign rfl) rfl (by simp) ?_
    refine al_nil ?_
    refine aw_freeze (fun _ => false) (fsub_cons (t := 6) rfl (.leaf _ _ (.same _)) fsub_nil) ?_
    refine aw_ret ?_
    refine ⟨_, res_1 rfl rfl, ?_, rfl⟩
    rfl
  · have gh2 := h2
    try simp only [decide_eq_true_eq, decide_eq_false_iff_not, Bool.not_eq_true', Bool.not_eq_false', beq_iff_eq, bne_iff_ne, beq_eq_false_iff_ne, bne_eq_false_iff_eq, Bool.or_eq_true, Bool.and_eq_true, Bool.or_eq_false_iff, gt_iff_lt, ge_iff_le] at h2
    have hv : n.valid = true := by
      cases e : n.valid with
      | true => rfl
      | false => rw [e] at gh2; simp at gh2
    have q2 := Net.cone_len hn lit
    refine aw_skip ?_
    refine aw_seq ?_
    refine aw_region ?_
    first
      | refine al_op (op_load_rptr Try.underlying27 info27 rfl rfl) rfl (by simp) ?_
      | refine al_op (op_load_map Try.underlying27 info27 rfl rfl (by omega) rfl) rfl (by simp) ?_
      | refine al_op (op_load_ptr Try.underlying27 info27 rfl rfl rfl rfl) rfl (by simp) ?_
    refine al_op (op_move rfl) rfl (by simp) ?_
    first
      | refine al_callp into43 rfl rfl rfl ((c_cone _ (by assumption) _ (by omega) (by omega)) _) (by simp) ?_
      | refine al_callp into43 rfl rfl rfl (ac_told (re_cons (by first | exact .leaf _ _ (.same _) | exact .leaf _ _ (.vnil _) | exact .leaf _ _ (.nil _)) (re_cons (by first | exact .leaf _ _ (.same _) | exact .leaf _ _ (.vnil _) | exact .leaf _ _ (.nil _)) re_nil)) ((c_cone _ (by assumption) _ (by omega) (by omega)) _)) (by simp) ?_
    refine al_op (op_move rfl) rfl (by simp) ?_
    refine al_op (op_extract rfl rfl rfl) rfl (by simp) ?_
    refine al_op (op_extract rfl rfl rfl) rfl (by simp) ?_
    refine al_op (op_assign rfl) rfl (by simp) ?_
    refine al_op (op_assign rfl) rfl (by simp) ?_
    refine al_nil ?_
    refine aw_seq ?_
    refine aw_seq ?_
    refine aw_region ?_
    refine al_op (op_move rfl) rfl (by simp) ?_
    refine al_op (op_neq rfl rfl) rfl (by simp) ?_
    refine al_nil ?_
    refine aw_cond rfl (fun h3 => ?_) (fun h3 => ?_)
    · have gh3 := h3
      try simp only [decide_eq_true_eq, decide_eq_false_iff_not, Bool.not_eq_true', Bool.not_eq_false', beq_iff_eq, bne_iff_ne, beq_eq_false_iff_ne, bne_eq_false_iff_eq, Bool.or_eq_true, Bool.and_eq_true, Bool.or_eq_false_iff, gt_iff_lt, ge_iff_le] at h3
      refine aw_seq ?_
      refine aw_region ?_
      first
        | refine al_op (op_load_rptr Try.underlying27 info27 rfl rfl) rfl (by simp) ?_
        | refine al_op (op_load_map Try.underlying27 info27 rfl rfl (by omega) rfl) rfl (by simp) ?_
        | refine al_op (op_load_ptr Try.underlying27 info27 rfl rfl rfl rfl) rfl (by simp) ?_
      refine al_op (op_move rfl) rfl (by simp) ?_
      first
        | refine al_callp into44 rfl rfl rfl ((r_Cone _ (by assumption) _ (by omega) (by omega)) _) (by simp) ?_
        | refine al_callp into44 rfl rfl rfl (ac_told (re_cons (by first | exact .leaf _ _ (.same _) | exact .leaf _ _ (.vnil _) | exact .leaf _ _ (.nil _)) (re_cons (by first | exact .leaf _ _ (.same _) | exact .leaf _ _ (.vnil _) | exact .leaf _ _ (.nil _)) re_nil)) ((r_Cone _ (by assumption) _ (by omega) (by omega)) _)) (by simp) ?_
      refine al_op (op_move rfl) rfl (by simp) ?_
      refine al_op (op_extract rfl rfl rfl) rfl (by simp) ?_
      refine al_op (op_extract rfl rfl rfl) rfl (by simp) ?_
      refine al_op (op_assign rfl) rfl (by simp) ?_
      refine al_op (op_assign rfl) rfl (by simp) ?_
      refine al_nil ?_
      refine aw_seq ?_
      refine aw_region ?_
      refine al_op (op_move rfl) rfl (by simp) ?_
      refine al_op (op_move rfl) rfl (by simp) ?_
      refine al_op (op_eql rfl rfl) rfl (by simp) ?_
      refine al_op (op_move rfl) rfl (by simp) ?_
      apply al_and 2 51 53 rfl
      · intro h4; have gh4 := h4
        try simp only [decide_eq_true_eq, decide_eq_false_iff_not, Bool.not_eq_true', Bool.not_eq_false', beq_iff_eq, bne_iff_ne, beq_eq_false_iff_ne, bne_eq_false_iff_eq, Bool.or_eq_true, Bool.and_eq_true, Bool.or_eq_false_iff, gt_iff_lt, ge_iff_le] at h4
        first
          | refine al_callp_take into15 rfl rfl rfl rfl rfl rfl ((l_awake ) _) (by simp) ?_
          | refine al_callp_take into15 rfl rfl rfl rfl rfl rfl (acp_lent lend_nil (l_awake ) rfl) (by simp) ?_
        first
          | refine al_op (op_pick rfl rfl) rfl (by simp) ?_
          | refine al_op (op_and rfl rfl rfl) rfl (by simp) ?_
        refine al_nil ⟨rfl, rfl, rfl, keep_of ?_⟩
        repeat (first | exact subx_refl | exact subx_known rfl gh4 subx_refl | refine subx_put rfl ?_)
      · intro h4; have gh4 := h4
        try simp only [decide_eq_true_eq, decide_eq_false_iff_not, Bool.not_eq_true', Bool.not_eq_false', beq_iff_eq, bne_iff_ne, beq_eq_false_iff_ne, bne_eq_false_iff_eq, Bool.or_eq_true, Bool.and_eq_true, Bool.or_eq_false_iff, gt_iff_lt, ge_iff_le] at h4
        refine al_pass rfl rfl rfl rfl (by simp) ?_
        first
          | refine al_op (op_pick rfl rfl) rfl (by simp) ?_
          | refine al_op (op_and rfl rfl rfl) rfl (by simp) ?_
        refine al_nil ⟨rfl, rfl, rfl, keep_of ?_⟩
        repeat (first | exact subx_refl | exact subx_known rfl gh4 subx_refl | refine subx_put rfl ?_)
      refine al_op (op_assign rfl) rfl (by simp) ?_
      refine al_nil ?_
      refine aw_freeze (fun _ => false) (fsub_cons (t := 6) rfl (.leaf _ _ (.same _)) fsub_nil) ?_
      refine aw_ret ?_
      refine ⟨_, res_1 rfl rfl, ?_, rfl⟩
      simp
    · have gh3 := h3
      try simp only [decide_eq_true_eq, decide_eq_false_iff_not, Bool.not_eq_true', Bool.not_eq_false', beq_iff_eq, bne_iff_ne, beq_eq_false_iff_ne, bne_eq_false_iff_eq, Bool.or_eq_true, Bool.and_eq_true, Bool.or_eq_false_iff, gt_iff_lt, ge_iff_le] at h3
      have hc := Net.cone_zero (by simpa using gh3)
      obtain ⟨_, hq0, hq1⟩ := hc
      obtain ⟨f1, f2, f3, f4, f5, f6, f7⟩ := Net.valid_facts hv
      have hsort := n.cone_sorted lit
      have la : (bitsOf l0 n.ins.length true).length = n.ins.length := bitsOf_length _ _ _
      have lb : (bitsOf l1 n.regs.length true).length = n.regs.length := bitsOf_length _ _ _
      have ly : (bitsOf l2 (n.ins.length + n.regs.length) true).length = n.ins.length + n.regs.length := bitsOf_length _ _ _
      have ba := bitsOf_bit l0 n.ins.length true
      have bb := bitsOf_bit l1 n.regs.length true
      have by' := bitsOf_bit l2 (n.ins.length + n.regs.length) true
      obtain ⟨k1, k2, k3, k4, k5, k6, k7⟩ := Net.cones_law hv hq0 hq1 la lb ly ba bb by' (C := (n.cone lit).1) rfl
      have kN : n.N = 1 + n.ins.length + n.regs.length + n.gates.length := rfl
      rw [← updTo_all, ← updTo_all] at k4 k6 k7
      rw [← updTo_all] at k1 k2
      have ca := bit_range ba
      have cb := bit_range bb
      have cc := bit_range k1
      have cd := bit_range k2
      have lc := updTo_length (swapI (n.cone lit).1 (bitsOf l2 (n.ins.length + n.regs.length) true)) (bitsOf l0 n.ins.length true) (bitsOf l0 n.ins.length true).length
      have ld := updTo_length (swapR (n.cone lit).1 (bitsOf l2 (n.ins.length + n.regs.length) true) (bitsOf l0 n.ins.length true)) (bitsOf l1 n.regs.length true) (bitsOf l1 n.regs.length true).length
      have m1 : (bitsOf l0 n.ins.length true).length ≤ 140737488355328 := by omega
      have m2 : (bitsOf l1 n.regs.length true).length ≤ 140737488355328 := by omega
      have m3 : (updTo (swapI (n.cone lit).1 (bitsOf l2 (n.ins.length + n.regs.length) true)) (bitsOf l0 n.ins.length true) (bitsOf l0 n.ins.length true).length).length ≤ 140737488355328 := by omega
      have m4 : (updTo (swapR (n.cone lit).1 (bitsOf l2 (n.ins.length + n.regs.length) true) (bitsOf l0 n.ins.length true)) (bitsOf l1 n.regs.length true) (bitsOf l1 n.regs.length true).length).length ≤ 140737488355328 := by omega
      have e0 : (([] : List Int) ++ (bitsOf l0 n.ins.length true)).length = (bitsOf l0 n.ins.length true).length := rfl
      have e1 : (([] : List Int) ++ (bitsOf l1 n.regs.length true)).length = (bitsOf l1 n.regs.length true).length := rfl
      refine aw_skip ?_
      refine aw_seq ?_
      refine aw_region ?_
      (refine al_opR (op_makeMap 54 Try.underlying79 (.inl rfl)) rfl (by simp) ?_; rintro _ _ ⟨ver54, rfl, rfl⟩)
      refine al_op (op_assign rfl) rfl (by simp) ?_
      refine al_nil ?_
      refine aw_seq ?_
      refine aw_seq ?_
      refine aw_region ?_
      refine al_op (op_move rfl) rfl (by simp) ?_
      first
        | refine al_op (op_len_map Try.underlying54 rfl) rfl (by simp) ?_
        | refine al_op (op_len_slice Try.underlying54 rfl rfl) rfl (by simp) ?_
        | refine al_op (op_len_list Try.underlying54 rfl) rfl (by simp) ?_
        | refine al_op (op_len_v Try.underlying54 rfl) rfl (by simp) ?_
        | refine al_op (op_len_nil Try.underlying54 rfl) rfl (by simp) ?_
      refine al_op (op_move rfl) rfl (by simp) ?_
      refine al_nil ?_
      refine aw_block ?_
      apply aw_only
      ·
        (first | apply sub_cons (t := 1) rfl | skip)
        (first | apply sub_cons (t := 3) rfl | skip)
        (first | apply sub_cons (t := 5) rfl | skip)
        (first | apply sub_cons (t := 6) rfl | skip)
        (first | apply sub_cons (t := 7) rfl | skip)
        (first | apply sub_cons (t := 11) rfl | skip)
        (first | apply sub_cons (t := 55) rfl | skip)
        (first | apply sub_cons (t := 56) rfl | skip)
        (first | apply sub_cons (t := 57) rfl | skip)
        exact sub_nil
      refine aw_forT (ι := Nat) [6, 57] [] (fun i => (n.cone lit).1.length - i) (fun i => i ≤ (n.cone lit).1.length) (fun i => ([(57, .v (.int .i64 (i)))] : Env)) (fun i s => s.put 54 ver54 (.map (setEnts (((n.cone lit).1.take i).map keyI)))) (0) ?_ ?_ ?_ (fun i hinv => ?_)
      · exact Nat.zero_le _
      · refine sub_cons (get_as rfl ?_) ?_; rotate_left; exact sub_nil
        all_goals (first | rfl | simp)
      · rfl
      refine aw_seq ?_
      refine aw_region ?_
      refine al_op (op_lss rfl rfl) rfl (by simp) ?_
      refine al_nil ?_
      refine aw_seq ?_
      refine aw_cond rfl (fun h5 => ?_) (fun h5 => ?_)
      · have gh5 := h5
        try simp only [decide_eq_true_eq, decide_eq_false_iff_not, Bool.not_eq_true', Bool.not_eq_false', beq_iff_eq, bne_iff_ne, beq_eq_false_iff_ne, bne_eq_false_iff_eq, Bool.or_eq_true, Bool.and_eq_true, Bool.or_eq_false_iff, gt_iff_lt, ge_iff_le] at h5
        refine aw_skip ?_
        refine aw_seq ?_
        refine aw_block ?_
        refine aw_seq ?_
        refine aw_region ?_
        refine al_op (op_move rfl) rfl (by simp) ?_
        first
          | refine al_op (op_index_map default Try.underlying54 info3 rfl rfl rfl (by first | (with_reducible exact Int.toNat_natCast _) | rfl) (by omega) (by omega)) rfl (by simp) ?_
          | refine al_op (op_index_slice Try.underlying54 info3 rfl rfl rfl rfl (by omega) (by omega)) rfl (by simp) ?_
          | refine al_op (op_index_list Try.underlying54 info3 rfl rfl rfl (by decide) rfl) rfl (by simp) ?_
        first
          | refine al_op (op_load_rptr Try.underlying3 info3 rfl rfl) rfl (by simp) ?_
          | refine al_op (op_load_map Try.underlying3 info3 rfl rfl (by omega) rfl) rfl (by simp) ?_
          | refine al_op (op_load_ptr Try.underlying3 info3 rfl rfl rfl rfl) rfl (by simp) ?_
        refine al_op (op_assign rfl) rfl (by simp) ?_
        refine al_op (op_assign rfl) rfl (by simp) ?_
        refine al_nil ?_
        refine aw_seq ?_
        refine aw_seq ?_
        refine aw_region ?_
        refine al_op (op_move rfl) rfl (by simp) ?_
        refine al_op (op_gtr rfl rfl) rfl (by simp) ?_
        refine al_op (op_move rfl) rfl (by simp) ?_
        apply al_and 8 64 72 rfl
        · intro h6; have gh6 := h6
          try simp only [decide_eq_true_eq, decide_eq_false_iff_not, Bool.not_eq_true', Bool.not_eq_false', beq_iff_eq, bne_iff_ne, beq_eq_false_iff_ne, bne_eq_false_iff_eq, Bool.or_eq_true, Bool.and_eq_true, Bool.or_eq_false_iff, gt_iff_lt, ge_iff_le] at h6
          refine al_take (op_move rfl) rfl rfl rfl rfl (by simp) ?_
          refine al_take (op_move rfl) rfl rfl rfl rfl (by simp) ?_
          refine al_take (op_sub rfl rfl (by first | exact wrap_i64 (by omega) (by omega))) rfl rfl rfl rfl (by simp) ?_
          first
            | refine al_take (op_index_map default Try.underlying54 info3 rfl rfl rfl (by first | (with_reducible exact Int.toNat_natCast _) | rfl) (by omega) (by omega)) rfl rfl rfl rfl (by simp) ?_
            | refine al_take (op_index_slice Try.underlying54 info3 rfl rfl rfl rfl (by omega) (by omega)) rfl rfl rfl rfl (by simp) ?_
            | refine al_take (op_index_list Try.underlying54 info3 rfl rfl rfl (by decide) rfl) rfl rfl rfl rfl (by simp) ?_
          first
            | refine al_take (op_load_rptr Try.underlying3 info3 rfl rfl) rfl rfl rfl rfl (by simp) ?_
            | refine al_take (op_load_map Try.underlying3 info3 rfl rfl (by omega) rfl) rfl rfl rfl rfl (by simp) ?_
            | refine al_take (op_load_ptr Try.underlying3 info3 rfl rfl rfl rfl) rfl rfl rfl rfl (by simp) ?_
          refine al_take (op_move rfl) rfl rfl rfl rfl (by simp) ?_
          refine al_take (op_geq rfl rfl) rfl rfl rfl rfl (by simp) ?_
          first
            | refine al_op (op_pick rfl rfl) rfl (by simp) ?_
            | refine al_op (op_and rfl rfl rfl) rfl (by simp) ?_
          refine al_nil ⟨rfl, rfl, rfl, keep_of ?_⟩
          repeat (first | exact subx_refl | exact subx_known rfl gh6 subx_refl | refine subx_put rfl ?_)
        · intro h6; have gh6 := h6
          try simp only [decide_eq_true_eq, decide_eq_false_iff_not, Bool.not_eq_true', Bool.not_eq_false', beq_iff_eq, bne_iff_ne, beq_eq_false_iff_ne, bne_eq_false_iff_eq, Bool.or_eq_true, Bool.and_eq_true, Bool.or_eq_false_iff, gt_iff_lt, ge_iff_le] at h6
          refine al_pass rfl rfl rfl rfl (by simp) ?_
          refine al_pass rfl rfl rfl rfl (by simp) ?_
          refine al_pass rfl rfl rfl rfl (by simp) ?_
          refine al_pass rfl rfl rfl rfl (by simp) ?_
          refine al_pass rfl rfl rfl rfl (by simp) ?_
          refine al_pass rfl rfl rfl rfl (by simp) ?_
          refine al_pass rfl rfl rfl rfl (by simp) ?_
          first
            | refine al_op (op_pick rfl rfl) rfl (by simp) ?_
            | refine al_op (op_and rfl rfl rfl) rfl (by simp) ?_
          refine al_nil ⟨rfl, rfl, rfl, keep_of ?_⟩
          repeat (first | exact subx_refl | exact subx_known rfl gh6 subx_refl | refine subx_put rfl ?_)
        refine al_nil ?_
        refine aw_cond rfl (fun h7 => ?_) (fun h7 => ?_)
        · have gh7 := h7
          try simp only [decide_eq_true_eq, decide_eq_false_iff_not, Bool.not_eq_true', Bool.not_eq_false', beq_iff_eq, bne_iff_ne, beq_eq_false_iff_ne, bne_eq_false_iff_eq, Bool.or_eq_true, Bool.and_eq_true, Bool.or_eq_false_iff, gt_iff_lt, ge_iff_le] at h7
          simp only [Bool.and_eq_true, decide_eq_true_eq] at gh7; exact absurd (sorted_lt hsort (i := ((i : Int) - 1).toNat) (j := i) (by omega) (by omega)) (by omega)
        · have gh7 := h7
          try simp only [decide_eq_true_eq, decide_eq_false_iff_not, Bool.not_eq_true', Bool.not_eq_false', beq_iff_eq, bne_iff_ne, beq_eq_false_iff_ne, bne_eq_false_iff_eq, Bool.or_eq_true, Bool.and_eq_true, Bool.or_eq_false_iff, gt_iff_lt, ge_iff_le] at h7
          refine aw_skip ?_
          refine aw_region ?_
          refine al_op (op_move rfl) rfl (by simp) ?_
          refine al_op (op_move rfl) rfl (by simp) ?_
          refine al_op (op_update_set Try.underlying79 (keyLaw_int Try.underlying3) rfl rfl rfl rfl ⟨_, rfl⟩ (by intro e he; obtain ⟨_, _, rfl⟩ := List.mem_map.1 he; exact ⟨_, rfl⟩) rfl (sorted_new hsort (by omega))) rfl (by simp) ?_
          refine al_nil ?_
          refine aw_region ?_
          refine al_op (op_add rfl rfl (by first | exact wrap_i64 (by omega) (by omega))) rfl (by simp) ?_
          refine al_op (op_move rfl) rfl (by simp) ?_
          refine al_nil ?_
          refine ⟨i + 1, ?_, ?_, ?_, ?_, ?_⟩
          · omega
          · omega
          · refine sub_cons (get_as rfl ?_) ?_; rotate_left; exact sub_nil
            all_goals (first | rfl | simp)
          · repeat (first | exact subx_refl | exact subx_del | refine subx_put rfl ?_)
          · (simp only [take_succ_getD (n.cone lit).1 i (by omega), List.map_append, List.map_cons, List.map_nil] <;> rfl)
      · have gh5 := h5
        try simp only [decide_eq_true_eq, decide_eq_false_iff_not, Bool.not_eq_true', Bool.not_eq_false', beq_iff_eq, bne_iff_ne, beq_eq_false_iff_ne, bne_eq_false_iff_eq, Bool.or_eq_true, Bool.and_eq_true, Bool.or_eq_false_iff, gt_iff_lt, ge_iff_le] at h5
        refine aw_exit ?_
        obtain rfl : i = (n.cone lit).1.length := by omega
        refine aw_seq ?_
        refine aw_any (Checked.mixed Try.checked) ?_
        apply aany_seg (p := 0) (q := 14) (by kernel_rfl) rfl (by decide)
        ·
          first
            | apply ql_plain rfl (op_index_arptr Try.underlying76 info38 rfl rfl rfl (by decide) (by decide))
            | apply ql_plain rfl (op_index_aptr Try.underlying76 info38 rfl rfl rfl rfl (by decide) (by decide))
          first
            | apply ql_plain rfl (op_load_rptr Try.underlying38 info38 rfl rfl)
            | apply ql_plain rfl (op_load_map Try.underlying38 info38 rfl rfl (by omega) rfl)
            | apply ql_plain rfl (op_load_ptr Try.underlying38 info38 rfl rfl rfl rfl)
          first
            | apply ql_plain rfl (op_field_rptr Try.underlying27 rfl info22 (by decide) rfl rfl)
            | apply ql_plain rfl (op_field_ptr Try.underlying27 rfl info22 (by decide) rfl rfl rfl)
          first
            | apply ql_plain rfl (op_load_rptr Try.underlying22 info22 rfl rfl)
            | apply ql_plain rfl (op_load_map Try.underlying22 info22 rfl rfl (by omega) rfl)
            | apply ql_plain rfl (op_load_ptr Try.underlying22 info22 rfl rfl rfl rfl)
          first
            | apply ql_plain rfl (op_len_map Try.underlying22 rfl)
            | apply ql_plain rfl (op_len_slice Try.underlying22 rfl rfl)
            | apply ql_plain rfl (op_len_list Try.underlying22 rfl)
            | apply ql_plain rfl (op_len_v Try.underlying22 rfl)
            | apply ql_plain rfl (op_len_nil Try.underlying22 rfl)
          first
            | apply ql_call into22 rfl rfl rfl ((l_bits _ _ _ (by assumption) (by omega) (by assumption)) _)
            | apply ql_call into22 rfl rfl rfl (ac_told (re_cons (by first | exact .leaf _ _ (.same _) | exact .leaf _ _ (.vnil _) | exact .leaf _ _ (.nil _)) (re_cons (by first | exact .leaf _ _ (.same _) | exact .leaf _ _ (.vnil _) | exact .leaf _ _ (.nil _)) (re_cons (by first | exact .leaf _ _ (.same _) | exact .leaf _ _ (.vnil _) | exact .leaf _ _ (.nil _)) re_nil))) ((l_bits _ _ _ (by assumption) (by omega) (by assumption)) _))
          first
            | apply ql_plain rfl (op_index_arptr Try.underlying76 info38 rfl rfl rfl (by decide) (by decide))
            | apply ql_plain rfl (op_index_aptr Try.underlying76 info38 rfl rfl rfl rfl (by decide) (by decide))
          first
            | apply ql_plain rfl (op_load_rptr Try.underlying38 info38 rfl rfl)
            | apply ql_plain rfl (op_load_map Try.underlying38 info38 rfl rfl (by omega) rfl)
            | apply ql_plain rfl (op_load_ptr Try.underlying38 info38 rfl rfl rfl rfl)
          first
            | apply ql_plain rfl (op_field_rptr Try.underlying27 rfl info23 (by decide) rfl rfl)
            | apply ql_plain rfl (op_field_ptr Try.underlying27 rfl info23 (by decide) rfl rfl rfl)
          first
            | apply ql_plain rfl (op_load_rptr Try.underlying23 info23 rfl rfl)
            | apply ql_plain rfl (op_load_map Try.underlying23 info23 rfl rfl (by omega) rfl)
            | apply ql_plain rfl (op_load_ptr Try.underlying23 info23 rfl rfl rfl rfl)
          first
            | apply ql_plain rfl (op_len_map Try.underlying23 rfl)
            | apply ql_plain rfl (op_len_slice Try.underlying23 rfl rfl)
            | apply ql_plain rfl (op_len_list Try.underlying23 rfl)
            | apply ql_plain rfl (op_len_v Try.underlying23 rfl)
            | apply ql_plain rfl (op_len_nil Try.underlying23 rfl)
          first
            | apply ql_call into22 rfl rfl rfl ((l_bits _ _ _ (by assumption) (by omega) (by assumption)) _)
            | apply ql_call into22 rfl rfl rfl (ac_told (re_cons (by first | exact .leaf _ _ (.same _) | exact .leaf _ _ (.vnil _) | exact .leaf _ _ (.nil _)) (re_cons (by first | exact .leaf _ _ (.same _) | exact .leaf _ _ (.vnil _) | exact .leaf _ _ (.nil _)) (re_cons (by first | exact .leaf _ _ (.same _) | exact .leaf _ _ (.vnil _) | exact .leaf _ _ (.nil _)) re_nil))) ((l_bits _ _ _ (by assumption) (by omega) (by assumption)) _))
          apply ql_plain rfl (op_assign rfl)
          apply ql_plain rfl (op_assign rfl)
          exact ql_nil
        · simp
        refine aany_end rfl (by kernel_rfl) ?_
        refine aw_seq ?_
        refine aw_region ?_
        (refine al_opR (op_list_own encB ([] : List Int) 88 Try.underlying28 info65 rfl rfl (by decide) rfl (by decide) rfl (by first | rfl | (repeat (first | exact parts_nil | refine parts_cons rfl (by repeat (first | exact all_live_nil | refine all_live_clo rfl ?_ | refine all_live_slice rfl ?_ | refine all_live_map rfl ?_ | refine all_live_ptr rfl ?_)) ?_))) rfl rfl (by first | rfl | (repeat (first | exact parts_nil | refine parts_cons rfl (by repeat (first | exact all_live_nil | refine all_live_clo rfl ?_ | refine all_live_slice rfl ?_ | refine all_live_map rfl ?_ | refine all_live_ptr rfl ?_)) ?_))) rfl rfl) rfl (by simp) ?_; rintro _ _ ⟨ver88, rfl, rfl⟩)
        refine al_op (op_move rfl) rfl (by simp) ?_
        (refine al_opR (op_append_map Try.underlying28 Try.underlying28 rfl info65 rfl rfl (by decide) rfl rfl rfl (by first | rfl | simp) rfl (by first | exact .list _ | exact .vnil | exact .nil | exact .row _ _ _ _ rfl (by first | rfl | simp)) rfl (by first | omega | (simp; done) | (simp; omega)) (by show _ * 1 ≤ _; first | omega | (simp; done) | (simp; omega))) rfl (by simp) ?_; rintro _ _ ⟨ver90, rfl, rfl⟩)
        (refine al_opR (op_list_own encB ([] : List Int) 91 Try.underlying28 info65 rfl rfl (by decide) rfl (by decide) rfl (by first | rfl | (repeat (first | exact parts_nil | refine parts_cons rfl (by repeat (first | exact all_live_nil | refine all_live_clo rfl ?_ | refine all_live_slice rfl ?_ | refine all_live_map rfl ?_ | refine all_live_ptr rfl ?_)) ?_))) rfl rfl (by first | rfl | (repeat (first | exact parts_nil | refine parts_cons rfl (by repeat (first | exact all_live_nil | refine all_live_clo rfl ?_ | refine all_live_slice rfl ?_ | refine all_live_map rfl ?_ | refine all_live_ptr rfl ?_)) ?_))) rfl rfl) rfl (by simp) ?_; rintro _ _ ⟨ver91, rfl, rfl⟩)
        refine al_op (op_move rfl) rfl (by simp) ?_
        (refine al_opR (op_append_map Try.underlying28 Try.underlying28 rfl info65 rfl rfl (by decide) rfl rfl rfl (by first | rfl | simp) rfl (by first | exact .list _ | exact .vnil | exact .nil | exact .row _ _ _ _ rfl (by first | rfl | simp)) rfl (by first | omega | (simp; done) | (simp; omega)) (by show _ * 1 ≤ _; first | omega | (simp; done) | (simp; omega))) rfl (by simp) ?_; rintro _ _ ⟨ver93, rfl, rfl⟩)
        refine al_op (op_assign rfl) rfl (by simp) ?_
        refine al_op (op_assign rfl) rfl (by simp) ?_
        refine al_nil ?_
        refine aw_seq ?_
        refine aw_region ?_
        first
          | refine al_op (op_index_arptr Try.underlying76 info38 rfl rfl rfl (by decide) (by decide)) rfl (by simp) ?_
          | refine al_op (op_index_aptr Try.underlying76 info38 rfl rfl rfl rfl (by decide) (by decide)) rfl (by simp) ?_
        first
          | refine al_op (op_load_rptr Try.underlying38 info38 rfl rfl) rfl (by simp) ?_
          | refine al_op (op_load_map Try.underlying38 info38 rfl rfl (by omega) rfl) rfl (by simp) ?_
          | refine al_op (op_load_ptr Try.underlying38 info38 rfl rfl rfl rfl) rfl (by simp) ?_
        refine al_op (op_move rfl) rfl (by simp) ?_
        first
          | refine al_op (op_len_map Try.underlying28 rfl) rfl (by simp) ?_
          | refine al_op (op_len_slice Try.underlying28 rfl rfl) rfl (by simp) ?_
          | refine al_op (op_len_list Try.underlying28 rfl) rfl (by simp) ?_
          | refine al_op (op_len_v Try.underlying28 rfl) rfl (by simp) ?_
          | refine al_op (op_len_nil Try.underlying28 rfl) rfl (by simp) ?_
        refine al_op (op_move rfl) rfl (by simp) ?_
        first
          | refine al_op (op_len_map Try.underlying28 rfl) rfl (by simp) ?_
          | refine al_op (op_len_slice Try.underlying28 rfl rfl) rfl (by simp) ?_
          | refine al_op (op_len_list Try.underlying28 rfl) rfl (by simp) ?_
          | refine al_op (op_len_v Try.underlying28 rfl) rfl (by simp) ?_
          | refine al_op (op_len_nil Try.underlying28 rfl) rfl (by simp) ?_
        refine al_op (op_add rfl rfl (by first | exact wrap_i64 (by omega) (by omega))) rfl (by simp) ?_
        refine al_callp into22 rfl rfl rfl (ac_told (re_cons (.leaf _ _ (.same _)) (re_cons (.leaf _ _ (.same _)) (re_cons (.leaf _ _ (.same _)) re_nil))) (l_bitsI l2 _ (n.ins.length + n.regs.length) true (by omega) hl2 (by omega) hv2 _)) (by simp) ?_
        refine al_op (op_assign rfl) rfl (by simp) ?_
        refine al_nil ?_
        refine aw_seq ?_
        refine aw_seq ?_
        refine aw_region ?_
        refine al_op (op_move rfl) rfl (by simp) ?_
        first
          | refine al_op (op_len_map Try.underlying28 rfl) rfl (by simp) ?_
          | refine al_op (op_len_slice Try.underlying28 rfl rfl) rfl (by simp) ?_
          | refine al_op (op_len_list Try.underlying28 rfl) rfl (by simp) ?_
          | refine al_op (op_len_v Try.underlying28 rfl) rfl (by simp) ?_
          | refine al_op (op_len_nil Try.underlying28 rfl) rfl (by simp) ?_
        refine al_op (op_move rfl) rfl (by simp) ?_
        refine al_nil ?_
        refine aw_block ?_
        apply aw_only
        ·
          (first | apply sub_cons (t := 1) rfl | skip)
          (first | apply sub_cons (t := 3) rfl | skip)
          (first | apply sub_cons (t := 6) rfl | skip)
          (first | apply sub_cons (t := 11) rfl | skip)
          (first | apply sub_cons (t := 14) rfl | skip)
          (first | apply sub_cons (t := 15) rfl | skip)
          (first | apply sub_cons (t := 16) rfl | skip)
          (first | apply sub_cons (t := 17) rfl | skip)
          (first | apply sub_cons (t := 18) rfl | skip)
          (first | apply sub_cons (t := 103) rfl | skip)
          (first | apply sub_cons (t := 104) rfl | skip)
          exact sub_nil
        refine aw_forT (ι := Nat) [16, 104] [] (fun i => (bitsOf l0 n.ins.length true).length - i) (fun i => i ≤ (bitsOf l0 n.ins.length true).length) (fun i => ([(16, .slice 88 ver90 0 (updTo (swapI (n.cone lit).1 (bitsOf l2 (n.ins.length + n.regs.length) true)) (bitsOf l0 n.ins.length true) i).length), (104, .v (.int .i64 (i)))] : Env)) (fun i s => s.put 88 ver90 (.row 1 ((updTo (swapI (n.cone lit).1 (bitsOf l2 (n.ins.length + n.regs.length) true)) (bitsOf l0 n.ins.length true) i).map encB))) (0) ?_ ?_ ?_ (fun i hinv => ?_)
        · exact Nat.zero_le _
        · refine sub_cons (get_as rfl ?_) ?_; rotate_left; refine sub_cons (get_as rfl ?_) ?_; rotate_left; exact sub_nil
          all_goals (first | rfl | (simp; done) | (simp [updTo_length]; done))
        · rfl
        have hml := updTo_length (swapI (n.cone lit).1 (bitsOf l2 (n.ins.length + n.regs.length) true)) (bitsOf l0 n.ins.length true) i
        refine aw_seq ?_
        refine aw_region ?_
        refine al_op (op_lss rfl rfl) rfl (by simp) ?_
        refine al_nil ?_
        refine aw_seq ?_
        refine aw_cond rfl (fun h8 => ?_) (fun h8 => ?_)
        · have gh8 := h8
          try simp only [decide_eq_true_eq, decide_eq_false_iff_not, Bool.not_eq_true', Bool.not_eq_false', beq_iff_eq, bne_iff_ne, beq_eq_false_iff_ne, bne_eq_false_iff_eq, Bool.or_eq_true, Bool.and_eq_true, Bool.or_eq_false_iff, gt_iff_lt, ge_iff_le] at h8
          refine aw_skip ?_
          refine aw_seq ?_
          refine aw_block ?_
          refine aw_seq ?_
          refine aw_region ?_
          refine al_op (op_move rfl) rfl (by simp) ?_
          refine al_op (op_assign rfl) rfl (by simp) ?_
          refine al_nil ?_
          refine aw_seq ?_
          refine aw_region ?_
          refine al_op (op_move rfl) rfl (by simp) ?_
          refine al_op (op_move rfl) rfl (by simp) ?_
          refine al_op (op_add rfl rfl (by first | exact wrap_i64 (by omega) (by omega))) rfl (by simp) ?_
          refine al_op (op_lookup_set Try.underlying79 (keyLaw_int Try.underlying3) info4 rfl rfl rfl rfl rfl ⟨_, rfl⟩ (by intro e he; obtain ⟨_, _, rfl⟩ := List.mem_map.1 he; exact ⟨_, rfl⟩)) rfl (by simp) ?_
          refine al_op (op_not rfl) rfl (by simp) ?_
          refine al_nil ?_
          refine aw_cond rfl (fun h9 => ?_) (fun h9 => ?_)
          · have gh9 := h9
            try simp only [decide_eq_true_eq, decide_eq_false_iff_not, Bool.not_eq_true', Bool.not_eq_false', beq_iff_eq, bne_iff_ne, beq_eq_false_iff_ne, bne_eq_false_iff_eq, Bool.or_eq_true, Bool.and_eq_true, Bool.or_eq_false_iff, gt_iff_lt, ge_iff_le] at h9
            refine aw_region ?_
            refine al_op (op_move rfl) rfl (by simp) ?_
            refine al_op (op_move rfl) rfl (by simp) ?_
            refine al_op (op_move rfl) rfl (by simp) ?_
            refine al_op (op_move rfl) rfl (by simp) ?_
            first
              | refine al_op (op_index_map default Try.underlying28 info65 rfl rfl rfl (by first | (with_reducible exact Int.toNat_natCast _) | rfl) (by omega) (by omega)) rfl (by simp) ?_
              | refine al_op (op_index_slice Try.underlying28 info65 rfl rfl rfl rfl (by omega) (by omega)) rfl (by simp) ?_
              | refine al_op (op_index_list Try.underlying28 info65 rfl rfl rfl (by decide) rfl) rfl (by simp) ?_
            first
              | refine al_op (op_load_rptr Try.underlying65 info65 rfl rfl) rfl (by simp) ?_
              | refine al_op (op_load_map Try.underlying65 info65 rfl rfl (by omega) rfl) rfl (by simp) ?_
              | refine al_op (op_load_ptr Try.underlying65 info65 rfl rfl rfl rfl) rfl (by simp) ?_
            first
              | refine al_op (op_index_map default Try.underlying28 info65 rfl rfl rfl (by first | (with_reducible exact Int.toNat_natCast _) | rfl) (by omega) (by omega)) rfl (by simp) ?_
              | refine al_op (op_index_slice Try.underlying28 info65 rfl rfl rfl rfl (by omega) (by omega)) rfl (by simp) ?_
              | refine al_op (op_index_list Try.underlying28 info65 rfl rfl rfl (by decide) rfl) rfl (by simp) ?_
            refine al_op (op_store_map ((bitsOf l2 (n.ins.length + n.regs.length) true).getD i default) info65 rfl rfl rfl (by omega) rfl rfl rfl (Nat.le_of_ble_eq_true rfl) rfl) rfl (by simp) ?_
            refine al_nil ?_
            refine aw_region ?_
            refine al_op (op_add rfl rfl (by first | exact wrap_i64 (by omega) (by omega))) rfl (by simp) ?_
            refine al_op (op_move rfl) rfl (by simp) ?_
            refine al_nil ?_
            refine ⟨i + 1, ?_, ?_, ?_, ?_, ?_⟩
            · omega
            · omega
            · refine sub_cons (get_as rfl ?_) ?_; rotate_left; refine sub_cons (get_as rfl ?_) ?_; rotate_left; exact sub_nil
              all_goals (first | rfl | (simp; done) | (simp [updTo_length]; done))
            · repeat (first | exact subx_refl | exact subx_del | refine subx_put rfl ?_)
            · first | (rw [updTo_keep (by omega) (swapI_yes gh9)] <;> rfl) | (rw [updTo_step _ _ i (by omega), swapI_no gh9] <;> rfl)
          · have gh9 := h9
            try simp only [decide_eq_true_eq, decide_eq_false_iff_not, Bool.not_eq_true', Bool.not_eq_false', beq_iff_eq, bne_iff_ne, beq_eq_false_iff_ne, bne_eq_false_iff_eq, Bool.or_eq_true, Bool.and_eq_true, Bool.or_eq_false_iff, gt_iff_lt, ge_iff_le] at h9
            refine aw_skip ?_
            refine aw_region ?_
            refine al_op (op_add rfl rfl (by first | exact wrap_i64 (by omega) (by omega))) rfl (by simp) ?_
            refine al_op (op_move rfl) rfl (by simp) ?_
            refine al_nil ?_
            refine ⟨i + 1, ?_, ?_, ?_, ?_, ?_⟩
            · omega
            · omega
            · refine sub_cons (get_as rfl ?_) ?_; rotate_left; refine sub_cons (get_as rfl ?_) ?_; rotate_left; exact sub_nil
              all_goals (first | rfl | (simp; done) | (simp [updTo_length]; done))
            · repeat (first | exact subx_refl | exact subx_del | refine subx_put rfl ?_)
            · first | (rw [updTo_keep (by omega) (swapI_yes gh9)] <;> rfl) | (rw [updTo_step _ _ i (by omega), swapI_no gh9] <;> rfl)
        · have gh8 := h8
          try simp only [decide_eq_true_eq, decide_eq_false_iff_not, Bool.not_eq_true', Bool.not_eq_false', beq_iff_eq, bne_iff_ne, beq_eq_false_iff_ne, bne_eq_false_iff_eq, Bool.or_eq_true, Bool.and_eq_true, Bool.or_eq_false_iff, gt_iff_lt, ge_iff_le] at h8
          refine aw_exit ?_
          obtain rfl : i = (bitsOf l0 n.ins.length true).length := by omega
          refine aw_seq ?_
          refine aw_seq ?_
          refine aw_region ?_
          refine al_op (op_move rfl) rfl (by simp) ?_
          first
            | refine al_op (op_len_map Try.underlying28 rfl) rfl (by simp) ?_
            | refine al_op (op_len_slice Try.underlying28 rfl rfl) rfl (by simp) ?_
            | refine al_op (op_len_list Try.underlying28 rfl) rfl (by simp) ?_
            | refine al_op (op_len_v Try.underlying28 rfl) rfl (by simp) ?_
            | refine al_op (op_len_nil Try.underlying28 rfl) rfl (by simp) ?_
          refine al_op (op_move rfl) rfl (by simp) ?_
          refine al_nil ?_
          refine aw_block ?_
          apply aw_only
          ·
            (first | apply sub_cons (t := 1) rfl | skip)
            (first | apply sub_cons (t := 3) rfl | skip)
            (first | apply sub_cons (t := 6) rfl | skip)
            (first | apply sub_cons (t := 11) rfl | skip)
            (first | apply sub_cons (t := 14) rfl | skip)
            (first | apply sub_cons (t := 15) rfl | skip)
            (first | apply sub_cons (t := 16) rfl | skip)
            (first | apply sub_cons (t := 17) rfl | skip)
            (first | apply sub_cons (t := 18) rfl | skip)
            (first | apply sub_cons (t := 121) rfl | skip)
            (first | apply sub_cons (t := 122) rfl | skip)
            exact sub_nil
          refine aw_forT (ι := Nat) [17, 122] [] (fun i => (bitsOf l1 n.regs.length true).length - i) (fun i => i ≤ (bitsOf l1 n.regs.length true).length) (fun i => ([(17, .slice 91 ver93 0 (updTo (swapR (n.cone lit).1 (bitsOf l2 (n.ins.length + n.regs.length) true) (bitsOf l0 n.ins.length true)) (bitsOf l1 n.regs.length true) i).length), (122, .v (.int .i64 (i)))] : Env)) (fun i s => s.put 91 ver93 (.row 1 ((updTo (swapR (n.cone lit).1 (bitsOf l2 (n.ins.length + n.regs.length) true) (bitsOf l0 n.ins.length true)) (bitsOf l1 n.regs.length true) i).map encB))) (0) ?_ ?_ ?_ (fun i hinv => ?_)
          · exact Nat.zero_le _
          · refine sub_cons (get_as rfl ?_) ?_; rotate_left; refine sub_cons (get_as rfl ?_) ?_; rotate_left; exact sub_nil
            all_goals (first | rfl | (simp; done) | (simp [updTo_length]; done))
          · rfl
          have hml := updTo_length (swapR (n.cone lit).1 (bitsOf l2 (n.ins.length + n.regs.length) true) (bitsOf l0 n.ins.length true)) (bitsOf l1 n.regs.length true) i
          refine aw_seq ?_
          refine aw_region ?_
          refine al_op (op_lss rfl rfl) rfl (by simp) ?_
          refine al_nil ?_
          refine aw_seq ?_
          refine aw_cond rfl (fun h10 => ?_) (fun h10 => ?_)
          · have gh10 := h10
            try simp only [decide_eq_true_eq, decide_eq_false_iff_not, Bool.not_eq_true', Bool.not_eq_false', beq_iff_eq, bne_iff_ne, beq_eq_false_iff_ne, bne_eq_false_iff_eq, Bool.or_eq_true, Bool.and_eq_true, Bool.or_eq_false_iff, gt_iff_lt, ge_iff_le] at h10
            refine aw_skip ?_
            refine aw_seq ?_
            refine aw_block ?_
            refine aw_seq ?_
            refine aw_region ?_
            refine al_op (op_move rfl) rfl (by simp) ?_
            refine al_op (op_assign rfl) rfl (by simp) ?_
            refine al_nil ?_
            refine aw_seq ?_
            refine aw_region ?_
            refine al_op (op_move rfl) rfl (by simp) ?_
            refine al_op (op_move rfl) rfl (by simp) ?_
            first
              | refine al_op (op_len_map Try.underlying28 rfl) rfl (by simp) ?_
              | refine al_op (op_len_slice Try.underlying28 rfl rfl) rfl (by simp) ?_
              | refine al_op (op_len_list Try.underlying28 rfl) rfl (by simp) ?_
              | refine al_op (op_len_v Try.underlying28 rfl) rfl (by simp) ?_
              | refine al_op (op_len_nil Try.underlying28 rfl) rfl (by simp) ?_
            refine al_op (op_add rfl rfl (by first | exact wrap_i64 (by omega) (by omega))) rfl (by simp) ?_
            refine al_op (op_move rfl) rfl (by simp) ?_
            refine al_op (op_add rfl rfl (by first | exact wrap_i64 (by omega) (by omega))) rfl (by simp) ?_
            refine al_op (op_lookup_set Try.underlying79 (keyLaw_int Try.underlying3) info4 rfl rfl rfl rfl rfl ⟨_, rfl⟩ (by intro e he; obtain ⟨_, _, rfl⟩ := List.mem_map.1 he; exact ⟨_, rfl⟩)) rfl (by simp) ?_
            refine al_op (op_not rfl) rfl (by simp) ?_
            refine al_nil ?_
            refine aw_cond rfl (fun h11 => ?_) (fun h11 => ?_)
            · have gh11 := h11
              try simp only [decide_eq_true_eq, decide_eq_false_iff_not, Bool.not_eq_true', Bool.not_eq_false', beq_iff_eq, bne_iff_ne, beq_eq_false_iff_ne, bne_eq_false_iff_eq, Bool.or_eq_true, Bool.and_eq_true, Bool.or_eq_false_iff, gt_iff_lt, ge_iff_le] at h11
              refine aw_region ?_
              refine al_op (op_move rfl) rfl (by simp) ?_
              refine al_op (op_move rfl) rfl (by simp) ?_
              refine al_op (op_move rfl) rfl (by simp) ?_
              refine al_op (op_move rfl) rfl (by simp) ?_
              first
                | refine al_op (op_len_map Try.underlying28 rfl) rfl (by simp) ?_
                | refine al_op (op_len_slice Try.underlying28 rfl rfl) rfl (by simp) ?_
                | refine al_op (op_len_list Try.underlying28 rfl) rfl (by simp) ?_
                | refine al_op (op_len_v Try.underlying28 rfl) rfl (by simp) ?_
                | refine al_op (op_len_nil Try.underlying28 rfl) rfl (by simp) ?_
              refine al_op (op_move rfl) rfl (by simp) ?_
              refine al_op (op_add rfl rfl (by first | exact wrap_i64 (by omega) (by omega))) rfl (by simp) ?_
              first
                | refine al_op (op_index_map default Try.underlying28 info65 rfl rfl rfl (by first | (with_reducible exact Int.toNat_natCast _) | rfl) (by omega) (by omega)) rfl (by simp) ?_
                | refine al_op (op_index_slice Try.underlying28 info65 rfl rfl rfl rfl (by omega) (by omega)) rfl (by simp) ?_
                | refine al_op (op_index_list Try.underlying28 info65 rfl rfl rfl (by decide) rfl) rfl (by simp) ?_
              first
                | refine al_op (op_load_rptr Try.underlying65 info65 rfl rfl) rfl (by simp) ?_
                | refine al_op (op_load_map Try.underlying65 info65 rfl rfl (by omega) rfl) rfl (by simp) ?_
                | refine al_op (op_load_ptr Try.underlying65 info65 rfl rfl rfl rfl) rfl (by simp) ?_
              first
                | refine al_op (op_index_map default Try.underlying28 info65 rfl rfl rfl (by first | (with_reducible exact Int.toNat_natCast _) | rfl) (by omega) (by omega)) rfl (by simp) ?_
                | refine al_op (op_index_slice Try.underlying28 info65 rfl rfl rfl rfl (by omega) (by omega)) rfl (by simp) ?_
                | refine al_op (op_index_list Try.underlying28 info65 rfl rfl rfl (by decide) rfl) rfl (by simp) ?_
              refine al_op (op_store_map ((bitsOf l2 (n.ins.length + n.regs.length) true).getD (((bitsOf l0 n.ins.length true).length : Int) + (i : Int)).toNat default) info65 rfl rfl rfl (by omega) rfl rfl rfl (Nat.le_of_ble_eq_true rfl) rfl) rfl (by simp) ?_
              refine al_nil ?_
              refine aw_region ?_
              refine al_op (op_add rfl rfl (by first | exact wrap_i64 (by omega) (by omega))) rfl (by simp) ?_
              refine al_op (op_move rfl) rfl (by simp) ?_
              refine al_nil ?_
              refine ⟨i + 1, ?_, ?_, ?_, ?_, ?_⟩
              · omega
              · omega
              · refine sub_cons (get_as rfl ?_) ?_; rotate_left; refine sub_cons (get_as rfl ?_) ?_; rotate_left; exact sub_nil
                all_goals (first | rfl | (simp; done) | (simp [updTo_length]; done))
              · repeat (first | exact subx_refl | exact subx_del | refine subx_put rfl ?_)
              · first | (rw [updTo_keep (by omega) (swapR_yes gh11)] <;> rfl) | (rw [updTo_step _ _ i (by omega), swapR_no gh11] <;> rfl)
            · have gh11 := h11
              try simp only [decide_eq_true_eq, decide_eq_false_iff_not, Bool.not_eq_true', Bool.not_eq_false', beq_iff_eq, bne_iff_ne, beq_eq_false_iff_ne, bne_eq_false_iff_eq, Bool.or_eq_true, Bool.and_eq_true, Bool.or_eq_false_iff, gt_iff_lt, ge_iff_le] at h11
              refine aw_skip ?_
              refine aw_region ?_
              refine al_op (op_add rfl rfl (by first | exact wrap_i64 (by omega) (by omega))) rfl (by simp) ?_
              refine al_op (op_move rfl) rfl (by simp) ?_
              refine al_nil ?_
              refine ⟨i + 1, ?_, ?_, ?_, ?_, ?_⟩
              · omega
              · omega
              · refine sub_cons (get_as rfl ?_) ?_; rotate_left; refine sub_cons (get_as rfl ?_) ?_; rotate_left; exact sub_nil
                all_goals (first | rfl | (simp; done) | (simp [updTo_length]; done))
              · repeat (first | exact subx_refl | exact subx_del | refine subx_put rfl ?_)
              · first | (rw [updTo_keep (by omega) (swapR_yes gh11)] <;> rfl) | (rw [updTo_step _ _ i (by omega), swapR_no gh11] <;> rfl)
          · have gh10 := h10
            try simp only [decide_eq_true_eq, decide_eq_false_iff_not, Bool.not_eq_true', Bool.not_eq_false', beq_iff_eq, bne_iff_ne, beq_eq_false_iff_ne, bne_eq_false_iff_eq, Bool.or_eq_true, Bool.and_eq_true, Bool.or_eq_false_iff, gt_iff_lt, ge_iff_le] at h10
            refine aw_exit ?_
            obtain rfl : i = (bitsOf l1 n.regs.length true).length := by omega
            refine aw_seq ?_
            refine aw_region ?_
            first
              | refine al_op (op_load_rptr Try.underlying27 info27 rfl rfl) rfl (by simp) ?_
              | refine al_op (op_load_map Try.underlying27 info27 rfl rfl (by omega) rfl) rfl (by simp) ?_
              | refine al_op (op_load_ptr Try.underlying27 info27 rfl rfl rfl rfl) rfl (by simp) ?_
            refine al_op (op_move rfl) rfl (by simp) ?_
            refine al_op (op_move rfl) rfl (by simp) ?_
            first
              | refine al_callp into18 rfl rfl rfl ((c_all _ (by assumption) _ _ (by assumption) (by assumption) (by assumption) (by assumption)) _) (by simp) ?_
              | refine al_callp into18 rfl rfl rfl (ac_told (re_cons (by first | exact .leaf _ _ (.same _) | exact .leaf _ _ (.vnil _) | exact .leaf _ _ (.nil _)) (re_cons (by first | exact .leaf _ _ (.same _) | exact .leaf _ _ (.vnil _) | exact .leaf _ _ (.nil _)) (re_cons (by first | exact .leaf _ _ (.same _) | exact .leaf _ _ (.vnil _) | exact .leaf _ _ (.nil _)) re_nil))) ((c_all _ (by assumption) _ _ (by assumption) (by assumption) (by assumption) (by assumption)) _)) (by simp) ?_
            refine al_op (op_move rfl) rfl (by simp) ?_
            refine al_op (op_extract rfl rfl rfl) rfl (by simp) ?_
            refine al_op (op_extract rfl rfl rfl) rfl (by simp) ?_
            refine al_op (op_assign rfl) rfl (by simp) ?_
            refine al_op (op_assign rfl) rfl (by simp) ?_
            refine al_nil ?_
            refine aw_seq ?_
            refine aw_freeze (fun i => Nat.beq i 3) (fsub_cons (t := 3) rfl (.leaf _ _ (.same _)) (fsub_cons (t := 1) rfl (.leaf _ _ (.same _)) (fsub_cons (t := 21) rfl (.leaf _ _ (.same _)) (fsub_cons (t := 22) rfl (.leaf _ _ (.same _)) (fsub_cons (t := 16) rfl (.leaf _ _ (frz_whole rfl rfl (by simp) (clo_map (fun _ => rfl)))) (fsub_cons (t := 17) rfl (.leaf _ _ (frz_whole rfl rfl (by simp) (clo_map (fun _ => rfl)))) fsub_nil)))))) ?_
            refine aw_region ?_
            first
              | refine al_op (op_load_rptr Try.underlying27 info27 rfl rfl) rfl (by simp) ?_
              | refine al_op (op_load_map Try.underlying27 info27 rfl rfl (by omega) rfl) rfl (by simp) ?_
              | refine al_op (op_load_ptr Try.underlying27 info27 rfl rfl rfl rfl) rfl (by simp) ?_
            refine al_op (op_move rfl) rfl (by simp) ?_
            refine al_op (op_move rfl) rfl (by simp) ?_
            first
              | refine al_callp into18 rfl rfl rfl ((c_all _ (by assumption) _ _ (by assumption) (by assumption) (by assumption) (by assumption)) _) (by simp) ?_
              | refine al_callp into18 rfl rfl rfl (ac_told (re_cons (by first | exact .leaf _ _ (.same _) | exact .leaf _ _ (.vnil _) | exact .leaf _ _ (.nil _)) (re_cons (by first | exact .leaf _ _ (.same _) | exact .leaf _ _ (.vnil _) | exact .leaf _ _ (.nil _)) (re_cons (by first | exact .leaf _ _ (.same _) | exact .leaf _ _ (.vnil _) | exact .leaf _ _ (.nil _)) re_nil))) ((c_all _ (by assumption) _ _ (by assumption) (by assumption) (by assumption) (by assumption)) _)) (by simp) ?_
            refine al_op (op_move rfl) rfl (by simp) ?_
            refine al_op (op_extract rfl rfl rfl) rfl (by simp) ?_
            refine al_op (op_extract rfl rfl rfl) rfl (by simp) ?_
            refine al_op (op_assign rfl) rfl (by simp) ?_
            refine al_op (op_assign rfl) rfl (by simp) ?_
            refine al_nil ?_
            refine aw_seq ?_
            refine aw_any (Checked.mixed Try.checked) ?_
            apply aany_seg (p := 0) (q := 3) (by kernel_rfl) rfl (by decide)
            ·
              apply ql_plain rfl (op_move rfl)
              apply ql_plain rfl (op_eql rfl rfl)
              apply ql_plain rfl (op_move rfl)
              exact ql_nil
            · simp
            apply aany_and 3 6 160 163 (by kernel_rfl) rfl (by decide) rfl (by simp)
            · intro h12; have gh12 := h12
              try simp only [decide_eq_true_eq, decide_eq_false_iff_not, Bool.not_eq_true', Bool.not_eq_false', beq_iff_eq, bne_iff_ne, beq_eq_false_iff_ne, bne_eq_false_iff_eq, Bool.or_eq_true, Bool.and_eq_true, Bool.or_eq_false_iff, gt_iff_lt, ge_iff_le] at h12
              apply ql_ex
              ·
                apply ql_take rfl rfl rfl rfl (op_move rfl)
                apply ql_take rfl rfl rfl rfl (op_eql rfl rfl)
                first
                  | apply ql_plain rfl (op_pick rfl rfl)
                  | apply ql_plain rfl (op_and rfl rfl rfl)
                exact ql_nil
              · rfl
              · repeat (first | exact subx_refl | exact subx_known rfl gh12 subx_refl | refine subx_put rfl ?_)
            · intro h12; have gh12 := h12
              try simp only [decide_eq_true_eq, decide_eq_false_iff_not, Bool.not_eq_true', Bool.not_eq_false', beq_iff_eq, bne_iff_ne, beq_eq_false_iff_ne, bne_eq_false_iff_eq, Bool.or_eq_true, Bool.and_eq_true, Bool.or_eq_false_iff, gt_iff_lt, ge_iff_le] at h12
              apply ql_ex
              ·
                apply ql_pass rfl rfl rfl rfl
                apply ql_pass rfl rfl rfl rfl
                first
                  | apply ql_plain rfl (op_pick rfl rfl)
                  | apply ql_plain rfl (op_and rfl rfl rfl)
                exact ql_nil
              · rfl
              · repeat (first | exact subx_refl | exact subx_known rfl gh12 subx_refl | refine subx_put rfl ?_)
            apply aany_seg (p := 6) (q := 7) (by kernel_rfl) rfl (by decide)
            ·
              apply ql_plain rfl (op_move rfl)
              exact ql_nil
            · simp
            apply aany_and 7 13 164 170 (by kernel_rfl) rfl (by decide) rfl (by simp)
            · intro h13; have gh13 := h13
              try simp only [decide_eq_true_eq, decide_eq_false_iff_not, Bool.not_eq_true', Bool.not_eq_false', beq_iff_eq, bne_iff_ne, beq_eq_false_iff_ne, bne_eq_false_iff_eq, Bool.or_eq_true, Bool.and_eq_true, Bool.or_eq_false_iff, gt_iff_lt, ge_iff_le] at h13
              apply ql_ex
              ·
                apply ql_take rfl rfl rfl rfl (op_move rfl)
                first
                  | apply ql_take rfl rfl rfl rfl (op_len_map Try.underlying28 rfl)
                  | apply ql_take rfl rfl rfl rfl (op_len_slice Try.underlying28 rfl rfl)
                  | apply ql_take rfl rfl rfl rfl (op_len_list Try.underlying28 rfl)
                  | apply ql_take rfl rfl rfl rfl (op_len_v Try.underlying28 rfl)
                  | apply ql_take rfl rfl rfl rfl (op_len_nil Try.underlying28 rfl)
                apply ql_take rfl rfl rfl rfl (op_move rfl)
                apply ql_take rfl rfl rfl rfl (op_quo rfl rfl (by omega) (quo_nn (by omega) (by omega) (by omega)))
                apply ql_take rfl rfl rfl rfl (op_gtr rfl rfl)
                first
                  | apply ql_plain rfl (op_pick rfl rfl)
                  | apply ql_plain rfl (op_and rfl rfl rfl)
                exact ql_nil
              · rfl
              · repeat (first | exact subx_refl | exact subx_known rfl gh13 subx_refl | refine subx_put rfl ?_)
            · intro h13; have gh13 := h13
              try simp only [decide_eq_true_eq, decide_eq_false_iff_not, Bool.not_eq_true', Bool.not_eq_false', beq_iff_eq, bne_iff_ne, beq_eq_false_iff_ne, bne_eq_false_iff_eq, Bool.or_eq_true, Bool.and_eq_true, Bool.or_eq_false_iff, gt_iff_lt, ge_iff_le] at h13
              apply ql_ex
              ·
                apply ql_pass rfl rfl rfl rfl
                apply ql_pass rfl rfl rfl rfl
                apply ql_pass rfl rfl rfl rfl
                apply ql_pass rfl rfl rfl rfl
                apply ql_pass rfl rfl rfl rfl
                first
                  | apply ql_plain rfl (op_pick rfl rfl)
                  | apply ql_plain rfl (op_and rfl rfl rfl)
                exact ql_nil
              · rfl
              · repeat (first | exact subx_refl | exact subx_known rfl gh13 subx_refl | refine subx_put rfl ?_)
            apply aany_seg (p := 13) (q := 14) (by kernel_rfl) rfl (by decide)
            ·
              apply ql_plain rfl (op_move rfl)
              exact ql_nil
            · simp
            apply aany_and 14 20 171 177 (by kernel_rfl) rfl (by decide) rfl (by simp)
            · intro h14; have gh14 := h14
              try simp only [decide_eq_true_eq, decide_eq_false_iff_not, Bool.not_eq_true', Bool.not_eq_false', beq_iff_eq, bne_iff_ne, beq_eq_false_iff_ne, bne_eq_false_iff_eq, Bool.or_eq_true, Bool.and_eq_true, Bool.or_eq_false_iff, gt_iff_lt, ge_iff_le] at h14
              apply ql_ex
              ·
                apply ql_take rfl rfl rfl rfl (op_move rfl)
                first
                  | apply ql_take rfl rfl rfl rfl (op_len_map Try.underlying28 rfl)
                  | apply ql_take rfl rfl rfl rfl (op_len_slice Try.underlying28 rfl rfl)
                  | apply ql_take rfl rfl rfl rfl (op_len_list Try.underlying28 rfl)
                  | apply ql_take rfl rfl rfl rfl (op_len_v Try.underlying28 rfl)
                  | apply ql_take rfl rfl rfl rfl (op_len_nil Try.underlying28 rfl)
                apply ql_take rfl rfl rfl rfl (op_move rfl)
                apply ql_take rfl rfl rfl rfl (op_quo rfl rfl (by omega) (quo_nn (by omega) (by omega) (by omega)))
                apply ql_take rfl rfl rfl rfl (op_gtr rfl rfl)
                first
                  | apply ql_plain rfl (op_pick rfl rfl)
                  | apply ql_plain rfl (op_and rfl rfl rfl)
                exact ql_nil
              · rfl
              · repeat (first | exact subx_refl | exact subx_known rfl gh14 subx_refl | refine subx_put rfl ?_)
            · intro h14; have gh14 := h14
              try simp only [decide_eq_true_eq, decide_eq_false_iff_not, Bool.not_eq_true', Bool.not_eq_false', beq_iff_eq, bne_iff_ne, beq_eq_false_iff_ne, bne_eq_false_iff_eq, Bool.or_eq_true, Bool.and_eq_true, Bool.or_eq_false_iff, gt_iff_lt, ge_iff_le] at h14
              apply ql_ex
              ·
                apply ql_pass rfl rfl rfl rfl
                apply ql_pass rfl rfl rfl rfl
                apply ql_pass rfl rfl rfl rfl
                apply ql_pass rfl rfl rfl rfl
                apply ql_pass rfl rfl rfl rfl
                first
                  | apply ql_plain rfl (op_pick rfl rfl)
                  | apply ql_plain rfl (op_and rfl rfl rfl)
                exact ql_nil
              · rfl
              · repeat (first | exact subx_refl | exact subx_known rfl gh14 subx_refl | refine subx_put rfl ?_)
            apply aany_seg (p := 20) (q := 21) (by kernel_rfl) rfl (by decide)
            ·
              apply ql_plain rfl (op_move rfl)
              exact ql_nil
            · simp
            apply aany_and 21 33 178 190 (by kernel_rfl) rfl (by decide) rfl (by simp)
            · intro h15; have gh15 := h15
              try simp only [decide_eq_true_eq, decide_eq_false_iff_not, Bool.not_eq_true', Bool.not_eq_false', beq_iff_eq, bne_iff_ne, beq_eq_false_iff_ne, bne_eq_false_iff_eq, Bool.or_eq_true, Bool.and_eq_true, Bool.or_eq_false_iff, gt_iff_lt, ge_iff_le] at h15
              apply ql_ex
              ·
                apply ql_take rfl rfl rfl rfl (op_move rfl)
                apply ql_take rfl rfl rfl rfl (op_move rfl)
                apply ql_take rfl rfl rfl rfl (op_quo rfl rfl (by omega) (quo_nn (by omega) (by omega) (by omega)))
                first
                  | apply ql_take rfl rfl rfl rfl (op_index_map default Try.underlying28 info65 rfl rfl rfl (by first | (with_reducible exact Int.toNat_natCast _) | rfl) (by omega) (by omega))
                  | apply ql_take rfl rfl rfl rfl (op_index_slice Try.underlying28 info65 rfl rfl rfl rfl (by omega) (by omega))
                  | apply ql_take rfl rfl rfl rfl (op_index_list Try.underlying28 info65 rfl rfl rfl (by decide) rfl)
                first
                  | apply ql_take rfl rfl rfl rfl (op_load_rptr Try.underlying65 info65 rfl rfl)
                  | apply ql_take rfl rfl rfl rfl (op_load_map Try.underlying65 info65 rfl rfl (by omega) rfl)
                  | apply ql_take rfl rfl rfl rfl (op_load_ptr Try.underlying65 info65 rfl rfl rfl rfl)
                apply ql_take rfl rfl rfl rfl (op_move rfl)
                apply ql_take rfl rfl rfl rfl (op_move rfl)
                apply ql_take rfl rfl rfl rfl (op_quo rfl rfl (by omega) (quo_nn (by omega) (by omega) (by omega)))
                first
                  | apply ql_take rfl rfl rfl rfl (op_index_map default Try.underlying28 info65 rfl rfl rfl (by first | (with_reducible exact Int.toNat_natCast _) | rfl) (by omega) (by omega))
                  | apply ql_take rfl rfl rfl rfl (op_index_slice Try.underlying28 info65 rfl rfl rfl rfl (by omega) (by omega))
                  | apply ql_take rfl rfl rfl rfl (op_index_list Try.underlying28 info65 rfl rfl rfl (by decide) rfl)
                first
                  | apply ql_take rfl rfl rfl rfl (op_load_rptr Try.underlying65 info65 rfl rfl)
                  | apply ql_take rfl rfl rfl rfl (op_load_map Try.underlying65 info65 rfl rfl (by omega) rfl)
                  | apply ql_take rfl rfl rfl rfl (op_load_ptr Try.underlying65 info65 rfl rfl rfl rfl)
                apply ql_take rfl rfl rfl rfl (op_eql rfl rfl)
                first
                  | apply ql_plain rfl (op_pick rfl rfl)
                  | apply ql_plain rfl (op_and rfl rfl rfl)
                exact ql_nil
              · rfl
              · repeat (first | exact subx_refl | exact subx_known rfl gh15 subx_refl | refine subx_put rfl ?_)
            · intro h15; have gh15 := h15
              try simp only [decide_eq_true_eq, decide_eq_false_iff_not, Bool.not_eq_true', Bool.not_eq_false', beq_iff_eq, bne_iff_ne, beq_eq_false_iff_ne, bne_eq_false_iff_eq, Bool.or_eq_true, Bool.and_eq_true, Bool.or_eq_false_iff, gt_iff_lt, ge_iff_le] at h15
              apply ql_ex
              ·
                apply ql_pass rfl rfl rfl rfl
                apply ql_pass rfl rfl rfl rfl
                apply ql_pass rfl rfl rfl rfl
                apply ql_pass rfl rfl rfl rfl
                apply ql_pass rfl rfl rfl rfl
                apply ql_pass rfl rfl rfl rfl
                apply ql_pass rfl rfl rfl rfl
                apply ql_pass rfl rfl rfl rfl
                apply ql_pass rfl rfl rfl rfl
                apply ql_pass rfl rfl rfl rfl
                apply ql_pass rfl rfl rfl rfl
                first
                  | apply ql_plain rfl (op_pick rfl rfl)
                  | apply ql_plain rfl (op_and rfl rfl rfl)
                exact ql_nil
              · rfl
              · repeat (first | exact subx_refl | exact subx_known rfl gh15 subx_refl | refine subx_put rfl ?_)
            apply aany_seg (p := 33) (q := 34) (by kernel_rfl) rfl (by decide)
            ·
              apply ql_plain rfl (op_move rfl)
              exact ql_nil
            · simp
            apply aany_and 34 36 191 193 (by kernel_rfl) rfl (by decide) rfl (by simp)
            · intro h16; have gh16 := h16
              try simp only [decide_eq_true_eq, decide_eq_false_iff_not, Bool.not_eq_true', Bool.not_eq_false', beq_iff_eq, bne_iff_ne, beq_eq_false_iff_ne, bne_eq_false_iff_eq, Bool.or_eq_true, Bool.and_eq_true, Bool.or_eq_false_iff, gt_iff_lt, ge_iff_le] at h16
              apply ql_ex
              ·
                first
                  | apply ql_call_take into15 rfl rfl rfl rfl rfl rfl ((l_awake ) _)
                  | apply ql_call_take into15 rfl rfl rfl rfl rfl rfl (acp_lent lend_nil (l_awake ) rfl)
                first
                  | apply ql_plain rfl (op_pick rfl rfl)
                  | apply ql_plain rfl (op_and rfl rfl rfl)
                exact ql_nil
              · rfl
              · repeat (first | exact subx_refl | exact subx_known rfl gh16 subx_refl | refine subx_put rfl ?_)
            · intro h16; have gh16 := h16
              try simp only [decide_eq_true_eq, decide_eq_false_iff_not, Bool.not_eq_true', Bool.not_eq_false', beq_iff_eq, bne_iff_ne, beq_eq_false_iff_ne, bne_eq_false_iff_eq, Bool.or_eq_true, Bool.and_eq_true, Bool.or_eq_false_iff, gt_iff_lt, ge_iff_le] at h16
              apply ql_ex
              ·
                apply ql_pass rfl rfl rfl rfl
                first
                  | apply ql_plain rfl (op_pick rfl rfl)
                  | apply ql_plain rfl (op_and rfl rfl rfl)
                exact ql_nil
              · rfl
              · repeat (first | exact subx_refl | exact subx_known rfl gh16 subx_refl | refine subx_put rfl ?_)
            apply aany_seg (p := 36) (q := 37) (by kernel_rfl) rfl (by decide)
            ·
              apply ql_plain rfl (op_assign rfl)
              exact ql_nil
            · simp
            refine aany_end rfl (by kernel_rfl) ?_
            refine aw_freeze (fun _ => false) (fsub_cons (t := 6) rfl (.leaf _ _ (.same _)) fsub_nil) ?_
            refine aw_ret ?_
            refine ⟨_, res_1 rfl rfl, ?_, rfl⟩
            rw [k3, k4, k5, k6, k7, decide_eq_true (show ((n.N : Nat) : Int) > lit / 2 by omega)]; simp
end Go.Proofs.Ytbpamlphacpkeaa
