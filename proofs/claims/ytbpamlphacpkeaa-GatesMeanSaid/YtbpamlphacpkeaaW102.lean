/- Printed walks (gen.py, gates_ann.py): part 102. -/
import Derived.Test.YtbpamlphacpkeaaW101
import Derived.Test.YtbpamlphacpkeaaW43
import Derived.Test.YtbpamlphacpkeaaFacts
set_option linter.unusedVariables false
set_option linter.unusedSimpArgs false
set_option maxRecDepth 20000
set_option maxHeartbeats 40000000
namespace Go.Proofs.Ytbpamlphacpkeaa
open Go

theorem law_GatesMean (inp : Int) (h_0 : 0 ≤ inp) (h_1 : inp ≤ 255) (l : List OpV) (y4 : l.length ≤ 140737488355328) (hO : ∀ o ∈ l, o.Small) (bl : List Int) (y5 : bl.length ≤ 140737488355328) (hv : ∀ y ∈ bl, 0 ≤ y ∧ y ≤ 255) : ACp Try.prog 7 [.v (.int .u8 (inp)), .list 7 (l.map encO), .list 1 (bl.map encB)] (.v (.bool (true))) := by
  refine acp_of rfl ?_
  refine ac_enter 268 Try.func7 rfl rfl (by simp) ?_
  refine aw_seq ?_
  refine aw_region ?_
  refine al_op (op_assign rfl) rfl (by simp) ?_
  refine al_nil ?_
  refine aw_seq ?_
  refine aw_seq ?_
  refine aw_region ?_
  refine al_op (op_move rfl) rfl (by simp) ?_
  first
    | refine al_op (op_len_map Try.underlying47 rfl) rfl (by simp) ?_
    | refine al_op (op_len_slice Try.underlying47 rfl rfl) rfl (by simp) ?_
    | refine al_op (op_len_list Try.underlying47 rfl) rfl (by simp) ?_
    | refine al_op (op_len_v Try.underlying47 rfl) rfl (by simp) ?_
    | refine al_op (op_len_nil Try.underlying47 rfl) rfl (by simp) ?_
  refine al_op (op_gtr rfl rfl) rfl (by simp) ?_
  refine al_nil ?_
  refine aw_cond rfl (fun h1 => ?_) (fun h1 => ?_)
  · have gh1 := h1
    try simp only [decide_eq_true_eq, decide_eq_false_iff_not, Bool.not_eq_true', Bool.not_eq_false', beq_iff_eq, bne_iff_ne, beq_eq_false_iff_ne, bne_eq_false_iff_eq, Bool.or_eq_true, Bool.and_eq_true, Bool.or_eq_false_iff, gt_iff_lt, ge_iff_le] at h1
    refine aw_seq ?_
    refine aw_region ?_
    first
      | refine al_callp into15 rfl rfl rfl ((l_awake ) _) (by simp) ?_
      | refine al_callp into15 rfl rfl rfl (acp_lent lend_nil (l_awake ) rfl) (by simp) ?_
    refine al_op (op_assign rfl) rfl (by simp) ?_
    refine al_nil ?_
    refine aw_freeze (fun _ => false) (fsub_cons (t := 6) rfl (.leaf _ _ (.same _)) fsub_nil) ?_
    refine aw_ret ?_
    refine ⟨_, res_1 rfl rfl, ?_, rfl⟩
    first | rfl | simp
  · have gh1 := h1
    try simp only [decide_eq_true_eq, decide_eq_false_iff_not, Bool.not_eq_true', Bool.not_eq_false', beq_iff_eq, bne_iff_ne, beq_eq_false_iff_ne, bne_eq_false_iff_eq, Bool.or_eq_true, Bool.and_eq_true, Bool.or_eq_false_iff, gt_iff_lt, ge_iff_le] at h1
    refine aw_skip ?_
    refine aw_seq ?_
    refine aw_region ?_
    refine al_op (op_move rfl) rfl (by simp) ?_
    refine al_op (op_conv Try.underlying5 Try.underlying3 rfl (wrap_i64 (by omega) (by omega))) rfl (by simp) ?_
    first
      | refine al_op (op_rem rfl rfl (by omega) (rem_nn (by omega))) rfl (by simp) ?_
      | refine al_op (op_rem rfl rfl (by omega) rfl) rfl (by simp) ?_
    refine al_op (op_assign rfl) rfl (by simp) ?_
    refine al_nil ?_
    refine aw_seq ?_
    obtain ⟨m, hm⟩ : ∃ m : Nat, inp % 9 = m := ⟨(inp % 9).toNat, by omega⟩
    have hm8 : m ≤ 8 := by omega
    have lenb : (bitsOf bl m false).length = m := bitsOf_length _ _ _
    have hbb := bitsOf_bit bl m false
    refine aw_as 7 (.v (.int .i64 (m : Int))) rfl (by rw [hm]) ?_
    refine aw_region ?_
    refine al_op (op_assign rfl) rfl (by simp) ?_
    refine al_nil ?_
    refine aw_seq ?_
    refine aw_seq ?_
    refine aw_region ?_
    refine al_op (op_assign rfl) rfl (by simp) ?_
    refine al_nil ?_
    refine aw_block ?_
    apply aw_only
    ·
      (first | apply sub_cons (t := 1) rfl | skip)
      (first | apply sub_cons (t := 2) rfl | skip)
      (first | apply sub_cons (t := 6) rfl | skip)
      (first | apply sub_cons (t := 7) rfl | skip)
      (first | apply sub_cons (t := 8) rfl | skip)
      (first | apply sub_cons (t := 9) rfl | skip)
      exact sub_nil
    refine aw_own_map encS 8 1 8 rfl rfl (fun ver8 => ?_)
    refine aw_for2T (α := Nat) (β := Nat) [8, 9] [] (fun i ver => m - i) (fun i ver => i ≤ m) (fun i ver => ([(8, .slice 8 ver 0 (namesM i).length), (9, .v (.int .i64 (i)))] : Env)) (fun i ver s => s.put 8 ver (.row 1 ((namesM i).map encS))) (0) (ver8) ?_ ?_ ?_ (fun i ver hinv => ?_)
    · exact Nat.zero_le _
    · refine sub_cons (get_as rfl ?_) ?_; rotate_left; refine sub_cons (get_as rfl ?_) ?_; rotate_left; exact sub_nil
      all_goals (first | rfl | (simp; done) | (rw [namesM_succ] <;> rfl))
    · rfl
    have hnl := namesM_length i
    refine aw_seq ?_
    refine aw_seq ?_
    refine aw_region ?_
    refine al_op (op_move rfl) rfl (by simp) ?_
    refine al_op (op_move rfl) rfl (by simp) ?_
    refine al_op (op_lss rfl rfl) rfl (by simp) ?_
    refine al_nil ?_
    refine aw_cond rfl (fun h2 => ?_) (fun h2 => ?_)
    · have gh2 := h2
      try simp only [decide_eq_true_eq, decide_eq_false_iff_not, Bool.not_eq_true', Bool.not_eq_false', beq_iff_eq, bne_iff_ne, beq_eq_false_iff_ne, bne_eq_false_iff_eq, Bool.or_eq_true, Bool.and_eq_true, Bool.or_eq_false_iff, gt_iff_lt, ge_iff_le] at h2
      refine aw_skip ?_
      refine aw_seq ?_
      refine aw_block ?_
      refine aw_region ?_
      refine al_op (op_move rfl) rfl (by simp) ?_
      refine al_op (op_move rfl) rfl (by simp) ?_
      refine al_op (op_add rfl rfl (by first | exact wrap_i64 (by omega) (by omega))) rfl (by simp) ?_
      refine al_op (op_conv Try.underlying3 Try.underlying21 rfl (wrap_i32 (by omega) (by omega))) rfl (by simp) ?_
      refine al_op (op_runestr Try.underlying21 Try.underlying9 rfl) rfl (by simp) ?_
      refine al_op (op_buildSlice Try.underlying22 info9 rfl rfl (by decide) rfl (by decide) rfl (by first | rfl | (repeat (first | exact parts_nil | refine parts_cons rfl (by repeat (first | exact all_live_nil | refine all_live_clo rfl ?_ | refine all_live_slice rfl ?_ | refine all_live_map rfl ?_ | refine all_live_ptr rfl ?_)) ?_))) rfl rfl rfl) rfl (by simp) ?_
      first
        | (refine al_opR (op_append_one (Utf8.encode (97 + (i : Int))) Try.underlying22 Try.underlying22 rfl info9 rfl rfl (by decide) rfl rfl rfl (by first | rfl | simp) rfl rfl (by first | omega | (simp; done) | (simp; omega)) (by show _ * 16 ≤ _; first | omega | (simp; done) | (simp; omega))) rfl (by simp) ?_; rintro _ _ ⟨ver54, rfl, rfl⟩)
        | (refine al_opR (op_append_map Try.underlying22 Try.underlying22 rfl info9 rfl rfl (by decide) rfl rfl rfl (by first | rfl | simp) rfl (by first | exact .list _ | exact .vnil | exact .nil | exact .row _ _ _ _ rfl (by first | rfl | simp)) rfl (by first | omega | (simp; done) | (simp; omega)) (by show _ * 16 ≤ _; first | omega | (simp; done) | (simp; omega))) rfl (by simp) ?_; rintro _ _ ⟨ver54, rfl, rfl⟩)
      refine al_op (op_assign rfl) rfl (by simp) ?_
      refine al_nil ?_
      refine aw_region ?_
      refine al_op (op_move rfl) rfl (by simp) ?_
      refine al_op (op_add rfl rfl (by first | exact wrap_i64 (by omega) (by omega))) rfl (by simp) ?_
      refine al_op (op_assign rfl) rfl (by simp) ?_
      refine al_nil ?_
      refine ⟨i + 1, ver54, ?_, ?_, ?_, ?_, ?_⟩
      · omega
      · omega
      · refine sub_cons (get_as rfl ?_) ?_; rotate_left; refine sub_cons (get_as rfl ?_) ?_; rotate_left; exact sub_nil
        all_goals (first | rfl | (simp; done) | (rw [namesM_succ] <;> rfl))
      · repeat (first | exact subx_refl | exact subx_del | refine subx_put rfl ?_)
      · (rw [namesM_succ] <;> rfl)
    · have gh2 := h2
      try simp only [decide_eq_true_eq, decide_eq_false_iff_not, Bool.not_eq_true', Bool.not_eq_false', beq_iff_eq, bne_iff_ne, beq_eq_false_iff_ne, bne_eq_false_iff_eq, Bool.or_eq_true, Bool.and_eq_true, Bool.or_eq_false_iff, gt_iff_lt, ge_iff_le] at h2
      refine aw_exit ?_
      obtain rfl : m = i := by omega
      refine aw_seq ?_
      refine aw_freeze (fun _ => false) (fsub_cons (t := 8) rfl (.leaf _ _ (frz_whole rfl rfl (by simp) (clo_map (fun _ => rfl)))) fsub_same) ?_
      refine aw_region ?_
      refine al_op (op_move rfl) rfl (by simp) ?_
      (refine al_call into28 rfl rfl rfl (ac_told (re_cons (.leaf _ _ (.same _)) (re_cons (.leaf _ _ (.vnil 1)) (re_cons (.leaf _ _ (.vnil 1)) re_nil))) (mk_make2 (namesM m) [] [] (namesM_size m) (by simp) (by simp) (by rw [namesM_length]; omega) (by simp) (by simp) (namesM_make hm8))) (by simp) ?_; rintro _ _ ⟨vm, vg, vt, vr, rfl, rfl⟩)
      refine al_op (op_move rfl) rfl (by simp) ?_
      refine al_op (op_extract rfl rfl rfl) rfl (by simp) ?_
      refine al_op (op_extract rfl rfl rfl) rfl (by simp) ?_
      refine al_op (op_assign rfl) rfl (by simp) ?_
      refine al_op (op_assign rfl) rfl (by simp) ?_
      refine al_nil ?_
      refine aw_seq ?_
      refine aw_seq ?_
      refine aw_region ?_
      refine al_op (op_move rfl) rfl (by simp) ?_
      refine al_op (op_neq rfl rfl) rfl (by simp) ?_
      refine al_nil ?_
      refine aw_cond rfl (fun h3 => ?_) (fun h3 => ?_)
      · have gh3 := h3
        try simp only [decide_eq_true_eq, decide_eq_false_iff_not, Bool.not_eq_true', Bool.not_eq_false', beq_iff_eq, bne_iff_ne, beq_eq_false_iff_ne, bne_eq_false_iff_eq, Bool.or_eq_true, Bool.and_eq_true, Bool.or_eq_false_iff, gt_iff_lt, ge_iff_le] at h3
        exact absurd gh3 (by decide)
      · have gh3 := h3
        try simp only [decide_eq_true_eq, decide_eq_false_iff_not, Bool.not_eq_true', Bool.not_eq_false', beq_iff_eq, bne_iff_ne, beq_eq_false_iff_ne, bne_eq_false_iff_eq, Bool.or_eq_true, Bool.and_eq_true, Bool.or_eq_false_iff, gt_iff_lt, ge_iff_le] at h3
        refine aw_skip ?_
        refine aw_seq ?_
        refine aw_region ?_
        refine al_op (op_move rfl) rfl (by simp) ?_
        refine al_op (op_move rfl) rfl (by simp) ?_
        first
          | refine al_callp into22 rfl rfl rfl ((l_bits _ _ _ (by assumption) (by omega) (by assumption)) _) (by simp) ?_
          | refine al_callp into22 rfl rfl rfl (ac_told (re_cons (by first | exact .leaf _ _ (.same _) | exact .leaf _ _ (.vnil _) | exact .leaf _ _ (.nil _)) (re_cons (by first | exact .leaf _ _ (.same _) | exact .leaf _ _ (.vnil _) | exact .leaf _ _ (.nil _)) (re_cons (by first | exact .leaf _ _ (.same _) | exact .leaf _ _ (.vnil _) | exact .leaf _ _ (.nil _)) re_nil))) ((l_bits _ _ _ (by assumption) (by omega) (by assumption)) _)) (by simp) ?_
        refine al_op (op_assign rfl) rfl (by simp) ?_
        refine al_nil ?_
        refine aw_seq ?_
        refine aw_region ?_
        (refine al_opR (op_list_own encI (madeTo 0) 65 Try.underlying54 info3 rfl rfl (by decide) rfl (by decide) rfl (by first | rfl | (repeat (first | exact parts_nil | refine parts_cons rfl (by repeat (first | exact all_live_nil | refine all_live_clo rfl ?_ | refine all_live_slice rfl ?_ | refine all_live_map rfl ?_ | refine all_live_ptr rfl ?_)) ?_))) rfl rfl (by first | rfl | (repeat (first | exact parts_nil | refine parts_cons rfl (by repeat (first | exact all_live_nil | refine all_live_clo rfl ?_ | refine all_live_slice rfl ?_ | refine all_live_map rfl ?_ | refine all_live_ptr rfl ?_)) ?_))) rfl rfl) rfl (by simp) ?_; rintro _ _ ⟨ver65, rfl, rfl⟩)
        (refine al_opR (op_list_own encT [false] 66 Try.underlying64 info4 rfl rfl (by decide) rfl (by decide) rfl (by first | rfl | (repeat (first | exact parts_nil | refine parts_cons rfl (by repeat (first | exact all_live_nil | refine all_live_clo rfl ?_ | refine all_live_slice rfl ?_ | refine all_live_map rfl ?_ | refine all_live_ptr rfl ?_)) ?_))) rfl rfl (by first | rfl | (repeat (first | exact parts_nil | refine parts_cons rfl (by repeat (first | exact all_live_nil | refine all_live_clo rfl ?_ | refine all_live_slice rfl ?_ | refine all_live_map rfl ?_ | refine all_live_ptr rfl ?_)) ?_))) rfl rfl) rfl (by simp) ?_; rintro _ _ ⟨ver66, rfl, rfl⟩)
        (refine al_opR (op_alloc 13 info54 rfl rfl) rfl (by simp) ?_; rintro _ _ ⟨ver13, rfl, rfl⟩)
        (refine al_opR (op_alloc 14 info64 rfl rfl) rfl (by simp) ?_; rintro _ _ ⟨ver14, rfl, rfl⟩)
        first
          | refine al_op (op_store_ptr info54 rfl rfl rfl rfl rfl rfl (by first | rfl | exact live_one rfl | (repeat (first | exact all_live_nil | refine all_live_clo rfl ?_ | refine all_live_slice rfl ?_ | refine all_live_map rfl ?_ | refine all_live_ptr rfl ?_))) (by decide)) rfl (by simp) ?_
          | refine al_op (op_store_ptr info54 rfl rfl rfl rfl rfl rfl (by first | rfl | exact live_one rfl | (repeat (first | exact all_live_nil | refine all_live_clo rfl ?_ | refine all_live_slice rfl ?_ | refine all_live_map rfl ?_ | refine all_live_ptr rfl ?_))) (Nat.le_of_ble_eq_true rfl)) rfl (by simp) ?_
        first
          | refine al_op (op_store_ptr info64 rfl rfl rfl rfl rfl rfl (by first | rfl | exact live_one rfl | (repeat (first | exact all_live_nil | refine all_live_clo rfl ?_ | refine all_live_slice rfl ?_ | refine all_live_map rfl ?_ | refine all_live_ptr rfl ?_))) (by decide)) rfl (by simp) ?_
          | refine al_op (op_store_ptr info64 rfl rfl rfl rfl rfl rfl (by first | rfl | exact live_one rfl | (repeat (first | exact all_live_nil | refine all_live_clo rfl ?_ | refine all_live_slice rfl ?_ | refine all_live_map rfl ?_ | refine all_live_ptr rfl ?_))) (Nat.le_of_ble_eq_true rfl)) rfl (by simp) ?_
        refine al_nil ?_
        refine aw_seq ?_
        refine aw_seq ?_
        refine aw_region ?_
        refine al_op (op_assign rfl) rfl (by simp) ?_
        refine al_nil ?_
        refine aw_block ?_
        apply aw_only
        ·
          (first | apply sub_cons (t := 1) rfl | skip)
          (first | apply sub_cons (t := 6) rfl | skip)
          (first | apply sub_cons (t := 7) rfl | skip)
          (first | apply sub_cons (t := 10) rfl | skip)
          (first | apply sub_cons (t := 12) rfl | skip)
          (first | apply sub_cons (t := 13) rfl | skip)
          (first | apply sub_cons (t := 14) rfl | skip)
          (first | apply sub_cons (t := 15) rfl | skip)
          exact sub_nil
        refine aw_for3T (α := Nat) (β := Nat) (γ := Nat) [15] [] (fun i v1 v2 => m - i) (fun i v1 v2 => i ≤ m) (fun i v1 v2 => ([(15, .v (.int .i64 (i)))] : Env)) (fun i v1 v2 s => (((s.put 65 v1 (.row 1 ((madeTo i).map encI))).put 66 v2 (.row 1 ((valsM (bitsOf bl m false) i).map encT))).put 13 ver13 (.row 1 [[.slice 65 v1 0 (madeTo i).length]])).put 14 ver14 (.row 1 [[.slice 66 v2 0 (valsM (bitsOf bl m false) i).length]])) (0) (ver65) (ver66) ?_ ?_ ?_ (fun i v1 v2 hinv => ?_)
        · exact Nat.zero_le _
        · refine sub_cons (get_as rfl ?_) ?_; rotate_left; exact sub_nil
          all_goals (first | rfl | (simp; done))
        · rfl
        have hnl := madeTo_length i
        have hvl := valsM_length (bitsOf bl m false) i
        refine aw_seq ?_
        refine aw_seq ?_
        refine aw_region ?_
        refine al_op (op_move rfl) rfl (by simp) ?_
        refine al_op (op_move rfl) rfl (by simp) ?_
        refine al_op (op_lss rfl rfl) rfl (by simp) ?_
        refine al_nil ?_
        refine aw_cond rfl (fun h4 => ?_) (fun h4 => ?_)
        · have gh4 := h4
          try simp only [decide_eq_true_eq, decide_eq_false_iff_not, Bool.not_eq_true', Bool.not_eq_false', beq_iff_eq, bne_iff_ne, beq_eq_false_iff_ne, bne_eq_false_iff_eq, Bool.or_eq_true, Bool.and_eq_true, Bool.or_eq_false_iff, gt_iff_lt, ge_iff_le] at h4
          refine aw_skip ?_
          refine aw_seq ?_
          refine aw_block ?_
          refine aw_plan [0, 1, 2, 3, 4, 6, 7, 8, 9, 10, 11, 12, 5, 13, 14, 15] (Checked.mixed Try.checked) (by kernel_rfl) ?_
          first
            | refine afl_float rfl rfl (opk_of (op_load_rptr Try.underlying54 info54 rfl rfl)) (by simp) ?_
            | refine afl_float rfl rfl (opk_of (op_load_map Try.underlying54 info54 rfl rfl (by omega) rfl)) (by simp) ?_
            | refine afl_float rfl rfl (opk_of (op_load_ptr Try.underlying54 info54 rfl rfl rfl rfl)) (by simp) ?_
          refine afl_float rfl rfl (opk_of (op_move rfl)) (by simp) ?_
          refine afl_float rfl rfl (opk_of (op_add rfl rfl (by first | exact wrap_i64 (by omega) (by omega)))) (by simp) ?_
          refine afl_float rfl rfl (opk_of (op_mul rfl rfl (by first | exact wrap_i64 (by omega) (by omega)))) (by simp) ?_
          refine afl_float rfl rfl (opk_of (op_buildSlice Try.underlying54 info3 rfl rfl (by decide) rfl (by decide) rfl (by first | rfl | (repeat (first | exact parts_nil | refine parts_cons rfl (by repeat (first | exact all_live_nil | refine all_live_clo rfl ?_ | refine all_live_slice rfl ?_ | refine all_live_map rfl ?_ | refine all_live_ptr rfl ?_)) ?_))) rfl rfl rfl)) (by simp) ?_
          first
            | refine afl_float rfl rfl (opk_of (op_load_rptr Try.underlying64 info64 rfl rfl)) (by simp) ?_
            | refine afl_float rfl rfl (opk_of (op_load_map Try.underlying64 info64 rfl rfl (by omega) rfl)) (by simp) ?_
            | refine afl_float rfl rfl (opk_of (op_load_ptr Try.underlying64 info64 rfl rfl rfl rfl)) (by simp) ?_
          refine afl_float rfl rfl (opk_of (op_move rfl)) (by simp) ?_
          refine afl_float rfl rfl (opk_of (op_move rfl)) (by simp) ?_
          first
            | refine afl_float rfl rfl (opk_of (op_index_map default Try.underlying28 info65 rfl rfl rfl (by first | (with_reducible exact Int.toNat_natCast _) | rfl) (by omega) (by omega))) (by simp) ?_
            | refine afl_float rfl rfl (opk_of (op_index_slice Try.underlying28 info65 rfl rfl rfl rfl (by omega) (by omega))) (by simp) ?_
            | refine afl_float rfl rfl (opk_of (op_index_list Try.underlying28 info65 rfl rfl rfl (by decide) rfl)) (by simp) ?_
          first
            | refine afl_float rfl rfl (opk_of (op_load_rptr Try.underlying65 info65 rfl rfl)) (by simp) ?_
            | refine afl_float rfl rfl (opk_of (op_load_map Try.underlying65 info65 rfl rfl (by omega) rfl)) (by simp) ?_
            | refine afl_float rfl rfl (opk_of (op_load_ptr Try.underlying65 info65 rfl rfl rfl rfl)) (by simp) ?_
          refine afl_float rfl rfl (opk_of (op_eql rfl rfl)) (by simp) ?_
          refine afl_float rfl rfl (opk_of (op_buildSlice Try.underlying64 info4 rfl rfl (by decide) rfl (by decide) rfl (by first | rfl | (repeat (first | exact parts_nil | refine parts_cons rfl (by repeat (first | exact all_live_nil | refine all_live_clo rfl ?_ | refine all_live_slice rfl ?_ | refine all_live_map rfl ?_ | refine all_live_ptr rfl ?_)) ?_))) rfl rfl rfl)) (by simp) ?_
          first
            | (refine afl_effR rfl rfl (by kernel_rfl) (op_append_one (2 * ((i : Int) + 1)) Try.underlying54 Try.underlying54 rfl info3 rfl rfl (by decide) rfl rfl rfl (by first | rfl | simp) rfl rfl (by first | omega | (simp; done) | (simp; omega)) (by show _ * 8 ≤ _; first | omega | (simp; done) | (simp; omega))) (by simp) ?_; rintro _ _ ⟨ver77, rfl, rfl⟩; refine ⟨?_, ?_⟩)
            | (refine afl_effR rfl rfl (by kernel_rfl) (op_append_map Try.underlying54 Try.underlying54 rfl info3 rfl rfl (by decide) rfl rfl rfl (by first | rfl | simp) rfl (by first | exact .list _ | exact .vnil | exact .nil | exact .row _ _ _ _ rfl (by first | rfl | simp)) rfl (by first | omega | (simp; done) | (simp; omega)) (by show _ * 8 ≤ _; first | omega | (simp; done) | (simp; omega))) (by simp) ?_; rintro _ _ ⟨ver77, rfl, rfl⟩; refine ⟨?_, ?_⟩)
          ·
            refine loose_k rfl (opk_of (op_buildSlice Try.underlying64 info4 rfl rfl (by decide) rfl (by decide) rfl (by first | rfl | (repeat (first | exact parts_nil | refine parts_cons rfl (by repeat (first | exact all_live_nil | refine all_live_clo rfl ?_ | refine all_live_slice rfl ?_ | refine all_live_map rfl ?_ | refine all_live_ptr rfl ?_)) ?_))) rfl rfl rfl)) ?_
            refine loose_k rfl (opk_of (op_eql rfl rfl)) ?_
            first
              | refine loose_k rfl (opk_of (op_load_rptr Try.underlying65 info65 rfl rfl)) ?_
              | refine loose_k rfl (opk_of (op_load_map Try.underlying65 info65 rfl rfl (by omega) rfl)) ?_
              | refine loose_k rfl (opk_of (op_load_ptr Try.underlying65 info65 rfl rfl rfl rfl)) ?_
            first
              | refine loose_k rfl (opk_of (op_index_map default Try.underlying28 info65 rfl rfl rfl (by first | (with_reducible exact Int.toNat_natCast _) | rfl) (by omega) (by omega))) ?_
              | refine loose_k rfl (opk_of (op_index_slice Try.underlying28 info65 rfl rfl rfl rfl (by omega) (by omega))) ?_
              | refine loose_k rfl (opk_of (op_index_list Try.underlying28 info65 rfl rfl rfl (by decide) rfl)) ?_
            refine loose_k rfl (opk_of (op_move rfl)) ?_
            refine loose_k rfl (opk_of (op_move rfl)) ?_
            first
              | refine loose_k rfl (opk_of (op_load_rptr Try.underlying64 info64 rfl rfl)) ?_
              | refine loose_k rfl (opk_of (op_load_map Try.underlying64 info64 rfl rfl (by omega) rfl)) ?_
              | refine loose_k rfl (opk_of (op_load_ptr Try.underlying64 info64 rfl rfl rfl rfl)) ?_
            refine loose_anc 4 rfl (by kernel_rfl) ?_
            refine loose_anc 3 rfl (by kernel_rfl) ?_
            refine loose_anc 2 rfl (by kernel_rfl) ?_
            refine loose_anc 1 rfl (by kernel_rfl) ?_
            refine loose_anc 0 rfl (by kernel_rfl) ?_
            exact loose_nil
          first
            | (refine afl_effR rfl rfl (by kernel_rfl) (op_append_one ((bitsOf bl m false).getD i default == 1) Try.underlying64 Try.underlying64 rfl info4 rfl rfl (by decide) rfl rfl rfl (by first | rfl | simp) rfl rfl (by first | omega | (simp; done) | (simp; omega)) (by show _ * 1 ≤ _; first | omega | (simp; done) | (simp; omega))) (by simp) ?_; rintro _ _ ⟨ver85, rfl, rfl⟩; refine ⟨?_, ?_⟩)
            | (refine afl_effR rfl rfl (by kernel_rfl) (op_append_map Try.underlying64 Try.underlying64 rfl info4 rfl rfl (by decide) rfl rfl rfl (by first | rfl | simp) rfl (by first | exact .list _ | exact .vnil | exact .nil | exact .row _ _ _ _ rfl (by first | rfl | simp)) rfl (by first | omega | (simp; done) | (simp; omega)) (by show _ * 1 ≤ _; first | omega | (simp; done) | (simp; omega))) (by simp) ?_; rintro _ _ ⟨ver85, rfl, rfl⟩; refine ⟨?_, ?_⟩)
          ·
            refine loose_anc 5 rfl (by kernel_rfl) ?_
            refine loose_anc 12 rfl (by kernel_rfl) ?_
            refine loose_anc 11 rfl (by kernel_rfl) ?_
            refine loose_anc 10 rfl (by kernel_rfl) ?_
            refine loose_anc 9 rfl (by kernel_rfl) ?_
            refine loose_anc 8 rfl (by kernel_rfl) ?_
            refine loose_anc 7 rfl (by kernel_rfl) ?_
            refine loose_anc 6 rfl (by kernel_rfl) ?_
            refine loose_anc 4 rfl (by kernel_rfl) ?_
            refine loose_anc 3 rfl (by kernel_rfl) ?_
            refine loose_anc 2 rfl (by kernel_rfl) ?_
            refine loose_anc 1 rfl (by kernel_rfl) ?_
            refine loose_anc 0 rfl (by kernel_rfl) ?_
            exact loose_nil
          first
            | (refine afl_eff rfl rfl (by kernel_rfl) (op_store_ptr info54 rfl rfl rfl rfl rfl rfl (by first | rfl | exact live_one rfl | (repeat (first | exact all_live_nil | refine all_live_clo rfl ?_ | refine all_live_slice rfl ?_ | refine all_live_map rfl ?_ | refine all_live_ptr rfl ?_))) (by decide)) (by simp) ?_ ?_)
            | (refine afl_eff rfl rfl (by kernel_rfl) (op_store_ptr info54 rfl rfl rfl rfl rfl rfl (by first | rfl | exact live_one rfl | (repeat (first | exact all_live_nil | refine all_live_clo rfl ?_ | refine all_live_slice rfl ?_ | refine all_live_map rfl ?_ | refine all_live_ptr rfl ?_))) (Nat.le_of_ble_eq_true rfl)) (by simp) ?_ ?_)
          ·
            refine loose_anc 13 rfl (by kernel_rfl) ?_
            refine loose_anc 5 rfl (by kernel_rfl) ?_
            refine loose_anc 12 rfl (by kernel_rfl) ?_
            refine loose_anc 11 rfl (by kernel_rfl) ?_
            refine loose_anc 10 rfl (by kernel_rfl) ?_
            refine loose_anc 9 rfl (by kernel_rfl) ?_
            refine loose_anc 8 rfl (by kernel_rfl) ?_
            refine loose_anc 7 rfl (by kernel_rfl) ?_
            refine loose_anc 6 rfl (by kernel_rfl) ?_
            refine loose_anc 4 rfl (by kernel_rfl) ?_
            refine loose_anc 3 rfl (by kernel_rfl) ?_
            refine loose_anc 2 rfl (by kernel_rfl) ?_
            refine loose_anc 1 rfl (by kernel_rfl) ?_
            refine loose_anc 0 rfl (by kernel_rfl) ?_
            exact loose_nil
          first
            | (refine afl_eff rfl rfl (by kernel_rfl) (op_store_ptr info64 rfl rfl rfl rfl rfl rfl (by first | rfl | exact live_one rfl | (repeat (first | exact all_live_nil | refine all_live_clo rfl ?_ | refine all_live_slice rfl ?_ | refine all_live_map rfl ?_ | refine all_live_ptr rfl ?_))) (by decide)) (by simp) ?_ ?_)
            | (refine afl_eff rfl rfl (by kernel_rfl) (op_store_ptr info64 rfl rfl rfl rfl rfl rfl (by first | rfl | exact live_one rfl | (repeat (first | exact all_live_nil | refine all_live_clo rfl ?_ | refine all_live_slice rfl ?_ | refine all_live_map rfl ?_ | refine all_live_ptr rfl ?_))) (Nat.le_of_ble_eq_true rfl)) (by simp) ?_ ?_)
          ·
            refine loose_anc 14 rfl (by kernel_rfl) ?_
            refine loose_anc 13 rfl (by kernel_rfl) ?_
            refine loose_anc 5 rfl (by kernel_rfl) ?_
            refine loose_anc 12 rfl (by kernel_rfl) ?_
            refine loose_anc 11 rfl (by kernel_rfl) ?_
            refine loose_anc 10 rfl (by kernel_rfl) ?_
            refine loose_anc 9 rfl (by kernel_rfl) ?_
            refine loose_anc 8 rfl (by kernel_rfl) ?_
            refine loose_anc 7 rfl (by kernel_rfl) ?_
            refine loose_anc 6 rfl (by kernel_rfl) ?_
            refine loose_anc 4 rfl (by kernel_rfl) ?_
            refine loose_anc 3 rfl (by kernel_rfl) ?_
            refine loose_anc 2 rfl (by kernel_rfl) ?_
            refine loose_anc 1 rfl (by kernel_rfl) ?_
            refine loose_anc 0 rfl (by kernel_rfl) ?_
            exact loose_nil
          refine afl_end ?_
          refine aw_region ?_
          refine al_op (op_move rfl) rfl (by simp) ?_
          refine al_op (op_add rfl rfl (by first | exact wrap_i64 (by omega) (by omega))) rfl (by simp) ?_
          refine al_op (op_assign rfl) rfl (by simp) ?_
          refine al_nil ?_
          refine ⟨i + 1, ver77, ver85, ?_, ?_, ?_, ?_, ?_⟩
          · omega
          · omega
          · refine sub_cons (get_as rfl ?_) ?_; rotate_left; exact sub_nil
            all_goals (first | rfl | (simp; done))
          · repeat (first | exact subx_refl | exact subx_del | refine subx_put rfl ?_)
          · (rw [madeTo_succ] <;> rfl)
        · have gh4 := h4
          try simp only [decide_eq_true_eq, decide_eq_false_iff_not, Bool.not_eq_true', Bool.not_eq_false', beq_iff_eq, bne_iff_ne, beq_eq_false_iff_ne, bne_eq_false_iff_eq, Bool.or_eq_true, Bool.and_eq_true, Bool.or_eq_false_iff, gt_iff_lt, ge_iff_le] at h4
          refine aw_exit ?_
          obtain rfl : m = i := by omega
          refine aw_seq ?_
          refine aw_seq ?_
          refine aw_region ?_
          refine al_op (op_move rfl) rfl (by simp) ?_
          first
            | refine al_op (op_len_map Try.underlying47 rfl) rfl (by simp) ?_
            | refine al_op (op_len_slice Try.underlying47 rfl rfl) rfl (by simp) ?_
            | refine al_op (op_len_list Try.underlying47 rfl) rfl (by simp) ?_
            | refine al_op (op_len_v Try.underlying47 rfl) rfl (by simp) ?_
            | refine al_op (op_len_nil Try.underlying47 rfl) rfl (by simp) ?_
          refine al_op (op_move rfl) rfl (by simp) ?_
          refine al_nil ?_
          refine aw_block ?_
          apply aw_only
          ·
            (first | apply sub_cons (t := 6) rfl | skip)
            (first | apply sub_cons (t := 10) rfl | skip)
            (first | apply sub_cons (t := 12) rfl | skip)
            (first | apply sub_cons (t := 13) rfl | skip)
            (first | apply sub_cons (t := 14) rfl | skip)
            (first | apply sub_cons (t := 86) rfl | skip)
            (first | apply sub_cons (t := 87) rfl | skip)
            (first | apply sub_cons (t := 88) rfl | skip)
            exact sub_nil
          refine aw_forT (ι := MQ) [6, 88] [17] (fun q => l.length - q.i) (fun q => q.i ≤ l.length ∧ q.OK m (bitsOf bl m false)) (fun q => ([(88, .v (.int .i64 ((q.i : Int))))] : Env)) (fun q st => ME q.s vm q.vg vt vr ver13 ver14 q.v1 q.v2 q.made q.vals []) (⟨0, v1, v2, vg, MS.make (namesM m) [] [], madeTo m, valsM (bitsOf bl m false) m⟩) ?_ ?_ ?_ (fun q hinv => ?_)
          · exact ⟨Nat.zero_le _, MQ.start hm8 lenb (bits_01 bl m) _ _ _⟩
          · refine sub_cons (get_as rfl ?_) ?_; rotate_left; exact sub_nil
            all_goals (first | rfl | (simp; done))
          · rfl
          obtain ⟨hi, hq⟩ := hinv
          have hg := hq.bits.good
          have hl1 := hq.len1
          have hl2 := hq.len2
          have hgl := hq.gates
          have hmd := MQ.range hq
          refine aw_seq ?_
          refine aw_region ?_
          refine al_op (op_lss rfl rfl) rfl (by simp) ?_
          refine al_nil ?_
          refine aw_seq ?_
          refine aw_cond rfl (fun h5 => ?_) (fun h5 => ?_)
          · have gh5 := h5
            try simp only [decide_eq_true_eq, decide_eq_false_iff_not, Bool.not_eq_true', Bool.not_eq_false', beq_iff_eq, bne_iff_ne, beq_eq_false_iff_ne, bne_eq_false_iff_eq, Bool.or_eq_true, Bool.and_eq_true, Bool.or_eq_false_iff, gt_iff_lt, ge_iff_le] at h5
            refine aw_skip ?_
            refine aw_seq ?_
            refine aw_block ?_
            refine aw_seq ?_
            have hO1 := hO _ (getD_mem (v := l) (i := q.i) (by omega))
            obtain ⟨hk0, hk1⟩ := hO1.kind
            have pA := MQ.pick hq (l.getD q.i default).a
            have pB := MQ.pick hq (l.getD q.i default).b
            have pC := MQ.pick hq (l.getD q.i default).c
            have hAnd := MS.and_means hq.bits pA pB (by omega)
            have hOr := MS.or_means hq.bits pA pB (by omega)
            have hXor := MS.xor_means hq.bits pA pB (by omega)
            have hMux := MS.mux_means hq.bits pA pB pC (by omega)
            refine aw_region ?_
            first
              | refine al_op (op_index_map default Try.underlying47 info56 rfl rfl rfl (by first | (with_reducible exact Int.toNat_natCast _) | rfl) (by omega) (by omega)) rfl (by simp) ?_
              | refine al_op (op_index_slice Try.underlying47 info56 rfl rfl rfl rfl (by omega) (by omega)) rfl (by simp) ?_
              | refine al_op (op_index_list Try.underlying47 info56 rfl rfl rfl (by decide) rfl) rfl (by simp) ?_
            first
              | refine al_op (op_load_rptr Try.underlying56 info56 rfl rfl) rfl (by simp) ?_
              | refine al_op (op_load_map Try.underlying56 info56 rfl rfl (by omega) rfl) rfl (by simp) ?_
              | refine al_op (op_load_ptr Try.underlying56 info56 rfl rfl rfl rfl) rfl (by simp) ?_
            (refine al_opR (op_alloc 17 info56 rfl rfl) rfl (by simp) ?_; rintro _ _ ⟨ver17, rfl, rfl⟩)
            first
              | refine al_op (op_store_ptr info56 rfl rfl rfl rfl rfl rfl (by first | rfl | exact live_one rfl | (repeat (first | exact all_live_nil | refine all_live_clo rfl ?_ | refine all_live_slice rfl ?_ | refine all_live_map rfl ?_ | refine all_live_ptr rfl ?_))) (by decide)) rfl (by simp) ?_
              | refine al_op (op_store_ptr info56 rfl rfl rfl rfl rfl rfl (by first | rfl | exact live_one rfl | (repeat (first | exact all_live_nil | refine all_live_clo rfl ?_ | refine all_live_slice rfl ?_ | refine all_live_map rfl ?_ | refine all_live_ptr rfl ?_))) (Nat.le_of_ble_eq_true rfl)) rfl (by simp) ?_
            refine al_nil ?_
            refine aw_seq ?_
            refine aw_region ?_
            refine al_op (op_closure rfl rfl) rfl (by simp) ?_
            refine al_op (op_assign rfl) rfl (by simp) ?_
            refine al_nil ?_
            refine aw_seq ?_
            refine aw_region ?_
            refine al_op (op_move rfl) rfl (by simp) ?_
            first
              | refine al_op (op_field_rptr Try.underlying56 rfl info3 (by decide) rfl rfl) rfl (by simp) ?_
              | refine al_op (op_field_ptr Try.underlying56 rfl info3 (by decide) rfl rfl rfl) rfl (by simp) ?_
            first
              | refine al_op (op_load_rptr Try.underlying3 info3 rfl rfl) rfl (by simp) ?_
              | refine al_op (op_load_map Try.underlying3 info3 rfl rfl (by omega) rfl) rfl (by simp) ?_
              | refine al_op (op_load_ptr Try.underlying3 info3 rfl rfl rfl rfl) rfl (by simp) ?_
            refine al_callp into42 rfl rfl rfl (me_at _ (by omega) (by omega) (by omega) hmd rfl) (by simp) ?_
            refine al_op (op_move rfl) rfl (by simp) ?_
            refine al_op (op_extract rfl rfl rfl) rfl (by simp) ?_
            refine al_op (op_extract rfl rfl rfl) rfl (by simp) ?_
            refine al_op (op_assign rfl) rfl (by simp) ?_
            refine al_op (op_assign rfl) rfl (by simp) ?_
            refine al_nil ?_
            refine aw_seq ?_
            refine aw_region ?_
            refine al_op (op_move rfl) rfl (by simp) ?_
            first
              | refine al_op (op_field_rptr Try.underlying56 rfl info3 (by decide) rfl rfl) rfl (by simp) ?_
              | refine al_op (op_field_ptr Try.underlying56 rfl info3 (by decide) rfl rfl rfl) rfl (by simp) ?_
            first
              | refine al_op (op_load_rptr Try.underlying3 info3 rfl rfl) rfl (by simp) ?_
              | refine al_op (op_load_map Try.underlying3 info3 rfl rfl (by omega) rfl) rfl (by simp) ?_
              | refine al_op (op_load_ptr Try.underlying3 info3 rfl rfl rfl rfl) rfl (by simp) ?_
            refine al_callp into42 rfl rfl rfl (me_at _ (by omega) (by omega) (by omega) hmd rfl) (by simp) ?_
            refine al_op (op_move rfl) rfl (by simp) ?_
            refine al_op (op_extract rfl rfl rfl) rfl (by simp) ?_
            refine al_op (op_extract rfl rfl rfl) rfl (by simp) ?_
            refine al_op (op_assign rfl) rfl (by simp) ?_
            refine al_op (op_assign rfl) rfl (by simp) ?_
            refine al_nil ?_
            refine aw_seq ?_
            refine aw_region ?_
            refine al_op (op_move rfl) rfl (by simp) ?_
            first
              | refine al_op (op_field_rptr Try.underlying56 rfl info3 (by decide) rfl rfl) rfl (by simp) ?_
              | refine al_op (op_field_ptr Try.underlying56 rfl info3 (by decide) rfl rfl rfl) rfl (by simp) ?_
            first
              | refine al_op (op_load_rptr Try.underlying3 info3 rfl rfl) rfl (by simp) ?_
              | refine al_op (op_load_map Try.underlying3 info3 rfl rfl (by omega) rfl) rfl (by simp) ?_
              | refine al_op (op_load_ptr Try.underlying3 info3 rfl rfl rfl rfl) rfl (by simp) ?_
            refine al_callp into42 rfl rfl rfl (me_at _ (by omega) (by omega) (by omega) hmd rfl) (by simp) ?_
            refine al_op (op_move rfl) rfl (by simp) ?_
            refine al_op (op_extract rfl rfl rfl) rfl (by simp) ?_
            refine al_op (op_extract rfl rfl rfl) rfl (by simp) ?_
            refine al_op (op_assign rfl) rfl (by simp) ?_
            refine al_op (op_assign rfl) rfl (by simp) ?_
            refine al_nil ?_
            refine aw_seq ?_
            refine aw_region ?_
            refine al_op (op_assign rfl) rfl (by simp) ?_
            refine al_op (op_assign rfl) rfl (by simp) ?_
            refine al_op (op_assign rfl) rfl (by simp) ?_
            refine al_nil ?_
            refine aw_seq ?_
            refine aw_seq ?_
            refine aw_region ?_
            first
              | refine al_op (op_field_rptr Try.underlying56 rfl info5 (by decide) rfl rfl) rfl (by simp) ?_
              | refine al_op (op_field_ptr Try.underlying56 rfl info5 (by decide) rfl rfl rfl) rfl (by simp) ?_
            first
              | refine al_op (op_load_rptr Try.underlying5 info5 rfl rfl) rfl (by simp) ?_
              | refine al_op (op_load_map Try.underlying5 info5 rfl rfl (by omega) rfl) rfl (by simp) ?_
              | refine al_op (op_load_ptr Try.underlying5 info5 rfl rfl rfl rfl) rfl (by simp) ?_
            first
              | refine al_op (op_rem rfl rfl (by omega) (rem_nn (by omega))) rfl (by simp) ?_
              | refine al_op (op_rem rfl rfl (by omega) rfl) rfl (by simp) ?_
            refine al_nil ?_
            refine aw_block ?_
            refine aw_seq ?_
            refine aw_region ?_
            refine al_op (op_eql rfl rfl) rfl (by simp) ?_
            refine al_op (op_assign rfl) rfl (by simp) ?_
            refine al_nil ?_
            refine aw_cond rfl (fun h6 => ?_) (fun h6 => ?_)
            · have gh6 := h6
              try simp only [decide_eq_true_eq, decide_eq_false_iff_not, Bool.not_eq_true', Bool.not_eq_false', beq_iff_eq, bne_iff_ne, beq_eq_false_iff_ne, bne_eq_false_iff_eq, Bool.or_eq_true, Bool.and_eq_true, Bool.or_eq_false_iff, gt_iff_lt, ge_iff_le] at h6
              refine aw_seq ?_
              refine aw_region ?_
              refine al_op (op_move rfl) rfl (by simp) ?_
              refine al_op (op_move rfl) rfl (by simp) ?_
              refine al_op (op_move rfl) rfl (by simp) ?_
              (refine al_call into31 rfl rfl rfl (me_m (m_And q.s vm q.vg vt vr _ _ hg.ok) rfl rfl rfl) (by simp) ?_; rintro _ _ ⟨vg142, rfl, rfl⟩)
              refine al_op (op_move rfl) rfl (by simp) ?_
              refine al_op (op_extract rfl rfl rfl) rfl (by simp) ?_
              refine al_op (op_extract rfl rfl rfl) rfl (by simp) ?_
              refine al_op (op_assign rfl) rfl (by simp) ?_
              refine al_op (op_assign rfl) rfl (by simp) ?_
              refine al_nil ?_
              refine aw_region ?_
              refine al_op (op_move rfl) rfl (by simp) ?_
              refine al_op (op_move rfl) rfl (by simp) ?_
              apply al_and 2 146 148 rfl
              · intro h7; have gh7 := h7
                try simp only [decide_eq_true_eq, decide_eq_false_iff_not, Bool.not_eq_true', Bool.not_eq_false', beq_iff_eq, bne_iff_ne, beq_eq_false_iff_ne, bne_eq_false_iff_eq, Bool.or_eq_true, Bool.and_eq_true, Bool.or_eq_false_iff, gt_iff_lt, ge_iff_le] at h7
                refine al_take (op_move rfl) rfl rfl rfl rfl (by simp) ?_
                first
                  | refine al_op (op_pick rfl rfl) rfl (by simp) ?_
                  | refine al_op (op_and rfl rfl rfl) rfl (by simp) ?_
                refine al_nil ⟨rfl, rfl, rfl, keep_of ?_⟩
                repeat (first | exact subx_refl | exact subx_known rfl gh7 subx_refl | refine subx_put rfl ?_)
              · intro h7; have gh7 := h7
                try simp only [decide_eq_true_eq, decide_eq_false_iff_not, Bool.not_eq_true', Bool.not_eq_false', beq_iff_eq, bne_iff_ne, beq_eq_false_iff_ne, bne_eq_false_iff_eq, Bool.or_eq_true, Bool.and_eq_true, Bool.or_eq_false_iff, gt_iff_lt, ge_iff_le] at h7
                refine al_pass rfl rfl rfl rfl (by simp) ?_
                first
                  | refine al_op (op_pick rfl rfl) rfl (by simp) ?_
                  | refine al_op (op_and rfl rfl rfl) rfl (by simp) ?_
                refine al_nil ⟨rfl, rfl, rfl, keep_of ?_⟩
                repeat (first | exact subx_refl | exact subx_known rfl gh7 subx_refl | refine subx_put rfl ?_)
              refine al_op (op_assign rfl) rfl (by simp) ?_
              refine al_nil ?_
              refine aw_seq ?_
              refine aw_seq ?_
              refine aw_region ?_
              refine al_op (op_move rfl) rfl (by simp) ?_
              refine al_op (op_neq rfl rfl) rfl (by simp) ?_
              refine al_nil ?_
              refine aw_cond rfl (fun h8 => ?_) (fun h8 => ?_)
              · have gh8 := h8
                try simp only [decide_eq_true_eq, decide_eq_false_iff_not, Bool.not_eq_true', Bool.not_eq_false', beq_iff_eq, bne_iff_ne, beq_eq_false_iff_ne, bne_eq_false_iff_eq, Bool.or_eq_true, Bool.and_eq_true, Bool.or_eq_false_iff, gt_iff_lt, ge_iff_le] at h8
                first | (rw [hAnd.1] at gh8; exact absurd gh8 (by decide)) | (rw [hOr.1] at gh8; exact absurd gh8 (by decide)) | (rw [hXor.1] at gh8; exact absurd gh8 (by decide)) | (rw [hMux.1] at gh8; exact absurd gh8 (by decide))
              · have gh8 := h8
                try simp only [decide_eq_true_eq, decide_eq_false_iff_not, Bool.not_eq_true', Bool.not_eq_false', beq_iff_eq, bne_iff_ne, beq_eq_false_iff_ne, bne_eq_false_iff_eq, Bool.or_eq_true, Bool.and_eq_true, Bool.or_eq_false_iff, gt_iff_lt, ge_iff_le] at h8
                refine aw_skip ?_
                refine aw_plan [0, 1, 2, 4, 5, 6, 3, 7, 8, 9] (Checked.mixed Try.checked) (by kernel_rfl) ?_
                first
                  | refine afl_float rfl rfl (opk_of (op_load_rptr Try.underlying54 info54 rfl rfl)) (by simp) ?_
                  | refine afl_float rfl rfl (opk_of (op_load_map Try.underlying54 info54 rfl rfl (by omega) rfl)) (by simp) ?_
                  | refine afl_float rfl rfl (opk_of (op_load_ptr Try.underlying54 info54 rfl rfl rfl rfl)) (by simp) ?_
                refine afl_float rfl rfl (opk_of (op_move rfl)) (by simp) ?_
                refine afl_float rfl rfl (opk_of (op_buildSlice Try.underlying54 info3 rfl rfl (by decide) rfl (by decide) rfl (by first | rfl | (repeat (first | exact parts_nil | refine parts_cons rfl (by repeat (first | exact all_live_nil | refine all_live_clo rfl ?_ | refine all_live_slice rfl ?_ | refine all_live_map rfl ?_ | refine all_live_ptr rfl ?_)) ?_))) rfl rfl rfl)) (by simp) ?_
                first
                  | refine afl_float rfl rfl (opk_of (op_load_rptr Try.underlying64 info64 rfl rfl)) (by simp) ?_
                  | refine afl_float rfl rfl (opk_of (op_load_map Try.underlying64 info64 rfl rfl (by omega) rfl)) (by simp) ?_
                  | refine afl_float rfl rfl (opk_of (op_load_ptr Try.underlying64 info64 rfl rfl rfl rfl)) (by simp) ?_
                refine afl_float rfl rfl (opk_of (op_move rfl)) (by simp) ?_
                refine afl_float rfl rfl (opk_of (op_buildSlice Try.underlying64 info4 rfl rfl (by decide) rfl (by decide) rfl (by first | rfl | (repeat (first | exact parts_nil | refine parts_cons rfl (by repeat (first | exact all_live_nil | refine all_live_clo rfl ?_ | refine all_live_slice rfl ?_ | refine all_live_map rfl ?_ | refine all_live_ptr rfl ?_)) ?_))) rfl rfl rfl)) (by simp) ?_
                first
                  | (refine afl_effR rfl rfl (by kernel_rfl) (op_append_one _ Try.underlying54 Try.underlying54 rfl info3 rfl rfl (by decide) rfl rfl rfl (by first | rfl | simp) rfl rfl (by first | omega | (simp; done) | (simp; omega)) (by show _ * 8 ≤ _; first | omega | (simp; done) | (simp; omega))) (by simp) ?_; rintro _ _ ⟨ver179, rfl, rfl⟩; refine ⟨?_, ?_⟩)
                  | (refine afl_effR rfl rfl (by kernel_rfl) (op_append_map Try.underlying54 Try.underlying54 rfl info3 rfl rfl (by decide) rfl rfl rfl (by first | rfl | simp) rfl (by first | exact .list _ | exact .vnil | exact .nil | exact .row _ _ _ _ rfl (by first | rfl | simp)) rfl (by first | omega | (simp; done) | (simp; omega)) (by show _ * 8 ≤ _; first | omega | (simp; done) | (simp; omega))) (by simp) ?_; rintro _ _ ⟨ver179, rfl, rfl⟩; refine ⟨?_, ?_⟩)
                ·
                  refine loose_k rfl (opk_of (op_buildSlice Try.underlying64 info4 rfl rfl (by decide) rfl (by decide) rfl (by first | rfl | (repeat (first | exact parts_nil | refine parts_cons rfl (by repeat (first | exact all_live_nil | refine all_live_clo rfl ?_ | refine all_live_slice rfl ?_ | refine all_live_map rfl ?_ | refine all_live_ptr rfl ?_)) ?_))) rfl rfl rfl)) ?_
                  refine loose_k rfl (opk_of (op_move rfl)) ?_
                  first
                    | refine loose_k rfl (opk_of (op_load_rptr Try.underlying64 info64 rfl rfl)) ?_
                    | refine loose_k rfl (opk_of (op_load_map Try.underlying64 info64 rfl rfl (by omega) rfl)) ?_
                    | refine loose_k rfl (opk_of (op_load_ptr Try.underlying64 info64 rfl rfl rfl rfl)) ?_
                  refine loose_anc 2 rfl (by kernel_rfl) ?_
                  refine loose_anc 1 rfl (by kernel_rfl) ?_
                  refine loose_anc 0 rfl (by kernel_rfl) ?_
                  exact loose_nil
                first
                  | (refine afl_effR rfl rfl (by kernel_rfl) (op_append_one _ Try.underlying64 Try.underlying64 rfl info4 rfl rfl (by decide) rfl rfl rfl (by first | rfl | simp) rfl rfl (by first | omega | (simp; done) | (simp; omega)) (by show _ * 1 ≤ _; first | omega | (simp; done) | (simp; omega))) (by simp) ?_; rintro _ _ ⟨ver183, rfl, rfl⟩; refine ⟨?_, ?_⟩)
                  | (refine afl_effR rfl rfl (by kernel_rfl) (op_append_map Try.underlying64 Try.underlying64 rfl info4 rfl rfl (by decide) rfl rfl rfl (by first | rfl | simp) rfl (by first | exact .list _ | exact .vnil | exact .nil | exact .row _ _ _ _ rfl (by first | rfl | simp)) rfl (by first | omega | (simp; done) | (simp; omega)) (by show _ * 1 ≤ _; first | omega | (simp; done) | (simp; omega))) (by simp) ?_; rintro _ _ ⟨ver183, rfl, rfl⟩; refine ⟨?_, ?_⟩)
                ·
                  refine loose_anc 3 rfl (by kernel_rfl) ?_
                  refine loose_anc 6 rfl (by kernel_rfl) ?_
                  refine loose_anc 5 rfl (by kernel_rfl) ?_
                  refine loose_anc 4 rfl (by kernel_rfl) ?_
                  refine loose_anc 2 rfl (by kernel_rfl) ?_
                  refine loose_anc 1 rfl (by kernel_rfl) ?_
                  refine loose_anc 0 rfl (by kernel_rfl) ?_
                  exact loose_nil
                first
                  | (refine afl_eff rfl rfl (by kernel_rfl) (op_store_ptr info54 rfl rfl rfl rfl rfl rfl (by first | rfl | exact live_one rfl | (repeat (first | exact all_live_nil | refine all_live_clo rfl ?_ | refine all_live_slice rfl ?_ | refine all_live_map rfl ?_ | refine all_live_ptr rfl ?_))) (by decide)) (by simp) ?_ ?_)
                  | (refine afl_eff rfl rfl (by kernel_rfl) (op_store_ptr info54 rfl rfl rfl rfl rfl rfl (by first | rfl | exact live_one rfl | (repeat (first | exact all_live_nil | refine all_live_clo rfl ?_ | refine all_live_slice rfl ?_ | refine all_live_map rfl ?_ | refine all_live_ptr rfl ?_))) (Nat.le_of_ble_eq_true rfl)) (by simp) ?_ ?_)
                ·
                  refine loose_anc 7 rfl (by kernel_rfl) ?_
                  refine loose_anc 3 rfl (by kernel_rfl) ?_
                  refine loose_anc 6 rfl (by kernel_rfl) ?_
                  refine loose_anc 5 rfl (by kernel_rfl) ?_
                  refine loose_anc 4 rfl (by kernel_rfl) ?_
                  refine loose_anc 2 rfl (by kernel_rfl) ?_
                  refine loose_anc 1 rfl (by kernel_rfl) ?_
                  refine loose_anc 0 rfl (by kernel_rfl) ?_
                  exact loose_nil
                first
                  | (refine afl_eff rfl rfl (by kernel_rfl) (op_store_ptr info64 rfl rfl rfl rfl rfl rfl (by first | rfl | exact live_one rfl | (repeat (first | exact all_live_nil | refine all_live_clo rfl ?_ | refine all_live_slice rfl ?_ | refine all_live_map rfl ?_ | refine all_live_ptr rfl ?_))) (by decide)) (by simp) ?_ ?_)
                  | (refine afl_eff rfl rfl (by kernel_rfl) (op_store_ptr info64 rfl rfl rfl rfl rfl rfl (by first | rfl | exact live_one rfl | (repeat (first | exact all_live_nil | refine all_live_clo rfl ?_ | refine all_live_slice rfl ?_ | refine all_live_map rfl ?_ | refine all_live_ptr rfl ?_))) (Nat.le_of_ble_eq_true rfl)) (by simp) ?_ ?_)
                ·
                  refine loose_anc 8 rfl (by kernel_rfl) ?_
                  refine loose_anc 7 rfl (by kernel_rfl) ?_
                  refine loose_anc 3 rfl (by kernel_rfl) ?_
                  refine loose_anc 6 rfl (by kernel_rfl) ?_
                  refine loose_anc 5 rfl (by kernel_rfl) ?_
                  refine loose_anc 4 rfl (by kernel_rfl) ?_
                  refine loose_anc 2 rfl (by kernel_rfl) ?_
                  refine loose_anc 1 rfl (by kernel_rfl) ?_
                  refine loose_anc 0 rfl (by kernel_rfl) ?_
                  exact loose_nil
                refine afl_end ?_
                refine aw_region ?_
                refine al_op (op_add rfl rfl (by first | exact wrap_i64 (by omega) (by omega))) rfl (by simp) ?_
                refine al_op (op_move rfl) rfl (by simp) ?_
                refine al_nil ?_
                refine ⟨⟨q.i + 1, ver179, ver183, vg142, (q.s.and (litM q.made (l.getD q.i default).a) (litM q.made (l.getD q.i default).b)).2, q.made ++ [(q.s.and (litM q.made (l.getD q.i default).a) (litM q.made (l.getD q.i default).b)).1.1], q.vals ++ [(boolM q.made q.vals (l.getD q.i default).a) && (boolM q.made q.vals (l.getD q.i default).b)]⟩, ?_, ?_, ?_, ?_, ?_⟩
                · (show l.length - (q.i + 1) < l.length - q.i; omega)
                · exact ⟨by show q.i + 1 ≤ l.length; omega, MQ.next hq (k := 1) (by decide) hAnd.2.1 hAnd.2.2 _ _ _⟩
                · refine sub_cons (get_as rfl ?_) ?_; rotate_left; exact sub_nil
                  all_goals (first | rfl | (simp; done))
                · repeat (first | exact subx_refl | exact subx_del | refine subx_put rfl ?_)
                · rfl
            · have gh6 := h6
              try simp only [decide_eq_true_eq, decide_eq_false_iff_not, Bool.not_eq_true', Bool.not_eq_false', beq_iff_eq, bne_iff_ne, beq_eq_false_iff_ne, bne_eq_false_iff_eq, Bool.or_eq_true, Bool.and_eq_true, Bool.or_eq_false_iff, gt_iff_lt, ge_iff_le] at h6
              refine aw_seq ?_
              refine aw_region ?_
              refine al_op (op_eql rfl rfl) rfl (by simp) ?_
              refine al_op (op_assign rfl) rfl (by simp) ?_
              refine al_nil ?_
              refine aw_cond rfl (fun h9 => ?_) (fun h9 => ?_)
              · have gh9 := h9
                try simp only [decide_eq_true_eq, decide_eq_false_iff_not, Bool.not_eq_true', Bool.not_eq_false', beq_iff_eq, bne_iff_ne, beq_eq_false_iff_ne, bne_eq_false_iff_eq, Bool.or_eq_true, Bool.and_eq_true, Bool.or_eq_false_iff, gt_iff_lt, ge_iff_le] at h9
                refine aw_seq ?_
                refine aw_region ?_
                refine al_op (op_move rfl) rfl (by simp) ?_
                refine al_op (op_move rfl) rfl (by simp) ?_
                refine al_op (op_move rfl) rfl (by simp) ?_
                (refine al_call into33 rfl rfl rfl (me_m (m_Or q.s vm q.vg vt vr _ _ hg.ok) rfl rfl rfl) (by simp) ?_; rintro _ _ ⟨vg155, rfl, rfl⟩)
                refine al_op (op_move rfl) rfl (by simp) ?_
                refine al_op (op_extract rfl rfl rfl) rfl (by simp) ?_
                refine al_op (op_extract rfl rfl rfl) rfl (by simp) ?_
                refine al_op (op_assign rfl) rfl (by simp) ?_
                refine al_op (op_assign rfl) rfl (by simp) ?_
                refine al_nil ?_
                refine aw_region ?_
                refine al_op (op_move rfl) rfl (by simp) ?_
                refine al_op (op_move rfl) rfl (by simp) ?_
                apply al_or 2 159 161 rfl
                · intro h10; have gh10 := h10
                  try simp only [decide_eq_true_eq, decide_eq_false_iff_not, Bool.not_eq_true', Bool.not_eq_false', beq_iff_eq, bne_iff_ne, beq_eq_false_iff_ne, bne_eq_false_iff_eq, Bool.or_eq_true, Bool.and_eq_true, Bool.or_eq_false_iff, gt_iff_lt, ge_iff_le] at h10
                  refine al_take (op_move rfl) rfl rfl rfl rfl (by simp) ?_
                  first
                    | refine al_op (op_pick rfl rfl) rfl (by simp) ?_
                    | refine al_op (op_or rfl rfl rfl) rfl (by simp) ?_
                  refine al_nil ⟨rfl, rfl, rfl, keep_of ?_⟩
                  repeat (first | exact subx_refl | exact subx_known rfl gh10 subx_refl | refine subx_put rfl ?_)
                · intro h10; have gh10 := h10
                  try simp only [decide_eq_true_eq, decide_eq_false_iff_not, Bool.not_eq_true', Bool.not_eq_false', beq_iff_eq, bne_iff_ne, beq_eq_false_iff_ne, bne_eq_false_iff_eq, Bool.or_eq_true, Bool.and_eq_true, Bool.or_eq_false_iff, gt_iff_lt, ge_iff_le] at h10
                  refine al_pass rfl rfl rfl rfl (by simp) ?_
                  first
                    | refine al_op (op_pick rfl rfl) rfl (by simp) ?_
                    | refine al_op (op_or rfl rfl rfl) rfl (by simp) ?_
                  refine al_nil ⟨rfl, rfl, rfl, keep_of ?_⟩
                  repeat (first | exact subx_refl | exact subx_known rfl gh10 subx_refl | refine subx_put rfl ?_)
                refine al_op (op_assign rfl) rfl (by simp) ?_
                refine al_nil ?_
                refine aw_seq ?_
                refine aw_seq ?_
                refine aw_region ?_
                refine al_op (op_move rfl) rfl (by simp) ?_
                refine al_op (op_neq rfl rfl) rfl (by simp) ?_
                refine al_nil ?_
                refine aw_cond rfl (fun h11 => ?_) (fun h11 => ?_)
                · have gh11 := h11
                  try simp only [decide_eq_true_eq, decide_eq_false_iff_not, Bool.not_eq_true', Bool.not_eq_false', beq_iff_eq, bne_iff_ne, beq_eq_false_iff_ne, bne_eq_false_iff_eq, Bool.or_eq_true, Bool.and_eq_true, Bool.or_eq_false_iff, gt_iff_lt, ge_iff_le] at h11
                  first | (rw [hAnd.1] at gh11; exact absurd gh11 (by decide)) | (rw [hOr.1] at gh11; exact absurd gh11 (by decide)) | (rw [hXor.1] at gh11; exact absurd gh11 (by decide)) | (rw [hMux.1] at gh11; exact absurd gh11 (by decide))
                · have gh11 := h11
                  try simp only [decide_eq_true_eq, decide_eq_false_iff_not, Bool.not_eq_true', Bool.not_eq_false', beq_iff_eq, bne_iff_ne, beq_eq_false_iff_ne, bne_eq_false_iff_eq, Bool.or_eq_true, Bool.and_eq_true, Bool.or_eq_false_iff, gt_iff_lt, ge_iff_le] at h11
                  refine aw_skip ?_
                  refine aw_plan [0, 1, 2, 4, 5, 6, 3, 7, 8, 9] (Checked.mixed Try.checked) (by kernel_rfl) ?_
                  first
                    | refine afl_float rfl rfl (opk_of (op_load_rptr Try.underlying54 info54 rfl rfl)) (by simp) ?_
                    | refine afl_float rfl rfl (opk_of (op_load_map Try.underlying54 info54 rfl rfl (by omega) rfl)) (by simp) ?_
                    | refine afl_float rfl rfl (opk_of (op_load_ptr Try.underlying54 info54 rfl rfl rfl rfl)) (by simp) ?_
                  refine afl_float rfl rfl (opk_of (op_move rfl)) (by simp) ?_
                  refine afl_float rfl rfl (opk_of (op_buildSlice Try.underlying54 info3 rfl rfl (by decide) rfl (by decide) rfl (by first | rfl | (repeat (first | exact parts_nil | refine parts_cons rfl (by repeat (first | exact all_live_nil | refine all_live_clo rfl ?_ | refine all_live_slice rfl ?_ | refine all_live_map rfl ?_ | refine all_live_ptr rfl ?_)) ?_))) rfl rfl rfl)) (by simp) ?_
                  first
                    | refine afl_float rfl rfl (opk_of (op_load_rptr Try.underlying64 info64 rfl rfl)) (by simp) ?_
                    | refine afl_float rfl rfl (opk_of (op_load_map Try.underlying64 info64 rfl rfl (by omega) rfl)) (by simp) ?_
                    | refine afl_float rfl rfl (opk_of (op_load_ptr Try.underlying64 info64 rfl rfl rfl rfl)) (by simp) ?_
                  refine afl_float rfl rfl (opk_of (op_move rfl)) (by simp) ?_
                  refine afl_float rfl rfl (opk_of (op_buildSlice Try.underlying64 info4 rfl rfl (by decide) rfl (by decide) rfl (by first | rfl | (repeat (first | exact parts_nil | refine parts_cons rfl (by repeat (first | exact all_live_nil | refine all_live_clo rfl ?_ | refine all_live_slice rfl ?_ | refine all_live_map rfl ?_ | refine all_live_ptr rfl ?_)) ?_))) rfl rfl rfl)) (by simp) ?_
                  first
                    | (refine afl_effR rfl rfl (by kernel_rfl) (op_append_one _ Try.underlying54 Try.underlying54 rfl info3 rfl rfl (by decide) rfl rfl rfl (by first | rfl | simp) rfl rfl (by first | omega | (simp; done) | (simp; omega)) (by show _ * 8 ≤ _; first | omega | (simp; done) | (simp; omega))) (by simp) ?_; rintro _ _ ⟨ver179, rfl, rfl⟩; refine ⟨?_, ?_⟩)
                    | (refine afl_effR rfl rfl (by kernel_rfl) (op_append_map Try.underlying54 Try.underlying54 rfl info3 rfl rfl (by decide) rfl rfl rfl (by first | rfl | simp) rfl (by first | exact .list _ | exact .vnil | exact .nil | exact .row _ _ _ _ rfl (by first | rfl | simp)) rfl (by first | omega | (simp; done) | (simp; omega)) (by show _ * 8 ≤ _; first | omega | (simp; done) | (simp; omega))) (by simp) ?_; rintro _ _ ⟨ver179, rfl, rfl⟩; refine ⟨?_, ?_⟩)
                  ·
                    refine loose_k rfl (opk_of (op_buildSlice Try.underlying64 info4 rfl rfl (by decide) rfl (by decide) rfl (by first | rfl | (repeat (first | exact parts_nil | refine parts_cons rfl (by repeat (first | exact all_live_nil | refine all_live_clo rfl ?_ | refine all_live_slice rfl ?_ | refine all_live_map rfl ?_ | refine all_live_ptr rfl ?_)) ?_))) rfl rfl rfl)) ?_
                    refine loose_k rfl (opk_of (op_move rfl)) ?_
                    first
                      | refine loose_k rfl (opk_of (op_load_rptr Try.underlying64 info64 rfl rfl)) ?_
                      | refine loose_k rfl (opk_of (op_load_map Try.underlying64 info64 rfl rfl (by omega) rfl)) ?_
                      | refine loose_k rfl (opk_of (op_load_ptr Try.underlying64 info64 rfl rfl rfl rfl)) ?_
                    refine loose_anc 2 rfl (by kernel_rfl) ?_
                    refine loose_anc 1 rfl (by kernel_rfl) ?_
                    refine loose_anc 0 rfl (by kernel_rfl) ?_
                    exact loose_nil
                  first
                    | (refine afl_effR rfl rfl (by kernel_rfl) (op_append_one _ Try.underlying64 Try.underlying64 rfl info4 rfl rfl (by decide) rfl rfl rfl (by first | rfl | simp) rfl rfl (by first | omega | (simp; done) | (simp; omega)) (by show _ * 1 ≤ _; first | omega | (simp; done) | (simp; omega))) (by simp) ?_; rintro _ _ ⟨ver183, rfl, rfl⟩; refine ⟨?_, ?_⟩)
                    | (refine afl_effR rfl rfl (by kernel_rfl) (op_append_map Try.underlying64 Try.underlying64 rfl info4 rfl rfl (by decide) rfl rfl rfl (by first | rfl | simp) rfl (by first | exact .list _ | exact .vnil | exact .nil | exact .row _ _ _ _ rfl (by first | rfl | simp)) rfl (by first | omega | (simp; done) | (simp; omega)) (by show _ * 1 ≤ _; first | omega | (simp; done) | (simp; omega))) (by simp) ?_; rintro _ _ ⟨ver183, rfl, rfl⟩; refine ⟨?_, ?_⟩)
                  ·
                    refine loose_anc 3 rfl (by kernel_rfl) ?_
                    refine loose_anc 6 rfl (by kernel_rfl) ?_
                    refine loose_anc 5 rfl (by kernel_rfl) ?_
                    refine loose_anc 4 rfl (by kernel_rfl) ?_
                    refine loose_anc 2 rfl (by kernel_rfl) ?_
                    refine loose_anc 1 rfl (by kernel_rfl) ?_
                    refine loose_anc 0 rfl (by kernel_rfl) ?_
                    exact loose_nil
                  first
                    | (refine afl_eff rfl rfl (by kernel_rfl) (op_store_ptr info54 rfl rfl rfl rfl rfl rfl (by first | rfl | exact live_one rfl | (repeat (first | exact all_live_nil | refine all_live_clo rfl ?_ | refine all_live_slice rfl ?_ | refine all_live_map rfl ?_ | refine all_live_ptr rfl ?_))) (by decide)) (by simp) ?_ ?_)
                    | (refine afl_eff rfl rfl (by kernel_rfl) (op_store_ptr info54 rfl rfl rfl rfl rfl rfl (by first | rfl | exact live_one rfl | (repeat (first | exact all_live_nil | refine all_live_clo rfl ?_ | refine all_live_slice rfl ?_ | refine all_live_map rfl ?_ | refine all_live_ptr rfl ?_))) (Nat.le_of_ble_eq_true rfl)) (by simp) ?_ ?_)
                  ·
                    refine loose_anc 7 rfl (by kernel_rfl) ?_
                    refine loose_anc 3 rfl (by kernel_rfl) ?_
                    refine loose_anc 6 rfl (by kernel_rfl) ?_
                    refine loose_anc 5 rfl (by kernel_rfl) ?_
                    refine loose_anc 4 rfl (by kernel_rfl) ?_
                    refine loose_anc 2 rfl (by kernel_rfl) ?_
                    refine loose_anc 1 rfl (by kernel_rfl) ?_
                    refine loose_anc 0 rfl (by kernel_rfl) ?_
                    exact loose_nil
                  first
                    | (refine afl_eff rfl rfl (by kernel_rfl) (op_store_ptr info64 rfl rfl rfl rfl rfl rfl (by first | rfl | exact live_one rfl | (repeat (first | exact all_live_nil | refine all_live_clo rfl ?_ | refine all_live_slice rfl ?_ | refine all_live_map rfl ?_ | refine all_live_ptr rfl ?_))) (by decide)) (by simp) ?_ ?_)
                    | (refine afl_eff rfl rfl (by kernel_rfl) (op_store_ptr info64 rfl rfl rfl rfl rfl rfl (by first | rfl | exact live_one rfl | (repeat (first | exact all_live_nil | refine all_live_clo rfl ?_ | refine all_live_slice rfl ?_ | refine all_live_map rfl ?_ | refine all_live_ptr rfl ?_))) (Nat.le_of_ble_eq_true rfl)) (by simp) ?_ ?_)
                  ·
                    refine loose_anc 8 rfl (by kernel_rfl) ?_
                    refine loose_anc 7 rfl (by kernel_rfl) ?_
                    refine loose_anc 3 rfl (by kernel_rfl) ?_
                    refine loose_anc 6 rfl (by kernel_rfl) ?_
                    refine loose_anc 5 rfl (by kernel_rfl) ?_
                    refine loose_anc 4 rfl (by kernel_rfl) ?_
                    refine loose_anc 2 rfl (by kernel_rfl) ?_
                    refine loose_anc 1 rfl (by kernel_rfl) ?_
                    refine loose_anc 0 rfl (by kernel_rfl) ?_
                    exact loose_nil
                  refine afl_end ?_
                  refine aw_region ?_
                  refine al_op (op_add rfl rfl (by first | exact wrap_i64 (by omega) (by omega))) rfl (by simp) ?_
                  refine al_op (op_move rfl) rfl (by simp) ?_
                  refine al_nil ?_
                  refine ⟨⟨q.i + 1, ver179, ver183, vg155, (q.s.or (litM q.made (l.getD q.i default).a) (litM q.made (l.getD q.i default).b)).2, q.made ++ [(q.s.or (litM q.made (l.getD q.i default).a) (litM q.made (l.getD q.i default).b)).1.1], q.vals ++ [(boolM q.made q.vals (l.getD q.i default).a) || (boolM q.made q.vals (l.getD q.i default).b)]⟩, ?_, ?_, ?_, ?_, ?_⟩
                  · (show l.length - (q.i + 1) < l.length - q.i; omega)
                  · exact ⟨by show q.i + 1 ≤ l.length; omega, MQ.next hq (k := 1) (by decide) hOr.2.1 hOr.2.2 _ _ _⟩
                  · refine sub_cons (get_as rfl ?_) ?_; rotate_left; exact sub_nil
                    all_goals (first | rfl | (simp; done))
                  · repeat (first | exact subx_refl | exact subx_del | refine subx_put rfl ?_)
                  · rfl
              · have gh9 := h9
                try simp only [decide_eq_true_eq, decide_eq_false_iff_not, Bool.not_eq_true', Bool.not_eq_false', beq_iff_eq, bne_iff_ne, beq_eq_false_iff_ne, bne_eq_false_iff_eq, Bool.or_eq_true, Bool.and_eq_true, Bool.or_eq_false_iff, gt_iff_lt, ge_iff_le] at h9
                refine aw_seq ?_
                refine aw_region ?_
                refine al_op (op_eql rfl rfl) rfl (by simp) ?_
                refine al_op (op_assign rfl) rfl (by simp) ?_
                refine al_nil ?_
                refine aw_cond rfl (fun h12 => ?_) (fun h12 => ?_)
                · have gh12 := h12
                  try simp only [decide_eq_true_eq, decide_eq_false_iff_not, Bool.not_eq_true', Bool.not_eq_false', beq_iff_eq, bne_iff_ne, beq_eq_false_iff_ne, bne_eq_false_iff_eq, Bool.or_eq_true, Bool.and_eq_true, Bool.or_eq_false_iff, gt_iff_lt, ge_iff_le] at h12
                  refine aw_seq ?_
                  refine aw_region ?_
                  refine al_op (op_move rfl) rfl (by simp) ?_
                  refine al_op (op_move rfl) rfl (by simp) ?_
                  refine al_op (op_move rfl) rfl (by simp) ?_
                  (refine al_call into35 rfl rfl rfl (me_m (m_Xor q.s vm q.vg vt vr _ _ hg.ok) rfl rfl rfl) (by simp) ?_; rintro _ _ ⟨vg168, rfl, rfl⟩)
                  refine al_op (op_move rfl) rfl (by simp) ?_
                  refine al_op (op_extract rfl rfl rfl) rfl (by simp) ?_
                  refine al_op (op_extract rfl rfl rfl) rfl (by simp) ?_
                  refine al_op (op_assign rfl) rfl (by simp) ?_
                  refine al_op (op_assign rfl) rfl (by simp) ?_
                  refine al_nil ?_
                  refine aw_region ?_
                  refine al_op (op_move rfl) rfl (by simp) ?_
                  refine al_op (op_move rfl) rfl (by simp) ?_
                  refine al_op (op_bneq Try.underlying4 rfl rfl) rfl (by simp) ?_
                  refine al_op (op_assign rfl) rfl (by simp) ?_
                  refine al_nil ?_
                  refine aw_seq ?_
                  refine aw_seq ?_
                  refine aw_region ?_
                  refine al_op (op_move rfl) rfl (by simp) ?_
                  refine al_op (op_neq rfl rfl) rfl (by simp) ?_
                  refine al_nil ?_
                  refine aw_cond rfl (fun h13 => ?_) (fun h13 => ?_)
                  · have gh13 := h13
                    try simp only [decide_eq_true_eq, decide_eq_false_iff_not, Bool.not_eq_true', Bool.not_eq_false', beq_iff_eq, bne_iff_ne, beq_eq_false_iff_ne, bne_eq_false_iff_eq, Bool.or_eq_true, Bool.and_eq_true, Bool.or_eq_false_iff, gt_iff_lt, ge_iff_le] at h13
                    first | (rw [hAnd.1] at gh13; exact absurd gh13 (by decide)) | (rw [hOr.1] at gh13; exact absurd gh13 (by decide)) | (rw [hXor.1] at gh13; exact absurd gh13 (by decide)) | (rw [hMux.1] at gh13; exact absurd gh13 (by decide))
                  · have gh13 := h13
                    try simp only [decide_eq_true_eq, decide_eq_false_iff_not, Bool.not_eq_true', Bool.not_eq_false', beq_iff_eq, bne_iff_ne, beq_eq_false_iff_ne, bne_eq_false_iff_eq, Bool.or_eq_true, Bool.and_eq_true, Bool.or_eq_false_iff, gt_iff_lt, ge_iff_le] at h13
                    refine aw_skip ?_
                    refine aw_plan [0, 1, 2, 4, 5, 6, 3, 7, 8, 9] (Checked.mixed Try.checked) (by kernel_rfl) ?_
                    first
                      | refine afl_float rfl rfl (opk_of (op_load_rptr Try.underlying54 info54 rfl rfl)) (by simp) ?_
                      | refine afl_float rfl rfl (opk_of (op_load_map Try.underlying54 info54 rfl rfl (by omega) rfl)) (by simp) ?_
                      | refine afl_float rfl rfl (opk_of (op_load_ptr Try.underlying54 info54 rfl rfl rfl rfl)) (by simp) ?_
                    refine afl_float rfl rfl (opk_of (op_move rfl)) (by simp) ?_
                    refine afl_float rfl rfl (opk_of (op_buildSlice Try.underlying54 info3 rfl rfl (by decide) rfl (by decide) rfl (by first | rfl | (repeat (first | exact parts_nil | refine parts_cons rfl (by repeat (first | exact all_live_nil | refine all_live_clo rfl ?_ | refine all_live_slice rfl ?_ | refine all_live_map rfl ?_ | refine all_live_ptr rfl ?_)) ?_))) rfl rfl rfl)) (by simp) ?_
                    first
                      | refine afl_float rfl rfl (opk_of (op_load_rptr Try.underlying64 info64 rfl rfl)) (by simp) ?_
                      | refine afl_float rfl rfl (opk_of (op_load_map Try.underlying64 info64 rfl rfl (by omega) rfl)) (by simp) ?_
                      | refine afl_float rfl rfl (opk_of (op_load_ptr Try.underlying64 info64 rfl rfl rfl rfl)) (by simp) ?_
                    refine afl_float rfl rfl (opk_of (op_move rfl)) (by simp) ?_
                    refine afl_float rfl rfl (opk_of (op_buildSlice Try.underlying64 info4 rfl rfl (by decide) rfl (by decide) rfl (by first | rfl | (repeat (first | exact parts_nil | refine parts_cons rfl (by repeat (first | exact all_live_nil | refine all_live_clo rfl ?_ | refine all_live_slice rfl ?_ | refine all_live_map rfl ?_ | refine all_live_ptr rfl ?_)) ?_))) rfl rfl rfl)) (by simp) ?_
                    first
                      | (refine afl_effR rfl rfl (by kernel_rfl) (op_append_one _ Try.underlying54 Try.underlying54 rfl info3 rfl rfl (by decide) rfl rfl rfl (by first | rfl | simp) rfl rfl (by first | omega | (simp; done) | (simp; omega)) (by show _ * 8 ≤ _; first | omega | (simp; done) | (simp; omega))) (by simp) ?_; rintro _ _ ⟨ver179, rfl, rfl⟩; refine ⟨?_, ?_⟩)
                      | (refine afl_effR rfl rfl (by kernel_rfl) (op_append_map Try.underlying54 Try.underlying54 rfl info3 rfl rfl (by decide) rfl rfl rfl (by first | rfl | simp) rfl (by first | exact .list _ | exact .vnil | exact .nil | exact .row _ _ _ _ rfl (by first | rfl | simp)) rfl (by first | omega | (simp; done) | (simp; omega)) (by show _ * 8 ≤ _; first | omega | (simp; done) | (simp; omega))) (by simp) ?_; rintro _ _ ⟨ver179, rfl, rfl⟩; refine ⟨?_, ?_⟩)
                    ·
                      refine loose_k rfl (opk_of (op_buildSlice Try.underlying64 info4 rfl rfl (by decide) rfl (by decide) rfl (by first | rfl | (repeat (first | exact parts_nil | refine parts_cons rfl (by repeat (first | exact all_live_nil | refine all_live_clo rfl ?_ | refine all_live_slice rfl ?_ | refine all_live_map rfl ?_ | refine all_live_ptr rfl ?_)) ?_))) rfl rfl rfl)) ?_
                      refine loose_k rfl (opk_of (op_move rfl)) ?_
                      first
                        | refine loose_k rfl (opk_of (op_load_rptr Try.underlying64 info64 rfl rfl)) ?_
                        | refine loose_k rfl (opk_of (op_load_map Try.underlying64 info64 rfl rfl (by omega) rfl)) ?_
                        | refine loose_k rfl (opk_of (op_load_ptr Try.underlying64 info64 rfl rfl rfl rfl)) ?_
                      refine loose_anc 2 rfl (by kernel_rfl) ?_
                      refine loose_anc 1 rfl (by kernel_rfl) ?_
                      refine loose_anc 0 rfl (by kernel_rfl) ?_
                      exact loose_nil
                    first
                      | (refine afl_effR rfl rfl (by kernel_rfl) (op_append_one _ Try.underlying64 Try.underlying64 rfl info4 rfl rfl (by decide) rfl rfl rfl (by first | rfl | simp) rfl rfl (by first | omega | (simp; done) | (simp; omega)) (by show _ * 1 ≤ _; first | omega | (simp; done) | (simp; omega))) (by simp) ?_; rintro _ _ ⟨ver183, rfl, rfl⟩; refine ⟨?_, ?_⟩)
                      | (refine afl_effR rfl rfl (by kernel_rfl) (op_append_map Try.underlying64 Try.underlying64 rfl info4 rfl rfl (by decide) rfl rfl rfl (by first | rfl | simp) rfl (by first | exact .list _ | exact .vnil | exact .nil | exact .row _ _ _ _ rfl (by first | rfl | simp)) rfl (by first | omega | (simp; done) | (simp; omega)) (by show _ * 1 ≤ _; first | omega | (simp; done) | (simp; omega))) (by simp) ?_; rintro _ _ ⟨ver183, rfl, rfl⟩; refine ⟨?_, ?_⟩)
                    ·
                      refine loose_anc 3 rfl (by kernel_rfl) ?_
                      refine loose_anc 6 rfl (by kernel_rfl) ?_
                      refine loose_anc 5 rfl (by kernel_rfl) ?_
                      refine loose_anc 4 rfl (by kernel_rfl) ?_
                      refine loose_anc 2 rfl (by kernel_rfl) ?_
                      refine loose_anc 1 rfl (by kernel_rfl) ?_
                      refine loose_anc 0 rfl (by kernel_rfl) ?_
                      exact loose_nil
                    first
                      | (refine afl_eff rfl rfl (by kernel_rfl) (op_store_ptr info54 rfl rfl rfl rfl rfl rfl (by first | rfl | exact live_one rfl | (repeat (first | exact all_live_nil | refine all_live_clo rfl ?_ | refine all_live_slice rfl ?_ | refine all_live_map rfl ?_ | refine all_live_ptr rfl ?_))) (by decide)) (by simp) ?_ ?_)
                      | (refine afl_eff rfl rfl (by kernel_rfl) (op_store_ptr info54 rfl rfl rfl rfl rfl rfl (by first | rfl | exact live_one rfl | (repeat (first | exact all_live_nil | refine all_live_clo rfl ?_ | refine all_live_slice rfl ?_ | refine all_live_map rfl ?_ | refine all_live_ptr rfl ?_))) (Nat.le_of_ble_eq_true rfl)) (by simp) ?_ ?_)
                    ·
                      refine loose_anc 7 rfl (by kernel_rfl) ?_
                      refine loose_anc 3 rfl (by kernel_rfl) ?_
                      refine loose_anc 6 rfl (by kernel_rfl) ?_
                      refine loose_anc 5 rfl (by kernel_rfl) ?_
                      refine loose_anc 4 rfl (by kernel_rfl) ?_
                      refine loose_anc 2 rfl (by kernel_rfl) ?_
                      refine loose_anc 1 rfl (by kernel_rfl) ?_
                      refine loose_anc 0 rfl (by kernel_rfl) ?_
                      exact loose_nil
                    first
                      | (refine afl_eff rfl rfl (by kernel_rfl) (op_store_ptr info64 rfl rfl rfl rfl rfl rfl (by first | rfl | exact live_one rfl | (repeat (first | exact all_live_nil | refine all_live_clo rfl ?_ | refine all_live_slice rfl ?_ | refine all_live_map rfl ?_ | refine all_live_ptr rfl ?_))) (by decide)) (by simp) ?_ ?_)
                      | (refine afl_eff rfl rfl (by kernel_rfl) (op_store_ptr info64 rfl rfl rfl rfl rfl rfl (by first | rfl | exact live_one rfl | (repeat (first | exact all_live_nil | refine all_live_clo rfl ?_ | refine all_live_slice rfl ?_ | refine all_live_map rfl ?_ | refine all_live_ptr rfl ?_))) (Nat.le_of_ble_eq_true rfl)) (by simp) ?_ ?_)
                    ·
                      refine loose_anc 8 rfl (by kernel_rfl) ?_
                      refine loose_anc 7 rfl (by kernel_rfl) ?_
                      refine loose_anc 3 rfl (by kernel_rfl) ?_
                      refine loose_anc 6 rfl (by kernel_rfl) ?_
                      refine loose_anc 5 rfl (by kernel_rfl) ?_
                      refine loose_anc 4 rfl (by kernel_rfl) ?_
                      refine loose_anc 2 rfl (by kernel_rfl) ?_
                      refine loose_anc 1 rfl (by kernel_rfl) ?_
                      refine loose_anc 0 rfl (by kernel_rfl) ?_
                      exact loose_nil
                    refine afl_end ?_
                    refine aw_region ?_
                    refine al_op (op_add rfl rfl (by first | exact wrap_i64 (by omega) (by omega))) rfl (by simp) ?_
                    refine al_op (op_move rfl) rfl (by simp) ?_
                    refine al_nil ?_
                    refine ⟨⟨q.i + 1, ver179, ver183, vg168, (q.s.xor (litM q.made (l.getD q.i default).a) (litM q.made (l.getD q.i default).b)).2, q.made ++ [(q.s.xor (litM q.made (l.getD q.i default).a) (litM q.made (l.getD q.i default).b)).1.1], q.vals ++ [(boolM q.made q.vals (l.getD q.i default).a) != (boolM q.made q.vals (l.getD q.i default).b)]⟩, ?_, ?_, ?_, ?_, ?_⟩
                    · (show l.length - (q.i + 1) < l.length - q.i; omega)
                    · exact ⟨by show q.i + 1 ≤ l.length; omega, MQ.next hq (k := 3) (by decide) hXor.2.1 hXor.2.2 _ _ _⟩
                    · refine sub_cons (get_as rfl ?_) ?_; rotate_left; exact sub_nil
                      all_goals (first | rfl | (simp; done))
                    · repeat (first | exact subx_refl | exact subx_del | refine subx_put rfl ?_)
                    · rfl
                · have gh12 := h12
                  try simp only [decide_eq_true_eq, decide_eq_false_iff_not, Bool.not_eq_true', Bool.not_eq_false', beq_iff_eq, bne_iff_ne, beq_eq_false_iff_ne, bne_eq_false_iff_eq, Bool.or_eq_true, Bool.and_eq_true, Bool.or_eq_false_iff, gt_iff_lt, ge_iff_le] at h12
                  refine aw_seq ?_
                  refine aw_region ?_
                  refine al_op (op_move rfl) rfl (by simp) ?_
                  refine al_op (op_move rfl) rfl (by simp) ?_
                  refine al_op (op_move rfl) rfl (by simp) ?_
                  refine al_op (op_move rfl) rfl (by simp) ?_
                  (refine al_call into37 rfl rfl rfl (me_m (m_Mux q.s vm q.vg vt vr _ _ _ hg.ok) rfl rfl rfl) (by simp) ?_; rintro _ _ ⟨vg122, rfl, rfl⟩)
                  refine al_op (op_move rfl) rfl (by simp) ?_
                  refine al_op (op_extract rfl rfl rfl) rfl (by simp) ?_
                  refine al_op (op_extract rfl rfl rfl) rfl (by simp) ?_
                  refine al_op (op_assign rfl) rfl (by simp) ?_
                  refine al_op (op_assign rfl) rfl (by simp) ?_
                  refine al_nil ?_
                  refine aw_region ?_
                  refine al_op (op_move rfl) rfl (by simp) ?_
                  refine al_op (op_move rfl) rfl (by simp) ?_
                  apply al_and 2 126 128 rfl
                  · intro h14; have gh14 := h14
                    try simp only [decide_eq_true_eq, decide_eq_false_iff_not, Bool.not_eq_true', Bool.not_eq_false', beq_iff_eq, bne_iff_ne, beq_eq_false_iff_ne, bne_eq_false_iff_eq, Bool.or_eq_true, Bool.and_eq_true, Bool.or_eq_false_iff, gt_iff_lt, ge_iff_le] at h14
                    refine al_take (op_move rfl) rfl rfl rfl rfl (by simp) ?_
                    first
                      | refine al_op (op_pick rfl rfl) rfl (by simp) ?_
                      | refine al_op (op_and rfl rfl rfl) rfl (by simp) ?_
                    refine al_nil ⟨rfl, rfl, rfl, keep_of ?_⟩
                    repeat (first | exact subx_refl | exact subx_known rfl gh14 subx_refl | refine subx_put rfl ?_)
                  · intro h14; have gh14 := h14
                    try simp only [decide_eq_true_eq, decide_eq_false_iff_not, Bool.not_eq_true', Bool.not_eq_false', beq_iff_eq, bne_iff_ne, beq_eq_false_iff_ne, bne_eq_false_iff_eq, Bool.or_eq_true, Bool.and_eq_true, Bool.or_eq_false_iff, gt_iff_lt, ge_iff_le] at h14
                    refine al_pass rfl rfl rfl rfl (by simp) ?_
                    first
                      | refine al_op (op_pick rfl rfl) rfl (by simp) ?_
                      | refine al_op (op_and rfl rfl rfl) rfl (by simp) ?_
                    refine al_nil ⟨rfl, rfl, rfl, keep_of ?_⟩
                    repeat (first | exact subx_refl | exact subx_known rfl gh14 subx_refl | refine subx_put rfl ?_)
                  refine al_op (op_move rfl) rfl (by simp) ?_
                  apply al_or 6 129 135 rfl
                  · intro h15; have gh15 := h15
                    try simp only [decide_eq_true_eq, decide_eq_false_iff_not, Bool.not_eq_true', Bool.not_eq_false', beq_iff_eq, bne_iff_ne, beq_eq_false_iff_ne, bne_eq_false_iff_eq, Bool.or_eq_true, Bool.and_eq_true, Bool.or_eq_false_iff, gt_iff_lt, ge_iff_le] at h15
                    refine al_take (op_move rfl) rfl rfl rfl rfl (by simp) ?_
                    refine al_take (op_not rfl) rfl rfl rfl rfl (by simp) ?_
                    refine al_take (op_move rfl) rfl rfl rfl rfl (by simp) ?_
                    apply al_and 2 132 134 rfl
                    · intro h16; have gh16 := h16
                      try simp only [decide_eq_true_eq, decide_eq_false_iff_not, Bool.not_eq_true', Bool.not_eq_false', beq_iff_eq, bne_iff_ne, beq_eq_false_iff_ne, bne_eq_false_iff_eq, Bool.or_eq_true, Bool.and_eq_true, Bool.or_eq_false_iff, gt_iff_lt, ge_iff_le] at h16
                      refine al_take (op_move rfl) rfl rfl rfl rfl (by simp) ?_
                      first
                        | refine al_take (op_pick rfl rfl) rfl rfl rfl rfl (by simp) ?_
                        | refine al_take (op_and rfl rfl rfl) rfl rfl rfl rfl (by simp) ?_
                      refine al_nil ⟨rfl, rfl, rfl, keep_of ?_⟩
                      repeat (first | exact subx_refl | exact subx_known rfl gh16 subx_refl | refine subx_put rfl ?_)
                    · intro h16; have gh16 := h16
                      try simp only [decide_eq_true_eq, decide_eq_false_iff_not, Bool.not_eq_true', Bool.not_eq_false', beq_iff_eq, bne_iff_ne, beq_eq_false_iff_ne, bne_eq_false_iff_eq, Bool.or_eq_true, Bool.and_eq_true, Bool.or_eq_false_iff, gt_iff_lt, ge_iff_le] at h16
                      refine al_pass rfl rfl rfl rfl (by simp) ?_
                      first
                        | refine al_take (op_pick rfl rfl) rfl rfl rfl rfl (by simp) ?_
                        | refine al_take (op_and rfl rfl rfl) rfl rfl rfl rfl (by simp) ?_
                      refine al_nil ⟨rfl, rfl, rfl, keep_of ?_⟩
                      repeat (first | exact subx_refl | exact subx_known rfl gh16 subx_refl | refine subx_put rfl ?_)
                    first
                      | refine al_op (op_pick rfl rfl) rfl (by simp) ?_
                      | refine al_op (op_or rfl rfl rfl) rfl (by simp) ?_
                    refine al_nil ⟨rfl, rfl, rfl, keep_of ?_⟩
                    repeat (first | exact subx_refl | exact subx_known rfl gh15 subx_refl | refine subx_put rfl ?_)
                  · intro h15; have gh15 := h15
                    try simp only [decide_eq_true_eq, decide_eq_false_iff_not, Bool.not_eq_true', Bool.not_eq_false', beq_iff_eq, bne_iff_ne, beq_eq_false_iff_ne, bne_eq_false_iff_eq, Bool.or_eq_true, Bool.and_eq_true, Bool.or_eq_false_iff, gt_iff_lt, ge_iff_le] at h15
                    refine al_pass rfl rfl rfl rfl (by simp) ?_
                    refine al_pass rfl rfl rfl rfl (by simp) ?_
                    refine al_pass rfl rfl rfl rfl (by simp) ?_
                    refine al_pass_undef rfl rfl rfl rfl (by simp) ?_
                    refine al_pass rfl rfl rfl rfl (by simp) ?_
                    first
                      | refine al_op (op_pick rfl rfl) rfl (by simp) ?_
                      | refine al_op (op_or rfl rfl rfl) rfl (by simp) ?_
                    refine al_nil ⟨rfl, rfl, rfl, keep_of ?_⟩
                    repeat (first | exact subx_refl | exact subx_known rfl gh15 subx_refl | refine subx_put rfl ?_)
                  refine al_op (op_assign rfl) rfl (by simp) ?_
                  refine al_nil ?_
                  refine aw_seq ?_
                  refine aw_seq ?_
                  refine aw_region ?_
                  refine al_op (op_move rfl) rfl (by simp) ?_
                  refine al_op (op_neq rfl rfl) rfl (by simp) ?_
                  refine al_nil ?_
                  refine aw_cond rfl (fun h17 => ?_) (fun h17 => ?_)
                  · have gh17 := h17
                    try simp only [decide_eq_true_eq, decide_eq_false_iff_not, Bool.not_eq_true', Bool.not_eq_false', beq_iff_eq, bne_iff_ne, beq_eq_false_iff_ne, bne_eq_false_iff_eq, Bool.or_eq_true, Bool.and_eq_true, Bool.or_eq_false_iff, gt_iff_lt, ge_iff_le] at h17
                    first | (rw [hAnd.1] at gh17; exact absurd gh17 (by decide)) | (rw [hOr.1] at gh17; exact absurd gh17 (by decide)) | (rw [hXor.1] at gh17; exact absurd gh17 (by decide)) | (rw [hMux.1] at gh17; exact absurd gh17 (by decide))
                  · have gh17 := h17
                    try simp only [decide_eq_true_eq, decide_eq_false_iff_not, Bool.not_eq_true', Bool.not_eq_false', beq_iff_eq, bne_iff_ne, beq_eq_false_iff_ne, bne_eq_false_iff_eq, Bool.or_eq_true, Bool.and_eq_true, Bool.or_eq_false_iff, gt_iff_lt, ge_iff_le] at h17
                    refine aw_skip ?_
                    refine aw_plan [0, 1, 2, 4, 5, 6, 3, 7, 8, 9] (Checked.mixed Try.checked) (by kernel_rfl) ?_
                    first
                      | refine afl_float rfl rfl (opk_of (op_load_rptr Try.underlying54 info54 rfl rfl)) (by simp) ?_
                      | refine afl_float rfl rfl (opk_of (op_load_map Try.underlying54 info54 rfl rfl (by omega) rfl)) (by simp) ?_
                      | refine afl_float rfl rfl (opk_of (op_load_ptr Try.underlying54 info54 rfl rfl rfl rfl)) (by simp) ?_
                    refine afl_float rfl rfl (opk_of (op_move rfl)) (by simp) ?_
                    refine afl_float rfl rfl (opk_of (op_buildSlice Try.underlying54 info3 rfl rfl (by decide) rfl (by decide) rfl (by first | rfl | (repeat (first | exact parts_nil | refine parts_cons rfl (by repeat (first | exact all_live_nil | refine all_live_clo rfl ?_ | refine all_live_slice rfl ?_ | refine all_live_map rfl ?_ | refine all_live_ptr rfl ?_)) ?_))) rfl rfl rfl)) (by simp) ?_
                    first
                      | refine afl_float rfl rfl (opk_of (op_load_rptr Try.underlying64 info64 rfl rfl)) (by simp) ?_
                      | refine afl_float rfl rfl (opk_of (op_load_map Try.underlying64 info64 rfl rfl (by omega) rfl)) (by simp) ?_
                      | refine afl_float rfl rfl (opk_of (op_load_ptr Try.underlying64 info64 rfl rfl rfl rfl)) (by simp) ?_
                    refine afl_float rfl rfl (opk_of (op_move rfl)) (by simp) ?_
                    refine afl_float rfl rfl (opk_of (op_buildSlice Try.underlying64 info4 rfl rfl (by decide) rfl (by decide) rfl (by first | rfl | (repeat (first | exact parts_nil | refine parts_cons rfl (by repeat (first | exact all_live_nil | refine all_live_clo rfl ?_ | refine all_live_slice rfl ?_ | refine all_live_map rfl ?_ | refine all_live_ptr rfl ?_)) ?_))) rfl rfl rfl)) (by simp) ?_
                    first
                      | (refine afl_effR rfl rfl (by kernel_rfl) (op_append_one _ Try.underlying54 Try.underlying54 rfl info3 rfl rfl (by decide) rfl rfl rfl (by first | rfl | simp) rfl rfl (by first | omega | (simp; done) | (simp; omega)) (by show _ * 8 ≤ _; first | omega | (simp; done) | (simp; omega))) (by simp) ?_; rintro _ _ ⟨ver179, rfl, rfl⟩; refine ⟨?_, ?_⟩)
                      | (refine afl_effR rfl rfl (by kernel_rfl) (op_append_map Try.underlying54 Try.underlying54 rfl info3 rfl rfl (by decide) rfl rfl rfl (by first | rfl | simp) rfl (by first | exact .list _ | exact .vnil | exact .nil | exact .row _ _ _ _ rfl (by first | rfl | simp)) rfl (by first | omega | (simp; done) | (simp; omega)) (by show _ * 8 ≤ _; first | omega | (simp; done) | (simp; omega))) (by simp) ?_; rintro _ _ ⟨ver179, rfl, rfl⟩; refine ⟨?_, ?_⟩)
                    ·
                      refine loose_k rfl (opk_of (op_buildSlice Try.underlying64 info4 rfl rfl (by decide) rfl (by decide) rfl (by first | rfl | (repeat (first | exact parts_nil | refine parts_cons rfl (by repeat (first | exact all_live_nil | refine all_live_clo rfl ?_ | refine all_live_slice rfl ?_ | refine all_live_map rfl ?_ | refine all_live_ptr rfl ?_)) ?_))) rfl rfl rfl)) ?_
                      refine loose_k rfl (opk_of (op_move rfl)) ?_
                      first
                        | refine loose_k rfl (opk_of (op_load_rptr Try.underlying64 info64 rfl rfl)) ?_
                        | refine loose_k rfl (opk_of (op_load_map Try.underlying64 info64 rfl rfl (by omega) rfl)) ?_
                        | refine loose_k rfl (opk_of (op_load_ptr Try.underlying64 info64 rfl rfl rfl rfl)) ?_
                      refine loose_anc 2 rfl (by kernel_rfl) ?_
                      refine loose_anc 1 rfl (by kernel_rfl) ?_
                      refine loose_anc 0 rfl (by kernel_rfl) ?_
                      exact loose_nil
                    first
                      | (refine afl_effR rfl rfl (by kernel_rfl) (op_append_one _ Try.underlying64 Try.underlying64 rfl info4 rfl rfl (by decide) rfl rfl rfl (by first | rfl | simp) rfl rfl (by first | omega | (simp; done) | (simp; omega)) (by show _ * 1 ≤ _; first | omega | (simp; done) | (simp; omega))) (by simp) ?_; rintro _ _ ⟨ver183, rfl, rfl⟩; refine ⟨?_, ?_⟩)
                      | (refine afl_effR rfl rfl (by kernel_rfl) (op_append_map Try.underlying64 Try.underlying64 rfl info4 rfl rfl (by decide) rfl rfl rfl (by first | rfl | simp) rfl (by first | exact .list _ | exact .vnil | exact .nil | exact .row _ _ _ _ rfl (by first | rfl | simp)) rfl (by first | omega | (simp; done) | (simp; omega)) (by show _ * 1 ≤ _; first | omega | (simp; done) | (simp; omega))) (by simp) ?_; rintro _ _ ⟨ver183, rfl, rfl⟩; refine ⟨?_, ?_⟩)
                    ·
                      refine loose_anc 3 rfl (by kernel_rfl) ?_
                      refine loose_anc 6 rfl (by kernel_rfl) ?_
                      refine loose_anc 5 rfl (by kernel_rfl) ?_
                      refine loose_anc 4 rfl (by kernel_rfl) ?_
                      refine loose_anc 2 rfl (by kernel_rfl) ?_
                      refine loose_anc 1 rfl (by kernel_rfl) ?_
                      refine loose_anc 0 rfl (by kernel_rfl) ?_
                      exact loose_nil
                    first
                      | (refine afl_eff rfl rfl (by kernel_rfl) (op_store_ptr info54 rfl rfl rfl rfl rfl rfl (by first | rfl | exact live_one rfl | (repeat (first | exact all_live_nil | refine all_live_clo rfl ?_ | refine all_live_slice rfl ?_ | refine all_live_map rfl ?_ | refine all_live_ptr rfl ?_))) (by decide)) (by simp) ?_ ?_)
                      | (refine afl_eff rfl rfl (by kernel_rfl) (op_store_ptr info54 rfl rfl rfl rfl rfl rfl (by first | rfl | exact live_one rfl | (repeat (first | exact all_live_nil | refine all_live_clo rfl ?_ | refine all_live_slice rfl ?_ | refine all_live_map rfl ?_ | refine all_live_ptr rfl ?_))) (Nat.le_of_ble_eq_true rfl)) (by simp) ?_ ?_)
                    ·
                      refine loose_anc 7 rfl (by kernel_rfl) ?_
                      refine loose_anc 3 rfl (by kernel_rfl) ?_
                      refine loose_anc 6 rfl (by kernel_rfl) ?_
                      refine loose_anc 5 rfl (by kernel_rfl) ?_
                      refine loose_anc 4 rfl (by kernel_rfl) ?_
                      refine loose_anc 2 rfl (by kernel_rfl) ?_
                      refine loose_anc 1 rfl (by kernel_rfl) ?_
                      refine loose_anc 0 rfl (by kernel_rfl) ?_
                      exact loose_nil
                    first
                      | (refine afl_eff rfl rfl (by kernel_rfl) (op_store_ptr info64 rfl rfl rfl rfl rfl rfl (by first | rfl | exact live_one rfl | (repeat (first | exact all_live_nil | refine all_live_clo rfl ?_ | refine all_live_slice rfl ?_ | refine all_live_map rfl ?_ | refine all_live_ptr rfl ?_))) (by decide)) (by simp) ?_ ?_)
                      | (refine afl_eff rfl rfl (by kernel_rfl) (op_store_ptr info64 rfl rfl rfl rfl rfl rfl (by first | rfl | exact live_one rfl | (repeat (first | exact all_live_nil | refine all_live_clo rfl ?_ | refine all_live_slice rfl ?_ | refine all_live_map rfl ?_ | refine all_live_ptr rfl ?_))) (Nat.le_of_ble_eq_true rfl)) (by simp) ?_ ?_)
                    ·
                      refine loose_anc 8 rfl (by kernel_rfl) ?_
                      refine loose_anc 7 rfl (by kernel_rfl) ?_
                      refine loose_anc 3 rfl (by kernel_rfl) ?_
                      refine loose_anc 6 rfl (by kernel_rfl) ?_
                      refine loose_anc 5 rfl (by kernel_rfl) ?_
                      refine loose_anc 4 rfl (by kernel_rfl) ?_
                      refine loose_anc 2 rfl (by kernel_rfl) ?_
                      refine loose_anc 1 rfl (by kernel_rfl) ?_
                      refine loose_anc 0 rfl (by kernel_rfl) ?_
                      exact loose_nil
                    refine afl_end ?_
                    refine aw_region ?_
                    refine al_op (op_add rfl rfl (by first | exact wrap_i64 (by omega) (by omega))) rfl (by simp) ?_
                    refine al_op (op_move rfl) rfl (by simp) ?_
                    refine al_nil ?_
                    refine ⟨⟨q.i + 1, ver179, ver183, vg122, (q.s.mux (litM q.made (l.getD q.i default).a) (litM q.made (l.getD q.i default).b) (litM q.made (l.getD q.i default).c)).2, q.made ++ [(q.s.mux (litM q.made (l.getD q.i default).a) (litM q.made (l.getD q.i default).b) (litM q.made (l.getD q.i default).c)).1.1], q.vals ++ [((boolM q.made q.vals (l.getD q.i default).a) && (boolM q.made q.vals (l.getD q.i default).b)) || (!(boolM q.made q.vals (l.getD q.i default).a) && (boolM q.made q.vals (l.getD q.i default).c))]⟩, ?_, ?_, ?_, ?_, ?_⟩
                    · (show l.length - (q.i + 1) < l.length - q.i; omega)
                    · exact ⟨by show q.i + 1 ≤ l.length; omega, MQ.next hq (k := 3) (by decide) hMux.2.1 hMux.2.2 _ _ _⟩
                    · refine sub_cons (get_as rfl ?_) ?_; rotate_left; exact sub_nil
                      all_goals (first | rfl | (simp; done))
                    · repeat (first | exact subx_refl | exact subx_del | refine subx_put rfl ?_)
                    · rfl
          · have gh5 := h5
            try simp only [decide_eq_true_eq, decide_eq_false_iff_not, Bool.not_eq_true', Bool.not_eq_false', beq_iff_eq, bne_iff_ne, beq_eq_false_iff_ne, bne_eq_false_iff_eq, Bool.or_eq_true, Bool.and_eq_true, Bool.or_eq_false_iff, gt_iff_lt, ge_iff_le] at h5
            refine aw_exit ?_
            have hqi : q.i = l.length := by omega
            refine aw_seq ?_
            refine aw_region ?_
            refine al_op (op_assign rfl) rfl (by simp) ?_
            refine al_nil ?_
            refine aw_seq ?_
            refine aw_seq ?_
            refine aw_region ?_
            first
              | refine al_op (op_load_rptr Try.underlying54 info54 rfl rfl) rfl (by simp) ?_
              | refine al_op (op_load_map Try.underlying54 info54 rfl rfl (by omega) rfl) rfl (by simp) ?_
              | refine al_op (op_load_ptr Try.underlying54 info54 rfl rfl rfl rfl) rfl (by simp) ?_
            first
              | refine al_op (op_len_map Try.underlying54 rfl) rfl (by simp) ?_
              | refine al_op (op_len_slice Try.underlying54 rfl rfl) rfl (by simp) ?_
              | refine al_op (op_len_list Try.underlying54 rfl) rfl (by simp) ?_
              | refine al_op (op_len_v Try.underlying54 rfl) rfl (by simp) ?_
              | refine al_op (op_len_nil Try.underlying54 rfl) rfl (by simp) ?_
            refine al_op (op_move rfl) rfl (by simp) ?_
            refine al_nil ?_
            refine aw_block ?_
            apply aw_only
            ·
              (first | apply sub_cons (t := 6) rfl | skip)
              (first | apply sub_cons (t := 10) rfl | skip)
              (first | apply sub_cons (t := 12) rfl | skip)
              (first | apply sub_cons (t := 13) rfl | skip)
              (first | apply sub_cons (t := 14) rfl | skip)
              (first | apply sub_cons (t := 28) rfl | skip)
              (first | apply sub_cons (t := 186) rfl | skip)
              (first | apply sub_cons (t := 187) rfl | skip)
              exact sub_nil
            refine aw_own_map encP 28 2 28 rfl rfl (fun ver28 => ?_)
            refine aw_for2T (α := Nat) (β := Nat) [28, 187] [] (fun j ver => q.made.length - j) (fun j ver => j ≤ q.made.length) (fun j ver => ([(28, .slice 28 ver 0 (pinsM q.made j).length), (187, .v (.int .i64 (j)))] : Env)) (fun j ver st => st.put 28 ver (.row 2 ((pinsM q.made j).map encP))) (0) (ver28) ?_ ?_ ?_ (fun j ver hinv => ?_)
            · exact Nat.zero_le _
            · refine sub_cons (get_as rfl ?_) ?_; rotate_left; refine sub_cons (get_as rfl ?_) ?_; rotate_left; exact sub_nil
              all_goals (first | rfl | (simp; done) | (rw [pinsM_succ] <;> rfl))
            · rfl
            have hpl := pinsM_length q.made j
            refine aw_seq ?_
            refine aw_region ?_
            refine al_op (op_lss rfl rfl) rfl (by simp) ?_
            refine al_nil ?_
            refine aw_seq ?_
            refine aw_cond rfl (fun h18 => ?_) (fun h18 => ?_)
            · have gh18 := h18
              try simp only [decide_eq_true_eq, decide_eq_false_iff_not, Bool.not_eq_true', Bool.not_eq_false', beq_iff_eq, bne_iff_ne, beq_eq_false_iff_ne, bne_eq_false_iff_eq, Bool.or_eq_true, Bool.and_eq_true, Bool.or_eq_false_iff, gt_iff_lt, ge_iff_le] at h18
              refine aw_skip ?_
              refine aw_seq ?_
              refine aw_block ?_
              refine aw_seq ?_
              refine aw_region ?_
              refine al_op (op_move rfl) rfl (by simp) ?_
              refine al_op (op_assign rfl) rfl (by simp) ?_
              refine al_nil ?_
              have w0 : (ByteArray.mk #[111]).size = 1 := rfl
              have w1 := enc_size (48 + (j : Int) / 100)
              have w2 := enc_size (48 + (j : Int) / 10 % 10)
              have w3 := enc_size (48 + (j : Int) % 10)
              have w4 : (ByteArray.mk #[111] ++ Utf8.encode (48 + (j : Int) / 100)).size ≤ 5 := (pin_sizes j).1
              have w5 : ((ByteArray.mk #[111] ++ Utf8.encode (48 + (j : Int) / 100)) ++ Utf8.encode (48 + (j : Int) / 10 % 10)).size ≤ 9 := (pin_sizes j).2.1
              refine aw_region ?_
              refine al_op (op_move rfl) rfl (by simp) ?_
              refine al_op (op_move rfl) rfl (by simp) ?_
              refine al_op (op_quo rfl rfl (by omega) (quo_nn (by omega) (by omega) (by omega))) rfl (by simp) ?_
              refine al_op (op_add rfl rfl (by first | exact wrap_i64 (by omega) (by omega))) rfl (by simp) ?_
              refine al_op (op_conv Try.underlying3 Try.underlying21 rfl (wrap_i32 (by omega) (by omega))) rfl (by simp) ?_
              refine al_op (op_runestr Try.underlying21 Try.underlying9 rfl) rfl (by simp) ?_
              refine al_op (op_sadd rfl rfl (by omega)) rfl (by simp) ?_
              refine al_op (op_move rfl) rfl (by simp) ?_
              refine al_op (op_quo rfl rfl (by omega) (quo_nn (by omega) (by omega) (by omega))) rfl (by simp) ?_
              first
                | refine al_op (op_rem rfl rfl (by omega) (rem_nn (by omega))) rfl (by simp) ?_
                | refine al_op (op_rem rfl rfl (by omega) rfl) rfl (by simp) ?_
              refine al_op (op_add rfl rfl (by first | exact wrap_i64 (by omega) (by omega))) rfl (by simp) ?_
              refine al_op (op_conv Try.underlying3 Try.underlying21 rfl (wrap_i32 (by omega) (by omega))) rfl (by simp) ?_
              refine al_op (op_runestr Try.underlying21 Try.underlying9 rfl) rfl (by simp) ?_
              refine al_op (op_sadd rfl rfl (by omega)) rfl (by simp) ?_
              refine al_op (op_move rfl) rfl (by simp) ?_
              first
                | refine al_op (op_rem rfl rfl (by omega) (rem_nn (by omega))) rfl (by simp) ?_
                | refine al_op (op_rem rfl rfl (by omega) rfl) rfl (by simp) ?_
              refine al_op (op_add rfl rfl (by first | exact wrap_i64 (by omega) (by omega))) rfl (by simp) ?_
              refine al_op (op_conv Try.underlying3 Try.underlying21 rfl (wrap_i32 (by omega) (by omega))) rfl (by simp) ?_
              refine al_op (op_runestr Try.underlying21 Try.underlying9 rfl) rfl (by simp) ?_
              refine al_op (op_sadd rfl rfl (by omega)) rfl (by simp) ?_
              first
                | refine al_op (op_load_rptr Try.underlying54 info54 rfl rfl) rfl (by simp) ?_
                | refine al_op (op_load_map Try.underlying54 info54 rfl rfl (by omega) rfl) rfl (by simp) ?_
                | refine al_op (op_load_ptr Try.underlying54 info54 rfl rfl rfl rfl) rfl (by simp) ?_
              refine al_op (op_move rfl) rfl (by simp) ?_
              first
                | refine al_op (op_index_map default Try.underlying54 info3 rfl rfl rfl (by first | (with_reducible exact Int.toNat_natCast _) | rfl) (by omega) (by omega)) rfl (by simp) ?_
                | refine al_op (op_index_slice Try.underlying54 info3 rfl rfl rfl rfl (by omega) (by omega)) rfl (by simp) ?_
                | refine al_op (op_index_list Try.underlying54 info3 rfl rfl rfl (by decide) rfl) rfl (by simp) ?_
              first
                | refine al_op (op_load_rptr Try.underlying3 info3 rfl rfl) rfl (by simp) ?_
                | refine al_op (op_load_map Try.underlying3 info3 rfl rfl (by omega) rfl) rfl (by simp) ?_
                | refine al_op (op_load_ptr Try.underlying3 info3 rfl rfl rfl rfl) rfl (by simp) ?_
              refine al_op (op_build_struct Try.underlying69 info69 rfl place69 rfl (by first | rfl | (repeat (first | exact parts_nil | refine parts_cons rfl (by repeat (first | exact all_live_nil | refine all_live_clo rfl ?_ | refine all_live_slice rfl ?_ | refine all_live_map rfl ?_ | refine all_live_ptr rfl ?_)) ?_))) rfl) rfl (by simp) ?_
              refine al_op (op_buildSlice Try.underlying25 info69 rfl rfl (by decide) rfl (by decide) rfl (by first | rfl | (repeat (first | exact parts_nil | refine parts_cons rfl (by repeat (first | exact all_live_nil | refine all_live_clo rfl ?_ | refine all_live_slice rfl ?_ | refine all_live_map rfl ?_ | refine all_live_ptr rfl ?_)) ?_))) rfl rfl rfl) rfl (by simp) ?_
              first
                | (refine al_opR (op_append_one (pinS j, q.made.getD (0 + (j : Int).toNat) default) Try.underlying25 Try.underlying25 rfl info69 rfl rfl (by decide) rfl rfl rfl (by first | rfl | simp) rfl rfl (by first | omega | (simp; done) | (simp; omega)) (by show _ * 24 ≤ _; first | omega | (simp; done) | (simp; omega))) rfl (by simp) ?_; rintro _ _ ⟨ver216, rfl, rfl⟩)
                | (refine al_opR (op_append_map Try.underlying25 Try.underlying25 rfl info69 rfl rfl (by decide) rfl rfl rfl (by first | rfl | simp) rfl (by first | exact .list _ | exact .vnil | exact .nil | exact .row _ _ _ _ rfl (by first | rfl | simp)) rfl (by first | omega | (simp; done) | (simp; omega)) (by show _ * 24 ≤ _; first | omega | (simp; done) | (simp; omega))) rfl (by simp) ?_; rintro _ _ ⟨ver216, rfl, rfl⟩)
              refine al_op (op_assign rfl) rfl (by simp) ?_
              refine al_nil ?_
              refine aw_region ?_
              refine al_op (op_add rfl rfl (by first | exact wrap_i64 (by omega) (by omega))) rfl (by simp) ?_
              refine al_op (op_move rfl) rfl (by simp) ?_
              refine al_nil ?_
              refine ⟨j + 1, ver216, ?_, ?_, ?_, ?_, ?_⟩
              · omega
              · omega
              · refine sub_cons (get_as rfl ?_) ?_; rotate_left; refine sub_cons (get_as rfl ?_) ?_; rotate_left; exact sub_nil
                all_goals (first | rfl | (simp; done) | (rw [pinsM_succ] <;> rfl))
              · repeat (first | exact subx_refl | exact subx_del | refine subx_put rfl ?_)
              · (rw [pinsM_succ] <;> rfl)
            · have gh18 := h18
              try simp only [decide_eq_true_eq, decide_eq_false_iff_not, Bool.not_eq_true', Bool.not_eq_false', beq_iff_eq, bne_iff_ne, beq_eq_false_iff_ne, bne_eq_false_iff_eq, Bool.or_eq_true, Bool.and_eq_true, Bool.or_eq_false_iff, gt_iff_lt, ge_iff_le] at h18
              refine aw_exit ?_
              obtain rfl : j = q.made.length := by omega
              refine aw_seq ?_
              refine aw_freeze (fun i => !(Nat.beq i 28)) (fsub_cons (t := 28) rfl (.leaf _ _ (frz_whole rfl rfl (by simp) (clo_map (fun _ => rfl)))) fsub_same) ?_
              obtain ⟨e1, e2, e3, e4⟩ := MQ.law hm8 (bits_01 bl m) hq (by omega)
              have hns : (q.s.net [] (pinsM q.made q.made.length)).1.Small := MS.net_small2 hg (by simp) (MQ.pins hq) (by rw [pinsM_length]; omega)
              refine aw_region ?_
              refine al_op (op_move rfl) rfl (by simp) ?_
              refine al_op (op_move rfl) rfl (by simp) ?_
              refine al_callp into39 rfl rfl rfl (ac_told (re_cons (.leaf _ _ (.same _)) (re_cons (.leaf _ _ (.vnil 1)) (re_cons (.leaf _ _ (.same _)) re_nil))) (me_m_ro (m_Net q.s vm q.vg vt vr [] (pinsM q.made q.made.length) hg (by simp) (by simp) (MQ.pins hq) (by rw [pinsM_length]; omega)) rfl rfl rfl)) (by simp) ?_
              refine al_op (op_move rfl) rfl (by simp) ?_
              refine al_op (op_extract rfl rfl rfl) rfl (by simp) ?_
              refine al_op (op_extract rfl rfl rfl) rfl (by simp) ?_
              (refine al_opR (op_alloc 30 info27 rfl rfl) rfl (by simp) ?_; rintro _ _ ⟨ver30, rfl, rfl⟩)
              first
                | refine al_op (op_store_ptr info27 rfl rfl rfl rfl rfl rfl (by first | rfl | exact live_one rfl | (repeat (first | exact all_live_nil | refine all_live_clo rfl ?_ | refine all_live_slice rfl ?_ | refine all_live_map rfl ?_ | refine all_live_ptr rfl ?_))) (by decide)) rfl (by simp) ?_
                | refine al_op (op_store_ptr info27 rfl rfl rfl rfl rfl rfl (by first | rfl | exact live_one rfl | (repeat (first | exact all_live_nil | refine all_live_clo rfl ?_ | refine all_live_slice rfl ?_ | refine all_live_map rfl ?_ | refine all_live_ptr rfl ?_))) (Nat.le_of_ble_eq_true rfl)) rfl (by simp) ?_
              refine al_op (op_assign rfl) rfl (by simp) ?_
              refine al_nil ?_
              refine aw_seq ?_
              refine aw_region ?_
              first
                | refine al_op (op_load_rptr Try.underlying27 info27 rfl rfl) rfl (by simp) ?_
                | refine al_op (op_load_map Try.underlying27 info27 rfl rfl (by omega) rfl) rfl (by simp) ?_
                | refine al_op (op_load_ptr Try.underlying27 info27 rfl rfl rfl rfl) rfl (by simp) ?_
              refine al_op (op_move rfl) rfl (by simp) ?_
              refine al_callp into16 rfl rfl rfl (ac_told (re_cons (.leaf _ _ (.same _)) (re_cons (.leaf _ _ (.same _)) (re_cons (.leaf _ _ (.vnil 1)) re_nil))) (c_eval (q.s.net [] (pinsM q.made q.made.length)).1 hns (bitsOf bl m false) [] (by omega) (by simp) (bit_range hbb) (by simp) _)) (by simp) ?_
              refine al_op (op_move rfl) rfl (by simp) ?_
              refine al_op (op_extract rfl rfl rfl) rfl (by simp) ?_
              refine al_op (op_extract rfl rfl rfl) rfl (by simp) ?_
              refine al_op (op_extract rfl rfl rfl) rfl (by simp) ?_
              refine al_op (op_assign rfl) rfl (by simp) ?_
              refine al_op (op_assign rfl) rfl (by simp) ?_
              refine al_op (op_assign rfl) rfl (by simp) ?_
              refine al_nil ?_
              refine aw_seq ?_
              refine aw_seq ?_
              refine aw_region ?_
              refine al_op (op_move rfl) rfl (by simp) ?_
              refine al_op (op_neq rfl rfl) rfl (by simp) ?_
              refine al_op (op_move rfl) rfl (by simp) ?_
              apply al_or 3 233 236 rfl
              · intro h19; have gh19 := h19
                try simp only [decide_eq_true_eq, decide_eq_false_iff_not, Bool.not_eq_true', Bool.not_eq_false', beq_iff_eq, bne_iff_ne, beq_eq_false_iff_ne, bne_eq_false_iff_eq, Bool.or_eq_true, Bool.and_eq_true, Bool.or_eq_false_iff, gt_iff_lt, ge_iff_le] at h19
                refine al_take (op_move rfl) rfl rfl rfl rfl (by simp) ?_
                refine al_take (op_neq rfl rfl) rfl rfl rfl rfl (by simp) ?_
                first
                  | refine al_op (op_pick rfl rfl) rfl (by simp) ?_
                  | refine al_op (op_or rfl rfl rfl) rfl (by simp) ?_
                refine al_nil ⟨rfl, rfl, rfl, keep_of ?_⟩
                repeat (first | exact subx_refl | exact subx_known rfl gh19 subx_refl | refine subx_put rfl ?_)
              · intro h19; have gh19 := h19
                try simp only [decide_eq_true_eq, decide_eq_false_iff_not, Bool.not_eq_true', Bool.not_eq_false', beq_iff_eq, bne_iff_ne, beq_eq_false_iff_ne, bne_eq_false_iff_eq, Bool.or_eq_true, Bool.and_eq_true, Bool.or_eq_false_iff, gt_iff_lt, ge_iff_le] at h19
                refine al_pass rfl rfl rfl rfl (by simp) ?_
                refine al_pass rfl rfl rfl rfl (by simp) ?_
                first
                  | refine al_op (op_pick rfl rfl) rfl (by simp) ?_
                  | refine al_op (op_or rfl rfl rfl) rfl (by simp) ?_
                refine al_nil ⟨rfl, rfl, rfl, keep_of ?_⟩
                repeat (first | exact subx_refl | exact subx_known rfl gh19 subx_refl | refine subx_put rfl ?_)
              refine al_op (op_move rfl) rfl (by simp) ?_
              apply al_or 6 237 243 rfl
              · intro h20; have gh20 := h20
                try simp only [decide_eq_true_eq, decide_eq_false_iff_not, Bool.not_eq_true', Bool.not_eq_false', beq_iff_eq, bne_iff_ne, beq_eq_false_iff_ne, bne_eq_false_iff_eq, Bool.or_eq_true, Bool.and_eq_true, Bool.or_eq_false_iff, gt_iff_lt, ge_iff_le] at h20
                refine al_take (op_move rfl) rfl rfl rfl rfl (by simp) ?_
                first
                  | refine al_take (op_len_map Try.underlying28 rfl) rfl rfl rfl rfl (by simp) ?_
                  | refine al_take (op_len_slice Try.underlying28 rfl rfl) rfl rfl rfl rfl (by simp) ?_
                  | refine al_take (op_len_list Try.underlying28 rfl) rfl rfl rfl rfl (by simp) ?_
                  | refine al_take (op_len_v Try.underlying28 rfl) rfl rfl rfl rfl (by simp) ?_
                  | refine al_take (op_len_nil Try.underlying28 rfl) rfl rfl rfl rfl (by simp) ?_
                first
                  | refine al_take (op_load_rptr Try.underlying64 info64 rfl rfl) rfl rfl rfl rfl (by simp) ?_
                  | refine al_take (op_load_map Try.underlying64 info64 rfl rfl (by omega) rfl) rfl rfl rfl rfl (by simp) ?_
                  | refine al_take (op_load_ptr Try.underlying64 info64 rfl rfl rfl rfl) rfl rfl rfl rfl (by simp) ?_
                first
                  | refine al_take (op_len_map Try.underlying64 rfl) rfl rfl rfl rfl (by simp) ?_
                  | refine al_take (op_len_slice Try.underlying64 rfl rfl) rfl rfl rfl rfl (by simp) ?_
                  | refine al_take (op_len_list Try.underlying64 rfl) rfl rfl rfl rfl (by simp) ?_
                  | refine al_take (op_len_v Try.underlying64 rfl) rfl rfl rfl rfl (by simp) ?_
                  | refine al_take (op_len_nil Try.underlying64 rfl) rfl rfl rfl rfl (by simp) ?_
                refine al_take (op_neq rfl rfl) rfl rfl rfl rfl (by simp) ?_
                first
                  | refine al_op (op_pick rfl rfl) rfl (by simp) ?_
                  | refine al_op (op_or rfl rfl rfl) rfl (by simp) ?_
                refine al_nil ⟨rfl, rfl, rfl, keep_of ?_⟩
                repeat (first | exact subx_refl | exact subx_known rfl gh20 subx_refl | refine subx_put rfl ?_)
              · intro h20; have gh20 := h20
                try simp only [decide_eq_true_eq, decide_eq_false_iff_not, Bool.not_eq_true', Bool.not_eq_false', beq_iff_eq, bne_iff_ne, beq_eq_false_iff_ne, bne_eq_false_iff_eq, Bool.or_eq_true, Bool.and_eq_true, Bool.or_eq_false_iff, gt_iff_lt, ge_iff_le] at h20
                refine al_pass rfl rfl rfl rfl (by simp) ?_
                refine al_pass rfl rfl rfl rfl (by simp) ?_
                refine al_pass rfl rfl rfl rfl (by simp) ?_
                refine al_pass rfl rfl rfl rfl (by simp) ?_
                refine al_pass rfl rfl rfl rfl (by simp) ?_
                first
                  | refine al_op (op_pick rfl rfl) rfl (by simp) ?_
                  | refine al_op (op_or rfl rfl rfl) rfl (by simp) ?_
                refine al_nil ⟨rfl, rfl, rfl, keep_of ?_⟩
                repeat (first | exact subx_refl | exact subx_known rfl gh20 subx_refl | refine subx_put rfl ?_)
              refine al_nil ?_
              refine aw_cond rfl (fun h21 => ?_) (fun h21 => ?_)
              · have gh21 := h21
                try simp only [decide_eq_true_eq, decide_eq_false_iff_not, Bool.not_eq_true', Bool.not_eq_false', beq_iff_eq, bne_iff_ne, beq_eq_false_iff_ne, bne_eq_false_iff_eq, Bool.or_eq_true, Bool.and_eq_true, Bool.or_eq_false_iff, gt_iff_lt, ge_iff_le] at h21
                rw [e1, e2, e3] at gh21; simp at gh21
              · have gh21 := h21
                try simp only [decide_eq_true_eq, decide_eq_false_iff_not, Bool.not_eq_true', Bool.not_eq_false', beq_iff_eq, bne_iff_ne, beq_eq_false_iff_ne, bne_eq_false_iff_eq, Bool.or_eq_true, Bool.and_eq_true, Bool.or_eq_false_iff, gt_iff_lt, ge_iff_le] at h21
                refine aw_skip ?_
                refine aw_seq ?_
                refine aw_seq ?_
                refine aw_region ?_
                refine al_op (op_move rfl) rfl (by simp) ?_
                first
                  | refine al_op (op_len_map Try.underlying28 rfl) rfl (by simp) ?_
                  | refine al_op (op_len_slice Try.underlying28 rfl rfl) rfl (by simp) ?_
                  | refine al_op (op_len_list Try.underlying28 rfl) rfl (by simp) ?_
                  | refine al_op (op_len_v Try.underlying28 rfl) rfl (by simp) ?_
                  | refine al_op (op_len_nil Try.underlying28 rfl) rfl (by simp) ?_
                refine al_op (op_move rfl) rfl (by simp) ?_
                refine al_nil ?_
                refine aw_block ?_
                apply aw_only
                ·
                  (first | apply sub_cons (t := 6) rfl | skip)
                  (first | apply sub_cons (t := 14) rfl | skip)
                  (first | apply sub_cons (t := 32) rfl | skip)
                  (first | apply sub_cons (t := 245) rfl | skip)
                  (first | apply sub_cons (t := 246) rfl | skip)
                  exact sub_nil
                refine aw_forT (ι := Nat) [6, 246] [] (fun k => ((q.s.net [] (pinsM q.made q.made.length)).1.eval (bitsOf bl m false) []).1.length - k) (fun k => k ≤ ((q.s.net [] (pinsM q.made q.made.length)).1.eval (bitsOf bl m false) []).1.length) (fun k => ([(246, .v (.int .i64 (k)))] : Env)) (fun k st => st) (0) ?_ ?_ ?_ (fun k hinv => ?_)
                · exact Nat.zero_le _
                · refine sub_cons (get_as rfl ?_) ?_; rotate_left; exact sub_nil
                  all_goals (first | rfl | simp)
                · rfl
                refine aw_seq ?_
                refine aw_region ?_
                refine al_op (op_lss rfl rfl) rfl (by simp) ?_
                refine al_nil ?_
                refine aw_seq ?_
                refine aw_cond rfl (fun h22 => ?_) (fun h22 => ?_)
                · have gh22 := h22
                  try simp only [decide_eq_true_eq, decide_eq_false_iff_not, Bool.not_eq_true', Bool.not_eq_false', beq_iff_eq, bne_iff_ne, beq_eq_false_iff_ne, bne_eq_false_iff_eq, Bool.or_eq_true, Bool.and_eq_true, Bool.or_eq_false_iff, gt_iff_lt, ge_iff_le] at h22
                  refine aw_skip ?_
                  refine aw_seq ?_
                  refine aw_block ?_
                  refine aw_seq ?_
                  refine aw_region ?_
                  refine al_op (op_move rfl) rfl (by simp) ?_
                  refine al_op (op_assign rfl) rfl (by simp) ?_
                  refine al_nil ?_
                  refine aw_seq ?_
                  refine aw_any (Checked.mixed Try.checked) ?_
                  apply aany_seg (p := 0) (q := 11) (by kernel_rfl) rfl (by decide)
                  ·
                    apply ql_plain rfl (op_move rfl)
                    apply ql_plain rfl (op_move rfl)
                    first
                      | apply ql_plain rfl (op_index_map default Try.underlying28 info65 rfl rfl rfl (by first | (with_reducible exact Int.toNat_natCast _) | rfl) (by omega) (by omega))
                      | apply ql_plain rfl (op_index_slice Try.underlying28 info65 rfl rfl rfl rfl (by omega) (by omega))
                      | apply ql_plain rfl (op_index_list Try.underlying28 info65 rfl rfl rfl (by decide) rfl)
                    first
                      | apply ql_plain rfl (op_load_rptr Try.underlying65 info65 rfl rfl)
                      | apply ql_plain rfl (op_load_map Try.underlying65 info65 rfl rfl (by omega) rfl)
                      | apply ql_plain rfl (op_load_ptr Try.underlying65 info65 rfl rfl rfl rfl)
                    apply ql_plain rfl (op_eql rfl rfl)
                    first
                      | apply ql_plain rfl (op_load_rptr Try.underlying64 info64 rfl rfl)
                      | apply ql_plain rfl (op_load_map Try.underlying64 info64 rfl rfl (by omega) rfl)
                      | apply ql_plain rfl (op_load_ptr Try.underlying64 info64 rfl rfl rfl rfl)
                    apply ql_plain rfl (op_move rfl)
                    first
                      | apply ql_plain rfl (op_index_map default Try.underlying64 info4 rfl rfl rfl (by first | (with_reducible exact Int.toNat_natCast _) | rfl) (by omega) (by omega))
                      | apply ql_plain rfl (op_index_slice Try.underlying64 info4 rfl rfl rfl rfl (by omega) (by omega))
                      | apply ql_plain rfl (op_index_list Try.underlying64 info4 rfl rfl rfl (by decide) rfl)
                    first
                      | apply ql_plain rfl (op_load_rptr Try.underlying4 info4 rfl rfl)
                      | apply ql_plain rfl (op_load_map Try.underlying4 info4 rfl rfl (by omega) rfl)
                      | apply ql_plain rfl (op_load_ptr Try.underlying4 info4 rfl rfl rfl rfl)
                    apply ql_plain rfl (op_bneq Try.underlying4 rfl rfl)
                    apply ql_plain rfl (op_move rfl)
                    exact ql_nil
                  · simp
                  apply aany_or 11 17 259 265 (by kernel_rfl) rfl (by decide) rfl (by simp)
                  · intro h23; have gh23 := h23
                    try simp only [decide_eq_true_eq, decide_eq_false_iff_not, Bool.not_eq_true', Bool.not_eq_false', beq_iff_eq, bne_iff_ne, beq_eq_false_iff_ne, bne_eq_false_iff_eq, Bool.or_eq_true, Bool.and_eq_true, Bool.or_eq_false_iff, gt_iff_lt, ge_iff_le] at h23
                    apply ql_ex
                    ·
                      apply ql_take rfl rfl rfl rfl (op_move rfl)
                      apply ql_take rfl rfl rfl rfl (op_move rfl)
                      first
                        | apply ql_take rfl rfl rfl rfl (op_index_map default Try.underlying28 info65 rfl rfl rfl (by first | (with_reducible exact Int.toNat_natCast _) | rfl) (by omega) (by omega))
                        | apply ql_take rfl rfl rfl rfl (op_index_slice Try.underlying28 info65 rfl rfl rfl rfl (by omega) (by omega))
                        | apply ql_take rfl rfl rfl rfl (op_index_list Try.underlying28 info65 rfl rfl rfl (by decide) rfl)
                      first
                        | apply ql_take rfl rfl rfl rfl (op_load_rptr Try.underlying65 info65 rfl rfl)
                        | apply ql_take rfl rfl rfl rfl (op_load_map Try.underlying65 info65 rfl rfl (by omega) rfl)
                        | apply ql_take rfl rfl rfl rfl (op_load_ptr Try.underlying65 info65 rfl rfl rfl rfl)
                      apply ql_take rfl rfl rfl rfl (op_gtr rfl rfl)
                      first
                        | apply ql_plain rfl (op_pick rfl rfl)
                        | apply ql_plain rfl (op_or rfl rfl rfl)
                      exact ql_nil
                    · rfl
                    · repeat (first | exact subx_refl | exact subx_known rfl gh23 subx_refl | refine subx_put rfl ?_)
                  · intro h23; have gh23 := h23
                    try simp only [decide_eq_true_eq, decide_eq_false_iff_not, Bool.not_eq_true', Bool.not_eq_false', beq_iff_eq, bne_iff_ne, beq_eq_false_iff_ne, bne_eq_false_iff_eq, Bool.or_eq_true, Bool.and_eq_true, Bool.or_eq_false_iff, gt_iff_lt, ge_iff_le] at h23
                    apply ql_ex
                    ·
                      apply ql_pass rfl rfl rfl rfl
                      apply ql_pass rfl rfl rfl rfl
                      apply ql_pass rfl rfl rfl rfl
                      apply ql_pass rfl rfl rfl rfl
                      apply ql_pass rfl rfl rfl rfl
                      first
                        | apply ql_plain rfl (op_pick rfl rfl)
                        | apply ql_plain rfl (op_or rfl rfl rfl)
                      exact ql_nil
                    · rfl
                    · repeat (first | exact subx_refl | exact subx_known rfl gh23 subx_refl | refine subx_put rfl ?_)
                  refine aany_end rfl (by kernel_rfl) ?_
                  refine aw_cond rfl (fun h24 => ?_) (fun h24 => ?_)
                  · have gh24 := h24
                    try simp only [decide_eq_true_eq, decide_eq_false_iff_not, Bool.not_eq_true', Bool.not_eq_false', beq_iff_eq, bne_iff_ne, beq_eq_false_iff_ne, bne_eq_false_iff_eq, Bool.or_eq_true, Bool.and_eq_true, Bool.or_eq_false_iff, gt_iff_lt, ge_iff_le] at h24
                    have ho := e4 k (by omega)
                    have e0 : 0 + (k : Int).toNat = k := by omega
                    rw [ho, e0] at gh24
                    cases hvv : q.vals.getD k default <;> rw [hvv] at gh24 <;> exact absurd gh24 (by decide)
                  · have gh24 := h24
                    try simp only [decide_eq_true_eq, decide_eq_false_iff_not, Bool.not_eq_true', Bool.not_eq_false', beq_iff_eq, bne_iff_ne, beq_eq_false_iff_ne, bne_eq_false_iff_eq, Bool.or_eq_true, Bool.and_eq_true, Bool.or_eq_false_iff, gt_iff_lt, ge_iff_le] at h24
                    refine aw_skip ?_
                    refine aw_region ?_
                    refine al_op (op_add rfl rfl (by first | exact wrap_i64 (by omega) (by omega))) rfl (by simp) ?_
                    refine al_op (op_move rfl) rfl (by simp) ?_
                    refine al_nil ?_
                    refine ⟨k + 1, ?_, ?_, ?_, ?_, ?_⟩
                    · omega
                    · omega
                    · refine sub_cons (get_as rfl ?_) ?_; rotate_left; exact sub_nil
                      all_goals (first | rfl | simp)
                    · repeat (first | exact subx_refl | exact subx_del | refine subx_put rfl ?_)
                    · rfl
                · have gh22 := h22
                  try simp only [decide_eq_true_eq, decide_eq_false_iff_not, Bool.not_eq_true', Bool.not_eq_false', beq_iff_eq, bne_iff_ne, beq_eq_false_iff_ne, bne_eq_false_iff_eq, Bool.or_eq_true, Bool.and_eq_true, Bool.or_eq_false_iff, gt_iff_lt, ge_iff_le] at h22
                  refine aw_exit ?_
                  refine aw_seq ?_
                  refine aw_region ?_
                  first
                    | refine al_callp into15 rfl rfl rfl ((l_awake ) _) (by simp) ?_
                    | refine al_callp into15 rfl rfl rfl (acp_lent lend_nil (l_awake ) rfl) (by simp) ?_
                  refine al_op (op_assign rfl) rfl (by simp) ?_
                  refine al_nil ?_
                  refine aw_freeze (fun _ => false) (fsub_cons (t := 6) rfl (.leaf _ _ (.same _)) fsub_nil) ?_
                  refine aw_ret ?_
                  refine ⟨_, res_1 rfl rfl, ?_, rfl⟩
                  first | rfl | simp
end Go.Proofs.Ytbpamlphacpkeaa
