/- Printed walks (gen.py, gates_ann.py): part 22. -/
import Derived.Test.YtbpamlphacpkeaaW21
import Derived.Test.YtbpamlphacpkeaaFacts
set_option linter.unusedVariables false
set_option linter.unusedSimpArgs false
set_option maxRecDepth 20000
namespace Go.Proofs.Ytbpamlphacpkeaa
open Go

theorem m_And (s : MS) (vm vg vt vr : Nat) (a b : Int) (hs : s.OK) : AC Try.prog 31 [.ptr 0 vm 0 0, .v (.int .i64 (a)), .v (.int .i64 (b))] (mk0 s vm vg vt vr) (fun r σ' => ∃ vg', r = .ret (.tuple [.v (.int .i64 ((s.and a b).1.1)), .v (.int .i64 ((s.and a b).1.2))]) ∧ σ' = mk0 (s.and a b).2 vm vg' vt vr) := by
  refine ac_enter 89 Try.func31 rfl rfl (by simp) ?_
  refine aw_seq ?_
  refine aw_region ?_
  refine al_op (op_assign rfl) rfl (by simp) ?_
  refine al_op (op_assign rfl) rfl (by simp) ?_
  refine al_nil ?_
  refine aw_seq ?_
  refine aw_seq ?_
  refine aw_region ?_
  refine al_op (op_move rfl) rfl (by simp) ?_
  refine al_op (op_move rfl) rfl (by simp) ?_
  refine al_op (op_move rfl) rfl (by simp) ?_
  refine al_op (op_list encI [a, b] Try.underlying54 info3 rfl rfl (by decide) rfl (by decide) rfl (by first | rfl | (repeat (first | exact parts_nil | refine parts_cons rfl (by repeat (first | exact all_live_nil | refine all_live_clo rfl ?_ | refine all_live_slice rfl ?_ | refine all_live_map rfl ?_ | refine all_live_ptr rfl ?_)) ?_))) rfl rfl rfl rfl) rfl (by simp) ?_
  refine al_callp into71 rfl rfl rfl (m_no _ _ _ _ _ _ (by assumption) (by first | assumption | simp)) (by simp) ?_
  refine al_op (op_assign rfl) rfl (by simp) ?_
  refine al_nil ?_
  refine aw_seq ?_
  refine aw_region ?_
  refine al_op (op_move rfl) rfl (by simp) ?_
  refine al_op (op_neq rfl rfl) rfl (by simp) ?_
  refine al_nil ?_
  refine aw_cond rfl (fun h1 => ?_) (fun h1 => ?_)
  · have gh1 := h1
    try simp only [decide_eq_true_eq, decide_eq_false_iff_not, Bool.not_eq_true', Bool.not_eq_false', beq_iff_eq, bne_iff_ne, beq_eq_false_iff_ne, bne_eq_false_iff_eq, Bool.or_eq_true, Bool.and_eq_true, Bool.or_eq_false_iff, gt_iff_lt, ge_iff_le] at h1
    refine aw_seq ?_
    refine aw_region ?_
    refine al_op (op_move rfl) rfl (by simp) ?_
    refine al_op (op_assign rfl) rfl (by simp) ?_
    refine al_op (op_assign rfl) rfl (by simp) ?_
    refine al_nil ?_
    refine aw_ret ?_
    refine ⟨_, res_2 rfl rfl rfl rfl rfl, ?_⟩
    rw [MS.and_no gh1]; exact ⟨_, rfl, rfl⟩
  · have gh1 := h1
    try simp only [decide_eq_true_eq, decide_eq_false_iff_not, Bool.not_eq_true', Bool.not_eq_false', beq_iff_eq, bne_iff_ne, beq_eq_false_iff_ne, bne_eq_false_iff_eq, Bool.or_eq_true, Bool.and_eq_true, Bool.or_eq_false_iff, gt_iff_lt, ge_iff_le] at h1
    have hno : s.no [a, b] = 0 := by simpa using gh1
    obtain ⟨q1, q2, q3, q4⟩ := MS.no_two hno
    obtain ⟨q5, q6⟩ := hs.lits
    have hs0 := hs
    obtain ⟨k1, k2, k3⟩ := hs0
    refine aw_skip ?_
    refine aw_seq ?_
    refine aw_region ?_
    refine al_op (op_move rfl) rfl (by simp) ?_
    refine al_op (op_move rfl) rfl (by simp) ?_
    refine al_op (op_min rfl rfl) rfl (by simp) ?_
    refine al_op (op_move rfl) rfl (by simp) ?_
    refine al_op (op_move rfl) rfl (by simp) ?_
    refine al_op (op_max rfl rfl) rfl (by simp) ?_
    refine al_op (op_assign rfl) rfl (by simp) ?_
    refine al_op (op_assign rfl) rfl (by simp) ?_
    refine al_nil ?_
    refine aw_seq ?_
    refine aw_block ?_
    refine aw_seq ?_
    refine aw_region ?_
    refine al_op (op_move rfl) rfl (by simp) ?_
    refine al_op (op_eql rfl rfl) rfl (by simp) ?_
    refine al_op (op_move rfl) rfl (by simp) ?_
    apply al_or 5 29 34 rfl
    · intro h2; have gh2 := h2
      try simp only [decide_eq_true_eq, decide_eq_false_iff_not, Bool.not_eq_true', Bool.not_eq_false', beq_iff_eq, bne_iff_ne, beq_eq_false_iff_ne, bne_eq_false_iff_eq, Bool.or_eq_true, Bool.and_eq_true, Bool.or_eq_false_iff, gt_iff_lt, ge_iff_le] at h2
      refine al_take (op_move rfl) rfl rfl rfl rfl (by simp) ?_
      refine al_take (op_bitxor rfl rfl (xor_one (by omega) (by omega))) rfl rfl rfl rfl (by simp) ?_
      refine al_take (op_move rfl) rfl rfl rfl rfl (by simp) ?_
      refine al_take (op_eql rfl rfl) rfl rfl rfl rfl (by simp) ?_
      first
        | refine al_op (op_pick rfl rfl) rfl (by simp) ?_
        | refine al_op (op_or rfl rfl rfl) rfl (by simp) ?_
      refine al_nil ⟨rfl, rfl, rfl, keep_of ?_⟩
      repeat (first | exact subx_refl | exact subx_known rfl gh2 subx_refl | refine subx_put rfl ?_)
    · intro h2; have gh2 := h2
      try simp only [decide_eq_true_eq, decide_eq_false_iff_not, Bool.not_eq_true', Bool.not_eq_false', beq_iff_eq, bne_iff_ne, beq_eq_false_iff_ne, bne_eq_false_iff_eq, Bool.or_eq_true, Bool.and_eq_true, Bool.or_eq_false_iff, gt_iff_lt, ge_iff_le] at h2
      refine al_pass rfl rfl rfl rfl (by simp) ?_
      refine al_pass rfl rfl rfl rfl (by simp) ?_
      refine al_pass rfl rfl rfl rfl (by simp) ?_
      refine al_pass rfl rfl rfl rfl (by simp) ?_
      first
        | refine al_op (op_pick rfl rfl) rfl (by simp) ?_
        | refine al_op (op_or rfl rfl rfl) rfl (by simp) ?_
      refine al_nil ⟨rfl, rfl, rfl, keep_of ?_⟩
      repeat (first | exact subx_refl | exact subx_known rfl gh2 subx_refl | refine subx_put rfl ?_)
    refine al_op (op_assign rfl) rfl (by simp) ?_
    refine al_nil ?_
    refine aw_cond rfl (fun h3 => ?_) (fun h3 => ?_)
    · have gh3 := h3
      try simp only [decide_eq_true_eq, decide_eq_false_iff_not, Bool.not_eq_true', Bool.not_eq_false', beq_iff_eq, bne_iff_ne, beq_eq_false_iff_ne, bne_eq_false_iff_eq, Bool.or_eq_true, Bool.and_eq_true, Bool.or_eq_false_iff, gt_iff_lt, ge_iff_le] at h3
      refine aw_seq ?_
      refine aw_region ?_
      refine al_op (op_assign rfl) rfl (by simp) ?_
      refine al_op (op_assign rfl) rfl (by simp) ?_
      refine al_nil ?_
      refine aw_ret ?_
      refine ⟨_, res_2 rfl rfl rfl rfl rfl, ?_⟩
      rw [MS.and_zero hno gh3]; exact ⟨_, rfl, rfl⟩
    · have gh3 := h3
      try simp only [decide_eq_true_eq, decide_eq_false_iff_not, Bool.not_eq_true', Bool.not_eq_false', beq_iff_eq, bne_iff_ne, beq_eq_false_iff_ne, bne_eq_false_iff_eq, Bool.or_eq_true, Bool.and_eq_true, Bool.or_eq_false_iff, gt_iff_lt, ge_iff_le] at h3
      refine aw_seq ?_
      refine aw_region ?_
      refine al_op (op_move rfl) rfl (by simp) ?_
      refine al_op (op_eql rfl rfl) rfl (by simp) ?_
      refine al_op (op_move rfl) rfl (by simp) ?_
      apply al_or 4 38 42 rfl
      · intro h4; have gh4 := h4
        try simp only [decide_eq_true_eq, decide_eq_false_iff_not, Bool.not_eq_true', Bool.not_eq_false', beq_iff_eq, bne_iff_ne, beq_eq_false_iff_ne, bne_eq_false_iff_eq, Bool.or_eq_true, Bool.and_eq_true, Bool.or_eq_false_iff, gt_iff_lt, ge_iff_le] at h4
        refine al_take (op_move rfl) rfl rfl rfl rfl (by simp) ?_
        refine al_take (op_move rfl) rfl rfl rfl rfl (by simp) ?_
        refine al_take (op_eql rfl rfl) rfl rfl rfl rfl (by simp) ?_
        first
          | refine al_op (op_pick rfl rfl) rfl (by simp) ?_
          | refine al_op (op_or rfl rfl rfl) rfl (by simp) ?_
        refine al_nil ⟨rfl, rfl, rfl, keep_of ?_⟩
        repeat (first | exact subx_refl | exact subx_known rfl gh4 subx_refl | refine subx_put rfl ?_)
      · intro h4; have gh4 := h4
        try simp only [decide_eq_true_eq, decide_eq_false_iff_not, Bool.not_eq_true', Bool.not_eq_false', beq_iff_eq, bne_iff_ne, beq_eq_false_iff_ne, bne_eq_false_iff_eq, Bool.or_eq_true, Bool.and_eq_true, Bool.or_eq_false_iff, gt_iff_lt, ge_iff_le] at h4
        refine al_pass rfl rfl rfl rfl (by simp) ?_
        refine al_pass rfl rfl rfl rfl (by simp) ?_
        refine al_pass rfl rfl rfl rfl (by simp) ?_
        first
          | refine al_op (op_pick rfl rfl) rfl (by simp) ?_
          | refine al_op (op_or rfl rfl rfl) rfl (by simp) ?_
        refine al_nil ⟨rfl, rfl, rfl, keep_of ?_⟩
        repeat (first | exact subx_refl | exact subx_known rfl gh4 subx_refl | refine subx_put rfl ?_)
      refine al_op (op_assign rfl) rfl (by simp) ?_
      refine al_nil ?_
      refine aw_cond rfl (fun h5 => ?_) (fun h5 => ?_)
      · have gh5 := h5
        try simp only [decide_eq_true_eq, decide_eq_false_iff_not, Bool.not_eq_true', Bool.not_eq_false', beq_iff_eq, bne_iff_ne, beq_eq_false_iff_ne, bne_eq_false_iff_eq, Bool.or_eq_true, Bool.and_eq_true, Bool.or_eq_false_iff, gt_iff_lt, ge_iff_le] at h5
        refine aw_seq ?_
        refine aw_region ?_
        refine al_op (op_move rfl) rfl (by simp) ?_
        refine al_op (op_assign rfl) rfl (by simp) ?_
        refine al_op (op_assign rfl) rfl (by simp) ?_
        refine al_nil ?_
        refine aw_ret ?_
        refine ⟨_, res_2 rfl rfl rfl rfl rfl, ?_⟩
        rw [MS.and_one hno gh3 gh5]; exact ⟨_, rfl, rfl⟩
      · have gh5 := h5
        try simp only [decide_eq_true_eq, decide_eq_false_iff_not, Bool.not_eq_true', Bool.not_eq_false', beq_iff_eq, bne_iff_ne, beq_eq_false_iff_ne, bne_eq_false_iff_eq, Bool.or_eq_true, Bool.and_eq_true, Bool.or_eq_false_iff, gt_iff_lt, ge_iff_le] at h5
        refine aw_skip ?_
        refine aw_seq ?_
        refine aw_seq ?_
        refine aw_region ?_
        refine al_op (op_move rfl) rfl (by simp) ?_
        first
          | refine al_op (op_nilCheck_rptr rfl) rfl (by simp) ?_
          | refine al_op (op_nilCheck_ptr rfl rfl) rfl (by simp) ?_
        first
          | refine al_op (op_field_rptr Try.underlying73 rfl info71 (by decide) rfl rfl) rfl (by simp) ?_
          | refine al_op (op_field_ptr Try.underlying73 rfl info71 (by decide) rfl rfl rfl) rfl (by simp) ?_
        first
          | refine al_op (op_load_rptr Try.underlying71 info71 rfl rfl) rfl (by simp) ?_
          | refine al_op (op_load_map Try.underlying71 info71 rfl rfl (by omega) rfl) rfl (by simp) ?_
          | refine al_op (op_load_ptr Try.underlying71 info71 rfl rfl rfl rfl) rfl (by simp) ?_
        refine al_op (op_move rfl) rfl (by simp) ?_
        refine al_op (op_move rfl) rfl (by simp) ?_
        refine al_op (op_build_array Try.underlying86 info86 rfl info3 rfl (by first | rfl | (repeat (first | exact parts_nil | refine parts_cons rfl (by repeat (first | exact all_live_nil | refine all_live_clo rfl ?_ | refine all_live_slice rfl ?_ | refine all_live_map rfl ?_ | refine all_live_ptr rfl ?_)) ?_))) rfl) rfl (by simp) ?_
        refine al_op (op_lookup_th (min a b, max a b) Try.underlying71 Try.underlying86 Try.underlying3 info3 rfl info3 rfl rfl rfl rfl rfl) rfl (by simp) ?_
        refine al_op (op_move rfl) rfl (by simp) ?_
        refine al_op (op_extract rfl rfl rfl) rfl (by simp) ?_
        refine al_op (op_extract rfl rfl rfl) rfl (by simp) ?_
        refine al_op (op_assign rfl) rfl (by simp) ?_
        refine al_op (op_assign rfl) rfl (by simp) ?_
        refine al_nil ?_
        refine aw_seq ?_
        refine aw_region ?_
        refine al_op (op_move rfl) rfl (by simp) ?_
        refine al_nil ?_
        refine aw_cond rfl (fun h6 => ?_) (fun h6 => ?_)
        · have gh6 := h6
          try simp only [decide_eq_true_eq, decide_eq_false_iff_not, Bool.not_eq_true', Bool.not_eq_false', beq_iff_eq, bne_iff_ne, beq_eq_false_iff_ne, bne_eq_false_iff_eq, Bool.or_eq_true, Bool.and_eq_true, Bool.or_eq_false_iff, gt_iff_lt, ge_iff_le] at h6
          refine aw_seq ?_
          refine aw_region ?_
          refine al_op (op_move rfl) rfl (by simp) ?_
          refine al_op (op_assign rfl) rfl (by simp) ?_
          refine al_op (op_assign rfl) rfl (by simp) ?_
          refine al_nil ?_
          refine aw_ret ?_
          refine ⟨_, res_2 rfl rfl rfl rfl rfl, ?_⟩
          rw [MS.and_there hno gh3 gh5 gh6]; exact ⟨_, rfl, rfl⟩
        · have gh6 := h6
          try simp only [decide_eq_true_eq, decide_eq_false_iff_not, Bool.not_eq_true', Bool.not_eq_false', beq_iff_eq, bne_iff_ne, beq_eq_false_iff_ne, bne_eq_false_iff_eq, Bool.or_eq_true, Bool.and_eq_true, Bool.or_eq_false_iff, gt_iff_lt, ge_iff_le] at h6
          refine aw_skip ?_
          refine aw_seq ?_
          refine aw_seq ?_
          refine aw_region ?_
          refine al_op (op_move rfl) rfl (by simp) ?_
          first
            | refine al_op (op_nilCheck_rptr rfl) rfl (by simp) ?_
            | refine al_op (op_nilCheck_ptr rfl rfl) rfl (by simp) ?_
          first
            | refine al_op (op_field_rptr Try.underlying73 rfl info27 (by decide) rfl rfl) rfl (by simp) ?_
            | refine al_op (op_field_ptr Try.underlying73 rfl info27 (by decide) rfl rfl rfl) rfl (by simp) ?_
          first
            | refine al_op (op_field_rptr Try.underlying27 rfl info24 (by decide) rfl rfl) rfl (by simp) ?_
            | refine al_op (op_field_ptr Try.underlying27 rfl info24 (by decide) rfl rfl rfl) rfl (by simp) ?_
          first
            | refine al_op (op_load_rptr Try.underlying24 info24 rfl rfl) rfl (by simp) ?_
            | refine al_op (op_load_map Try.underlying24 info24 rfl rfl (by omega) rfl) rfl (by simp) ?_
            | refine al_op (op_load_ptr Try.underlying24 info24 rfl rfl rfl rfl) rfl (by simp) ?_
          first
            | refine al_op (op_len_map Try.underlying24 rfl) rfl (by simp) ?_
            | refine al_op (op_len_slice Try.underlying24 rfl rfl) rfl (by simp) ?_
            | refine al_op (op_len_list Try.underlying24 rfl) rfl (by simp) ?_
            | refine al_op (op_len_v Try.underlying24 rfl) rfl (by simp) ?_
            | refine al_op (op_len_nil Try.underlying24 rfl) rfl (by simp) ?_
          refine al_op (op_geq rfl rfl) rfl (by simp) ?_
          refine al_nil ?_
          refine aw_cond rfl (fun h7 => ?_) (fun h7 => ?_)
          · have gh7 := h7
            try simp only [decide_eq_true_eq, decide_eq_false_iff_not, Bool.not_eq_true', Bool.not_eq_false', beq_iff_eq, bne_iff_ne, beq_eq_false_iff_ne, bne_eq_false_iff_eq, Bool.or_eq_true, Bool.and_eq_true, Bool.or_eq_false_iff, gt_iff_lt, ge_iff_le] at h7
            refine aw_seq ?_
            refine aw_region ?_
            refine al_op (op_assign rfl) rfl (by simp) ?_
            refine al_op (op_assign rfl) rfl (by simp) ?_
            refine al_nil ?_
            refine aw_ret ?_
            refine ⟨_, res_2 rfl rfl rfl rfl rfl, ?_⟩
            rw [MS.and_full hno gh3 gh5 gh6 (by omega)]; exact ⟨_, rfl, rfl⟩
          · have gh7 := h7
            try simp only [decide_eq_true_eq, decide_eq_false_iff_not, Bool.not_eq_true', Bool.not_eq_false', beq_iff_eq, bne_iff_ne, beq_eq_false_iff_ne, bne_eq_false_iff_eq, Bool.or_eq_true, Bool.and_eq_true, Bool.or_eq_false_iff, gt_iff_lt, ge_iff_le] at h7
            refine aw_skip ?_
            refine aw_seq ?_
            refine aw_region ?_
            refine al_op (op_move rfl) rfl (by simp) ?_
            refine al_callp into72 rfl rfl rfl (m_first _ _ _ _ _ (by assumption)) (by simp) ?_
            refine al_op (op_assign rfl) rfl (by simp) ?_
            refine al_nil ?_
            refine aw_seq ?_
            refine aw_region ?_
            refine al_op (op_move rfl) rfl (by simp) ?_
            refine al_op (op_move rfl) rfl (by simp) ?_
            first
              | refine al_op (op_nilCheck_rptr rfl) rfl (by simp) ?_
              | refine al_op (op_nilCheck_ptr rfl rfl) rfl (by simp) ?_
            first
              | refine al_op (op_field_rptr Try.underlying73 rfl info27 (by decide) rfl rfl) rfl (by simp) ?_
              | refine al_op (op_field_ptr Try.underlying73 rfl info27 (by decide) rfl rfl rfl) rfl (by simp) ?_
            first
              | refine al_op (op_field_rptr Try.underlying27 rfl info24 (by decide) rfl rfl) rfl (by simp) ?_
              | refine al_op (op_field_ptr Try.underlying27 rfl info24 (by decide) rfl rfl rfl) rfl (by simp) ?_
            first
              | refine al_op (op_load_rptr Try.underlying24 info24 rfl rfl) rfl (by simp) ?_
              | refine al_op (op_load_map Try.underlying24 info24 rfl rfl (by omega) rfl) rfl (by simp) ?_
              | refine al_op (op_load_ptr Try.underlying24 info24 rfl rfl rfl rfl) rfl (by simp) ?_
            refine al_op (op_move rfl) rfl (by simp) ?_
            refine al_op (op_move rfl) rfl (by simp) ?_
            refine al_op (op_build_array Try.underlying86 info86 rfl info3 rfl (by first | rfl | (repeat (first | exact parts_nil | refine parts_cons rfl (by repeat (first | exact all_live_nil | refine all_live_clo rfl ?_ | refine all_live_slice rfl ?_ | refine all_live_map rfl ?_ | refine all_live_ptr rfl ?_)) ?_))) rfl) rfl (by simp) ?_
            refine al_op (op_buildSlice Try.underlying24 info86 rfl rfl (by decide) rfl (by decide) rfl (by first | rfl | (repeat (first | exact parts_nil | refine parts_cons rfl (by repeat (first | exact all_live_nil | refine all_live_clo rfl ?_ | refine all_live_slice rfl ?_ | refine all_live_map rfl ?_ | refine all_live_ptr rfl ?_)) ?_))) rfl rfl rfl) rfl (by simp) ?_
            first
              | (refine al_opR (op_append_one (min a b, max a b) Try.underlying24 Try.underlying24 rfl info86 rfl rfl (by decide) rfl rfl rfl (by first | rfl | simp) rfl rfl (by first | omega | (simp; done) | (simp; omega)) (by show _ * 16 ≤ _; first | omega | (simp; done) | (simp; omega))) rfl (by simp) ?_; rintro _ _ ⟨ver76, rfl, rfl⟩)
              | (refine al_opR (op_append_map Try.underlying24 Try.underlying24 rfl info86 rfl rfl (by decide) rfl rfl rfl (by first | rfl | simp) rfl (by first | exact .list _ | exact .vnil | exact .nil | exact .row _ _ _ _ rfl (by first | rfl | simp)) rfl (by first | omega | (simp; done) | (simp; omega)) (by show _ * 16 ≤ _; first | omega | (simp; done) | (simp; omega))) rfl (by simp) ?_; rintro _ _ ⟨ver76, rfl, rfl⟩)
            first
              | refine al_op (op_nilCheck_rptr rfl) rfl (by simp) ?_
              | refine al_op (op_nilCheck_ptr rfl rfl) rfl (by simp) ?_
            first
              | refine al_op (op_field_rptr Try.underlying73 rfl info27 (by decide) rfl rfl) rfl (by simp) ?_
              | refine al_op (op_field_ptr Try.underlying73 rfl info27 (by decide) rfl rfl rfl) rfl (by simp) ?_
            first
              | refine al_op (op_field_rptr Try.underlying27 rfl info24 (by decide) rfl rfl) rfl (by simp) ?_
              | refine al_op (op_field_ptr Try.underlying27 rfl info24 (by decide) rfl rfl rfl) rfl (by simp) ?_
            first
              | refine al_op (op_store_ptr info24 rfl rfl rfl rfl rfl rfl (by first | rfl | exact live_one rfl | (repeat (first | exact all_live_nil | refine all_live_clo rfl ?_ | refine all_live_slice rfl ?_ | refine all_live_map rfl ?_ | refine all_live_ptr rfl ?_))) (by decide)) rfl (by simp) ?_
              | refine al_op (op_store_ptr info24 rfl rfl rfl rfl rfl rfl (by first | rfl | exact live_one rfl | (repeat (first | exact all_live_nil | refine all_live_clo rfl ?_ | refine all_live_slice rfl ?_ | refine all_live_map rfl ?_ | refine all_live_ptr rfl ?_))) (Nat.le_of_ble_eq_true rfl)) rfl (by simp) ?_
            refine al_nil ?_
            refine aw_seq ?_
            refine aw_region ?_
            refine al_op (op_move rfl) rfl (by simp) ?_
            first
              | refine al_op (op_nilCheck_rptr rfl) rfl (by simp) ?_
              | refine al_op (op_nilCheck_ptr rfl rfl) rfl (by simp) ?_
            first
              | refine al_op (op_field_rptr Try.underlying73 rfl info71 (by decide) rfl rfl) rfl (by simp) ?_
              | refine al_op (op_field_ptr Try.underlying73 rfl info71 (by decide) rfl rfl rfl) rfl (by simp) ?_
            first
              | refine al_op (op_load_rptr Try.underlying71 info71 rfl rfl) rfl (by simp) ?_
              | refine al_op (op_load_map Try.underlying71 info71 rfl rfl (by omega) rfl) rfl (by simp) ?_
              | refine al_op (op_load_ptr Try.underlying71 info71 rfl rfl rfl rfl) rfl (by simp) ?_
            refine al_op (op_move rfl) rfl (by simp) ?_
            refine al_op (op_move rfl) rfl (by simp) ?_
            refine al_op (op_build_array Try.underlying86 info86 rfl info3 rfl (by first | rfl | (repeat (first | exact parts_nil | refine parts_cons rfl (by repeat (first | exact all_live_nil | refine all_live_clo rfl ?_ | refine all_live_slice rfl ?_ | refine all_live_map rfl ?_ | refine all_live_ptr rfl ?_)) ?_))) rfl) rfl (by simp) ?_
            refine al_op (op_move rfl) rfl (by simp) ?_
            refine al_op (op_update_th (min a b, max a b) Try.underlying71 Try.underlying86 Try.underlying3 info3 rfl rfl rfl rfl rfl rfl (by simpa using gh6)) rfl (by simp) ?_
            refine al_nil ?_
            refine aw_seq ?_
            refine aw_region ?_
            refine al_op (op_move rfl) rfl (by simp) ?_
            refine al_op (op_assign rfl) rfl (by simp) ?_
            refine al_op (op_assign rfl) rfl (by simp) ?_
            refine al_nil ?_
            refine aw_ret ?_
            refine ⟨_, res_2 rfl rfl rfl rfl rfl, ?_⟩
            rw [MS.and_new hno gh3 gh5 gh6 (by omega)]; exact ⟨_, rfl, rfl⟩
end Go.Proofs.Ytbpamlphacpkeaa
