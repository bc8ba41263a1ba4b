import Derived.Test.YtcgdlhkiecommaaGreatDoorW412
import Derived.Test.YtcgdlhkiecommaaGreatDoorXSame
import Derived.Test.YtcgdlhkiecommaaGreatDoorFacts
import Derived.Test.YtcgdlhkiecommaaGreatDoorXWr2
import Derived.Test.YtcgdlhkiecommaaGreatDoorXWr3

/- Printed walks (gen.py, lexer_ann.py): part 413. -/



set_option linter.unusedVariables false
set_option linter.unusedSimpArgs false
set_option maxRecDepth 20000
set_option maxHeartbeats 40000000
namespace Go.Proofs.YtcgdlhkiecommaaGreatDoor
open Go
theorem e_eqB (a b : List Int) (ha : a.length ≤ 140737488355328) : ACp Tryz.prog 68 [.list 1 (a.map encB), .list 1 (b.map encB)] (.v (.bool (a == b))) := by
 refine acp_of rfl ?_
 refine ac_enter 26 Tryz.func68 rfl rfl (by simp) ?_
 refine aw_seq ?_
 refine aw_region ?_
 refine al_op (op_assign rfl) rfl (by simp) ?_
 refine al_nil ?_
 refine aw_seq ?_
 refine aw_seq ?_
 refine aw_region ?_
 refine al_op (op_move rfl) rfl (by simp) ?_
 refine al_op (op_len_map Tryz.underlying26 rfl) rfl (by simp) ?_
 refine al_op (op_move rfl) rfl (by simp) ?_
 refine al_op (op_len_map Tryz.underlying26 rfl) rfl (by simp) ?_
 refine al_op (op_neq rfl rfl) rfl (by simp) ?_
 refine al_nil ?_
 refine aw_cond rfl (fun h1 => ?_) (fun h1 => ?_)
 ·have gh1 := h1
  try simp only [nrm] at h1
  refine aw_seq ?_
  refine aw_region ?_
  refine al_op (op_assign rfl) rfl (by simp) ?_
  refine al_nil ?_
  refine aw_freeze (fun _ => false) (fsub_cons (t := 4) rfl (.leaf _ _ (.same _)) fsub_nil) ?_
  refine aw_ret ?_
  refine ⟨_, res_1 rfl rfl, ?_, rfl⟩
  rw [leq_len gh1]
 ·have gh1 := h1
  try simp only [nrm] at h1
  refine aw_skip ?_
  refine aw_seq ?_
  refine aw_seq ?_
  refine aw_region ?_
  refine al_op (op_move rfl) rfl (by simp) ?_
  refine al_op (op_len_map Tryz.underlying26 rfl) rfl (by simp) ?_
  refine al_op (op_move rfl) rfl (by simp) ?_
  refine al_nil ?_
  refine aw_block ?_
  refine aw_forT (ι := Nat) [4, 13] [] (fun i => a.length - i) (fun i => i ≤ a.length ∧ ∀ k, k < i → (a.getD k default != b.getD k default) = false) (fun i => ([(13, .v (.int .i64 ((i : Nat) : Int)))] : Env)) (fun i s => s) (0) ?_ ?_ ?_ (fun i hinv => ?_)
  ·exact ⟨Nat.zero_le _, fun k hk => absurd hk (Nat.not_lt_zero k)⟩
  ·refine sub_cons (get_as rfl ?_) ?_; rotate_left; exact sub_nil
   all_goals (first | rfl | simp)
  ·rfl
  have hi := hinv.1
  have hll : a.length = b.length := by have := bne_eq_false_iff_eq.1 gh1; omega
  refine aw_seq ?_
  refine aw_region ?_
  refine al_op (op_lss rfl rfl) rfl (by simp) ?_
  refine al_nil ?_
  refine aw_seq ?_
  refine aw_cond rfl (fun h2 => ?_) (fun h2 => ?_)
  ·have gh2 := h2
   try simp only [nrm] at h2
   refine aw_skip ?_
   refine aw_seq ?_
   refine aw_block ?_
   refine aw_seq ?_
   refine aw_region ?_
   refine al_op (op_move rfl) rfl (by simp) ?_
   refine al_op (op_assign rfl) rfl (by simp) ?_
   refine al_nil ?_
   refine aw_seq ?_
   refine aw_any (Checked.mixed Tryz.checked) ?_
   apply aany_seg (p := 0) (q := 9) (by kernel_rfl) rfl (by decide)
   ·
    apply ql_plain rfl (op_move rfl)
    apply ql_plain rfl (op_move rfl)
    apply ql_plain rfl (op_index_map default Tryz.underlying26 info97 rfl rfl rfl (by first | (with_reducible exact Int.toNat_natCast _) | rfl) (by omega) (by omega))
    apply ql_plain rfl (op_load_rptr Tryz.underlying97 info97 rfl rfl)
    apply ql_plain rfl (op_move rfl)
    apply ql_plain rfl (op_move rfl)
    apply ql_plain rfl (op_index_map default Tryz.underlying26 info97 rfl rfl rfl (by first | (with_reducible exact Int.toNat_natCast _) | rfl) (by omega) (by omega))
    apply ql_plain rfl (op_load_rptr Tryz.underlying97 info97 rfl rfl)
    apply ql_plain rfl (op_neq rfl rfl)
    exact ql_nil
   ·simp
   refine aany_end rfl (by kernel_rfl) ?_
   refine aw_cond rfl (fun h3 => ?_) (fun h3 => ?_)
   ·have gh3 := h3
    try simp only [nrm] at h3
    refine aw_seq ?_
    refine aw_region ?_
    refine al_op (op_assign rfl) rfl (by simp) ?_
    refine al_nil ?_
    refine aw_freeze (fun _ => false) (fsub_cons (t := 4) rfl (.leaf _ _ (.same _)) fsub_nil) ?_
    refine aw_ret ?_
    refine ⟨_, res_1 rfl rfl, ?_, rfl⟩
    rw [leq_no i (by omega) (by omega) gh3]
   ·have gh3 := h3
    try simp only [nrm] at h3
    refine aw_skip ?_
    refine aw_region ?_
    refine al_op (op_add rfl rfl (by first | exact wrap_i64 (by omega) (by omega))) rfl (by simp) ?_
    refine al_op (op_move rfl) rfl (by simp) ?_
    refine al_nil ?_
    refine ⟨i + 1, ?_, ?_, ?_, ?_, ?_⟩
    ·omega
    ·exact ⟨by omega, idx_more (p := fun k => (a.getD k default != b.getD k default)) hinv.2 gh3⟩
    ·refine sub_cons (get_as rfl ?_) ?_; rotate_left; exact sub_nil
     all_goals (first | rfl | simp)
    ·repeat (first | exact subx_refl | exact subx_del | refine subx_put rfl ?_)
    ·rfl
  ·have gh2 := h2
   try simp only [nrm] at h2
   refine aw_exit ?_
   refine aw_seq ?_
   refine aw_region ?_
   refine al_op (op_assign rfl) rfl (by simp) ?_
   refine al_nil ?_
   refine aw_freeze (fun _ => false) (fsub_cons (t := 4) rfl (.leaf _ _ (.same _)) fsub_nil) ?_
   refine aw_ret ?_
   refine ⟨_, res_1 rfl rfl, ?_, rfl⟩
   rw [leq_yes gh1 (fun k hk => hinv.2 k (by omega))]
theorem e_eqS (a b : List Bs) (ha : a.length ≤ 140737488355328) : ACp Tryz.prog 125 [.list 1 (a.map encBs), .list 1 (b.map encBs)] (.v (.bool (a == b))) := by
 refine acp_of rfl ?_
 refine ac_enter 26 Tryz.func125 rfl rfl (by simp) ?_
 refine aw_seq ?_
 refine aw_region ?_
 refine al_op (op_assign rfl) rfl (by simp) ?_
 refine al_nil ?_
 refine aw_seq ?_
 refine aw_seq ?_
 refine aw_region ?_
 refine al_op (op_move rfl) rfl (by simp) ?_
 refine al_op (op_len_map Tryz.underlying32 rfl) rfl (by simp) ?_
 refine al_op (op_move rfl) rfl (by simp) ?_
 refine al_op (op_len_map Tryz.underlying32 rfl) rfl (by simp) ?_
 refine al_op (op_neq rfl rfl) rfl (by simp) ?_
 refine al_nil ?_
 refine aw_cond rfl (fun h1 => ?_) (fun h1 => ?_)
 ·have gh1 := h1
  try simp only [nrm] at h1
  refine aw_seq ?_
  refine aw_region ?_
  refine al_op (op_assign rfl) rfl (by simp) ?_
  refine al_nil ?_
  refine aw_freeze (fun _ => false) (fsub_cons (t := 4) rfl (.leaf _ _ (.same _)) fsub_nil) ?_
  refine aw_ret ?_
  refine ⟨_, res_1 rfl rfl, ?_, rfl⟩
  rw [leq_len gh1]
 ·have gh1 := h1
  try simp only [nrm] at h1
  refine aw_skip ?_
  refine aw_seq ?_
  refine aw_seq ?_
  refine aw_region ?_
  refine al_op (op_move rfl) rfl (by simp) ?_
  refine al_op (op_len_map Tryz.underlying32 rfl) rfl (by simp) ?_
  refine al_op (op_move rfl) rfl (by simp) ?_
  refine al_nil ?_
  refine aw_block ?_
  refine aw_forT (ι := Nat) [4, 13] [] (fun i => a.length - i) (fun i => i ≤ a.length ∧ ∀ k, k < i → (a.getD k default != b.getD k default) = false) (fun i => ([(13, .v (.int .i64 ((i : Nat) : Int)))] : Env)) (fun i s => s) (0) ?_ ?_ ?_ (fun i hinv => ?_)
  ·exact ⟨Nat.zero_le _, fun k hk => absurd hk (Nat.not_lt_zero k)⟩
  ·refine sub_cons (get_as rfl ?_) ?_; rotate_left; exact sub_nil
   all_goals (first | rfl | simp)
  ·rfl
  have hi := hinv.1
  have hll : a.length = b.length := by have := bne_eq_false_iff_eq.1 gh1; omega
  refine aw_seq ?_
  refine aw_region ?_
  refine al_op (op_lss rfl rfl) rfl (by simp) ?_
  refine al_nil ?_
  refine aw_seq ?_
  refine aw_cond rfl (fun h2 => ?_) (fun h2 => ?_)
  ·have gh2 := h2
   try simp only [nrm] at h2
   refine aw_skip ?_
   refine aw_seq ?_
   refine aw_block ?_
   refine aw_seq ?_
   refine aw_region ?_
   refine al_op (op_move rfl) rfl (by simp) ?_
   refine al_op (op_assign rfl) rfl (by simp) ?_
   refine al_nil ?_
   refine aw_seq ?_
   refine aw_any (Checked.mixed Tryz.checked) ?_
   apply aany_seg (p := 0) (q := 9) (by kernel_rfl) rfl (by decide)
   ·
    apply ql_plain rfl (op_move rfl)
    apply ql_plain rfl (op_move rfl)
    apply ql_plain rfl (op_index_map default Tryz.underlying32 info9 rfl rfl rfl (by first | (with_reducible exact Int.toNat_natCast _) | rfl) (by omega) (by omega))
    apply ql_plain rfl (op_load_rptr Tryz.underlying9 info9 rfl rfl)
    apply ql_plain rfl (op_move rfl)
    apply ql_plain rfl (op_move rfl)
    apply ql_plain rfl (op_index_map default Tryz.underlying32 info9 rfl rfl rfl (by first | (with_reducible exact Int.toNat_natCast _) | rfl) (by omega) (by omega))
    apply ql_plain rfl (op_load_rptr Tryz.underlying9 info9 rfl rfl)
    apply ql_plain rfl (op_sneq_str rfl rfl)
    exact ql_nil
   ·simp
   refine aany_end rfl (by kernel_rfl) ?_
   refine aw_cond rfl (fun h3 => ?_) (fun h3 => ?_)
   ·have gh3 := h3
    try simp only [nrm] at h3
    refine aw_seq ?_
    refine aw_region ?_
    refine al_op (op_assign rfl) rfl (by simp) ?_
    refine al_nil ?_
    refine aw_freeze (fun _ => false) (fsub_cons (t := 4) rfl (.leaf _ _ (.same _)) fsub_nil) ?_
    refine aw_ret ?_
    refine ⟨_, res_1 rfl rfl, ?_, rfl⟩
    rw [leq_no i (by omega) (by omega) gh3]
   ·have gh3 := h3
    try simp only [nrm] at h3
    refine aw_skip ?_
    refine aw_region ?_
    refine al_op (op_add rfl rfl (by first | exact wrap_i64 (by omega) (by omega))) rfl (by simp) ?_
    refine al_op (op_move rfl) rfl (by simp) ?_
    refine al_nil ?_
    refine ⟨i + 1, ?_, ?_, ?_, ?_, ?_⟩
    ·omega
    ·exact ⟨by omega, idx_more (p := fun k => (a.getD k default != b.getD k default)) hinv.2 gh3⟩
    ·refine sub_cons (get_as rfl ?_) ?_; rotate_left; exact sub_nil
     all_goals (first | rfl | simp)
    ·repeat (first | exact subx_refl | exact subx_del | refine subx_put rfl ?_)
    ·rfl
  ·have gh2 := h2
   try simp only [nrm] at h2
   refine aw_exit ?_
   refine aw_seq ?_
   refine aw_region ?_
   refine al_op (op_assign rfl) rfl (by simp) ?_
   refine al_nil ?_
   refine aw_freeze (fun _ => false) (fsub_cons (t := 4) rfl (.leaf _ _ (.same _)) fsub_nil) ?_
   refine aw_ret ?_
   refine ⟨_, res_1 rfl rfl, ?_, rfl⟩
   rw [leq_yes gh1 (fun k hk => hinv.2 k (by omega))]
theorem e_eqfV (a b : List Va) (ha : a.length ≤ 140737488355328) (ih : ∀ x ∈ a, ∀ y ∈ b, ACp Tryz.prog 69 [.agg (cellsV x), .agg (cellsV y)] (.v (.bool (sameV x y)))) : ACp Tryz.prog 124 [.list 4 (a.map encVa), .list 4 (b.map encVa), .v (.func (.func 69) #[] #[])] (.v (.bool (allSame sameV a b))) := by
 refine acp_of rfl ?_
 refine ac_enter 32 Tryz.func124 rfl rfl (by simp) ?_
 refine aw_seq ?_
 refine aw_region ?_
 refine al_op (op_assign rfl) rfl (by simp) ?_
 refine al_nil ?_
 refine aw_seq ?_
 refine aw_seq ?_
 refine aw_region ?_
 refine al_op (op_move rfl) rfl (by simp) ?_
 refine al_op (op_len_map Tryz.underlying28 rfl) rfl (by simp) ?_
 refine al_op (op_move rfl) rfl (by simp) ?_
 refine al_op (op_len_map Tryz.underlying28 rfl) rfl (by simp) ?_
 refine al_op (op_neq rfl rfl) rfl (by simp) ?_
 refine al_nil ?_
 refine aw_cond rfl (fun h1 => ?_) (fun h1 => ?_)
 ·have gh1 := h1
  try simp only [nrm] at h1
  refine aw_seq ?_
  refine aw_region ?_
  refine al_op (op_assign rfl) rfl (by simp) ?_
  refine al_nil ?_
  refine aw_freeze (fun _ => false) (fsub_cons (t := 6) rfl (.leaf _ _ (.same _)) fsub_nil) ?_
  refine aw_ret ?_
  refine ⟨_, res_1 rfl rfl, ?_, rfl⟩
  rw [alls_len gh1]
 ·have gh1 := h1
  try simp only [nrm] at h1
  refine aw_skip ?_
  refine aw_seq ?_
  refine aw_seq ?_
  refine aw_region ?_
  refine al_op (op_move rfl) rfl (by simp) ?_
  refine al_op (op_len_map Tryz.underlying28 rfl) rfl (by simp) ?_
  refine al_op (op_move rfl) rfl (by simp) ?_
  refine al_nil ?_
  refine aw_block ?_
  refine aw_forT (ι := Nat) [6, 17] [8, 9] (fun i => a.length - i) (fun i => i ≤ a.length ∧ ∀ k, k < i → (!(sameV (a.getD k default) (b.getD k default))) = false) (fun i => ([(17, .v (.int .i64 ((i : Nat) : Int)))] : Env)) (fun i s => s) (0) ?_ ?_ ?_ (fun i hinv => ?_)
  ·exact ⟨Nat.zero_le _, fun k hk => absurd hk (Nat.not_lt_zero k)⟩
  ·refine sub_cons (get_as rfl ?_) ?_; rotate_left; exact sub_nil
   all_goals (first | rfl | simp)
  ·rfl
  have hi := hinv.1
  have hll : a.length = b.length := by have := bne_eq_false_iff_eq.1 gh1; omega
  refine aw_seq ?_
  refine aw_region ?_
  refine al_op (op_lss rfl rfl) rfl (by simp) ?_
  refine al_nil ?_
  refine aw_seq ?_
  refine aw_cond rfl (fun h2 => ?_) (fun h2 => ?_)
  ·have gh2 := h2
   try simp only [nrm] at h2
   refine aw_skip ?_
   refine aw_seq ?_
   refine aw_block ?_
   refine aw_seq ?_
   refine aw_region ?_
   refine al_op (op_move rfl) rfl (by simp) ?_
   refine al_op (val_as (.rptr (cellsV (a.getD i default))) (op_index_map default Tryz.underlying28 info30 rfl rfl rfl (by first | (with_reducible exact Int.toNat_natCast _) | rfl) (by omega) (by omega)) (by exact congrArg AVal.rptr (encVa_cells _))) rfl (by simp) ?_
   refine al_op (op_load_rptr Tryz.underlying30 info30 rfl rfl) rfl (by simp) ?_
   (refine al_opR (op_alloc 8 info30 rfl rfl) rfl (by simp) ?_; rintro _ _ ⟨ver8, rfl, rfl⟩)
   refine al_op (op_assign rfl) rfl (by simp) ?_
   refine al_op (op_store_ptr info30 rfl rfl rfl rfl rfl rfl (by first | rfl | exact live_one rfl | (repeat (first | exact all_live_nil | refine all_live_clo rfl ?_ | refine all_live_slice rfl ?_ | refine all_live_map rfl ?_ | refine all_live_ptr rfl ?_))) (Nat.le_of_ble_eq_true rfl)) rfl (by simp) ?_
   refine al_nil ?_
   refine aw_seq ?_
   refine aw_region ?_
   refine al_op (op_move rfl) rfl (by simp) ?_
   refine al_op (op_move rfl) rfl (by simp) ?_
   refine al_op (val_as (.rptr (cellsV (b.getD i default))) (op_index_map default Tryz.underlying28 info30 rfl rfl rfl (by first | (with_reducible exact Int.toNat_natCast _) | rfl) (by omega) (by omega)) (by exact congrArg AVal.rptr (encVa_cells _))) rfl (by simp) ?_
   refine al_op (op_load_rptr Tryz.underlying30 info30 rfl rfl) rfl (by simp) ?_
   (refine al_opR (op_alloc 9 info30 rfl rfl) rfl (by simp) ?_; rintro _ _ ⟨ver9, rfl, rfl⟩)
   refine al_op (op_store_ptr info30 rfl rfl rfl rfl rfl rfl (by first | rfl | exact live_one rfl | (repeat (first | exact all_live_nil | refine all_live_clo rfl ?_ | refine all_live_slice rfl ?_ | refine all_live_map rfl ?_ | refine all_live_ptr rfl ?_))) (Nat.le_of_ble_eq_true rfl)) rfl (by simp) ?_
   refine al_nil ?_
   refine aw_seq ?_
   refine aw_region ?_
   refine al_op (op_move rfl) rfl (by simp) ?_
   refine al_op (op_load_ptr Tryz.underlying30 info30 rfl rfl rfl rfl) rfl (by simp) ?_
   refine al_op (op_load_ptr Tryz.underlying30 info30 rfl rfl rfl rfl) rfl (by simp) ?_
   refine al_callp into69 rfl rfl rfl (ih (a.getD i default) (getD_mem (by omega)) (b.getD i default) (getD_mem (by omega)) _) (by simp) ?_
   refine al_op (op_not rfl) rfl (by simp) ?_
   refine al_nil ?_
   refine aw_cond rfl (fun h3 => ?_) (fun h3 => ?_)
   ·have gh3 := h3
    try simp only [nrm] at h3
    refine aw_seq ?_
    refine aw_region ?_
    refine al_op (op_assign rfl) rfl (by simp) ?_
    refine al_nil ?_
    refine aw_freeze (fun _ => false) (fsub_cons (t := 6) rfl (.leaf _ _ (.same _)) fsub_nil) ?_
    refine aw_ret ?_
    refine ⟨_, res_1 rfl rfl, ?_, rfl⟩
    rw [alls_no i (by omega) (by omega) gh3]
   ·have gh3 := h3
    try simp only [nrm] at h3
    refine aw_skip ?_
    refine aw_region ?_
    refine al_op (op_add rfl rfl (by first | exact wrap_i64 (by omega) (by omega))) rfl (by simp) ?_
    refine al_op (op_move rfl) rfl (by simp) ?_
    refine al_nil ?_
    refine ⟨i + 1, ?_, ?_, ?_, ?_, ?_⟩
    ·omega
    ·exact ⟨by omega, idx_more (p := fun k => (!(sameV (a.getD k default) (b.getD k default)))) hinv.2 gh3⟩
    ·refine sub_cons (get_as rfl ?_) ?_; rotate_left; exact sub_nil
     all_goals (first | rfl | simp)
    ·repeat (first | exact subx_refl | exact subx_del | refine subx_put rfl ?_)
    ·rfl
  ·have gh2 := h2
   try simp only [nrm] at h2
   refine aw_exit ?_
   refine aw_seq ?_
   refine aw_region ?_
   refine al_op (op_assign rfl) rfl (by simp) ?_
   refine al_nil ?_
   refine aw_freeze (fun _ => false) (fsub_cons (t := 6) rfl (.leaf _ _ (.same _)) fsub_nil) ?_
   refine aw_ret ?_
   refine ⟨_, res_1 rfl rfl, ?_, rfl⟩
   rw [alls_yes gh1 (fun k hk => hinv.2 k (by omega))]
theorem e_eqfT (a b : List Ty) (ha : a.length ≤ 140737488355328) (ih : ∀ x ∈ a, ∀ y ∈ b, ACp Tryz.prog 70 [.agg (cellsT x), .agg (cellsT y)] (.v (.bool (sameT x y)))) : ACp Tryz.prog 126 [.list 5 (a.map encTy), .list 5 (b.map encTy), .v (.func (.func 70) #[] #[])] (.v (.bool (allSame sameT a b))) := by
 refine acp_of rfl ?_
 refine ac_enter 32 Tryz.func126 rfl rfl (by simp) ?_
 refine aw_seq ?_
 refine aw_region ?_
 refine al_op (op_assign rfl) rfl (by simp) ?_
 refine al_nil ?_
 refine aw_seq ?_
 refine aw_seq ?_
 refine aw_region ?_
 refine al_op (op_move rfl) rfl (by simp) ?_
 refine al_op (op_len_map Tryz.underlying33 rfl) rfl (by simp) ?_
 refine al_op (op_move rfl) rfl (by simp) ?_
 refine al_op (op_len_map Tryz.underlying33 rfl) rfl (by simp) ?_
 refine al_op (op_neq rfl rfl) rfl (by simp) ?_
 refine al_nil ?_
 refine aw_cond rfl (fun h1 => ?_) (fun h1 => ?_)
 ·have gh1 := h1
  try simp only [nrm] at h1
  refine aw_seq ?_
  refine aw_region ?_
  refine al_op (op_assign rfl) rfl (by simp) ?_
  refine al_nil ?_
  refine aw_freeze (fun _ => false) (fsub_cons (t := 6) rfl (.leaf _ _ (.same _)) fsub_nil) ?_
  refine aw_ret ?_
  refine ⟨_, res_1 rfl rfl, ?_, rfl⟩
  rw [alls_len gh1]
 ·have gh1 := h1
  try simp only [nrm] at h1
  refine aw_skip ?_
  refine aw_seq ?_
  refine aw_seq ?_
  refine aw_region ?_
  refine al_op (op_move rfl) rfl (by simp) ?_
  refine al_op (op_len_map Tryz.underlying33 rfl) rfl (by simp) ?_
  refine al_op (op_move rfl) rfl (by simp) ?_
  refine al_nil ?_
  refine aw_block ?_
  refine aw_forT (ι := Nat) [6, 17] [8, 9] (fun i => a.length - i) (fun i => i ≤ a.length ∧ ∀ k, k < i → (!(sameT (a.getD k default) (b.getD k default))) = false) (fun i => ([(17, .v (.int .i64 ((i : Nat) : Int)))] : Env)) (fun i s => s) (0) ?_ ?_ ?_ (fun i hinv => ?_)
  ·exact ⟨Nat.zero_le _, fun k hk => absurd hk (Nat.not_lt_zero k)⟩
  ·refine sub_cons (get_as rfl ?_) ?_; rotate_left; exact sub_nil
   all_goals (first | rfl | simp)
  ·rfl
  have hi := hinv.1
  have hll : a.length = b.length := by have := bne_eq_false_iff_eq.1 gh1; omega
  refine aw_seq ?_
  refine aw_region ?_
  refine al_op (op_lss rfl rfl) rfl (by simp) ?_
  refine al_nil ?_
  refine aw_seq ?_
  refine aw_cond rfl (fun h2 => ?_) (fun h2 => ?_)
  ·have gh2 := h2
   try simp only [nrm] at h2
   refine aw_skip ?_
   refine aw_seq ?_
   refine aw_block ?_
   refine aw_seq ?_
   refine aw_region ?_
   refine al_op (op_move rfl) rfl (by simp) ?_
   refine al_op (val_as (.rptr (cellsT (a.getD i default))) (op_index_map default Tryz.underlying33 info35 rfl rfl rfl (by first | (with_reducible exact Int.toNat_natCast _) | rfl) (by omega) (by omega)) (by exact congrArg AVal.rptr (encTy_cells _))) rfl (by simp) ?_
   refine al_op (op_load_rptr Tryz.underlying35 info35 rfl rfl) rfl (by simp) ?_
   (refine al_opR (op_alloc 8 info35 rfl rfl) rfl (by simp) ?_; rintro _ _ ⟨ver8, rfl, rfl⟩)
   refine al_op (op_assign rfl) rfl (by simp) ?_
   refine al_op (op_store_ptr info35 rfl rfl rfl rfl rfl rfl (by first | rfl | exact live_one rfl | (repeat (first | exact all_live_nil | refine all_live_clo rfl ?_ | refine all_live_slice rfl ?_ | refine all_live_map rfl ?_ | refine all_live_ptr rfl ?_))) (Nat.le_of_ble_eq_true rfl)) rfl (by simp) ?_
   refine al_nil ?_
   refine aw_seq ?_
   refine aw_region ?_
   refine al_op (op_move rfl) rfl (by simp) ?_
   refine al_op (op_move rfl) rfl (by simp) ?_
   refine al_op (val_as (.rptr (cellsT (b.getD i default))) (op_index_map default Tryz.underlying33 info35 rfl rfl rfl (by first | (with_reducible exact Int.toNat_natCast _) | rfl) (by omega) (by omega)) (by exact congrArg AVal.rptr (encTy_cells _))) rfl (by simp) ?_
   refine al_op (op_load_rptr Tryz.underlying35 info35 rfl rfl) rfl (by simp) ?_
   (refine al_opR (op_alloc 9 info35 rfl rfl) rfl (by simp) ?_; rintro _ _ ⟨ver9, rfl, rfl⟩)
   refine al_op (op_store_ptr info35 rfl rfl rfl rfl rfl rfl (by first | rfl | exact live_one rfl | (repeat (first | exact all_live_nil | refine all_live_clo rfl ?_ | refine all_live_slice rfl ?_ | refine all_live_map rfl ?_ | refine all_live_ptr rfl ?_))) (Nat.le_of_ble_eq_true rfl)) rfl (by simp) ?_
   refine al_nil ?_
   refine aw_seq ?_
   refine aw_region ?_
   refine al_op (op_move rfl) rfl (by simp) ?_
   refine al_op (op_load_ptr Tryz.underlying35 info35 rfl rfl rfl rfl) rfl (by simp) ?_
   refine al_op (op_load_ptr Tryz.underlying35 info35 rfl rfl rfl rfl) rfl (by simp) ?_
   refine al_callp into70 rfl rfl rfl (ih (a.getD i default) (getD_mem (by omega)) (b.getD i default) (getD_mem (by omega)) _) (by simp) ?_
   refine al_op (op_not rfl) rfl (by simp) ?_
   refine al_nil ?_
   refine aw_cond rfl (fun h3 => ?_) (fun h3 => ?_)
   ·have gh3 := h3
    try simp only [nrm] at h3
    refine aw_seq ?_
    refine aw_region ?_
    refine al_op (op_assign rfl) rfl (by simp) ?_
    refine al_nil ?_
    refine aw_freeze (fun _ => false) (fsub_cons (t := 6) rfl (.leaf _ _ (.same _)) fsub_nil) ?_
    refine aw_ret ?_
    refine ⟨_, res_1 rfl rfl, ?_, rfl⟩
    rw [alls_no i (by omega) (by omega) gh3]
   ·have gh3 := h3
    try simp only [nrm] at h3
    refine aw_skip ?_
    refine aw_region ?_
    refine al_op (op_add rfl rfl (by first | exact wrap_i64 (by omega) (by omega))) rfl (by simp) ?_
    refine al_op (op_move rfl) rfl (by simp) ?_
    refine al_nil ?_
    refine ⟨i + 1, ?_, ?_, ?_, ?_, ?_⟩
    ·omega
    ·exact ⟨by omega, idx_more (p := fun k => (!(sameT (a.getD k default) (b.getD k default)))) hinv.2 gh3⟩
    ·refine sub_cons (get_as rfl ?_) ?_; rotate_left; exact sub_nil
     all_goals (first | rfl | simp)
    ·repeat (first | exact subx_refl | exact subx_del | refine subx_put rfl ?_)
    ·rfl
  ·have gh2 := h2
   try simp only [nrm] at h2
   refine aw_exit ?_
   refine aw_seq ?_
   refine aw_region ?_
   refine al_op (op_assign rfl) rfl (by simp) ?_
   refine al_nil ?_
   refine aw_freeze (fun _ => false) (fsub_cons (t := 6) rfl (.leaf _ _ (.same _)) fsub_nil) ?_
   refine aw_ret ?_
   refine ⟨_, res_1 rfl rfl, ?_, rfl⟩
   rw [alls_yes gh1 (fun k hk => hinv.2 k (by omega))]
theorem e_eqfE (a b : List Ex) (ha : a.length ≤ 140737488355328) (ih : ∀ x ∈ a, ∀ y ∈ b, ACp Tryz.prog 35 [.agg (cellsE x), .agg (cellsE y)] (.v (.bool (sameE x y)))) : ACp Tryz.prog 71 [.list 16 (a.map encE), .list 16 (b.map encE), .v (.func (.func 35) #[] #[])] (.v (.bool (allSame sameE a b))) := by
 refine acp_of rfl ?_
 refine ac_enter 32 Tryz.func71 rfl rfl (by simp) ?_
 refine aw_seq ?_
 refine aw_region ?_
 refine al_op (op_assign rfl) rfl (by simp) ?_
 refine al_nil ?_
 refine aw_seq ?_
 refine aw_seq ?_
 refine aw_region ?_
 refine al_op (op_move rfl) rfl (by simp) ?_
 refine al_op (op_len_map Tryz.underlying31 rfl) rfl (by simp) ?_
 refine al_op (op_move rfl) rfl (by simp) ?_
 refine al_op (op_len_map Tryz.underlying31 rfl) rfl (by simp) ?_
 refine al_op (op_neq rfl rfl) rfl (by simp) ?_
 refine al_nil ?_
 refine aw_cond rfl (fun h1 => ?_) (fun h1 => ?_)
 ·have gh1 := h1
  try simp only [nrm] at h1
  refine aw_seq ?_
  refine aw_region ?_
  refine al_op (op_assign rfl) rfl (by simp) ?_
  refine al_nil ?_
  refine aw_freeze (fun _ => false) (fsub_cons (t := 6) rfl (.leaf _ _ (.same _)) fsub_nil) ?_
  refine aw_ret ?_
  refine ⟨_, res_1 rfl rfl, ?_, rfl⟩
  rw [alls_len gh1]
 ·have gh1 := h1
  try simp only [nrm] at h1
  refine aw_skip ?_
  refine aw_seq ?_
  refine aw_seq ?_
  refine aw_region ?_
  refine al_op (op_move rfl) rfl (by simp) ?_
  refine al_op (op_len_map Tryz.underlying31 rfl) rfl (by simp) ?_
  refine al_op (op_move rfl) rfl (by simp) ?_
  refine al_nil ?_
  refine aw_block ?_
  refine aw_forT (ι := Nat) [6, 17] [8, 9] (fun i => a.length - i) (fun i => i ≤ a.length ∧ ∀ k, k < i → (!(sameE (a.getD k default) (b.getD k default))) = false) (fun i => ([(17, .v (.int .i64 ((i : Nat) : Int)))] : Env)) (fun i s => s) (0) ?_ ?_ ?_ (fun i hinv => ?_)
  ·exact ⟨Nat.zero_le _, fun k hk => absurd hk (Nat.not_lt_zero k)⟩
  ·refine sub_cons (get_as rfl ?_) ?_; rotate_left; exact sub_nil
   all_goals (first | rfl | simp)
  ·rfl
  have hi := hinv.1
  have hll : a.length = b.length := by have := bne_eq_false_iff_eq.1 gh1; omega
  refine aw_seq ?_
  refine aw_region ?_
  refine al_op (op_lss rfl rfl) rfl (by simp) ?_
  refine al_nil ?_
  refine aw_seq ?_
  refine aw_cond rfl (fun h2 => ?_) (fun h2 => ?_)
  ·have gh2 := h2
   try simp only [nrm] at h2
   refine aw_skip ?_
   refine aw_seq ?_
   refine aw_block ?_
   refine aw_seq ?_
   refine aw_region ?_
   refine al_op (op_move rfl) rfl (by simp) ?_
   refine al_op (val_as (.rptr (cellsE (a.getD i default))) (op_index_map default Tryz.underlying31 info37 rfl rfl rfl (by first | (with_reducible exact Int.toNat_natCast _) | rfl) (by omega) (by omega)) (by exact congrArg AVal.rptr (encE_cells _))) rfl (by simp) ?_
   refine al_op (op_load_rptr Tryz.underlying37 info37 rfl rfl) rfl (by simp) ?_
   (refine al_opR (op_alloc 8 info37 rfl rfl) rfl (by simp) ?_; rintro _ _ ⟨ver8, rfl, rfl⟩)
   refine al_op (op_assign rfl) rfl (by simp) ?_
   refine al_op (op_store_ptr info37 rfl rfl rfl rfl rfl rfl (by first | rfl | exact live_one rfl | (repeat (first | exact all_live_nil | refine all_live_clo rfl ?_ | refine all_live_slice rfl ?_ | refine all_live_map rfl ?_ | refine all_live_ptr rfl ?_))) (Nat.le_of_ble_eq_true rfl)) rfl (by simp) ?_
   refine al_nil ?_
   refine aw_seq ?_
   refine aw_region ?_
   refine al_op (op_move rfl) rfl (by simp) ?_
   refine al_op (op_move rfl) rfl (by simp) ?_
   refine al_op (val_as (.rptr (cellsE (b.getD i default))) (op_index_map default Tryz.underlying31 info37 rfl rfl rfl (by first | (with_reducible exact Int.toNat_natCast _) | rfl) (by omega) (by omega)) (by exact congrArg AVal.rptr (encE_cells _))) rfl (by simp) ?_
   refine al_op (op_load_rptr Tryz.underlying37 info37 rfl rfl) rfl (by simp) ?_
   (refine al_opR (op_alloc 9 info37 rfl rfl) rfl (by simp) ?_; rintro _ _ ⟨ver9, rfl, rfl⟩)
   refine al_op (op_store_ptr info37 rfl rfl rfl rfl rfl rfl (by first | rfl | exact live_one rfl | (repeat (first | exact all_live_nil | refine all_live_clo rfl ?_ | refine all_live_slice rfl ?_ | refine all_live_map rfl ?_ | refine all_live_ptr rfl ?_))) (Nat.le_of_ble_eq_true rfl)) rfl (by simp) ?_
   refine al_nil ?_
   refine aw_seq ?_
   refine aw_region ?_
   refine al_op (op_move rfl) rfl (by simp) ?_
   refine al_op (op_load_ptr Tryz.underlying37 info37 rfl rfl rfl rfl) rfl (by simp) ?_
   refine al_op (op_load_ptr Tryz.underlying37 info37 rfl rfl rfl rfl) rfl (by simp) ?_
   refine al_callp into35 rfl rfl rfl (ih (a.getD i default) (getD_mem (by omega)) (b.getD i default) (getD_mem (by omega)) _) (by simp) ?_
   refine al_op (op_not rfl) rfl (by simp) ?_
   refine al_nil ?_
   refine aw_cond rfl (fun h3 => ?_) (fun h3 => ?_)
   ·have gh3 := h3
    try simp only [nrm] at h3
    refine aw_seq ?_
    refine aw_region ?_
    refine al_op (op_assign rfl) rfl (by simp) ?_
    refine al_nil ?_
    refine aw_freeze (fun _ => false) (fsub_cons (t := 6) rfl (.leaf _ _ (.same _)) fsub_nil) ?_
    refine aw_ret ?_
    refine ⟨_, res_1 rfl rfl, ?_, rfl⟩
    rw [alls_no i (by omega) (by omega) gh3]
   ·have gh3 := h3
    try simp only [nrm] at h3
    refine aw_skip ?_
    refine aw_region ?_
    refine al_op (op_add rfl rfl (by first | exact wrap_i64 (by omega) (by omega))) rfl (by simp) ?_
    refine al_op (op_move rfl) rfl (by simp) ?_
    refine al_nil ?_
    refine ⟨i + 1, ?_, ?_, ?_, ?_, ?_⟩
    ·omega
    ·exact ⟨by omega, idx_more (p := fun k => (!(sameE (a.getD k default) (b.getD k default)))) hinv.2 gh3⟩
    ·refine sub_cons (get_as rfl ?_) ?_; rotate_left; exact sub_nil
     all_goals (first | rfl | simp)
    ·repeat (first | exact subx_refl | exact subx_del | refine subx_put rfl ?_)
    ·rfl
  ·have gh2 := h2
   try simp only [nrm] at h2
   refine aw_exit ?_
   refine aw_seq ?_
   refine aw_region ?_
   refine al_op (op_assign rfl) rfl (by simp) ?_
   refine al_nil ?_
   refine aw_freeze (fun _ => false) (fsub_cons (t := 6) rfl (.leaf _ _ (.same _)) fsub_nil) ?_
   refine aw_ret ?_
   refine ⟨_, res_1 rfl rfl, ?_, rfl⟩
   rw [alls_yes gh1 (fun k hk => hinv.2 k (by omega))]
end Go.Proofs.YtcgdlhkiecommaaGreatDoor

/- Printed walks (gen.py, lexer_ann.py): part 414. -/


set_option linter.unusedVariables false
set_option linter.unusedSimpArgs false
set_option maxRecDepth 20000
set_option maxHeartbeats 40000000
namespace Go.Proofs.YtcgdlhkiecommaaGreatDoor
open Go
theorem e_sameVS (a b : Va) (ha : szV a = true) (hb : szV b = true) (ih : ∀ x ∈ a.list, ∀ y ∈ b.list, ACp Tryz.prog 69 [.agg (cellsV x), .agg (cellsV y)] (.v (.bool (sameV x y)))) : ACp Tryz.prog 69 [.agg (cellsV a), .agg (cellsV b)] (.v (.bool (sameV a b))) := by
 refine acp_of rfl ?_
 obtain ⟨a1, a2, a3⟩ := szV_facts ha
 obtain ⟨b1, b2, b3⟩ := szV_facts hb
 refine ac_enter 31 Tryz.func69 rfl rfl (by simp) ?_
 refine aw_seq ?_
 refine aw_region ?_
 (refine al_opR (op_box 2 rfl rfl (by first | rfl | exact live_one rfl | (repeat (first | exact all_live_nil | refine all_live_clo rfl ?_ | refine all_live_slice rfl ?_ | refine all_live_map rfl ?_ | refine all_live_ptr rfl ?_)))) rfl (by simp) ?_; rintro _ _ ⟨ver2, rfl, rfl⟩)
 (refine al_opR (op_box 3 rfl rfl (by first | rfl | exact live_one rfl | (repeat (first | exact all_live_nil | refine all_live_clo rfl ?_ | refine all_live_slice rfl ?_ | refine all_live_map rfl ?_ | refine all_live_ptr rfl ?_)))) rfl (by simp) ?_; rintro _ _ ⟨ver3, rfl, rfl⟩)
 refine al_op (op_assign rfl) rfl (by simp) ?_
 refine al_nil ?_
 refine aw_seq ?_
 refine aw_region ?_
 refine al_op (op_field_ptr Tryz.underlying30 rfl info27 (by decide) rfl rfl rfl) rfl (by simp) ?_
 refine al_op (op_load_ptr Tryz.underlying27 info27 rfl rfl rfl rfl) rfl (by simp) ?_
 refine al_op (op_field_ptr Tryz.underlying30 rfl info27 (by decide) rfl rfl rfl) rfl (by simp) ?_
 refine al_op (op_load_ptr Tryz.underlying27 info27 rfl rfl rfl rfl) rfl (by simp) ?_
 refine al_op (op_eql rfl rfl) rfl (by simp) ?_
 refine al_op (op_move rfl) rfl (by simp) ?_
 apply al_and 6 10 16 rfl
 ·intro h1; have gh1 := h1
  try simp only [nrm] at h1
  refine al_take (op_field_ptr Tryz.underlying30 rfl info3 (by decide) rfl rfl rfl) rfl rfl rfl rfl (by simp) ?_
  refine al_take (op_load_ptr Tryz.underlying3 info3 rfl rfl rfl rfl) rfl rfl rfl rfl (by simp) ?_
  refine al_take (op_field_ptr Tryz.underlying30 rfl info3 (by decide) rfl rfl rfl) rfl rfl rfl rfl (by simp) ?_
  refine al_take (op_load_ptr Tryz.underlying3 info3 rfl rfl rfl rfl) rfl rfl rfl rfl (by simp) ?_
  refine al_take (op_eql rfl rfl) rfl rfl rfl rfl (by simp) ?_
  refine al_op (op_pick rfl rfl) rfl (by simp) ?_
  refine al_nil ⟨rfl, rfl, rfl, keep_of ?_⟩
  repeat (first | exact subx_refl | exact subx_known rfl gh1 subx_refl | refine subx_put rfl ?_)
 ·intro h1; have gh1 := h1
  try simp only [nrm] at h1
  refine al_pass rfl rfl rfl rfl (by simp) ?_
  refine al_pass rfl rfl rfl rfl (by simp) ?_
  refine al_pass rfl rfl rfl rfl (by simp) ?_
  refine al_pass rfl rfl rfl rfl (by simp) ?_
  refine al_pass rfl rfl rfl rfl (by simp) ?_
  refine al_op (op_pick rfl rfl) rfl (by simp) ?_
  refine al_nil ⟨rfl, rfl, rfl, keep_of ?_⟩
  repeat (first | exact subx_refl | exact subx_known rfl gh1 subx_refl | refine subx_put rfl ?_)
 refine al_op (op_move rfl) rfl (by simp) ?_
 apply al_and 6 17 23 rfl
 ·intro h2; have gh2 := h2
  try simp only [nrm] at h2
  refine al_take (op_field_ptr Tryz.underlying30 rfl info26 (by decide) rfl rfl rfl) rfl rfl rfl rfl (by simp) ?_
  refine al_take (op_load_ptr Tryz.underlying26 info26 rfl rfl rfl rfl) rfl rfl rfl rfl (by simp) ?_
  refine al_take (op_field_ptr Tryz.underlying30 rfl info26 (by decide) rfl rfl rfl) rfl rfl rfl rfl (by simp) ?_
  refine al_take (op_load_ptr Tryz.underlying26 info26 rfl rfl rfl rfl) rfl rfl rfl rfl (by simp) ?_
  refine al_callp_take into68 rfl rfl rfl rfl rfl rfl (e_eqB a.bits b.bits a1 _) (by simp) ?_
  refine al_op (op_pick rfl rfl) rfl (by simp) ?_
  refine al_nil ⟨rfl, rfl, rfl, keep_of ?_⟩
  repeat (first | exact subx_refl | exact subx_known rfl gh2 subx_refl | refine subx_put rfl ?_)
 ·intro h2; have gh2 := h2
  try simp only [nrm] at h2
  refine al_pass rfl rfl rfl rfl (by simp) ?_
  refine al_pass rfl rfl rfl rfl (by simp) ?_
  refine al_pass rfl rfl rfl rfl (by simp) ?_
  refine al_pass rfl rfl rfl rfl (by simp) ?_
  refine al_pass rfl rfl rfl rfl (by simp) ?_
  refine al_op (op_pick rfl rfl) rfl (by simp) ?_
  refine al_nil ⟨rfl, rfl, rfl, keep_of ?_⟩
  repeat (first | exact subx_refl | exact subx_known rfl gh2 subx_refl | refine subx_put rfl ?_)
 refine al_op (op_move rfl) rfl (by simp) ?_
 apply al_and 6 24 30 rfl
 ·intro h3; have gh3 := h3
  try simp only [nrm] at h3
  refine al_take (op_field_ptr Tryz.underlying30 rfl info28 (by decide) rfl rfl rfl) rfl rfl rfl rfl (by simp) ?_
  refine al_take (op_load_ptr Tryz.underlying28 info28 rfl rfl rfl rfl) rfl rfl rfl rfl (by simp) ?_
  refine al_take (op_field_ptr Tryz.underlying30 rfl info28 (by decide) rfl rfl rfl) rfl rfl rfl rfl (by simp) ?_
  refine al_take (op_load_ptr Tryz.underlying28 info28 rfl rfl rfl rfl) rfl rfl rfl rfl (by simp) ?_
  refine al_callp_take into124 rfl rfl rfl rfl rfl rfl (e_eqfV a.list b.list a2 ih _) (by simp) ?_
  refine al_op (op_pick rfl rfl) rfl (by simp) ?_
  refine al_nil ⟨rfl, rfl, rfl, keep_of ?_⟩
  repeat (first | exact subx_refl | exact subx_known rfl gh3 subx_refl | refine subx_put rfl ?_)
 ·intro h3; have gh3 := h3
  try simp only [nrm] at h3
  refine al_pass rfl rfl rfl rfl (by simp) ?_
  refine al_pass rfl rfl rfl rfl (by simp) ?_
  refine al_pass rfl rfl rfl rfl (by simp) ?_
  refine al_pass rfl rfl rfl rfl (by simp) ?_
  refine al_pass rfl rfl rfl rfl (by simp) ?_
  refine al_op (op_pick rfl rfl) rfl (by simp) ?_
  refine al_nil ⟨rfl, rfl, rfl, keep_of ?_⟩
  repeat (first | exact subx_refl | exact subx_known rfl gh3 subx_refl | refine subx_put rfl ?_)
 refine al_op (op_assign rfl) rfl (by simp) ?_
 refine al_nil ?_
 refine aw_freeze (fun _ => false) (fsub_cons (t := 4) rfl (.leaf _ _ (.same _)) fsub_nil) ?_
 refine aw_ret ?_
 refine ⟨_, res_1 rfl rfl, ?_, rfl⟩
 rw [sameV_eq, sameVs_all]; simp only [Bool.and_assoc]
theorem e_sameV (a : Va) : ∀ b, szV a = true → szV b = true → ACp Tryz.prog 69 [.agg (cellsV a), .agg (cellsV b)] (.v (.bool (sameV a b))) := by
  induction a using Va.ind with
  | h a ih =>
    intro b ha hb 
    obtain ⟨a1, a2, a3⟩ := szV_facts ha
    obtain ⟨b1, b2, b3⟩ := szV_facts hb
    exact e_sameVS a b ha hb (fun x hx y hy => ih x hx y (a3 x hx) (b3 y hy))
theorem e_sameTS (a b : Ty) (ha : szT a = true) (hb : szT b = true) (ih : ∀ x ∈ a.elem, ∀ y ∈ b.elem, ACp Tryz.prog 70 [.agg (cellsT x), .agg (cellsT y)] (.v (.bool (sameT x y)))) : ACp Tryz.prog 70 [.agg (cellsT a), .agg (cellsT b)] (.v (.bool (sameT a b))) := by
 refine acp_of rfl ?_
 obtain ⟨a0, a1, a2, a3⟩ := szT_facts ha
 obtain ⟨b0, b1, b2, b3⟩ := szT_facts hb
 refine ac_enter 38 Tryz.func70 rfl rfl (by simp) ?_
 refine aw_seq ?_
 refine aw_region ?_
 (refine al_opR (op_box 2 rfl rfl (by first | rfl | exact live_one rfl | (repeat (first | exact all_live_nil | refine all_live_clo rfl ?_ | refine all_live_slice rfl ?_ | refine all_live_map rfl ?_ | refine all_live_ptr rfl ?_)))) rfl (by simp) ?_; rintro _ _ ⟨ver2, rfl, rfl⟩)
 (refine al_opR (op_box 3 rfl rfl (by first | rfl | exact live_one rfl | (repeat (first | exact all_live_nil | refine all_live_clo rfl ?_ | refine all_live_slice rfl ?_ | refine all_live_map rfl ?_ | refine all_live_ptr rfl ?_)))) rfl (by simp) ?_; rintro _ _ ⟨ver3, rfl, rfl⟩)
 refine al_op (op_assign rfl) rfl (by simp) ?_
 refine al_nil ?_
 refine aw_seq ?_
 refine aw_region ?_
 refine al_op (op_field_ptr Tryz.underlying35 rfl info27 (by decide) rfl rfl rfl) rfl (by simp) ?_
 refine al_op (op_load_ptr Tryz.underlying27 info27 rfl rfl rfl rfl) rfl (by simp) ?_
 refine al_op (op_field_ptr Tryz.underlying35 rfl info27 (by decide) rfl rfl rfl) rfl (by simp) ?_
 refine al_op (op_load_ptr Tryz.underlying27 info27 rfl rfl rfl rfl) rfl (by simp) ?_
 refine al_op (op_eql rfl rfl) rfl (by simp) ?_
 refine al_op (op_move rfl) rfl (by simp) ?_
 apply al_and 6 10 16 rfl
 ·intro h1; have gh1 := h1
  try simp only [nrm] at h1
  refine al_take (op_field_ptr Tryz.underlying35 rfl info3 (by decide) rfl rfl rfl) rfl rfl rfl rfl (by simp) ?_
  refine al_take (op_load_ptr Tryz.underlying3 info3 rfl rfl rfl rfl) rfl rfl rfl rfl (by simp) ?_
  refine al_take (op_field_ptr Tryz.underlying35 rfl info3 (by decide) rfl rfl rfl) rfl rfl rfl rfl (by simp) ?_
  refine al_take (op_load_ptr Tryz.underlying3 info3 rfl rfl rfl rfl) rfl rfl rfl rfl (by simp) ?_
  refine al_take (op_eql rfl rfl) rfl rfl rfl rfl (by simp) ?_
  refine al_op (op_pick rfl rfl) rfl (by simp) ?_
  refine al_nil ⟨rfl, rfl, rfl, keep_of ?_⟩
  repeat (first | exact subx_refl | exact subx_known rfl gh1 subx_refl | refine subx_put rfl ?_)
 ·intro h1; have gh1 := h1
  try simp only [nrm] at h1
  refine al_pass rfl rfl rfl rfl (by simp) ?_
  refine al_pass rfl rfl rfl rfl (by simp) ?_
  refine al_pass rfl rfl rfl rfl (by simp) ?_
  refine al_pass rfl rfl rfl rfl (by simp) ?_
  refine al_pass rfl rfl rfl rfl (by simp) ?_
  refine al_op (op_pick rfl rfl) rfl (by simp) ?_
  refine al_nil ⟨rfl, rfl, rfl, keep_of ?_⟩
  repeat (first | exact subx_refl | exact subx_known rfl gh1 subx_refl | refine subx_put rfl ?_)
 refine al_op (op_move rfl) rfl (by simp) ?_
 apply al_and 6 17 23 rfl
 ·intro h2; have gh2 := h2
  try simp only [nrm] at h2
  refine al_take (op_field_ptr Tryz.underlying35 rfl info9 (by decide) rfl rfl rfl) rfl rfl rfl rfl (by simp) ?_
  refine al_take (op_load_ptr Tryz.underlying9 info9 rfl rfl rfl rfl) rfl rfl rfl rfl (by simp) ?_
  refine al_take (op_field_ptr Tryz.underlying35 rfl info9 (by decide) rfl rfl rfl) rfl rfl rfl rfl (by simp) ?_
  refine al_take (op_load_ptr Tryz.underlying9 info9 rfl rfl rfl rfl) rfl rfl rfl rfl (by simp) ?_
  refine al_take (op_seql_str rfl rfl) rfl rfl rfl rfl (by simp) ?_
  refine al_op (op_pick rfl rfl) rfl (by simp) ?_
  refine al_nil ⟨rfl, rfl, rfl, keep_of ?_⟩
  repeat (first | exact subx_refl | exact subx_known rfl gh2 subx_refl | refine subx_put rfl ?_)
 ·intro h2; have gh2 := h2
  try simp only [nrm] at h2
  refine al_pass rfl rfl rfl rfl (by simp) ?_
  refine al_pass rfl rfl rfl rfl (by simp) ?_
  refine al_pass rfl rfl rfl rfl (by simp) ?_
  refine al_pass rfl rfl rfl rfl (by simp) ?_
  refine al_pass rfl rfl rfl rfl (by simp) ?_
  refine al_op (op_pick rfl rfl) rfl (by simp) ?_
  refine al_nil ⟨rfl, rfl, rfl, keep_of ?_⟩
  repeat (first | exact subx_refl | exact subx_known rfl gh2 subx_refl | refine subx_put rfl ?_)
 refine al_op (op_move rfl) rfl (by simp) ?_
 apply al_and 6 24 30 rfl
 ·intro h3; have gh3 := h3
  try simp only [nrm] at h3
  refine al_take (op_field_ptr Tryz.underlying35 rfl info32 (by decide) rfl rfl rfl) rfl rfl rfl rfl (by simp) ?_
  refine al_take (op_load_ptr Tryz.underlying32 info32 rfl rfl rfl rfl) rfl rfl rfl rfl (by simp) ?_
  refine al_take (op_field_ptr Tryz.underlying35 rfl info32 (by decide) rfl rfl rfl) rfl rfl rfl rfl (by simp) ?_
  refine al_take (op_load_ptr Tryz.underlying32 info32 rfl rfl rfl rfl) rfl rfl rfl rfl (by simp) ?_
  refine al_callp_take into125 rfl rfl rfl rfl rfl rfl (e_eqS a.names b.names a1 _) (by simp) ?_
  refine al_op (op_pick rfl rfl) rfl (by simp) ?_
  refine al_nil ⟨rfl, rfl, rfl, keep_of ?_⟩
  repeat (first | exact subx_refl | exact subx_known rfl gh3 subx_refl | refine subx_put rfl ?_)
 ·intro h3; have gh3 := h3
  try simp only [nrm] at h3
  refine al_pass rfl rfl rfl rfl (by simp) ?_
  refine al_pass rfl rfl rfl rfl (by simp) ?_
  refine al_pass rfl rfl rfl rfl (by simp) ?_
  refine al_pass rfl rfl rfl rfl (by simp) ?_
  refine al_pass rfl rfl rfl rfl (by simp) ?_
  refine al_op (op_pick rfl rfl) rfl (by simp) ?_
  refine al_nil ⟨rfl, rfl, rfl, keep_of ?_⟩
  repeat (first | exact subx_refl | exact subx_known rfl gh3 subx_refl | refine subx_put rfl ?_)
 refine al_op (op_move rfl) rfl (by simp) ?_
 apply al_and 6 31 37 rfl
 ·intro h4; have gh4 := h4
  try simp only [nrm] at h4
  refine al_take (op_field_ptr Tryz.underlying35 rfl info33 (by decide) rfl rfl rfl) rfl rfl rfl rfl (by simp) ?_
  refine al_take (op_load_ptr Tryz.underlying33 info33 rfl rfl rfl rfl) rfl rfl rfl rfl (by simp) ?_
  refine al_take (op_field_ptr Tryz.underlying35 rfl info33 (by decide) rfl rfl rfl) rfl rfl rfl rfl (by simp) ?_
  refine al_take (op_load_ptr Tryz.underlying33 info33 rfl rfl rfl rfl) rfl rfl rfl rfl (by simp) ?_
  refine al_callp_take into126 rfl rfl rfl rfl rfl rfl (e_eqfT a.elem b.elem a2 ih _) (by simp) ?_
  refine al_op (op_pick rfl rfl) rfl (by simp) ?_
  refine al_nil ⟨rfl, rfl, rfl, keep_of ?_⟩
  repeat (first | exact subx_refl | exact subx_known rfl gh4 subx_refl | refine subx_put rfl ?_)
 ·intro h4; have gh4 := h4
  try simp only [nrm] at h4
  refine al_pass rfl rfl rfl rfl (by simp) ?_
  refine al_pass rfl rfl rfl rfl (by simp) ?_
  refine al_pass rfl rfl rfl rfl (by simp) ?_
  refine al_pass rfl rfl rfl rfl (by simp) ?_
  refine al_pass rfl rfl rfl rfl (by simp) ?_
  refine al_op (op_pick rfl rfl) rfl (by simp) ?_
  refine al_nil ⟨rfl, rfl, rfl, keep_of ?_⟩
  repeat (first | exact subx_refl | exact subx_known rfl gh4 subx_refl | refine subx_put rfl ?_)
 refine al_op (op_assign rfl) rfl (by simp) ?_
 refine al_nil ?_
 refine aw_freeze (fun _ => false) (fsub_cons (t := 4) rfl (.leaf _ _ (.same _)) fsub_nil) ?_
 refine aw_ret ?_
 refine ⟨_, res_1 rfl rfl, ?_, rfl⟩
 rw [sameT_eq, sameTs_all]; simp only [Bool.and_assoc]
theorem e_sameT (a : Ty) : ∀ b, szT a = true → szT b = true → ACp Tryz.prog 70 [.agg (cellsT a), .agg (cellsT b)] (.v (.bool (sameT a b))) := by
  induction a using Ty.ind with
  | h a ih =>
    intro b ha hb 
    obtain ⟨a0, a1, a2, a3⟩ := szT_facts ha
    obtain ⟨b0, b1, b2, b3⟩ := szT_facts hb
    exact e_sameTS a b ha hb (fun x hx y hy => ih x hx y (a3 x hx) (b3 y hy))
theorem e_sameS (a b : Ex) (ha : szX a = true) (hb : szX b = true) (ih : ∀ x ∈ a.kids, ∀ y ∈ b.kids, ACp Tryz.prog 35 [.agg (cellsE x), .agg (cellsE y)] (.v (.bool (sameE x y)))) : ACp Tryz.prog 35 [.agg (cellsE a), .agg (cellsE b)] (.v (.bool (sameE a b))) := by
 refine acp_of rfl ?_
 obtain ⟨a1, a2, a3, a6, a7, a8⟩ := szX_facts ha
 obtain ⟨b1, b2, b3, b6, b7, b8⟩ := szX_facts hb
 refine ac_enter 62 Tryz.func35 rfl rfl (by simp) ?_
 refine aw_seq ?_
 refine aw_region ?_
 (refine al_opR (op_box 2 rfl rfl (by first | rfl | exact live_one rfl | (repeat (first | exact all_live_nil | refine all_live_clo rfl ?_ | refine all_live_slice rfl ?_ | refine all_live_map rfl ?_ | refine all_live_ptr rfl ?_)))) rfl (by simp) ?_; rintro _ _ ⟨ver2, rfl, rfl⟩)
 (refine al_opR (op_box 3 rfl rfl (by first | rfl | exact live_one rfl | (repeat (first | exact all_live_nil | refine all_live_clo rfl ?_ | refine all_live_slice rfl ?_ | refine all_live_map rfl ?_ | refine all_live_ptr rfl ?_)))) rfl (by simp) ?_; rintro _ _ ⟨ver3, rfl, rfl⟩)
 refine al_op (op_assign rfl) rfl (by simp) ?_
 refine al_nil ?_
 refine aw_seq ?_
 refine aw_seq ?_
 refine aw_region ?_
 refine al_op (op_field_ptr Tryz.underlying37 rfl info25 (by decide) rfl rfl rfl) rfl (by simp) ?_
 refine al_op (op_load_ptr Tryz.underlying25 info25 rfl rfl rfl rfl) rfl (by simp) ?_
 refine al_op (op_field_ptr Tryz.underlying37 rfl info25 (by decide) rfl rfl rfl) rfl (by simp) ?_
 refine al_op (op_load_ptr Tryz.underlying25 info25 rfl rfl rfl rfl) rfl (by simp) ?_
 refine al_op (op_neq rfl rfl) rfl (by simp) ?_
 refine al_op (op_move rfl) rfl (by simp) ?_
 apply al_or 6 10 16 rfl
 ·intro h1; have gh1 := h1
  try simp only [nrm] at h1
  refine al_take (op_field_ptr Tryz.underlying37 rfl info9 (by decide) rfl rfl rfl) rfl rfl rfl rfl (by simp) ?_
  refine al_take (op_load_ptr Tryz.underlying9 info9 rfl rfl rfl rfl) rfl rfl rfl rfl (by simp) ?_
  refine al_take (op_field_ptr Tryz.underlying37 rfl info9 (by decide) rfl rfl rfl) rfl rfl rfl rfl (by simp) ?_
  refine al_take (op_load_ptr Tryz.underlying9 info9 rfl rfl rfl rfl) rfl rfl rfl rfl (by simp) ?_
  refine al_take (op_sneq_str rfl rfl) rfl rfl rfl rfl (by simp) ?_
  refine al_op (op_pick rfl rfl) rfl (by simp) ?_
  refine al_nil ⟨rfl, rfl, rfl, keep_of ?_⟩
  repeat (first | exact subx_refl | exact subx_known rfl gh1 subx_refl | refine subx_put rfl ?_)
 ·intro h1; have gh1 := h1
  try simp only [nrm] at h1
  refine al_pass rfl rfl rfl rfl (by simp) ?_
  refine al_pass rfl rfl rfl rfl (by simp) ?_
  refine al_pass rfl rfl rfl rfl (by simp) ?_
  refine al_pass rfl rfl rfl rfl (by simp) ?_
  refine al_pass rfl rfl rfl rfl (by simp) ?_
  refine al_op (op_pick rfl rfl) rfl (by simp) ?_
  refine al_nil ⟨rfl, rfl, rfl, keep_of ?_⟩
  repeat (first | exact subx_refl | exact subx_known rfl gh1 subx_refl | refine subx_put rfl ?_)
 refine al_op (op_move rfl) rfl (by simp) ?_
 apply al_or 6 17 23 rfl
 ·intro h2; have gh2 := h2
  try simp only [nrm] at h2
  refine al_take (op_field_ptr Tryz.underlying37 rfl info3 (by decide) rfl rfl rfl) rfl rfl rfl rfl (by simp) ?_
  refine al_take (op_load_ptr Tryz.underlying3 info3 rfl rfl rfl rfl) rfl rfl rfl rfl (by simp) ?_
  refine al_take (op_field_ptr Tryz.underlying37 rfl info3 (by decide) rfl rfl rfl) rfl rfl rfl rfl (by simp) ?_
  refine al_take (op_load_ptr Tryz.underlying3 info3 rfl rfl rfl rfl) rfl rfl rfl rfl (by simp) ?_
  refine al_take (op_neq rfl rfl) rfl rfl rfl rfl (by simp) ?_
  refine al_op (op_pick rfl rfl) rfl (by simp) ?_
  refine al_nil ⟨rfl, rfl, rfl, keep_of ?_⟩
  repeat (first | exact subx_refl | exact subx_known rfl gh2 subx_refl | refine subx_put rfl ?_)
 ·intro h2; have gh2 := h2
  try simp only [nrm] at h2
  refine al_pass rfl rfl rfl rfl (by simp) ?_
  refine al_pass rfl rfl rfl rfl (by simp) ?_
  refine al_pass rfl rfl rfl rfl (by simp) ?_
  refine al_pass rfl rfl rfl rfl (by simp) ?_
  refine al_pass rfl rfl rfl rfl (by simp) ?_
  refine al_op (op_pick rfl rfl) rfl (by simp) ?_
  refine al_nil ⟨rfl, rfl, rfl, keep_of ?_⟩
  repeat (first | exact subx_refl | exact subx_known rfl gh2 subx_refl | refine subx_put rfl ?_)
 refine al_op (op_move rfl) rfl (by simp) ?_
 apply al_or 8 24 32 rfl
 ·intro h3; have gh3 := h3
  try simp only [nrm] at h3
  refine al_take (op_field_ptr Tryz.underlying37 rfl info31 (by decide) rfl rfl rfl) rfl rfl rfl rfl (by simp) ?_
  refine al_take (op_load_ptr Tryz.underlying31 info31 rfl rfl rfl rfl) rfl rfl rfl rfl (by simp) ?_
  refine al_take (op_len_map Tryz.underlying31 rfl) rfl rfl rfl rfl (by simp) ?_
  refine al_take (op_field_ptr Tryz.underlying37 rfl info31 (by decide) rfl rfl rfl) rfl rfl rfl rfl (by simp) ?_
  refine al_take (op_load_ptr Tryz.underlying31 info31 rfl rfl rfl rfl) rfl rfl rfl rfl (by simp) ?_
  refine al_take (op_len_map Tryz.underlying31 rfl) rfl rfl rfl rfl (by simp) ?_
  refine al_take (op_neq rfl rfl) rfl rfl rfl rfl (by simp) ?_
  refine al_op (op_pick rfl rfl) rfl (by simp) ?_
  refine al_nil ⟨rfl, rfl, rfl, keep_of ?_⟩
  repeat (first | exact subx_refl | exact subx_known rfl gh3 subx_refl | refine subx_put rfl ?_)
 ·intro h3; have gh3 := h3
  try simp only [nrm] at h3
  refine al_pass rfl rfl rfl rfl (by simp) ?_
  refine al_pass rfl rfl rfl rfl (by simp) ?_
  refine al_pass rfl rfl rfl rfl (by simp) ?_
  refine al_pass rfl rfl rfl rfl (by simp) ?_
  refine al_pass rfl rfl rfl rfl (by simp) ?_
  refine al_pass rfl rfl rfl rfl (by simp) ?_
  refine al_pass rfl rfl rfl rfl (by simp) ?_
  refine al_op (op_pick rfl rfl) rfl (by simp) ?_
  refine al_nil ⟨rfl, rfl, rfl, keep_of ?_⟩
  repeat (first | exact subx_refl | exact subx_known rfl gh3 subx_refl | refine subx_put rfl ?_)
 refine al_op (op_move rfl) rfl (by simp) ?_
 apply al_or 7 33 40 rfl
 ·intro h4; have gh4 := h4
  try simp only [nrm] at h4
  refine al_take (op_field_ptr Tryz.underlying37 rfl info26 (by decide) rfl rfl rfl) rfl rfl rfl rfl (by simp) ?_
  refine al_take (op_load_ptr Tryz.underlying26 info26 rfl rfl rfl rfl) rfl rfl rfl rfl (by simp) ?_
  refine al_take (op_field_ptr Tryz.underlying37 rfl info26 (by decide) rfl rfl rfl) rfl rfl rfl rfl (by simp) ?_
  refine al_take (op_load_ptr Tryz.underlying26 info26 rfl rfl rfl rfl) rfl rfl rfl rfl (by simp) ?_
  refine al_callp_take into68 rfl rfl rfl rfl rfl rfl (e_eqB a.bits b.bits a2 _) (by simp) ?_
  refine al_take (op_not rfl) rfl rfl rfl rfl (by simp) ?_
  refine al_op (op_pick rfl rfl) rfl (by simp) ?_
  refine al_nil ⟨rfl, rfl, rfl, keep_of ?_⟩
  repeat (first | exact subx_refl | exact subx_known rfl gh4 subx_refl | refine subx_put rfl ?_)
 ·intro h4; have gh4 := h4
  try simp only [nrm] at h4
  refine al_pass rfl rfl rfl rfl (by simp) ?_
  refine al_pass rfl rfl rfl rfl (by simp) ?_
  refine al_pass rfl rfl rfl rfl (by simp) ?_
  refine al_pass rfl rfl rfl rfl (by simp) ?_
  refine al_pass rfl rfl rfl rfl (by simp) ?_
  refine al_pass rfl rfl rfl rfl (by simp) ?_
  refine al_op (op_pick rfl rfl) rfl (by simp) ?_
  refine al_nil ⟨rfl, rfl, rfl, keep_of ?_⟩
  repeat (first | exact subx_refl | exact subx_known rfl gh4 subx_refl | refine subx_put rfl ?_)
 refine al_op (op_move rfl) rfl (by simp) ?_
 apply al_or 7 41 48 rfl
 ·intro h5; have gh5 := h5
  try simp only [nrm] at h5
  refine al_take (op_field_ptr Tryz.underlying37 rfl info30 (by decide) rfl rfl rfl) rfl rfl rfl rfl (by simp) ?_
  refine al_take (op_load_ptr Tryz.underlying30 info30 rfl rfl rfl rfl) rfl rfl rfl rfl (by simp) ?_
  refine al_take (op_field_ptr Tryz.underlying37 rfl info30 (by decide) rfl rfl rfl) rfl rfl rfl rfl (by simp) ?_
  refine al_take (op_load_ptr Tryz.underlying30 info30 rfl rfl rfl rfl) rfl rfl rfl rfl (by simp) ?_
  refine al_callp_take into69 rfl rfl rfl rfl rfl rfl (e_sameV a.val b.val a6 b6 _) (by simp) ?_
  refine al_take (op_not rfl) rfl rfl rfl rfl (by simp) ?_
  refine al_op (op_pick rfl rfl) rfl (by simp) ?_
  refine al_nil ⟨rfl, rfl, rfl, keep_of ?_⟩
  repeat (first | exact subx_refl | exact subx_known rfl gh5 subx_refl | refine subx_put rfl ?_)
 ·intro h5; have gh5 := h5
  try simp only [nrm] at h5
  refine al_pass rfl rfl rfl rfl (by simp) ?_
  refine al_pass rfl rfl rfl rfl (by simp) ?_
  refine al_pass rfl rfl rfl rfl (by simp) ?_
  refine al_pass rfl rfl rfl rfl (by simp) ?_
  refine al_pass rfl rfl rfl rfl (by simp) ?_
  refine al_pass rfl rfl rfl rfl (by simp) ?_
  refine al_op (op_pick rfl rfl) rfl (by simp) ?_
  refine al_nil ⟨rfl, rfl, rfl, keep_of ?_⟩
  repeat (first | exact subx_refl | exact subx_known rfl gh5 subx_refl | refine subx_put rfl ?_)
 refine al_op (op_move rfl) rfl (by simp) ?_
 apply al_or 7 49 56 rfl
 ·intro h6; have gh6 := h6
  try simp only [nrm] at h6
  refine al_take (op_field_ptr Tryz.underlying37 rfl info35 (by decide) rfl rfl rfl) rfl rfl rfl rfl (by simp) ?_
  refine al_take (op_load_ptr Tryz.underlying35 info35 rfl rfl rfl rfl) rfl rfl rfl rfl (by simp) ?_
  refine al_take (op_field_ptr Tryz.underlying37 rfl info35 (by decide) rfl rfl rfl) rfl rfl rfl rfl (by simp) ?_
  refine al_take (op_load_ptr Tryz.underlying35 info35 rfl rfl rfl rfl) rfl rfl rfl rfl (by simp) ?_
  refine al_callp_take into70 rfl rfl rfl rfl rfl rfl (e_sameT a.type b.type a7 b7 _) (by simp) ?_
  refine al_take (op_not rfl) rfl rfl rfl rfl (by simp) ?_
  refine al_op (op_pick rfl rfl) rfl (by simp) ?_
  refine al_nil ⟨rfl, rfl, rfl, keep_of ?_⟩
  repeat (first | exact subx_refl | exact subx_known rfl gh6 subx_refl | refine subx_put rfl ?_)
 ·intro h6; have gh6 := h6
  try simp only [nrm] at h6
  refine al_pass rfl rfl rfl rfl (by simp) ?_
  refine al_pass rfl rfl rfl rfl (by simp) ?_
  refine al_pass rfl rfl rfl rfl (by simp) ?_
  refine al_pass rfl rfl rfl rfl (by simp) ?_
  refine al_pass rfl rfl rfl rfl (by simp) ?_
  refine al_pass rfl rfl rfl rfl (by simp) ?_
  refine al_op (op_pick rfl rfl) rfl (by simp) ?_
  refine al_nil ⟨rfl, rfl, rfl, keep_of ?_⟩
  repeat (first | exact subx_refl | exact subx_known rfl gh6 subx_refl | refine subx_put rfl ?_)
 refine al_nil ?_
 refine aw_cond rfl (fun h7 => ?_) (fun h7 => ?_)
 ·have gh7 := h7
  try simp only [nrm] at h7
  refine aw_seq ?_
  refine aw_region ?_
  refine al_op (op_assign rfl) rfl (by simp) ?_
  refine al_nil ?_
  refine aw_freeze (fun _ => false) (fsub_cons (t := 4) rfl (.leaf _ _ (.same _)) fsub_nil) ?_
  refine aw_ret ?_
  refine ⟨_, res_1 rfl rfl, ?_, rfl⟩
  rw [sameE_no gh7]
 ·have gh7 := h7
  try simp only [nrm] at h7
  refine aw_skip ?_
  refine aw_seq ?_
  refine aw_region ?_
  refine al_op (op_field_ptr Tryz.underlying37 rfl info31 (by decide) rfl rfl rfl) rfl (by simp) ?_
  refine al_op (op_load_ptr Tryz.underlying31 info31 rfl rfl rfl rfl) rfl (by simp) ?_
  refine al_op (op_field_ptr Tryz.underlying37 rfl info31 (by decide) rfl rfl rfl) rfl (by simp) ?_
  refine al_op (op_load_ptr Tryz.underlying31 info31 rfl rfl rfl rfl) rfl (by simp) ?_
  refine al_callp into71 rfl rfl rfl (e_eqfE a.kids b.kids a3 ih _) (by simp) ?_
  refine al_op (op_assign rfl) rfl (by simp) ?_
  refine al_nil ?_
  refine aw_freeze (fun _ => false) (fsub_cons (t := 4) rfl (.leaf _ _ (.same _)) fsub_nil) ?_
  refine aw_ret ?_
  refine ⟨_, res_1 rfl rfl, ?_, rfl⟩
  rw [sameE_yes gh7]
theorem e_same (a : Ex) : ∀ b, szX a = true → szX b = true → ACp Tryz.prog 35 [.agg (cellsE a), .agg (cellsE b)] (.v (.bool (sameE a b))) := by
  induction a using Ex.ind with
  | h a ih =>
    intro b ha hb 
    obtain ⟨a1, a2, a3, a6, a7, a8⟩ := szX_facts ha
    obtain ⟨b1, b2, b3, b6, b7, b8⟩ := szX_facts hb
    exact e_sameS a b ha hb (fun x hx y hy => ih x hx y (a8 x hx) (b8 y hy))
end Go.Proofs.YtcgdlhkiecommaaGreatDoor

/- Printed walks (gen.py, lexer_ann.py): part 415. -/



set_option linter.unusedVariables false
set_option linter.unusedSimpArgs false
set_option maxRecDepth 20000
set_option maxHeartbeats 40000000
namespace Go.Proofs.YtcgdlhkiecommaaGreatDoor
open Go
theorem e_put (v0 v1 : Nat) (out : List Tk) (d m : Int) (t : Tk) (hno : out.length ≤ 1000000000) : AC Tryz.prog 145 [.ptr 0 v0 0 0, .agg (encK t)] (wr v0 v1 out d m []) (fun r σ' => WrK v0 (out ++ [t]) (d) (m) r σ') := by
 refine ac_enter 14 Tryz.func145 rfl rfl (by simp) ?_
 refine aw_seq ?_
 refine aw_region ?_
 (refine al_opR (op_box 3 rfl rfl (by first | rfl | exact live_one rfl | (repeat (first | exact all_live_nil | refine all_live_clo rfl ?_ | refine all_live_slice rfl ?_ | refine all_live_map rfl ?_ | refine all_live_ptr rfl ?_)))) rfl (by simp) ?_; rintro _ _ ⟨ver3, rfl, rfl⟩)
 refine al_nil ?_
 refine aw_plan [0, 1, 2, 3, 4, 5, 6, 7, 8, 9, 10] (Checked.mixed Tryz.checked) (by kernel_rfl) ?_
 refine afl_float rfl rfl (opk_of (op_move rfl)) (by simp) ?_
 refine afl_float rfl rfl (opk_of (op_move rfl)) (by simp) ?_
 refine afl_float rfl rfl (opk_of (op_nilCheck_ptr rfl rfl)) (by simp) ?_
 refine afl_float rfl rfl (opk_of (op_field_ptr Tryz.underlying123 rfl info22 (by decide) rfl rfl rfl)) (by simp) ?_
 refine afl_float rfl rfl (opk_of (op_load_ptr Tryz.underlying22 info22 rfl rfl rfl rfl)) (by simp) ?_
 refine afl_float rfl rfl (opk_of (op_load_ptr Tryz.underlying65 info65 rfl rfl rfl rfl)) (by simp) ?_
 refine afl_float rfl rfl (opk_of (op_buildSlice Tryz.underlying22 info65 rfl rfl (by decide) rfl (by decide) rfl (by first | rfl | (repeat (first | exact parts_nil | refine parts_cons rfl (by repeat (first | exact all_live_nil | refine all_live_clo rfl ?_ | refine all_live_slice rfl ?_ | refine all_live_map rfl ?_ | refine all_live_ptr rfl ?_)) ?_))) rfl rfl rfl)) (by simp) ?_
 (refine afl_effR rfl rfl (by kernel_rfl) (op_append_one t Tryz.underlying22 Tryz.underlying22 rfl info65 rfl rfl (by decide) rfl rfl rfl (by first | rfl | simp) rfl rfl (by first | omega | (simp; done) | (simp; omega)) (by show _ * 48 ≤ _; first | omega | (simp; done) | (simp; omega))) (by simp) ?_; rintro _ _ ⟨ver11, rfl, rfl⟩; refine ⟨?_, ?_⟩)
 ·
  refine loose_anc 6 rfl (by kernel_rfl) ?_
  refine loose_anc 5 rfl (by kernel_rfl) ?_
  refine loose_anc 4 rfl (by kernel_rfl) ?_
  refine loose_anc 3 rfl (by kernel_rfl) ?_
  refine loose_anc 2 rfl (by kernel_rfl) ?_
  refine loose_anc 1 rfl (by kernel_rfl) ?_
  refine loose_k rfl (opk_of (op_move rfl)) ?_
  exact loose_nil
 refine afl_float rfl rfl (opk_of (op_nilCheck_ptr rfl rfl)) (by simp) ?_
 refine afl_float rfl rfl (opk_of (op_field_ptr Tryz.underlying123 rfl info22 (by decide) rfl rfl rfl)) (by simp) ?_
 (refine afl_eff rfl rfl (by kernel_rfl) (op_store_ptr info22 rfl rfl rfl rfl rfl rfl (by first | rfl | exact live_one rfl | (repeat (first | exact all_live_nil | refine all_live_clo rfl ?_ | refine all_live_slice rfl ?_ | refine all_live_map rfl ?_ | refine all_live_ptr rfl ?_))) (Nat.le_of_ble_eq_true rfl)) (by simp) ?_ ?_)
 ·
  refine loose_anc 9 rfl (by kernel_rfl) ?_
  refine loose_anc 8 rfl (by kernel_rfl) ?_
  refine loose_fix rfl ?_
  refine loose_anc 6 rfl (by kernel_rfl) ?_
  refine loose_anc 5 rfl (by kernel_rfl) ?_
  refine loose_anc 4 rfl (by kernel_rfl) ?_
  refine loose_anc 3 rfl (by kernel_rfl) ?_
  refine loose_anc 2 rfl (by kernel_rfl) ?_
  refine loose_anc 1 rfl (by kernel_rfl) ?_
  refine loose_anc 0 rfl (by kernel_rfl) ?_
  exact loose_nil
 refine afl_end ?_
 refine ⟨_, res_0 rfl, ?_⟩
 exact ⟨ver11, rfl, rfl⟩
theorem e_symbol (v0 v1 : Nat) (out : List Tk) (d m : Int) (s : Bs) (hs : s.length ≤ 1000000000) (hno : out.length ≤ 1000000000) : AC Tryz.prog 150 [.ptr 0 v0 0 0, .v (.string (str (s)))] (wr v0 v1 out d m []) (fun r σ' => WrK v0 (out ++ [tkS s]) (d) (m) r σ') := by
 refine ac_enter 12 Tryz.func150 rfl rfl (by simp) ?_
 refine aw_seq ?_
 refine aw_region ?_
 refine al_op (op_assign rfl) rfl (by simp) ?_
 refine al_nil ?_
 refine aw_seq ?_
 refine aw_seq ?_
 refine aw_region ?_
 refine al_op (op_move rfl) rfl (by simp) ?_
 refine al_callp into119 rfl rfl rfl ((c_isWord _ (by first | assumption | omega | (simp; done) | (simp; omega) | decide)) _) (by simp) ?_
 refine al_nil ?_
 refine aw_cond rfl (fun h1 => ?_) (fun h1 => ?_)
 ·have gh1 := h1
  try simp only [nrm] at h1
  refine aw_region ?_
  refine al_op (op_assign rfl) rfl (by simp) ?_
  refine al_nil ?_
  refine aw_region ?_
  refine al_op (op_move rfl) rfl (by simp) ?_
  refine al_op (op_move rfl) rfl (by simp) ?_
  refine al_op (op_move rfl) rfl (by simp) ?_
  refine al_op (op_build_struct Tryz.underlying65 info65 rfl place65 rfl (by first | rfl | (repeat (first | exact parts_nil | refine parts_cons rfl (by repeat (first | exact all_live_nil | refine all_live_clo rfl ?_ | refine all_live_slice rfl ?_ | refine all_live_map rfl ?_ | refine all_live_ptr rfl ?_)) ?_))) rfl) rfl (by simp) ?_
  (refine al_call into145 rfl rfl rfl (wr_lift rfl (e_put v0 v1 out d m ⟨2, s, 0, 0, 0⟩ hno) _ (wr_below (by rfl))) (by simp) ?_; rintro _ _ ⟨v11, rfl, rfl⟩)
  refine al_nil ?_
  refine ⟨_, res_0 rfl, ?_⟩
  exact ⟨_, rfl, by rw [tkS, gh1]; rfl⟩
 ·have gh1 := h1
  try simp only [nrm] at h1
  refine aw_skip ?_
  refine aw_region ?_
  refine al_op (op_move rfl) rfl (by simp) ?_
  refine al_op (op_move rfl) rfl (by simp) ?_
  refine al_op (op_move rfl) rfl (by simp) ?_
  refine al_op (op_build_struct Tryz.underlying65 info65 rfl place65 rfl (by first | rfl | (repeat (first | exact parts_nil | refine parts_cons rfl (by repeat (first | exact all_live_nil | refine all_live_clo rfl ?_ | refine all_live_slice rfl ?_ | refine all_live_map rfl ?_ | refine all_live_ptr rfl ?_)) ?_))) rfl) rfl (by simp) ?_
  (refine al_call into145 rfl rfl rfl (wr_lift rfl (e_put v0 v1 out d m ⟨7, s, 0, 0, 0⟩ hno) _ (wr_below (by rfl))) (by simp) ?_; rintro _ _ ⟨v11, rfl, rfl⟩)
  refine al_nil ?_
  refine ⟨_, res_0 rfl, ?_⟩
  exact ⟨_, rfl, by rw [tkS, gh1]; rfl⟩
theorem e_within (v0 v1 : Nat) (out : List Tk) (d m : Int) (hd0 : 0 ≤ d) (hdm : d ≤ m) (hm : m ≤ 1000000000) (hno : out.length ≤ 1000000000) (s : Bs) (hs : s.length ≤ 1000000000) (τ : Store) (hτ : τ.below 1000 = true) (f : FuncId) (hin : Into Tryz.prog f) (caps : List AVal) (T : List Tk) (D : Nat) (H : ∀ v1, AC Tryz.prog f caps (wr v0 v1 (out ++ [tkS s]) (d + 1) (max m (d + 1)) τ) (WrT v0 (out ++ [tkS s] ++ T) (d + 1) (max (max m (d + 1)) (d + 1 + (D : Nat))) τ)) : AC Tryz.prog 148 [.ptr 0 v0 0 0, .v (.string (str (s))), .fn f caps] (wr v0 v1 out d m τ) (fun r σ' => WrT v0 (out ++ tkS s :: T) d (max m (d + (D + 1 : Nat))) τ r σ') := by
 refine ac_enter 37 Tryz.func148 rfl rfl (by simp) ?_
 refine aw_seq ?_
 refine aw_region ?_
 refine al_op (op_move rfl) rfl (by simp) ?_
 refine al_op (op_move rfl) rfl (by simp) ?_
 (refine al_call into150 rfl rfl rfl (wr_lift rfl (e_symbol v0 v1 out d m s hs hno) _ (wr_below hτ)) (by simp) ?_; rintro _ _ ⟨v8, rfl, rfl⟩)
 refine al_nil ?_
 refine aw_seq ?_
 refine aw_region ?_
 refine al_op (op_move rfl) rfl (by simp) ?_
 refine al_op (op_nilCheck_ptr rfl rfl) rfl (by simp) ?_
 refine al_op (op_field_ptr Tryz.underlying123 rfl info3 (by decide) rfl rfl rfl) rfl (by simp) ?_
 refine al_op (op_load_ptr Tryz.underlying3 info3 rfl rfl rfl rfl) rfl (by simp) ?_
 refine al_op (op_add rfl rfl (by first | exact wrap_i64 (by omega) (by omega))) rfl (by simp) ?_
 refine al_op (op_nilCheck_ptr rfl rfl) rfl (by simp) ?_
 refine al_op (op_field_ptr Tryz.underlying123 rfl info3 (by decide) rfl rfl rfl) rfl (by simp) ?_
 refine al_op (op_store_ptr info3 rfl rfl rfl rfl rfl rfl (by first | rfl | exact live_one rfl | (repeat (first | exact all_live_nil | refine all_live_clo rfl ?_ | refine all_live_slice rfl ?_ | refine all_live_map rfl ?_ | refine all_live_ptr rfl ?_))) (Nat.le_of_ble_eq_true rfl)) rfl (by simp) ?_
 refine al_nil ?_
 refine aw_seq ?_
 refine aw_any (Checked.mixed Tryz.checked) ?_
 apply aany_seg (p := 0) (q := 12) (by kernel_rfl) rfl (by decide)
 ·
  apply ql_plain rfl (op_move rfl)
  apply ql_plain rfl (op_move rfl)
  apply ql_plain rfl (op_nilCheck_ptr rfl rfl)
  apply ql_plain rfl (op_field_ptr Tryz.underlying123 rfl info3 (by decide) rfl rfl rfl)
  apply ql_plain rfl (op_load_ptr Tryz.underlying3 info3 rfl rfl rfl rfl)
  apply ql_plain rfl (op_move rfl)
  apply ql_plain rfl (op_nilCheck_ptr rfl rfl)
  apply ql_plain rfl (op_field_ptr Tryz.underlying123 rfl info3 (by decide) rfl rfl rfl)
  apply ql_plain rfl (op_load_ptr Tryz.underlying3 info3 rfl rfl rfl rfl)
  apply ql_plain rfl (op_max rfl rfl)
  apply ql_plain rfl (op_nilCheck_ptr rfl rfl)
  apply ql_plain rfl (op_field_ptr Tryz.underlying123 rfl info3 (by decide) rfl rfl rfl)
  exact ql_nil
 ·simp
 refine aany_op (by kernel_rfl) rfl rfl (op_store_ptr info3 rfl rfl rfl rfl rfl rfl (by first | rfl | exact live_one rfl | (repeat (first | exact all_live_nil | refine all_live_clo rfl ?_ | refine all_live_slice rfl ?_ | refine all_live_map rfl ?_ | refine all_live_ptr rfl ?_))) (Nat.le_of_ble_eq_true rfl)) (by simp) ?_
 refine aany_end rfl (by kernel_rfl) ?_
 refine aw_seq ?_
 refine aw_region ?_
 refine al_op (op_move rfl) rfl (by simp) ?_
 (refine al_call hin rfl rfl rfl (H v8) (by simp) ?_; rintro _ _ ⟨v29, rfl, rfl⟩)
 refine al_nil ?_
 refine aw_region ?_
 refine al_op (op_move rfl) rfl (by simp) ?_
 refine al_op (op_nilCheck_ptr rfl rfl) rfl (by simp) ?_
 refine al_op (op_field_ptr Tryz.underlying123 rfl info3 (by decide) rfl rfl rfl) rfl (by simp) ?_
 refine al_op (op_load_ptr Tryz.underlying3 info3 rfl rfl rfl rfl) rfl (by simp) ?_
 refine al_op (op_sub rfl rfl (by first | exact wrap_i64 (by omega) (by omega))) rfl (by simp) ?_
 refine al_op (op_nilCheck_ptr rfl rfl) rfl (by simp) ?_
 refine al_op (op_field_ptr Tryz.underlying123 rfl info3 (by decide) rfl rfl rfl) rfl (by simp) ?_
 refine al_op (op_store_ptr info3 rfl rfl rfl rfl rfl rfl (by first | rfl | exact live_one rfl | (repeat (first | exact all_live_nil | refine all_live_clo rfl ?_ | refine all_live_slice rfl ?_ | refine all_live_map rfl ?_ | refine all_live_ptr rfl ?_))) (Nat.le_of_ble_eq_true rfl)) rfl (by simp) ?_
 refine al_nil ?_
 refine ⟨_, res_0 rfl, ?_⟩
 have e1 : d + 1 - 1 = d := by omega
 have e2 : max (max m (d + 1)) (d + 1 + (D : Nat)) = max m (d + (D + 1 : Nat)) := by omega
 have e3 : out ++ [tkS s] ++ T = out ++ tkS s :: T := by simp
 rw [e1, e2, e3]; exact ⟨_, rfl, rfl⟩
end Go.Proofs.YtcgdlhkiecommaaGreatDoor

/- Printed walks (gen.py, lexer_ann.py): part 416. -/



set_option linter.unusedVariables false
set_option linter.unusedSimpArgs false
set_option maxRecDepth 20000
set_option maxHeartbeats 40000000
namespace Go.Proofs.YtcgdlhkiecommaaGreatDoor
open Go
theorem e_brk1 (v0 v1 : Nat) (out : List Tk) (d m : Int) (hd0 : 0 ≤ d) (hdm : d ≤ m) (hm : m ≤ 1000000000) (s : Bs) (hs : s.length ≤ 1000000000) (l : List Ex) (hl : l.length ≤ 1000000000) (ih : ∀ k ∈ l, WX Tryz.prog k) (hno : out.length + (sepT s (l.map toks)).length ≤ 1000000000) (hdd : d + (maxL (l.map dep) : Nat) ≤ 1000000000) (v3 v4 v5 : Nat) : AC Tryz.prog 180 [.ptr 5 v5 0 0, .ptr 3 v3 0 0, .ptr 4 v4 0 0] (wr v0 v1 out d m [(3, v3, .row 1 [[.ptr 0 v0 0 0]]), (4, v4, .row 1 [[.v (.string (str (s)))]]), (5, v5, .row 1 [[.list 16 ((l).map encE)]])]) (fun r σ' => WrT v0 (out ++ sepT s (l.map toks)) d (max m (d + (maxL (l.map dep) : Nat))) [(3, v3, .row 1 [[.ptr 0 v0 0 0]]), (4, v4, .row 1 [[.v (.string (str (s)))]]), (5, v5, .row 1 [[.list 16 ((l).map encE)]])] r σ') := by
 refine ac_enter 21 Tryz.func180 rfl rfl (by simp) ?_
 refine aw_seq ?_
 refine aw_region ?_
 refine al_op (op_load_ptr Tryz.underlying31 info31 rfl rfl rfl rfl) rfl (by simp) ?_
 refine al_op (op_len_map Tryz.underlying31 rfl) rfl (by simp) ?_
 refine al_op (op_move rfl) rfl (by simp) ?_
 refine al_nil ?_
 refine aw_block ?_
 refine aw_for2T (α := Nat) (β := Nat) [7] [104] (fun i w => l.length - i) (fun i w => i ≤ l.length) (fun i w => ([(7, .v (.int .i64 ((i : Nat) : Int)))] : Env)) (fun i w st => wr v0 w (out ++ sepT s ((l.map toks).take i)) d (max m (d + (maxL ((l.map dep).take i) : Nat))) [(3, v3, .row 1 [[.ptr 0 v0 0 0]]), (4, v4, .row 1 [[.v (.string (str (s)))]]), (5, v5, .row 1 [[.list 16 ((l).map encE)]])]) (0) (v1) ?_ ?_ ?_ (fun i w hinv => ?_)
 ·exact Nat.zero_le _
 ·refine sub_cons (get_as rfl ?_) ?_; rotate_left; exact sub_nil
  all_goals (first | rfl | simp)
 ·exact wr_start s l hdm
 refine aw_seq ?_
 refine aw_region ?_
 refine al_op (op_lss rfl rfl) rfl (by simp) ?_
 refine al_nil ?_
 refine aw_seq ?_
 refine aw_cond rfl (fun h1 => ?_) (fun h1 => ?_)
 ·have gh1 := h1
  try simp only [nrm] at h1
  refine aw_skip ?_
  refine aw_seq ?_
  refine aw_block ?_
  refine aw_seq ?_
  have hil : i < l.length := by omega
  obtain ⟨hb1, hb2, hb3⟩ := row_bounds (s := s) hil hno
  have hb4 := dep_bound hil
  have hb5 := maxL_take_le (l.map dep) i
  refine aw_region ?_
  refine al_op (op_move rfl) rfl (by simp) ?_
  refine al_op (val_as (.rptr (cellsE (l.getD i default))) (op_index_map default Tryz.underlying31 info37 rfl rfl rfl (by first | (with_reducible exact Int.toNat_natCast _) | rfl) (by omega) (by omega)) (by exact congrArg AVal.rptr (encE_cells _))) rfl (by simp) ?_
  refine al_op (op_load_rptr Tryz.underlying37 info37 rfl rfl) rfl (by simp) ?_
  (refine al_opR (op_alloc 104 info37 rfl rfl) rfl (by simp) ?_; rintro _ _ ⟨ver4, rfl, rfl⟩)
  refine al_op (op_assign rfl) rfl (by simp) ?_
  refine al_op (op_store_ptr info37 rfl rfl rfl rfl rfl rfl (by first | rfl | exact live_one rfl | (repeat (first | exact all_live_nil | refine all_live_clo rfl ?_ | refine all_live_slice rfl ?_ | refine all_live_map rfl ?_ | refine all_live_ptr rfl ?_))) (Nat.le_of_ble_eq_true rfl)) rfl (by simp) ?_
  refine al_nil ?_
  refine aw_seq ?_
  refine aw_seq ?_
  refine aw_region ?_
  refine al_op (op_move rfl) rfl (by simp) ?_
  refine al_op (op_gtr rfl rfl) rfl (by simp) ?_
  refine al_nil ?_
  refine aw_cond rfl (fun h2 => ?_) (fun h2 => ?_)
  ·have gh2 := h2
   try simp only [nrm] at h2
   refine aw_region ?_
   refine al_op (op_load_ptr Tryz.underlying149 info149 rfl rfl rfl rfl) rfl (by simp) ?_
   refine al_op (op_load_ptr Tryz.underlying9 info9 rfl rfl rfl rfl) rfl (by simp) ?_
   (refine al_call into150 rfl rfl rfl (wr_lift rfl (e_symbol v0 w (out ++ sepT s ((l.map toks).take i)) d (max m (d + (maxL ((l.map dep).take i) : Nat))) s hs hb1) _ (wr_below (by rfl))) (by simp) ?_; rintro _ _ ⟨v16, rfl, rfl⟩)
   refine al_nil ?_
   refine aw_region ?_
   refine al_op (op_load_ptr Tryz.underlying149 info149 rfl rfl rfl rfl) rfl (by simp) ?_
   refine al_op (op_load_ptr Tryz.underlying37 info37 rfl rfl rfl rfl) rfl (by simp) ?_
   (refine al_call into101 rfl rfl rfl (ih (l.getD i default) (getD_mem hil) v0 v16 ((out ++ sepT s ((l.map toks).take i)) ++ [tkS s]) d (max m (d + (maxL ((l.map dep).take i) : Nat))) _ (wr_below (by rfl)) hd0 (by omega) (by omega) (hb2 (by omega)) (by omega)) (by simp) ?_; rintro _ _ ⟨v19, rfl, rfl⟩)
   refine al_nil ?_
   refine aw_region ?_
   refine al_op (op_add rfl rfl (by first | exact wrap_i64 (by omega) (by omega))) rfl (by simp) ?_
   refine al_op (op_move rfl) rfl (by simp) ?_
   refine al_nil ?_
   refine ⟨i + 1, v19, ?_, ?_, ?_, ?_, ?_⟩
   ·omega
   ·omega
   ·refine sub_cons (get_as rfl ?_) ?_; rotate_left; exact sub_nil
    all_goals (first | rfl | simp)
   ·repeat (first | exact subx_refl | exact subx_del | refine subx_put rfl ?_)
   ·first | exact wr_pos s l i hil (by omega) | exact wr_zero s l i hil (by omega)
  ·have gh2 := h2
   try simp only [nrm] at h2
   refine aw_skip ?_
   refine aw_region ?_
   refine al_op (op_load_ptr Tryz.underlying149 info149 rfl rfl rfl rfl) rfl (by simp) ?_
   refine al_op (op_load_ptr Tryz.underlying37 info37 rfl rfl rfl rfl) rfl (by simp) ?_
   (refine al_call into101 rfl rfl rfl (ih (l.getD i default) (getD_mem hil) v0 w (out ++ sepT s ((l.map toks).take i)) d (max m (d + (maxL ((l.map dep).take i) : Nat))) _ (wr_below (by rfl)) hd0 (by omega) (by omega) (hb3 (by omega)) (by omega)) (by simp) ?_; rintro _ _ ⟨v19, rfl, rfl⟩)
   refine al_nil ?_
   refine aw_region ?_
   refine al_op (op_add rfl rfl (by first | exact wrap_i64 (by omega) (by omega))) rfl (by simp) ?_
   refine al_op (op_move rfl) rfl (by simp) ?_
   refine al_nil ?_
   refine ⟨i + 1, v19, ?_, ?_, ?_, ?_, ?_⟩
   ·omega
   ·omega
   ·refine sub_cons (get_as rfl ?_) ?_; rotate_left; exact sub_nil
    all_goals (first | rfl | simp)
   ·repeat (first | exact subx_refl | exact subx_del | refine subx_put rfl ?_)
   ·first | exact wr_pos s l i hil (by omega) | exact wr_zero s l i hil (by omega)
 ·have gh1 := h1
  try simp only [nrm] at h1
  refine aw_exit ?_
  refine ⟨_, res_0 rfl, ?_⟩
  obtain rfl : i = l.length := by omega
  rw [List.take_of_length_le (by simp), List.take_of_length_le (by simp)]; exact ⟨w, rfl, rfl⟩
theorem e_brackets (v0 v1 : Nat) (out : List Tk) (d m : Int) (hd0 : 0 ≤ d) (hdm : d ≤ m) (hm : m ≤ 1000000000) (s : Bs) (hs : s.length ≤ 1000000000) (l : List Ex) (hl : l.length ≤ 1000000000) (ih : ∀ k ∈ l, WX Tryz.prog k) (hno : out.length + (inBr (sepT s (l.map toks))).length ≤ 1000000000) (hdd : d + (maxL (l.map dep) + 1 : Nat) ≤ 1000000000) : AC Tryz.prog 147 [.ptr 0 v0 0 0, .v (.string (str (s))), .list 16 ((l).map encE)] (wr v0 v1 out d m []) (fun r σ' => WrK v0 (out ++ inBr (sepT s (l.map toks))) (d) (max m (d + (maxL (l.map dep) + 1 : Nat))) r σ') := by
 have hno2 := hno
 simp only [inBr, List.length_cons, List.length_append, List.length_nil] at hno2
 refine ac_enter 11 Tryz.func147 rfl rfl (by simp) ?_
 refine aw_seq ?_
 refine aw_region ?_
 (refine al_opR (op_box 3 rfl rfl (by first | rfl | exact live_one rfl | (repeat (first | exact all_live_nil | refine all_live_clo rfl ?_ | refine all_live_slice rfl ?_ | refine all_live_map rfl ?_ | refine all_live_ptr rfl ?_)))) rfl (by simp) ?_; rintro _ _ ⟨ver3, rfl, rfl⟩)
 (refine al_opR (op_box 4 rfl rfl (by first | rfl | exact live_one rfl | (repeat (first | exact all_live_nil | refine all_live_clo rfl ?_ | refine all_live_slice rfl ?_ | refine all_live_map rfl ?_ | refine all_live_ptr rfl ?_)))) rfl (by simp) ?_; rintro _ _ ⟨ver4, rfl, rfl⟩)
 (refine al_opR (op_box 5 rfl rfl (by first | rfl | exact live_one rfl | (repeat (first | exact all_live_nil | refine all_live_clo rfl ?_ | refine all_live_slice rfl ?_ | refine all_live_map rfl ?_ | refine all_live_ptr rfl ?_)))) rfl (by simp) ?_; rintro _ _ ⟨ver5, rfl, rfl⟩)
 refine al_nil ?_
 refine aw_seq ?_
 refine aw_region ?_
 refine al_op (op_load_ptr Tryz.underlying149 info149 rfl rfl rfl rfl) rfl (by simp) ?_
 refine al_op (op_closure rfl rfl) rfl (by simp) ?_
 (refine al_call into148 rfl rfl rfl (e_within v0 v1 out d m hd0 hdm hm (by omega) sOpen (by decide) _ (by rfl) 180 into180 _ (sepT s (l.map toks)) (maxL (l.map dep)) (fun w => e_brk1 v0 w (out ++ [tkS sOpen]) (d + 1) (max m (d + 1)) (by omega) (by omega) (by omega) s hs l hl ih (by simp only [List.length_append, List.length_cons, List.length_nil]; omega) (by omega) ver3 ver4 ver5)) (by simp) ?_; rintro _ _ ⟨v8, rfl, rfl⟩)
 refine al_nil ?_
 refine aw_region ?_
 refine al_op (op_load_ptr Tryz.underlying149 info149 rfl rfl rfl rfl) rfl (by simp) ?_
 (refine al_call into150 rfl rfl rfl (wr_lift rfl (e_symbol v0 v8 (out ++ tkS sOpen :: sepT s (l.map toks)) d (max m (d + (maxL (l.map dep) + 1 : Nat))) sShut (by decide) (by simp only [List.length_append, List.length_cons]; omega)) _ (wr_below (by rfl))) (by simp) ?_; rintro _ _ ⟨v10, rfl, rfl⟩)
 refine al_nil ?_
 refine ⟨_, res_0 rfl, ?_⟩
 exact ⟨v10, rfl, wr_eq (by simp [inBr]) rfl⟩
theorem e_kid (v0 v1 : Nat) (out : List Tk) (d m : Int) (hd0 : 0 ≤ d) (hdm : d ≤ m) (hm : m ≤ 1000000000) (e : Ex) (hz : szE e = true) (least : Int) (ih : WX Tryz.prog e) (hno : out.length + (kidTk e least).length ≤ 1000000000) (hdd : d + (kidDp e least : Nat) ≤ 1000000000) : AC Tryz.prog 146 [.ptr 0 v0 0 0, .agg (cellsE (e)), .v (.int .i64 (least))] (wr v0 v1 out d m []) (fun r σ' => WrK v0 (out ++ kidTk e least) (d) (max m (d + (kidDp e least : Nat))) r σ') := by
 obtain ⟨z1, z2, z3, z4, z5⟩ := szE_facts hz
 refine ac_enter 17 Tryz.func146 rfl rfl (by simp) ?_
 refine aw_seq ?_
 refine aw_region ?_
 (refine al_opR (op_box 4 rfl rfl (by first | rfl | exact live_one rfl | (repeat (first | exact all_live_nil | refine all_live_clo rfl ?_ | refine all_live_slice rfl ?_ | refine all_live_map rfl ?_ | refine all_live_ptr rfl ?_)))) rfl (by simp) ?_; rintro _ _ ⟨ver4, rfl, rfl⟩)
 refine al_nil ?_
 refine aw_seq ?_
 refine aw_region ?_
 refine al_op (op_load_ptr Tryz.underlying37 info37 rfl rfl rfl rfl) rfl (by simp) ?_
 refine al_callp into144 rfl rfl rfl (e_binds e z1 _) (by simp) ?_
 refine al_op (op_move rfl) rfl (by simp) ?_
 refine al_op (op_lss rfl rfl) rfl (by simp) ?_
 refine al_nil ?_
 refine aw_cond rfl (fun h1 => ?_) (fun h1 => ?_)
 ·have gh1 := h1
  try simp only [nrm] at h1
  refine aw_region ?_
  refine al_op (op_move rfl) rfl (by simp) ?_
  refine al_op (op_load_ptr Tryz.underlying37 info37 rfl rfl rfl rfl) rfl (by simp) ?_
  refine al_op (op_list encE [e] Tryz.underlying31 info37 rfl rfl (by decide) rfl (by decide) rfl (by first | rfl | (repeat (first | exact parts_nil | refine parts_cons rfl (by repeat (first | exact all_live_nil | refine all_live_clo rfl ?_ | refine all_live_slice rfl ?_ | refine all_live_map rfl ?_ | refine all_live_ptr rfl ?_)) ?_))) rfl rfl rfl (kids1 _)) rfl (by simp) ?_
  have hno2 := hno
  rw [kidTk, if_pos h1] at hno2
  have hdd2 := hdd
  rw [kidDp, if_pos h1] at hdd2
  (refine al_call into147 rfl rfl rfl (wr_lift rfl (e_brackets v0 v1 out d m hd0 hdm hm [] (by decide) [e] (by simp) (fun k hk => by rw [List.mem_singleton.1 hk]; exact ih) hno2 (by simp only [List.map_cons, List.map_nil, maxL]; omega)) _ (wr_below (by rfl))) (by simp) ?_; rintro _ _ ⟨v13, rfl, rfl⟩)
  refine al_nil ?_
  refine ⟨_, res_0 rfl, ?_⟩
  rw [kidTk, if_pos h1, kidDp, if_pos h1]; exact ⟨v13, rfl, wr_eq (by simp [sepT]) (by simp [maxL])⟩
 ·have gh1 := h1
  try simp only [nrm] at h1
  refine aw_region ?_
  refine al_op (op_move rfl) rfl (by simp) ?_
  refine al_op (op_load_ptr Tryz.underlying37 info37 rfl rfl rfl rfl) rfl (by simp) ?_
  have hno2 := hno
  rw [kidTk, if_neg h1] at hno2
  have hdd2 := hdd
  rw [kidDp, if_neg h1] at hdd2
  (refine al_call into101 rfl rfl rfl (ih v0 v1 out d m _ (wr_below (by rfl)) hd0 hdm hm hno2 hdd2) (by simp) ?_; rintro _ _ ⟨v16, rfl, rfl⟩)
  refine al_nil ?_
  refine ⟨_, res_0 rfl, ?_⟩
  rw [kidTk, if_neg h1, kidDp, if_neg h1]; exact ⟨v16, rfl, rfl⟩
theorem e_unary (v0 v1 : Nat) (out : List Tk) (d m : Int) (hd0 : 0 ≤ d) (hdm : d ≤ m) (hm : m ≤ 1000000000) (e : Ex) (hk : e.kids.length = 1) (hz : szE (e.kids.getD 0 default) = true) (ih : WX Tryz.prog (e.kids.getD 0 default)) (hno : out.length + (kidTk (e.kids.getD 0 default) 4).length ≤ 1000000000) (hdd : d + (kidDp (e.kids.getD 0 default) 4 : Nat) ≤ 1000000000) (v2 v3 : Nat) : AC Tryz.prog 149 [.ptr 2 v2 0 0, .ptr 3 v3 0 0] (wr v0 v1 out d m [(2, v2, .row 1 [[.ptr 0 v0 0 0]]), (3, v3, .row 16 [cellsE e])]) (fun r σ' => WrT v0 (out ++ kidTk (e.kids.getD 0 default) 4) d (max m (d + (kidDp (e.kids.getD 0 default) 4 : Nat))) [(2, v2, .row 1 [[.ptr 0 v0 0 0]]), (3, v3, .row 16 [cellsE e])] r σ') := by
 refine ac_enter 8 Tryz.func149 rfl rfl (by simp) ?_
 refine aw_plan [0, 1, 2, 3, 4, 5] (Checked.mixed Tryz.checked) (by kernel_rfl) ?_
 refine afl_float rfl rfl (opk_of (op_load_ptr Tryz.underlying149 info149 rfl rfl rfl rfl)) (by simp) ?_
 refine afl_float rfl rfl (opk_of (op_field_ptr Tryz.underlying37 rfl info31 (by decide) rfl rfl rfl)) (by simp) ?_
 refine afl_float rfl rfl (opk_of (op_load_ptr Tryz.underlying31 info31 rfl rfl rfl rfl)) (by simp) ?_
 refine afl_float rfl rfl (opk_of (val_as (.rptr (cellsE (e.kids.getD 0 default))) (op_index_map default Tryz.underlying31 info37 rfl rfl rfl (by first | (with_reducible exact Int.toNat_natCast _) | rfl) (by omega) (by omega)) (by exact congrArg AVal.rptr (encE_cells _)))) (by simp) ?_
 refine afl_float rfl rfl (opk_of (op_load_rptr Tryz.underlying37 info37 rfl rfl)) (by simp) ?_
 (refine afl_call rfl (by kernel_rfl) into146 rfl rfl rfl (wr_lift rfl (e_kid v0 v1 out d m hd0 hdm hm (e.kids.getD 0 default) hz 4 ih hno hdd) _ (wr_below (by rfl))) (by simp) ?_; rintro _ _ ⟨v7, rfl, rfl⟩; refine ⟨_, rfl, ?_, ?_⟩)
 ·
  refine loose_anc 4 rfl (by kernel_rfl) ?_
  refine loose_anc 3 rfl (by kernel_rfl) ?_
  refine loose_anc 2 rfl (by kernel_rfl) ?_
  refine loose_anc 1 rfl (by kernel_rfl) ?_
  refine loose_anc 0 rfl (by kernel_rfl) ?_
  exact loose_nil
 refine afl_end ?_
 refine ⟨_, res_0 rfl, ?_⟩
 exact ⟨v7, rfl, rfl⟩
end Go.Proofs.YtcgdlhkiecommaaGreatDoor

/- Printed walks (gen.py, lexer_ann.py): part 417. -/



set_option linter.unusedVariables false
set_option linter.unusedSimpArgs false
set_option maxRecDepth 20000
set_option maxHeartbeats 40000000
namespace Go.Proofs.YtcgdlhkiecommaaGreatDoor
open Go
theorem e_text1 (v0 : Nat) (e : Ex) (hbt : BTx Tryz.prog e.bits) : AC Tryz.prog 142 [.ptr 0 v0 0 0] ([(0, v0, .row 16 [cellsE e])]) (fun r σ' => r = .ret (.v (.string (str (bitsT e.bits)))) ∧ σ'.keep k0 = [(0, v0, .row 16 [cellsE e])]) := by
 refine ac_enter 11 Tryz.func142 rfl rfl (by simp) ?_
 refine aw_seq ?_
 refine aw_region ?_
 refine al_op (op_assign rfl) rfl (by simp) ?_
 refine al_nil ?_
 refine aw_seq ?_
 refine aw_region ?_
 refine al_op (op_field_ptr Tryz.underlying37 rfl info26 (by decide) rfl rfl rfl) rfl (by simp) ?_
 refine al_op (op_load_ptr Tryz.underlying26 info26 rfl rfl rfl rfl) rfl (by simp) ?_
 refine al_callp into143 rfl rfl rfl (hbt _) (by simp) ?_
 refine al_op (op_move rfl) rfl (by simp) ?_
 refine al_op (op_extract rfl rfl rfl) rfl (by simp) ?_
 refine al_op (op_extract rfl rfl rfl) rfl (by simp) ?_
 refine al_op (op_assign rfl) rfl (by simp) ?_
 refine al_op (op_assign rfl) rfl (by simp) ?_
 refine al_nil ?_
 refine aw_seq ?_
 refine aw_region ?_
 refine al_op (op_move rfl) rfl (by simp) ?_
 refine al_op (op_assign rfl) rfl (by simp) ?_
 refine al_nil ?_
 refine aw_ret ?_
 refine ⟨_, res_1 rfl rfl, ?_⟩
 exact ⟨rfl, rfl⟩
theorem e_textA (v3 : Nat) (e : Ex) (hbt : BTx Tryz.prog e.bits) {σ : Store} (h1 : σ.get 3 = some (v3, .row 16 [cellsE e])) (hb : σ.below 1000 = true) : AC Tryz.prog 142 [.ptr 3 v3 0 0] σ (fun r σ' => r = .ret (.v (.string (str (bitsT e.bits)))) ∧ σ' = σ) := one_look 3 (by decide) rfl rfl (e_text1 v3 e hbt) h1 hb
end Go.Proofs.YtcgdlhkiecommaaGreatDoor
