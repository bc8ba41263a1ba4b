import Derived.Test.YtcgdlhkiecommaaGreatDoorW412
import Derived.Test.YtcgdlhkiecommaaGreatDoorXTop
import Derived.Test.YtcgdlhkiecommaaGreatDoorFacts
import Derived.Test.YtcgdlhkiecommaaGreatDoorEngNest

import Derived.Test.YtcgdlhkiecommaaGreatDoorXSame2
import Derived.Test.YtcgdlhkiecommaaGreatDoorW320


import Derived.Test.YtcgdlhkiecommaaGreatDoorXRef3


/- Printed walks (gen.py, lexer_ann.py): part 413. -/




set_option linter.unusedVariables false
set_option linter.unusedSimpArgs false
set_option maxRecDepth 20000
set_option maxHeartbeats 40000000
namespace Go.Proofs.YtcgdlhkiecommaaGreatDoor
open Go
theorem e_eqB (a b : List Int) (ha : a.length ≤ 140737488355328) : ACp Tryz.prog 68 [.list 1 (a.map encB), .list 1 (b.map encB)] (.v (.bool (a == b))) := by
 refine acp_of rfl ?_
 refine ace 26 Tryz.func68 ?_
 refine aw_sr ?_
 refine al_gs ?_
 refine al_nil ?_
 refine aw_seq ?_
 refine aw_sr ?_
 refine al_mv ?_
 refine al_lm u26 ?_
 refine al_mv ?_
 refine al_lm u26 ?_
 refine al_o (op_neq rfl rfl) ?_
 refine al_nil ?_
 refine aw_cond rfl (fun h1 => ?_) (fun h1 => ?_)
 ·have gh1 := h1
  simp only [nrm] at h1
  refine aw_sr ?_
  refine al_gs ?_
  refine al_nil ?_
  refine fz1 (t := 4) ?_
  refine aw_ret ?_
  refine ⟨_, res_1 rfl rfl, ?_, rfl⟩
  rw [leq_len gh1]
 have gh1 := h1
 simp only [nrm] at h1
 refine aw_skip ?_
 refine aw_seq ?_
 refine aw_sr ?_
 refine al_mv ?_
 refine al_lm u26 ?_
 refine al_mv ?_
 refine al_nil ?_
 refine aw_block ?_
 refine aw_forT (ι := Nat) [4, 13] [] (fun i => a.length - i) (fun i => i ≤ a.length ∧ ∀ k, k < i → (a.getD k default != b.getD k default) = false) (fun i => ([(13, .v (.int .i64 ((i : Nat) : Int)))] : Env)) (fun i s => s) (0) ?_ ?_ ?_ (fun i hinv => ?_)
 ·exact ⟨Nat.zero_le _, fun k hk => absurd hk (Nat.not_lt_zero k)⟩
 ·refine sub_1 ?_
  all_goals (first | rfl | simp)
 ·rfl
 have hi := hinv.1
 have hll : a.length = b.length := by have := bne_eq_false_iff_eq.1 gh1; omega
 refine aw_sr ?_
 refine al_ls ?_
 refine al_nil ?_
 refine aw_seq ?_
 refine aw_cond rfl (fun h2 => ?_) (fun h2 => ?_)
 ·have gh2 := h2
  simp only [nrm] at h2
  refine aw_skip ?_
  refine aw_seq ?_
  refine aw_block ?_
  refine aw_sr ?_
  refine al_mv ?_
  refine al_gs ?_
  refine al_nil ?_
  refine aw_seq ?_
  refine aw_any (Checked.mixed Tryz.checked) ?_
  apply aany_seg (p := 0) (q := 9) (by kernel_rfl) rfl (by decide)
  ·
   apply ql_plain rfl (op_move rfl)
   apply ql_plain rfl (op_move rfl)
   apply ql_plain rfl (op_im u26 info97)
   apply ql_plain rfl (op_load_rptr u97 info97 rfl rfl)
   apply ql_plain rfl (op_move rfl)
   apply ql_plain rfl (op_move rfl)
   apply ql_plain rfl (op_im u26 info97)
   apply ql_plain rfl (op_load_rptr u97 info97 rfl rfl)
   apply ql_plain rfl (op_neq rfl rfl)
   exact ql_nil
  ·simp
  refine aany_end rfl (by kernel_rfl) ?_
  refine aw_cond rfl (fun h3 => ?_) (fun h3 => ?_)
  ·have gh3 := h3
   simp only [nrm] at h3
   refine aw_sr ?_
   refine al_gs ?_
   refine al_nil ?_
   refine fz1 (t := 4) ?_
   refine aw_ret ?_
   refine ⟨_, res_1 rfl rfl, ?_, rfl⟩
   rw [leq_no i (by omega) (by omega) gh3]
  have gh3 := h3
  simp only [nrm] at h3
  refine aw_skip ?_
  refine aw_region ?_
  refine al_ad ?_
  refine al_mv ?_
  refine al_nil ?_
  refine ⟨i + 1, ?_, ?_, ?_, ?_, ?_⟩
  ·omega
  ·exact ⟨by omega, idx_more (p := fun k => (a.getD k default != b.getD k default)) hinv.2 gh3⟩
  ·refine sub_1 ?_
   all_goals (first | rfl | simp)
  ·exact sbl
  ·rfl
 have gh2 := h2
 simp only [nrm] at h2
 refine aw_exit ?_
 refine aw_sr ?_
 refine al_gs ?_
 refine al_nil ?_
 refine fz1 (t := 4) ?_
 refine aw_ret ?_
 refine ⟨_, res_1 rfl rfl, ?_, rfl⟩
 rw [leq_yes gh1 (fun k hk => hinv.2 k (by omega))]
theorem e_eqS (a b : List Bs) (ha : a.length ≤ 140737488355328) : ACp Tryz.prog 125 [.list 1 (a.map encBs), .list 1 (b.map encBs)] (.v (.bool (a == b))) := by
 refine acp_of rfl ?_
 refine ace 26 Tryz.func125 ?_
 refine aw_sr ?_
 refine al_gs ?_
 refine al_nil ?_
 refine aw_seq ?_
 refine aw_sr ?_
 refine al_mv ?_
 refine al_lm u32 ?_
 refine al_mv ?_
 refine al_lm u32 ?_
 refine al_o (op_neq rfl rfl) ?_
 refine al_nil ?_
 refine aw_cond rfl (fun h1 => ?_) (fun h1 => ?_)
 ·have gh1 := h1
  simp only [nrm] at h1
  refine aw_sr ?_
  refine al_gs ?_
  refine al_nil ?_
  refine fz1 (t := 4) ?_
  refine aw_ret ?_
  refine ⟨_, res_1 rfl rfl, ?_, rfl⟩
  rw [leq_len gh1]
 have gh1 := h1
 simp only [nrm] at h1
 refine aw_skip ?_
 refine aw_seq ?_
 refine aw_sr ?_
 refine al_mv ?_
 refine al_lm u32 ?_
 refine al_mv ?_
 refine al_nil ?_
 refine aw_block ?_
 refine aw_forT (ι := Nat) [4, 13] [] (fun i => a.length - i) (fun i => i ≤ a.length ∧ ∀ k, k < i → (a.getD k default != b.getD k default) = false) (fun i => ([(13, .v (.int .i64 ((i : Nat) : Int)))] : Env)) (fun i s => s) (0) ?_ ?_ ?_ (fun i hinv => ?_)
 ·exact ⟨Nat.zero_le _, fun k hk => absurd hk (Nat.not_lt_zero k)⟩
 ·refine sub_1 ?_
  all_goals (first | rfl | simp)
 ·rfl
 have hi := hinv.1
 have hll : a.length = b.length := by have := bne_eq_false_iff_eq.1 gh1; omega
 refine aw_sr ?_
 refine al_ls ?_
 refine al_nil ?_
 refine aw_seq ?_
 refine aw_cond rfl (fun h2 => ?_) (fun h2 => ?_)
 ·have gh2 := h2
  simp only [nrm] at h2
  refine aw_skip ?_
  refine aw_seq ?_
  refine aw_block ?_
  refine aw_sr ?_
  refine al_mv ?_
  refine al_gs ?_
  refine al_nil ?_
  refine aw_seq ?_
  refine aw_any (Checked.mixed Tryz.checked) ?_
  apply aany_seg (p := 0) (q := 9) (by kernel_rfl) rfl (by decide)
  ·
   apply ql_plain rfl (op_move rfl)
   apply ql_plain rfl (op_move rfl)
   apply ql_plain rfl (op_im u32 info9)
   apply ql_plain rfl (op_load_rptr u9 info9 rfl rfl)
   apply ql_plain rfl (op_move rfl)
   apply ql_plain rfl (op_move rfl)
   apply ql_plain rfl (op_im u32 info9)
   apply ql_plain rfl (op_load_rptr u9 info9 rfl rfl)
   apply ql_plain rfl (op_sneq_str rfl rfl)
   exact ql_nil
  ·simp
  refine aany_end rfl (by kernel_rfl) ?_
  refine aw_cond rfl (fun h3 => ?_) (fun h3 => ?_)
  ·have gh3 := h3
   simp only [nrm] at h3
   refine aw_sr ?_
   refine al_gs ?_
   refine al_nil ?_
   refine fz1 (t := 4) ?_
   refine aw_ret ?_
   refine ⟨_, res_1 rfl rfl, ?_, rfl⟩
   rw [leq_no i (by omega) (by omega) gh3]
  have gh3 := h3
  simp only [nrm] at h3
  refine aw_skip ?_
  refine aw_region ?_
  refine al_ad ?_
  refine al_mv ?_
  refine al_nil ?_
  refine ⟨i + 1, ?_, ?_, ?_, ?_, ?_⟩
  ·omega
  ·exact ⟨by omega, idx_more (p := fun k => (a.getD k default != b.getD k default)) hinv.2 gh3⟩
  ·refine sub_1 ?_
   all_goals (first | rfl | simp)
  ·exact sbl
  ·rfl
 have gh2 := h2
 simp only [nrm] at h2
 refine aw_exit ?_
 refine aw_sr ?_
 refine al_gs ?_
 refine al_nil ?_
 refine fz1 (t := 4) ?_
 refine aw_ret ?_
 refine ⟨_, res_1 rfl rfl, ?_, rfl⟩
 rw [leq_yes gh1 (fun k hk => hinv.2 k (by omega))]
theorem e_eqfV (a b : List Va) (ha : a.length ≤ 140737488355328) (ih : ∀ x ∈ a, ∀ y ∈ b, ACp Tryz.prog 69 [.agg (cellsV x), .agg (cellsV y)] (.v (.bool (sameV x y)))) : ACp Tryz.prog 124 [.list 4 (a.map encVa), .list 4 (b.map encVa), .v (.func (.func 69) #[] #[])] (.v (.bool (allSame sameV a b))) := by
 refine acp_of rfl ?_
 refine ace 32 Tryz.func124 ?_
 refine aw_sr ?_
 refine al_gs ?_
 refine al_nil ?_
 refine aw_seq ?_
 refine aw_sr ?_
 refine al_mv ?_
 refine al_lm u28 ?_
 refine al_mv ?_
 refine al_lm u28 ?_
 refine al_o (op_neq rfl rfl) ?_
 refine al_nil ?_
 refine aw_cond rfl (fun h1 => ?_) (fun h1 => ?_)
 ·have gh1 := h1
  simp only [nrm] at h1
  refine aw_sr ?_
  refine al_gs ?_
  refine al_nil ?_
  refine fz1 (t := 6) ?_
  refine aw_ret ?_
  refine ⟨_, res_1 rfl rfl, ?_, rfl⟩
  rw [alls_len gh1]
 have gh1 := h1
 simp only [nrm] at h1
 refine aw_skip ?_
 refine aw_seq ?_
 refine aw_sr ?_
 refine al_mv ?_
 refine al_lm u28 ?_
 refine al_mv ?_
 refine al_nil ?_
 refine aw_block ?_
 refine aw_forT (ι := Nat) [6, 17] [8, 9] (fun i => a.length - i) (fun i => i ≤ a.length ∧ ∀ k, k < i → (!(sameV (a.getD k default) (b.getD k default))) = false) (fun i => ([(17, .v (.int .i64 ((i : Nat) : Int)))] : Env)) (fun i s => s) (0) ?_ ?_ ?_ (fun i hinv => ?_)
 ·exact ⟨Nat.zero_le _, fun k hk => absurd hk (Nat.not_lt_zero k)⟩
 ·refine sub_1 ?_
  all_goals (first | rfl | simp)
 ·rfl
 have hi := hinv.1
 have hll : a.length = b.length := by have := bne_eq_false_iff_eq.1 gh1; omega
 refine aw_sr ?_
 refine al_ls ?_
 refine al_nil ?_
 refine aw_seq ?_
 refine aw_cond rfl (fun h2 => ?_) (fun h2 => ?_)
 ·have gh2 := h2
  simp only [nrm] at h2
  refine aw_skip ?_
  refine aw_seq ?_
  refine aw_block ?_
  refine aw_sr ?_
  refine al_mv ?_
  refine al_o (val_as (.rptr (cellsV (a.getD i default))) (op_im u28 info30) (by exact congrArg AVal.rptr (encVa_cells _))) ?_
  refine al_lr u30 info30 ?_
  refine al_al 8 info30 fun ver8 => ?_
  refine al_gs ?_
  refine al_sp info30 ?_
  refine al_sr ?_
  refine al_mv ?_
  refine al_mv ?_
  refine al_o (val_as (.rptr (cellsV (b.getD i default))) (op_im u28 info30) (by exact congrArg AVal.rptr (encVa_cells _))) ?_
  refine al_lr u30 info30 ?_
  refine al_al 9 info30 fun ver9 => ?_
  refine al_sp info30 ?_
  refine al_sr ?_
  refine al_mv ?_
  refine al_ld u30 info30 ?_
  refine al_ld u30 info30 ?_
  refine al_callp into69 rfl rfl rfl (ih (a.getD i default) (getD_mem (by omega)) (b.getD i default) (getD_mem (by omega)) _) (by simp) ?_
  refine al_o (op_not rfl) ?_
  refine al_nil ?_
  refine aw_cond rfl (fun h3 => ?_) (fun h3 => ?_)
  ·have gh3 := h3
   simp only [nrm] at h3
   refine aw_sr ?_
   refine al_gs ?_
   refine al_nil ?_
   refine fz1 (t := 6) ?_
   refine aw_ret ?_
   refine ⟨_, res_1 rfl rfl, ?_, rfl⟩
   rw [alls_no i (by omega) (by omega) gh3]
  have gh3 := h3
  simp only [nrm] at h3
  refine aw_skip ?_
  refine aw_region ?_
  refine al_ad ?_
  refine al_mv ?_
  refine al_nil ?_
  refine ⟨i + 1, ?_, ?_, ?_, ?_, ?_⟩
  ·omega
  ·exact ⟨by omega, idx_more (p := fun k => (!(sameV (a.getD k default) (b.getD k default)))) hinv.2 gh3⟩
  ·refine sub_1 ?_
   all_goals (first | rfl | simp)
  ·exact sbl
  ·rfl
 have gh2 := h2
 simp only [nrm] at h2
 refine aw_exit ?_
 refine aw_sr ?_
 refine al_gs ?_
 refine al_nil ?_
 refine fz1 (t := 6) ?_
 refine aw_ret ?_
 refine ⟨_, res_1 rfl rfl, ?_, rfl⟩
 rw [alls_yes gh1 (fun k hk => hinv.2 k (by omega))]
theorem e_eqfT (a b : List Ty) (ha : a.length ≤ 140737488355328) (ih : ∀ x ∈ a, ∀ y ∈ b, ACp Tryz.prog 70 [.agg (cellsT x), .agg (cellsT y)] (.v (.bool (sameT x y)))) : ACp Tryz.prog 126 [.list 5 (a.map encTy), .list 5 (b.map encTy), .v (.func (.func 70) #[] #[])] (.v (.bool (allSame sameT a b))) := by
 refine acp_of rfl ?_
 refine ace 32 Tryz.func126 ?_
 refine aw_sr ?_
 refine al_gs ?_
 refine al_nil ?_
 refine aw_seq ?_
 refine aw_sr ?_
 refine al_mv ?_
 refine al_lm u33 ?_
 refine al_mv ?_
 refine al_lm u33 ?_
 refine al_o (op_neq rfl rfl) ?_
 refine al_nil ?_
 refine aw_cond rfl (fun h1 => ?_) (fun h1 => ?_)
 ·have gh1 := h1
  simp only [nrm] at h1
  refine aw_sr ?_
  refine al_gs ?_
  refine al_nil ?_
  refine fz1 (t := 6) ?_
  refine aw_ret ?_
  refine ⟨_, res_1 rfl rfl, ?_, rfl⟩
  rw [alls_len gh1]
 have gh1 := h1
 simp only [nrm] at h1
 refine aw_skip ?_
 refine aw_seq ?_
 refine aw_sr ?_
 refine al_mv ?_
 refine al_lm u33 ?_
 refine al_mv ?_
 refine al_nil ?_
 refine aw_block ?_
 refine aw_forT (ι := Nat) [6, 17] [8, 9] (fun i => a.length - i) (fun i => i ≤ a.length ∧ ∀ k, k < i → (!(sameT (a.getD k default) (b.getD k default))) = false) (fun i => ([(17, .v (.int .i64 ((i : Nat) : Int)))] : Env)) (fun i s => s) (0) ?_ ?_ ?_ (fun i hinv => ?_)
 ·exact ⟨Nat.zero_le _, fun k hk => absurd hk (Nat.not_lt_zero k)⟩
 ·refine sub_1 ?_
  all_goals (first | rfl | simp)
 ·rfl
 have hi := hinv.1
 have hll : a.length = b.length := by have := bne_eq_false_iff_eq.1 gh1; omega
 refine aw_sr ?_
 refine al_ls ?_
 refine al_nil ?_
 refine aw_seq ?_
 refine aw_cond rfl (fun h2 => ?_) (fun h2 => ?_)
 ·have gh2 := h2
  simp only [nrm] at h2
  refine aw_skip ?_
  refine aw_seq ?_
  refine aw_block ?_
  refine aw_sr ?_
  refine al_mv ?_
  refine al_o (val_as (.rptr (cellsT (a.getD i default))) (op_im u33 info35) (by exact congrArg AVal.rptr (encTy_cells _))) ?_
  refine al_lr u35 info35 ?_
  refine al_al 8 info35 fun ver8 => ?_
  refine al_gs ?_
  refine al_sp info35 ?_
  refine al_sr ?_
  refine al_mv ?_
  refine al_mv ?_
  refine al_o (val_as (.rptr (cellsT (b.getD i default))) (op_im u33 info35) (by exact congrArg AVal.rptr (encTy_cells _))) ?_
  refine al_lr u35 info35 ?_
  refine al_al 9 info35 fun ver9 => ?_
  refine al_sp info35 ?_
  refine al_sr ?_
  refine al_mv ?_
  refine al_ld u35 info35 ?_
  refine al_ld u35 info35 ?_
  refine al_callp into70 rfl rfl rfl (ih (a.getD i default) (getD_mem (by omega)) (b.getD i default) (getD_mem (by omega)) _) (by simp) ?_
  refine al_o (op_not rfl) ?_
  refine al_nil ?_
  refine aw_cond rfl (fun h3 => ?_) (fun h3 => ?_)
  ·have gh3 := h3
   simp only [nrm] at h3
   refine aw_sr ?_
   refine al_gs ?_
   refine al_nil ?_
   refine fz1 (t := 6) ?_
   refine aw_ret ?_
   refine ⟨_, res_1 rfl rfl, ?_, rfl⟩
   rw [alls_no i (by omega) (by omega) gh3]
  have gh3 := h3
  simp only [nrm] at h3
  refine aw_skip ?_
  refine aw_region ?_
  refine al_ad ?_
  refine al_mv ?_
  refine al_nil ?_
  refine ⟨i + 1, ?_, ?_, ?_, ?_, ?_⟩
  ·omega
  ·exact ⟨by omega, idx_more (p := fun k => (!(sameT (a.getD k default) (b.getD k default)))) hinv.2 gh3⟩
  ·refine sub_1 ?_
   all_goals (first | rfl | simp)
  ·exact sbl
  ·rfl
 have gh2 := h2
 simp only [nrm] at h2
 refine aw_exit ?_
 refine aw_sr ?_
 refine al_gs ?_
 refine al_nil ?_
 refine fz1 (t := 6) ?_
 refine aw_ret ?_
 refine ⟨_, res_1 rfl rfl, ?_, rfl⟩
 rw [alls_yes gh1 (fun k hk => hinv.2 k (by omega))]
theorem e_eqfE (a b : List Ex) (ha : a.length ≤ 140737488355328) (ih : ∀ x ∈ a, ∀ y ∈ b, ACp Tryz.prog 35 [.agg (cellsE x), .agg (cellsE y)] (.v (.bool (sameE x y)))) : ACp Tryz.prog 71 [.list 16 (a.map encE), .list 16 (b.map encE), .v (.func (.func 35) #[] #[])] (.v (.bool (allSame sameE a b))) := by
 refine acp_of rfl ?_
 refine ace 32 Tryz.func71 ?_
 refine aw_sr ?_
 refine al_gs ?_
 refine al_nil ?_
 refine aw_seq ?_
 refine aw_sr ?_
 refine al_mv ?_
 refine al_lm u31 ?_
 refine al_mv ?_
 refine al_lm u31 ?_
 refine al_o (op_neq rfl rfl) ?_
 refine al_nil ?_
 refine aw_cond rfl (fun h1 => ?_) (fun h1 => ?_)
 ·have gh1 := h1
  simp only [nrm] at h1
  refine aw_sr ?_
  refine al_gs ?_
  refine al_nil ?_
  refine fz1 (t := 6) ?_
  refine aw_ret ?_
  refine ⟨_, res_1 rfl rfl, ?_, rfl⟩
  rw [alls_len gh1]
 have gh1 := h1
 simp only [nrm] at h1
 refine aw_skip ?_
 refine aw_seq ?_
 refine aw_sr ?_
 refine al_mv ?_
 refine al_lm u31 ?_
 refine al_mv ?_
 refine al_nil ?_
 refine aw_block ?_
 refine aw_forT (ι := Nat) [6, 17] [8, 9] (fun i => a.length - i) (fun i => i ≤ a.length ∧ ∀ k, k < i → (!(sameE (a.getD k default) (b.getD k default))) = false) (fun i => ([(17, .v (.int .i64 ((i : Nat) : Int)))] : Env)) (fun i s => s) (0) ?_ ?_ ?_ (fun i hinv => ?_)
 ·exact ⟨Nat.zero_le _, fun k hk => absurd hk (Nat.not_lt_zero k)⟩
 ·refine sub_1 ?_
  all_goals (first | rfl | simp)
 ·rfl
 have hi := hinv.1
 have hll : a.length = b.length := by have := bne_eq_false_iff_eq.1 gh1; omega
 refine aw_sr ?_
 refine al_ls ?_
 refine al_nil ?_
 refine aw_seq ?_
 refine aw_cond rfl (fun h2 => ?_) (fun h2 => ?_)
 ·have gh2 := h2
  simp only [nrm] at h2
  refine aw_skip ?_
  refine aw_seq ?_
  refine aw_block ?_
  refine aw_sr ?_
  refine al_mv ?_
  refine al_o (val_as (.rptr (cellsE (a.getD i default))) (op_im u31 info37) (by exact congrArg AVal.rptr (encE_cells _))) ?_
  refine al_lr u37 info37 ?_
  refine al_al 8 info37 fun ver8 => ?_
  refine al_gs ?_
  refine al_sp info37 ?_
  refine al_sr ?_
  refine al_mv ?_
  refine al_mv ?_
  refine al_o (val_as (.rptr (cellsE (b.getD i default))) (op_im u31 info37) (by exact congrArg AVal.rptr (encE_cells _))) ?_
  refine al_lr u37 info37 ?_
  refine al_al 9 info37 fun ver9 => ?_
  refine al_sp info37 ?_
  refine al_sr ?_
  refine al_mv ?_
  refine al_ld u37 info37 ?_
  refine al_ld u37 info37 ?_
  refine al_callp into35 rfl rfl rfl (ih (a.getD i default) (getD_mem (by omega)) (b.getD i default) (getD_mem (by omega)) _) (by simp) ?_
  refine al_o (op_not rfl) ?_
  refine al_nil ?_
  refine aw_cond rfl (fun h3 => ?_) (fun h3 => ?_)
  ·have gh3 := h3
   simp only [nrm] at h3
   refine aw_sr ?_
   refine al_gs ?_
   refine al_nil ?_
   refine fz1 (t := 6) ?_
   refine aw_ret ?_
   refine ⟨_, res_1 rfl rfl, ?_, rfl⟩
   rw [alls_no i (by omega) (by omega) gh3]
  have gh3 := h3
  simp only [nrm] at h3
  refine aw_skip ?_
  refine aw_region ?_
  refine al_ad ?_
  refine al_mv ?_
  refine al_nil ?_
  refine ⟨i + 1, ?_, ?_, ?_, ?_, ?_⟩
  ·omega
  ·exact ⟨by omega, idx_more (p := fun k => (!(sameE (a.getD k default) (b.getD k default)))) hinv.2 gh3⟩
  ·refine sub_1 ?_
   all_goals (first | rfl | simp)
  ·exact sbl
  ·rfl
 have gh2 := h2
 simp only [nrm] at h2
 refine aw_exit ?_
 refine aw_sr ?_
 refine al_gs ?_
 refine al_nil ?_
 refine fz1 (t := 6) ?_
 refine aw_ret ?_
 refine ⟨_, res_1 rfl rfl, ?_, rfl⟩
 rw [alls_yes gh1 (fun k hk => hinv.2 k (by omega))]
end Go.Proofs.YtcgdlhkiecommaaGreatDoor
/- Printed walks (gen.py, lexer_ann.py): part 414. -/



namespace Go.Proofs.YtcgdlhkiecommaaGreatDoor
open Go
theorem e_sameVS (a b : Va) (ha : szV a = true) (hb : szV b = true) (ih : ∀ x ∈ a.list, ∀ y ∈ b.list, ACp Tryz.prog 69 [.agg (cellsV x), .agg (cellsV y)] (.v (.bool (sameV x y)))) : ACp Tryz.prog 69 [.agg (cellsV a), .agg (cellsV b)] (.v (.bool (sameV a b))) := by
 refine acp_of rfl ?_
 obtain ⟨a1, a2, a3⟩ := szV_facts ha
 obtain ⟨b1, b2, b3⟩ := szV_facts hb
 refine ace 31 Tryz.func69 ?_
 refine aw_sr ?_
 refine al_bx 2 fun ver2 => ?_
 refine al_bx 3 fun ver3 => ?_
 refine al_gs ?_
 refine al_sr ?_
 refine al_fp u30 info27 ?_
 refine al_ld u27 info27 ?_
 refine al_fp u30 info27 ?_
 refine al_ld u27 info27 ?_
 refine al_eq ?_
 refine al_mv ?_
 apply al_and 6 10 16 rfl
 ·intro h1; have gh1 := h1
  simp only [nrm] at h1
  refine tk_fp u30 info3 ?_
  refine tk_ld u3 info3 ?_
  refine tk_fp u30 info3 ?_
  refine tk_ld u3 info3 ?_
  refine tk_eq ?_
  refine al_pk ?_
  exact al_nk gh1
 ·intro h1; have gh1 := h1
  simp only [nrm] at h1
  iterate 5 refine al_ps ?_
  refine al_pk ?_
  exact al_nk gh1
 refine al_mv ?_
 apply al_and 6 17 23 rfl
 ·intro h2; have gh2 := h2
  simp only [nrm] at h2
  refine tk_fp u30 info26 ?_
  refine tk_ld u26 info26 ?_
  refine tk_fp u30 info26 ?_
  refine tk_ld u26 info26 ?_
  refine al_callp_take into68 rfl rfl rfl rfl rfl rfl (e_eqB a.bits b.bits a1 _) (by simp) ?_
  refine al_pk ?_
  exact al_nk gh2
 ·intro h2; have gh2 := h2
  iterate 5 refine al_ps ?_
  refine al_pk ?_
  exact al_nk gh2
 refine al_mv ?_
 apply al_and 6 24 30 rfl
 ·intro h3; have gh3 := h3
  simp only [nrm] at h3
  refine tk_fp u30 info28 ?_
  refine tk_ld u28 info28 ?_
  refine tk_fp u30 info28 ?_
  refine tk_ld u28 info28 ?_
  refine al_callp_take into124 rfl rfl rfl rfl rfl rfl (e_eqfV a.list b.list a2 ih _) (by simp) ?_
  refine al_pk ?_
  exact al_nk gh3
 ·intro h3; have gh3 := h3
  iterate 5 refine al_ps ?_
  refine al_pk ?_
  exact al_nk gh3
 refine al_gs ?_
 refine al_nil ?_
 refine fz1 (t := 4) ?_
 refine aw_ret ?_
 refine ⟨_, res_1 rfl rfl, ?_, rfl⟩
 rw [sameV_eq, sameVs_all]; simp only [Bool.and_assoc]
theorem e_sameV (a : Va) : ∀ b, szV a = true → szV b = true → ACp Tryz.prog 69 [.agg (cellsV a), .agg (cellsV b)] (.v (.bool (sameV a b))) := by
  induction a using Va.ind with
  | h a ih =>
    intro b ha hb
    obtain ⟨a1, a2, a3⟩ := szV_facts ha
    obtain ⟨b1, b2, b3⟩ := szV_facts hb
    exact e_sameVS a b ha hb (fun x hx y hy => ih x hx y (a3 x hx) (b3 y hy))
theorem e_sameTS (a b : Ty) (ha : szT a = true) (hb : szT b = true) (ih : ∀ x ∈ a.elem, ∀ y ∈ b.elem, ACp Tryz.prog 70 [.agg (cellsT x), .agg (cellsT y)] (.v (.bool (sameT x y)))) : ACp Tryz.prog 70 [.agg (cellsT a), .agg (cellsT b)] (.v (.bool (sameT a b))) := by
 refine acp_of rfl ?_
 obtain ⟨a0, a1, a2, a3⟩ := szT_facts ha
 obtain ⟨b0, b1, b2, b3⟩ := szT_facts hb
 refine ace 38 Tryz.func70 ?_
 refine aw_sr ?_
 refine al_bx 2 fun ver2 => ?_
 refine al_bx 3 fun ver3 => ?_
 refine al_gs ?_
 refine al_sr ?_
 refine al_fp u35 info27 ?_
 refine al_ld u27 info27 ?_
 refine al_fp u35 info27 ?_
 refine al_ld u27 info27 ?_
 refine al_eq ?_
 refine al_mv ?_
 apply al_and 6 10 16 rfl
 ·intro h1; have gh1 := h1
  simp only [nrm] at h1
  refine tk_fp u35 info3 ?_
  refine tk_ld u3 info3 ?_
  refine tk_fp u35 info3 ?_
  refine tk_ld u3 info3 ?_
  refine tk_eq ?_
  refine al_pk ?_
  exact al_nk gh1
 ·intro h1; have gh1 := h1
  simp only [nrm] at h1
  iterate 5 refine al_ps ?_
  refine al_pk ?_
  exact al_nk gh1
 refine al_mv ?_
 apply al_and 6 17 23 rfl
 ·intro h2; have gh2 := h2
  simp only [nrm] at h2
  refine tk_fp u35 info9 ?_
  refine tk_ld u9 info9 ?_
  refine tk_fp u35 info9 ?_
  refine tk_ld u9 info9 ?_
  refine al_t (op_seql_str rfl rfl) ?_
  refine al_pk ?_
  exact al_nk gh2
 ·intro h2; have gh2 := h2
  iterate 5 refine al_ps ?_
  refine al_pk ?_
  exact al_nk gh2
 refine al_mv ?_
 apply al_and 6 24 30 rfl
 ·intro h3; have gh3 := h3
  simp only [nrm] at h3
  refine tk_fp u35 info32 ?_
  refine tk_ld u32 info32 ?_
  refine tk_fp u35 info32 ?_
  refine tk_ld u32 info32 ?_
  refine al_callp_take into125 rfl rfl rfl rfl rfl rfl (e_eqS a.names b.names a1 _) (by simp) ?_
  refine al_pk ?_
  exact al_nk gh3
 ·intro h3; have gh3 := h3
  iterate 5 refine al_ps ?_
  refine al_pk ?_
  exact al_nk gh3
 refine al_mv ?_
 apply al_and 6 31 37 rfl
 ·intro h4; have gh4 := h4
  simp only [nrm] at h4
  refine tk_fp u35 info33 ?_
  refine tk_ld u33 info33 ?_
  refine tk_fp u35 info33 ?_
  refine tk_ld u33 info33 ?_
  refine al_callp_take into126 rfl rfl rfl rfl rfl rfl (e_eqfT a.elem b.elem a2 ih _) (by simp) ?_
  refine al_pk ?_
  exact al_nk gh4
 ·intro h4; have gh4 := h4
  iterate 5 refine al_ps ?_
  refine al_pk ?_
  exact al_nk gh4
 refine al_gs ?_
 refine al_nil ?_
 refine fz1 (t := 4) ?_
 refine aw_ret ?_
 refine ⟨_, res_1 rfl rfl, ?_, rfl⟩
 rw [sameT_eq, sameTs_all]; simp only [Bool.and_assoc]
theorem e_sameT (a : Ty) : ∀ b, szT a = true → szT b = true → ACp Tryz.prog 70 [.agg (cellsT a), .agg (cellsT b)] (.v (.bool (sameT a b))) := by
  induction a using Ty.ind with
  | h a ih =>
    intro b ha hb
    obtain ⟨a0, a1, a2, a3⟩ := szT_facts ha
    obtain ⟨b0, b1, b2, b3⟩ := szT_facts hb
    exact e_sameTS a b ha hb (fun x hx y hy => ih x hx y (a3 x hx) (b3 y hy))
theorem e_sameS (a b : Ex) (ha : szX a = true) (hb : szX b = true) (ih : ∀ x ∈ a.kids, ∀ y ∈ b.kids, ACp Tryz.prog 35 [.agg (cellsE x), .agg (cellsE y)] (.v (.bool (sameE x y)))) : ACp Tryz.prog 35 [.agg (cellsE a), .agg (cellsE b)] (.v (.bool (sameE a b))) := by
 refine acp_of rfl ?_
 obtain ⟨a1, a2, a3, a6, a7, a8⟩ := szX_facts ha
 obtain ⟨b1, b2, b3, b6, b7, b8⟩ := szX_facts hb
 refine ace 62 Tryz.func35 ?_
 refine aw_sr ?_
 refine al_bx 2 fun ver2 => ?_
 refine al_bx 3 fun ver3 => ?_
 refine al_gs ?_
 refine al_nil ?_
 refine aw_seq ?_
 refine aw_sr ?_
 refine al_fp u37 info25 ?_
 refine al_ld u25 info25 ?_
 refine al_fp u37 info25 ?_
 refine al_ld u25 info25 ?_
 refine al_o (op_neq rfl rfl) ?_
 refine al_mv ?_
 apply al_or 6 10 16 rfl
 ·intro h1; have gh1 := h1
  simp only [nrm] at h1
  refine tk_fp u37 info9 ?_
  refine tk_ld u9 info9 ?_
  refine tk_fp u37 info9 ?_
  refine tk_ld u9 info9 ?_
  refine al_t (op_sneq_str rfl rfl) ?_
  refine al_pk ?_
  exact al_nk gh1
 ·intro h1; have gh1 := h1
  simp only [nrm] at h1
  iterate 5 refine al_ps ?_
  refine al_pk ?_
  exact al_nk gh1
 refine al_mv ?_
 apply al_or 6 17 23 rfl
 ·intro h2; have gh2 := h2
  simp only [nrm] at h2
  refine tk_fp u37 info3 ?_
  refine tk_ld u3 info3 ?_
  refine tk_fp u37 info3 ?_
  refine tk_ld u3 info3 ?_
  refine al_t (op_neq rfl rfl) ?_
  refine al_pk ?_
  exact al_nk gh2
 ·intro h2; have gh2 := h2
  simp only [nrm] at h2
  iterate 5 refine al_ps ?_
  refine al_pk ?_
  exact al_nk gh2
 refine al_mv ?_
 apply al_or 8 24 32 rfl
 ·intro h3; have gh3 := h3
  simp only [nrm] at h3
  refine tk_fp u37 info31 ?_
  refine tk_ld u31 info31 ?_
  refine al_t (op_len_map u31 rfl) ?_
  refine tk_fp u37 info31 ?_
  refine tk_ld u31 info31 ?_
  refine al_t (op_len_map u31 rfl) ?_
  refine al_t (op_neq rfl rfl) ?_
  refine al_pk ?_
  exact al_nk gh3
 ·intro h3; have gh3 := h3
  simp only [nrm] at h3
  iterate 7 refine al_ps ?_
  refine al_pk ?_
  exact al_nk gh3
 refine al_mv ?_
 apply al_or 7 33 40 rfl
 ·intro h4; have gh4 := h4
  simp only [nrm] at h4
  refine tk_fp u37 info26 ?_
  refine tk_ld u26 info26 ?_
  refine tk_fp u37 info26 ?_
  refine tk_ld u26 info26 ?_
  refine al_callp_take into68 rfl rfl rfl rfl rfl rfl (e_eqB a.bits b.bits a2 _) (by simp) ?_
  refine al_t (op_not rfl) ?_
  refine al_pk ?_
  exact al_nk gh4
 ·intro h4; have gh4 := h4
  simp only [nrm] at h4
  iterate 6 refine al_ps ?_
  refine al_pk ?_
  exact al_nk gh4
 refine al_mv ?_
 apply al_or 7 41 48 rfl
 ·intro h5; have gh5 := h5
  simp only [nrm] at h5
  refine tk_fp u37 info30 ?_
  refine tk_ld u30 info30 ?_
  refine tk_fp u37 info30 ?_
  refine tk_ld u30 info30 ?_
  refine al_callp_take into69 rfl rfl rfl rfl rfl rfl (e_sameV a.val b.val a6 b6 _) (by simp) ?_
  refine al_t (op_not rfl) ?_
  refine al_pk ?_
  exact al_nk gh5
 ·intro h5; have gh5 := h5
  simp only [nrm] at h5
  iterate 6 refine al_ps ?_
  refine al_pk ?_
  exact al_nk gh5
 refine al_mv ?_
 apply al_or 7 49 56 rfl
 ·intro h6; have gh6 := h6
  simp only [nrm] at h6
  refine tk_fp u37 info35 ?_
  refine tk_ld u35 info35 ?_
  refine tk_fp u37 info35 ?_
  refine tk_ld u35 info35 ?_
  refine al_callp_take into70 rfl rfl rfl rfl rfl rfl (e_sameT a.type b.type a7 b7 _) (by simp) ?_
  refine al_t (op_not rfl) ?_
  refine al_pk ?_
  exact al_nk gh6
 ·intro h6; have gh6 := h6
  simp only [nrm] at h6
  iterate 6 refine al_ps ?_
  refine al_pk ?_
  exact al_nk gh6
 refine al_nil ?_
 refine aw_cond rfl (fun h7 => ?_) (fun h7 => ?_)
 ·have gh7 := h7
  simp only [nrm] at h7
  refine aw_sr ?_
  refine al_gs ?_
  refine al_nil ?_
  refine fz1 (t := 4) ?_
  refine aw_ret ?_
  refine ⟨_, res_1 rfl rfl, ?_, rfl⟩
  rw [sameE_no gh7]
 have gh7 := h7
 simp only [nrm] at h7
 refine aw_skip ?_
 refine aw_sr ?_
 refine al_fp u37 info31 ?_
 refine al_ld u31 info31 ?_
 refine al_fp u37 info31 ?_
 refine al_ld u31 info31 ?_
 refine al_callp into71 rfl rfl rfl (e_eqfE a.kids b.kids a3 ih _) (by simp) ?_
 refine al_gs ?_
 refine al_nil ?_
 refine fz1 (t := 4) ?_
 refine aw_ret ?_
 refine ⟨_, res_1 rfl rfl, ?_, rfl⟩
 rw [sameE_yes gh7]
theorem e_same (a : Ex) : ∀ b, szX a = true → szX b = true → ACp Tryz.prog 35 [.agg (cellsE a), .agg (cellsE b)] (.v (.bool (sameE a b))) := by
  induction a using Ex.ind with
  | h a ih =>
    intro b ha hb
    obtain ⟨a1, a2, a3, a6, a7, a8⟩ := szX_facts ha
    obtain ⟨b1, b2, b3, b6, b7, b8⟩ := szX_facts hb
    exact e_sameS a b ha hb (fun x hx y hy => ih x hx y (a8 x hx) (b8 y hy))
end Go.Proofs.YtcgdlhkiecommaaGreatDoor
/- Printed walks (gen.py, lexer_ann.py): part 415. -/




namespace Go.Proofs.YtcgdlhkiecommaaGreatDoor
open Go
theorem e_put (v0 v1 : Nat) (out : List Tk) (d m : Int) (t : Tk) (hno : out.length ≤ 1000000000) : AC Tryz.prog 145 [.ptr 0 v0 0 0, .agg (encK t)] (wr v0 v1 out d m []) (fun r σ' => WrK v0 (out ++ [t]) (d) (m) r σ') := by
 refine ace 14 Tryz.func145 ?_
 refine aw_sr ?_
 refine al_bx 3 fun ver3 => ?_
 refine al_nil ?_
 refine aw_plan [0, 1, 2, 3, 4, 5, 6, 7, 8, 9, 10] (Checked.mixed Tryz.checked) (by kernel_rfl) ?_
 refine afl_float rfl rfl (opk_of (op_move rfl)) (by simp) ?_
 refine afl_float rfl rfl (opk_of (op_move rfl)) (by simp) ?_
 refine afl_float rfl rfl (opk_of (op_nilCheck_ptr rfl rfl)) (by simp) ?_
 refine afl_float rfl rfl (opk_of (op_field_ptr u123 rfl info22 (by decide) rfl rfl rfl)) (by simp) ?_
 refine afl_float rfl rfl (opk_of (op_load_ptr u22 info22 rfl rfl rfl rfl)) (by simp) ?_
 refine afl_float rfl rfl (opk_of (op_load_ptr u65 info65 rfl rfl rfl rfl)) (by simp) ?_
 refine afl_float rfl rfl (opk_of (op_buildSlice u22 info65 rfl rfl (by decide) rfl (by decide) rfl (by first | rfl | (repeat (first | exact parts_nil | refine parts_cons rfl (by repeat (first | exact all_live_nil | refine all_live_clo rfl ?_ | refine all_live_slice rfl ?_ | refine all_live_map rfl ?_ | refine all_live_ptr rfl ?_)) ?_))) rfl rfl rfl)) (by simp) ?_
 (refine afl_effR rfl rfl (by kernel_rfl) (op_append_one t u22 u22 rfl info65 rfl rfl (by decide) rfl rfl rfl (by first | rfl | simp) rfl rfl (by first | omega | (simp; done) | (simp; omega)) (by show _ * 48 ≤ _; first | omega | (simp; done) | (simp; omega))) (by simp) ?_; rintro _ _ ⟨ver11, rfl, rfl⟩; refine ⟨?_, ?_⟩)
 ·
  refine loose_anc 6 rfl (by kernel_rfl) ?_
  refine loose_anc 5 rfl (by kernel_rfl) ?_
  refine loose_anc 4 rfl (by kernel_rfl) ?_
  refine loose_anc 3 rfl (by kernel_rfl) ?_
  refine loose_anc 2 rfl (by kernel_rfl) ?_
  refine loose_anc 1 rfl (by kernel_rfl) ?_
  refine loose_k rfl (opk_of (op_move rfl)) ?_
  exact loose_nil
 refine afl_float rfl rfl (opk_of (op_nilCheck_ptr rfl rfl)) (by simp) ?_
 refine afl_float rfl rfl (opk_of (op_field_ptr u123 rfl info22 (by decide) rfl rfl rfl)) (by simp) ?_
 (refine afl_eff rfl rfl (by kernel_rfl) (op_sp info22) (by simp) ?_ ?_)
 ·
  refine loose_anc 9 rfl (by kernel_rfl) ?_
  refine loose_anc 8 rfl (by kernel_rfl) ?_
  refine loose_fix rfl ?_
  refine loose_anc 6 rfl (by kernel_rfl) ?_
  refine loose_anc 5 rfl (by kernel_rfl) ?_
  refine loose_anc 4 rfl (by kernel_rfl) ?_
  refine loose_anc 3 rfl (by kernel_rfl) ?_
  refine loose_anc 2 rfl (by kernel_rfl) ?_
  refine loose_anc 1 rfl (by kernel_rfl) ?_
  refine loose_anc 0 rfl (by kernel_rfl) ?_
  exact loose_nil
 refine afl_end ?_
 refine ⟨_, res_0 rfl, ?_⟩
 exact ⟨ver11, rfl, rfl⟩
theorem e_symbol (v0 v1 : Nat) (out : List Tk) (d m : Int) (s : Bs) (hs : s.length ≤ 1000000000) (hno : out.length ≤ 1000000000) : AC Tryz.prog 150 [.ptr 0 v0 0 0, .v (.string (str (s)))] (wr v0 v1 out d m []) (fun r σ' => WrK v0 (out ++ [tkS s]) (d) (m) r σ') := by
 refine ace 12 Tryz.func150 ?_
 refine aw_sr ?_
 refine al_gs ?_
 refine al_nil ?_
 refine aw_seq ?_
 refine aw_sr ?_
 refine al_mv ?_
 refine al_callp into119 rfl rfl rfl ((c_isWord _ (by first | assumption | omega | (simp; done) | (simp; omega) | decide)) _) (by simp) ?_
 refine al_nil ?_
 refine aw_cond rfl (fun gh1 => ?_) (fun gh1 => ?_)
 ·refine aw_region ?_
  refine al_gs ?_
  refine al_nil ?_
  refine aw_region ?_
  refine al_mv ?_
  refine al_mv ?_
  refine al_mv ?_
  refine al_o (op_bs u65 info65 place65) ?_
  (refine al_call into145 rfl rfl rfl (wr_lift rfl (e_put v0 v1 out d m ⟨2, s, 0, 0, 0⟩ hno) _ (wr_below (by rfl))) (by simp) ?_; rintro _ _ ⟨v11, rfl, rfl⟩)
  refine al_nil ?_
  refine ⟨_, res_0 rfl, ?_⟩
  exact ⟨_, rfl, by rw [tkS, gh1]; rfl⟩
 refine aw_skip ?_
 refine aw_region ?_
 refine al_mv ?_
 refine al_mv ?_
 refine al_mv ?_
 refine al_o (op_bs u65 info65 place65) ?_
 (refine al_call into145 rfl rfl rfl (wr_lift rfl (e_put v0 v1 out d m ⟨7, s, 0, 0, 0⟩ hno) _ (wr_below (by rfl))) (by simp) ?_; rintro _ _ ⟨v11, rfl, rfl⟩)
 refine al_nil ?_
 refine ⟨_, res_0 rfl, ?_⟩
 exact ⟨_, rfl, by rw [tkS, gh1]; rfl⟩
theorem e_within (v0 v1 : Nat) (out : List Tk) (d m : Int) (hd0 : 0 ≤ d) (hdm : d ≤ m) (hm : m ≤ 1000000000) (hno : out.length ≤ 1000000000) (s : Bs) (hs : s.length ≤ 1000000000) (τ : Store) (hτ : τ.below 1000 = true) (f : FuncId) (hin : Into Tryz.prog f) (caps : List AVal) (T : List Tk) (D : Nat) (H : ∀ v1, AC Tryz.prog f caps (wr v0 v1 (out ++ [tkS s]) (d + 1) (max m (d + 1)) τ) (WrT v0 (out ++ [tkS s] ++ T) (d + 1) (max (max m (d + 1)) (d + 1 + (D : Nat))) τ)) : AC Tryz.prog 148 [.ptr 0 v0 0 0, .v (.string (str (s))), .fn f caps] (wr v0 v1 out d m τ) (fun r σ' => WrT v0 (out ++ tkS s :: T) d (max m (d + (D + 1 : Nat))) τ r σ') := by
 refine ace 37 Tryz.func148 ?_
 refine aw_sr ?_
 refine al_mv ?_
 refine al_mv ?_
 (refine al_call into150 rfl rfl rfl (wr_lift rfl (e_symbol v0 v1 out d m s hs hno) _ (wr_below hτ)) (by simp) ?_; rintro _ _ ⟨v8, rfl, rfl⟩)
 refine al_sr ?_
 refine al_mv ?_
 refine al_o (op_nilCheck_ptr rfl rfl) ?_
 refine al_fp u123 info3 ?_
 refine al_ld u3 info3 ?_
 refine al_ad ?_
 refine al_o (op_nilCheck_ptr rfl rfl) ?_
 refine al_fp u123 info3 ?_
 refine al_sp info3 ?_
 refine al_nil ?_
 refine aw_seq ?_
 refine aw_any (Checked.mixed Tryz.checked) ?_
 apply aany_seg (p := 0) (q := 12) (by kernel_rfl) rfl (by decide)
 ·
  apply ql_plain rfl (op_move rfl)
  apply ql_plain rfl (op_move rfl)
  apply ql_plain rfl (op_nilCheck_ptr rfl rfl)
  apply ql_plain rfl (op_field_ptr u123 rfl info3 (by decide) rfl rfl rfl)
  apply ql_plain rfl (op_load_ptr u3 info3 rfl rfl rfl rfl)
  apply ql_plain rfl (op_move rfl)
  apply ql_plain rfl (op_nilCheck_ptr rfl rfl)
  apply ql_plain rfl (op_field_ptr u123 rfl info3 (by decide) rfl rfl rfl)
  apply ql_plain rfl (op_load_ptr u3 info3 rfl rfl rfl rfl)
  apply ql_plain rfl (op_max rfl rfl)
  apply ql_plain rfl (op_nilCheck_ptr rfl rfl)
  apply ql_plain rfl (op_field_ptr u123 rfl info3 (by decide) rfl rfl rfl)
  exact ql_nil
 ·simp
 refine aany_op (by kernel_rfl) rfl rfl (op_sp info3) (by simp) ?_
 refine aany_end rfl (by kernel_rfl) ?_
 refine aw_sr ?_
 refine al_mv ?_
 (refine al_call hin rfl rfl rfl (H v8) (by simp) ?_; rintro _ _ ⟨v29, rfl, rfl⟩)
 refine al_nil ?_
 refine aw_region ?_
 refine al_mv ?_
 refine al_o (op_nilCheck_ptr rfl rfl) ?_
 refine al_fp u123 info3 ?_
 refine al_ld u3 info3 ?_
 refine al_o (op_sub rfl rfl (by first | exact wrap_i64 (by omega) (by omega))) ?_
 refine al_o (op_nilCheck_ptr rfl rfl) ?_
 refine al_fp u123 info3 ?_
 refine al_sp info3 ?_
 refine al_nil ?_
 refine ⟨_, res_0 rfl, ?_⟩
 have e1 : d + 1 - 1 = d := by omega
 have e2 : max (max m (d + 1)) (d + 1 + (D : Nat)) = max m (d + (D + 1 : Nat)) := by omega
 have e3 : out ++ [tkS s] ++ T = out ++ tkS s :: T := by simp
 rw [e1, e2, e3]; exact ⟨_, rfl, rfl⟩
end Go.Proofs.YtcgdlhkiecommaaGreatDoor
/- Printed walks (gen.py, lexer_ann.py): part 460. -/





namespace Go.Proofs.YtcgdlhkiecommaaGreatDoor
open Go
theorem q_ok (v0 : Nat) (l : List Tk) (hl : ∀ t ∈ l, possT t = true) (hn : l.length ≤ 1000000) (k : Nat) (s : Qs) (hs : QH l k s)  : AC Tryz.prog 43 [.ptr 0 v0 0 0] (rq v0 l s []) (fun r σ' => r = .ret (.v (.bool ((s.F.code == 0)))) ∧ σ'.keep k0 = rq v0 l s []) := by
 have hi := hs.1
 have hd := hs.2.2.2.2
 refine ace 9 Tryz.func43 ?_
 refine aw_sr ?_
 refine al_gs ?_
 refine al_sr ?_
 refine al_mv ?_
 refine al_o (op_nilCheck_ptr rfl rfl) ?_
 refine al_fp u76 info40 ?_
 refine al_fp u40 info38 ?_
 refine al_ld u38 info38 ?_
 refine al_eq ?_
 refine al_gs ?_
 refine al_nil ?_
 refine aw_ret ?_
 refine ⟨_, res_1 rfl rfl, ?_⟩
 exact ⟨rfl, rfl⟩
theorem q_okA {σ : Store} (v0 : Nat) (l : List Tk) (hl : ∀ t ∈ l, possT t = true) (hn : l.length ≤ 1000000) (k : Nat) (s : Qs) (hs : QH l k s) (h1 : σ.get 0 = some (v0, .row 7 [rdq l s])) (hb : σ.below 1000 = true) : AC Tryz.prog 43 [.ptr 0 v0 0 0] σ (fun r σ' => r = .ret (.v (.bool ((s.F.code == 0)))) ∧ σ' = σ) :=
  rq_look rfl rfl (q_ok v0 l hl hn k s hs ) h1 hb
theorem q_label (t : Tk) (hp : possT t = true) (h3 : t.op = 3 → 0 ≤ t.n) : ACp Tryz.prog 138 [.agg (encK t)] (.v (.string (str (textT t)))) := by
 refine acp_of rfl ?_
 obtain ⟨t1, t2, t3, _⟩ := poss_small hp
 refine ace 11 Tryz.func138 ?_
 refine aw_sr ?_
 refine al_bx 1 fun ver1 => ?_
 refine al_gs ?_
 refine al_nil ?_
 refine aw_seq ?_
 refine aw_sr ?_
 refine al_fp u65 info63 ?_
 refine al_ld u63 info63 ?_
 refine al_eq ?_
 refine al_nil ?_
 refine aw_cond rfl (fun h1 => ?_) (fun h1 => ?_)
 ·have gh1 := h1
  simp only [nrm] at h1
  refine aw_sr ?_
  refine al_fp u65 info3 ?_
  refine al_ld u3 info3 ?_
  refine al_callp into161 rfl rfl rfl (r_decI t.n (by first | exact h3 (by simpa using gh1) | omega) (by omega) _) (by simp) ?_
  refine al_gs ?_
  refine al_nil ?_
  refine fz1 (t := 2) ?_
  refine aw_ret ?_
  refine ⟨_, res_1 rfl rfl, ?_, rfl⟩
  rw [textT, gh1]; rfl
 have gh1 := h1
 simp only [nrm] at h1
 refine aw_skip ?_
 refine aw_sr ?_
 refine al_fp u65 info9 ?_
 refine al_ld u9 info9 ?_
 refine al_gs ?_
 refine al_nil ?_
 refine fz1 (t := 2) ?_
 refine aw_ret ?_
 refine ⟨_, res_1 rfl rfl, ?_, rfl⟩
 rw [textT, gh1]; rfl
theorem q_fail (v0 : Nat) (l : List Tk) (hl : ∀ t ∈ l, possT t = true) (hn : l.length ≤ 1000000) (k : Nat) (s : Qs) (hs : QH l k s) (c : Int) (hc : c ≠ 0) (i : Nat) (hii : i ≤ l.length) : AC Tryz.prog 84 [.ptr 0 v0 0 0, .v (.int .i64 (c)), .v (.int .i64 ((i : Nat) : Int))] (rq v0 l s []) (fun r σ' => RqK v0 l encUnit (QRf l (.bad (fltAt l c i)) s) r σ') := by
 have hi := hs.1
 have hd := hs.2.2.2.2
 refine ace 39 Tryz.func84 ?_
 refine aw_seq ?_
 refine aw_sr ?_
 refine al_mv ?_
 refine al_callp into43 rfl rfl rfl (q_okA v0 l hl hn k s hs  rfl rfl) (by simp) ?_
 refine al_o (op_not rfl) ?_
 refine al_nil ?_
 refine aw_cond rfl (fun h1 => ?_) (fun h1 => ?_)
 ·have gh1 := h1
  simp only [nrm] at h1
  refine aw_ret ?_
  refine ⟨_, res_0 rfl, ?_⟩
  exact rqk () s ⟨qp_skip hs.2.1 hi (not_code gh1), rfl, rfl⟩ rfl
 have gh1 := h1
 simp only [nrm] at h1
 refine aw_skip ?_
 refine aw_seq ?_
 refine aw_sr ?_
 refine al_mv ?_
 refine al_mv ?_
 refine al_o (op_nilCheck_ptr rfl rfl) ?_
 refine al_fp u76 info22 ?_
 refine al_ld u22 info22 ?_
 refine al_lm u22 ?_
 refine al_o (op_geq rfl rfl) ?_
 refine al_nil ?_
 refine aw_cond rfl (fun h2 => ?_) (fun h2 => ?_)
 ·have gh2 := h2
  simp only [nrm] at h2
  refine aw_sr ?_
  refine al_mv ?_
  refine al_o (op_bs u40 info40 place40) ?_
  refine al_o (op_nilCheck_ptr rfl rfl) ?_
  refine al_fp u76 info40 ?_
  refine al_sp info40 ?_
  refine al_nil ?_
  refine aw_ret ?_
  refine ⟨_, res_0 rfl, ?_⟩
  exact rqk () ⟨s.i, s.d, eofF⟩ ⟨qp_fail hi hc (is_code hs.2.1 gh1) (by rw [fltAt_end _ (by omega)]), rfl, rfl⟩ rfl
 have gh2 := h2
 simp only [nrm] at h2
 refine aw_skip ?_
 refine aw_seq ?_
 have htk : possT (tokAt l i) = true := hl _ (getD_mem (by omega))
 refine aw_region ?_
 refine al_mv ?_
 refine al_o (op_nilCheck_ptr rfl rfl) ?_
 refine al_fp u76 info22 ?_
 refine al_ld u22 info22 ?_
 refine al_mv ?_
 refine al_o (op_im u22 info65) ?_
 refine al_lr u65 info65 ?_
 refine al_al 6 info65 fun ver6 => ?_
 refine al_sp info65 ?_
 refine al_nil ?_
 refine aw_any (Checked.mixed Tryz.checked) ?_
 apply aany_seg (p := 0) (q := 11) (by kernel_rfl) rfl (by decide)
 ·
  apply ql_plain rfl (op_move rfl)
  apply ql_plain rfl (op_move rfl)
  apply ql_plain rfl (op_load_ptr u65 info65 rfl rfl rfl rfl)
  apply ql_call into138 rfl rfl rfl (q_label (tokAt l i) htk (fun _ => (poss_small htk).2.1) _)
  apply ql_plain rfl (op_field_ptr u65 rfl info3 (by decide) rfl rfl rfl)
  apply ql_plain rfl (op_load_ptr u3 info3 rfl rfl rfl rfl)
  apply ql_plain rfl (op_field_ptr u65 rfl info3 (by decide) rfl rfl rfl)
  apply ql_plain rfl (op_load_ptr u3 info3 rfl rfl rfl rfl)
  apply ql_plain rfl (op_bs u40 info40 place40)
  apply ql_plain rfl (op_nilCheck_ptr rfl rfl)
  apply ql_plain rfl (op_field_ptr u76 rfl info40 (by decide) rfl rfl rfl)
  exact ql_nil
 ·simp
 refine aany_op (by kernel_rfl) rfl rfl (op_sp info40) (by simp) ?_
 refine aany_end rfl (by kernel_rfl) ?_
 refine ⟨_, res_0 rfl, ?_⟩
 exact rqk () ⟨s.i, s.d, ⟨c, textT (tokAt l i), (tokAt l i).line, (tokAt l i).col⟩⟩ ⟨qp_fail hi hc (is_code hs.2.1 gh1) (by rw [fltAt_in _ (by omega)]), rfl, rfl⟩ rfl
theorem q_is (v0 : Nat) (l : List Tk) (hl : ∀ t ∈ l, possT t = true) (hn : l.length ≤ 1000000) (k : Nat) (s : Qs) (hs : QH l k s) (t : Bs) : AC Tryz.prog 87 [.ptr 0 v0 0 0, .v (.string (str (t)))] (rq v0 l s []) (fun r σ' => r = .ret (.v (.bool (isQ l s t))) ∧ σ'.keep k0 = rq v0 l s []) := by
 have hi := hs.1
 have hd := hs.2.2.2.2
 refine ace 45 Tryz.func87 ?_
 refine aw_sr ?_
 refine al_gs ?_
 refine al_nil ?_
 refine aw_seq ?_
 refine aw_seq ?_
 refine aw_any (Checked.mixed Tryz.checked) ?_
 apply aany_seg (p := 0) (q := 4) (by kernel_rfl) rfl (by decide)
 ·
  apply ql_plain rfl (op_move rfl)
  apply ql_call into43 rfl rfl rfl (q_okA v0 l hl hn k s hs  rfl rfl)
  apply ql_plain rfl (op_not rfl)
  apply ql_plain rfl (op_move rfl)
  exact ql_nil
 ·simp
 apply aany_or 4 15 9 20 (by kernel_rfl) rfl (by decide) rfl (by simp)
 ·intro h1; have gh1 := h1
  simp only [nrm] at h1
  apply ql_ex
  ·
   apply ql_take rfl rfl rfl rfl (op_move rfl)
   apply ql_take rfl rfl rfl rfl (op_nilCheck_ptr rfl rfl)
   apply ql_take rfl rfl rfl rfl (op_field_ptr u76 rfl info3 (by decide) rfl rfl rfl)
   apply ql_take rfl rfl rfl rfl (op_load_ptr u3 info3 rfl rfl rfl rfl)
   apply ql_take rfl rfl rfl rfl (op_move rfl)
   apply ql_take rfl rfl rfl rfl (op_nilCheck_ptr rfl rfl)
   apply ql_take rfl rfl rfl rfl (op_field_ptr u76 rfl info22 (by decide) rfl rfl rfl)
   apply ql_take rfl rfl rfl rfl (op_load_ptr u22 info22 rfl rfl rfl rfl)
   apply ql_take rfl rfl rfl rfl (op_len_map u22 rfl)
   apply ql_take rfl rfl rfl rfl (op_geq rfl rfl)
   apply ql_plain rfl (op_pick rfl rfl)
   exact ql_nil
  ·rfl
  ·exact subk gh1
 ·intro h1; have gh1 := h1
  simp only [nrm] at h1
  apply ql_ex
  ·
   apply ql_pass rfl rfl rfl rfl
   apply ql_pass rfl rfl rfl rfl
   apply ql_pass rfl rfl rfl rfl
   apply ql_pass rfl rfl rfl rfl
   apply ql_pass rfl rfl rfl rfl
   apply ql_pass rfl rfl rfl rfl
   apply ql_pass rfl rfl rfl rfl
   apply ql_pass rfl rfl rfl rfl
   apply ql_pass rfl rfl rfl rfl
   apply ql_pass rfl rfl rfl rfl
   apply ql_plain rfl (op_pick rfl rfl)
   exact ql_nil
  ·rfl
  ·exact subk gh1
 refine aany_end rfl (by kernel_rfl) ?_
 refine aw_cond rfl (fun h2 => ?_) (fun h2 => ?_)
 ·have gh2 := h2
  simp only [nrm] at h2
  refine aw_sr ?_
  refine al_gs ?_
  refine al_nil ?_
  refine aw_ret ?_
  refine ⟨_, res_1 rfl rfl, ?_⟩
  rw [isq_out gh2]; exact ⟨rfl, rfl⟩
 have gh2 := h2
 simp only [nrm] at h2
 refine aw_skip ?_
 refine aw_seq ?_
 have hlt : s.i < l.length := by have := gh2; simp only [Bool.or_eq_false_iff, decide_eq_false_iff_not] at this; omega
 refine aw_plan [0, 1, 2, 3, 4, 5, 6, 7, 8, 9, 10, 11] (Checked.mixed Tryz.checked) (by kernel_rfl) ?_
 refine afl_float rfl rfl (opk_of (op_move rfl)) (by simp) ?_
 refine afl_float rfl rfl (opk_of (op_nilCheck_ptr rfl rfl)) (by simp) ?_
 refine afl_float rfl rfl (opk_of (op_field_ptr u76 rfl info22 (by decide) rfl rfl rfl)) (by simp) ?_
 refine afl_float rfl rfl (opk_of (op_load_ptr u22 info22 rfl rfl rfl rfl)) (by simp) ?_
 refine afl_float rfl rfl (opk_of (op_move rfl)) (by simp) ?_
 refine afl_float rfl rfl (opk_of (op_nilCheck_ptr rfl rfl)) (by simp) ?_
 refine afl_float rfl rfl (opk_of (op_field_ptr u76 rfl info3 (by decide) rfl rfl rfl)) (by simp) ?_
 refine afl_float rfl rfl (opk_of (op_load_ptr u3 info3 rfl rfl rfl rfl)) (by simp) ?_
 refine afl_float rfl rfl (opk_of (op_im u22 info65)) (by simp) ?_
 refine afl_float rfl rfl (opk_of (op_load_rptr u65 info65 rfl rfl)) (by simp) ?_
 (refine afl_effR rfl rfl (by kernel_rfl) (op_alloc 5 info65 rfl rfl) (by simp) ?_; rintro _ _ ⟨ver5, rfl, rfl⟩; refine ⟨?_, ?_⟩)
 ·
  refine loose_k rfl (opk_of (op_load_rptr u65 info65 rfl rfl)) ?_
  refine loose_k rfl (opk_of (op_im u22 info65)) ?_
  refine loose_k rfl (opk_of (op_load_ptr u3 info3 rfl rfl rfl rfl)) ?_
  refine loose_k rfl (opk_of (op_field_ptr u76 rfl info3 (by decide) rfl rfl rfl)) ?_
  refine loose_k rfl (opk_of (op_nilCheck_ptr rfl rfl)) ?_
  refine loose_k rfl (opk_of (op_move rfl)) ?_
  refine loose_k rfl (opk_of (op_load_ptr u22 info22 rfl rfl rfl rfl)) ?_
  refine loose_k rfl (opk_of (op_field_ptr u76 rfl info22 (by decide) rfl rfl rfl)) ?_
  refine loose_k rfl (opk_of (op_nilCheck_ptr rfl rfl)) ?_
  refine loose_k rfl (opk_of (op_move rfl)) ?_
  exact loose_nil
 (refine afl_eff rfl rfl (by kernel_rfl) (op_sp info65) (by simp) ?_ ?_)
 ·
  refine loose_fix rfl ?_
  refine loose_anc 9 rfl (by kernel_rfl) ?_
  refine loose_anc 8 rfl (by kernel_rfl) ?_
  refine loose_anc 7 rfl (by kernel_rfl) ?_
  refine loose_anc 6 rfl (by kernel_rfl) ?_
  refine loose_anc 5 rfl (by kernel_rfl) ?_
  refine loose_anc 4 rfl (by kernel_rfl) ?_
  refine loose_anc 3 rfl (by kernel_rfl) ?_
  refine loose_anc 2 rfl (by kernel_rfl) ?_
  refine loose_anc 1 rfl (by kernel_rfl) ?_
  refine loose_anc 0 rfl (by kernel_rfl) ?_
  exact loose_nil
 refine afl_end ?_
 refine aw_sr ?_
 refine al_fp u65 info63 ?_
 refine al_ld u63 info63 ?_
 refine al_eq ?_
 refine al_mv ?_
 apply al_or 4 34 38 rfl
 ·intro h3; have gh3 := h3
  simp only [nrm] at h3
  refine tk_fp u65 info63 ?_
  refine tk_ld u63 info63 ?_
  refine tk_eq ?_
  refine al_pk ?_
  exact al_nk gh3
 ·intro h3; have gh3 := h3
  simp only [nrm] at h3
  iterate 3 refine al_ps ?_
  refine al_pk ?_
  exact al_nk gh3
 refine al_mv ?_
 apply al_and 5 39 44 rfl
 ·intro h4; have gh4 := h4
  simp only [nrm] at h4
  refine tk_fp u65 info9 ?_
  refine tk_ld u9 info9 ?_
  refine tk_mv ?_
  refine al_t (op_seql_str rfl rfl) ?_
  refine al_pk ?_
  exact al_nk gh4
 ·intro h4; have gh4 := h4
  simp only [nrm] at h4
  iterate 4 refine al_ps ?_
  refine al_pk ?_
  exact al_nk gh4
 refine al_gs ?_
 refine al_nil ?_
 refine aw_ret ?_
 refine ⟨_, res_1 rfl rfl, ?_⟩
 rw [← isq_in gh2]; exact ⟨rfl, rfl⟩
theorem q_isA {σ : Store} (v0 : Nat) (l : List Tk) (hl : ∀ t ∈ l, possT t = true) (hn : l.length ≤ 1000000) (k : Nat) (s : Qs) (hs : QH l k s) (t : Bs)(h1 : σ.get 0 = some (v0, .row 7 [rdq l s])) (hb : σ.below 1000 = true) : AC Tryz.prog 87 [.ptr 0 v0 0 0, .v (.string (str (t)))] σ (fun r σ' => r = .ret (.v (.bool (isQ l s t))) ∧ σ' = σ) :=
  rq_look rfl rfl (q_is v0 l hl hn k s hs t) h1 hb
theorem q_kind (v0 : Nat) (l : List Tk) (hl : ∀ t ∈ l, possT t = true) (hn : l.length ≤ 1000000) (k : Nat) (s : Qs) (hs : QH l k s) (c : Int) (hc : c ≠ 0) : AC Tryz.prog 83 [.ptr 0 v0 0 0, .v (.int .i64 (c))] (rq v0 l s []) (fun r σ' => r = .ret (.v (.bool (kindQ l s c))) ∧ σ'.keep k0 = rq v0 l s []) := by
 have hi := hs.1
 have hd := hs.2.2.2.2
 refine ace 34 Tryz.func83 ?_
 refine aw_sr ?_
 refine al_gs ?_
 refine al_nil ?_
 refine aw_seq ?_
 refine aw_any (Checked.mixed Tryz.checked) ?_
 apply aany_seg (p := 0) (q := 3) (by kernel_rfl) rfl (by decide)
 ·
  apply ql_plain rfl (op_move rfl)
  apply ql_call into43 rfl rfl rfl (q_okA v0 l hl hn k s hs  rfl rfl)
  apply ql_plain rfl (op_move rfl)
  exact ql_nil
 ·simp
 apply aany_and 3 14 7 18 (by kernel_rfl) rfl (by decide) rfl (by simp)
 ·intro h1; have gh1 := h1
  simp only [nrm] at h1
  apply ql_ex
  ·
   apply ql_take rfl rfl rfl rfl (op_move rfl)
   apply ql_take rfl rfl rfl rfl (op_nilCheck_ptr rfl rfl)
   apply ql_take rfl rfl rfl rfl (op_field_ptr u76 rfl info3 (by decide) rfl rfl rfl)
   apply ql_take rfl rfl rfl rfl (op_load_ptr u3 info3 rfl rfl rfl rfl)
   apply ql_take rfl rfl rfl rfl (op_move rfl)
   apply ql_take rfl rfl rfl rfl (op_nilCheck_ptr rfl rfl)
   apply ql_take rfl rfl rfl rfl (op_field_ptr u76 rfl info22 (by decide) rfl rfl rfl)
   apply ql_take rfl rfl rfl rfl (op_load_ptr u22 info22 rfl rfl rfl rfl)
   apply ql_take rfl rfl rfl rfl (op_len_map u22 rfl)
   apply ql_take rfl rfl rfl rfl (op_lss rfl rfl)
   apply ql_plain rfl (op_pick rfl rfl)
   exact ql_nil
  ·rfl
  ·exact subk gh1
 ·intro h1; have gh1 := h1
  simp only [nrm] at h1
  apply ql_ex
  ·
   apply ql_pass rfl rfl rfl rfl
   apply ql_pass rfl rfl rfl rfl
   apply ql_pass rfl rfl rfl rfl
   apply ql_pass rfl rfl rfl rfl
   apply ql_pass rfl rfl rfl rfl
   apply ql_pass rfl rfl rfl rfl
   apply ql_pass rfl rfl rfl rfl
   apply ql_pass rfl rfl rfl rfl
   apply ql_pass rfl rfl rfl rfl
   apply ql_pass rfl rfl rfl rfl
   apply ql_plain rfl (op_pick rfl rfl)
   exact ql_nil
  ·rfl
  ·exact subk gh1
 apply aany_seg (p := 14) (q := 15) (by kernel_rfl) rfl (by decide)
 ·
  apply ql_plain rfl (op_move rfl)
  exact ql_nil
 ·simp
 apply aany_and 15 29 19 33 (by kernel_rfl) rfl (by decide) rfl (by simp)
 ·intro h2; have gh2 := h2
  simp only [nrm] at h2
  apply ql_ex
  ·
   apply ql_take rfl rfl rfl rfl (op_move rfl)
   apply ql_take rfl rfl rfl rfl (op_nilCheck_ptr rfl rfl)
   apply ql_take rfl rfl rfl rfl (op_field_ptr u76 rfl info22 (by decide) rfl rfl rfl)
   apply ql_take rfl rfl rfl rfl (op_load_ptr u22 info22 rfl rfl rfl rfl)
   apply ql_take rfl rfl rfl rfl (op_move rfl)
   apply ql_take rfl rfl rfl rfl (op_nilCheck_ptr rfl rfl)
   apply ql_take rfl rfl rfl rfl (op_field_ptr u76 rfl info3 (by decide) rfl rfl rfl)
   apply ql_take rfl rfl rfl rfl (op_load_ptr u3 info3 rfl rfl rfl rfl)
   apply ql_take rfl rfl rfl rfl (op_im u22 info65)
   apply ql_take rfl rfl rfl rfl (op_field_rptr u65 rfl info63 (by decide) rfl rfl)
   apply ql_take rfl rfl rfl rfl (op_load_rptr u63 info63 rfl rfl)
   apply ql_take rfl rfl rfl rfl (op_move rfl)
   apply ql_take rfl rfl rfl rfl (op_eql rfl rfl)
   apply ql_plain rfl (op_pick rfl rfl)
   exact ql_nil
  ·rfl
  ·exact subk gh2
 ·intro h2; have gh2 := h2
  apply ql_ex
  ·
   apply ql_pass rfl rfl rfl rfl
   apply ql_pass rfl rfl rfl rfl
   apply ql_pass rfl rfl rfl rfl
   apply ql_pass rfl rfl rfl rfl
   apply ql_pass rfl rfl rfl rfl
   apply ql_pass rfl rfl rfl rfl
   apply ql_pass rfl rfl rfl rfl
   apply ql_pass rfl rfl rfl rfl
   apply ql_pass rfl rfl rfl rfl
   apply ql_pass rfl rfl rfl rfl
   apply ql_pass rfl rfl rfl rfl
   apply ql_pass rfl rfl rfl rfl
   apply ql_pass rfl rfl rfl rfl
   apply ql_plain rfl (op_pick rfl rfl)
   exact ql_nil
  ·rfl
  ·exact subk gh2
 apply aany_seg (p := 29) (q := 30) (by kernel_rfl) rfl (by decide)
 ·
  apply ql_plain rfl (op_assign rfl)
  exact ql_nil
 ·simp
 refine aany_end rfl (by kernel_rfl) ?_
 refine aw_ret ?_
 refine ⟨_, res_1 rfl rfl, ?_⟩
 rw [← kindq_eq hc]; exact ⟨rfl, rfl⟩
theorem q_kindA {σ : Store} (v0 : Nat) (l : List Tk) (hl : ∀ t ∈ l, possT t = true) (hn : l.length ≤ 1000000) (k : Nat) (s : Qs) (hs : QH l k s) (c : Int) (hc : c ≠ 0)(h1 : σ.get 0 = some (v0, .row 7 [rdq l s])) (hb : σ.below 1000 = true) : AC Tryz.prog 83 [.ptr 0 v0 0 0, .v (.int .i64 (c))] σ (fun r σ' => r = .ret (.v (.bool (kindQ l s c))) ∧ σ' = σ) :=
  rq_look rfl rfl (q_kind v0 l hl hn k s hs c hc) h1 hb
theorem q_need (v0 : Nat) (l : List Tk) (hl : ∀ t ∈ l, possT t = true) (hn : l.length ≤ 1000000) (k : Nat) (s : Qs) (hs : QH l k s) (t : Bs) : AC Tryz.prog 99 [.ptr 0 v0 0 0, .v (.string (str (t)))] (rq v0 l s []) (fun r σ' => RqK v0 l encUnit (QRd l (wantP l t s.i) s) r σ') := by
 have hi := hs.1
 have hd := hs.2.2.2.2
 refine ace 21 Tryz.func99 ?_
 refine aw_seq ?_
 refine aw_sr ?_
 refine al_mv ?_
 refine al_mv ?_
 refine al_callp into87 rfl rfl rfl (q_isA v0 l hl hn k s hs t rfl rfl) (by simp) ?_
 refine al_o (op_not rfl) ?_
 refine al_nil ?_
 refine aw_cond rfl (fun h1 => ?_) (fun h1 => ?_)
 ·have gh1 := h1
  simp only [nrm] at h1
  refine aw_sr ?_
  refine al_mv ?_
  refine al_mv ?_
  refine al_o (op_nilCheck_ptr rfl rfl) ?_
  refine al_fp u76 info3 ?_
  refine al_ld u3 info3 ?_
  (refine al_call into84 rfl rfl rfl (rq_lift rfl (fun _ => rfl) (q_fail v0 l hl hn k s hs 11 (by decide) s.i hi) _ (by rfl)) (by simp) ?_; rintro _ _ ⟨a13, s13, hq13, rfl, rfl⟩)
  refine al_nil ?_
  refine aw_ret ?_
  refine ⟨_, res_0 rfl, ?_⟩
  exact rqk () s13 ⟨qp_bad hq13.1 rfl (fun ho => want_not (isQ_no (by simpa using gh1) ho)), hq13.2.1⟩ rfl
 have gh1 := h1
 simp only [nrm] at h1
 refine aw_skip ?_
 refine aw_region ?_
 refine al_mv ?_
 refine al_o (op_nilCheck_ptr rfl rfl) ?_
 refine al_fp u76 info3 ?_
 refine al_ld u3 info3 ?_
 refine al_ad ?_
 refine al_o (op_nilCheck_ptr rfl rfl) ?_
 refine al_fp u76 info3 ?_
 refine al_sp info3 ?_
 refine al_nil ?_
 refine ⟨_, res_0 rfl, ?_⟩
 obtain ⟨ho, ha⟩ := isQ_yes (t := t) hs.2.1 (by simpa using gh1)
 exact rqk () ⟨s.i + 1, s.d, s.F⟩ ⟨qp_ok ho (Nat.le_succ _) (isAt_lt ha) (want_at ha), rfl⟩ rfl
theorem q_name (v0 : Nat) (l : List Tk) (hl : ∀ t ∈ l, possT t = true) (hn : l.length ≤ 1000000) (k : Nat) (s : Qs) (hs : QH l k s)  : AC Tryz.prog 86 [.ptr 0 v0 0 0] (rq v0 l s []) (fun r σ' => RqK v0 l (fun t => .v (.string (str t.text))) (QR l (kindP l 1 s.i) (0) s) r σ') := by
 have hi := hs.1
 have hd := hs.2.2.2.2
 refine ace 31 Tryz.func86 ?_
 refine aw_sr ?_
 refine al_gs ?_
 refine al_nil ?_
 refine aw_seq ?_
 refine aw_sr ?_
 refine al_mv ?_
 refine al_callp into83 rfl rfl rfl (q_kindA v0 l hl hn k s hs 1 (by decide) rfl rfl) (by simp) ?_
 refine al_o (op_not rfl) ?_
 refine al_nil ?_
 refine aw_cond rfl (fun h1 => ?_) (fun h1 => ?_)
 ·have gh1 := h1
  simp only [nrm] at h1
  refine aw_sr ?_
  refine al_mv ?_
  refine al_mv ?_
  refine al_o (op_nilCheck_ptr rfl rfl) ?_
  refine al_fp u76 info3 ?_
  refine al_ld u3 info3 ?_
  (refine al_call into84 rfl rfl rfl (rq_lift rfl (fun _ => rfl) (q_fail v0 l hl hn k s hs 11 (by decide) s.i hi) _ (by rfl)) (by simp) ?_; rintro _ _ ⟨a11, s11, hq11, rfl, rfl⟩)
  refine al_sr ?_
  refine al_gs ?_
  refine al_nil ?_
  refine aw_ret ?_
  refine ⟨_, res_1 rfl rfl, ?_⟩
  exact rqk default s11 (qp_bad hq11.1 rfl (fun ho => by rw [kindP, kindQ_no (by simpa using gh1) ho]; rfl)) rfl
 have gh1 := h1
 simp only [nrm] at h1
 obtain ⟨ho, ha⟩ := kindQ_yes (k := 1) hs.2.1 (by simpa using gh1)
 have hlt := op_lt (l := l) (i := s.i) (k := 1) (by simpa using ha) (by decide)
 refine aw_skip ?_
 refine aw_sr ?_
 refine al_mv ?_
 refine al_o (op_nilCheck_ptr rfl rfl) ?_
 refine al_fp u76 info3 ?_
 refine al_ld u3 info3 ?_
 refine al_ad ?_
 refine al_o (op_nilCheck_ptr rfl rfl) ?_
 refine al_fp u76 info3 ?_
 refine al_sp info3 ?_
 refine al_nil ?_
 refine aw_seq ?_
 refine aw_any (Checked.mixed Tryz.checked) ?_
 apply aany_seg (p := 0) (q := 13) (by kernel_rfl) rfl (by decide)
 ·
  apply ql_plain rfl (op_move rfl)
  apply ql_plain rfl (op_nilCheck_ptr rfl rfl)
  apply ql_plain rfl (op_field_ptr u76 rfl info22 (by decide) rfl rfl rfl)
  apply ql_plain rfl (op_load_ptr u22 info22 rfl rfl rfl rfl)
  apply ql_plain rfl (op_move rfl)
  apply ql_plain rfl (op_nilCheck_ptr rfl rfl)
  apply ql_plain rfl (op_field_ptr u76 rfl info3 (by decide) rfl rfl rfl)
  apply ql_plain rfl (op_load_ptr u3 info3 rfl rfl rfl rfl)
  apply ql_plain rfl (val_as (.v (.int .i64 ((s.i : Nat) : Int))) (op_sub rfl rfl (by first | exact wrap_i64 (by omega) (by omega))) (by exact congrArg (fun x : Int => AVal.v (.int .i64 x)) (by omega)))
  apply ql_plain rfl (op_im u22 info65)
  apply ql_plain rfl (op_field_rptr u65 rfl info9 (by decide) rfl rfl)
  apply ql_plain rfl (op_load_rptr u9 info9 rfl rfl)
  apply ql_plain rfl (op_assign rfl)
  exact ql_nil
 ·simp
 refine aany_end rfl (by kernel_rfl) ?_
 refine aw_ret ?_
 refine ⟨_, res_1 rfl rfl, ?_⟩
 exact rqk (tokAt l s.i) ⟨s.i + 1, s.d, s.F⟩ (qp_ok ho (Nat.le_succ _) hlt (by rw [kindP, ha]; rfl)) rfl
theorem q_deeper (v0 : Nat) (l : List Tk) (hl : ∀ t ∈ l, possT t = true) (hn : l.length ≤ 1000000) (k : Nat) (s : Qs) (hs : QH l k s) (t : Bs) : AC Tryz.prog 97 [.ptr 0 v0 0 0, .v (.string (str (t)))] (rq v0 l s []) (fun r σ' => RqK v0 l encUnit (QR l (deepP l t (k - 1) s.i) (1) s) r σ') := by
 have hi := hs.1
 have hd := hs.2.2.2.2
 refine ace 31 Tryz.func97 ?_
 refine aw_seq ?_
 refine aw_sr ?_
 refine al_mv ?_
 refine al_mv ?_
 refine al_callp into87 rfl rfl rfl (q_isA v0 l hl hn k s hs t rfl rfl) (by simp) ?_
 refine al_mv ?_
 apply al_and 7 7 14 rfl
 ·intro gh1
  refine tk_mv ?_
  refine al_t (op_nilCheck_ptr rfl rfl) ?_
  refine tk_fp u76 info3 ?_
  refine tk_ld u3 info3 ?_
  refine al_t (op_add rfl rfl (by first | exact wrap_i64 (by omega) (by omega))) ?_
  refine al_t (op_gtr rfl rfl) ?_
  refine al_pk ?_
  exact al_nk gh1
 ·intro gh1
  iterate 6 refine al_ps ?_
  refine al_pk ?_
  exact al_nk gh1
 refine al_nil ?_
 refine aw_cond rfl (fun h2 => ?_) (fun h2 => ?_)
 ·have gh2 := h2
  simp only [nrm] at h2
  refine aw_sr ?_
  refine al_mv ?_
  refine al_mv ?_
  refine al_o (op_nilCheck_ptr rfl rfl) ?_
  refine al_fp u76 info3 ?_
  refine al_ld u3 info3 ?_
  (refine al_call into84 rfl rfl rfl (rq_lift rfl (fun _ => rfl) (q_fail v0 l hl hn k s hs 23 (by decide) s.i hi) _ (by rfl)) (by simp) ?_; rintro _ _ ⟨a20, s20, hq20, rfl, rfl⟩)
  refine al_nil ?_
  refine aw_ret ?_
  refine ⟨_, res_0 rfl, ?_⟩
  exact rqk () s20 (deep_leaf1 hs hq20.1 hq20.2.1 gh2) rfl
 have gh2 := h2
 simp only [nrm] at h2
 refine aw_skip ?_
 refine aw_sr ?_
 refine al_mv ?_
 refine al_mv ?_
 (refine al_call into99 rfl rfl rfl (rq_lift rfl (fun _ => rfl) (q_need v0 l hl hn k s hs t) _ (by rfl)) (by simp) ?_; rintro _ _ ⟨a23, s23, hq23, rfl, rfl⟩)
 refine al_nil ?_
 refine aw_region ?_
 refine al_mv ?_
 refine al_o (op_nilCheck_ptr rfl rfl) ?_
 refine al_fp u76 info3 ?_
 refine al_ld u3 info3 ?_
 refine al_ad ?_
 refine al_o (op_nilCheck_ptr rfl rfl) ?_
 refine al_fp u76 info3 ?_
 refine al_sp info3 ?_
 refine al_nil ?_
 refine ⟨_, res_0 rfl, ?_⟩
 exact rqk () ⟨s23.i, s23.d + 1, s23.F⟩ (deep_leaf2 hs hq23.1 gh2) rfl
theorem q_closed (v0 : Nat) (l : List Tk) (hl : ∀ t ∈ l, possT t = true) (hn : l.length ≤ 1000000) (k : Nat) (s : Qs) (hs : QH l k s)  : AC Tryz.prog 98 [.ptr 0 v0 0 0] (rq v0 l s []) (fun r σ' => RqK v0 l encUnit (QR l (wantP l sShut s.i) (-1) s) r σ') := by
 have hi := hs.1
 have hd := hs.2.2.2.2
 refine ace 11 Tryz.func98 ?_
 refine aw_sr ?_
 refine al_mv ?_
 refine al_call into99 rfl rfl rfl (rq_lift rfl (fun _ => rfl) (q_need v0 l hl hn k s hs sShut) _ (by rfl)) (by simp) ?_; rintro _ _ ⟨a3, s3, hq3, rfl, rfl⟩
 have hd3 := hq3.2
 refine al_nil ?_
 refine aw_region ?_
 refine al_mv ?_
 refine al_o (op_nilCheck_ptr rfl rfl) ?_
 refine al_fp u76 info3 ?_
 refine al_ld u3 info3 ?_
 refine al_o (op_sub rfl rfl (by first | exact wrap_i64 (by omega) (by omega))) ?_
 refine al_o (op_nilCheck_ptr rfl rfl) ?_
 refine al_fp u76 info3 ?_
 refine al_sp info3 ?_
 refine al_nil ?_
 refine ⟨_, res_0 rfl, ?_⟩
 exact rqk () ⟨s3.i, s3.d - 1, s3.F⟩ (hq3.1.shift (-1)) rfl
theorem q_here (v0 : Nat) (l : List Tk) (hl : ∀ t ∈ l, possT t = true) (hn : l.length ≤ 1000000) (k : Nat) (s : Qs) (hs : QH l k s) (o : Int) (i : Nat) (hil : i < l.length) : AC Tryz.prog 85 [.ptr 0 v0 0 0, .v (.int .i64 (o)), .v (.int .i64 ((i : Nat) : Int))] (rq v0 l s []) (fun r σ' => r = .ret (.agg (cellsE (mkE o [] 0 [] [] (tokAt l i)))) ∧ σ'.keep k0 = rq v0 l s []) := by
 have hi := hs.1
 have hd := hs.2.2.2.2
 refine ace 25 Tryz.func85 ?_
 refine aw_sr ?_
 refine al_al 6 info37 fun ver6 => ?_
 refine al_nil ?_
 refine aw_seq ?_
 refine aw_any (Checked.mixed Tryz.checked) ?_
 apply aany_seg (p := 0) (q := 18) (by kernel_rfl) rfl (by decide)
 ·
  apply ql_plain rfl (op_move rfl)
  apply ql_plain rfl (op_move rfl)
  apply ql_plain rfl (op_nilCheck_ptr rfl rfl)
  apply ql_plain rfl (op_field_ptr u76 rfl info22 (by decide) rfl rfl rfl)
  apply ql_plain rfl (op_load_ptr u22 info22 rfl rfl rfl rfl)
  apply ql_plain rfl (op_move rfl)
  apply ql_plain rfl (op_im u22 info65)
  apply ql_plain rfl (op_field_rptr u65 rfl info3 (by decide) rfl rfl)
  apply ql_plain rfl (op_load_rptr u3 info3 rfl rfl)
  apply ql_plain rfl (op_move rfl)
  apply ql_plain rfl (op_nilCheck_ptr rfl rfl)
  apply ql_plain rfl (op_field_ptr u76 rfl info22 (by decide) rfl rfl rfl)
  apply ql_plain rfl (op_load_ptr u22 info22 rfl rfl rfl rfl)
  apply ql_plain rfl (op_move rfl)
  apply ql_plain rfl (op_im u22 info65)
  apply ql_plain rfl (op_field_rptr u65 rfl info3 (by decide) rfl rfl)
  apply ql_plain rfl (op_load_rptr u3 info3 rfl rfl)
  apply ql_plain rfl (val_re (.agg (cellsE (mkE o [] 0 [] [] (tokAt l i)))) (op_bs u37 info37 place37) (.agg _ _ (by repeat (first | exact reL_nil | refine reL_cons (.same _) ?_ | refine reL_cons (.vnil _) ?_))))
  exact ql_nil
 ·simp
 refine aany_op (by kernel_rfl) rfl rfl (op_sp info37) (by simp) ?_
 refine aany_end rfl (by kernel_rfl) ?_
 refine aw_ret ?_
 refine ⟨_, res_cell rfl u37 info37 rfl rfl rfl rfl, ?_⟩
 exact ⟨rfl, rfl⟩
theorem q_hereA {σ : Store} (v0 : Nat) (l : List Tk) (hl : ∀ t ∈ l, possT t = true) (hn : l.length ≤ 1000000) (k : Nat) (s : Qs) (hs : QH l k s) (o : Int) (i : Nat) (hil : i < l.length)(h1 : σ.get 0 = some (v0, .row 7 [rdq l s])) (hb : σ.below 1000 = true) : AC Tryz.prog 85 [.ptr 0 v0 0 0, .v (.int .i64 (o)), .v (.int .i64 ((i : Nat) : Int))] σ (fun r σ' => r = .ret (.agg (cellsE (mkE o [] 0 [] [] (tokAt l i)))) ∧ σ' = σ) :=
  rq_look rfl rfl (q_here v0 l hl hn k s hs o i hil) h1 hb
end Go.Proofs.YtcgdlhkiecommaaGreatDoor
/- Printed walks (gen.py, lexer_ann.py): part 416. -/




namespace Go.Proofs.YtcgdlhkiecommaaGreatDoor
open Go
theorem e_brk1 (v0 v1 : Nat) (out : List Tk) (d m : Int) (hd0 : 0 ≤ d) (hdm : d ≤ m) (hm : m ≤ 1000000000) (s : Bs) (hs : s.length ≤ 1000000000) (l : List Ex) (hl : l.length ≤ 1000000000) (ih : ∀ k ∈ l, WX Tryz.prog k) (hno : out.length + (sepT s (l.map toks)).length ≤ 1000000000) (hdd : d + (maxL (l.map dep) : Nat) ≤ 1000000000) (v3 v4 v5 : Nat) : AC Tryz.prog 180 [.ptr 5 v5 0 0, .ptr 3 v3 0 0, .ptr 4 v4 0 0] (wr v0 v1 out d m [(3, v3, .row 1 [[.ptr 0 v0 0 0]]), (4, v4, .row 1 [[.v (.string (str (s)))]]), (5, v5, .row 1 [[.list 16 ((l).map encE)]])]) (fun r σ' => WrT v0 (out ++ sepT s (l.map toks)) d (max m (d + (maxL (l.map dep) : Nat))) [(3, v3, .row 1 [[.ptr 0 v0 0 0]]), (4, v4, .row 1 [[.v (.string (str (s)))]]), (5, v5, .row 1 [[.list 16 ((l).map encE)]])] r σ') := by
 refine ace 21 Tryz.func180 ?_
 refine aw_sr ?_
 refine al_ld u31 info31 ?_
 refine al_lm u31 ?_
 refine al_mv ?_
 refine al_nil ?_
 refine aw_block ?_
 refine aw_for2T (α := Nat) (β := Nat) [7] [104] (fun i w => l.length - i) (fun i w => i ≤ l.length) (fun i w => ([(7, .v (.int .i64 ((i : Nat) : Int)))] : Env)) (fun i w st => wr v0 w (out ++ sepT s ((l.map toks).take i)) d (max m (d + (maxL ((l.map dep).take i) : Nat))) [(3, v3, .row 1 [[.ptr 0 v0 0 0]]), (4, v4, .row 1 [[.v (.string (str (s)))]]), (5, v5, .row 1 [[.list 16 ((l).map encE)]])]) (0) (v1) ?_ ?_ ?_ (fun i w hinv => ?_)
 ·exact Nat.zero_le _
 ·refine sub_1 ?_
  all_goals (first | rfl | simp)
 ·exact wr_start s l hdm
 refine aw_sr ?_
 refine al_ls ?_
 refine al_nil ?_
 refine aw_seq ?_
 refine aw_cond rfl (fun h1 => ?_) (fun h1 => ?_)
 ·have gh1 := h1
  simp only [nrm] at h1
  refine aw_skip ?_
  refine aw_seq ?_
  refine aw_block ?_
  refine aw_seq ?_
  have hil : i < l.length := by omega
  obtain ⟨hb1, hb2, hb3⟩ := row_bounds (s := s) hil hno
  have hb4 := dep_bound hil
  have hb5 := maxL_take_le (l.map dep) i
  refine aw_region ?_
  refine al_mv ?_
  refine al_o (val_as (.rptr (cellsE (l.getD i default))) (op_im u31 info37) (by exact congrArg AVal.rptr (encE_cells _))) ?_
  refine al_lr u37 info37 ?_
  refine al_al 104 info37 fun ver4 => ?_
  refine al_gs ?_
  refine al_sp info37 ?_
  refine al_nil ?_
  refine aw_seq ?_
  refine aw_sr ?_
  refine al_mv ?_
  refine al_o (op_gtr rfl rfl) ?_
  refine al_nil ?_
  refine aw_cond rfl (fun h2 => ?_) (fun h2 => ?_)
  ·have gh2 := h2
   simp only [nrm] at h2
   refine aw_region ?_
   refine al_ld u149 info149 ?_
   refine al_ld u9 info9 ?_
   (refine al_call into150 rfl rfl rfl (wr_lift rfl (e_symbol v0 w (out ++ sepT s ((l.map toks).take i)) d (max m (d + (maxL ((l.map dep).take i) : Nat))) s hs hb1) _ (wr_below (by rfl))) (by simp) ?_; rintro _ _ ⟨v16, rfl, rfl⟩)
   refine al_nil ?_
   refine aw_region ?_
   refine al_ld u149 info149 ?_
   refine al_ld u37 info37 ?_
   (refine al_call into101 rfl rfl rfl (ih (l.getD i default) (getD_mem hil) v0 v16 ((out ++ sepT s ((l.map toks).take i)) ++ [tkS s]) d (max m (d + (maxL ((l.map dep).take i) : Nat))) _ (wr_below (by rfl)) hd0 (by omega) (by omega) (hb2 (by omega)) (by omega)) (by simp) ?_; rintro _ _ ⟨v19, rfl, rfl⟩)
   refine al_nil ?_
   refine aw_region ?_
   refine al_ad ?_
   refine al_mv ?_
   refine al_nil ?_
   refine ⟨i + 1, v19, ?_, ?_, ?_, ?_, ?_⟩
   ·omega
   ·omega
   ·refine sub_1 ?_
    all_goals (first | rfl | simp)
   ·exact sbl
   ·first | exact wr_pos s l i hil (by omega) | exact wr_zero s l i hil (by omega)
  have gh2 := h2
  simp only [nrm] at h2
  refine aw_skip ?_
  refine aw_region ?_
  refine al_ld u149 info149 ?_
  refine al_ld u37 info37 ?_
  (refine al_call into101 rfl rfl rfl (ih (l.getD i default) (getD_mem hil) v0 w (out ++ sepT s ((l.map toks).take i)) d (max m (d + (maxL ((l.map dep).take i) : Nat))) _ (wr_below (by rfl)) hd0 (by omega) (by omega) (hb3 (by omega)) (by omega)) (by simp) ?_; rintro _ _ ⟨v19, rfl, rfl⟩)
  refine al_nil ?_
  refine aw_region ?_
  refine al_ad ?_
  refine al_mv ?_
  refine al_nil ?_
  refine ⟨i + 1, v19, ?_, ?_, ?_, ?_, ?_⟩
  ·omega
  ·omega
  ·refine sub_1 ?_
   all_goals (first | rfl | simp)
  ·exact sbl
  ·first | exact wr_pos s l i hil (by omega) | exact wr_zero s l i hil (by omega)
 have gh1 := h1
 simp only [nrm] at h1
 refine aw_exit ?_
 refine ⟨_, res_0 rfl, ?_⟩
 obtain rfl : i = l.length := by omega
 rw [List.take_of_length_le (by simp), List.take_of_length_le (by simp)]; exact ⟨w, rfl, rfl⟩
theorem e_brackets (v0 v1 : Nat) (out : List Tk) (d m : Int) (hd0 : 0 ≤ d) (hdm : d ≤ m) (hm : m ≤ 1000000000) (s : Bs) (hs : s.length ≤ 1000000000) (l : List Ex) (hl : l.length ≤ 1000000000) (ih : ∀ k ∈ l, WX Tryz.prog k) (hno : out.length + (inBr (sepT s (l.map toks))).length ≤ 1000000000) (hdd : d + (maxL (l.map dep) + 1 : Nat) ≤ 1000000000) : AC Tryz.prog 147 [.ptr 0 v0 0 0, .v (.string (str (s))), .list 16 ((l).map encE)] (wr v0 v1 out d m []) (fun r σ' => WrK v0 (out ++ inBr (sepT s (l.map toks))) (d) (max m (d + (maxL (l.map dep) + 1 : Nat))) r σ') := by
 have hno2 := hno
 simp only [inBr, List.length_cons, List.length_append, List.length_nil] at hno2
 refine ace 11 Tryz.func147 ?_
 refine aw_sr ?_
 refine al_bx 3 fun ver3 => ?_
 refine al_bx 4 fun ver4 => ?_
 refine al_bx 5 fun ver5 => ?_
 refine al_sr ?_
 refine al_ld u149 info149 ?_
 refine al_o (op_closure rfl rfl) ?_
 (refine al_call into148 rfl rfl rfl (e_within v0 v1 out d m hd0 hdm hm (by omega) sOpen (by decide) _ (by rfl) 180 into180 _ (sepT s (l.map toks)) (maxL (l.map dep)) (fun w => e_brk1 v0 w (out ++ [tkS sOpen]) (d + 1) (max m (d + 1)) (by omega) (by omega) (by omega) s hs l hl ih (by simp only [List.length_append, List.length_cons, List.length_nil]; omega) (by omega) ver3 ver4 ver5)) (by simp) ?_; rintro _ _ ⟨v8, rfl, rfl⟩)
 refine al_nil ?_
 refine aw_region ?_
 refine al_ld u149 info149 ?_
 (refine al_call into150 rfl rfl rfl (wr_lift rfl (e_symbol v0 v8 (out ++ tkS sOpen :: sepT s (l.map toks)) d (max m (d + (maxL (l.map dep) + 1 : Nat))) sShut (by decide) (by simp only [List.length_append, List.length_cons]; omega)) _ (wr_below (by rfl))) (by simp) ?_; rintro _ _ ⟨v10, rfl, rfl⟩)
 refine al_nil ?_
 refine ⟨_, res_0 rfl, ?_⟩
 exact ⟨v10, rfl, wr_eq (by simp [inBr]) rfl⟩
theorem e_kid (v0 v1 : Nat) (out : List Tk) (d m : Int) (hd0 : 0 ≤ d) (hdm : d ≤ m) (hm : m ≤ 1000000000) (e : Ex) (hz : szE e = true) (least : Int) (ih : WX Tryz.prog e) (hno : out.length + (kidTk e least).length ≤ 1000000000) (hdd : d + (kidDp e least : Nat) ≤ 1000000000) : AC Tryz.prog 146 [.ptr 0 v0 0 0, .agg (cellsE (e)), .v (.int .i64 (least))] (wr v0 v1 out d m []) (fun r σ' => WrK v0 (out ++ kidTk e least) (d) (max m (d + (kidDp e least : Nat))) r σ') := by
 obtain ⟨z1, z2, z3, z4, z5⟩ := szE_facts hz
 refine ace 17 Tryz.func146 ?_
 refine aw_sr ?_
 refine al_bx 4 fun ver4 => ?_
 refine al_sr ?_
 refine al_ld u37 info37 ?_
 refine al_callp into144 rfl rfl rfl (e_binds e z1 _) (by simp) ?_
 refine al_mv ?_
 refine al_ls ?_
 refine al_nil ?_
 refine aw_cond rfl (fun h1 => ?_) (fun h1 => ?_)
 ·have gh1 := h1
  simp only [nrm] at h1
  refine aw_region ?_
  refine al_mv ?_
  refine al_ld u37 info37 ?_
  refine al_o (op_list encE [e] u31 info37 rfl rfl (by decide) rfl (by decide) rfl (by first | rfl | (repeat (first | exact parts_nil | refine parts_cons rfl (by repeat (first | exact all_live_nil | refine all_live_clo rfl ?_ | refine all_live_slice rfl ?_ | refine all_live_map rfl ?_ | refine all_live_ptr rfl ?_)) ?_))) rfl rfl rfl (kids1 _)) ?_
  have hno2 := hno
  rw [kidTk, if_pos h1] at hno2
  have hdd2 := hdd
  rw [kidDp, if_pos h1] at hdd2
  (refine al_call into147 rfl rfl rfl (wr_lift rfl (e_brackets v0 v1 out d m hd0 hdm hm [] (by decide) [e] (by simp) (fun k hk => by rw [List.mem_singleton.1 hk]; exact ih) hno2 (by simp only [List.map_cons, List.map_nil, maxL]; omega)) _ (wr_below (by rfl))) (by simp) ?_; rintro _ _ ⟨v13, rfl, rfl⟩)
  refine al_nil ?_
  refine ⟨_, res_0 rfl, ?_⟩
  rw [kidTk, if_pos h1, kidDp, if_pos h1]; exact ⟨v13, rfl, wr_eq (by simp [sepT]) (by simp [maxL])⟩
 have gh1 := h1
 simp only [nrm] at h1
 refine aw_region ?_
 refine al_mv ?_
 refine al_ld u37 info37 ?_
 have hno2 := hno
 rw [kidTk, if_neg h1] at hno2
 have hdd2 := hdd
 rw [kidDp, if_neg h1] at hdd2
 (refine al_call into101 rfl rfl rfl (ih v0 v1 out d m _ (wr_below (by rfl)) hd0 hdm hm hno2 hdd2) (by simp) ?_; rintro _ _ ⟨v16, rfl, rfl⟩)
 refine al_nil ?_
 refine ⟨_, res_0 rfl, ?_⟩
 rw [kidTk, if_neg h1, kidDp, if_neg h1]; exact ⟨v16, rfl, rfl⟩
theorem e_unary (v0 v1 : Nat) (out : List Tk) (d m : Int) (hd0 : 0 ≤ d) (hdm : d ≤ m) (hm : m ≤ 1000000000) (e : Ex) (hk : e.kids.length = 1) (hz : szE (e.kids.getD 0 default) = true) (ih : WX Tryz.prog (e.kids.getD 0 default)) (hno : out.length + (kidTk (e.kids.getD 0 default) 4).length ≤ 1000000000) (hdd : d + (kidDp (e.kids.getD 0 default) 4 : Nat) ≤ 1000000000) (v2 v3 : Nat) : AC Tryz.prog 149 [.ptr 2 v2 0 0, .ptr 3 v3 0 0] (wr v0 v1 out d m [(2, v2, .row 1 [[.ptr 0 v0 0 0]]), (3, v3, .row 16 [cellsE e])]) (fun r σ' => WrT v0 (out ++ kidTk (e.kids.getD 0 default) 4) d (max m (d + (kidDp (e.kids.getD 0 default) 4 : Nat))) [(2, v2, .row 1 [[.ptr 0 v0 0 0]]), (3, v3, .row 16 [cellsE e])] r σ') := by
 refine ace 8 Tryz.func149 ?_
 refine aw_plan [0, 1, 2, 3, 4, 5] (Checked.mixed Tryz.checked) (by kernel_rfl) ?_
 refine afl_float rfl rfl (opk_of (op_load_ptr u149 info149 rfl rfl rfl rfl)) (by simp) ?_
 refine afl_float rfl rfl (opk_of (op_field_ptr u37 rfl info31 (by decide) rfl rfl rfl)) (by simp) ?_
 refine afl_float rfl rfl (opk_of (op_load_ptr u31 info31 rfl rfl rfl rfl)) (by simp) ?_
 refine afl_float rfl rfl (opk_of (val_as (.rptr (cellsE (e.kids.getD 0 default))) (op_im u31 info37) (by exact congrArg AVal.rptr (encE_cells _)))) (by simp) ?_
 refine afl_float rfl rfl (opk_of (op_load_rptr u37 info37 rfl rfl)) (by simp) ?_
 (refine afl_call rfl (by kernel_rfl) into146 rfl rfl rfl (wr_lift rfl (e_kid v0 v1 out d m hd0 hdm hm (e.kids.getD 0 default) hz 4 ih hno hdd) _ (wr_below (by rfl))) (by simp) ?_; rintro _ _ ⟨v7, rfl, rfl⟩; refine ⟨_, rfl, ?_, ?_⟩)
 ·
  refine loose_anc 4 rfl (by kernel_rfl) ?_
  refine loose_anc 3 rfl (by kernel_rfl) ?_
  refine loose_anc 2 rfl (by kernel_rfl) ?_
  refine loose_anc 1 rfl (by kernel_rfl) ?_
  refine loose_anc 0 rfl (by kernel_rfl) ?_
  exact loose_nil
 refine afl_end ?_
 refine ⟨_, res_0 rfl, ?_⟩
 exact ⟨v7, rfl, rfl⟩
end Go.Proofs.YtcgdlhkiecommaaGreatDoor
/- Printed walks (gen.py, lexer_ann.py): part 417. -/




namespace Go.Proofs.YtcgdlhkiecommaaGreatDoor
open Go
theorem e_text1 (v0 : Nat) (e : Ex) (hbt : BTx Tryz.prog e.bits) : AC Tryz.prog 142 [.ptr 0 v0 0 0] ([(0, v0, .row 16 [cellsE e])]) (fun r σ' => r = .ret (.v (.string (str (bitsT e.bits)))) ∧ σ'.keep k0 = [(0, v0, .row 16 [cellsE e])]) := by
 refine ace 11 Tryz.func142 ?_
 refine aw_sr ?_
 refine al_gs ?_
 refine al_sr ?_
 refine al_fp u37 info26 ?_
 refine al_ld u26 info26 ?_
 refine al_callp into143 rfl rfl rfl (hbt _) (by simp) ?_
 refine al_mv ?_
 refine al_xt ?_
 refine al_xt ?_
 refine al_gs ?_
 refine al_gs ?_
 refine al_sr ?_
 refine al_mv ?_
 refine al_gs ?_
 refine al_nil ?_
 refine aw_ret ?_
 refine ⟨_, res_1 rfl rfl, ?_⟩
 exact ⟨rfl, rfl⟩
theorem e_textA (v3 : Nat) (e : Ex) (hbt : BTx Tryz.prog e.bits) {σ : Store} (h1 : σ.get 3 = some (v3, .row 16 [cellsE e])) (hb : σ.below 1000 = true) : AC Tryz.prog 142 [.ptr 3 v3 0 0] σ (fun r σ' => r = .ret (.v (.string (str (bitsT e.bits)))) ∧ σ' = σ) := one_look 3 (by decide) rfl rfl (e_text1 v3 e hbt) h1 hb
end Go.Proofs.YtcgdlhkiecommaaGreatDoor
/- Printed walks (gen.py, lexer_ann.py): part 418. -/



namespace Go.Proofs.YtcgdlhkiecommaaGreatDoor
open Go
theorem e_wexprS (v0 v1 : Nat) (out : List Tk) (d m : Int) (hd0 : 0 ≤ d) (hdm : d ≤ m) (hm : m ≤ 1000000000) (e : Ex) (hz : szE e = true) (hsh : shapeP e = true) (hBT : BTok Tryz.prog e) (ih : ∀ k ∈ e.kids, WX Tryz.prog k) (hno : out.length + (toks e).length ≤ 1000000000) (hdd : d + (dep e : Nat) ≤ 1000000000) : AC Tryz.prog 101 [.ptr 0 v0 0 0, .agg (cellsE (e))] (wr v0 v1 out d m []) (fun r σ' => WrK v0 (out ++ toks e) (d) (max m (d + (dep e : Nat))) r σ') := by
 obtain ⟨z1, z2, z3, z4, z5⟩ := szE_facts hz
 refine ace 122 Tryz.func101 ?_
 refine aw_sr ?_
 refine al_bx 2 fun ver2 => ?_
 refine al_bx 3 fun ver3 => ?_
 refine al_sr ?_
 refine al_o (op_closure rfl rfl) ?_
 refine al_gs ?_
 refine al_sr ?_
 refine al_ld u37 info37 ?_
 refine al_callp into144 rfl rfl rfl (e_binds e z1 _) (by simp) ?_
 refine al_gs ?_
 refine al_nil ?_
 refine aw_block ?_
 refine aw_sr ?_
 refine al_fp u37 info25 ?_
 refine al_ld u25 info25 ?_
 refine al_eq ?_
 refine al_gs ?_
 refine al_nil ?_
 refine aw_cond rfl (fun h1 => ?_) (fun h1 => ?_)
 ·have gh1 := h1
  simp only [nrm] at h1
  obtain ⟨ht, hdp⟩ := toks_int gh1
  have hno2 := hno
  rw [ht] at hno2
  simp only [List.length_append, List.length_cons, List.length_nil] at hno2
  have hdd2 := hdd
  rw [hdp] at hdd2
  refine aw_region ?_
  refine al_ld u149 info149 ?_
  refine al_fp u37 info3 ?_
  refine al_ld u3 info3 ?_
  refine al_o (op_bs u65 info65 place65) ?_
  (refine al_call into145 rfl rfl rfl (wr_lift rfl (e_put v0 v1 (out) d (m) (⟨3, [], e.n, 0, 0⟩) (by first | omega | (simp only [List.length_append, List.length_cons, List.length_nil]; omega))) _ (wr_below (by rfl))) (by simp) ?_; rintro _ _ ⟨v42, rfl, rfl⟩)
  refine al_nil ?_
  refine ⟨_, res_0 rfl, ?_⟩
  rw [ht, hdp]; exact ⟨v42, rfl, wr_eq rfl (by omega)⟩
 have gh1 := h1
 simp only [nrm] at h1
 refine aw_sr ?_
 refine al_fp u37 info25 ?_
 refine al_ld u25 info25 ?_
 refine al_eq ?_
 refine al_gs ?_
 refine al_nil ?_
 refine aw_cond rfl (fun h2 => ?_) (fun h2 => ?_)
 ·have gh2 := h2
  simp only [nrm] at h2
  obtain ⟨ht, hdp⟩ := toks_bit gh1 gh2
  have hno2 := hno
  rw [ht] at hno2
  simp only [List.length_append, List.length_cons, List.length_nil] at hno2
  have hdd2 := hdd
  rw [hdp] at hdd2
  refine aw_any (Checked.mixed Tryz.checked) ?_
  apply aany_seg (p := 0) (q := 4) (by kernel_rfl) rfl (by decide)
  ·
   apply ql_plain rfl (op_load_ptr u149 info149 rfl rfl rfl rfl)
   apply ql_plain rfl (op_move rfl)
   apply ql_call into142 rfl rfl rfl (e_textA ver3 e (hBT.at (.inl gh2) (shape_bits hsh gh1 (.inl gh2)) z4) rfl rfl)
   apply ql_plain rfl (op_bs u65 info65 place65)
   exact ql_nil
  ·simp
  (refine aany_call (by kernel_rfl) rfl into145 rfl rfl rfl (wr_lift rfl (e_put v0 v1 (out) d (m) (⟨4, bitsT e.bits, 0, 0, 0⟩) (by first | omega | (simp only [List.length_append, List.length_cons, List.length_nil]; omega))) _ (wr_below (by rfl))) (by simp) ?_; rintro _ _ ⟨v51, rfl, rfl⟩)
  refine aany_end rfl (by kernel_rfl) ?_
  refine ⟨_, res_0 rfl, ?_⟩
  rw [ht, hdp]; exact ⟨v51, rfl, wr_eq rfl (by omega)⟩
 have gh2 := h2
 simp only [nrm] at h2
 refine aw_sr ?_
 refine al_fp u37 info25 ?_
 refine al_ld u25 info25 ?_
 refine al_eq ?_
 refine al_gs ?_
 refine al_nil ?_
 refine aw_cond rfl (fun h3 => ?_) (fun h3 => ?_)
 ·have gh3 := h3
  simp only [nrm] at h3
  obtain ⟨ht, hdp⟩ := toks_vec gh1 gh2 gh3
  have hno2 := hno
  rw [ht] at hno2
  simp only [List.length_append, List.length_cons, List.length_nil] at hno2
  have hdd2 := hdd
  rw [hdp] at hdd2
  refine aw_any (Checked.mixed Tryz.checked) ?_
  apply aany_seg (p := 0) (q := 4) (by kernel_rfl) rfl (by decide)
  ·
   apply ql_plain rfl (op_load_ptr u149 info149 rfl rfl rfl rfl)
   apply ql_plain rfl (op_move rfl)
   apply ql_call into142 rfl rfl rfl (e_textA ver3 e (hBT.at (.inr gh3) (shape_bits hsh gh1 (.inr ⟨gh2, gh3⟩)) z4) rfl rfl)
   apply ql_plain rfl (op_bs u65 info65 place65)
   exact ql_nil
  ·simp
  (refine aany_call (by kernel_rfl) rfl into145 rfl rfl rfl (wr_lift rfl (e_put v0 v1 (out) d (m) (⟨5, bitsT e.bits, 0, 0, 0⟩) (by first | omega | (simp only [List.length_append, List.length_cons, List.length_nil]; omega))) _ (wr_below (by rfl))) (by simp) ?_; rintro _ _ ⟨v60, rfl, rfl⟩)
  refine aany_end rfl (by kernel_rfl) ?_
  refine ⟨_, res_0 rfl, ?_⟩
  rw [ht, hdp]; exact ⟨v60, rfl, wr_eq rfl (by omega)⟩
 have gh3 := h3
 simp only [nrm] at h3
 refine aw_sr ?_
 refine al_fp u37 info25 ?_
 refine al_ld u25 info25 ?_
 refine al_eq ?_
 refine al_gs ?_
 refine al_nil ?_
 refine aw_cond rfl (fun h4 => ?_) (fun h4 => ?_)
 ·have gh4 := h4
  simp only [nrm] at h4
  obtain ⟨ht, hdp⟩ := toks_name gh1 gh2 gh3 gh4
  have hno2 := hno
  rw [ht] at hno2
  simp only [List.length_append, List.length_cons, List.length_nil] at hno2
  have hdd2 := hdd
  rw [hdp] at hdd2
  refine aw_region ?_
  refine al_ld u149 info149 ?_
  refine al_fp u37 info9 ?_
  refine al_ld u9 info9 ?_
  refine al_o (op_bs u65 info65 place65) ?_
  (refine al_call into145 rfl rfl rfl (wr_lift rfl (e_put v0 v1 (out) d (m) (tkN e.name) (by first | omega | (simp only [List.length_append, List.length_cons, List.length_nil]; omega))) _ (wr_below (by rfl))) (by simp) ?_; rintro _ _ ⟨v69, rfl, rfl⟩)
  refine al_nil ?_
  refine ⟨_, res_0 rfl, ?_⟩
  rw [ht, hdp]; exact ⟨v69, rfl, wr_eq rfl (by omega)⟩
 have gh4 := h4
 simp only [nrm] at h4
 refine aw_sr ?_
 refine al_fp u37 info25 ?_
 refine al_ld u25 info25 ?_
 refine al_eq ?_
 refine al_gs ?_
 refine al_nil ?_
 refine aw_cond rfl (fun h5 => ?_) (fun h5 => ?_)
 ·have gh5 := h5
  simp only [nrm] at h5
  have hk := shape_index hsh gh1 gh2 gh3 gh4 gh5
  obtain ⟨ht, hdp⟩ := toks_index gh1 gh2 gh3 gh4 gh5 hk
  have hno2 := hno
  rw [ht] at hno2
  simp only [List.length_append, List.length_cons, List.length_nil] at hno2
  have hdd2 := hdd
  rw [hdp] at hdd2
  have hm0 : e.kids.getD 0 default ∈ e.kids := getD_mem (by omega)
  have hm1 : e.kids.getD 1 default ∈ e.kids := getD_mem (by omega)
  refine aw_seq ?_
  refine aw_any (Checked.mixed Tryz.checked) ?_
  apply aany_seg (p := 0) (q := 5) (by kernel_rfl) rfl (by decide)
  ·
   apply ql_plain rfl (op_load_ptr u149 info149 rfl rfl rfl rfl)
   apply ql_plain rfl (op_field_ptr u37 rfl info31 (by decide) rfl rfl rfl)
   apply ql_plain rfl (op_load_ptr u31 info31 rfl rfl rfl rfl)
   apply ql_plain rfl (val_as (.rptr (cellsE (e.kids.getD 0 default))) (op_im u31 info37) (by exact congrArg AVal.rptr (encE_cells _)))
   apply ql_plain rfl (op_load_rptr u37 info37 rfl rfl)
   exact ql_nil
  ·simp
  (refine aany_call (by kernel_rfl) rfl into146 rfl rfl rfl (wr_lift rfl (e_kid v0 v1 (out) d (m) hd0 (by omega) (by omega) (e.kids.getD 0 default) (z5 _ hm0) (5) (ih _ hm0) (by first | omega | (simp only [List.length_append, List.length_cons, List.length_nil]; omega)) (by omega)) _ (wr_below (by rfl))) (by simp) ?_; rintro _ _ ⟨v79, rfl, rfl⟩)
  refine aany_end rfl (by kernel_rfl) ?_
  refine aw_any (Checked.mixed Tryz.checked) ?_
  apply aany_seg (p := 0) (q := 6) (by kernel_rfl) rfl (by decide)
  ·
   apply ql_plain rfl (op_load_ptr u149 info149 rfl rfl rfl rfl)
   apply ql_plain rfl (op_field_ptr u37 rfl info31 (by decide) rfl rfl rfl)
   apply ql_plain rfl (op_load_ptr u31 info31 rfl rfl rfl rfl)
   apply ql_plain rfl (val_as (.rptr (cellsE (e.kids.getD 1 default))) (op_im u31 info37) (by exact congrArg AVal.rptr (encE_cells _)))
   apply ql_plain rfl (op_load_rptr u37 info37 rfl rfl)
   apply ql_plain rfl (op_list encE [e.kids.getD 1 default] u31 info37 rfl rfl (by decide) rfl (by decide) rfl (by first | rfl | (repeat (first | exact parts_nil | refine parts_cons rfl (by repeat (first | exact all_live_nil | refine all_live_clo rfl ?_ | refine all_live_slice rfl ?_ | refine all_live_map rfl ?_ | refine all_live_ptr rfl ?_)) ?_))) rfl rfl rfl (by exact kids1 _))
   exact ql_nil
  ·simp
  (refine aany_call (by kernel_rfl) rfl into147 rfl rfl rfl (wr_lift rfl (e_brackets v0 v79 (out ++ kidTk (e.kids.getD 0 default) (5)) d (max m (d + (kidDp (e.kids.getD 0 default) (5) : Nat))) hd0 (by omega) (by omega) [] (by decide) [e.kids.getD 1 default] (by simp) (fun k hk => by rw [List.mem_singleton.1 hk]; exact ih _ hm1) (show _ + (inBr (toks (e.kids.getD 1 default))).length ≤ _ by simp only [List.length_append]; omega) (by simp only [List.map_cons, List.map_nil, maxL]; omega)) _ (wr_below (by rfl))) (by simp) ?_; rintro _ _ ⟨v86, rfl, rfl⟩)
  refine aany_end rfl (by kernel_rfl) ?_
  refine ⟨_, res_0 rfl, ?_⟩
  rw [ht, hdp]; exact ⟨v86, rfl, wr_eq (by simp [sepT]) (by simp only [List.map_cons, List.map_nil, maxL]; omega)⟩
 have gh5 := h5
 simp only [nrm] at h5
 refine aw_sr ?_
 refine al_fp u37 info25 ?_
 refine al_ld u25 info25 ?_
 refine al_eq ?_
 refine al_gs ?_
 refine al_nil ?_
 refine aw_cond rfl (fun h6 => ?_) (fun h6 => ?_)
 ·have gh6 := h6
  simp only [nrm] at h6
  have hk := shape_slice hsh gh1 gh2 gh3 gh4 gh5 gh6
  obtain ⟨ht, hdp⟩ := toks_slice gh1 gh2 gh3 gh4 gh5 gh6 hk
  have hno2 := hno
  rw [ht] at hno2
  simp only [List.length_append, List.length_cons, List.length_nil] at hno2
  have hdd2 := hdd
  rw [hdp] at hdd2
  have hm0 : e.kids.getD 0 default ∈ e.kids := getD_mem (by omega)
  refine aw_seq ?_
  refine aw_any (Checked.mixed Tryz.checked) ?_
  apply aany_seg (p := 0) (q := 5) (by kernel_rfl) rfl (by decide)
  ·
   apply ql_plain rfl (op_load_ptr u149 info149 rfl rfl rfl rfl)
   apply ql_plain rfl (op_field_ptr u37 rfl info31 (by decide) rfl rfl rfl)
   apply ql_plain rfl (op_load_ptr u31 info31 rfl rfl rfl rfl)
   apply ql_plain rfl (val_as (.rptr (cellsE (e.kids.getD 0 default))) (op_im u31 info37) (by exact congrArg AVal.rptr (encE_cells _)))
   apply ql_plain rfl (op_load_rptr u37 info37 rfl rfl)
   exact ql_nil
  ·simp
  (refine aany_call (by kernel_rfl) rfl into146 rfl rfl rfl (wr_lift rfl (e_kid v0 v1 (out) d (m) hd0 (by omega) (by omega) (e.kids.getD 0 default) (z5 _ hm0) (5) (ih _ hm0) (by first | omega | (simp only [List.length_append, List.length_cons, List.length_nil]; omega)) (by omega)) _ (wr_below (by rfl))) (by simp) ?_; rintro _ _ ⟨v96, rfl, rfl⟩)
  refine aany_end rfl (by kernel_rfl) ?_
  refine aw_any (Checked.mixed Tryz.checked) ?_
  apply aany_seg (p := 0) (q := 4) (by kernel_rfl) rfl (by decide)
  ·
   apply ql_plain rfl (op_load_ptr u149 info149 rfl rfl rfl rfl)
   apply ql_plain rfl (op_field_ptr u37 rfl info31 (by decide) rfl rfl rfl)
   apply ql_plain rfl (op_load_ptr u31 info31 rfl rfl rfl rfl)
   apply ql_plain rfl (val_as (.list 16 ((e.kids.drop 1).map encE)) (op_cut_map (f := encE) (l := 1) (h := e.kids.length) u31 info37 rfl rfl (OptI.of rfl rfl) OptI.none (by omega) (by omega)) (by rw [List.take_of_length_le (by simp)]; rfl))
   exact ql_nil
  ·simp
  (refine aany_call (by kernel_rfl) rfl into147 rfl rfl rfl (wr_lift rfl (e_brackets v0 v96 (out ++ kidTk (e.kids.getD 0 default) (5)) d (max m (d + (kidDp (e.kids.getD 0 default) (5) : Nat))) hd0 (by omega) (by omega) sDownto (by decide) (e.kids.drop 1) (by rw [List.length_drop]; omega) (fun k hk => ih k (List.mem_of_mem_drop hk)) (by simp only [List.length_append]; omega) (by omega)) _ (wr_below (by rfl))) (by simp) ?_; rintro _ _ ⟨v101, rfl, rfl⟩)
  refine aany_end rfl (by kernel_rfl) ?_
  refine ⟨_, res_0 rfl, ?_⟩
  rw [ht, hdp]; exact ⟨v101, rfl, wr_eq (by simp) (by omega)⟩
 have gh6 := h6
 simp only [nrm] at h6
 refine aw_sr ?_
 refine al_mv ?_
 refine al_eq ?_
 refine al_gs ?_
 refine al_nil ?_
 refine aw_cond rfl (fun h7 => ?_) (fun h7 => ?_)
 ·have gh7 := h7
  simp only [nrm] at h7
  obtain ⟨ht, hdp⟩ := toks_call gh1 gh2 gh3 gh4 gh5 gh6 gh7
  have hno2 := hno
  rw [ht] at hno2
  simp only [List.length_append, List.length_cons, List.length_nil] at hno2
  have hdd2 := hdd
  rw [hdp] at hdd2
  refine aw_sr ?_
  refine al_ld u149 info149 ?_
  refine al_fp u37 info9 ?_
  refine al_ld u9 info9 ?_
  refine al_o (op_bs u65 info65 place65) ?_
  (refine al_call into145 rfl rfl rfl (wr_lift rfl (e_put v0 v1 (out) d (m) (tkN e.name) (by first | omega | (simp only [List.length_append, List.length_cons, List.length_nil]; omega))) _ (wr_below (by rfl))) (by simp) ?_; rintro _ _ ⟨v109, rfl, rfl⟩)
  refine al_nil ?_
  refine aw_region ?_
  refine al_ld u149 info149 ?_
  refine al_fp u37 info31 ?_
  refine al_ld u31 info31 ?_
  (refine al_call into147 rfl rfl rfl (wr_lift rfl (e_brackets v0 v109 (out ++ [tkN e.name]) d m hd0 hdm hm sComma (by decide) e.kids z3 ih (by first | omega | (simp only [List.length_append, List.length_cons, List.length_nil]; omega)) (by omega)) _ (wr_below (by rfl))) (by simp) ?_; rintro _ _ ⟨v113, rfl, rfl⟩)
  refine al_nil ?_
  refine ⟨_, res_0 rfl, ?_⟩
  rw [ht, hdp]; exact ⟨v113, rfl, wr_eq (by simp) rfl⟩
 have gh7 := h7
 simp only [nrm] at h7
 refine aw_sr ?_
 refine al_mv ?_
 refine al_eq ?_
 refine al_gs ?_
 refine al_nil ?_
 refine aw_cond rfl (fun h8 => ?_) (fun h8 => ?_)
 ·have gh8 := h8
  simp only [nrm] at h8
  have hk := shape_one hsh gh1 gh2 gh3 gh4 gh5 gh6 gh7 gh8
  obtain ⟨ht, hdp⟩ := toks_one gh1 gh2 gh3 gh4 gh5 gh6 gh7 gh8 hk
  have hno2 := hno
  rw [ht] at hno2
  simp only [List.length_append, List.length_cons, List.length_nil] at hno2
  have hdd2 := hdd
  rw [hdp] at hdd2
  have hm0 : e.kids.getD 0 default ∈ e.kids := getD_mem (by omega)
  refine aw_region ?_
  refine al_ld u149 info149 ?_
  refine al_fp u37 info9 ?_
  refine al_ld u9 info9 ?_
  refine al_o (op_closure rfl rfl) ?_
  (refine al_call into148 rfl rfl rfl (e_within v0 v1 out d m hd0 hdm hm (by omega) e.name z1 _ (by rfl) 149 into149 _ (kidTk (e.kids.getD 0 default) 4) (kidDp (e.kids.getD 0 default) 4) (fun w => e_unary v0 w (out ++ [tkS e.name]) (d + 1) (max m (d + 1)) (by omega) (by omega) (by omega) e hk (z5 _ hm0) (ih _ hm0) (by first | omega | (simp only [List.length_append, List.length_cons, List.length_nil]; omega)) (by omega) ver2 ver3)) (by simp) ?_; rintro _ _ ⟨v121, rfl, rfl⟩)
  refine al_nil ?_
  refine ⟨_, res_0 rfl, ?_⟩
  rw [ht, hdp]; exact ⟨v121, rfl, rfl⟩
 have gh8 := h8
 simp only [nrm] at h8
 refine aw_sr ?_
 refine al_mv ?_
 refine al_gs ?_
 refine al_nil ?_
 refine aw_seq ?_
 refine aw_sr ?_
 refine al_mv ?_
 refine al_eq ?_
 refine al_nil ?_
 refine aw_cond rfl (fun h9 => ?_) (fun h9 => ?_)
 ·have gh9 := h9
  simp only [nrm] at h9
  have hk := shape_two hsh gh1 gh2 gh3 gh4 gh5 gh6 gh7 gh8
  have hl : leftP (bindsP e) = bindsP e + 1 := by rw [leftP, gh9]; rfl
  have hbr := binds_range e
  obtain ⟨ht, hdp⟩ := (show _ from hl ▸ toks_two gh1 gh2 gh3 gh4 gh5 gh6 gh7 gh8 hk)
  have hno2 := hno
  rw [ht] at hno2
  simp only [List.length_append, List.length_cons, List.length_nil] at hno2
  have hdd2 := hdd
  rw [hdp] at hdd2
  have hm0 : e.kids.getD 0 default ∈ e.kids := getD_mem (by omega)
  have hm1 : e.kids.getD 1 default ∈ e.kids := getD_mem (by omega)
  refine aw_region ?_
  refine al_mv ?_
  refine al_ad ?_
  refine al_gs ?_
  refine al_nil ?_
  refine aw_seq ?_
  refine aw_any (Checked.mixed Tryz.checked) ?_
  apply aany_seg (p := 0) (q := 6) (by kernel_rfl) rfl (by decide)
  ·
   apply ql_plain rfl (op_load_ptr u149 info149 rfl rfl rfl rfl)
   apply ql_plain rfl (op_field_ptr u37 rfl info31 (by decide) rfl rfl rfl)
   apply ql_plain rfl (op_load_ptr u31 info31 rfl rfl rfl rfl)
   apply ql_plain rfl (val_as (.rptr (cellsE (e.kids.getD 0 default))) (op_im u31 info37) (by exact congrArg AVal.rptr (encE_cells _)))
   apply ql_plain rfl (op_load_rptr u37 info37 rfl rfl)
   apply ql_plain rfl (op_move rfl)
   exact ql_nil
  ·simp
  (refine aany_call (by kernel_rfl) rfl into146 rfl rfl rfl (wr_lift rfl (e_kid v0 v1 (out) d (m) hd0 (by omega) (by omega) (e.kids.getD 0 default) (z5 _ hm0) (bindsP e + 1) (ih _ hm0) (by first | omega | (simp only [List.length_append, List.length_cons, List.length_nil]; omega)) (by omega)) _ (wr_below (by rfl))) (by simp) ?_; rintro _ _ ⟨v21, rfl, rfl⟩)
  refine aany_end rfl (by kernel_rfl) ?_
  refine aw_sr ?_
  refine al_ld u149 info149 ?_
  refine al_fp u37 info9 ?_
  refine al_ld u9 info9 ?_
  (refine al_call into150 rfl rfl rfl (wr_lift rfl (e_symbol v0 v21 (out ++ kidTk (e.kids.getD 0 default) (bindsP e + 1)) d (max m (d + (kidDp (e.kids.getD 0 default) (bindsP e + 1) : Nat))) e.name z1 (by first | omega | (simp only [List.length_append, List.length_cons, List.length_nil]; omega))) _ (wr_below (by rfl))) (by simp) ?_; rintro _ _ ⟨v25, rfl, rfl⟩)
  refine al_nil ?_
  refine aw_any (Checked.mixed Tryz.checked) ?_
  apply aany_seg (p := 0) (q := 7) (by kernel_rfl) rfl (by decide)
  ·
   apply ql_plain rfl (op_load_ptr u149 info149 rfl rfl rfl rfl)
   apply ql_plain rfl (op_field_ptr u37 rfl info31 (by decide) rfl rfl rfl)
   apply ql_plain rfl (op_load_ptr u31 info31 rfl rfl rfl rfl)
   apply ql_plain rfl (val_as (.rptr (cellsE (e.kids.getD 1 default))) (op_im u31 info37) (by exact congrArg AVal.rptr (encE_cells _)))
   apply ql_plain rfl (op_load_rptr u37 info37 rfl rfl)
   apply ql_plain rfl (op_move rfl)
   apply ql_plain rfl (op_add rfl rfl (by first | exact wrap_i64 (by omega) (by omega)))
   exact ql_nil
  ·simp
  (refine aany_call (by kernel_rfl) rfl into146 rfl rfl rfl (wr_lift rfl (e_kid v0 v25 ((out ++ kidTk (e.kids.getD 0 default) (bindsP e + 1)) ++ [tkS e.name]) d (max m (d + (kidDp (e.kids.getD 0 default) (bindsP e + 1) : Nat))) hd0 (by omega) (by omega) (e.kids.getD 1 default) (z5 _ hm1) (bindsP e + 1) (ih _ hm1) (by first | omega | (simp only [List.length_append, List.length_cons, List.length_nil]; omega)) (by omega)) _ (wr_below (by rfl))) (by simp) ?_; rintro _ _ ⟨v33, rfl, rfl⟩)
  refine aany_end rfl (by kernel_rfl) ?_
  refine ⟨_, res_0 rfl, ?_⟩
  rw [ht, hdp]; exact ⟨v33, rfl, wr_eq (by simp) (by omega)⟩
 have gh9 := h9
 simp only [nrm] at h9
 have hk := shape_two hsh gh1 gh2 gh3 gh4 gh5 gh6 gh7 gh8
 have hl : leftP (bindsP e) = bindsP e := by rw [leftP, gh9]; rfl
 have hbr := binds_range e
 obtain ⟨ht, hdp⟩ := (show _ from hl ▸ toks_two gh1 gh2 gh3 gh4 gh5 gh6 gh7 gh8 hk)
 have hno2 := hno
 rw [ht] at hno2
 simp only [List.length_append, List.length_cons, List.length_nil] at hno2
 have hdd2 := hdd
 rw [hdp] at hdd2
 have hm0 : e.kids.getD 0 default ∈ e.kids := getD_mem (by omega)
 have hm1 : e.kids.getD 1 default ∈ e.kids := getD_mem (by omega)
 refine aw_skip ?_
 refine aw_seq ?_
 refine aw_any (Checked.mixed Tryz.checked) ?_
 apply aany_seg (p := 0) (q := 6) (by kernel_rfl) rfl (by decide)
 ·
  apply ql_plain rfl (op_load_ptr u149 info149 rfl rfl rfl rfl)
  apply ql_plain rfl (op_field_ptr u37 rfl info31 (by decide) rfl rfl rfl)
  apply ql_plain rfl (op_load_ptr u31 info31 rfl rfl rfl rfl)
  apply ql_plain rfl (val_as (.rptr (cellsE (e.kids.getD 0 default))) (op_im u31 info37) (by exact congrArg AVal.rptr (encE_cells _)))
  apply ql_plain rfl (op_load_rptr u37 info37 rfl rfl)
  apply ql_plain rfl (op_move rfl)
  exact ql_nil
 ·simp
 (refine aany_call (by kernel_rfl) rfl into146 rfl rfl rfl (wr_lift rfl (e_kid v0 v1 (out) d (m) hd0 (by omega) (by omega) (e.kids.getD 0 default) (z5 _ hm0) (bindsP e) (ih _ hm0) (by first | omega | (simp only [List.length_append, List.length_cons, List.length_nil]; omega)) (by omega)) _ (wr_below (by rfl))) (by simp) ?_; rintro _ _ ⟨v21, rfl, rfl⟩)
 refine aany_end rfl (by kernel_rfl) ?_
 refine aw_sr ?_
 refine al_ld u149 info149 ?_
 refine al_fp u37 info9 ?_
 refine al_ld u9 info9 ?_
 (refine al_call into150 rfl rfl rfl (wr_lift rfl (e_symbol v0 v21 (out ++ kidTk (e.kids.getD 0 default) (bindsP e)) d (max m (d + (kidDp (e.kids.getD 0 default) (bindsP e) : Nat))) e.name z1 (by first | omega | (simp only [List.length_append, List.length_cons, List.length_nil]; omega))) _ (wr_below (by rfl))) (by simp) ?_; rintro _ _ ⟨v25, rfl, rfl⟩)
 refine al_nil ?_
 refine aw_any (Checked.mixed Tryz.checked) ?_
 apply aany_seg (p := 0) (q := 7) (by kernel_rfl) rfl (by decide)
 ·
  apply ql_plain rfl (op_load_ptr u149 info149 rfl rfl rfl rfl)
  apply ql_plain rfl (op_field_ptr u37 rfl info31 (by decide) rfl rfl rfl)
  apply ql_plain rfl (op_load_ptr u31 info31 rfl rfl rfl rfl)
  apply ql_plain rfl (val_as (.rptr (cellsE (e.kids.getD 1 default))) (op_im u31 info37) (by exact congrArg AVal.rptr (encE_cells _)))
  apply ql_plain rfl (op_load_rptr u37 info37 rfl rfl)
  apply ql_plain rfl (op_move rfl)
  apply ql_plain rfl (op_add rfl rfl (by first | exact wrap_i64 (by omega) (by omega)))
  exact ql_nil
 ·simp
 (refine aany_call (by kernel_rfl) rfl into146 rfl rfl rfl (wr_lift rfl (e_kid v0 v25 ((out ++ kidTk (e.kids.getD 0 default) (bindsP e)) ++ [tkS e.name]) d (max m (d + (kidDp (e.kids.getD 0 default) (bindsP e) : Nat))) hd0 (by omega) (by omega) (e.kids.getD 1 default) (z5 _ hm1) (bindsP e + 1) (ih _ hm1) (by first | omega | (simp only [List.length_append, List.length_cons, List.length_nil]; omega)) (by omega)) _ (wr_below (by rfl))) (by simp) ?_; rintro _ _ ⟨v33, rfl, rfl⟩)
 refine aany_end rfl (by kernel_rfl) ?_
 refine ⟨_, res_0 rfl, ?_⟩
 rw [ht, hdp]; exact ⟨v33, rfl, wr_eq (by simp) (by omega)⟩
theorem e_wexpr (e : Ex) : szE e = true → BTok Tryz.prog e → (∃ n, shapesP e n = true) → WX Tryz.prog e := by
  induction e using Ex.ind with
  | h e ih =>
    rintro hz hBT ⟨n, hs⟩
    obtain ⟨z1, z2, z3, z4, z5⟩ := szE_facts hz
    rw [shapesP_eq] at hs
    simp only [Bool.and_eq_true, Bool.not_eq_true'] at hs
    intro v0 v1 out d m τ hb hd0 hdm hm hno hdd
    refine wr_lift rfl (e_wexprS v0 v1 out d m hd0 hdm hm e hz hs.1.2 hBT (fun k hk => ih k hk (z5 k hk) (hBT.kid hk) ⟨n + 1, ?_⟩) hno hdd) τ hb
    have := List.any_eq_false.1 hs.2 k hk
    simpa using this
end Go.Proofs.YtcgdlhkiecommaaGreatDoor
/- Printed walks (gen.py, lexer_ann.py): part 419. -/




namespace Go.Proofs.YtcgdlhkiecommaaGreatDoor
open Go
theorem e_refS (v0 v1 : Nat) (out : List Tk) (d m : Int) (hd0 : 0 ≤ d) (hdm : d ≤ m) (hm : m ≤ 1000000000) (t : Tr) (hs : t.name.length ≤ 1000000000) (hl : t.len.length ≤ 1000000000) (he : t.elem.length ≤ 1000000000) (hW : ∀ e ∈ t.len, WX Tryz.prog e) (ih : ∀ u ∈ t.elem, WRX Tryz.prog u) (hno : out.length + (toksR t).length ≤ 1000000000) (hdd : d + (depR t : Nat) ≤ 1000000000) : AC Tryz.prog 115 [.ptr 0 v0 0 0, .agg (cellsR t)] (wr v0 v1 out d m []) (fun r σ' => WrK v0 (out ++ toksR t) (d) (max m (d + (depR t : Nat))) r σ') := by
 refine ace 36 Tryz.func115 ?_
 refine aw_sr ?_
 refine al_bx 3 fun ver3 => ?_
 refine al_nil ?_
 refine aw_seq ?_
 refine aw_sr ?_
 refine al_fp u46 info31 ?_
 refine al_ld u31 info31 ?_
 refine al_lm u31 ?_
 refine al_eq ?_
 refine al_nil ?_
 refine aw_cond rfl (fun h1 => ?_) (fun h1 => ?_)
 ·have gh1 := h1
  simp only [nrm] at h1
  refine aw_seq ?_
  have hno2 := hno
  rw [toksR_eq, gh1] at hno2
  simp only [cond_true, List.length_cons, List.length_nil] at hno2
  refine aw_region ?_
  refine al_mv ?_
  refine al_fp u46 info9 ?_
  refine al_ld u9 info9 ?_
  refine al_o (op_bs u65 info65 place65) ?_
  (refine al_call into145 rfl rfl rfl (wr_lift rfl (e_put v0 v1 (out) d (m) (tkN t.name) (by first | omega | (simp only [List.length_append, List.length_cons, List.length_nil]; omega))) _ (wr_below (by rfl))) (by simp) ?_; rintro _ _ ⟨v14, rfl, rfl⟩)
  refine al_nil ?_
  refine aw_ret ?_
  refine ⟨_, res_0 rfl, ?_⟩
  rw [toksR_eq, depR_eq, gh1]; exact ⟨v14, rfl, wr_eq rfl (by simp only [cond_true]; omega)⟩
 have gh1 := h1
 simp only [nrm] at h1
 refine aw_skip ?_
 refine aw_seq ?_
 have hno2 := hno
 rw [toksR_eq, gh1] at hno2
 simp only [cond_false, List.length_cons, List.length_append] at hno2
 have hdd2 := hdd
 rw [depR_eq, gh1] at hdd2
 simp only [cond_false] at hdd2
 refine aw_region ?_
 refine al_mv ?_
 refine al_fp u46 info9 ?_
 refine al_ld u9 info9 ?_
 (refine al_call into150 rfl rfl rfl (wr_lift rfl (e_symbol v0 v1 out d m t.name hs (by omega)) _ (wr_below (by rfl))) (by simp) ?_; rintro _ _ ⟨v18, rfl, rfl⟩)
 refine al_sr ?_
 refine al_mv ?_
 refine al_fp u46 info31 ?_
 refine al_ld u31 info31 ?_
 (refine al_call into147 rfl rfl rfl (wr_lift rfl (e_brackets v0 v18 (out ++ [tkS t.name]) d m hd0 hdm hm [] (by decide) t.len hl hW (by first | omega | (simp only [List.length_append, List.length_cons, List.length_nil]; omega)) (by omega)) _ (wr_below (by rfl))) (by simp) ?_; rintro _ _ ⟨v22, rfl, rfl⟩)
 refine al_sr ?_
 refine al_fp u46 info44 ?_
 refine al_ld u44 info44 ?_
 refine al_lm u44 ?_
 refine al_mv ?_
 refine al_nil ?_
 refine aw_block ?_
 refine aw_for2T (α := Nat) (β := Nat) [26] [5] (fun i w => t.elem.length - i) (fun i w => i ≤ t.elem.length) (fun i w => ([(26, .v (.int .i64 ((i : Nat) : Int)))] : Env)) (fun i w st => wr v0 w ((out ++ tkS t.name :: inBr (sepT [] (t.len.map toks))) ++ toksRs (t.elem.take i)) d (max (max m (d + (maxL (t.len.map dep) + 1 : Nat))) (d + (depRs (t.elem.take i) : Nat))) [(3, ver3, .row 5 [cellsR t])]) (0) (v22) ?_ ?_ ?_ (fun i w hinv => ?_)
 ·exact Nat.zero_le _
 ·refine sub_1 ?_
  all_goals (first | rfl | simp)
 ·exact (wr_eq (by simp) rfl).trans (wr_rs0 t.elem (by omega))
 refine aw_sr ?_
 refine al_ls ?_
 refine al_nil ?_
 refine aw_seq ?_
 refine aw_cond rfl (fun h2 => ?_) (fun h2 => ?_)
 ·have gh2 := h2
  simp only [nrm] at h2
  refine aw_skip ?_
  refine aw_seq ?_
  refine aw_block ?_
  refine aw_seq ?_
  have hil : i < t.elem.length := by omega
  have hr1 := rs_len t.elem i (by omega)
  have hr2 := rs_len t.elem (i + 1) (by omega)
  have hr3 := rs_dep t.elem i
  have hr4 := rs_dep t.elem (i + 1)
  rw [rs_take hil, List.length_append, List.length_cons] at hr2
  rw [rsd_take hil] at hr4
  refine aw_region ?_
  refine al_o (val_as (.rptr (cellsR (t.elem.getD i default))) (op_im u44 info46) (by exact congrArg AVal.rptr (encR_cells _))) ?_
  refine al_lr u46 info46 ?_
  refine al_al 5 info46 fun ver5 => ?_
  refine al_sp info46 ?_
  refine al_sr ?_
  refine al_mv ?_
  (refine al_call into150 rfl rfl rfl (wr_lift rfl (e_symbol v0 w ((out ++ tkS t.name :: inBr (sepT [] (t.len.map toks))) ++ toksRs (t.elem.take i)) d (max (max m (d + (maxL (t.len.map dep) + 1 : Nat))) (d + (depRs (t.elem.take i) : Nat))) sOf (by decide) (by first | omega | (simp only [List.length_append, List.length_cons, List.length_nil]; omega))) _ (wr_below (by rfl))) (by simp) ?_; rintro _ _ ⟨v31, rfl, rfl⟩)
  refine al_nil ?_
  refine aw_region ?_
  refine al_mv ?_
  refine al_ld u46 info46 ?_
  (refine al_call into115 rfl rfl rfl (ih (t.elem.getD i default) (getD_mem hil) v0 v31 (((out ++ tkS t.name :: inBr (sepT [] (t.len.map toks))) ++ toksRs (t.elem.take i)) ++ [tkS sOf]) d (max (max m (d + (maxL (t.len.map dep) + 1 : Nat))) (d + (depRs (t.elem.take i) : Nat))) _ (wr_below (by rfl)) hd0 (by omega) (by omega) (by first | omega | (simp only [List.length_append, List.length_cons, List.length_nil]; omega)) (by omega)) (by simp) ?_; rintro _ _ ⟨v34, rfl, rfl⟩)
  refine al_nil ?_
  refine aw_region ?_
  refine al_ad ?_
  refine al_mv ?_
  refine al_nil ?_
  refine ⟨i + 1, v34, ?_, ?_, ?_, ?_, ?_⟩
  ·omega
  ·omega
  ·refine sub_1 ?_
   all_goals (first | rfl | simp)
  ·exact sbl
  ·exact wr_rs t.elem i hil
 have gh2 := h2
 simp only [nrm] at h2
 refine aw_exit ?_
 refine ⟨_, res_0 rfl, ?_⟩
 obtain rfl : i = t.elem.length := by omega
 rw [toksR_eq, depR_eq, gh1]
 exact ⟨w, rfl, wr_eq (by rw [List.take_length]; simp) (by rw [List.take_length]; simp only [cond_false]; omega)⟩
end Go.Proofs.YtcgdlhkiecommaaGreatDoor
/- Printed walks (gen.py, lexer_ann.py): part 420. -/




namespace Go.Proofs.YtcgdlhkiecommaaGreatDoor
open Go
theorem e_write (e : Ex) (hw : OKW Tryz.prog e) (hs : ∃ n, shapesP e n = true) : ACp Tryz.prog 52 [.agg (cellsE (e))] (.tuple [.list 5 ((toks e).map encK), .v (.int .i64 ((dep e : Nat) : Int))]) := by
 refine acp_of rfl ?_
 have hl := hw.l
 have hd := hw.d
 refine ace 11 Tryz.func52 ?_
 refine aw_sr ?_
 refine al_bx 1 fun ver1 => ?_
 refine al_gs ?_
 refine al_gs ?_
 refine al_sr ?_
 refine al_al 4 info123 fun ver4 => ?_
 refine al_nil ?_
 refine aw_seq ?_
 refine aw_own_in encK 4 5 5 0 (by decide) rfl rfl rfl (fun vo => ?_)
 refine aw_region ?_
 refine al_ld u37 info37 ?_
 (refine al_call into101 rfl rfl rfl (wr_call 4 5 rfl rfl (e_wexpr e hw.z hw.b hs ver4 vo [] 0 0 [] rfl (by omega) (by omega) (by omega) (by simpa using hw.l) (by omega)) rfl rfl (by rfl)) (by simp) ?_; rintro _ _ ⟨v6, rfl, rfl⟩)
 refine al_nil ?_
 refine aw_seq ?_
 refine aw_plan [0, 1, 2, 3, 4, 5] (Checked.mixed Tryz.checked) (by kernel_rfl) ?_
 refine afl_float rfl rfl (opk_of (op_field_ptr u123 rfl info22 (by decide) rfl rfl rfl)) (by simp) ?_
 refine afl_float rfl rfl (opk_of (op_load_ptr u22 info22 rfl rfl rfl rfl)) (by simp) ?_
 refine afl_float rfl rfl (opk_of (op_field_ptr u123 rfl info3 (by decide) rfl rfl rfl)) (by simp) ?_
 refine afl_float rfl rfl (opk_of (op_load_ptr u3 info3 rfl rfl rfl rfl)) (by simp) ?_
 refine afl_float rfl rfl (opk_of (op_assign rfl)) (by simp) ?_
 refine afl_float rfl rfl (opk_of (op_assign rfl)) (by simp) ?_
 refine afl_end ?_
 refine aw_freeze (fun _ => false) (fsub_cons (t := 2) rfl (by first | exact .leaf _ _ (frz_whole rfl rfl (by first | rfl | (simp; done) | (simp; omega)) (clo_map (fun _ => rfl))) | exact .leaf _ _ (.vnil 5) | exact .leaf _ _ (.nil 5) | exact .leaf _ _ (.same _)) (fsub_cons (t := 3) rfl (.leaf _ _ (.same _)) fsub_nil)) ?_
 refine aw_ret ?_
 refine ⟨_, res_2 rfl rfl rfl rfl rfl, ?_, rfl⟩
 rw [show max (0 : Int) (0 + (dep e : Nat)) = (dep e : Nat) by omega]; rfl
theorem e_writeT (t : Tr) (hw : WRX Tryz.prog t) (hl : (toksR t).length ≤ 1000000000) (hd : depR t ≤ 1000000000) : ACp Tryz.prog 63 [.agg (cellsR t)] (.tuple [.list 5 ((toksR t).map encK), .v (.int .i64 ((depR t : Nat) : Int))]) := by
 refine acp_of rfl ?_
 refine ace 11 Tryz.func63 ?_
 refine aw_sr ?_
 refine al_bx 1 fun ver1 => ?_
 refine al_gs ?_
 refine al_gs ?_
 refine al_sr ?_
 refine al_al 4 info123 fun ver4 => ?_
 refine al_nil ?_
 refine aw_seq ?_
 refine aw_own_in encK 4 5 5 0 (by decide) rfl rfl rfl (fun vo => ?_)
 refine aw_region ?_
 refine al_ld u46 info46 ?_
 (refine al_call into115 rfl rfl rfl (wr_call 4 5 rfl rfl (hw ver4 vo [] 0 0 [] rfl (by omega) (by omega) (by omega) (by simpa using hl) (by omega)) rfl rfl (by rfl)) (by simp) ?_; rintro _ _ ⟨v6, rfl, rfl⟩)
 refine al_nil ?_
 refine aw_seq ?_
 refine aw_plan [0, 1, 2, 3, 4, 5] (Checked.mixed Tryz.checked) (by kernel_rfl) ?_
 refine afl_float rfl rfl (opk_of (op_field_ptr u123 rfl info22 (by decide) rfl rfl rfl)) (by simp) ?_
 refine afl_float rfl rfl (opk_of (op_load_ptr u22 info22 rfl rfl rfl rfl)) (by simp) ?_
 refine afl_float rfl rfl (opk_of (op_field_ptr u123 rfl info3 (by decide) rfl rfl rfl)) (by simp) ?_
 refine afl_float rfl rfl (opk_of (op_load_ptr u3 info3 rfl rfl rfl rfl)) (by simp) ?_
 refine afl_float rfl rfl (opk_of (op_assign rfl)) (by simp) ?_
 refine afl_float rfl rfl (opk_of (op_assign rfl)) (by simp) ?_
 refine afl_end ?_
 refine aw_freeze (fun _ => false) (fsub_cons (t := 2) rfl (by first | exact .leaf _ _ (frz_whole rfl rfl (by first | rfl | (simp; done) | (simp; omega)) (clo_map (fun _ => rfl))) | exact .leaf _ _ (.vnil 5) | exact .leaf _ _ (.nil 5) | exact .leaf _ _ (.same _)) (fsub_cons (t := 3) rfl (.leaf _ _ (.same _)) fsub_nil)) ?_
 refine aw_ret ?_
 refine ⟨_, res_2 rfl rfl rfl rfl rfl, ?_, rfl⟩
 rw [show max (0 : Int) (0 + (depR t : Nat)) = (depR t : Nat) by omega]; rfl
theorem e_valid (e : Ex) (hw : OKW Tryz.prog e) : ACp Tryz.prog 25 [.agg (cellsE (e))] (.v (.bool (validP e))) := by
 refine acp_of rfl ?_
 refine ace 15 Tryz.func25 ?_
 refine aw_sr ?_
 refine al_bx 1 fun ver1 => ?_
 refine al_gs ?_
 refine al_nil ?_
 refine aw_seq ?_
 refine aw_sr ?_
 refine al_ld u37 info37 ?_
 refine al_callp into56 rfl rfl rfl (e_shapes e hw.z 0 _) (by simp) ?_
 refine al_o (op_not rfl) ?_
 refine al_nil ?_
 refine aw_cond rfl (fun h1 => ?_) (fun h1 => ?_)
 ·have gh1 := h1
  simp only [nrm] at h1
  refine aw_sr ?_
  refine al_gs ?_
  refine al_nil ?_
  refine fz1 (t := 2) ?_
  refine aw_ret ?_
  refine ⟨_, res_1 rfl rfl, ?_, rfl⟩
  rw [validP, show shapesP e 0 = false by simpa using gh1]; rfl
 have gh1 := h1
 simp only [nrm] at h1
 refine aw_skip ?_
 refine aw_sr ?_
 refine al_ld u37 info37 ?_
 refine al_callp into52 rfl rfl rfl (e_write e hw ⟨0, by simpa using gh1⟩ _) (by simp) ?_
 refine al_mv ?_
 refine al_xt ?_
 refine al_xt ?_
 refine al_gs ?_
 refine al_gs ?_
 refine al_sr ?_
 refine al_mv ?_
 refine al_o (op_leq rfl rfl) ?_
 refine al_gs ?_
 refine al_nil ?_
 refine fz1 (t := 2) ?_
 refine aw_ret ?_
 refine ⟨_, res_1 rfl rfl, ?_, rfl⟩
 rw [validP, show shapesP e 0 = true by simpa using gh1]; rfl
theorem e_textE (e : Ex) (hw : OKW Tryz.prog e) (ht : OKTs (toks e)) : ACp Tryz.prog 23 [.agg (cellsE (e))] (.tuple [.v (.string (str ((textE e).1))), .v (.int .i64 ((textE e).2))]) := by
 refine acp_of rfl ?_
 refine ace 18 Tryz.func23 ?_
 refine aw_sr ?_
 refine al_bx 1 fun ver1 => ?_
 refine al_gs ?_
 refine al_gs ?_
 refine al_nil ?_
 refine aw_seq ?_
 refine aw_sr ?_
 refine al_ld u37 info37 ?_
 refine al_callp into25 rfl rfl rfl (e_valid e hw _) (by simp) ?_
 refine al_o (op_not rfl) ?_
 refine al_nil ?_
 refine aw_cond rfl (fun h1 => ?_) (fun h1 => ?_)
 ·have gh1 := h1
  simp only [nrm] at h1
  refine aw_sr ?_
  refine al_gs ?_
  refine al_gs ?_
  refine al_nil ?_
  refine fz2 (t := 2) (u := 3) ?_
  refine aw_ret ?_
  refine ⟨_, res_2 rfl rfl rfl rfl rfl, ?_, rfl⟩
  rw [textE, show validP e = false by simpa using gh1]; rfl
 have gh1 := h1
 simp only [nrm] at h1
 refine aw_skip ?_
 refine aw_seq ?_
 have hv : validP e = true := by simpa using gh1
 have hv0 : shapesP e 0 = true := by rw [validP, Bool.and_eq_true] at hv; exact hv.1
 refine aw_region ?_
 refine al_ld u37 info37 ?_
 refine al_callp into52 rfl rfl rfl (e_write e hw ⟨0, hv0⟩ _) (by simp) ?_
 refine al_mv ?_
 refine al_xt ?_
 refine al_xt ?_
 refine al_gs ?_
 refine al_gs ?_
 refine al_sr ?_
 refine al_mv ?_
 refine al_callp into53 rfl rfl rfl (c_Text (toks e) ht (by have := hw.l; omega) _) (by simp) ?_
 refine al_xt ?_
 refine al_xt ?_
 refine al_gs ?_
 refine al_gs ?_
 refine al_nil ?_
 refine fz2 (t := 2) (u := 3) ?_
 refine aw_ret ?_
 refine ⟨_, res_2 rfl rfl rfl rfl rfl, ?_, rfl⟩
 rw [textE, hv]; rfl
end Go.Proofs.YtcgdlhkiecommaaGreatDoor
/- Printed walks (gen.py, lexer_ann.py): part 421. -/



namespace Go.Proofs.YtcgdlhkiecommaaGreatDoor
open Go
theorem e_isTarget (e : Ex) (hz : szE e = true) (n : Nat) (hs : shapesP e n = true) : ACp Tryz.prog 59 [.agg (cellsE (e))] (.v (.bool (isTargP e))) := by
 refine acp_of rfl ?_
 refine ace 34 Tryz.func59 ?_
 refine aw_sr ?_
 refine al_bx 1 fun ver1 => ?_
 refine al_gs ?_
 refine al_nil ?_
 refine aw_seq ?_
 refine aw_block ?_
 refine aw_forT (ι := Ex) [] [] (fun c => SizeOf.sizeOf c) (fun c => szE c = true ∧ (∃ n, shapesP c n = true) ∧ isTargP c = isTargP e) (fun c => ([] : Env)) (fun c st => ([(1, ver1, .row 16 [cellsE c])] : Store)) (e) ?_ ?_ ?_ (fun c hinv => ?_)
 ·exact ⟨hz, ⟨n, hs⟩, rfl⟩
 ·exact sub_nil
 ·rfl
 refine aw_seq ?_
 refine aw_sr ?_
 refine al_fp u37 info25 ?_
 refine al_ld u25 info25 ?_
 refine al_eq ?_
 refine al_mv ?_
 apply al_or 4 6 10 rfl
 ·intro h1; have gh1 := h1
  simp only [nrm] at h1
  refine tk_fp u37 info25 ?_
  refine tk_ld u25 info25 ?_
  refine tk_eq ?_
  refine al_pk ?_
  exact al_nk gh1
 ·intro h1; have gh1 := h1
  simp only [nrm] at h1
  iterate 3 refine al_ps ?_
  refine al_pk ?_
  exact al_nk gh1
 refine al_nil ?_
 refine aw_cond rfl (fun h2 => ?_) (fun h2 => ?_)
 ·have gh2 := h2
  simp only [nrm] at h2
  refine aw_skip ?_
  refine aw_block ?_
  obtain ⟨n, hn⟩ := hinv.2.1
  have hk := targ_kid hn gh2
  have hk0 := hk.1
  refine aw_region ?_
  refine al_fp u37 info31 ?_
  refine al_ld u31 info31 ?_
  refine al_o (val_as (.rptr (cellsE (c.kids.getD 0 default))) (op_im u31 info37) (by exact congrArg AVal.rptr (encE_cells _))) ?_
  refine al_lr u37 info37 ?_
  refine al_sp info37 ?_
  refine al_nil ?_
  refine ⟨c.kids.getD 0 default, ?_, ?_, ?_, ?_, ?_⟩
  ·exact Ex.sz_kid (getD_mem hk.1)
  ·exact ⟨(szE_facts hinv.1).2.2.2.2 _ (getD_mem hk.1), hk.2.1, hk.2.2.trans hinv.2.2⟩
  ·exact sub_nil
  ·exact sbl
  ·rfl
 have gh2 := h2
 simp only [nrm] at h2
 refine aw_exit ?_
 refine aw_seq ?_
 obtain ⟨z1, _⟩ := szE_facts hinv.1
 refine aw_region ?_
 refine al_fp u37 info25 ?_
 refine al_ld u25 info25 ?_
 refine al_eq ?_
 refine al_mv ?_
 apply al_or 15 18 33 rfl
 ·intro h3; have gh3 := h3
  simp only [nrm] at h3
  refine tk_fp u37 info25 ?_
  refine tk_ld u25 info25 ?_
  refine tk_eq ?_
  refine tk_mv ?_
  apply al_and 5 22 27 rfl
  ·intro h4; have gh4 := h4
   simp only [nrm] at h4
   refine tk_fp u37 info31 ?_
   refine tk_ld u31 info31 ?_
   refine al_t (op_len_map u31 rfl) ?_
   refine tk_eq ?_
   refine tk_pk ?_
   exact al_nk gh4
  ·intro h4; have gh4 := h4
   simp only [nrm] at h4
   iterate 4 refine al_ps ?_
   refine tk_pk ?_
   exact al_nk gh4
  refine tk_mv ?_
  apply al_and 4 28 32 rfl
  ·intro h5; have gh5 := h5
   simp only [nrm] at h5
   refine tk_fp u37 info9 ?_
   refine tk_ld u9 info9 ?_
   refine al_callp_take into66 rfl rfl rfl rfl rfl rfl (c_isName c.name (by omega) _) (by simp) ?_
   refine tk_pk ?_
   exact al_nk gh5
  ·intro h5; have gh5 := h5
   iterate 3 refine al_ps ?_
   refine tk_pk ?_
   exact al_nk gh5
  refine al_pk ?_
  exact al_nk gh3
 ·intro h3; have gh3 := h3
  simp only [nrm] at h3
  iterate 4 refine al_ps ?_
  refine al_pu ?_
  refine al_pu ?_
  refine al_pu ?_
  refine al_pu ?_
  iterate 2 refine al_ps ?_
  refine al_pu ?_
  refine al_pu ?_
  refine al_pu ?_
  refine al_ps ?_
  refine al_pk ?_
  exact al_nk gh3
 refine al_gs ?_
 refine al_nil ?_
 refine fz1 (t := 2) ?_
 refine aw_ret ?_
 refine ⟨_, res_1 rfl rfl, ?_, rfl⟩
 rw [← hinv.2.2, targ_end gh2] <;> rfl
theorem e_isTargetV (e : Ex) (hw : OKW Tryz.prog e) : ACp Tryz.prog 27 [.agg (cellsE (e))] (.v (.bool (validP e && isTargP e))) := by
 refine acp_of rfl ?_
 refine ace 9 Tryz.func27 ?_
 refine aw_sr ?_
 refine al_bx 1 fun ver1 => ?_
 refine al_gs ?_
 refine al_sr ?_
 refine al_ld u37 info37 ?_
 refine al_callp into25 rfl rfl rfl (e_valid e hw _) (by simp) ?_
 refine al_mv ?_
 apply al_and 3 5 8 rfl
 ·intro gh1
  try (have hv0 : shapesP e 0 = true := by have := gh1; rw [validP, Bool.and_eq_true] at this; exact this.1)
  refine tk_ld u37 info37 ?_
  refine al_callp_take into59 rfl rfl rfl rfl rfl rfl (e_isTarget e hw.z 0 hv0 _) (by simp) ?_
  refine al_pk ?_
  exact al_nk gh1
 ·intro gh1
  try (have hv0 : shapesP e 0 = true := by have := gh1; rw [validP, Bool.and_eq_true] at this; exact this.1)
  iterate 2 refine al_ps ?_
  refine al_pk ?_
  exact al_nk gh1
 refine al_gs ?_
 refine al_nil ?_
 refine fz1 (t := 2) ?_
 refine aw_ret ?_
 refine ⟨_, res_1 rfl rfl, ?_, rfl⟩
 rfl
theorem e_names (e : Ex) (hw : OKW Tryz.prog e) (hlk : (toks e).length ≤ 1000000) : ACp Tryz.prog 29 [.agg (cellsE (e))] (.tuple [.list 1 ((namesE e).1.map encBs), .v (.int .i64 ((namesE e).2))]) := by
 refine acp_of rfl ?_
 refine ace 40 Tryz.func29 ?_
 refine aw_sr ?_
 refine al_bx 1 fun ver1 => ?_
 refine al_gs ?_
 refine al_gs ?_
 refine al_nil ?_
 refine aw_seq ?_
 refine aw_sr ?_
 refine al_ld u37 info37 ?_
 refine al_callp into25 rfl rfl rfl (e_valid e hw _) (by simp) ?_
 refine al_o (op_not rfl) ?_
 refine al_nil ?_
 refine aw_cond rfl (fun h1 => ?_) (fun h1 => ?_)
 ·have gh1 := h1
  simp only [nrm] at h1
  refine aw_sr ?_
  refine al_gs ?_
  refine al_gs ?_
  refine al_nil ?_
  refine aw_freeze (fun _ => false) (fsub_cons (t := 2) rfl (by first | exact .leaf _ _ (frz_whole rfl rfl (by first | rfl | (simp; done) | (simp; omega)) (clo_map (fun _ => rfl))) | exact .leaf _ _ (.vnil 1) | exact .leaf _ _ (.nil 1) | exact .leaf _ _ (.same _)) (fsub_cons (t := 3) rfl (.leaf _ _ (.same _)) fsub_nil)) ?_
  refine aw_ret ?_
  refine ⟨_, res_2 rfl rfl rfl rfl rfl, ?_, rfl⟩
  rw [namesE, show validP e = false by simpa using gh1]; rfl
 have gh1 := h1
 simp only [nrm] at h1
 refine aw_skip ?_
 refine aw_sr ?_
 refine al_gs ?_
 refine al_nil ?_
 refine aw_seq ?_
 have hv : validP e = true := by simpa using gh1
 have hv0 : shapesP e 0 = true := by have := hv; rw [validP, Bool.and_eq_true] at this; exact this.1
 refine aw_region ?_
 refine al_ld u37 info37 ?_
 refine al_callp into52 rfl rfl rfl (e_write e hw ⟨0, hv0⟩ _) (by simp) ?_
 refine al_mv ?_
 refine al_xt ?_
 refine al_xt ?_
 refine al_gs ?_
 refine al_gs ?_
 refine al_nil ?_
 refine aw_seq ?_
 refine aw_sr ?_
 refine al_mv ?_
 refine al_lm u22 ?_
 refine al_mv ?_
 refine al_nil ?_
 refine aw_block ?_
 refine aw_own_map encBs 4 1 4 rfl rfl (fun ver4 => ?_)
 refine aw_for2T (α := Nat) (β := Nat) [4, 19] [8] (fun i ver => (toks e).length - i) (fun i ver => i ≤ (toks e).length) (fun i ver => ([(4, .slice 4 ver 0 (namesT ((toks e).take i)).length), (19, .v (.int .i64 ((i : Nat) : Int)))] : Env)) (fun i ver s => s.put 4 ver (.row 1 ((namesT ((toks e).take i)).map encBs))) (0) (ver4) ?_ ?_ ?_ (fun i ver hinv => ?_)
 ·exact Nat.zero_le _
 ·refine sub_2 ?_ ?_
  all_goals (first | rfl | (simp; done) | (rw [names_add hil gh4] <;> rfl) | (rw [names_skip hil gh4] <;> rfl))
 ·rfl
 refine aw_sr ?_
 refine al_ls ?_
 refine al_nil ?_
 refine aw_seq ?_
 refine aw_cond rfl (fun h2 => ?_) (fun h2 => ?_)
 ·have gh2 := h2
  simp only [nrm] at h2
  refine aw_skip ?_
  refine aw_seq ?_
  refine aw_block ?_
  refine aw_seq ?_
  have hil : i < (toks e).length := by omega
  have hnl := namesT_len ((toks e).take i)
  rw [List.length_take] at hnl
  refine aw_region ?_
  refine al_o (op_im u22 info65) ?_
  refine al_lr u65 info65 ?_
  refine al_al 8 info65 fun ver8 => ?_
  refine al_sp info65 ?_
  refine al_sr ?_
  refine al_fp u65 info63 ?_
  refine al_ld u63 info63 ?_
  refine al_eq ?_
  refine al_mv ?_
  apply al_and 6 26 32 rfl
  ·intro h3; have gh3 := h3
   simp only [nrm] at h3
   refine tk_mv ?_
   refine tk_fp u65 info9 ?_
   refine tk_ld u9 info9 ?_
   refine al_callp_take into61 rfl rfl rfl rfl rfl rfl (acp_lent (lend_cons (by first | exact lend_same | exact .leaf _ _ (.vnil _) | exact .leaf _ _ (.nil _) | exact lend_whole rfl (by first | rfl | (simp; done) | (simp; omega)) (clo_map (fun _ => rfl))) (lend_cons (by first | exact lend_same | exact .leaf _ _ (.vnil _) | exact .leaf _ _ (.nil _) | exact lend_whole rfl (by first | rfl | (simp; done) | (simp; omega)) (clo_map (fun _ => rfl))) lend_nil)) (q_member _ _ (by first | assumption | omega | (simp; done) | (simp; omega) | decide)) rfl) (by simp) ?_
   refine al_t (op_not rfl) ?_
   refine al_pk ?_
   exact al_nk gh3
  ·intro h3; have gh3 := h3
   simp only [nrm] at h3
   iterate 5 refine al_ps ?_
   refine al_pk ?_
   exact al_nk gh3
  refine al_nil ?_
  refine aw_cond rfl (fun h4 => ?_) (fun h4 => ?_)
  ·have gh4 := h4
   simp only [nrm] at h4
   refine aw_region ?_
   refine al_mv ?_
   refine al_fp u65 info9 ?_
   refine al_ld u9 info9 ?_
   refine al_o (op_buildSlice u32 info9 rfl rfl (by decide) rfl (by decide) rfl (by first | rfl | (repeat (first | exact parts_nil | refine parts_cons rfl (by repeat (first | exact all_live_nil | refine all_live_clo rfl ?_ | refine all_live_slice rfl ?_ | refine all_live_map rfl ?_ | refine all_live_ptr rfl ?_)) ?_))) rfl rfl rfl) ?_
   (refine al_opR (op_append_one ((toks e).getD i default).text u32 u32 rfl info9 rfl rfl (by decide) rfl rfl rfl (by first | rfl | simp) rfl rfl (by first | omega | (simp; done) | (simp; omega)) (by show _ * 16 ≤ _; first | omega | (simp; done) | (simp; omega))) rfl (by simp) ?_; rintro _ _ ⟨ver37, rfl, rfl⟩)
   refine al_gs ?_
   refine al_nil ?_
   refine aw_region ?_
   refine al_ad ?_
   refine al_mv ?_
   refine al_nil ?_
   refine ⟨i + 1, ver37, ?_, ?_, ?_, ?_, ?_⟩
   ·omega
   ·omega
   ·refine sub_2 ?_ ?_
    all_goals (first | rfl | (simp; done) | (rw [names_add hil gh4] <;> rfl) | (rw [names_skip hil gh4] <;> rfl))
   ·exact sbl
   ·first | (rw [names_add hil gh4] <;> rfl) | (rw [names_skip hil gh4] <;> rfl)
  have gh4 := h4
  refine aw_skip ?_
  refine aw_region ?_
  refine al_ad ?_
  refine al_mv ?_
  refine al_nil ?_
  refine ⟨i + 1, ver, ?_, ?_, ?_, ?_, ?_⟩
  ·omega
  ·omega
  ·refine sub_2 ?_ ?_
   all_goals (first | rfl | (simp; done) | (rw [names_add hil gh4] <;> rfl) | (rw [names_skip hil gh4] <;> rfl))
  ·exact sbl
  ·first | (rw [names_add hil gh4] <;> rfl) | (rw [names_skip hil gh4] <;> rfl)
 have gh2 := h2
 simp only [nrm] at h2
 refine aw_exit ?_
 obtain rfl : i = (toks e).length := by omega
 refine aw_as 4 (.slice 4 ver 0 (namesT (toks e)).length) rfl (by rw [List.take_length]) ?_
 refine aw_sr ?_
 refine al_mv ?_
 refine al_gs ?_
 refine al_gs ?_
 refine al_nil ?_
 refine aw_freeze (fun _ => false) (fsub_cons (t := 2) rfl (by first | exact .leaf _ _ (frz_whole rfl rfl (by first | rfl | (simp; done) | (simp; omega)) (clo_map (fun _ => rfl))) | exact .leaf _ _ (.vnil 1) | exact .leaf _ _ (.nil 1) | exact .leaf _ _ (.same _)) (fsub_cons (t := 3) rfl (.leaf _ _ (.same _)) fsub_nil)) ?_
 refine aw_ret ?_
 refine ⟨_, res_2 rfl rfl rfl rfl rfl, ?_, rfl⟩
 rw [namesE, hv, List.take_length]; rfl
end Go.Proofs.YtcgdlhkiecommaaGreatDoor
/- Printed walks (gen.py, lexer_ann.py): part 422. -/



namespace Go.Proofs.YtcgdlhkiecommaaGreatDoor
open Go
theorem e_ref (r : Tr) : OKR Tryz.prog r → shR r → WRX Tryz.prog r := by
  induction r using Tr.ind with
  | h r ih =>
    intro ho hs
    obtain ⟨o1, o2, o3, o4, o5, o6, o7⟩ := OKR_facts ho
    obtain ⟨s1, s2⟩ := shR_facts hs
    intro v0 v1 out d m τ hb hd0 hdm hm hno hdd
    exact wr_lift rfl (e_refS v0 v1 out d m hd0 hdm hm r o1 o2 o3 (fun e he => e_wexpr e (o4 e he).z (o4 e he).b (s1 e he)) (fun u hu => ih u hu (o7 u hu) (s2 u hu)) hno hdd) τ hb
theorem e_deepest (r : Tr) (ho : OKR Tryz.prog r) (hs : shR r) : ACp Tryz.prog 65 [.agg (cellsR r)] (.v (.bool (okR r))) := by
 refine acp_of rfl ?_
 obtain ⟨o1, o2, o3, o4, o5, o6, o7⟩ := OKR_facts ho
 refine ace 12 Tryz.func65 ?_
 refine aw_sr ?_
 refine al_bx 1 fun ver1 => ?_
 refine al_gs ?_
 refine al_sr ?_
 refine al_ld u46 info46 ?_
 refine al_callp into63 rfl rfl rfl (e_writeT r (e_ref r ho hs) o5 o6 _) (by simp) ?_
 refine al_mv ?_
 refine al_xt ?_
 refine al_xt ?_
 refine al_gs ?_
 refine al_gs ?_
 refine al_sr ?_
 refine al_mv ?_
 refine al_o (op_leq rfl rfl) ?_
 refine al_gs ?_
 refine al_nil ?_
 refine fz1 (t := 2) ?_
 refine aw_ret ?_
 refine ⟨_, res_1 rfl rfl, ?_, rfl⟩
 rfl
theorem e_validRS (r : Tr) (ho : OKR Tryz.prog r) (ih : ∀ u ∈ r.elem, ACp Tryz.prog 33 [.agg (cellsR u)] (.v (.bool (validR u)))) : ACp Tryz.prog 33 [.agg (cellsR r)] (.v (.bool (validR r))) := by
 refine acp_of rfl ?_
 obtain ⟨o1, o2, o3, o4, o5, o6, o7⟩ := OKR_facts ho
 refine ace 81 Tryz.func33 ?_
 refine aw_sr ?_
 refine al_bx 1 fun ver1 => ?_
 refine al_gs ?_
 refine al_nil ?_
 refine aw_seq ?_
 refine aw_sr ?_
 refine al_fp u46 info9 ?_
 refine al_ld u9 info9 ?_
 refine al_nil ?_
 refine aw_block ?_
 refine aw_sr ?_
 refine al_o (op_seql_str rfl rfl) ?_
 refine al_gs ?_
 refine al_nil ?_
 refine aw_cond rfl (fun h1 => ?_) (fun h1 => ?_)
 ·have gh1 := h1
  simp only [nrm] at h1
  refine aw_sr ?_
  refine al_fp u46 info31 ?_
  refine al_ld u31 info31 ?_
  refine al_lm u31 ?_
  refine al_eq ?_
  refine al_mv ?_
  apply al_and 5 11 16 rfl
  ·intro h2; have gh2 := h2
   simp only [nrm] at h2
   refine tk_fp u46 info44 ?_
   refine tk_ld u44 info44 ?_
   refine al_t (op_len_map u44 rfl) ?_
   refine tk_eq ?_
   refine al_pk ?_
   exact al_nk gh2
  ·intro h2; have gh2 := h2
   simp only [nrm] at h2
   iterate 4 refine al_ps ?_
   refine al_pk ?_
   exact al_nk gh2
  refine al_mv ?_
  apply al_and 6 17 23 rfl
  ·intro h3; have gh3 := h3
   simp only [nrm] at h3
   refine tk_fp u46 info31 ?_
   refine tk_ld u31 info31 ?_
   refine al_t (val_as (.rptr (cellsE (r.len.getD 0 default))) (op_im u31 info37) (by exact congrArg AVal.rptr (encE_cells _))) ?_
   refine al_t (op_load_rptr u37 info37 rfl rfl) ?_
   refine al_callp_take into25 rfl rfl rfl rfl rfl rfl (e_valid (r.len.getD 0 default) (o4 _ (getD_mem (by omega))) _) (by simp) ?_
   refine al_pk ?_
   exact al_nk gh3
  ·intro h3; have gh3 := h3
   iterate 5 refine al_ps ?_
   refine al_pk ?_
   exact al_nk gh3
  refine al_mv ?_
  apply al_and 3 24 27 rfl
  ·intro h4; have gh4 := h4
   simp only [nrm] at h4
   refine tk_ld u46 info46 ?_
   refine al_callp_take into65 rfl rfl rfl rfl rfl rfl (e_deepest r ho (sh_vec (by assumption)) _) (by simp) ?_
   refine al_pk ?_
   exact al_nk gh4
  ·intro h4; have gh4 := h4
   iterate 2 refine al_ps ?_
   refine al_pk ?_
   exact al_nk gh4
  refine al_gs ?_
  refine al_nil ?_
  refine fz1 (t := 2) ?_
  refine aw_ret ?_
  refine ⟨_, res_1 rfl rfl, ?_, rfl⟩
  rw [validR_eq, show (r.name == sVec) = true from gh1]; rfl
 have gh1 := h1
 simp only [nrm] at h1
 refine aw_sr ?_
 refine al_o (op_seql_str rfl rfl) ?_
 refine al_gs ?_
 refine al_nil ?_
 refine aw_cond rfl (fun h5 => ?_) (fun h5 => ?_)
 ·have gh5 := h5
  simp only [nrm] at h5
  refine aw_sr ?_
  refine al_fp u46 info31 ?_
  refine al_ld u31 info31 ?_
  refine al_lm u31 ?_
  refine al_eq ?_
  refine al_mv ?_
  apply al_and 5 34 39 rfl
  ·intro h6; have gh6 := h6
   simp only [nrm] at h6
   refine tk_fp u46 info44 ?_
   refine tk_ld u44 info44 ?_
   refine al_t (op_len_map u44 rfl) ?_
   refine tk_eq ?_
   refine al_pk ?_
   exact al_nk gh6
  ·intro h6; have gh6 := h6
   simp only [nrm] at h6
   iterate 4 refine al_ps ?_
   refine al_pk ?_
   exact al_nk gh6
  refine al_mv ?_
  apply al_and 6 40 46 rfl
  ·intro h7; have gh7 := h7
   simp only [nrm] at h7
   refine tk_fp u46 info31 ?_
   refine tk_ld u31 info31 ?_
   refine al_t (val_as (.rptr (cellsE (r.len.getD 0 default))) (op_im u31 info37) (by exact congrArg AVal.rptr (encE_cells _))) ?_
   refine al_t (op_load_rptr u37 info37 rfl rfl) ?_
   refine al_callp_take into25 rfl rfl rfl rfl rfl rfl (e_valid (r.len.getD 0 default) (o4 _ (getD_mem (by omega))) _) (by simp) ?_
   refine al_pk ?_
   exact al_nk gh7
  ·intro h7; have gh7 := h7
   iterate 5 refine al_ps ?_
   refine al_pk ?_
   exact al_nk gh7
  refine al_mv ?_
  apply al_and 7 47 54 rfl
  ·intro h8; have gh8 := h8
   simp only [nrm] at h8
   refine tk_fp u46 info44 ?_
   refine tk_ld u44 info44 ?_
   refine al_t (val_as (.rptr (cellsR (r.elem.getD 0 default))) (op_im u44 info46) (by exact congrArg AVal.rptr (encR_cells _))) ?_
   refine al_t (op_field_rptr u46 rfl info9 (by decide) rfl rfl) ?_
   refine al_t (op_load_rptr u9 info9 rfl rfl) ?_
   refine al_t (op_sneq_str rfl rfl) ?_
   refine al_pk ?_
   exact al_nk gh8
  ·intro h8; have gh8 := h8
   iterate 6 refine al_ps ?_
   refine al_pk ?_
   exact al_nk gh8
  refine al_mv ?_
  apply al_and 6 55 61 rfl
  ·intro h9; have gh9 := h9
   simp only [nrm] at h9
   refine tk_fp u46 info44 ?_
   refine tk_ld u44 info44 ?_
   refine al_t (val_as (.rptr (cellsR (r.elem.getD 0 default))) (op_im u44 info46) (by exact congrArg AVal.rptr (encR_cells _))) ?_
   refine al_t (op_load_rptr u46 info46 rfl rfl) ?_
   refine al_callp_take into33 rfl rfl rfl rfl rfl rfl (ih (r.elem.getD 0 default) (getD_mem (by omega)) _) (by simp) ?_
   refine al_pk ?_
   exact al_nk gh9
  ·intro h9; have gh9 := h9
   iterate 5 refine al_ps ?_
   refine al_pk ?_
   exact al_nk gh9
  refine al_mv ?_
  apply al_and 3 62 65 rfl
  ·intro h10; have gh10 := h10
   simp only [nrm] at h10
   refine tk_ld u46 info46 ?_
   refine al_callp_take into65 rfl rfl rfl rfl rfl rfl (e_deepest r ho (sh_arr (by assumption)) _) (by simp) ?_
   refine al_pk ?_
   exact al_nk gh10
  ·intro h10; have gh10 := h10
   iterate 2 refine al_ps ?_
   refine al_pk ?_
   exact al_nk gh10
  refine al_gs ?_
  refine al_nil ?_
  refine fz1 (t := 2) ?_
  refine aw_ret ?_
  refine ⟨_, res_1 rfl rfl, ?_, rfl⟩
  rw [validR_arr (show (r.name == sVec) = false from gh1) (show (r.name == sArray) = true from gh5)]; rfl
 have gh5 := h5
 simp only [nrm] at h5
 refine aw_skip ?_
 refine aw_sr ?_
 refine al_fp u46 info9 ?_
 refine al_ld u9 info9 ?_
 refine al_callp into66 rfl rfl rfl (c_isName r.name (by omega) _) (by simp) ?_
 refine al_mv ?_
 apply al_and 5 69 74 rfl
 ·intro gh11
  refine tk_fp u46 info31 ?_
  refine tk_ld u31 info31 ?_
  refine al_t (op_len_map u31 rfl) ?_
  refine tk_eq ?_
  refine al_pk ?_
  exact al_nk gh11
 ·intro gh11
  iterate 4 refine al_ps ?_
  refine al_pk ?_
  exact al_nk gh11
 refine al_mv ?_
 apply al_and 5 75 80 rfl
 ·intro h12; have gh12 := h12
  simp only [nrm] at h12
  refine tk_fp u46 info44 ?_
  refine tk_ld u44 info44 ?_
  refine al_t (op_len_map u44 rfl) ?_
  refine tk_eq ?_
  refine al_pk ?_
  exact al_nk gh12
 ·intro h12; have gh12 := h12
  iterate 4 refine al_ps ?_
  refine al_pk ?_
  exact al_nk gh12
 refine al_gs ?_
 refine al_nil ?_
 refine fz1 (t := 2) ?_
 refine aw_ret ?_
 refine ⟨_, res_1 rfl rfl, ?_, rfl⟩
 rw [validR_eq, show (r.name == sVec) = false from gh1, show (r.name == sArray) = false from gh5]; rfl
theorem e_validR (r : Tr) : OKR Tryz.prog r → ACp Tryz.prog 33 [.agg (cellsR r)] (.v (.bool (validR r))) := by
  induction r using Tr.ind with
  | h r ih =>
    intro ho
    obtain ⟨o1, o2, o3, o4, o5, o6, o7⟩ := OKR_facts ho
    exact e_validRS r ho (fun u hu => ih u hu (o7 u hu))
theorem e_textR (r : Tr) (ho : OKR Tryz.prog r) (ht : OKTs (toksR r)) : ACp Tryz.prog 31 [.agg (cellsR r)] (.tuple [.v (.string (str ((textR r).1))), .v (.int .i64 ((textR r).2))]) := by
 refine acp_of rfl ?_
 obtain ⟨o1, o2, o3, o4, o5, o6, o7⟩ := OKR_facts ho
 refine ace 18 Tryz.func31 ?_
 refine aw_sr ?_
 refine al_bx 1 fun ver1 => ?_
 refine al_gs ?_
 refine al_gs ?_
 refine al_nil ?_
 refine aw_seq ?_
 refine aw_sr ?_
 refine al_ld u46 info46 ?_
 refine al_callp into33 rfl rfl rfl (e_validR r ho _) (by simp) ?_
 refine al_o (op_not rfl) ?_
 refine al_nil ?_
 refine aw_cond rfl (fun h1 => ?_) (fun h1 => ?_)
 ·have gh1 := h1
  simp only [nrm] at h1
  refine aw_sr ?_
  refine al_gs ?_
  refine al_gs ?_
  refine al_nil ?_
  refine fz2 (t := 2) (u := 3) ?_
  refine aw_ret ?_
  refine ⟨_, res_2 rfl rfl rfl rfl rfl, ?_, rfl⟩
  rw [textR, show validR r = false by simpa using gh1]; rfl
 have gh1 := h1
 simp only [nrm] at h1
 refine aw_skip ?_
 refine aw_seq ?_
 have hv : validR r = true := by simpa using gh1
 refine aw_region ?_
 refine al_ld u46 info46 ?_
 refine al_callp into63 rfl rfl rfl (e_writeT r (e_ref r ho (validR_sh r hv)) o5 o6 _) (by simp) ?_
 refine al_mv ?_
 refine al_xt ?_
 refine al_xt ?_
 refine al_gs ?_
 refine al_gs ?_
 refine al_sr ?_
 refine al_mv ?_
 refine al_callp into53 rfl rfl rfl (c_Text (toksR r) ht (by omega) _) (by simp) ?_
 refine al_xt ?_
 refine al_xt ?_
 refine al_gs ?_
 refine al_gs ?_
 refine al_nil ?_
 refine fz2 (t := 2) (u := 3) ?_
 refine aw_ret ?_
 refine ⟨_, res_2 rfl rfl rfl rfl rfl, ?_, rfl⟩
 rw [textR, hv]; rfl
end Go.Proofs.YtcgdlhkiecommaaGreatDoor
/- Printed walks (gen.py, lexer_ann.py): part 423. -/






namespace Go.Proofs.YtcgdlhkiecommaaGreatDoor
open Go
theorem l_words (s : Bs) (hs : s.length ≤ 1000000000) : ACp Tryz.prog 38 [.v (.string (str (s)))] (.list 5 ((lexP s).1.map encK)) := by
 refine acp_of rfl ?_
 refine ace 11 Tryz.func38 ?_
 refine aw_sr ?_
 refine al_gs ?_
 refine al_sr ?_
 refine al_mv ?_
 refine al_callp into37 rfl rfl rfl (r_Lex s hs _) (by simp) ?_
 refine al_mv ?_
 refine al_xt ?_
 refine al_xt ?_
 refine al_al 4 info40 fun ver4 => ?_
 refine al_gs ?_
 refine al_sp info40 ?_
 refine al_sr ?_
 refine al_mv ?_
 refine al_gs ?_
 refine al_nil ?_
 refine aw_freeze (fun _ => false) (fsub_cons (t := 2) rfl (by first | exact .leaf _ _ (frz_whole rfl rfl (by first | rfl | (simp; done) | (simp; omega)) (clo_map (fun _ => rfl))) | exact .leaf _ _ (.vnil 5) | exact .leaf _ _ (.nil 5) | exact .leaf _ _ (.same _)) fsub_nil) ?_
 refine aw_ret ?_
 refine ⟨_, res_1 rfl rfl, ?_, rfl⟩
 rfl
theorem l_awake  : ACp Tryz.prog 12 [] (.v (.bool (true))) := by
 refine acp_of rfl ?_
 obtain ⟨E1, p1, f1, f2, f3, f4, f5, f6, f7, f8, f9, f10, f11, f12, f13, f14⟩ := ex1
 obtain ⟨E2, p2⟩ := ex2
 obtain ⟨E3, p3⟩ := ex3
 obtain ⟨E4, p4, g1, g2, g3, g4, g5, g6, g7, g8⟩ := ex4
 obtain ⟨R, p5, w5, r1, r2, r3⟩ := ex6 Tryz.prog
 have w1 : OKW Tryz.prog E1 := okw_of f5 f6 f8 f9 (by decide) (by decide)
 have w4 : OKW Tryz.prog E4 := okw_of g3 g4 g5 g6 (by decide) (by decide)
 have t1 : OKTs (toks E1) := okts_of f10
 have t5 : OKTs (toksR R) := okts_of r1
 refine ace 189 Tryz.func12 ?_
 refine aw_sr ?_
 refine al_gs ?_
 refine al_sr ?_
 refine al_callp into38 rfl rfl rfl (l_words exS1 (by decide) _) (by simp) ?_
 refine al_callp into13 rfl rfl rfl (c_Parse (lexP exS1).1 (okts_of ex_words1.1) (by rw [ex_words1.2]; decide) 0 _) (by simp) ?_
 refine al_as 24 (.tuple [encX E1, .v (.int .i64 (9)), .agg (encF okF)]) rfl (by exact congrArg (encP encX) p1) ?_
 refine al_mv ?_
 refine al_xt ?_
 refine al_xt ?_
 refine al_xt ?_
 refine al_al 1 info37 fun ver1 => ?_
 refine al_al 3 info40 fun ver3 => ?_
 refine al_sp info37 ?_
 refine al_gs ?_
 refine al_sp info40 ?_
 refine al_nil ?_
 refine aw_seq ?_
 refine aw_st (σ2 := [(1, ver1, .row 16 [cellsE E1]), (3, ver3, .row 4 [encF okF])]) rfl ?_
 refine aw_region ?_
 refine al_ld u37 info37 ?_
 refine al_callp into23 rfl rfl rfl (e_textE E1 w1 t1 _) (by simp) ?_
 refine al_as 30 (.tuple [.v (.string (str (exS1))), .v (.int .i64 (0))]) rfl (by rw [f11]) ?_
 refine al_mv ?_
 refine al_xt ?_
 refine al_xt ?_
 refine al_gs ?_
 refine al_gs ?_
 refine al_sr ?_
 refine al_callp into38 rfl rfl rfl (l_words exS2 (by decide) _) (by simp) ?_
 refine al_callp into13 rfl rfl rfl (c_Parse (lexP exS2).1 (okts_of ex_words2.1) (by rw [ex_words2.2]; decide) 0 _) (by simp) ?_
 refine al_as 35 (.tuple [encX E2, .v (.int .i64 (3)), .agg (encF okF)]) rfl (by exact congrArg (encP encX) p2) ?_
 refine al_mv ?_
 refine al_xt ?_
 refine al_xt ?_
 refine al_xt ?_
 refine al_al 6 info37 fun ver6 => ?_
 refine al_al 8 info40 fun ver8 => ?_
 refine al_sp info37 ?_
 refine al_gs ?_
 refine al_sp info40 ?_
 refine al_nil ?_
 refine aw_seq ?_
 refine aw_st (σ2 := [(1, ver1, .row 16 [cellsE E1]), (3, ver3, .row 4 [encF okF]), (6, ver6, .row 16 [cellsE E2]), (8, ver8, .row 4 [encF okF])]) rfl ?_
 refine aw_region ?_
 refine al_callp into38 rfl rfl rfl (l_words exS3 (by decide) _) (by simp) ?_
 refine al_callp into13 rfl rfl rfl (c_Parse (lexP exS3).1 (okts_of ex_words3.1) (by rw [ex_words3.2]; decide) 0 _) (by simp) ?_
 refine al_as 41 (.tuple [encX E3, .v (.int .i64 (0)), .agg (encF (⟨11, [59], 1, 5⟩ : Flt))]) rfl (by exact congrArg (encP encX) p3) ?_
 refine al_mv ?_
 refine al_xt ?_
 refine al_xt ?_
 refine al_xt ?_
 refine al_al 9 info37 fun ver9 => ?_
 refine al_al 11 info40 fun ver11 => ?_
 refine al_sp info37 ?_
 refine al_gs ?_
 refine al_sp info40 ?_
 refine al_nil ?_
 refine aw_seq ?_
 refine aw_st (σ2 := [(1, ver1, .row 16 [cellsE E1]), (3, ver3, .row 4 [encF okF]), (6, ver6, .row 16 [cellsE E2]), (8, ver8, .row 4 [encF okF]), (9, ver9, .row 16 [cellsE E3]), (11, ver11, .row 4 [encF (⟨11, [59], 1, 5⟩ : Flt)])]) rfl ?_
 refine aw_region ?_
 refine al_callp into38 rfl rfl rfl (l_words exS4 (by decide) _) (by simp) ?_
 refine al_callp into16 rfl rfl rfl (c_Target (lexP exS4).1 (okts_of ex_words4.1) (by rw [ex_words4.2]; decide) 0 _) (by simp) ?_
 refine al_as 47 (.tuple [encX E4, .v (.int .i64 (6)), .agg (encF okF)]) rfl (by exact congrArg (encP encX) p4) ?_
 refine al_mv ?_
 refine al_xt ?_
 refine al_xt ?_
 refine al_xt ?_
 refine al_al 12 info37 fun ver12 => ?_
 refine al_al 14 info40 fun ver14 => ?_
 refine al_sp info37 ?_
 refine al_gs ?_
 refine al_sp info40 ?_
 refine al_nil ?_
 refine aw_seq ?_
 refine aw_st (σ2 := [(1, ver1, .row 16 [cellsE E1]), (3, ver3, .row 4 [encF okF]), (6, ver6, .row 16 [cellsE E2]), (8, ver8, .row 4 [encF okF]), (9, ver9, .row 16 [cellsE E3]), (11, ver11, .row 4 [encF (⟨11, [59], 1, 5⟩ : Flt)]), (12, ver12, .row 16 [cellsE E4]), (14, ver14, .row 4 [encF okF])]) rfl ?_
 refine aw_region ?_
 refine al_callp into38 rfl rfl rfl (l_words exS5 (by decide) _) (by simp) ?_
 refine al_callp into18 rfl rfl rfl (c_Type (lexP exS5).1 (okts_of ex_words5.1) (by rw [ex_words5.2]; decide) 0 _) (by simp) ?_
 refine al_as 53 (.tuple [encRr R, .v (.int .i64 (9)), .agg (encF okF)]) rfl (by exact congrArg (encP encRr) p5) ?_
 refine al_mv ?_
 refine al_xt ?_
 refine al_xt ?_
 refine al_xt ?_
 refine al_al 15 info46 fun ver15 => ?_
 refine al_al 17 info40 fun ver17 => ?_
 refine al_sp info46 ?_
 refine al_gs ?_
 refine al_sp info40 ?_
 refine al_nil ?_
 refine aw_seq ?_
 refine aw_st (σ2 := [(1, ver1, .row 16 [cellsE E1]), (3, ver3, .row 4 [encF okF]), (6, ver6, .row 16 [cellsE E2]), (8, ver8, .row 4 [encF okF]), (9, ver9, .row 16 [cellsE E3]), (11, ver11, .row 4 [encF (⟨11, [59], 1, 5⟩ : Flt)]), (12, ver12, .row 16 [cellsE E4]), (14, ver14, .row 4 [encF okF]), (15, ver15, .row 5 [cellsR R]), (17, ver17, .row 4 [encF okF])]) rfl ?_
 refine aw_region ?_
 refine al_ld u46 info46 ?_
 refine al_callp into31 rfl rfl rfl (e_textR R w5 t5 _) (by simp) ?_
 refine al_as 59 (.tuple [.v (.string (str (exS5))), .v (.int .i64 (0))]) rfl (by rw [r2]) ?_
 refine al_mv ?_
 refine al_xt ?_
 refine al_xt ?_
 refine al_gs ?_
 refine al_gs ?_
 refine al_sr ?_
 refine al_ld u37 info37 ?_
 refine al_callp into29 rfl rfl rfl (e_names E1 w1 (by omega) _) (by simp) ?_
 refine al_as 64 (.tuple [.list 1 (([[97], [98], [99]] : List Bs).map encBs), .v (.int .i64 (0))]) rfl (by rw [f12]) ?_
 refine al_mv ?_
 refine al_xt ?_
 refine al_xt ?_
 refine al_gs ?_
 refine al_gs ?_
 refine al_nil ?_
 refine aw_seq ?_
 refine aw_sr ?_
 refine al_fp u37 info31 ?_
 refine al_ld u31 info31 ?_
 refine al_lm u31 ?_
 refine al_o (op_neq rfl rfl) ?_
 refine al_mv ?_
 refine al_as 71 (.v (.bool false)) rfl (by rw [f4]; rfl) ?_
 refine tk_fp u37 info31 ?_
 refine tk_ld u31 info31 ?_
 refine al_t (op_len_map u31 rfl) ?_
 refine al_t (op_neq rfl rfl) ?_
 refine al_pk ?_
 refine al_mv ?_
 refine al_as 77 (.v (.bool false)) rfl (by rw [g2]; rfl) ?_
 refine tk_mv ?_
 refine al_t (op_len_map u32 rfl) ?_
 refine al_t (op_neq rfl rfl) ?_
 refine al_pk ?_
 refine al_nil ?_
 refine aw_cond rfl (fun h1 => ?_) (fun h1 => ?_)
 ·have gh1 := h1
  simp only [nrm] at h1
  exact absurd gh1 (by decide)
 have gh1 := h1
 simp only [nrm] at h1
 refine aw_skip ?_
 refine aw_sr ?_
 refine al_fp u37 info25 ?_
 refine al_ld u25 info25 ?_
 refine al_eq ?_
 refine al_mv ?_
 refine al_as 85 (.v (.bool true)) rfl (by rw [f1]) ?_
 refine tk_fp u37 info9 ?_
 refine tk_ld u9 info9 ?_
 refine al_t (op_seql_str rfl rfl) ?_
 refine al_pk ?_
 refine al_mv ?_
 refine al_as 90 (.v (.bool true)) rfl (by rw [show (E1.name == [61]) = true from f2]) ?_
 refine tk_fp u37 info3 ?_
 refine tk_ld u3 info3 ?_
 refine tk_eq ?_
 refine al_pk ?_
 refine al_mv ?_
 refine al_as 95 (.v (.bool true)) rfl (by rw [f3]) ?_
 refine tk_mv ?_
 refine tk_eq ?_
 refine al_pk ?_
 refine al_mv ?_
 refine al_as 99 (.v (.bool true)) rfl (by rfl) ?_
 refine tk_ld u40 info40 ?_
 refine al_t (op_bs u40 info40 place40) ?_
 refine al_t (op_aeq (r := decide (okF = okF)) rfl rfl rfl rfl (by kernel_rfl) (fun w => flt_run okF okF w)) ?_
 refine al_pk ?_
 refine al_mv ?_
 refine al_as 104 (.v (.bool true)) rfl (by rfl) ?_
 refine tk_mv ?_
 refine al_t (op_seql_str rfl rfl) ?_
 refine al_pk ?_
 refine al_mv ?_
 refine al_as 108 (.v (.bool true)) rfl (by rfl) ?_
 refine tk_mv ?_
 refine tk_eq ?_
 refine al_pk ?_
 refine al_mv ?_
 refine al_as 112 (.v (.bool true)) rfl (by rfl) ?_
 refine tk_mv ?_
 refine tk_eq ?_
 refine al_pk ?_
 refine al_mv ?_
 refine al_as 116 (.v (.bool true)) rfl (by rfl) ?_
 refine tk_ld u40 info40 ?_
 refine al_t (op_bs u40 info40 place40) ?_
 refine al_t (op_aeq (r := decide (okF = okF)) rfl rfl rfl rfl (by kernel_rfl) (fun w => flt_run okF okF w)) ?_
 refine al_pk ?_
 refine al_mv ?_
 refine al_as 121 (.v (.bool true)) rfl (by rfl) ?_
 refine tk_ld u40 info40 ?_
 refine al_t (op_bs u40 info40 place40) ?_
 refine al_t (op_aeq (r := decide ((⟨11, [59], 1, 5⟩ : Flt) = (⟨11, [59], 1, 5⟩ : Flt))) rfl rfl rfl rfl (by kernel_rfl) (fun w => flt_run (⟨11, [59], 1, 5⟩ : Flt) (⟨11, [59], 1, 5⟩ : Flt) w)) ?_
 refine al_pk ?_
 refine al_mv ?_
 refine al_as 126 (.v (.bool true)) rfl (by rfl) ?_
 refine tk_fp u37 info25 ?_
 refine tk_ld u25 info25 ?_
 refine tk_eq ?_
 refine al_pk ?_
 refine al_mv ?_
 refine al_as 131 (.v (.bool true)) rfl (by rw [g1]) ?_
 refine tk_mv ?_
 refine tk_eq ?_
 refine al_pk ?_
 refine al_mv ?_
 refine al_as 135 (.v (.bool true)) rfl (by rfl) ?_
 refine tk_ld u40 info40 ?_
 refine al_t (op_bs u40 info40 place40) ?_
 refine al_t (op_aeq (r := decide (okF = okF)) rfl rfl rfl rfl (by kernel_rfl) (fun w => flt_run okF okF w)) ?_
 refine al_pk ?_
 refine al_mv ?_
 refine al_as 140 (.v (.bool true)) rfl (by rfl) ?_
 refine tk_mv ?_
 refine tk_eq ?_
 refine al_pk ?_
 refine al_mv ?_
 refine al_as 144 (.v (.bool true)) rfl (by rfl) ?_
 refine tk_ld u40 info40 ?_
 refine al_t (op_bs u40 info40 place40) ?_
 refine al_t (op_aeq (r := decide (okF = okF)) rfl rfl rfl rfl (by kernel_rfl) (fun w => flt_run okF okF w)) ?_
 refine al_pk ?_
 refine al_mv ?_
 refine al_as 149 (.v (.bool true)) rfl (by rfl) ?_
 refine tk_mv ?_
 refine al_t (op_seql_str rfl rfl) ?_
 refine al_pk ?_
 refine al_mv ?_
 refine al_as 153 (.v (.bool true)) rfl (by rfl) ?_
 refine tk_mv ?_
 refine tk_eq ?_
 refine al_pk ?_
 refine al_mv ?_
 refine al_as 157 (.v (.bool true)) rfl (by rfl) ?_
 refine tk_mv ?_
 refine al_t (op_im u32 info9) ?_
 refine al_t (op_load_rptr u9 info9 rfl rfl) ?_
 refine al_t (op_seql_str rfl rfl) ?_
 refine al_pk ?_
 refine al_mv ?_
 refine al_as 163 (.v (.bool true)) rfl (by rfl) ?_
 refine tk_mv ?_
 refine tk_eq ?_
 refine al_pk ?_
 refine al_mv ?_
 refine al_as 167 (.v (.bool true)) rfl (by rfl) ?_
 refine tk_ld u37 info37 ?_
 refine al_callp_take into25 rfl rfl rfl rfl rfl rfl (e_valid E1 w1 _) (by simp) ?_
 refine al_pk ?_
 refine al_mv ?_
 refine al_as 171 (.v (.bool true)) rfl (by rw [f13]) ?_
 refine tk_ld u37 info37 ?_
 refine al_callp_take into27 rfl rfl rfl rfl rfl rfl (e_isTargetV E4 w4 _) (by simp) ?_
 refine al_pk ?_
 refine al_mv ?_
 refine al_as 175 (.v (.bool true)) rfl (by rw [g7, g8]; rfl) ?_
 refine tk_ld u37 info37 ?_
 refine al_callp_take into27 rfl rfl rfl rfl rfl rfl (e_isTargetV E1 w1 _) (by simp) ?_
 refine al_t (op_not rfl) ?_
 refine al_pk ?_
 refine al_mv ?_
 refine al_as 180 (.v (.bool true)) rfl (by rw [f13, f14]; rfl) ?_
 refine tk_ld u46 info46 ?_
 refine al_callp_take into33 rfl rfl rfl rfl rfl rfl (e_validR R w5 _) (by simp) ?_
 refine al_pk ?_
 refine al_mv ?_
 refine al_as 184 (.v (.bool true)) rfl (by rw [r3]) ?_
 refine tk_ld u37 info37 ?_
 refine tk_ld u37 info37 ?_
 refine al_callp_take into35 rfl rfl rfl rfl rfl rfl (e_same E1 E1 f7 f7 _) (by simp) ?_
 refine al_pk ?_
 refine al_gs ?_
 refine al_nil ?_
 refine fz1 (t := 0) ?_
 refine aw_ret ?_
 refine ⟨_, res_1 rfl rfl, ?_, rfl⟩
 rw [sameE_self]
end Go.Proofs.YtcgdlhkiecommaaGreatDoor
