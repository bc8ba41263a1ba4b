import Derived.Test.YtcgdlhkiecommaaGreatDoorW423
import Derived.Test.YtcgdlhkiecommaaGreatDoorXSame2
import Derived.Test.YtcgdlhkiecommaaGreatDoorFacts
import Derived.Test.YtcgdlhkiecommaaGreatDoorEngStr
import Derived.Test.YtcgdlhkiecommaaGreatDoorXRef3


import Derived.Test.YtcgdlhkiecommaaGreatDoorXBld




/- Printed walks (gen.py, lexer_ann.py): part 424. -/




set_option linter.unusedVariables false
set_option linter.unusedSimpArgs false
set_option maxRecDepth 20000
set_option maxHeartbeats 40000000
namespace Go.Proofs.YtcgdlhkiecommaaGreatDoor
open Go
theorem r_sameB (a b : List Int) (ha : a.length ≤ 140737488355328) : ACp Tryz.prog 72 [.list 1 (a.map encB), .list 1 (b.map encB)] (.v (.bool (a == b))) := by
 refine acp_of rfl ?_
 refine ace 26 Tryz.func72 ?_
 refine aw_sr ?_
 refine al_gs ?_
 refine al_nil ?_
 refine aw_seq ?_
 refine aw_sr ?_
 refine al_mv ?_
 refine al_lm Tryz.underlying26 ?_
 refine al_mv ?_
 refine al_lm Tryz.underlying26 ?_
 refine al_op (op_neq rfl rfl) rfl (by simp) ?_
 refine al_nil ?_
 refine aw_cond rfl (fun h1 => ?_) (fun h1 => ?_)
 ·have gh1 := h1
  simp only [nrm] at h1
  refine aw_sr ?_
  refine al_gs ?_
  refine al_nil ?_
  refine fz1 (t := 4) ?_
  refine aw_ret ?_
  refine ⟨_, res_1 rfl rfl, ?_, rfl⟩
  rw [leq_len gh1]
 have gh1 := h1
 simp only [nrm] at h1
 refine aw_skip ?_
 refine aw_seq ?_
 refine aw_sr ?_
 refine al_mv ?_
 refine al_lm Tryz.underlying26 ?_
 refine al_mv ?_
 refine al_nil ?_
 refine aw_block ?_
 refine aw_forT (ι := Nat) [4, 13] [] (fun i => a.length - i) (fun i => i ≤ a.length ∧ ∀ k, k < i → (a.getD k default != b.getD k default) = false) (fun i => ([(13, .v (.int .i64 ((i : Nat) : Int)))] : Env)) (fun i s => s) (0) ?_ ?_ ?_ (fun i hinv => ?_)
 ·exact ⟨Nat.zero_le _, fun k hk => absurd hk (Nat.not_lt_zero k)⟩
 ·refine sub_cons (get_as rfl ?_) ?_; rotate_left; exact sub_nil
  all_goals (first | rfl | simp)
 ·rfl
 have hi := hinv.1
 have hll : a.length = b.length := by have := bne_eq_false_iff_eq.1 gh1; omega
 refine aw_sr ?_
 refine al_ls ?_
 refine al_nil ?_
 refine aw_seq ?_
 refine aw_cond rfl (fun h2 => ?_) (fun h2 => ?_)
 ·have gh2 := h2
  simp only [nrm] at h2
  refine aw_skip ?_
  refine aw_seq ?_
  refine aw_block ?_
  refine aw_sr ?_
  refine al_mv ?_
  refine al_gs ?_
  refine al_nil ?_
  refine aw_seq ?_
  refine aw_any (Checked.mixed Tryz.checked) ?_
  apply aany_seg (p := 0) (q := 9) (by kernel_rfl) rfl (by decide)
  ·
   apply ql_plain rfl (op_move rfl)
   apply ql_plain rfl (op_move rfl)
   apply ql_plain rfl (op_index_map default Tryz.underlying26 info97 rfl rfl rfl (by first | (with_reducible exact Int.toNat_natCast _) | rfl) (by omega) (by omega))
   apply ql_plain rfl (op_load_rptr Tryz.underlying97 info97 rfl rfl)
   apply ql_plain rfl (op_move rfl)
   apply ql_plain rfl (op_move rfl)
   apply ql_plain rfl (op_index_map default Tryz.underlying26 info97 rfl rfl rfl (by first | (with_reducible exact Int.toNat_natCast _) | rfl) (by omega) (by omega))
   apply ql_plain rfl (op_load_rptr Tryz.underlying97 info97 rfl rfl)
   apply ql_plain rfl (op_neq rfl rfl)
   exact ql_nil
  ·simp
  refine aany_end rfl (by kernel_rfl) ?_
  refine aw_cond rfl (fun h3 => ?_) (fun h3 => ?_)
  ·have gh3 := h3
   simp only [nrm] at h3
   refine aw_sr ?_
   refine al_gs ?_
   refine al_nil ?_
   refine fz1 (t := 4) ?_
   refine aw_ret ?_
   refine ⟨_, res_1 rfl rfl, ?_, rfl⟩
   rw [leq_no i (by omega) (by omega) gh3]
  have gh3 := h3
  simp only [nrm] at h3
  refine aw_skip ?_
  refine aw_region ?_
  refine al_ad ?_
  refine al_mv ?_
  refine al_nil ?_
  refine ⟨i + 1, ?_, ?_, ?_, ?_, ?_⟩
  ·omega
  ·exact ⟨by omega, idx_more (p := fun k => (a.getD k default != b.getD k default)) hinv.2 gh3⟩
  ·refine sub_cons (get_as rfl ?_) ?_; rotate_left; exact sub_nil
   all_goals (first | rfl | simp)
  ·repeat (first | exact subx_refl | exact subx_del | refine subx_put rfl ?_)
  ·rfl
 have gh2 := h2
 simp only [nrm] at h2
 refine aw_exit ?_
 refine aw_sr ?_
 refine al_gs ?_
 refine al_nil ?_
 refine fz1 (t := 4) ?_
 refine aw_ret ?_
 refine ⟨_, res_1 rfl rfl, ?_, rfl⟩
 rw [leq_yes gh1 (fun k hk => hinv.2 k (by omega))]
theorem r_alikeVS (a b : Va) (ha : szV a = true) (hb : szV b = true) (ih : ∀ x ∈ a.list, ∀ y ∈ b.list, ACp Tryz.prog 73 [.agg (cellsV x), .agg (cellsV y)] (.v (.bool (sameV x y)))) : ACp Tryz.prog 73 [.agg (cellsV a), .agg (cellsV b)] (.v (.bool (sameV a b))) := by
 refine acp_of rfl ?_
 obtain ⟨a1, a2, a3⟩ := szV_facts ha
 obtain ⟨b1, b2, b3⟩ := szV_facts hb
 refine ace 54 Tryz.func73 ?_
 refine aw_sr ?_
 refine al_bx 2 fun ver2 => ?_
 refine al_bx 3 fun ver3 => ?_
 refine al_gs ?_
 refine al_nil ?_
 refine aw_seq ?_
 refine aw_sr ?_
 refine al_fp Tryz.underlying30 info27 ?_
 refine al_ld Tryz.underlying27 info27 ?_
 refine al_fp Tryz.underlying30 info27 ?_
 refine al_ld Tryz.underlying27 info27 ?_
 refine al_op (op_neq rfl rfl) rfl (by simp) ?_
 refine al_mv ?_
 apply al_or 6 11 17 rfl
 ·intro h1; have gh1 := h1
  simp only [nrm] at h1
  refine tk_fp Tryz.underlying30 info3 ?_
  refine tk_ld Tryz.underlying3 info3 ?_
  refine tk_fp Tryz.underlying30 info3 ?_
  refine tk_ld Tryz.underlying3 info3 ?_
  refine al_take (op_neq rfl rfl) rfl rfl rfl rfl (by simp) ?_
  refine al_pk ?_
  exact al_nk gh1
 ·intro h1; have gh1 := h1
  simp only [nrm] at h1
  refine al_ps ?_
  refine al_ps ?_
  refine al_ps ?_
  refine al_ps ?_
  refine al_ps ?_
  refine al_pk ?_
  exact al_nk gh1
 refine al_mv ?_
 apply al_or 7 18 25 rfl
 ·intro h2; have gh2 := h2
  simp only [nrm] at h2
  refine tk_fp Tryz.underlying30 info26 ?_
  refine tk_ld Tryz.underlying26 info26 ?_
  refine tk_fp Tryz.underlying30 info26 ?_
  refine tk_ld Tryz.underlying26 info26 ?_
  refine al_callp_take into72 rfl rfl rfl rfl rfl rfl (r_sameB a.bits b.bits a1 _) (by simp) ?_
  refine al_take (op_not rfl) rfl rfl rfl rfl (by simp) ?_
  refine al_pk ?_
  exact al_nk gh2
 ·intro h2; have gh2 := h2
  simp only [nrm] at h2
  refine al_ps ?_
  refine al_ps ?_
  refine al_ps ?_
  refine al_ps ?_
  refine al_ps ?_
  refine al_ps ?_
  refine al_pk ?_
  exact al_nk gh2
 refine al_mv ?_
 apply al_or 8 26 34 rfl
 ·intro h3; have gh3 := h3
  simp only [nrm] at h3
  refine tk_fp Tryz.underlying30 info28 ?_
  refine tk_ld Tryz.underlying28 info28 ?_
  refine al_take (op_len_map Tryz.underlying28 rfl) rfl rfl rfl rfl (by simp) ?_
  refine tk_fp Tryz.underlying30 info28 ?_
  refine tk_ld Tryz.underlying28 info28 ?_
  refine al_take (op_len_map Tryz.underlying28 rfl) rfl rfl rfl rfl (by simp) ?_
  refine al_take (op_neq rfl rfl) rfl rfl rfl rfl (by simp) ?_
  refine al_pk ?_
  exact al_nk gh3
 ·intro h3; have gh3 := h3
  simp only [nrm] at h3
  refine al_ps ?_
  refine al_ps ?_
  refine al_ps ?_
  refine al_ps ?_
  refine al_ps ?_
  refine al_ps ?_
  refine al_ps ?_
  refine al_pk ?_
  exact al_nk gh3
 refine al_nil ?_
 refine aw_cond rfl (fun h4 => ?_) (fun h4 => ?_)
 ·have gh4 := h4
  simp only [nrm] at h4
  refine aw_sr ?_
  refine al_gs ?_
  refine al_nil ?_
  refine fz1 (t := 4) ?_
  refine aw_ret ?_
  refine ⟨_, res_1 rfl rfl, ?_, rfl⟩
  rw [sameV_no gh4]
 have gh4 := h4
 simp only [nrm] at h4
 obtain ⟨hl4, he4⟩ := sameV_yes gh4
 have hll : a.list.length = b.list.length := by have := bne_eq_false_iff_eq.1 hl4; omega
 refine aw_skip ?_
 refine aw_seq ?_
 refine aw_sr ?_
 refine al_fp Tryz.underlying30 info28 ?_
 refine al_ld Tryz.underlying28 info28 ?_
 refine al_lm Tryz.underlying28 ?_
 refine al_mv ?_
 refine al_nil ?_
 refine aw_block ?_
 refine aw_forT (ι := Nat) [4, 38] [] (fun i => a.list.length - i) (fun i => i ≤ a.list.length ∧ ∀ k, k < i → (!(sameV (a.list.getD k default) (b.list.getD k default))) = false) (fun i => ([(38, .v (.int .i64 ((i : Nat) : Int)))] : Env)) (fun i s => s) (0) ?_ ?_ ?_ (fun i hinv => ?_)
 ·exact ⟨Nat.zero_le _, fun k hk => absurd hk (Nat.not_lt_zero k)⟩
 ·refine sub_cons (get_as rfl ?_) ?_; rotate_left; exact sub_nil
  all_goals (first | rfl | simp)
 ·rfl
 have hi := hinv.1

 refine aw_sr ?_
 refine al_ls ?_
 refine al_nil ?_
 refine aw_seq ?_
 refine aw_cond rfl (fun h5 => ?_) (fun h5 => ?_)
 ·have gh5 := h5
  simp only [nrm] at h5
  refine aw_skip ?_
  refine aw_seq ?_
  refine aw_block ?_
  refine aw_sr ?_
  refine al_mv ?_
  refine al_gs ?_
  refine al_nil ?_
  refine aw_seq ?_
  refine aw_any (Checked.mixed Tryz.checked) ?_
  apply aany_seg (p := 0) (q := 12) (by kernel_rfl) rfl (by decide)
  ·
   apply ql_plain rfl (op_field_ptr Tryz.underlying30 rfl info28 (by decide) rfl rfl rfl)
   apply ql_plain rfl (op_load_ptr Tryz.underlying28 info28 rfl rfl rfl rfl)
   apply ql_plain rfl (op_move rfl)
   apply ql_plain rfl (val_as (.rptr (cellsV (a.list.getD i default))) (op_index_map default Tryz.underlying28 info30 rfl rfl rfl (by first | (with_reducible exact Int.toNat_natCast _) | rfl) (by omega) (by omega)) (by exact congrArg AVal.rptr (encVa_cells _)))
   apply ql_plain rfl (op_load_rptr Tryz.underlying30 info30 rfl rfl)
   apply ql_plain rfl (op_field_ptr Tryz.underlying30 rfl info28 (by decide) rfl rfl rfl)
   apply ql_plain rfl (op_load_ptr Tryz.underlying28 info28 rfl rfl rfl rfl)
   apply ql_plain rfl (op_move rfl)
   apply ql_plain rfl (val_as (.rptr (cellsV (b.list.getD i default))) (op_index_map default Tryz.underlying28 info30 rfl rfl rfl (by first | (with_reducible exact Int.toNat_natCast _) | rfl) (by omega) (by omega)) (by exact congrArg AVal.rptr (encVa_cells _)))
   apply ql_plain rfl (op_load_rptr Tryz.underlying30 info30 rfl rfl)
   apply ql_call into73 rfl rfl rfl (ih (a.list.getD i default) (getD_mem (by omega)) (b.list.getD i default) (getD_mem (by omega)) _)
   apply ql_plain rfl (op_not rfl)
   exact ql_nil
  ·simp
  refine aany_end rfl (by kernel_rfl) ?_
  refine aw_cond rfl (fun h6 => ?_) (fun h6 => ?_)
  ·have gh6 := h6
   simp only [nrm] at h6
   refine aw_sr ?_
   refine al_gs ?_
   refine al_nil ?_
   refine fz1 (t := 4) ?_
   refine aw_ret ?_
   refine ⟨_, res_1 rfl rfl, ?_, rfl⟩
   rw [he4, alls_no i (by omega) (by omega) gh6]
  have gh6 := h6
  simp only [nrm] at h6
  refine aw_skip ?_
  refine aw_region ?_
  refine al_ad ?_
  refine al_mv ?_
  refine al_nil ?_
  refine ⟨i + 1, ?_, ?_, ?_, ?_, ?_⟩
  ·omega
  ·exact ⟨by omega, idx_more (p := (fun k => (!(sameV (a.list.getD k default) (b.list.getD k default))))) hinv.2 gh6⟩
  ·refine sub_cons (get_as rfl ?_) ?_; rotate_left; exact sub_nil
   all_goals (first | rfl | simp)
  ·repeat (first | exact subx_refl | exact subx_del | refine subx_put rfl ?_)
  ·rfl
 have gh5 := h5
 simp only [nrm] at h5
 refine aw_exit ?_
 refine aw_sr ?_
 refine al_gs ?_
 refine al_nil ?_
 refine fz1 (t := 4) ?_
 refine aw_ret ?_
 refine ⟨_, res_1 rfl rfl, ?_, rfl⟩
 rw [he4, alls_yes hl4 (fun k hk => hinv.2 k (by omega))]
theorem r_alikeV (a : Va) : ∀ b, szV a = true → szV b = true → ACp Tryz.prog 73 [.agg (cellsV a), .agg (cellsV b)] (.v (.bool (sameV a b))) := by
  induction a using Va.ind with
  | h a ih =>
    intro b ha hb
    obtain ⟨a1, a2, a3⟩ := szV_facts ha
    obtain ⟨b1, b2, b3⟩ := szV_facts hb
    exact r_alikeVS a b ha hb (fun x hx y hy => ih x hx y (a3 x hx) (b3 y hy))
theorem r_typesS (a b : Ty) (ha : szT a = true) (hb : szT b = true) (ih : ∀ x ∈ a.elem, ∀ y ∈ b.elem, ACp Tryz.prog 74 [.agg (cellsT x), .agg (cellsT y)] (.v (.bool (sameT x y)))) : ACp Tryz.prog 74 [.agg (cellsT a), .agg (cellsT b)] (.v (.bool (sameT a b))) := by
 refine acp_of rfl ?_
 obtain ⟨a0, a1, a2, a3⟩ := szT_facts ha
 obtain ⟨b0, b1, b2, b3⟩ := szT_facts hb
 refine ace 81 Tryz.func74 ?_
 refine aw_sr ?_
 refine al_bx 2 fun ver2 => ?_
 refine al_bx 3 fun ver3 => ?_
 refine al_gs ?_
 refine al_nil ?_
 refine aw_seq ?_
 refine aw_sr ?_
 refine al_fp Tryz.underlying35 info27 ?_
 refine al_ld Tryz.underlying27 info27 ?_
 refine al_fp Tryz.underlying35 info27 ?_
 refine al_ld Tryz.underlying27 info27 ?_
 refine al_op (op_neq rfl rfl) rfl (by simp) ?_
 refine al_mv ?_
 apply al_or 6 12 18 rfl
 ·intro h1; have gh1 := h1
  simp only [nrm] at h1
  refine tk_fp Tryz.underlying35 info3 ?_
  refine tk_ld Tryz.underlying3 info3 ?_
  refine tk_fp Tryz.underlying35 info3 ?_
  refine tk_ld Tryz.underlying3 info3 ?_
  refine al_take (op_neq rfl rfl) rfl rfl rfl rfl (by simp) ?_
  refine al_pk ?_
  exact al_nk gh1
 ·intro h1; have gh1 := h1
  simp only [nrm] at h1
  refine al_ps ?_
  refine al_ps ?_
  refine al_ps ?_
  refine al_ps ?_
  refine al_ps ?_
  refine al_pk ?_
  exact al_nk gh1
 refine al_mv ?_
 apply al_or 6 19 25 rfl
 ·intro h2; have gh2 := h2
  simp only [nrm] at h2
  refine tk_fp Tryz.underlying35 info9 ?_
  refine tk_ld Tryz.underlying9 info9 ?_
  refine tk_fp Tryz.underlying35 info9 ?_
  refine tk_ld Tryz.underlying9 info9 ?_
  refine al_take (op_sneq_str rfl rfl) rfl rfl rfl rfl (by simp) ?_
  refine al_pk ?_
  exact al_nk gh2
 ·intro h2; have gh2 := h2
  simp only [nrm] at h2
  refine al_ps ?_
  refine al_ps ?_
  refine al_ps ?_
  refine al_ps ?_
  refine al_ps ?_
  refine al_pk ?_
  exact al_nk gh2
 refine al_mv ?_
 apply al_or 8 26 34 rfl
 ·intro h3; have gh3 := h3
  simp only [nrm] at h3
  refine tk_fp Tryz.underlying35 info32 ?_
  refine tk_ld Tryz.underlying32 info32 ?_
  refine al_take (op_len_map Tryz.underlying32 rfl) rfl rfl rfl rfl (by simp) ?_
  refine tk_fp Tryz.underlying35 info32 ?_
  refine tk_ld Tryz.underlying32 info32 ?_
  refine al_take (op_len_map Tryz.underlying32 rfl) rfl rfl rfl rfl (by simp) ?_
  refine al_take (op_neq rfl rfl) rfl rfl rfl rfl (by simp) ?_
  refine al_pk ?_
  exact al_nk gh3
 ·intro h3; have gh3 := h3
  simp only [nrm] at h3
  refine al_ps ?_
  refine al_ps ?_
  refine al_ps ?_
  refine al_ps ?_
  refine al_ps ?_
  refine al_ps ?_
  refine al_ps ?_
  refine al_pk ?_
  exact al_nk gh3
 refine al_mv ?_
 apply al_or 8 35 43 rfl
 ·intro h4; have gh4 := h4
  simp only [nrm] at h4
  refine tk_fp Tryz.underlying35 info33 ?_
  refine tk_ld Tryz.underlying33 info33 ?_
  refine al_take (op_len_map Tryz.underlying33 rfl) rfl rfl rfl rfl (by simp) ?_
  refine tk_fp Tryz.underlying35 info33 ?_
  refine tk_ld Tryz.underlying33 info33 ?_
  refine al_take (op_len_map Tryz.underlying33 rfl) rfl rfl rfl rfl (by simp) ?_
  refine al_take (op_neq rfl rfl) rfl rfl rfl rfl (by simp) ?_
  refine al_pk ?_
  exact al_nk gh4
 ·intro h4; have gh4 := h4
  simp only [nrm] at h4
  refine al_ps ?_
  refine al_ps ?_
  refine al_ps ?_
  refine al_ps ?_
  refine al_ps ?_
  refine al_ps ?_
  refine al_ps ?_
  refine al_pk ?_
  exact al_nk gh4
 refine al_nil ?_
 refine aw_cond rfl (fun h5 => ?_) (fun h5 => ?_)
 ·have gh5 := h5
  simp only [nrm] at h5
  refine aw_sr ?_
  refine al_gs ?_
  refine al_nil ?_
  refine fz1 (t := 4) ?_
  refine aw_ret ?_
  refine ⟨_, res_1 rfl rfl, ?_, rfl⟩
  rw [sameT_no gh5]
 have gh5 := h5
 simp only [nrm] at h5
 obtain ⟨hl5, hl6, he4⟩ := sameT_yes gh5
 have hll : a.names.length = b.names.length := by have := bne_eq_false_iff_eq.1 hl5; omega
 have hle : a.elem.length = b.elem.length := by have := bne_eq_false_iff_eq.1 hl6; omega
 refine aw_skip ?_
 refine aw_seq ?_
 refine aw_sr ?_
 refine al_fp Tryz.underlying35 info32 ?_
 refine al_ld Tryz.underlying32 info32 ?_
 refine al_lm Tryz.underlying32 ?_
 refine al_mv ?_
 refine al_nil ?_
 refine aw_block ?_
 refine aw_forT (ι := Nat) [4, 47] [] (fun i => a.names.length - i) (fun i => i ≤ a.names.length ∧ ∀ k, k < i → (a.names.getD k default != b.names.getD k default) = false) (fun i => ([(47, .v (.int .i64 ((i : Nat) : Int)))] : Env)) (fun i s => s) (0) ?_ ?_ ?_ (fun i hinv => ?_)
 ·exact ⟨Nat.zero_le _, fun k hk => absurd hk (Nat.not_lt_zero k)⟩
 ·refine sub_cons (get_as rfl ?_) ?_; rotate_left; exact sub_nil
  all_goals (first | rfl | simp)
 ·rfl
 have hi := hinv.1
 refine aw_sr ?_
 refine al_ls ?_
 refine al_nil ?_
 refine aw_seq ?_
 refine aw_cond rfl (fun h6 => ?_) (fun h6 => ?_)
 ·have gh6 := h6
  simp only [nrm] at h6
  refine aw_skip ?_
  refine aw_seq ?_
  refine aw_block ?_
  refine aw_sr ?_
  refine al_mv ?_
  refine al_gs ?_
  refine al_nil ?_
  refine aw_seq ?_
  refine aw_any (Checked.mixed Tryz.checked) ?_
  apply aany_seg (p := 0) (q := 11) (by kernel_rfl) rfl (by decide)
  ·
   apply ql_plain rfl (op_field_ptr Tryz.underlying35 rfl info32 (by decide) rfl rfl rfl)
   apply ql_plain rfl (op_load_ptr Tryz.underlying32 info32 rfl rfl rfl rfl)
   apply ql_plain rfl (op_move rfl)
   apply ql_plain rfl (op_index_map default Tryz.underlying32 info9 rfl rfl rfl (by first | (with_reducible exact Int.toNat_natCast _) | rfl) (by omega) (by omega))
   apply ql_plain rfl (op_load_rptr Tryz.underlying9 info9 rfl rfl)
   apply ql_plain rfl (op_field_ptr Tryz.underlying35 rfl info32 (by decide) rfl rfl rfl)
   apply ql_plain rfl (op_load_ptr Tryz.underlying32 info32 rfl rfl rfl rfl)
   apply ql_plain rfl (op_move rfl)
   apply ql_plain rfl (op_index_map default Tryz.underlying32 info9 rfl rfl rfl (by first | (with_reducible exact Int.toNat_natCast _) | rfl) (by omega) (by omega))
   apply ql_plain rfl (op_load_rptr Tryz.underlying9 info9 rfl rfl)
   apply ql_plain rfl (op_sneq_str rfl rfl)
   exact ql_nil
  ·simp
  refine aany_end rfl (by kernel_rfl) ?_
  refine aw_cond rfl (fun h7 => ?_) (fun h7 => ?_)
  ·have gh7 := h7
   simp only [nrm] at h7
   refine aw_sr ?_
   refine al_gs ?_
   refine al_nil ?_
   refine fz1 (t := 4) ?_
   refine aw_ret ?_
   refine ⟨_, res_1 rfl rfl, ?_, rfl⟩
   rw [he4, leq_no i (by omega) (by omega) gh7]; rfl
  have gh7 := h7
  simp only [nrm] at h7
  refine aw_skip ?_
  refine aw_region ?_
  refine al_ad ?_
  refine al_mv ?_
  refine al_nil ?_
  refine ⟨i + 1, ?_, ?_, ?_, ?_, ?_⟩
  ·omega
  ·exact ⟨by omega, idx_more (p := fun k => (a.names.getD k default != b.names.getD k default)) hinv.2 gh7⟩
  ·refine sub_cons (get_as rfl ?_) ?_; rotate_left; exact sub_nil
   all_goals (first | rfl | simp)
  ·repeat (first | exact subx_refl | exact subx_del | refine subx_put rfl ?_)
  ·rfl
 have gh6 := h6
 simp only [nrm] at h6
 refine aw_exit ?_
 have hsn := leq_yes hl5 (fun k hk => hinv.2 k (by omega))
 refine aw_seq ?_
 refine aw_sr ?_
 refine al_fp Tryz.underlying35 info33 ?_
 refine al_ld Tryz.underlying33 info33 ?_
 refine al_lm Tryz.underlying33 ?_
 refine al_mv ?_
 refine al_nil ?_
 refine aw_block ?_
 refine aw_forT (ι := Nat) [4, 65] [] (fun j => a.elem.length - j) (fun j => j ≤ a.elem.length ∧ ∀ k, k < j → (!(sameT (a.elem.getD k default) (b.elem.getD k default))) = false) (fun j => ([(65, .v (.int .i64 ((j : Nat) : Int)))] : Env)) (fun j s => s) (0) ?_ ?_ ?_ (fun j hinv => ?_)
 ·exact ⟨Nat.zero_le _, fun k hk => absurd hk (Nat.not_lt_zero k)⟩
 ·refine sub_cons (get_as rfl ?_) ?_; rotate_left; exact sub_nil
  all_goals (first | rfl | simp)
 ·rfl
 have hi := hinv.1

 refine aw_sr ?_
 refine al_ls ?_
 refine al_nil ?_
 refine aw_seq ?_
 refine aw_cond rfl (fun h8 => ?_) (fun h8 => ?_)
 ·have gh8 := h8
  simp only [nrm] at h8
  refine aw_skip ?_
  refine aw_seq ?_
  refine aw_block ?_
  refine aw_sr ?_
  refine al_mv ?_
  refine al_gs ?_
  refine al_nil ?_
  refine aw_seq ?_
  refine aw_any (Checked.mixed Tryz.checked) ?_
  apply aany_seg (p := 0) (q := 12) (by kernel_rfl) rfl (by decide)
  ·
   apply ql_plain rfl (op_field_ptr Tryz.underlying35 rfl info33 (by decide) rfl rfl rfl)
   apply ql_plain rfl (op_load_ptr Tryz.underlying33 info33 rfl rfl rfl rfl)
   apply ql_plain rfl (op_move rfl)
   apply ql_plain rfl (val_as (.rptr (cellsT (a.elem.getD j default))) (op_index_map default Tryz.underlying33 info35 rfl rfl rfl (by first | (with_reducible exact Int.toNat_natCast _) | rfl) (by omega) (by omega)) (by exact congrArg AVal.rptr (encTy_cells _)))
   apply ql_plain rfl (op_load_rptr Tryz.underlying35 info35 rfl rfl)
   apply ql_plain rfl (op_field_ptr Tryz.underlying35 rfl info33 (by decide) rfl rfl rfl)
   apply ql_plain rfl (op_load_ptr Tryz.underlying33 info33 rfl rfl rfl rfl)
   apply ql_plain rfl (op_move rfl)
   apply ql_plain rfl (val_as (.rptr (cellsT (b.elem.getD j default))) (op_index_map default Tryz.underlying33 info35 rfl rfl rfl (by first | (with_reducible exact Int.toNat_natCast _) | rfl) (by omega) (by omega)) (by exact congrArg AVal.rptr (encTy_cells _)))
   apply ql_plain rfl (op_load_rptr Tryz.underlying35 info35 rfl rfl)
   apply ql_call into74 rfl rfl rfl (ih (a.elem.getD j default) (getD_mem (by omega)) (b.elem.getD j default) (getD_mem (by omega)) _)
   apply ql_plain rfl (op_not rfl)
   exact ql_nil
  ·simp
  refine aany_end rfl (by kernel_rfl) ?_
  refine aw_cond rfl (fun h9 => ?_) (fun h9 => ?_)
  ·have gh9 := h9
   simp only [nrm] at h9
   refine aw_sr ?_
   refine al_gs ?_
   refine al_nil ?_
   refine fz1 (t := 4) ?_
   refine aw_ret ?_
   refine ⟨_, res_1 rfl rfl, ?_, rfl⟩
   rw [he4, alls_no j (by omega) (by omega) gh9, Bool.and_false]
  have gh9 := h9
  simp only [nrm] at h9
  refine aw_skip ?_
  refine aw_region ?_
  refine al_ad ?_
  refine al_mv ?_
  refine al_nil ?_
  refine ⟨j + 1, ?_, ?_, ?_, ?_, ?_⟩
  ·omega
  ·exact ⟨by omega, idx_more (p := (fun k => (!(sameT (a.elem.getD k default) (b.elem.getD k default))))) hinv.2 gh9⟩
  ·refine sub_cons (get_as rfl ?_) ?_; rotate_left; exact sub_nil
   all_goals (first | rfl | simp)
  ·repeat (first | exact subx_refl | exact subx_del | refine subx_put rfl ?_)
  ·rfl
 have gh8 := h8
 simp only [nrm] at h8
 refine aw_exit ?_
 refine aw_sr ?_
 refine al_gs ?_
 refine al_nil ?_
 refine fz1 (t := 4) ?_
 refine aw_ret ?_
 refine ⟨_, res_1 rfl rfl, ?_, rfl⟩
 rw [he4, hsn, alls_yes hl6 (fun k hk => hinv.2 k (by omega))]; rfl
theorem r_types (a : Ty) : ∀ b, szT a = true → szT b = true → ACp Tryz.prog 74 [.agg (cellsT a), .agg (cellsT b)] (.v (.bool (sameT a b))) := by
  induction a using Ty.ind with
  | h a ih =>
    intro b ha hb
    obtain ⟨a0, a1, a2, a3⟩ := szT_facts ha
    obtain ⟨b0, b1, b2, b3⟩ := szT_facts hb
    exact r_typesS a b ha hb (fun x hx y hy => ih x hx y (a3 x hx) (b3 y hy))
theorem r_allE (a b : List Ex) (ha : a.length ≤ 140737488355328) (ih : ∀ x ∈ a, ∀ y ∈ b, ACp Tryz.prog 36 [.agg (cellsE x), .agg (cellsE y)] (.v (.bool (sameE x y)))) : ACp Tryz.prog 75 [.list 16 ((a).map encE), .list 16 ((b).map encE)] (.v (.bool (allSame sameE a b))) := by
 refine acp_of rfl ?_
 refine ace 27 Tryz.func75 ?_
 refine aw_sr ?_
 refine al_gs ?_
 refine al_nil ?_
 refine aw_seq ?_
 refine aw_sr ?_
 refine al_mv ?_
 refine al_lm Tryz.underlying31 ?_
 refine al_mv ?_
 refine al_lm Tryz.underlying31 ?_
 refine al_op (op_neq rfl rfl) rfl (by simp) ?_
 refine al_nil ?_
 refine aw_cond rfl (fun h1 => ?_) (fun h1 => ?_)
 ·have gh1 := h1
  simp only [nrm] at h1
  refine aw_sr ?_
  refine al_gs ?_
  refine al_nil ?_
  refine fz1 (t := 4) ?_
  refine aw_ret ?_
  refine ⟨_, res_1 rfl rfl, ?_, rfl⟩
  rw [alls_len gh1]
 have gh1 := h1
 simp only [nrm] at h1
 refine aw_skip ?_
 refine aw_seq ?_
 refine aw_sr ?_
 refine al_mv ?_
 refine al_lm Tryz.underlying31 ?_
 refine al_mv ?_
 refine al_nil ?_
 refine aw_block ?_
 refine aw_forT (ι := Nat) [4, 13] [] (fun i => a.length - i) (fun i => i ≤ a.length ∧ ∀ k, k < i → (!(sameE (a.getD k default) (b.getD k default))) = false) (fun i => ([(13, .v (.int .i64 ((i : Nat) : Int)))] : Env)) (fun i s => s) (0) ?_ ?_ ?_ (fun i hinv => ?_)
 ·exact ⟨Nat.zero_le _, fun k hk => absurd hk (Nat.not_lt_zero k)⟩
 ·refine sub_cons (get_as rfl ?_) ?_; rotate_left; exact sub_nil
  all_goals (first | rfl | simp)
 ·rfl
 have hi := hinv.1
 have hll : a.length = b.length := by have := bne_eq_false_iff_eq.1 gh1; omega
 refine aw_sr ?_
 refine al_ls ?_
 refine al_nil ?_
 refine aw_seq ?_
 refine aw_cond rfl (fun h2 => ?_) (fun h2 => ?_)
 ·have gh2 := h2
  simp only [nrm] at h2
  refine aw_skip ?_
  refine aw_seq ?_
  refine aw_block ?_
  refine aw_sr ?_
  refine al_mv ?_
  refine al_gs ?_
  refine al_nil ?_
  refine aw_seq ?_
  refine aw_any (Checked.mixed Tryz.checked) ?_
  apply aany_seg (p := 0) (q := 10) (by kernel_rfl) rfl (by decide)
  ·
   apply ql_plain rfl (op_move rfl)
   apply ql_plain rfl (op_move rfl)
   apply ql_plain rfl (val_as (.rptr (cellsE (a.getD i default))) (op_index_map default Tryz.underlying31 info37 rfl rfl rfl (by first | (with_reducible exact Int.toNat_natCast _) | rfl) (by omega) (by omega)) (by exact congrArg AVal.rptr (encE_cells _)))
   apply ql_plain rfl (op_load_rptr Tryz.underlying37 info37 rfl rfl)
   apply ql_plain rfl (op_move rfl)
   apply ql_plain rfl (op_move rfl)
   apply ql_plain rfl (val_as (.rptr (cellsE (b.getD i default))) (op_index_map default Tryz.underlying31 info37 rfl rfl rfl (by first | (with_reducible exact Int.toNat_natCast _) | rfl) (by omega) (by omega)) (by exact congrArg AVal.rptr (encE_cells _)))
   apply ql_plain rfl (op_load_rptr Tryz.underlying37 info37 rfl rfl)
   apply ql_call into36 rfl rfl rfl (ih (a.getD i default) (getD_mem (by omega)) (b.getD i default) (getD_mem (by omega)) _)
   apply ql_plain rfl (op_not rfl)
   exact ql_nil
  ·simp
  refine aany_end rfl (by kernel_rfl) ?_
  refine aw_cond rfl (fun h3 => ?_) (fun h3 => ?_)
  ·have gh3 := h3
   simp only [nrm] at h3
   refine aw_sr ?_
   refine al_gs ?_
   refine al_nil ?_
   refine fz1 (t := 4) ?_
   refine aw_ret ?_
   refine ⟨_, res_1 rfl rfl, ?_, rfl⟩
   rw [alls_no i (by omega) (by omega) gh3]
  have gh3 := h3
  simp only [nrm] at h3
  refine aw_skip ?_
  refine aw_region ?_
  refine al_ad ?_
  refine al_mv ?_
  refine al_nil ?_
  refine ⟨i + 1, ?_, ?_, ?_, ?_, ?_⟩
  ·omega
  ·exact ⟨by omega, idx_more (p := (fun k => (!(sameE (a.getD k default) (b.getD k default))))) hinv.2 gh3⟩
  ·refine sub_cons (get_as rfl ?_) ?_; rotate_left; exact sub_nil
   all_goals (first | rfl | simp)
  ·repeat (first | exact subx_refl | exact subx_del | refine subx_put rfl ?_)
  ·rfl
 have gh2 := h2
 simp only [nrm] at h2
 refine aw_exit ?_
 refine aw_sr ?_
 refine al_gs ?_
 refine al_nil ?_
 refine fz1 (t := 4) ?_
 refine aw_ret ?_
 refine ⟨_, res_1 rfl rfl, ?_, rfl⟩
 rw [alls_yes gh1 (fun k hk => hinv.2 k (by omega))]
theorem r_sameES (a b : Ex) (ha : szX a = true) (hb : szX b = true) (ih : ∀ x ∈ a.kids, ∀ y ∈ b.kids, ACp Tryz.prog 36 [.agg (cellsE x), .agg (cellsE y)] (.v (.bool (sameE x y)))) : ACp Tryz.prog 36 [.agg (cellsE a), .agg (cellsE b)] (.v (.bool (sameE a b))) := by
 refine acp_of rfl ?_
 obtain ⟨a1, a2, a3, a6, a7, a8⟩ := szX_facts ha
 obtain ⟨b1, b2, b3, b6, b7, b8⟩ := szX_facts hb
 refine ace 52 Tryz.func36 ?_
 refine aw_sr ?_
 refine al_bx 2 fun ver2 => ?_
 refine al_bx 3 fun ver3 => ?_
 refine al_gs ?_
 refine al_sr ?_
 refine al_fp Tryz.underlying37 info25 ?_
 refine al_ld Tryz.underlying25 info25 ?_
 refine al_fp Tryz.underlying37 info25 ?_
 refine al_ld Tryz.underlying25 info25 ?_
 refine al_eq ?_
 refine al_mv ?_
 apply al_and 6 10 16 rfl
 ·intro h1; have gh1 := h1
  simp only [nrm] at h1
  refine tk_fp Tryz.underlying37 info9 ?_
  refine tk_ld Tryz.underlying9 info9 ?_
  refine tk_fp Tryz.underlying37 info9 ?_
  refine tk_ld Tryz.underlying9 info9 ?_
  refine al_take (op_seql_str rfl rfl) rfl rfl rfl rfl (by simp) ?_
  refine al_pk ?_
  exact al_nk gh1
 ·intro h1; have gh1 := h1
  simp only [nrm] at h1
  refine al_ps ?_
  refine al_ps ?_
  refine al_ps ?_
  refine al_ps ?_
  refine al_ps ?_
  refine al_pk ?_
  exact al_nk gh1
 refine al_mv ?_
 apply al_and 6 17 23 rfl
 ·intro h2; have gh2 := h2
  simp only [nrm] at h2
  refine tk_fp Tryz.underlying37 info3 ?_
  refine tk_ld Tryz.underlying3 info3 ?_
  refine tk_fp Tryz.underlying37 info3 ?_
  refine tk_ld Tryz.underlying3 info3 ?_
  refine tk_eq ?_
  refine al_pk ?_
  exact al_nk gh2
 ·intro h2; have gh2 := h2
  refine al_ps ?_
  refine al_ps ?_
  refine al_ps ?_
  refine al_ps ?_
  refine al_ps ?_
  refine al_pk ?_
  exact al_nk gh2
 refine al_mv ?_
 apply al_and 6 24 30 rfl
 ·intro h3; have gh3 := h3
  simp only [nrm] at h3
  refine tk_fp Tryz.underlying37 info26 ?_
  refine tk_ld Tryz.underlying26 info26 ?_
  refine tk_fp Tryz.underlying37 info26 ?_
  refine tk_ld Tryz.underlying26 info26 ?_
  refine al_callp_take into72 rfl rfl rfl rfl rfl rfl (r_sameB a.bits b.bits a2 _) (by simp) ?_
  refine al_pk ?_
  exact al_nk gh3
 ·intro h3; have gh3 := h3
  refine al_ps ?_
  refine al_ps ?_
  refine al_ps ?_
  refine al_ps ?_
  refine al_ps ?_
  refine al_pk ?_
  exact al_nk gh3
 refine al_mv ?_
 apply al_and 6 31 37 rfl
 ·intro h4; have gh4 := h4
  simp only [nrm] at h4
  refine tk_fp Tryz.underlying37 info30 ?_
  refine tk_ld Tryz.underlying30 info30 ?_
  refine tk_fp Tryz.underlying37 info30 ?_
  refine tk_ld Tryz.underlying30 info30 ?_
  refine al_callp_take into73 rfl rfl rfl rfl rfl rfl (r_alikeV a.val b.val a6 b6 _) (by simp) ?_
  refine al_pk ?_
  exact al_nk gh4
 ·intro h4; have gh4 := h4
  refine al_ps ?_
  refine al_ps ?_
  refine al_ps ?_
  refine al_ps ?_
  refine al_ps ?_
  refine al_pk ?_
  exact al_nk gh4
 refine al_mv ?_
 apply al_and 6 38 44 rfl
 ·intro h5; have gh5 := h5
  simp only [nrm] at h5
  refine tk_fp Tryz.underlying37 info35 ?_
  refine tk_ld Tryz.underlying35 info35 ?_
  refine tk_fp Tryz.underlying37 info35 ?_
  refine tk_ld Tryz.underlying35 info35 ?_
  refine al_callp_take into74 rfl rfl rfl rfl rfl rfl (r_types a.type b.type a7 b7 _) (by simp) ?_
  refine al_pk ?_
  exact al_nk gh5
 ·intro h5; have gh5 := h5
  refine al_ps ?_
  refine al_ps ?_
  refine al_ps ?_
  refine al_ps ?_
  refine al_ps ?_
  refine al_pk ?_
  exact al_nk gh5
 refine al_mv ?_
 apply al_and 6 45 51 rfl
 ·intro h6; have gh6 := h6
  simp only [nrm] at h6
  refine tk_fp Tryz.underlying37 info31 ?_
  refine tk_ld Tryz.underlying31 info31 ?_
  refine tk_fp Tryz.underlying37 info31 ?_
  refine tk_ld Tryz.underlying31 info31 ?_
  refine al_callp_take into75 rfl rfl rfl rfl rfl rfl (r_allE a.kids b.kids a3 ih _) (by simp) ?_
  refine al_pk ?_
  exact al_nk gh6
 ·intro h6; have gh6 := h6
  refine al_ps ?_
  refine al_ps ?_
  refine al_ps ?_
  refine al_ps ?_
  refine al_ps ?_
  refine al_pk ?_
  exact al_nk gh6
 refine al_gs ?_
 refine al_nil ?_
 refine fz1 (t := 4) ?_
 refine aw_ret ?_
 refine ⟨_, res_1 rfl rfl, ?_, rfl⟩
 rw [sameE_and]
theorem r_sameE (a : Ex) : ∀ b, szX a = true → szX b = true → ACp Tryz.prog 36 [.agg (cellsE a), .agg (cellsE b)] (.v (.bool (sameE a b))) := by
  induction a using Ex.ind with
  | h a ih =>
    intro b ha hb
    obtain ⟨a1, a2, a3, a6, a7, a8⟩ := szX_facts ha
    obtain ⟨b1, b2, b3, b6, b7, b8⟩ := szX_facts hb
    exact r_sameES a b ha hb (fun x hx y hy => ih x hx y (a8 x hx) (b8 y hy))
end Go.Proofs.YtcgdlhkiecommaaGreatDoor
/- Printed walks (gen.py, lexer_ann.py): part 425. -/




namespace Go.Proofs.YtcgdlhkiecommaaGreatDoor
open Go
end Go.Proofs.YtcgdlhkiecommaaGreatDoor
/- Printed walks (gen.py, lexer_ann.py): part 426. -/



namespace Go.Proofs.YtcgdlhkiecommaaGreatDoor
open Go
end Go.Proofs.YtcgdlhkiecommaaGreatDoor
/- Printed walks (gen.py, lexer_ann.py): part 427. -/



namespace Go.Proofs.YtcgdlhkiecommaaGreatDoor
open Go
end Go.Proofs.YtcgdlhkiecommaaGreatDoor
/- Printed walks (gen.py, lexer_ann.py): part 430. -/




namespace Go.Proofs.YtcgdlhkiecommaaGreatDoor
open Go
end Go.Proofs.YtcgdlhkiecommaaGreatDoor
/- Printed walks (gen.py, lexer_ann.py): part 431. -/



namespace Go.Proofs.YtcgdlhkiecommaaGreatDoor
open Go
end Go.Proofs.YtcgdlhkiecommaaGreatDoor
/- Printed walks (gen.py, lexer_ann.py): part 432. -/



namespace Go.Proofs.YtcgdlhkiecommaaGreatDoor
open Go
end Go.Proofs.YtcgdlhkiecommaaGreatDoor
/- Printed walks (gen.py, lexer_ann.py): part 433. -/



namespace Go.Proofs.YtcgdlhkiecommaaGreatDoor
open Go
end Go.Proofs.YtcgdlhkiecommaaGreatDoor
/- Printed walks (gen.py, lexer_ann.py): part 434. -/



namespace Go.Proofs.YtcgdlhkiecommaaGreatDoor
open Go
end Go.Proofs.YtcgdlhkiecommaaGreatDoor
/- Printed walks (gen.py, lexer_ann.py): part 435. -/




namespace Go.Proofs.YtcgdlhkiecommaaGreatDoor
open Go
end Go.Proofs.YtcgdlhkiecommaaGreatDoor
/- Printed walks (gen.py, lexer_ann.py): part 436. -/



namespace Go.Proofs.YtcgdlhkiecommaaGreatDoor
open Go
end Go.Proofs.YtcgdlhkiecommaaGreatDoor
/- Printed walks (gen.py, lexer_ann.py): part 437. -/




namespace Go.Proofs.YtcgdlhkiecommaaGreatDoor
open Go
end Go.Proofs.YtcgdlhkiecommaaGreatDoor
/- Printed walks (gen.py, lexer_ann.py): part 438. -/




namespace Go.Proofs.YtcgdlhkiecommaaGreatDoor
open Go
end Go.Proofs.YtcgdlhkiecommaaGreatDoor
/- Printed walks (gen.py, lexer_ann.py): part 439. -/





namespace Go.Proofs.YtcgdlhkiecommaaGreatDoor
open Go
end Go.Proofs.YtcgdlhkiecommaaGreatDoor
/- Printed walks (gen.py, lexer_ann.py): part 440. -/



namespace Go.Proofs.YtcgdlhkiecommaaGreatDoor
open Go
end Go.Proofs.YtcgdlhkiecommaaGreatDoor
/- Printed walks (gen.py, lexer_ann.py): part 443. -/




namespace Go.Proofs.YtcgdlhkiecommaaGreatDoor
open Go
theorem l_long5 (l : List Tk) (hn : l.length ≤ 140737488355328) : ACp Tryz.prog 11 [.list 5 (l.map encK)] (.v (.bool (long5 l))) := by
 refine acp_of rfl ?_
 refine ace 24 Tryz.func11 ?_
 refine aw_sr ?_
 refine al_gs ?_
 refine al_nil ?_
 refine aw_seq ?_
 refine aw_sr ?_
 refine al_mv ?_
 refine al_lm Tryz.underlying22 ?_
 refine al_op (op_gtr rfl rfl) rfl (by simp) ?_
 refine al_nil ?_
 refine aw_cond rfl (fun h1 => ?_) (fun h1 => ?_)
 ·have gh1 := h1
  simp only [nrm] at h1
  refine aw_sr ?_
  refine al_gs ?_
  refine al_nil ?_
  refine fz1 (t := 2) ?_
  refine aw_ret ?_
  refine ⟨_, res_1 rfl rfl, ?_, rfl⟩
  rw [long5, gh1]; rfl
 have gh1 := h1
 simp only [nrm] at h1
 refine aw_skip ?_
 refine aw_sr ?_
 refine al_gs ?_
 refine al_nil ?_
 refine aw_seq ?_
 refine aw_sr ?_
 refine al_mv ?_
 refine al_lm Tryz.underlying22 ?_
 refine al_mv ?_
 refine al_nil ?_
 refine aw_block ?_
 refine aw_forT (ι := Nat) [3, 11] [5] (fun i => l.length - i) (fun i => i ≤ l.length) (fun i => ([(3, .v (.int .i64 ((sumT [] l i : Nat) : Int))), (11, .v (.int .i64 ((i : Nat) : Int)))] : Env)) (fun i s => s) (0) ?_ ?_ ?_ (fun i hinv => ?_)
 ·exact Nat.zero_le _
 ·refine sub_cons (get_as rfl ?_) ?_; rotate_left; refine sub_cons (get_as rfl ?_) ?_; rotate_left; exact sub_nil
  all_goals (first | rfl | simp)
 ·rfl
 have hi := hinv
 have hsl := sumT_le [] l i
 simp only [List.length_nil] at hsl
 refine aw_sr ?_
 refine al_ls ?_
 refine al_nil ?_
 refine aw_seq ?_
 refine aw_cond rfl (fun h2 => ?_) (fun h2 => ?_)
 ·have gh2 := h2
  simp only [nrm] at h2
  refine aw_skip ?_
  refine aw_seq ?_
  refine aw_block ?_
  refine aw_sr ?_
  refine al_op (op_index_map default Tryz.underlying22 info65 rfl rfl rfl (by first | (with_reducible exact Int.toNat_natCast _) | rfl) (by omega) (by omega)) rfl (by simp) ?_
  refine al_lr Tryz.underlying65 info65 ?_
  refine al_al 5 info65 fun ver5 => ?_
  refine al_sp info65 ?_
  refine al_nil ?_
  refine aw_region ?_
  refine al_mv ?_
  refine al_fp Tryz.underlying65 info9 ?_
  refine al_ld Tryz.underlying9 info9 ?_
  refine al_op (op_slen_str (ts := #[]) Tryz.underlying9 rfl) rfl (by simp) ?_
  refine al_op (op_min rfl rfl) rfl (by simp) ?_
  refine al_ad ?_
  refine al_gs ?_
  refine al_nil ?_
  refine aw_region ?_
  refine al_ad ?_
  refine al_mv ?_
  refine al_nil ?_
  refine ⟨i + 1, ?_, ?_, ?_, ?_, ?_⟩
  ·omega
  ·omega
  ·refine sub_cons (get_as rfl ?_) ?_; rotate_left; refine sub_cons (get_as rfl ?_) ?_; rotate_left; exact sub_nil
   all_goals (first | rfl | (rw [sum_succ]) | simp)
  ·repeat (first | exact subx_refl | exact subx_del | refine subx_put rfl ?_)
  ·rfl
 have gh2 := h2
 simp only [nrm] at h2
 refine aw_exit ?_
 have hie : i = l.length := by omega
 refine aw_sr ?_
 refine al_mv ?_
 refine al_op (op_gtr rfl rfl) rfl (by simp) ?_
 refine al_gs ?_
 refine al_nil ?_
 refine fz1 (t := 2) ?_
 refine aw_ret ?_
 refine ⟨_, res_1 rfl rfl, ?_, rfl⟩
 rw [long5, gh1, hie]; rfl
theorem r_placES (a b : Ex) (ha : szX a = true) (hb : szX b = true) (ih : ∀ x ∈ a.kids, ∀ y ∈ b.kids, ACp Tryz.prog 15 [.agg (cellsE x), .agg (cellsE y)] (.v (.bool (placE x y)))) : ACp Tryz.prog 15 [.agg (cellsE a), .agg (cellsE b)] (.v (.bool (placE a b))) := by
 refine acp_of rfl ?_
 obtain ⟨a1, a2, a3, a6, a7, a8⟩ := szX_facts ha
 obtain ⟨b1, b2, b3, b6, b7, b8⟩ := szX_facts hb
 refine ace 43 Tryz.func15 ?_
 refine aw_sr ?_
 refine al_bx 2 fun ver2 => ?_
 refine al_bx 3 fun ver3 => ?_
 refine al_gs ?_
 refine al_nil ?_
 refine aw_seq ?_
 refine aw_sr ?_
 refine al_ld Tryz.underlying37 info37 ?_
 refine al_ld Tryz.underlying37 info37 ?_
 refine al_callp into36 rfl rfl rfl (r_sameE a b ha hb _) (by simp) ?_
 refine al_op (op_not rfl) rfl (by simp) ?_
 refine al_mv ?_
 apply al_or 6 10 16 rfl
 ·intro h1; have gh1 := h1
  simp only [nrm] at h1
  refine tk_fp Tryz.underlying37 info3 ?_
  refine tk_ld Tryz.underlying3 info3 ?_
  refine tk_fp Tryz.underlying37 info3 ?_
  refine tk_ld Tryz.underlying3 info3 ?_
  refine al_take (op_neq rfl rfl) rfl rfl rfl rfl (by simp) ?_
  refine al_pk ?_
  exact al_nk gh1
 ·intro h1; have gh1 := h1
  simp only [nrm] at h1
  refine al_ps ?_
  refine al_ps ?_
  refine al_ps ?_
  refine al_ps ?_
  refine al_ps ?_
  refine al_pk ?_
  exact al_nk gh1
 refine al_mv ?_
 apply al_or 6 17 23 rfl
 ·intro h2; have gh2 := h2
  simp only [nrm] at h2
  refine tk_fp Tryz.underlying37 info3 ?_
  refine tk_ld Tryz.underlying3 info3 ?_
  refine tk_fp Tryz.underlying37 info3 ?_
  refine tk_ld Tryz.underlying3 info3 ?_
  refine al_take (op_neq rfl rfl) rfl rfl rfl rfl (by simp) ?_
  refine al_pk ?_
  exact al_nk gh2
 ·intro h2; have gh2 := h2
  simp only [nrm] at h2
  refine al_ps ?_
  refine al_ps ?_
  refine al_ps ?_
  refine al_ps ?_
  refine al_ps ?_
  refine al_pk ?_
  exact al_nk gh2
 refine al_nil ?_
 refine aw_cond rfl (fun h3 => ?_) (fun h3 => ?_)
 ·have gh3 := h3
  simp only [nrm] at h3
  have gq := gh3
  refine aw_sr ?_
  refine al_gs ?_
  refine al_nil ?_
  refine fz1 (t := 4) ?_
  refine aw_ret ?_
  refine ⟨_, res_1 rfl rfl, ?_, rfl⟩
  rw [placE_no gq]
 have gh3 := h3
 simp only [nrm] at h3
 have gq := gh3
 obtain ⟨hlp, hep⟩ := placE_yes gq
 have hll : a.kids.length = b.kids.length := by have := bne_eq_false_iff_eq.1 hlp; omega
 refine aw_skip ?_
 refine aw_seq ?_
 refine aw_sr ?_
 refine al_fp Tryz.underlying37 info31 ?_
 refine al_ld Tryz.underlying31 info31 ?_
 refine al_lm Tryz.underlying31 ?_
 refine al_mv ?_
 refine al_nil ?_
 refine aw_block ?_
 refine aw_forT (ι := Nat) [4, 27] [] (fun i => a.kids.length - i) (fun i => i ≤ a.kids.length ∧ ∀ k, k < i → (!(placE (a.kids.getD k default) (b.kids.getD k default))) = false) (fun i => ([(27, .v (.int .i64 ((i : Nat) : Int)))] : Env)) (fun i s => s) (0) ?_ ?_ ?_ (fun i hinv => ?_)
 ·exact ⟨Nat.zero_le _, fun k hk => absurd hk (Nat.not_lt_zero k)⟩
 ·refine sub_cons (get_as rfl ?_) ?_; rotate_left; exact sub_nil
  all_goals (first | rfl | simp)
 ·rfl
 have hi := hinv.1

 refine aw_sr ?_
 refine al_ls ?_
 refine al_nil ?_
 refine aw_seq ?_
 refine aw_cond rfl (fun h4 => ?_) (fun h4 => ?_)
 ·have gh4 := h4
  simp only [nrm] at h4
  refine aw_skip ?_
  refine aw_seq ?_
  refine aw_block ?_
  refine aw_sr ?_
  refine al_mv ?_
  refine al_gs ?_
  refine al_nil ?_
  refine aw_seq ?_
  refine aw_any (Checked.mixed Tryz.checked) ?_
  apply aany_seg (p := 0) (q := 12) (by kernel_rfl) rfl (by decide)
  ·
   apply ql_plain rfl (op_field_ptr Tryz.underlying37 rfl info31 (by decide) rfl rfl rfl)
   apply ql_plain rfl (op_load_ptr Tryz.underlying31 info31 rfl rfl rfl rfl)
   apply ql_plain rfl (op_move rfl)
   apply ql_plain rfl (val_as (.rptr (cellsE (a.kids.getD i default))) (op_index_map default Tryz.underlying31 info37 rfl rfl rfl (by first | (with_reducible exact Int.toNat_natCast _) | rfl) (by omega) (by omega)) (by exact congrArg AVal.rptr (encE_cells _)))
   apply ql_plain rfl (op_load_rptr Tryz.underlying37 info37 rfl rfl)
   apply ql_plain rfl (op_field_ptr Tryz.underlying37 rfl info31 (by decide) rfl rfl rfl)
   apply ql_plain rfl (op_load_ptr Tryz.underlying31 info31 rfl rfl rfl rfl)
   apply ql_plain rfl (op_move rfl)
   apply ql_plain rfl (val_as (.rptr (cellsE (b.kids.getD i default))) (op_index_map default Tryz.underlying31 info37 rfl rfl rfl (by first | (with_reducible exact Int.toNat_natCast _) | rfl) (by omega) (by omega)) (by exact congrArg AVal.rptr (encE_cells _)))
   apply ql_plain rfl (op_load_rptr Tryz.underlying37 info37 rfl rfl)
   apply ql_call into15 rfl rfl rfl (ih (a.kids.getD i default) (getD_mem (by omega)) (b.kids.getD i default) (getD_mem (by omega)) _)
   apply ql_plain rfl (op_not rfl)
   exact ql_nil
  ·simp
  refine aany_end rfl (by kernel_rfl) ?_
  refine aw_cond rfl (fun h5 => ?_) (fun h5 => ?_)
  ·have gh5 := h5
   simp only [nrm] at h5
   have gk := gh5
   refine aw_sr ?_
   refine al_gs ?_
   refine al_nil ?_
   refine fz1 (t := 4) ?_
   refine aw_ret ?_
   refine ⟨_, res_1 rfl rfl, ?_, rfl⟩
   rw [hep, alls_no i (by omega) (by omega) gk]
  have gh5 := h5
  simp only [nrm] at h5
  have gk := gh5
  refine aw_skip ?_
  refine aw_region ?_
  refine al_ad ?_
  refine al_mv ?_
  refine al_nil ?_
  refine ⟨i + 1, ?_, ?_, ?_, ?_, ?_⟩
  ·omega
  ·exact ⟨by omega, idx_more (p := (fun k => (!(placE (a.kids.getD k default) (b.kids.getD k default))))) hinv.2 gk⟩
  ·refine sub_cons (get_as rfl ?_) ?_; rotate_left; exact sub_nil
   all_goals (first | rfl | simp)
  ·repeat (first | exact subx_refl | exact subx_del | refine subx_put rfl ?_)
  ·rfl
 have gh4 := h4
 simp only [nrm] at h4
 refine aw_exit ?_
 refine aw_sr ?_
 refine al_gs ?_
 refine al_nil ?_
 refine fz1 (t := 4) ?_
 refine aw_ret ?_
 refine ⟨_, res_1 rfl rfl, ?_, rfl⟩
 rw [hep, alls_yes hlp (fun k hk => hinv.2 k (by omega))]
theorem r_placE (a : Ex) : ∀ b, szX a = true → szX b = true → ACp Tryz.prog 15 [.agg (cellsE a), .agg (cellsE b)] (.v (.bool (placE a b))) := by
  induction a using Ex.ind with
  | h a ih =>
    intro b ha hb
    obtain ⟨a1, a2, a3, a6, a7, a8⟩ := szX_facts ha
    obtain ⟨b1, b2, b3, b6, b7, b8⟩ := szX_facts hb
    exact r_placES a b ha hb (fun x hx y hy => ih x hx y (a8 x hx) (b8 y hy))
end Go.Proofs.YtcgdlhkiecommaaGreatDoor
/- Printed walks (gen.py, lexer_ann.py): part 444. -/



namespace Go.Proofs.YtcgdlhkiecommaaGreatDoor
open Go
theorem l_ExprShort (l : List Tk) (p : Int) (hin : TksIn l) : ACp Tryz.prog 8 [.list 5 (l.map encK), .v (.int .i64 (p))] (.v (.bool (true))) := by
 refine acp_of rfl ?_
 have hBT : BT Tryz.prog := bt_all (fun l hl => e_isBits l hl)
 have hl : OKTs l := oks_in hin
 have hn47 : l.length ≤ 140737488355328 := by have := hin.2; omega
 refine ace 114 Tryz.func8 ?_
 refine aw_sr ?_
 refine al_gs ?_
 refine al_nil ?_
 refine aw_seq ?_
 refine aw_sr ?_
 refine al_mv ?_
 refine al_callp into11 rfl rfl rfl (l_long5 l hn47 _) (by simp) ?_
 refine al_mv ?_
 apply al_or 3 17 20 rfl
 ·intro h1; have gh1 := h1
  refine tk_mv ?_
  refine al_take (op_lss rfl rfl) rfl rfl rfl rfl (by simp) ?_
  refine al_pk ?_
  exact al_nk gh1
 ·intro h1; have gh1 := h1
  refine al_ps ?_
  refine al_ps ?_
  refine al_pk ?_
  exact al_nk gh1
 refine al_mv ?_
 apply al_or 5 21 26 rfl
 ·intro h2; have gh2 := h2
  simp only [nrm] at h2
  refine tk_mv ?_
  refine tk_mv ?_
  refine al_take (op_len_map Tryz.underlying22 rfl) rfl rfl rfl rfl (by simp) ?_
  refine al_take (op_gtr rfl rfl) rfl rfl rfl rfl (by simp) ?_
  refine al_pk ?_
  exact al_nk gh2
 ·intro h2; have gh2 := h2
  simp only [nrm] at h2
  refine al_ps ?_
  refine al_ps ?_
  refine al_ps ?_
  refine al_ps ?_
  refine al_pk ?_
  exact al_nk gh2
 refine al_nil ?_
 refine aw_cond rfl (fun h3 => ?_) (fun h3 => ?_)
 ·have gh3 := h3
  simp only [nrm] at h3
  have gq := gh3
  refine aw_sr ?_
  refine al_callp into12 rfl rfl rfl (l_awake _) (by simp) ?_
  refine al_gs ?_
  refine al_nil ?_
  refine fz1 (t := 4) ?_
  refine aw_ret ?_
  refine ⟨_, res_1 rfl rfl, ?_, rfl⟩
  rfl
 have gh3 := h3
 simp only [nrm] at h3
 have gq := gh3
 have hq : long5 l = false ∧ 0 ≤ p ∧ p ≤ (l.length : Int) := long_guard gq
 obtain ⟨hq1, hq2, hq3⟩ := hq
 obtain ⟨hl4, hl5⟩ := long5_facts hq1
 refine aw_skip ?_
 refine aw_sr ?_
 refine al_mv ?_
 refine al_mv ?_
 refine al_callp into13 rfl rfl rfl (c_Parse l hl (by omega) p _) (by simp) ?_
 refine al_mv ?_
 refine al_xt ?_
 refine al_xt ?_
 refine al_xt ?_
 refine al_al 5 info37 fun ver5 => ?_
 refine al_al 7 info40 fun ver7 => ?_
 refine al_sp info37 ?_
 refine al_gs ?_
 refine al_sp info40 ?_
 refine al_nil ?_
 refine aw_seq ?_
 refine aw_sr ?_
 refine al_fp Tryz.underlying40 info38 ?_
 refine al_ld Tryz.underlying38 info38 ?_
 refine al_op (op_neq rfl rfl) rfl (by simp) ?_
 refine al_nil ?_
 refine aw_cond rfl (fun h4 => ?_) (fun h4 => ?_)
 ·have gh4 := h4
  simp only [nrm] at h4
  have gc := gh4
  obtain ⟨hz1, hz2⟩ := readP_no (fun i g h => rowD_nz 40 4 i g h) gc
  refine aw_sr ?_
  refine al_mv ?_
  refine al_eq ?_
  refine al_mv ?_
  refine al_as 40 (.v (.bool true)) rfl (by simp [hz2]) ?_
  refine tk_fp Tryz.underlying37 info25 ?_
  refine tk_ld Tryz.underlying25 info25 ?_
  refine tk_eq ?_
  refine al_pk ?_
  refine al_mv ?_
  refine al_as 45 (.v (.bool true)) rfl (by rw [hz1]; rfl) ?_
  refine al_callp_take into12 rfl rfl rfl rfl rfl rfl (l_awake _) (by simp) ?_
  refine al_pk ?_
  refine al_gs ?_
  refine al_nil ?_
  refine fz1 (t := 4) ?_
  refine aw_ret ?_
  refine ⟨_, res_1 rfl rfl, ?_, rfl⟩
  rfl
 have gh4 := h4
 simp only [nrm] at h4
 have gc := gh4
 obtain ⟨htx, i, j, e, rfl, hil, hrd, hrp⟩ := readP_yes (fun i g h => rowD_nz 40 4 i g h) gc
 have sh := sh_of hBT htx hil (wtot5 (text_poss htx).2 hq1) hrd
 have h1 := sh.gt
 have h2 := sh.le
 obtain ⟨m, hm, hml⟩ := sh.lx
 refine aw_as 6 (.v (.int .i64 ((j : Nat) : Int))) rfl (by rw [hrp]) ?_
 refine aw_st (σ2 := [(5, ver5, .row 16 [cellsE e]), (7, ver7, .row 4 [encF okF])]) (by rw [hrp]; rfl) ?_
 refine aw_skip ?_
 refine aw_seq ?_
 refine aw_sr ?_
 refine al_mv ?_
 refine al_mv ?_
 refine al_op (op_leq rfl rfl) rfl (by simp) ?_
 refine al_mv ?_
 refine al_as 51 (.v (.bool false)) rfl (by simp; omega) ?_
 refine tk_mv ?_
 refine tk_mv ?_
 refine al_take (op_len_map Tryz.underlying22 rfl) rfl rfl rfl rfl (by simp) ?_
 refine al_take (op_gtr rfl rfl) rfl rfl rfl rfl (by simp) ?_
 refine al_pk ?_
 refine al_mv ?_
 refine al_as 57 (.v (.bool false)) rfl (by simp; omega) ?_
 refine tk_ld Tryz.underlying37 info37 ?_
 refine al_callp_take into25 rfl rfl rfl rfl rfl rfl (e_valid e sh.w _) (by simp) ?_
 refine al_take (op_not rfl) rfl rfl rfl rfl (by simp) ?_
 refine al_pk ?_
 refine al_nil ?_
 refine aw_cond rfl (fun h5 => ?_) (fun h5 => ?_)
 ·have gh5 := h5
  simp only [nrm] at h5
  rw [sh.v] at gh5; cases gh5
 have gh5 := h5
 simp only [nrm] at h5
 refine aw_skip ?_
 refine aw_sr ?_
 refine al_ld Tryz.underlying37 info37 ?_
 refine al_callp into23 rfl rfl rfl (e_textE e sh.w sh.tk _) (by simp) ?_
 refine al_as 64 (.tuple [.v (.string (str (joinT (toks e)))), .v (.int .i64 (0))]) rfl (by rw [sh.tx]) ?_
 refine al_mv ?_
 refine al_xt ?_
 refine al_xt ?_
 refine al_gs ?_
 refine al_gs ?_
 refine al_sr ?_
 refine al_mv ?_
 refine al_callp into37 rfl rfl rfl (r_Lex (joinT (toks e)) (by have := sh.jl; omega) _) (by simp) ?_
 refine al_as 69 (.tuple [.list 5 (m.map encK), .agg (encF okF)]) rfl (by rw [hm]) ?_
 refine al_mv ?_
 refine al_xt ?_
 refine al_xt ?_
 refine al_al 11 info40 fun ver11 => ?_
 refine al_gs ?_
 refine al_sp info40 ?_
 refine al_nil ?_
 refine aw_seq ?_
 refine aw_st (σ2 := [(5, ver5, .row 16 [cellsE e]), (7, ver7, .row 4 [encF okF]), (11, ver11, .row 4 [encF okF])]) rfl ?_
 refine aw_region ?_
 refine al_mv ?_
 refine al_mv ?_
 refine al_op (val_as (.list 5 ((l.take j).map encK)) (op_cut_map (f := encK) (l := 0) (h := j) Tryz.underlying22 info65 rfl rfl OptI.none (OptI.of rfl rfl) (by omega) (by omega)) (by simp; rfl)) rfl (by simp) ?_
 refine al_mv ?_
 refine al_callp into13 rfl rfl rfl (c_Parse (l.take j) (fun t ht => hl t (List.mem_of_mem_take ht)) (by rw [List.length_take]; omega) (i : Int) _) (by simp) ?_
 refine al_as 77 (.tuple [encX e, .v (.int .i64 ((j : Int))), .agg (encF okF)]) rfl (by exact congrArg (encP encX) sh.ag) ?_
 refine al_mv ?_
 refine al_xt ?_
 refine al_xt ?_
 refine al_xt ?_
 refine al_al 12 info37 fun ver12 => ?_
 refine al_al 14 info40 fun ver14 => ?_
 refine al_sp info37 ?_
 refine al_gs ?_
 refine al_sp info40 ?_
 refine al_nil ?_
 refine aw_seq ?_
 refine aw_st (σ2 := [(5, ver5, .row 16 [cellsE e]), (7, ver7, .row 4 [encF okF]), (11, ver11, .row 4 [encF okF]), (12, ver12, .row 16 [cellsE e]), (14, ver14, .row 4 [encF okF])]) rfl ?_
 refine aw_region ?_
 refine al_mv ?_
 refine al_eq ?_
 refine al_mv ?_
 refine al_as 83 (.v (.bool true)) rfl (by rfl) ?_
 refine tk_ld Tryz.underlying40 info40 ?_
 refine al_take (op_bs Tryz.underlying40 info40 place40) rfl rfl rfl rfl (by simp) ?_
 refine al_take (op_aeq (r := decide (okF = okF)) rfl rfl rfl rfl (by kernel_rfl) (fun w => flt_run okF okF w)) rfl rfl rfl rfl (by simp) ?_
 refine al_pk ?_
 refine al_mv ?_
 refine al_as 88 (.v (.bool true)) rfl (by simp) ?_
 refine tk_mv ?_
 refine al_take (op_len_map Tryz.underlying22 rfl) rfl rfl rfl rfl (by simp) ?_
 refine tk_mv ?_
 refine tk_mv ?_
 refine al_take (op_sub rfl rfl (by first | exact wrap_i64 (by omega) (by omega))) rfl rfl rfl rfl (by simp) ?_
 refine al_take (op_leq rfl rfl) rfl rfl rfl rfl (by simp) ?_
 refine al_pk ?_
 refine al_mv ?_
 refine al_as 96 (.v (.bool true)) rfl (by simp; omega) ?_
 refine tk_mv ?_
 refine tk_mv ?_
 refine tk_eq ?_
 refine al_pk ?_
 refine al_mv ?_
 refine al_as 101 (.v (.bool true)) rfl (by simp) ?_
 refine tk_ld Tryz.underlying40 info40 ?_
 refine al_take (op_bs Tryz.underlying40 info40 place40) rfl rfl rfl rfl (by simp) ?_
 refine al_take (op_aeq (r := decide (okF = okF)) rfl rfl rfl rfl (by kernel_rfl) (fun w => flt_run okF okF w)) rfl rfl rfl rfl (by simp) ?_
 refine al_pk ?_
 refine al_mv ?_
 refine al_as 106 (.v (.bool true)) rfl (by simp) ?_
 refine tk_ld Tryz.underlying37 info37 ?_
 refine tk_ld Tryz.underlying37 info37 ?_
 refine al_callp_take into15 rfl rfl rfl rfl rfl rfl (r_placE e e sh.x sh.x _) (by simp) ?_
 refine al_pk ?_
 refine al_mv ?_
 refine al_as 111 (.v (.bool true)) rfl (by rw [placE_self]) ?_
 refine al_callp_take into12 rfl rfl rfl rfl rfl rfl (l_awake _) (by simp) ?_
 refine al_pk ?_
 refine al_gs ?_
 refine al_nil ?_
 refine fz1 (t := 4) ?_
 refine aw_ret ?_
 refine ⟨_, res_1 rfl rfl, ?_, rfl⟩
 rfl
end Go.Proofs.YtcgdlhkiecommaaGreatDoor
