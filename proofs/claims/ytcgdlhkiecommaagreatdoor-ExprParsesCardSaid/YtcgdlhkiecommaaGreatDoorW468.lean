import Derived.Test.YtcgdlhkiecommaaGreatDoorW423
import Derived.Test.YtcgdlhkiecommaaGreatDoorXSame2
import Derived.Test.YtcgdlhkiecommaaGreatDoorFacts
import Derived.Test.YtcgdlhkiecommaaGreatDoorEngNest
import Derived.Test.YtcgdlhkiecommaaGreatDoorXRef3









/- Printed walks (gen.py, lexer_ann.py): part 424. -/




set_option linter.unusedVariables false
set_option linter.unusedSimpArgs false
set_option maxRecDepth 20000
set_option maxHeartbeats 40000000
namespace Go.Proofs.YtcgdlhkiecommaaGreatDoor
open Go
theorem r_sameB (a b : List Int) (ha : a.length ≤ 140737488355328) : ACp Tryz.prog 72 [.list 1 (a.map encB), .list 1 (b.map encB)] (.v (.bool (a == b))) := by
 refine acp_of rfl ?_
 refine ace 26 Tryz.func72 ?_
 refine aw_sr ?_
 refine al_gs ?_
 refine al_nil ?_
 refine aw_seq ?_
 refine aw_sr ?_
 refine al_mv ?_
 refine al_lm u26 ?_
 refine al_mv ?_
 refine al_lm u26 ?_
 refine al_o (op_neq rfl rfl) ?_
 refine al_nil ?_
 refine aw_cond rfl (fun h1 => ?_) (fun h1 => ?_)
 ·have gh1 := h1
  simp only [nrm] at h1
  refine aw_sr ?_
  refine al_gs ?_
  refine al_nil ?_
  refine fz1 (t := 4) ?_
  refine aw_ret ?_
  refine ⟨_, res_1 rfl rfl, ?_, rfl⟩
  rw [leq_len gh1]
 have gh1 := h1
 simp only [nrm] at h1
 refine aw_skip ?_
 refine aw_seq ?_
 refine aw_sr ?_
 refine al_mv ?_
 refine al_lm u26 ?_
 refine al_mv ?_
 refine al_nil ?_
 refine aw_block ?_
 refine aw_forT (ι := Nat) [4, 13] [] (fun i => a.length - i) (fun i => i ≤ a.length ∧ ∀ k, k < i → (a.getD k default != b.getD k default) = false) (fun i => ([(13, .v (.int .i64 ((i : Nat) : Int)))] : Env)) (fun i s => s) (0) ?_ ?_ ?_ (fun i hinv => ?_)
 ·exact ⟨Nat.zero_le _, fun k hk => absurd hk (Nat.not_lt_zero k)⟩
 ·refine sub_1 ?_
  all_goals (first | rfl | simp)
 ·rfl
 have hi := hinv.1
 have hll : a.length = b.length := by have := bne_eq_false_iff_eq.1 gh1; omega
 refine aw_sr ?_
 refine al_ls ?_
 refine al_nil ?_
 refine aw_seq ?_
 refine aw_cond rfl (fun h2 => ?_) (fun h2 => ?_)
 ·have gh2 := h2
  simp only [nrm] at h2
  refine aw_skip ?_
  refine aw_seq ?_
  refine aw_block ?_
  refine aw_sr ?_
  refine al_mv ?_
  refine al_gs ?_
  refine al_nil ?_
  refine aw_seq ?_
  refine aw_any (Checked.mixed Tryz.checked) ?_
  apply aany_seg (p := 0) (q := 9) (by kernel_rfl) rfl (by decide)
  ·
   apply ql_plain rfl (op_move rfl)
   apply ql_plain rfl (op_move rfl)
   apply ql_plain rfl (op_im u26 info97)
   apply ql_plain rfl (op_load_rptr u97 info97 rfl rfl)
   apply ql_plain rfl (op_move rfl)
   apply ql_plain rfl (op_move rfl)
   apply ql_plain rfl (op_im u26 info97)
   apply ql_plain rfl (op_load_rptr u97 info97 rfl rfl)
   apply ql_plain rfl (op_neq rfl rfl)
   exact ql_nil
  ·simp
  refine aany_end rfl (by kernel_rfl) ?_
  refine aw_cond rfl (fun h3 => ?_) (fun h3 => ?_)
  ·have gh3 := h3
   simp only [nrm] at h3
   refine aw_sr ?_
   refine al_gs ?_
   refine al_nil ?_
   refine fz1 (t := 4) ?_
   refine aw_ret ?_
   refine ⟨_, res_1 rfl rfl, ?_, rfl⟩
   rw [leq_no i (by omega) (by omega) gh3]
  have gh3 := h3
  simp only [nrm] at h3
  refine aw_skip ?_
  refine aw_region ?_
  refine al_ad ?_
  refine al_mv ?_
  refine al_nil ?_
  refine ⟨i + 1, ?_, ?_, ?_, ?_, ?_⟩
  ·omega
  ·exact ⟨by omega, idx_more (p := fun k => (a.getD k default != b.getD k default)) hinv.2 gh3⟩
  ·refine sub_1 ?_
   all_goals (first | rfl | simp)
  ·exact sbl
  ·rfl
 have gh2 := h2
 simp only [nrm] at h2
 refine aw_exit ?_
 refine aw_sr ?_
 refine al_gs ?_
 refine al_nil ?_
 refine fz1 (t := 4) ?_
 refine aw_ret ?_
 refine ⟨_, res_1 rfl rfl, ?_, rfl⟩
 rw [leq_yes gh1 (fun k hk => hinv.2 k (by omega))]
theorem r_alikeVS (a b : Va) (ha : szV a = true) (hb : szV b = true) (ih : ∀ x ∈ a.list, ∀ y ∈ b.list, ACp Tryz.prog 73 [.agg (cellsV x), .agg (cellsV y)] (.v (.bool (sameV x y)))) : ACp Tryz.prog 73 [.agg (cellsV a), .agg (cellsV b)] (.v (.bool (sameV a b))) := by
 refine acp_of rfl ?_
 obtain ⟨a1, a2, a3⟩ := szV_facts ha
 obtain ⟨b1, b2, b3⟩ := szV_facts hb
 refine ace 54 Tryz.func73 ?_
 refine aw_sr ?_
 refine al_bx 2 fun ver2 => ?_
 refine al_bx 3 fun ver3 => ?_
 refine al_gs ?_
 refine al_nil ?_
 refine aw_seq ?_
 refine aw_sr ?_
 refine al_fp u30 info27 ?_
 refine al_ld u27 info27 ?_
 refine al_fp u30 info27 ?_
 refine al_ld u27 info27 ?_
 refine al_o (op_neq rfl rfl) ?_
 refine al_mv ?_
 apply al_or 6 11 17 rfl
 ·intro h1; have gh1 := h1
  simp only [nrm] at h1
  refine tk_fp u30 info3 ?_
  refine tk_ld u3 info3 ?_
  refine tk_fp u30 info3 ?_
  refine tk_ld u3 info3 ?_
  refine al_t (op_neq rfl rfl) ?_
  refine al_pk ?_
  exact al_nk gh1
 ·intro h1; have gh1 := h1
  simp only [nrm] at h1
  iterate 5 refine al_ps ?_
  refine al_pk ?_
  exact al_nk gh1
 refine al_mv ?_
 apply al_or 7 18 25 rfl
 ·intro h2; have gh2 := h2
  simp only [nrm] at h2
  refine tk_fp u30 info26 ?_
  refine tk_ld u26 info26 ?_
  refine tk_fp u30 info26 ?_
  refine tk_ld u26 info26 ?_
  refine al_callp_take into72 rfl rfl rfl rfl rfl rfl (r_sameB a.bits b.bits a1 _) (by simp) ?_
  refine al_t (op_not rfl) ?_
  refine al_pk ?_
  exact al_nk gh2
 ·intro h2; have gh2 := h2
  simp only [nrm] at h2
  iterate 6 refine al_ps ?_
  refine al_pk ?_
  exact al_nk gh2
 refine al_mv ?_
 apply al_or 8 26 34 rfl
 ·intro h3; have gh3 := h3
  simp only [nrm] at h3
  refine tk_fp u30 info28 ?_
  refine tk_ld u28 info28 ?_
  refine al_t (op_len_map u28 rfl) ?_
  refine tk_fp u30 info28 ?_
  refine tk_ld u28 info28 ?_
  refine al_t (op_len_map u28 rfl) ?_
  refine al_t (op_neq rfl rfl) ?_
  refine al_pk ?_
  exact al_nk gh3
 ·intro h3; have gh3 := h3
  simp only [nrm] at h3
  iterate 7 refine al_ps ?_
  refine al_pk ?_
  exact al_nk gh3
 refine al_nil ?_
 refine aw_cond rfl (fun h4 => ?_) (fun h4 => ?_)
 ·have gh4 := h4
  simp only [nrm] at h4
  refine aw_sr ?_
  refine al_gs ?_
  refine al_nil ?_
  refine fz1 (t := 4) ?_
  refine aw_ret ?_
  refine ⟨_, res_1 rfl rfl, ?_, rfl⟩
  rw [sameV_no gh4]
 have gh4 := h4
 simp only [nrm] at h4
 obtain ⟨hl4, he4⟩ := sameV_yes gh4
 have hll : a.list.length = b.list.length := by have := bne_eq_false_iff_eq.1 hl4; omega
 refine aw_skip ?_
 refine aw_seq ?_
 refine aw_sr ?_
 refine al_fp u30 info28 ?_
 refine al_ld u28 info28 ?_
 refine al_lm u28 ?_
 refine al_mv ?_
 refine al_nil ?_
 refine aw_block ?_
 refine aw_forT (ι := Nat) [4, 38] [] (fun i => a.list.length - i) (fun i => i ≤ a.list.length ∧ ∀ k, k < i → (!(sameV (a.list.getD k default) (b.list.getD k default))) = false) (fun i => ([(38, .v (.int .i64 ((i : Nat) : Int)))] : Env)) (fun i s => s) (0) ?_ ?_ ?_ (fun i hinv => ?_)
 ·exact ⟨Nat.zero_le _, fun k hk => absurd hk (Nat.not_lt_zero k)⟩
 ·refine sub_1 ?_
  all_goals (first | rfl | simp)
 ·rfl
 have hi := hinv.1

 refine aw_sr ?_
 refine al_ls ?_
 refine al_nil ?_
 refine aw_seq ?_
 refine aw_cond rfl (fun h5 => ?_) (fun h5 => ?_)
 ·have gh5 := h5
  simp only [nrm] at h5
  refine aw_skip ?_
  refine aw_seq ?_
  refine aw_block ?_
  refine aw_sr ?_
  refine al_mv ?_
  refine al_gs ?_
  refine al_nil ?_
  refine aw_seq ?_
  refine aw_any (Checked.mixed Tryz.checked) ?_
  apply aany_seg (p := 0) (q := 12) (by kernel_rfl) rfl (by decide)
  ·
   apply ql_plain rfl (op_field_ptr u30 rfl info28 (by decide) rfl rfl rfl)
   apply ql_plain rfl (op_load_ptr u28 info28 rfl rfl rfl rfl)
   apply ql_plain rfl (op_move rfl)
   apply ql_plain rfl (val_as (.rptr (cellsV (a.list.getD i default))) (op_im u28 info30) (by exact congrArg AVal.rptr (encVa_cells _)))
   apply ql_plain rfl (op_load_rptr u30 info30 rfl rfl)
   apply ql_plain rfl (op_field_ptr u30 rfl info28 (by decide) rfl rfl rfl)
   apply ql_plain rfl (op_load_ptr u28 info28 rfl rfl rfl rfl)
   apply ql_plain rfl (op_move rfl)
   apply ql_plain rfl (val_as (.rptr (cellsV (b.list.getD i default))) (op_im u28 info30) (by exact congrArg AVal.rptr (encVa_cells _)))
   apply ql_plain rfl (op_load_rptr u30 info30 rfl rfl)
   apply ql_call into73 rfl rfl rfl (ih (a.list.getD i default) (getD_mem (by omega)) (b.list.getD i default) (getD_mem (by omega)) _)
   apply ql_plain rfl (op_not rfl)
   exact ql_nil
  ·simp
  refine aany_end rfl (by kernel_rfl) ?_
  refine aw_cond rfl (fun h6 => ?_) (fun h6 => ?_)
  ·have gh6 := h6
   simp only [nrm] at h6
   refine aw_sr ?_
   refine al_gs ?_
   refine al_nil ?_
   refine fz1 (t := 4) ?_
   refine aw_ret ?_
   refine ⟨_, res_1 rfl rfl, ?_, rfl⟩
   rw [he4, alls_no i (by omega) (by omega) gh6]
  have gh6 := h6
  simp only [nrm] at h6
  refine aw_skip ?_
  refine aw_region ?_
  refine al_ad ?_
  refine al_mv ?_
  refine al_nil ?_
  refine ⟨i + 1, ?_, ?_, ?_, ?_, ?_⟩
  ·omega
  ·exact ⟨by omega, idx_more (p := (fun k => (!(sameV (a.list.getD k default) (b.list.getD k default))))) hinv.2 gh6⟩
  ·refine sub_1 ?_
   all_goals (first | rfl | simp)
  ·exact sbl
  ·rfl
 have gh5 := h5
 simp only [nrm] at h5
 refine aw_exit ?_
 refine aw_sr ?_
 refine al_gs ?_
 refine al_nil ?_
 refine fz1 (t := 4) ?_
 refine aw_ret ?_
 refine ⟨_, res_1 rfl rfl, ?_, rfl⟩
 rw [he4, alls_yes hl4 (fun k hk => hinv.2 k (by omega))]
theorem r_alikeV (a : Va) : ∀ b, szV a = true → szV b = true → ACp Tryz.prog 73 [.agg (cellsV a), .agg (cellsV b)] (.v (.bool (sameV a b))) := by
  induction a using Va.ind with
  | h a ih =>
    intro b ha hb
    obtain ⟨a1, a2, a3⟩ := szV_facts ha
    obtain ⟨b1, b2, b3⟩ := szV_facts hb
    exact r_alikeVS a b ha hb (fun x hx y hy => ih x hx y (a3 x hx) (b3 y hy))
theorem r_typesS (a b : Ty) (ha : szT a = true) (hb : szT b = true) (ih : ∀ x ∈ a.elem, ∀ y ∈ b.elem, ACp Tryz.prog 74 [.agg (cellsT x), .agg (cellsT y)] (.v (.bool (sameT x y)))) : ACp Tryz.prog 74 [.agg (cellsT a), .agg (cellsT b)] (.v (.bool (sameT a b))) := by
 refine acp_of rfl ?_
 obtain ⟨a0, a1, a2, a3⟩ := szT_facts ha
 obtain ⟨b0, b1, b2, b3⟩ := szT_facts hb
 refine ace 81 Tryz.func74 ?_
 refine aw_sr ?_
 refine al_bx 2 fun ver2 => ?_
 refine al_bx 3 fun ver3 => ?_
 refine al_gs ?_
 refine al_nil ?_
 refine aw_seq ?_
 refine aw_sr ?_
 refine al_fp u35 info27 ?_
 refine al_ld u27 info27 ?_
 refine al_fp u35 info27 ?_
 refine al_ld u27 info27 ?_
 refine al_o (op_neq rfl rfl) ?_
 refine al_mv ?_
 apply al_or 6 12 18 rfl
 ·intro h1; have gh1 := h1
  simp only [nrm] at h1
  refine tk_fp u35 info3 ?_
  refine tk_ld u3 info3 ?_
  refine tk_fp u35 info3 ?_
  refine tk_ld u3 info3 ?_
  refine al_t (op_neq rfl rfl) ?_
  refine al_pk ?_
  exact al_nk gh1
 ·intro h1; have gh1 := h1
  simp only [nrm] at h1
  iterate 5 refine al_ps ?_
  refine al_pk ?_
  exact al_nk gh1
 refine al_mv ?_
 apply al_or 6 19 25 rfl
 ·intro h2; have gh2 := h2
  simp only [nrm] at h2
  refine tk_fp u35 info9 ?_
  refine tk_ld u9 info9 ?_
  refine tk_fp u35 info9 ?_
  refine tk_ld u9 info9 ?_
  refine al_t (op_sneq_str rfl rfl) ?_
  refine al_pk ?_
  exact al_nk gh2
 ·intro h2; have gh2 := h2
  simp only [nrm] at h2
  iterate 5 refine al_ps ?_
  refine al_pk ?_
  exact al_nk gh2
 refine al_mv ?_
 apply al_or 8 26 34 rfl
 ·intro h3; have gh3 := h3
  simp only [nrm] at h3
  refine tk_fp u35 info32 ?_
  refine tk_ld u32 info32 ?_
  refine al_t (op_len_map u32 rfl) ?_
  refine tk_fp u35 info32 ?_
  refine tk_ld u32 info32 ?_
  refine al_t (op_len_map u32 rfl) ?_
  refine al_t (op_neq rfl rfl) ?_
  refine al_pk ?_
  exact al_nk gh3
 ·intro h3; have gh3 := h3
  simp only [nrm] at h3
  iterate 7 refine al_ps ?_
  refine al_pk ?_
  exact al_nk gh3
 refine al_mv ?_
 apply al_or 8 35 43 rfl
 ·intro h4; have gh4 := h4
  simp only [nrm] at h4
  refine tk_fp u35 info33 ?_
  refine tk_ld u33 info33 ?_
  refine al_t (op_len_map u33 rfl) ?_
  refine tk_fp u35 info33 ?_
  refine tk_ld u33 info33 ?_
  refine al_t (op_len_map u33 rfl) ?_
  refine al_t (op_neq rfl rfl) ?_
  refine al_pk ?_
  exact al_nk gh4
 ·intro h4; have gh4 := h4
  simp only [nrm] at h4
  iterate 7 refine al_ps ?_
  refine al_pk ?_
  exact al_nk gh4
 refine al_nil ?_
 refine aw_cond rfl (fun h5 => ?_) (fun h5 => ?_)
 ·have gh5 := h5
  simp only [nrm] at h5
  refine aw_sr ?_
  refine al_gs ?_
  refine al_nil ?_
  refine fz1 (t := 4) ?_
  refine aw_ret ?_
  refine ⟨_, res_1 rfl rfl, ?_, rfl⟩
  rw [sameT_no gh5]
 have gh5 := h5
 simp only [nrm] at h5
 obtain ⟨hl5, hl6, he4⟩ := sameT_yes gh5
 have hll : a.names.length = b.names.length := by have := bne_eq_false_iff_eq.1 hl5; omega
 have hle : a.elem.length = b.elem.length := by have := bne_eq_false_iff_eq.1 hl6; omega
 refine aw_skip ?_
 refine aw_seq ?_
 refine aw_sr ?_
 refine al_fp u35 info32 ?_
 refine al_ld u32 info32 ?_
 refine al_lm u32 ?_
 refine al_mv ?_
 refine al_nil ?_
 refine aw_block ?_
 refine aw_forT (ι := Nat) [4, 47] [] (fun i => a.names.length - i) (fun i => i ≤ a.names.length ∧ ∀ k, k < i → (a.names.getD k default != b.names.getD k default) = false) (fun i => ([(47, .v (.int .i64 ((i : Nat) : Int)))] : Env)) (fun i s => s) (0) ?_ ?_ ?_ (fun i hinv => ?_)
 ·exact ⟨Nat.zero_le _, fun k hk => absurd hk (Nat.not_lt_zero k)⟩
 ·refine sub_1 ?_
  all_goals (first | rfl | simp)
 ·rfl
 have hi := hinv.1
 refine aw_sr ?_
 refine al_ls ?_
 refine al_nil ?_
 refine aw_seq ?_
 refine aw_cond rfl (fun h6 => ?_) (fun h6 => ?_)
 ·have gh6 := h6
  simp only [nrm] at h6
  refine aw_skip ?_
  refine aw_seq ?_
  refine aw_block ?_
  refine aw_sr ?_
  refine al_mv ?_
  refine al_gs ?_
  refine al_nil ?_
  refine aw_seq ?_
  refine aw_any (Checked.mixed Tryz.checked) ?_
  apply aany_seg (p := 0) (q := 11) (by kernel_rfl) rfl (by decide)
  ·
   apply ql_plain rfl (op_field_ptr u35 rfl info32 (by decide) rfl rfl rfl)
   apply ql_plain rfl (op_load_ptr u32 info32 rfl rfl rfl rfl)
   apply ql_plain rfl (op_move rfl)
   apply ql_plain rfl (op_im u32 info9)
   apply ql_plain rfl (op_load_rptr u9 info9 rfl rfl)
   apply ql_plain rfl (op_field_ptr u35 rfl info32 (by decide) rfl rfl rfl)
   apply ql_plain rfl (op_load_ptr u32 info32 rfl rfl rfl rfl)
   apply ql_plain rfl (op_move rfl)
   apply ql_plain rfl (op_im u32 info9)
   apply ql_plain rfl (op_load_rptr u9 info9 rfl rfl)
   apply ql_plain rfl (op_sneq_str rfl rfl)
   exact ql_nil
  ·simp
  refine aany_end rfl (by kernel_rfl) ?_
  refine aw_cond rfl (fun h7 => ?_) (fun h7 => ?_)
  ·have gh7 := h7
   simp only [nrm] at h7
   refine aw_sr ?_
   refine al_gs ?_
   refine al_nil ?_
   refine fz1 (t := 4) ?_
   refine aw_ret ?_
   refine ⟨_, res_1 rfl rfl, ?_, rfl⟩
   rw [he4, leq_no i (by omega) (by omega) gh7]; rfl
  have gh7 := h7
  simp only [nrm] at h7
  refine aw_skip ?_
  refine aw_region ?_
  refine al_ad ?_
  refine al_mv ?_
  refine al_nil ?_
  refine ⟨i + 1, ?_, ?_, ?_, ?_, ?_⟩
  ·omega
  ·exact ⟨by omega, idx_more (p := fun k => (a.names.getD k default != b.names.getD k default)) hinv.2 gh7⟩
  ·refine sub_1 ?_
   all_goals (first | rfl | simp)
  ·exact sbl
  ·rfl
 have gh6 := h6
 simp only [nrm] at h6
 refine aw_exit ?_
 have hsn := leq_yes hl5 (fun k hk => hinv.2 k (by omega))
 refine aw_seq ?_
 refine aw_sr ?_
 refine al_fp u35 info33 ?_
 refine al_ld u33 info33 ?_
 refine al_lm u33 ?_
 refine al_mv ?_
 refine al_nil ?_
 refine aw_block ?_
 refine aw_forT (ι := Nat) [4, 65] [] (fun j => a.elem.length - j) (fun j => j ≤ a.elem.length ∧ ∀ k, k < j → (!(sameT (a.elem.getD k default) (b.elem.getD k default))) = false) (fun j => ([(65, .v (.int .i64 ((j : Nat) : Int)))] : Env)) (fun j s => s) (0) ?_ ?_ ?_ (fun j hinv => ?_)
 ·exact ⟨Nat.zero_le _, fun k hk => absurd hk (Nat.not_lt_zero k)⟩
 ·refine sub_1 ?_
  all_goals (first | rfl | simp)
 ·rfl
 have hi := hinv.1

 refine aw_sr ?_
 refine al_ls ?_
 refine al_nil ?_
 refine aw_seq ?_
 refine aw_cond rfl (fun h8 => ?_) (fun h8 => ?_)
 ·have gh8 := h8
  simp only [nrm] at h8
  refine aw_skip ?_
  refine aw_seq ?_
  refine aw_block ?_
  refine aw_sr ?_
  refine al_mv ?_
  refine al_gs ?_
  refine al_nil ?_
  refine aw_seq ?_
  refine aw_any (Checked.mixed Tryz.checked) ?_
  apply aany_seg (p := 0) (q := 12) (by kernel_rfl) rfl (by decide)
  ·
   apply ql_plain rfl (op_field_ptr u35 rfl info33 (by decide) rfl rfl rfl)
   apply ql_plain rfl (op_load_ptr u33 info33 rfl rfl rfl rfl)
   apply ql_plain rfl (op_move rfl)
   apply ql_plain rfl (val_as (.rptr (cellsT (a.elem.getD j default))) (op_im u33 info35) (by exact congrArg AVal.rptr (encTy_cells _)))
   apply ql_plain rfl (op_load_rptr u35 info35 rfl rfl)
   apply ql_plain rfl (op_field_ptr u35 rfl info33 (by decide) rfl rfl rfl)
   apply ql_plain rfl (op_load_ptr u33 info33 rfl rfl rfl rfl)
   apply ql_plain rfl (op_move rfl)
   apply ql_plain rfl (val_as (.rptr (cellsT (b.elem.getD j default))) (op_im u33 info35) (by exact congrArg AVal.rptr (encTy_cells _)))
   apply ql_plain rfl (op_load_rptr u35 info35 rfl rfl)
   apply ql_call into74 rfl rfl rfl (ih (a.elem.getD j default) (getD_mem (by omega)) (b.elem.getD j default) (getD_mem (by omega)) _)
   apply ql_plain rfl (op_not rfl)
   exact ql_nil
  ·simp
  refine aany_end rfl (by kernel_rfl) ?_
  refine aw_cond rfl (fun h9 => ?_) (fun h9 => ?_)
  ·have gh9 := h9
   simp only [nrm] at h9
   refine aw_sr ?_
   refine al_gs ?_
   refine al_nil ?_
   refine fz1 (t := 4) ?_
   refine aw_ret ?_
   refine ⟨_, res_1 rfl rfl, ?_, rfl⟩
   rw [he4, alls_no j (by omega) (by omega) gh9, Bool.and_false]
  have gh9 := h9
  simp only [nrm] at h9
  refine aw_skip ?_
  refine aw_region ?_
  refine al_ad ?_
  refine al_mv ?_
  refine al_nil ?_
  refine ⟨j + 1, ?_, ?_, ?_, ?_, ?_⟩
  ·omega
  ·exact ⟨by omega, idx_more (p := (fun k => (!(sameT (a.elem.getD k default) (b.elem.getD k default))))) hinv.2 gh9⟩
  ·refine sub_1 ?_
   all_goals (first | rfl | simp)
  ·exact sbl
  ·rfl
 have gh8 := h8
 simp only [nrm] at h8
 refine aw_exit ?_
 refine aw_sr ?_
 refine al_gs ?_
 refine al_nil ?_
 refine fz1 (t := 4) ?_
 refine aw_ret ?_
 refine ⟨_, res_1 rfl rfl, ?_, rfl⟩
 rw [he4, hsn, alls_yes hl6 (fun k hk => hinv.2 k (by omega))]; rfl
theorem r_types (a : Ty) : ∀ b, szT a = true → szT b = true → ACp Tryz.prog 74 [.agg (cellsT a), .agg (cellsT b)] (.v (.bool (sameT a b))) := by
  induction a using Ty.ind with
  | h a ih =>
    intro b ha hb
    obtain ⟨a0, a1, a2, a3⟩ := szT_facts ha
    obtain ⟨b0, b1, b2, b3⟩ := szT_facts hb
    exact r_typesS a b ha hb (fun x hx y hy => ih x hx y (a3 x hx) (b3 y hy))
theorem r_allE (a b : List Ex) (ha : a.length ≤ 140737488355328) (ih : ∀ x ∈ a, ∀ y ∈ b, ACp Tryz.prog 36 [.agg (cellsE x), .agg (cellsE y)] (.v (.bool (sameE x y)))) : ACp Tryz.prog 75 [.list 16 ((a).map encE), .list 16 ((b).map encE)] (.v (.bool (allSame sameE a b))) := by
 refine acp_of rfl ?_
 refine ace 27 Tryz.func75 ?_
 refine aw_sr ?_
 refine al_gs ?_
 refine al_nil ?_
 refine aw_seq ?_
 refine aw_sr ?_
 refine al_mv ?_
 refine al_lm u31 ?_
 refine al_mv ?_
 refine al_lm u31 ?_
 refine al_o (op_neq rfl rfl) ?_
 refine al_nil ?_
 refine aw_cond rfl (fun h1 => ?_) (fun h1 => ?_)
 ·have gh1 := h1
  simp only [nrm] at h1
  refine aw_sr ?_
  refine al_gs ?_
  refine al_nil ?_
  refine fz1 (t := 4) ?_
  refine aw_ret ?_
  refine ⟨_, res_1 rfl rfl, ?_, rfl⟩
  rw [alls_len gh1]
 have gh1 := h1
 simp only [nrm] at h1
 refine aw_skip ?_
 refine aw_seq ?_
 refine aw_sr ?_
 refine al_mv ?_
 refine al_lm u31 ?_
 refine al_mv ?_
 refine al_nil ?_
 refine aw_block ?_
 refine aw_forT (ι := Nat) [4, 13] [] (fun i => a.length - i) (fun i => i ≤ a.length ∧ ∀ k, k < i → (!(sameE (a.getD k default) (b.getD k default))) = false) (fun i => ([(13, .v (.int .i64 ((i : Nat) : Int)))] : Env)) (fun i s => s) (0) ?_ ?_ ?_ (fun i hinv => ?_)
 ·exact ⟨Nat.zero_le _, fun k hk => absurd hk (Nat.not_lt_zero k)⟩
 ·refine sub_1 ?_
  all_goals (first | rfl | simp)
 ·rfl
 have hi := hinv.1
 have hll : a.length = b.length := by have := bne_eq_false_iff_eq.1 gh1; omega
 refine aw_sr ?_
 refine al_ls ?_
 refine al_nil ?_
 refine aw_seq ?_
 refine aw_cond rfl (fun h2 => ?_) (fun h2 => ?_)
 ·have gh2 := h2
  simp only [nrm] at h2
  refine aw_skip ?_
  refine aw_seq ?_
  refine aw_block ?_
  refine aw_sr ?_
  refine al_mv ?_
  refine al_gs ?_
  refine al_nil ?_
  refine aw_seq ?_
  refine aw_any (Checked.mixed Tryz.checked) ?_
  apply aany_seg (p := 0) (q := 10) (by kernel_rfl) rfl (by decide)
  ·
   apply ql_plain rfl (op_move rfl)
   apply ql_plain rfl (op_move rfl)
   apply ql_plain rfl (val_as (.rptr (cellsE (a.getD i default))) (op_im u31 info37) (by exact congrArg AVal.rptr (encE_cells _)))
   apply ql_plain rfl (op_load_rptr u37 info37 rfl rfl)
   apply ql_plain rfl (op_move rfl)
   apply ql_plain rfl (op_move rfl)
   apply ql_plain rfl (val_as (.rptr (cellsE (b.getD i default))) (op_im u31 info37) (by exact congrArg AVal.rptr (encE_cells _)))
   apply ql_plain rfl (op_load_rptr u37 info37 rfl rfl)
   apply ql_call into36 rfl rfl rfl (ih (a.getD i default) (getD_mem (by omega)) (b.getD i default) (getD_mem (by omega)) _)
   apply ql_plain rfl (op_not rfl)
   exact ql_nil
  ·simp
  refine aany_end rfl (by kernel_rfl) ?_
  refine aw_cond rfl (fun h3 => ?_) (fun h3 => ?_)
  ·have gh3 := h3
   simp only [nrm] at h3
   refine aw_sr ?_
   refine al_gs ?_
   refine al_nil ?_
   refine fz1 (t := 4) ?_
   refine aw_ret ?_
   refine ⟨_, res_1 rfl rfl, ?_, rfl⟩
   rw [alls_no i (by omega) (by omega) gh3]
  have gh3 := h3
  simp only [nrm] at h3
  refine aw_skip ?_
  refine aw_region ?_
  refine al_ad ?_
  refine al_mv ?_
  refine al_nil ?_
  refine ⟨i + 1, ?_, ?_, ?_, ?_, ?_⟩
  ·omega
  ·exact ⟨by omega, idx_more (p := (fun k => (!(sameE (a.getD k default) (b.getD k default))))) hinv.2 gh3⟩
  ·refine sub_1 ?_
   all_goals (first | rfl | simp)
  ·exact sbl
  ·rfl
 have gh2 := h2
 simp only [nrm] at h2
 refine aw_exit ?_
 refine aw_sr ?_
 refine al_gs ?_
 refine al_nil ?_
 refine fz1 (t := 4) ?_
 refine aw_ret ?_
 refine ⟨_, res_1 rfl rfl, ?_, rfl⟩
 rw [alls_yes gh1 (fun k hk => hinv.2 k (by omega))]
theorem r_sameES (a b : Ex) (ha : szX a = true) (hb : szX b = true) (ih : ∀ x ∈ a.kids, ∀ y ∈ b.kids, ACp Tryz.prog 36 [.agg (cellsE x), .agg (cellsE y)] (.v (.bool (sameE x y)))) : ACp Tryz.prog 36 [.agg (cellsE a), .agg (cellsE b)] (.v (.bool (sameE a b))) := by
 refine acp_of rfl ?_
 obtain ⟨a1, a2, a3, a6, a7, a8⟩ := szX_facts ha
 obtain ⟨b1, b2, b3, b6, b7, b8⟩ := szX_facts hb
 refine ace 52 Tryz.func36 ?_
 refine aw_sr ?_
 refine al_bx 2 fun ver2 => ?_
 refine al_bx 3 fun ver3 => ?_
 refine al_gs ?_
 refine al_sr ?_
 refine al_fp u37 info25 ?_
 refine al_ld u25 info25 ?_
 refine al_fp u37 info25 ?_
 refine al_ld u25 info25 ?_
 refine al_eq ?_
 refine al_mv ?_
 apply al_and 6 10 16 rfl
 ·intro h1; have gh1 := h1
  simp only [nrm] at h1
  refine tk_fp u37 info9 ?_
  refine tk_ld u9 info9 ?_
  refine tk_fp u37 info9 ?_
  refine tk_ld u9 info9 ?_
  refine al_t (op_seql_str rfl rfl) ?_
  refine al_pk ?_
  exact al_nk gh1
 ·intro h1; have gh1 := h1
  simp only [nrm] at h1
  iterate 5 refine al_ps ?_
  refine al_pk ?_
  exact al_nk gh1
 refine al_mv ?_
 apply al_and 6 17 23 rfl
 ·intro h2; have gh2 := h2
  simp only [nrm] at h2
  refine tk_fp u37 info3 ?_
  refine tk_ld u3 info3 ?_
  refine tk_fp u37 info3 ?_
  refine tk_ld u3 info3 ?_
  refine tk_eq ?_
  refine al_pk ?_
  exact al_nk gh2
 ·intro h2; have gh2 := h2
  iterate 5 refine al_ps ?_
  refine al_pk ?_
  exact al_nk gh2
 refine al_mv ?_
 apply al_and 6 24 30 rfl
 ·intro h3; have gh3 := h3
  simp only [nrm] at h3
  refine tk_fp u37 info26 ?_
  refine tk_ld u26 info26 ?_
  refine tk_fp u37 info26 ?_
  refine tk_ld u26 info26 ?_
  refine al_callp_take into72 rfl rfl rfl rfl rfl rfl (r_sameB a.bits b.bits a2 _) (by simp) ?_
  refine al_pk ?_
  exact al_nk gh3
 ·intro h3; have gh3 := h3
  iterate 5 refine al_ps ?_
  refine al_pk ?_
  exact al_nk gh3
 refine al_mv ?_
 apply al_and 6 31 37 rfl
 ·intro h4; have gh4 := h4
  simp only [nrm] at h4
  refine tk_fp u37 info30 ?_
  refine tk_ld u30 info30 ?_
  refine tk_fp u37 info30 ?_
  refine tk_ld u30 info30 ?_
  refine al_callp_take into73 rfl rfl rfl rfl rfl rfl (r_alikeV a.val b.val a6 b6 _) (by simp) ?_
  refine al_pk ?_
  exact al_nk gh4
 ·intro h4; have gh4 := h4
  iterate 5 refine al_ps ?_
  refine al_pk ?_
  exact al_nk gh4
 refine al_mv ?_
 apply al_and 6 38 44 rfl
 ·intro h5; have gh5 := h5
  simp only [nrm] at h5
  refine tk_fp u37 info35 ?_
  refine tk_ld u35 info35 ?_
  refine tk_fp u37 info35 ?_
  refine tk_ld u35 info35 ?_
  refine al_callp_take into74 rfl rfl rfl rfl rfl rfl (r_types a.type b.type a7 b7 _) (by simp) ?_
  refine al_pk ?_
  exact al_nk gh5
 ·intro h5; have gh5 := h5
  iterate 5 refine al_ps ?_
  refine al_pk ?_
  exact al_nk gh5
 refine al_mv ?_
 apply al_and 6 45 51 rfl
 ·intro h6; have gh6 := h6
  simp only [nrm] at h6
  refine tk_fp u37 info31 ?_
  refine tk_ld u31 info31 ?_
  refine tk_fp u37 info31 ?_
  refine tk_ld u31 info31 ?_
  refine al_callp_take into75 rfl rfl rfl rfl rfl rfl (r_allE a.kids b.kids a3 ih _) (by simp) ?_
  refine al_pk ?_
  exact al_nk gh6
 ·intro h6; have gh6 := h6
  iterate 5 refine al_ps ?_
  refine al_pk ?_
  exact al_nk gh6
 refine al_gs ?_
 refine al_nil ?_
 refine fz1 (t := 4) ?_
 refine aw_ret ?_
 refine ⟨_, res_1 rfl rfl, ?_, rfl⟩
 rw [sameE_and]
theorem r_sameE (a : Ex) : ∀ b, szX a = true → szX b = true → ACp Tryz.prog 36 [.agg (cellsE a), .agg (cellsE b)] (.v (.bool (sameE a b))) := by
  induction a using Ex.ind with
  | h a ih =>
    intro b ha hb
    obtain ⟨a1, a2, a3, a6, a7, a8⟩ := szX_facts ha
    obtain ⟨b1, b2, b3, b6, b7, b8⟩ := szX_facts hb
    exact r_sameES a b ha hb (fun x hx y hy => ih x hx y (a8 x hx) (b8 y hy))
end Go.Proofs.YtcgdlhkiecommaaGreatDoor
/- Printed walks (gen.py, lexer_ann.py): part 425. -/




namespace Go.Proofs.YtcgdlhkiecommaaGreatDoor
open Go
end Go.Proofs.YtcgdlhkiecommaaGreatDoor
/- Printed walks (gen.py, lexer_ann.py): part 426. -/



namespace Go.Proofs.YtcgdlhkiecommaaGreatDoor
open Go
end Go.Proofs.YtcgdlhkiecommaaGreatDoor
/- Printed walks (gen.py, lexer_ann.py): part 427. -/



namespace Go.Proofs.YtcgdlhkiecommaaGreatDoor
open Go
end Go.Proofs.YtcgdlhkiecommaaGreatDoor
/- Printed walks (gen.py, lexer_ann.py): part 430. -/




namespace Go.Proofs.YtcgdlhkiecommaaGreatDoor
open Go
theorem r_strength (s : Bs) : ACp Tryz.prog 136 [.v (.string (str (s)))] (.v (.int .i64 (strR s))) := by
 refine acp_of rfl ?_
 refine ace 28 Tryz.func136 ?_
 refine aw_sr ?_
 refine al_gs ?_
 refine al_nil ?_
 refine aw_seq ?_
 refine aw_sr ?_
 refine al_mv ?_
 refine al_nil ?_
 refine aw_block ?_
 refine aw_seq ?_
 refine aw_sr ?_
 refine al_o (op_seql_str rfl rfl) ?_
 refine al_gs ?_
 refine al_nil ?_
 refine aw_cond rfl (fun h1 => ?_) (fun h1 => ?_)
 ·have gh1 := h1
  simp only [nrm] at h1
  refine aw_skip ?_
  refine aw_cond rfl (fun h2 => ?_) (fun h2 => ?_)
  ·have gh2 := h2
   simp only [nrm] at h2
   refine aw_sr ?_
   refine al_gs ?_
   refine al_nil ?_
   refine fz1 (t := 2) ?_
   refine aw_ret ?_
   refine ⟨_, res_1 rfl rfl, ?_, rfl⟩
   rw [strR_eq]; simp only [gh1, Bool.false_or, Bool.true_or, Bool.or_true, Bool.or_false, Bool.false_eq_true, if_true, if_false, reduceIte]
  have gh2 := h2
  simp only [nrm] at h2
  exact absurd (gh1.symm.trans gh2) (by decide)
 have gh1 := h1
 simp only [nrm] at h1
 refine aw_sr ?_
 refine al_o (op_seql_str rfl rfl) ?_
 refine al_gs ?_
 refine al_nil ?_
 refine aw_cond rfl (fun h3 => ?_) (fun h3 => ?_)
 ·have gh3 := h3
  simp only [nrm] at h3
  refine aw_skip ?_
  refine aw_cond rfl (fun h4 => ?_) (fun h4 => ?_)
  ·have gh4 := h4
   simp only [nrm] at h4
   refine aw_sr ?_
   refine al_gs ?_
   refine al_nil ?_
   refine fz1 (t := 2) ?_
   refine aw_ret ?_
   refine ⟨_, res_1 rfl rfl, ?_, rfl⟩
   rw [strR_eq]; simp only [gh1, gh3, Bool.false_or, Bool.true_or, Bool.or_true, Bool.or_false, Bool.false_eq_true, if_true, if_false, reduceIte]
  have gh4 := h4
  simp only [nrm] at h4
  exact absurd (gh3.symm.trans gh4) (by decide)
 have gh3 := h3
 simp only [nrm] at h3
 refine aw_sr ?_
 refine al_o (op_seql_str rfl rfl) ?_
 refine al_gs ?_
 refine al_nil ?_
 refine aw_cond rfl (fun h5 => ?_) (fun h5 => ?_)
 ·have gh5 := h5
  simp only [nrm] at h5
  refine aw_skip ?_
  refine aw_cond rfl (fun h6 => ?_) (fun h6 => ?_)
  ·have gh6 := h6
   simp only [nrm] at h6
   refine aw_sr ?_
   refine al_gs ?_
   refine al_nil ?_
   refine fz1 (t := 2) ?_
   refine aw_ret ?_
   refine ⟨_, res_1 rfl rfl, ?_, rfl⟩
   rw [strR_eq]; simp only [gh1, gh3, gh5, Bool.false_or, Bool.true_or, Bool.or_true, Bool.or_false, Bool.false_eq_true, if_true, if_false, reduceIte]
  have gh6 := h6
  simp only [nrm] at h6
  exact absurd (gh5.symm.trans gh6) (by decide)
 have gh5 := h5
 simp only [nrm] at h5
 refine aw_sr ?_
 refine al_o (op_seql_str rfl rfl) ?_
 refine al_gs ?_
 refine al_nil ?_
 refine aw_cond rfl (fun h7 => ?_) (fun h7 => ?_)
 ·have gh7 := h7
  simp only [nrm] at h7
  refine aw_skip ?_
  refine aw_cond rfl (fun h8 => ?_) (fun h8 => ?_)
  ·have gh8 := h8
   simp only [nrm] at h8
   refine aw_sr ?_
   refine al_gs ?_
   refine al_nil ?_
   refine fz1 (t := 2) ?_
   refine aw_ret ?_
   refine ⟨_, res_1 rfl rfl, ?_, rfl⟩
   rw [strR_eq]; simp only [gh1, gh3, gh5, gh7, Bool.false_or, Bool.true_or, Bool.or_true, Bool.or_false, Bool.false_eq_true, if_true, if_false, reduceIte]
  have gh8 := h8
  simp only [nrm] at h8
  exact absurd (gh7.symm.trans gh8) (by decide)
 have gh7 := h7
 simp only [nrm] at h7
 refine aw_sr ?_
 refine al_o (op_seql_str rfl rfl) ?_
 refine al_gs ?_
 refine al_nil ?_
 refine aw_cond rfl (fun h9 => ?_) (fun h9 => ?_)
 ·have gh9 := h9
  simp only [nrm] at h9
  refine aw_skip ?_
  refine aw_cond rfl (fun h10 => ?_) (fun h10 => ?_)
  ·have gh10 := h10
   simp only [nrm] at h10
   refine aw_sr ?_
   refine al_gs ?_
   refine al_nil ?_
   refine fz1 (t := 2) ?_
   refine aw_ret ?_
   refine ⟨_, res_1 rfl rfl, ?_, rfl⟩
   rw [strR_eq]; simp only [gh1, gh3, gh5, gh7, gh9, Bool.false_or, Bool.true_or, Bool.or_true, Bool.or_false, Bool.false_eq_true, if_true, if_false, reduceIte]
  have gh10 := h10
  simp only [nrm] at h10
  exact absurd (gh9.symm.trans gh10) (by decide)
 have gh9 := h9
 simp only [nrm] at h9
 refine aw_region ?_
 refine al_o (op_seql_str rfl rfl) ?_
 refine al_gs ?_
 refine al_nil ?_
 refine aw_cond rfl (fun h11 => ?_) (fun h11 => ?_)
 ·have gh11 := h11
  simp only [nrm] at h11
  refine aw_sr ?_
  refine al_gs ?_
  refine al_nil ?_
  refine fz1 (t := 2) ?_
  refine aw_ret ?_
  refine ⟨_, res_1 rfl rfl, ?_, rfl⟩
  rw [strR_eq]; simp only [gh1, gh3, gh5, gh7, gh9, gh11, Bool.false_or, Bool.true_or, Bool.or_true, Bool.or_false, Bool.false_eq_true, if_true, if_false, reduceIte]
 have gh11 := h11
 simp only [nrm] at h11
 refine aw_seq ?_
 refine aw_sr ?_
 refine al_o (op_seql_str rfl rfl) ?_
 refine al_gs ?_
 refine al_nil ?_
 refine aw_cond rfl (fun h12 => ?_) (fun h12 => ?_)
 ·have gh12 := h12
  simp only [nrm] at h12
  refine aw_skip ?_
  refine aw_cond rfl (fun h13 => ?_) (fun h13 => ?_)
  ·have gh13 := h13
   simp only [nrm] at h13
   refine aw_sr ?_
   refine al_gs ?_
   refine al_nil ?_
   refine fz1 (t := 2) ?_
   refine aw_ret ?_
   refine ⟨_, res_1 rfl rfl, ?_, rfl⟩
   rw [strR_eq]; simp only [gh1, gh3, gh5, gh7, gh9, gh11, gh12, Bool.false_or, Bool.true_or, Bool.or_true, Bool.or_false, Bool.false_eq_true, if_true, if_false, reduceIte]
  have gh13 := h13
  simp only [nrm] at h13
  exact absurd (gh12.symm.trans gh13) (by decide)
 have gh12 := h12
 simp only [nrm] at h12
 refine aw_sr ?_
 refine al_o (op_seql_str rfl rfl) ?_
 refine al_gs ?_
 refine al_nil ?_
 refine aw_cond rfl (fun h14 => ?_) (fun h14 => ?_)
 ·have gh14 := h14
  simp only [nrm] at h14
  refine aw_skip ?_
  refine aw_cond rfl (fun h15 => ?_) (fun h15 => ?_)
  ·have gh15 := h15
   simp only [nrm] at h15
   refine aw_sr ?_
   refine al_gs ?_
   refine al_nil ?_
   refine fz1 (t := 2) ?_
   refine aw_ret ?_
   refine ⟨_, res_1 rfl rfl, ?_, rfl⟩
   rw [strR_eq]; simp only [gh1, gh3, gh5, gh7, gh9, gh11, gh12, gh14, Bool.false_or, Bool.true_or, Bool.or_true, Bool.or_false, Bool.false_eq_true, if_true, if_false, reduceIte]
  have gh15 := h15
  simp only [nrm] at h15
  exact absurd (gh14.symm.trans gh15) (by decide)
 have gh14 := h14
 simp only [nrm] at h14
 refine aw_sr ?_
 refine al_o (op_seql_str rfl rfl) ?_
 refine al_gs ?_
 refine al_nil ?_
 refine aw_cond rfl (fun h16 => ?_) (fun h16 => ?_)
 ·have gh16 := h16
  simp only [nrm] at h16
  refine aw_skip ?_
  refine aw_cond rfl (fun h17 => ?_) (fun h17 => ?_)
  ·have gh17 := h17
   simp only [nrm] at h17
   refine aw_sr ?_
   refine al_gs ?_
   refine al_nil ?_
   refine fz1 (t := 2) ?_
   refine aw_ret ?_
   refine ⟨_, res_1 rfl rfl, ?_, rfl⟩
   rw [strR_eq]; simp only [gh1, gh3, gh5, gh7, gh9, gh11, gh12, gh14, gh16, Bool.false_or, Bool.true_or, Bool.or_true, Bool.or_false, Bool.false_eq_true, if_true, if_false, reduceIte]
  have gh17 := h17
  simp only [nrm] at h17
  exact absurd (gh16.symm.trans gh17) (by decide)
 have gh16 := h16
 simp only [nrm] at h16
 refine aw_sr ?_
 refine al_o (op_seql_str rfl rfl) ?_
 refine al_gs ?_
 refine al_nil ?_
 refine aw_cond rfl (fun h18 => ?_) (fun h18 => ?_)
 ·have gh18 := h18
  simp only [nrm] at h18
  refine aw_skip ?_
  refine aw_cond rfl (fun h19 => ?_) (fun h19 => ?_)
  ·have gh19 := h19
   simp only [nrm] at h19
   refine aw_sr ?_
   refine al_gs ?_
   refine al_nil ?_
   refine fz1 (t := 2) ?_
   refine aw_ret ?_
   refine ⟨_, res_1 rfl rfl, ?_, rfl⟩
   rw [strR_eq]; simp only [gh1, gh3, gh5, gh7, gh9, gh11, gh12, gh14, gh16, gh18, Bool.false_or, Bool.true_or, Bool.or_true, Bool.or_false, Bool.false_eq_true, if_true, if_false, reduceIte]
  have gh19 := h19
  simp only [nrm] at h19
  exact absurd (gh18.symm.trans gh19) (by decide)
 have gh18 := h18
 simp only [nrm] at h18
 refine aw_sr ?_
 refine al_o (op_seql_str rfl rfl) ?_
 refine al_gs ?_
 refine al_nil ?_
 refine aw_cond rfl (fun h20 => ?_) (fun h20 => ?_)
 ·have gh20 := h20
  simp only [nrm] at h20
  refine aw_skip ?_
  refine aw_cond rfl (fun h21 => ?_) (fun h21 => ?_)
  ·have gh21 := h21
   simp only [nrm] at h21
   refine aw_sr ?_
   refine al_gs ?_
   refine al_nil ?_
   refine fz1 (t := 2) ?_
   refine aw_ret ?_
   refine ⟨_, res_1 rfl rfl, ?_, rfl⟩
   rw [strR_eq]; simp only [gh1, gh3, gh5, gh7, gh9, gh11, gh12, gh14, gh16, gh18, gh20, Bool.false_or, Bool.true_or, Bool.or_true, Bool.or_false, Bool.false_eq_true, if_true, if_false, reduceIte]
  have gh21 := h21
  simp only [nrm] at h21
  exact absurd (gh20.symm.trans gh21) (by decide)
 have gh20 := h20
 simp only [nrm] at h20
 refine aw_region ?_
 refine al_o (op_seql_str rfl rfl) ?_
 refine al_gs ?_
 refine al_nil ?_
 refine aw_cond rfl (fun h22 => ?_) (fun h22 => ?_)
 ·have gh22 := h22
  simp only [nrm] at h22
  refine aw_sr ?_
  refine al_gs ?_
  refine al_nil ?_
  refine fz1 (t := 2) ?_
  refine aw_ret ?_
  refine ⟨_, res_1 rfl rfl, ?_, rfl⟩
  rw [strR_eq]; simp only [gh1, gh3, gh5, gh7, gh9, gh11, gh12, gh14, gh16, gh18, gh20, gh22, Bool.false_or, Bool.true_or, Bool.or_true, Bool.or_false, Bool.false_eq_true, if_true, if_false, reduceIte]
 have gh22 := h22
 simp only [nrm] at h22
 refine aw_seq ?_
 refine aw_sr ?_
 refine al_o (op_seql_str rfl rfl) ?_
 refine al_gs ?_
 refine al_nil ?_
 refine aw_cond rfl (fun h23 => ?_) (fun h23 => ?_)
 ·have gh23 := h23
  simp only [nrm] at h23
  refine aw_skip ?_
  refine aw_cond rfl (fun h24 => ?_) (fun h24 => ?_)
  ·have gh24 := h24
   simp only [nrm] at h24
   refine aw_sr ?_
   refine al_gs ?_
   refine al_nil ?_
   refine fz1 (t := 2) ?_
   refine aw_ret ?_
   refine ⟨_, res_1 rfl rfl, ?_, rfl⟩
   rw [strR_eq]; simp only [gh1, gh3, gh5, gh7, gh9, gh11, gh12, gh14, gh16, gh18, gh20, gh22, gh23, Bool.false_or, Bool.true_or, Bool.or_true, Bool.or_false, Bool.false_eq_true, if_true, if_false, reduceIte]
  have gh24 := h24
  simp only [nrm] at h24
  exact absurd (gh23.symm.trans gh24) (by decide)
 have gh23 := h23
 simp only [nrm] at h23
 refine aw_sr ?_
 refine al_o (op_seql_str rfl rfl) ?_
 refine al_gs ?_
 refine al_nil ?_
 refine aw_cond rfl (fun h25 => ?_) (fun h25 => ?_)
 ·have gh25 := h25
  simp only [nrm] at h25
  refine aw_skip ?_
  refine aw_cond rfl (fun h26 => ?_) (fun h26 => ?_)
  ·have gh26 := h26
   simp only [nrm] at h26
   refine aw_sr ?_
   refine al_gs ?_
   refine al_nil ?_
   refine fz1 (t := 2) ?_
   refine aw_ret ?_
   refine ⟨_, res_1 rfl rfl, ?_, rfl⟩
   rw [strR_eq]; simp only [gh1, gh3, gh5, gh7, gh9, gh11, gh12, gh14, gh16, gh18, gh20, gh22, gh23, gh25, Bool.false_or, Bool.true_or, Bool.or_true, Bool.or_false, Bool.false_eq_true, if_true, if_false, reduceIte]
  have gh26 := h26
  simp only [nrm] at h26
  exact absurd (gh25.symm.trans gh26) (by decide)
 have gh25 := h25
 simp only [nrm] at h25
 refine aw_region ?_
 refine al_o (op_seql_str rfl rfl) ?_
 refine al_gs ?_
 refine al_nil ?_
 refine aw_cond rfl (fun h27 => ?_) (fun h27 => ?_)
 ·have gh27 := h27
  simp only [nrm] at h27
  refine aw_sr ?_
  refine al_gs ?_
  refine al_nil ?_
  refine fz1 (t := 2) ?_
  refine aw_ret ?_
  refine ⟨_, res_1 rfl rfl, ?_, rfl⟩
  rw [strR_eq]; simp only [gh1, gh3, gh5, gh7, gh9, gh11, gh12, gh14, gh16, gh18, gh20, gh22, gh23, gh25, gh27, Bool.false_or, Bool.true_or, Bool.or_true, Bool.or_false, Bool.false_eq_true, if_true, if_false, reduceIte]
 have gh27 := h27
 simp only [nrm] at h27
 refine aw_seq ?_
 refine aw_sr ?_
 refine al_o (op_seql_str rfl rfl) ?_
 refine al_gs ?_
 refine al_nil ?_
 refine aw_cond rfl (fun h28 => ?_) (fun h28 => ?_)
 ·have gh28 := h28
  simp only [nrm] at h28
  refine aw_skip ?_
  refine aw_cond rfl (fun h29 => ?_) (fun h29 => ?_)
  ·have gh29 := h29
   simp only [nrm] at h29
   refine aw_sr ?_
   refine al_gs ?_
   refine al_nil ?_
   refine fz1 (t := 2) ?_
   refine aw_ret ?_
   refine ⟨_, res_1 rfl rfl, ?_, rfl⟩
   rw [strR_eq]; simp only [gh1, gh3, gh5, gh7, gh9, gh11, gh12, gh14, gh16, gh18, gh20, gh22, gh23, gh25, gh27, gh28, Bool.false_or, Bool.true_or, Bool.or_true, Bool.or_false, Bool.false_eq_true, if_true, if_false, reduceIte]
  have gh29 := h29
  simp only [nrm] at h29
  exact absurd (gh28.symm.trans gh29) (by decide)
 have gh28 := h28
 simp only [nrm] at h28
 refine aw_sr ?_
 refine al_o (op_seql_str rfl rfl) ?_
 refine al_gs ?_
 refine al_nil ?_
 refine aw_cond rfl (fun h30 => ?_) (fun h30 => ?_)
 ·have gh30 := h30
  simp only [nrm] at h30
  refine aw_skip ?_
  refine aw_cond rfl (fun h31 => ?_) (fun h31 => ?_)
  ·have gh31 := h31
   simp only [nrm] at h31
   refine aw_sr ?_
   refine al_gs ?_
   refine al_nil ?_
   refine fz1 (t := 2) ?_
   refine aw_ret ?_
   refine ⟨_, res_1 rfl rfl, ?_, rfl⟩
   rw [strR_eq]; simp only [gh1, gh3, gh5, gh7, gh9, gh11, gh12, gh14, gh16, gh18, gh20, gh22, gh23, gh25, gh27, gh28, gh30, Bool.false_or, Bool.true_or, Bool.or_true, Bool.or_false, Bool.false_eq_true, if_true, if_false, reduceIte]
  have gh31 := h31
  simp only [nrm] at h31
  exact absurd (gh30.symm.trans gh31) (by decide)
 have gh30 := h30
 simp only [nrm] at h30
 refine aw_sr ?_
 refine al_o (op_seql_str rfl rfl) ?_
 refine al_gs ?_
 refine al_nil ?_
 refine aw_cond rfl (fun h32 => ?_) (fun h32 => ?_)
 ·have gh32 := h32
  simp only [nrm] at h32
  refine aw_skip ?_
  refine aw_cond rfl (fun h33 => ?_) (fun h33 => ?_)
  ·have gh33 := h33
   simp only [nrm] at h33
   refine aw_sr ?_
   refine al_gs ?_
   refine al_nil ?_
   refine fz1 (t := 2) ?_
   refine aw_ret ?_
   refine ⟨_, res_1 rfl rfl, ?_, rfl⟩
   rw [strR_eq]; simp only [gh1, gh3, gh5, gh7, gh9, gh11, gh12, gh14, gh16, gh18, gh20, gh22, gh23, gh25, gh27, gh28, gh30, gh32, Bool.false_or, Bool.true_or, Bool.or_true, Bool.or_false, Bool.false_eq_true, if_true, if_false, reduceIte]
  have gh33 := h33
  simp only [nrm] at h33
  exact absurd (gh32.symm.trans gh33) (by decide)
 have gh32 := h32
 simp only [nrm] at h32
 refine aw_sr ?_
 refine al_o (op_seql_str rfl rfl) ?_
 refine al_gs ?_
 refine al_nil ?_
 refine aw_cond rfl (fun h34 => ?_) (fun h34 => ?_)
 ·have gh34 := h34
  simp only [nrm] at h34
  refine aw_skip ?_
  refine aw_cond rfl (fun h35 => ?_) (fun h35 => ?_)
  ·have gh35 := h35
   simp only [nrm] at h35
   refine aw_sr ?_
   refine al_gs ?_
   refine al_nil ?_
   refine fz1 (t := 2) ?_
   refine aw_ret ?_
   refine ⟨_, res_1 rfl rfl, ?_, rfl⟩
   rw [strR_eq]; simp only [gh1, gh3, gh5, gh7, gh9, gh11, gh12, gh14, gh16, gh18, gh20, gh22, gh23, gh25, gh27, gh28, gh30, gh32, gh34, Bool.false_or, Bool.true_or, Bool.or_true, Bool.or_false, Bool.false_eq_true, if_true, if_false, reduceIte]
  have gh35 := h35
  simp only [nrm] at h35
  exact absurd (gh34.symm.trans gh35) (by decide)
 have gh34 := h34
 simp only [nrm] at h34
 refine aw_region ?_
 refine al_o (op_seql_str rfl rfl) ?_
 refine al_gs ?_
 refine al_nil ?_
 refine aw_cond rfl (fun h36 => ?_) (fun h36 => ?_)
 ·have gh36 := h36
  simp only [nrm] at h36
  refine aw_sr ?_
  refine al_gs ?_
  refine al_nil ?_
  refine fz1 (t := 2) ?_
  refine aw_ret ?_
  refine ⟨_, res_1 rfl rfl, ?_, rfl⟩
  rw [strR_eq]; simp only [gh1, gh3, gh5, gh7, gh9, gh11, gh12, gh14, gh16, gh18, gh20, gh22, gh23, gh25, gh27, gh28, gh30, gh32, gh34, gh36, Bool.false_or, Bool.true_or, Bool.or_true, Bool.or_false, Bool.false_eq_true, if_true, if_false, reduceIte]
 have gh36 := h36
 simp only [nrm] at h36
 refine aw_skip ?_
 refine aw_sr ?_
 refine al_gs ?_
 refine al_nil ?_
 refine fz1 (t := 2) ?_
 refine aw_ret ?_
 refine ⟨_, res_1 rfl rfl, ?_, rfl⟩
 rw [strR_eq]; simp only [gh1, gh3, gh5, gh7, gh9, gh11, gh12, gh14, gh16, gh18, gh20, gh22, gh23, gh25, gh27, gh28, gh30, gh32, gh34, gh36, Bool.false_or, Bool.true_or, Bool.or_true, Bool.or_false, Bool.false_eq_true, if_true, if_false, reduceIte]
end Go.Proofs.YtcgdlhkiecommaaGreatDoor
/- Printed walks (gen.py, lexer_ann.py): part 461. -/





namespace Go.Proofs.YtcgdlhkiecommaaGreatDoor
open Go
theorem q_row (v0 : Nat) (l : List Tk) (hl : ∀ t ∈ l, possT t = true) (hn : l.length ≤ 1000000) (k : Nat) (s : Qs) (hs : QH l k s) (hF : ∀ (v0 : Nat) (s : Qs), QH l k s → AC Tryz.prog 135 [.ptr 0 v0 0 0] (rq v0 l s []) (RqK v0 l encX (QR l (factor l (k - 1) s.i) 0 s))) (m j : Nat) (hm : j + m = 5) (hj : 1 ≤ j) (hR : m ≠ 0 → ∀ (v0 : Nat) (s : Qs), QH l k s → AC Tryz.prog 80 [.ptr 0 v0 0 0, .v (.int .i64 ((j + 1 : Nat) : Int))] (rq v0 l s []) (RqK v0 l encX (QR l (rowP l (factor l (k - 1)) (m - 1) s.i) 0 s)))  : AC Tryz.prog 80 [.ptr 0 v0 0 0, .v (.int .i64 ((j : Nat) : Int))] (rq v0 l s []) (fun r σ' => RqK v0 l encX (QR l (rowP l (factor l (k - 1)) m s.i) (0) s) r σ') := by
 have hi := hs.1
 have hd := hs.2.2.2.2
 refine ace 84 Tryz.func80 ?_
 refine aw_sr ?_
 refine al_al 4 info37 fun ver4 => ?_
 refine al_nil ?_
 refine aw_seq ?_
 refine aw_sr ?_
 refine al_mv ?_
 refine al_o (op_gtr rfl rfl) ?_
 refine al_nil ?_
 refine aw_cond rfl (fun h1 => ?_) (fun h1 => ?_)
 ·have gh1 := h1
  simp only [nrm] at h1
  refine aw_sr ?_
  refine al_mv ?_
  (refine al_call into135 rfl rfl rfl (rq_lift rfl (fun _ => rfl) (hF v0 s hs) _ (by rfl)) (by simp) ?_; rintro _ _ ⟨a12, s12, hq12, rfl, rfl⟩)
  refine al_sp info37 ?_
  refine al_nil ?_
  refine aw_ret ?_
  refine ⟨_, res_cell rfl u37 info37 rfl rfl rfl rfl, ?_⟩
  exact rqk a12 s12 (hq12.same fun _ => by rw [show m = 0 by omega]; rfl) rfl
 have gh1 := h1
 simp only [nrm] at h1
 refine aw_skip ?_
 refine aw_sr ?_
 refine al_mv ?_
 refine al_mv ?_
 refine al_ad ?_
 have hm0 : m ≠ 0 := by omega
 refine al_call into80 rfl rfl rfl (rq_lift rfl (fun _ => rfl) (hR hm0 v0 s hs) _ (by rfl)) (by simp) ?_; rintro _ _ ⟨a16, s16, hq16, rfl, rfl⟩
 have hs16 := hs.after hq16
 refine al_al 5 info37 fun ver5 => ?_
 refine al_sp info37 ?_
 refine al_nil ?_
 refine aw_seq ?_
 refine aw_block ?_
 refine aw_for2T (α := Ex) (β := Qs) [] [6, 7, 8] (fun left s2 => l.length - s2.i) (fun left s2 => QH l k s2 ∧ QP l (rowP l (factor l (k - 1)) m s.i) 0 s (rowLoop l (rowP l (factor l (k - 1)) (m - 1)) (j - 1) (l.length - s2.i) left s2.i) s2) (fun left s2 => ([] : Env)) (fun left s2 st => ([(0, v0, .row 7 [rdq l s2]), (4, ver4, .row 16 [zeroE]), (5, ver5, .row 16 [cellsE left])] : Store)) (a16) (s16) ?_ ?_ ?_ (fun left s2 hinv => ?_)
 ·exact ⟨hs16, (QP.refl hs.2.1 hi).call2 hq16 (fun g _ e => row_bad hm0 e) (fun _ e => (row_ok hm0 (by omega) e).symm)⟩
 ·exact sub_nil
 ·rfl
 have hi2 := hinv.1.1
 have hd2 := hinv.1.2.2.2.2
 refine aw_seq ?_
 refine aw_seq ?_
 refine aw_any (Checked.mixed Tryz.checked) ?_
 apply aany_seg (p := 0) (q := 3) (by kernel_rfl) rfl (by decide)
 ·
  apply ql_plain rfl (op_move rfl)
  apply ql_call into43 rfl rfl rfl (q_okA v0 l hl hn k s2 hinv.1  rfl rfl)
  apply ql_plain rfl (op_move rfl)
  exact ql_nil
 ·simp
 apply aany_and 3 14 19 30 (by kernel_rfl) rfl (by decide) rfl (by simp)
 ·intro h2; have gh2 := h2
  simp only [nrm] at h2
  apply ql_ex
  ·
   apply ql_take rfl rfl rfl rfl (op_move rfl)
   apply ql_take rfl rfl rfl rfl (op_nilCheck_ptr rfl rfl)
   apply ql_take rfl rfl rfl rfl (op_field_ptr u76 rfl info3 (by decide) rfl rfl rfl)
   apply ql_take rfl rfl rfl rfl (op_load_ptr u3 info3 rfl rfl rfl rfl)
   apply ql_take rfl rfl rfl rfl (op_move rfl)
   apply ql_take rfl rfl rfl rfl (op_nilCheck_ptr rfl rfl)
   apply ql_take rfl rfl rfl rfl (op_field_ptr u76 rfl info22 (by decide) rfl rfl rfl)
   apply ql_take rfl rfl rfl rfl (op_load_ptr u22 info22 rfl rfl rfl rfl)
   apply ql_take rfl rfl rfl rfl (op_len_map u22 rfl)
   apply ql_take rfl rfl rfl rfl (op_lss rfl rfl)
   apply ql_plain rfl (op_pick rfl rfl)
   exact ql_nil
  ·rfl
  ·exact subk gh2
 ·intro h2; have gh2 := h2
  simp only [nrm] at h2
  apply ql_ex
  ·
   apply ql_pass rfl rfl rfl rfl
   apply ql_pass rfl rfl rfl rfl
   apply ql_pass rfl rfl rfl rfl
   apply ql_pass rfl rfl rfl rfl
   apply ql_pass rfl rfl rfl rfl
   apply ql_pass rfl rfl rfl rfl
   apply ql_pass rfl rfl rfl rfl
   apply ql_pass rfl rfl rfl rfl
   apply ql_pass rfl rfl rfl rfl
   apply ql_pass rfl rfl rfl rfl
   apply ql_plain rfl (op_pick rfl rfl)
   exact ql_nil
  ·rfl
  ·exact subk gh2
 refine aany_end rfl (by kernel_rfl) ?_
 refine aw_cond rfl (fun h3 => ?_) (fun h3 => ?_)
 ·have gh3 := h3
  simp only [nrm] at h3
  have gL := gh3
  obtain ⟨ho, hlt⟩ := loop_in hinv.1.2.1 gL
  refine aw_skip ?_
  refine aw_block ?_
  refine aw_seq ?_
  refine aw_plan [0, 1, 2, 3, 4, 5, 6, 7, 8, 9, 10, 11] (Checked.mixed Tryz.checked) (by kernel_rfl) ?_
  refine afl_float rfl rfl (opk_of (op_move rfl)) (by simp) ?_
  refine afl_float rfl rfl (opk_of (op_nilCheck_ptr rfl rfl)) (by simp) ?_
  refine afl_float rfl rfl (opk_of (op_field_ptr u76 rfl info22 (by decide) rfl rfl rfl)) (by simp) ?_
  refine afl_float rfl rfl (opk_of (op_load_ptr u22 info22 rfl rfl rfl rfl)) (by simp) ?_
  refine afl_float rfl rfl (opk_of (op_move rfl)) (by simp) ?_
  refine afl_float rfl rfl (opk_of (op_nilCheck_ptr rfl rfl)) (by simp) ?_
  refine afl_float rfl rfl (opk_of (op_field_ptr u76 rfl info3 (by decide) rfl rfl rfl)) (by simp) ?_
  refine afl_float rfl rfl (opk_of (op_load_ptr u3 info3 rfl rfl rfl rfl)) (by simp) ?_
  refine afl_float rfl rfl (opk_of (op_im u22 info65)) (by simp) ?_
  refine afl_float rfl rfl (opk_of (op_load_rptr u65 info65 rfl rfl)) (by simp) ?_
  (refine afl_effR rfl rfl (by kernel_rfl) (op_alloc 6 info65 rfl rfl) (by simp) ?_; rintro _ _ ⟨ver6, rfl, rfl⟩; refine ⟨?_, ?_⟩)
  ·
   refine loose_k rfl (opk_of (op_load_rptr u65 info65 rfl rfl)) ?_
   refine loose_k rfl (opk_of (op_im u22 info65)) ?_
   refine loose_k rfl (opk_of (op_load_ptr u3 info3 rfl rfl rfl rfl)) ?_
   refine loose_k rfl (opk_of (op_field_ptr u76 rfl info3 (by decide) rfl rfl rfl)) ?_
   refine loose_k rfl (opk_of (op_nilCheck_ptr rfl rfl)) ?_
   refine loose_k rfl (opk_of (op_move rfl)) ?_
   refine loose_k rfl (opk_of (op_load_ptr u22 info22 rfl rfl rfl rfl)) ?_
   refine loose_k rfl (opk_of (op_field_ptr u76 rfl info22 (by decide) rfl rfl rfl)) ?_
   refine loose_k rfl (opk_of (op_nilCheck_ptr rfl rfl)) ?_
   refine loose_k rfl (opk_of (op_move rfl)) ?_
   exact loose_nil
  (refine afl_eff rfl rfl (by kernel_rfl) (op_sp info65) (by simp) ?_ ?_)
  ·
   refine loose_fix rfl ?_
   refine loose_anc 9 rfl (by kernel_rfl) ?_
   refine loose_anc 8 rfl (by kernel_rfl) ?_
   refine loose_anc 7 rfl (by kernel_rfl) ?_
   refine loose_anc 6 rfl (by kernel_rfl) ?_
   refine loose_anc 5 rfl (by kernel_rfl) ?_
   refine loose_anc 4 rfl (by kernel_rfl) ?_
   refine loose_anc 3 rfl (by kernel_rfl) ?_
   refine loose_anc 2 rfl (by kernel_rfl) ?_
   refine loose_anc 1 rfl (by kernel_rfl) ?_
   refine loose_anc 0 rfl (by kernel_rfl) ?_
   exact loose_nil
  refine afl_end ?_
  refine aw_seq ?_
  refine aw_sr ?_
  refine al_fp u65 info63 ?_
  refine al_ld u63 info63 ?_
  refine al_o (op_neq rfl rfl) ?_
  refine al_mv ?_
  apply al_and 4 44 48 rfl
  ·intro h4; have gh4 := h4
   simp only [nrm] at h4
   refine tk_fp u65 info63 ?_
   refine tk_ld u63 info63 ?_
   refine al_t (op_neq rfl rfl) ?_
   refine al_pk ?_
   exact al_nk gh4
  ·intro h4; have gh4 := h4
   simp only [nrm] at h4
   iterate 3 refine al_ps ?_
   refine al_pk ?_
   exact al_nk gh4
  refine al_mv ?_
  apply al_or 6 49 55 rfl
  ·intro h5; have gh5 := h5
   refine tk_fp u65 info9 ?_
   refine tk_ld u9 info9 ?_
   refine al_callp_take into136 rfl rfl rfl rfl rfl rfl ((r_strength _) _) (by simp) ?_
   refine tk_mv ?_
   refine al_t (op_neq rfl rfl) ?_
   refine al_pk ?_
   exact al_nk gh5
  ·intro h5; have gh5 := h5
   simp only [nrm] at h5
   iterate 5 refine al_ps ?_
   refine al_pk ?_
   exact al_nk gh5
  refine al_nil ?_
  refine aw_cond rfl (fun h6 => ?_) (fun h6 => ?_)
  ·have gh6 := h6
   simp only [nrm] at h6
   have gB := gh6
   refine aw_exit ?_
   refine aw_sr ?_
   refine al_ld u37 info37 ?_
   refine al_sp info37 ?_
   refine al_nil ?_
   refine aw_ret ?_
   refine ⟨_, res_cell rfl u37 info37 rfl rfl rfl rfl, ?_⟩
   exact rqk left s2 (hinv.2.alt fun _ => loop_stop (lev_no gB hj (by omega))) rfl
  have gh6 := h6
  simp only [nrm] at h6
  have gB := gh6
  have ha := lev_yes gB hj (by omega)
  refine aw_skip ?_
  refine aw_sr ?_
  refine al_mv ?_
  refine al_mv ?_
  refine al_o (op_nilCheck_ptr rfl rfl) ?_
  refine al_fp u76 info3 ?_
  refine al_ld u3 info3 ?_
  refine al_callp into85 rfl rfl rfl (q_hereA v0 l hl hn k s2 hinv.1 5 s2.i hlt rfl rfl) (by simp) ?_
  refine al_al 7 info37 fun ver7 => ?_
  refine al_sp info37 ?_
  refine al_sr ?_
  refine al_mv ?_
  refine al_o (op_nilCheck_ptr rfl rfl) ?_
  refine al_fp u76 info3 ?_
  refine al_ld u3 info3 ?_
  refine al_ad ?_
  refine al_o (op_nilCheck_ptr rfl rfl) ?_
  refine al_fp u76 info3 ?_
  refine al_sp info3 ?_
  refine al_sr ?_
  refine al_mv ?_
  refine al_mv ?_
  refine al_ad ?_
  refine al_call into80 rfl rfl rfl (rq_lift rfl (fun _ => rfl) (hR hm0 v0 ⟨s2.i + 1, s2.d, s2.F⟩ (hinv.1.step hlt)) _ (by rfl)) (by simp) ?_; rintro _ _ ⟨a72, s72, hq72, rfl, rfl⟩
  have hg72 : s2.i + 1 ≤ s72.i := hq72.ge
  refine al_al 8 info37 fun ver8 => ?_
  refine al_sp info37 ?_
  refine al_nil ?_
  refine aw_seq ?_
  refine aw_plan [0, 1, 2, 3, 4, 5, 6, 7, 8] (Checked.mixed Tryz.checked) (by kernel_rfl) ?_
  refine afl_float rfl rfl (opk_of (op_field_ptr u65 rfl info9 (by decide) rfl rfl rfl)) (by simp) ?_
  refine afl_float rfl rfl (opk_of (op_load_ptr u9 info9 rfl rfl rfl rfl)) (by simp) ?_
  refine afl_float rfl rfl (opk_of (op_load_ptr u37 info37 rfl rfl rfl rfl)) (by simp) ?_
  refine afl_float rfl rfl (opk_of (op_load_ptr u37 info37 rfl rfl rfl rfl)) (by simp) ?_
  refine afl_float rfl rfl (opk_of (op_list encE [left, a72] u31 info37 rfl rfl (by decide) rfl (by decide) rfl (by first | rfl | (repeat (first | exact parts_nil | refine parts_cons rfl (by repeat (first | exact all_live_nil | refine all_live_clo rfl ?_ | refine all_live_slice rfl ?_ | refine all_live_map rfl ?_ | refine all_live_ptr rfl ?_)) ?_))) rfl rfl rfl (kids2 _ _))) (by simp) ?_
  refine afl_float rfl rfl (opk_of (op_field_ptr u37 rfl info9 (by decide) rfl rfl rfl)) (by simp) ?_
  (refine afl_eff rfl rfl (by kernel_rfl) (op_sp info9) (by simp) ?_ ?_)
  ·
   refine loose_anc 5 rfl (by kernel_rfl) ?_
   refine loose_k rfl (opk_of (op_list encE [left, a72] u31 info37 rfl rfl (by decide) rfl (by decide) rfl (by first | rfl | (repeat (first | exact parts_nil | refine parts_cons rfl (by repeat (first | exact all_live_nil | refine all_live_clo rfl ?_ | refine all_live_slice rfl ?_ | refine all_live_map rfl ?_ | refine all_live_ptr rfl ?_)) ?_))) rfl rfl rfl (kids2 _ _))) ?_
   refine loose_k rfl (opk_of (op_load_ptr u37 info37 rfl rfl rfl rfl)) ?_
   refine loose_k rfl (opk_of (op_load_ptr u37 info37 rfl rfl rfl rfl)) ?_
   refine loose_anc 1 rfl (by kernel_rfl) ?_
   refine loose_anc 0 rfl (by kernel_rfl) ?_
   exact loose_nil
  refine afl_float rfl rfl (opk_of (op_field_ptr u37 rfl info31 (by decide) rfl rfl rfl)) (by simp) ?_
  (refine afl_eff rfl rfl (by kernel_rfl) (op_sp info31) (by simp) ?_ ?_)
  ·
   refine loose_anc 7 rfl (by kernel_rfl) ?_
   refine loose_fix rfl ?_
   refine loose_anc 5 rfl (by kernel_rfl) ?_
   refine loose_anc 4 rfl (by kernel_rfl) ?_
   refine loose_anc 3 rfl (by kernel_rfl) ?_
   refine loose_anc 2 rfl (by kernel_rfl) ?_
   refine loose_anc 1 rfl (by kernel_rfl) ?_
   refine loose_anc 0 rfl (by kernel_rfl) ?_
   exact loose_nil
  refine afl_end ?_
  refine aw_sr ?_
  refine al_ld u37 info37 ?_
  refine al_sp info37 ?_
  refine al_sr ?_
  refine al_mv ?_
  refine al_eq ?_
  refine al_nil ?_
  refine aw_cond rfl (fun h7 => ?_) (fun h7 => ?_)
  ·have gh7 := h7
   simp only [nrm] at h7
   have gT := gh7
   refine aw_exit ?_
   refine aw_sr ?_
   refine al_ld u37 info37 ?_
   refine al_sp info37 ?_
   refine al_nil ?_
   refine aw_ret ?_
   refine ⟨_, res_cell rfl u37 info37 rfl rfl rfl rfl, ?_⟩
   exact rqk (mkE 5 (tokAt l s2.i).text 0 [] [left, a72] (tokAt l s2.i)) s72 ((hinv.2.step ho hlt).call2 hq72 (fun g _ e => loop_bad ha e) (fun _ e => loop_one ha e (by simp only [nrm] at gT; omega))) rfl
  have gh7 := h7
  simp only [nrm] at h7
  have gT := gh7
  refine aw_skip ?_
  refine ⟨mkE 5 (tokAt l s2.i).text 0 [] [left, a72] (tokAt l s2.i), s72, ?_, ?_, ?_, ?_, ?_⟩
  ·omega
  ·exact ⟨(hinv.1.step hlt).after hq72, (hinv.2.step ho hlt).call2 hq72 (fun g _ e => loop_bad ha e) (fun _ e => (loop_step (row_gt (factor_gt (k - 1)) _) ha e (by simp only [nrm] at gT; omega)).symm)⟩
  ·exact sub_nil
  ·exact sbl
  ·rfl
 have gh3 := h3
 have gL := gh3
 refine aw_exit ?_
 refine aw_sr ?_
 refine al_ld u37 info37 ?_
 refine al_sp info37 ?_
 refine al_nil ?_
 refine aw_ret ?_
 refine ⟨_, res_cell rfl u37 info37 rfl rfl rfl rfl, ?_⟩
 exact rqk left s2 (hinv.2.alt fun ho => loop_stop (isAt_out (loop_out gL ho))) rfl
theorem q_expr (v0 : Nat) (l : List Tk) (hl : ∀ t ∈ l, possT t = true) (hn : l.length ≤ 1000000) (k : Nat) (s : Qs) (hs : QH l k s) (hR : AC Tryz.prog 80 [.ptr 0 v0 0 0, .v (.int .i64 (1))] (rq v0 l s []) (RqK v0 l encX (QR l (rowP l (factor l (k - 1)) 4 s.i) 0 s)))  : AC Tryz.prog 42 [.ptr 0 v0 0 0] (rq v0 l s []) (fun r σ' => RqK v0 l encX (QR l (rowD l (k - 1) 4 s.i) (0) s) r σ') := by
 have hi := hs.1
 have hd := hs.2.2.2.2
 refine ace 5 Tryz.func42 ?_
 refine aw_sr ?_
 refine al_al 2 info37 fun ver2 => ?_
 refine al_sr ?_
 refine al_mv ?_
 (refine al_call into80 rfl rfl rfl (rq_lift rfl (fun _ => rfl) (hR) _ (by rfl)) (by simp) ?_; rintro _ _ ⟨a4, s4, hq4, rfl, rfl⟩)
 refine al_sp info37 ?_
 refine al_nil ?_
 refine aw_ret ?_
 refine ⟨_, res_cell rfl u37 info37 rfl rfl rfl rfl, ?_⟩
 exact rqk a4 s4 hq4 rfl
theorem q_factor (v0 : Nat) (l : List Tk) (hl : ∀ t ∈ l, possT t = true) (hn : l.length ≤ 1000000) (k : Nat) (s : Qs) (hs : QH l k s) (hF : 1 ≤ k → ∀ (v0 : Nat) (s : Qs), QH l (k - 1) s → AC Tryz.prog 135 [.ptr 0 v0 0 0] (rq v0 l s []) (RqK v0 l encX (QR l (factor l (k - 1 - 1) s.i) 0 s))) (hP : AC Tryz.prog 176 [.ptr 0 v0 0 0] (rq v0 l s []) (RqK v0 l encX (QR l (primP l (k - 1) (innerD l (k - 1)) s.i) 0 s)))  : AC Tryz.prog 135 [.ptr 0 v0 0 0] (rq v0 l s []) (fun r σ' => RqK v0 l encX (QR l (factor l (k - 1) s.i) (0) s) r σ') := by
 have hi := hs.1
 have hd := hs.2.2.2.2
 have htl : [sNot, sMinus].length = 2 := rfl
 refine ace 41 Tryz.func135 ?_
 refine aw_sr ?_
 refine al_al 2 info37 fun ver2 => ?_
 refine al_nil ?_
 refine aw_seq ?_
 refine aw_sr ?_
 refine al_o (op_ol encBs [sNot, sMinus] u32 info9) ?_
 refine al_lm u32 ?_
 refine al_mv ?_
 refine al_nil ?_
 refine aw_block ?_
 refine aw_forT (ι := Nat) [8] [5] (fun t => 2 - t) (fun t => t ≤ 2 ∧ ∀ u, u < t → isQ l s ([sNot, sMinus].getD u default) = false) (fun t => ([(8, .v (.int .i64 ((t : Nat) : Int)))] : Env)) (fun t s => s) (0) ?_ ?_ ?_ (fun t hinv => ?_)
 ·exact ⟨by omega, fun u hu => absurd hu (Nat.not_lt_zero u)⟩
 ·refine sub_1 ?_
  all_goals (first | rfl | simp)
 ·rfl
 have ht2 := hinv.1
 refine aw_sr ?_
 refine al_ls ?_
 refine al_nil ?_
 refine aw_seq ?_
 refine aw_cond rfl (fun h1 => ?_) (fun h1 => ?_)
 ·have gh1 := h1
  simp only [nrm] at h1
  refine aw_skip ?_
  refine aw_seq ?_
  refine aw_block ?_
  refine aw_sr ?_
  refine al_o (op_im u32 info9) ?_
  refine al_lr u9 info9 ?_
  refine al_gs ?_
  refine al_sr ?_
  refine al_mv ?_
  refine al_mv ?_
  refine al_callp into87 rfl rfl rfl (q_isA v0 l hl hn k s hs _ rfl rfl) (by simp) ?_
  refine al_nil ?_
  refine aw_cond rfl (fun gh2 => ?_) (fun gh2 => ?_)
  ·have gI := gh2
   obtain ⟨ho, ha⟩ := isQ_yes (t := [sNot, sMinus].getD t default) hs.2.1 gI
   have hlt := isAt_lt ha
   refine aw_sr ?_
   refine al_mv ?_
   refine al_mv ?_
   refine al_o (op_nilCheck_ptr rfl rfl) ?_
   refine al_fp u76 info3 ?_
   refine al_ld u3 info3 ?_
   refine al_callp into85 rfl rfl rfl (q_hereA v0 l hl hn k s hs 5 s.i hlt rfl rfl) (by simp) ?_
   refine al_al 5 info37 fun ver5 => ?_
   refine al_sp info37 ?_
   refine al_sr ?_
   refine al_mv ?_
   refine al_mv ?_
   refine al_call into97 rfl rfl rfl (rq_lift rfl (fun _ => rfl) (q_deeper v0 l hl hn k s hs ([sNot, sMinus].getD t default)) _ (by rfl)) (by simp) ?_; rintro _ _ ⟨a23, s23, hq23, rfl, rfl⟩
   have hs23 := hs.into ho hq23
   refine al_sr ?_
   refine al_mv ?_
   refine al_mv ?_
   refine al_call into135 rfl rfl rfl (rq_lift rfl (fun _ => rfl) (hF (hs.2.2.1 ho).1 v0 s23 hs23) _ (by rfl)) (by simp) ?_; rintro _ _ ⟨a26, s26, hq26, rfl, rfl⟩
   have hd26 := (hs23.after hq26).2.2.2.2
   refine al_o (op_list encE [a26] u31 info37 rfl rfl (by decide) rfl (by decide) rfl (by first | rfl | (repeat (first | exact parts_nil | refine parts_cons rfl (by repeat (first | exact all_live_nil | refine all_live_clo rfl ?_ | refine all_live_slice rfl ?_ | refine all_live_map rfl ?_ | refine all_live_ptr rfl ?_)) ?_))) rfl rfl rfl (kids1 _)) ?_
   refine al_fp u37 info9 ?_
   refine al_sp info9 ?_
   refine al_fp u37 info31 ?_
   refine al_sp info31 ?_
   refine al_sr ?_
   refine al_mv ?_
   refine al_o (op_nilCheck_ptr rfl rfl) ?_
   refine al_fp u76 info3 ?_
   refine al_ld u3 info3 ?_
   refine al_o (op_sub rfl rfl (by first | exact wrap_i64 (by omega) (by omega))) ?_
   refine al_o (op_nilCheck_ptr rfl rfl) ?_
   refine al_fp u76 info3 ?_
   refine al_sp info3 ?_
   refine al_sr ?_
   refine al_ld u37 info37 ?_
   refine al_sp info37 ?_
   refine al_nil ?_
   refine aw_ret ?_
   refine ⟨_, res_cell rfl u37 info37 rfl rfl rfl rfl, ?_⟩
   exact rqk (mkE 5 ([sNot, sMinus].getD t default) 0 [] [a26] (tokAt l s.i)) ⟨s26.i, s26.d - 1, s26.F⟩ (fac_leaf hs (two_text (by omega)) ho ha hq23 hq26) rfl
  have gI := gh2
  refine aw_skip ?_
  refine aw_region ?_
  refine al_ad ?_
  refine al_mv ?_
  refine al_nil ?_
  refine ⟨t + 1, ?_, ?_, ?_, ?_, ?_⟩
  ·omega
  ·exact ⟨by omega, fun u hu => by
    rcases Nat.lt_or_ge u t with h | h
    · exact hinv.2 u h
    · rw [show u = t by omega]; simpa using gI⟩
  ·refine sub_1 ?_
   all_goals (first | rfl | simp)
  ·exact sbl
  ·rfl
 have gh1 := h1
 simp only [nrm] at h1
 refine aw_exit ?_
 refine aw_sr ?_
 refine al_mv ?_
 (refine al_call into176 rfl rfl rfl (rq_lift rfl (fun _ => rfl) (hP) _ (by rfl)) (by simp) ?_; rintro _ _ ⟨a40, s40, hq40, rfl, rfl⟩)
 refine al_sp info37 ?_
 refine al_nil ?_
 refine aw_ret ?_
 refine ⟨_, res_cell rfl u37 info37 rfl rfl rfl rfl, ?_⟩
 exact rqk a40 s40 (hq40.same fun ho => fac_prim (fun u hu => hinv.2 u (by omega)) ho) rfl
end Go.Proofs.YtcgdlhkiecommaaGreatDoor
/- Printed walks (gen.py, lexer_ann.py): part 463. -/




namespace Go.Proofs.YtcgdlhkiecommaaGreatDoor
open Go
theorem q_of (c : UInt8) (hc : isBitC c = true) : ACp Tryz.prog 217 [.v (.int .u8 ((c).toNat : Int))] (.tuple [.v (.int .u8 (bitCode c)), .v (.bool true)]) := by
 refine acp_of rfl ?_
 refine ace 13 Tryz.func217 ?_
 refine aw_sr ?_
 refine al_gs ?_
 refine al_gs ?_
 refine al_nil ?_
 refine aw_seq ?_
 refine aw_sr ?_
 refine al_mv ?_
 refine al_nil ?_
 refine aw_block ?_
 refine aw_sr ?_
 refine al_eq ?_
 refine al_gs ?_
 refine al_nil ?_
 refine aw_cond rfl (fun h1 => ?_) (fun h1 => ?_)
 ·have gh1 := h1
  simp only [nrm] at h1
  refine aw_sr ?_
  refine al_gs ?_
  refine al_gs ?_
  refine al_nil ?_
  refine fz2 (t := 2) (u := 3) ?_
  refine aw_ret ?_
  refine ⟨_, res_2 rfl rfl rfl rfl rfl, ?_, rfl⟩
  obtain rfl := of_bit (c := c) (k := 48) (by simpa using gh1) (by decide)
  rfl
 have gh1 := h1
 simp only [nrm] at h1
 refine aw_sr ?_
 refine al_eq ?_
 refine al_gs ?_
 refine al_nil ?_
 refine aw_cond rfl (fun h2 => ?_) (fun h2 => ?_)
 ·have gh2 := h2
  simp only [nrm] at h2
  refine aw_sr ?_
  refine al_gs ?_
  refine al_gs ?_
  refine al_nil ?_
  refine fz2 (t := 2) (u := 3) ?_
  refine aw_ret ?_
  refine ⟨_, res_2 rfl rfl rfl rfl rfl, ?_, rfl⟩
  obtain rfl := of_bit (c := c) (k := 49) (by simpa using gh2) (by decide)
  rfl
 have gh2 := h2
 simp only [nrm] at h2
 refine aw_sr ?_
 refine al_eq ?_
 refine al_gs ?_
 refine al_nil ?_
 refine aw_cond rfl (fun h3 => ?_) (fun h3 => ?_)
 ·have gh3 := h3
  simp only [nrm] at h3
  refine aw_sr ?_
  refine al_gs ?_
  refine al_gs ?_
  refine al_nil ?_
  refine fz2 (t := 2) (u := 3) ?_
  refine aw_ret ?_
  refine ⟨_, res_2 rfl rfl rfl rfl rfl, ?_, rfl⟩
  obtain rfl := of_bit (c := c) (k := 120) (by simpa using gh3) (by decide)
  rfl
 have gh3 := h3
 simp only [nrm] at h3
 refine aw_sr ?_
 refine al_eq ?_
 refine al_gs ?_
 refine al_nil ?_
 refine aw_cond rfl (fun h4 => ?_) (fun h4 => ?_)
 ·have gh4 := h4
  simp only [nrm] at h4
  refine aw_sr ?_
  refine al_gs ?_
  refine al_gs ?_
  refine al_nil ?_
  refine fz2 (t := 2) (u := 3) ?_
  refine aw_ret ?_
  refine ⟨_, res_2 rfl rfl rfl rfl rfl, ?_, rfl⟩
  obtain rfl := of_bit (c := c) (k := 122) (by simpa using gh4) (by decide)
  rfl
 have gh4 := h4
 simp only [nrm] at h4
 refine aw_skip ?_
 refine aw_sr ?_
 refine al_gs ?_
 refine al_gs ?_
 refine al_nil ?_
 refine fz2 (t := 2) (u := 3) ?_
 refine aw_ret ?_
 refine ⟨_, res_2 rfl rfl rfl rfl rfl, ?_, rfl⟩
 exact absurd hc (by rw [isBitC_no gh1 gh2 gh3 gh4]; decide)
theorem q_parse (s : Bs) (hv : isVecL s = true) : ACp Tryz.prog 206 [.v (.string (str (s)))] (.tuple [.list 1 ((parseBits s).map encB), .v (.int .i64 0)]) := by
 refine acp_of rfl ?_
 obtain ⟨v1, v2, v3⟩ := isVec_facts hv
 refine ace 40 Tryz.func206 ?_
 refine aw_sr ?_
 refine al_gs ?_
 refine al_gs ?_
 refine al_nil ?_
 refine aw_seq ?_
 refine aw_sr ?_
 refine al_mv ?_
 refine al_o (op_slen_str (ts := #[]) u9 rfl) ?_
 refine al_ls ?_
 refine al_mv ?_
 apply al_or 4 11 15 rfl
 ·intro h1; have gh1 := h1
  simp only [nrm] at h1
  refine tk_mv ?_
  refine al_t (op_slen_str (ts := #[]) u9 rfl) ?_
  refine al_t (op_gtr rfl rfl) ?_
  refine al_pk ?_
  exact al_nk gh1
 ·intro h1; have gh1 := h1
  simp only [nrm] at h1
  iterate 3 refine al_ps ?_
  refine al_pk ?_
  exact al_nk gh1
 refine al_nil ?_
 refine aw_cond rfl (fun h2 => ?_) (fun h2 => ?_)
 ·have gh2 := h2
  simp only [nrm] at h2
  exact absurd gh2 (by simp; omega)
 have gh2 := h2
 simp only [nrm] at h2
 refine aw_skip ?_
 refine aw_sr ?_
 refine al_gs ?_
 refine al_nil ?_
 refine aw_seq ?_
 refine aw_sr ?_
 refine al_mv ?_
 refine al_o (op_slen_str (ts := #[]) u9 rfl) ?_
 refine al_mv ?_
 refine al_nil ?_
 refine aw_block ?_
 refine aw_own_map encB 4 1 4 rfl rfl (fun ver4 => ?_)
 refine aw_for2T (α := Nat) (β := Nat) [2, 3, 4, 18] [] (fun i ver => s.length - i) (fun i ver => i ≤ s.length) (fun i ver => ([(4, .slice 4 ver 0 (((s.map bitCode).reverse.take i)).length), (18, .v (.int .i64 ((i : Nat) : Int)))] : Env)) (fun i ver s0 => s0.put 4 ver (.row 1 (((s.map bitCode).reverse.take i).map encB))) (0) (ver4) ?_ ?_ ?_ (fun i ver hinv => ?_)
 ·exact Nat.zero_le _
 ·refine sub_2 ?_ ?_
  all_goals (first | rfl | (simp; done) | (rw [bits_step (by omega)] <;> rfl))
 ·rfl
 refine aw_sr ?_
 refine al_ls ?_
 refine al_nil ?_
 refine aw_seq ?_
 refine aw_cond rfl (fun h3 => ?_) (fun h3 => ?_)
 ·have gh3 := h3
  simp only [nrm] at h3
  refine aw_skip ?_
  refine aw_seq ?_
  refine aw_block ?_
  refine aw_sr ?_
  refine al_mv ?_
  refine al_gs ?_
  refine al_sr ?_
  refine al_mv ?_
  refine al_mv ?_
  refine al_o (op_slen_str (ts := #[]) u9 rfl) ?_
  refine al_o (op_sub rfl rfl (by first | exact wrap_i64 (by omega) (by omega))) ?_
  refine al_mv ?_
  refine al_o (val_as (.v (.int .i64 (((s.length - 1 - i : Nat) : Nat) : Int))) (op_sub rfl rfl (by first | exact wrap_i64 (by omega) (by omega))) (by exact congrArg (fun x : Int => AVal.v (.int .i64 x)) (by omega))) ?_
  refine al_o (op_sidx_str u9 rfl rfl (by first | (with_reducible exact Int.toNat_natCast _) | rfl) (by omega) (by first | omega | (simp; omega))) ?_
  refine al_callp into217 rfl rfl rfl (q_of (s.getD (s.length - 1 - i) default) (v3 _ (by omega)) _) (by simp) ?_
  refine al_mv ?_
  refine al_xt ?_
  refine al_xt ?_
  refine al_gs ?_
  refine al_gs ?_
  refine al_nil ?_
  refine aw_seq ?_
  refine aw_sr ?_
  refine al_mv ?_
  refine al_o (op_not rfl) ?_
  refine al_nil ?_
  refine aw_cond rfl (fun h4 => ?_) (fun h4 => ?_)
  ·have gh4 := h4
   simp only [nrm] at h4
   cases h4
  have gh4 := h4
  simp only [nrm] at h4
  refine aw_skip ?_
  refine aw_region ?_
  refine al_mv ?_
  refine al_mv ?_
  refine al_o (op_ol encB [bitCode (s.getD (s.length - 1 - i) default)] u26 info97) ?_
  (refine al_opR (op_am u26 u26 info97 1) rfl (by simp) ?_; rintro _ _ ⟨ver37, rfl, rfl⟩)
  refine al_gs ?_
  refine al_nil ?_
  refine aw_region ?_
  refine al_ad ?_
  refine al_mv ?_
  refine al_nil ?_
  refine ⟨i + 1, ver37, ?_, ?_, ?_, ?_, ?_⟩
  ·omega
  ·omega
  ·refine sub_2 ?_ ?_
   all_goals (first | rfl | (simp; done) | (rw [bits_step (by omega)] <;> rfl))
  ·exact sbl
  ·first | rfl | (rw [bits_step (by omega)] <;> rfl)
 have gh3 := h3
 simp only [nrm] at h3
 refine aw_exit ?_
 obtain rfl : i = s.length := by omega
 refine aw_sr ?_
 refine al_mv ?_
 refine al_gs ?_
 refine al_gs ?_
 refine al_nil ?_
 refine aw_freeze (fun _ => false) (fsub_cons (t := 2) rfl (by first | exact .leaf _ _ (frz_whole rfl rfl (by first | rfl | (simp; done) | (simp; omega)) (clo_map (fun _ => rfl))) | exact .leaf _ _ (.vnil 1) | exact .leaf _ _ (.nil 1) | exact .leaf _ _ (.same _)) (fsub_cons (t := 3) rfl (.leaf _ _ (.same _)) fsub_nil)) ?_
 refine aw_ret ?_
 refine ⟨_, res_2 rfl rfl rfl rfl rfl, ?_, rfl⟩
 rw [← bits_all hv]
theorem q_bits (s : Bs) (hv : isVecL s = true) : ACp Tryz.prog 197 [.v (.string (str (s)))] (.list 1 ((parseBits s).map encB)) := by
 refine acp_of rfl ?_
 refine ace 11 Tryz.func197 ?_
 refine aw_sr ?_
 refine al_gs ?_
 refine al_sr ?_
 refine al_mv ?_
 refine al_callp into206 rfl rfl rfl (q_parse s hv _) (by simp) ?_
 refine al_mv ?_
 refine al_xt ?_
 refine al_xt ?_
 refine al_gs ?_
 refine al_gs ?_
 refine al_sr ?_
 refine al_mv ?_
 refine al_gs ?_
 refine al_nil ?_
 refine aw_freeze (fun _ => false) (fsub_cons (t := 2) rfl (by first | exact .leaf _ _ (frz_whole rfl rfl (by first | rfl | (simp; done) | (simp; omega)) (clo_map (fun _ => rfl))) | exact .leaf _ _ (.vnil 1) | exact .leaf _ _ (.nil 1) | exact .leaf _ _ (.same _)) fsub_nil) ?_
 refine aw_ret ?_
 refine ⟨_, res_1 rfl rfl, ?_, rfl⟩
 rfl
end Go.Proofs.YtcgdlhkiecommaaGreatDoor
/- Printed walks (gen.py, lexer_ann.py): part 464. -/




namespace Go.Proofs.YtcgdlhkiecommaaGreatDoor
open Go
theorem q_partF (v0 : Nat) (l : List Tk) (hl : ∀ t ∈ l, possT t = true) (hn : l.length ≤ 1000000) (k : Nat) (s : Qs) (hs : QH l k s) (ho : s.F = okF) (ha : isAt l [sOpen] s.i = true) (hE : ∀ (v0 : Nat) (s : Qs), QH l (k - 1) s → AC Tryz.prog 42 [.ptr 0 v0 0 0] (rq v0 l s []) (RqK v0 l encX (QR l (rowD l (k - 1 - 1) 4 s.i) 0 s))) (e : Ex) (b : Bool)  : AC Tryz.prog 88 [.ptr 0 v0 0 0, .agg (cellsE (e)), .v (.bool (b))] (rq v0 l s []) (fun r σ' => RqF v0 l (QR l (partS l (k - 1) (innerD l (k - 1)) b e s.i) 0 s) r σ') := by
 have hi := hs.1
 have hd := hs.2.2.2.2
 have hlt := isAt_lt ha
 refine ace 78 Tryz.func88 ?_
 refine aw_sr ?_
 refine al_bx 4 fun ver4 => ?_
 refine al_al 6 info37 fun ver6 => ?_
 refine al_sr ?_
 refine al_mv ?_
 refine al_mv ?_
 refine al_o (op_nilCheck_ptr rfl rfl) ?_
 refine al_fp u76 info3 ?_
 refine al_ld u3 info3 ?_
 refine al_callp into85 rfl rfl rfl (q_hereA v0 l hl hn k s hs 6 s.i hlt rfl rfl) (by simp) ?_
 refine al_al 7 info37 fun ver7 => ?_
 refine al_sp info37 ?_
 refine al_sr ?_
 refine al_mv ?_
 refine al_call into97 rfl rfl rfl (rq_lift rfl (fun _ => rfl) (q_deeper v0 l hl hn k s hs sOpen) _ (by rfl)) (by simp) ?_; rintro _ _ ⟨a16, s16, hq16, rfl, rfl⟩
 have hs16 := hs.into ho hq16
 refine al_sr ?_
 refine al_mv ?_
 refine al_call into42 rfl rfl rfl (rq_lift rfl (fun _ => rfl) (hE v0 s16 hs16) _ (by rfl)) (by simp) ?_; rintro _ _ ⟨a18, s18, hq18, rfl, rfl⟩
 have hs18 := hs16.after hq18
 have hl1 : [a18].length = 1 := rfl
 have hok18 : s18.F = okF → s16.F = okF := fun h => (hq18.ok h).1
 have p18 := part_p2 ho hq16 (part_p1 (b := b) (e := e) hs hq16) hq18
 (refine al_opR (op_list_own encE [a18] 19 u31 info37 rfl rfl (by decide) rfl (by decide) rfl (by first | rfl | (repeat (first | exact parts_nil | refine parts_cons rfl (by repeat (first | exact all_live_nil | refine all_live_clo rfl ?_ | refine all_live_slice rfl ?_ | refine all_live_map rfl ?_ | refine all_live_ptr rfl ?_)) ?_))) rfl rfl (by first | rfl | (repeat (first | exact parts_nil | refine parts_cons rfl (by repeat (first | exact all_live_nil | refine all_live_clo rfl ?_ | refine all_live_slice rfl ?_ | refine all_live_map rfl ?_ | refine all_live_ptr rfl ?_)) ?_))) (kids1 _) rfl) rfl (by simp) ?_; rintro _ _ ⟨ver19, rfl, rfl⟩)
 refine al_gs ?_
 refine al_nil ?_
 refine aw_seq ?_
 refine aw_sr ?_
 refine al_mv ?_
 refine al_callp into87 rfl rfl rfl (q_isA v0 l hl hn (k - 1) s18 hs18 sDownto rfl rfl) (by simp) ?_
 refine al_nil ?_
 refine aw_cond rfl (fun gh1 => ?_) (fun gh1 => ?_)
 ·have gD := gh1
  refine aw_sr ?_
  refine al_mv ?_
  refine al_call into99 rfl rfl rfl (rq_lift rfl (fun _ => rfl) (q_need v0 l hl hn (k - 1) s18 hs18 sDownto) _ (by rfl)) (by simp) ?_; rintro _ _ ⟨a23, s23, hq23, rfl, rfl⟩
  have hs23 := hs18.after hq23.1
  refine al_nil ?_
  refine aw_seq ?_
  refine aw_plan [0, 1, 2, 3, 4, 7, 5, 6, 8, 9, 10] (Checked.mixed Tryz.checked) (by kernel_rfl) ?_
  refine afl_float rfl rfl (opk_of (op_load_ptr u37 info37 rfl rfl rfl rfl)) (by simp) ?_
  refine afl_float rfl rfl (opk_of (op_move rfl)) (by simp) ?_
  refine afl_float rfl rfl (opk_of (op_index_slice u31 info37 rfl rfl rfl rfl (by omega) (by omega))) (by simp) ?_
  refine afl_float rfl rfl (opk_of (val_as (.agg (cellsE (a18))) (op_load_map (l := [a18]) u37 info37 rfl rfl (by omega) (asE _)) (by rfl))) (by simp) ?_
  refine afl_float rfl rfl (opk_of (op_move rfl)) (by simp) ?_
  refine afl_float rfl rfl (opk_of (op_field_ptr u37 rfl info25 (by decide) rfl rfl rfl)) (by simp) ?_
  refine afl_callP rfl (by kernel_rfl) into42 rfl rfl rfl (rq_lift rfl (fun _ => rfl) (hE v0 s23 hs23) _ (by rfl)) (by simp) ?_; rintro _ _ ⟨a29, s29, hq29, rfl, rfl⟩
  have hs29 := hs23.after hq29
  refine ⟨?_, ?_⟩
  ·
   refine loose_k rfl (opk_of (op_field_ptr u37 rfl info25 (by decide) rfl rfl rfl)) ?_
   refine loose_anc 4 rfl (by kernel_rfl) ?_
   refine loose_k rfl (opk_of (val_as (.agg (cellsE (a18))) (op_load_map (l := [a18]) u37 info37 rfl rfl (by omega) (asE _)) (by rfl))) ?_
   refine loose_k rfl (opk_of (op_index_slice u31 info37 rfl rfl rfl rfl (by omega) (by omega))) ?_
   refine loose_k rfl (opk_of (op_move rfl)) ?_
   refine loose_k rfl (opk_of (op_load_ptr u37 info37 rfl rfl rfl rfl)) ?_
   exact loose_nil
  refine afl_float rfl rfl (opk_of (op_list encE [e, a18, a29] u31 info37 rfl rfl (by decide) rfl (by decide) rfl (by first | rfl | (repeat (first | exact parts_nil | refine parts_cons rfl (by repeat (first | exact all_live_nil | refine all_live_clo rfl ?_ | refine all_live_slice rfl ?_ | refine all_live_map rfl ?_ | refine all_live_ptr rfl ?_)) ?_))) rfl rfl rfl (kids3 _ _ _))) (by simp) ?_
  (refine afl_eff rfl rfl (by kernel_rfl) (op_sp info25) (by simp) ?_ ?_)
  ·
   refine loose_k rfl (opk_of (op_list encE [e, a18, a29] u31 info37 rfl rfl (by decide) rfl (by decide) rfl (by first | rfl | (repeat (first | exact parts_nil | refine parts_cons rfl (by repeat (first | exact all_live_nil | refine all_live_clo rfl ?_ | refine all_live_slice rfl ?_ | refine all_live_map rfl ?_ | refine all_live_ptr rfl ?_)) ?_))) rfl rfl rfl (kids3 _ _ _))) ?_
   refine loose_fix rfl ?_
   refine loose_anc 7 rfl (by kernel_rfl) ?_
   refine loose_anc 4 rfl (by kernel_rfl) ?_
   refine loose_k rfl (opk_of (val_as (.agg (cellsE (a18))) (op_load_map (l := [a18]) u37 info37 rfl rfl (by omega) (asE _)) (by rfl))) ?_
   refine loose_k rfl (opk_of (op_index_slice u31 info37 rfl rfl rfl rfl (by omega) (by omega))) ?_
   refine loose_k rfl (opk_of (op_move rfl)) ?_
   refine loose_k rfl (opk_of (op_load_ptr u37 info37 rfl rfl rfl rfl)) ?_
   exact loose_nil
  refine afl_float rfl rfl (opk_of (op_field_ptr u37 rfl info31 (by decide) rfl rfl rfl)) (by simp) ?_
  (refine afl_eff rfl rfl (by kernel_rfl) (op_sp info31) (by simp) ?_ ?_)
  ·
   refine loose_anc 9 rfl (by kernel_rfl) ?_
   refine loose_fix rfl ?_
   refine loose_anc 6 rfl (by kernel_rfl) ?_
   refine loose_fix rfl ?_
   refine loose_anc 7 rfl (by kernel_rfl) ?_
   refine loose_anc 4 rfl (by kernel_rfl) ?_
   refine loose_anc 3 rfl (by kernel_rfl) ?_
   refine loose_anc 2 rfl (by kernel_rfl) ?_
   refine loose_anc 1 rfl (by kernel_rfl) ?_
   refine loose_anc 0 rfl (by kernel_rfl) ?_
   exact loose_nil
  refine afl_end ?_
  refine aw_sr ?_
  refine al_mv ?_
  (refine al_call into98 rfl rfl rfl (rq_lift rfl (fun _ => rfl) (q_closed v0 l hl hn (k - 1) s29 hs29) _ (by rfl)) (by simp) ?_; rintro _ _ ⟨a34, s34, hq34, rfl, rfl⟩)
  refine al_sr ?_
  refine al_ld u37 info37 ?_
  refine al_sp info37 ?_
  refine al_nil ?_
  refine aw_ret ?_
  refine ⟨_, res_cell rfl u37 info37 rfl rfl rfl rfl, ?_⟩
  exact rqf (mkE 7 [] 0 [] [e, a18, a29] (tokAt l s.i)) s34 (part_sl hq16 hok18 p18 (isQ_yes hs18.2.1 (by simpa using gD)).2 (isQ_yes hs18.2.1 (by simpa using gD)).1 hq23.1 hq29 hq34) (.one _ _ (.leaf _ _ (.same _))) rfl
 have gD := gh1
 refine aw_skip ?_
 refine aw_seq ?_
 refine aw_block ?_
 refine aw_for3T (α := List Ex) (β := Qs) (γ := Nat) [8] [] (fun kids s2 ver => l.length - s2.i) (fun kids s2 ver => QH l (k - 1) s2 ∧ (1 ≤ kids.length ∧ kids.length ≤ 21 ∧ (s2.F = okF → kids.length ≤ 20)) ∧ (s2.F = okF → s16.F = okF) ∧ QP l (partS l (k - 1) (innerD l (k - 1)) b e s.i) 1 s (tailS l (innerD l (k - 1)) e (tokAt l s.i) b kids s2.i) s2) (fun kids s2 ver => ([(8, .slice 19 ver 0 kids.length)] : Env)) (fun kids s2 ver st => ([(0, v0, .row 7 [rdq l s2]), (4, ver4, .row 16 [cellsE e]), (6, ver6, .row 16 [zeroE]), (7, ver7, .row 16 [cellsE (mkE 6 [] 0 [] [] (tokAt l s.i))]), (19, ver, .row 16 (kids.map encE))] : Store)) ([a18]) (s18) (ver19) ?_ ?_ ?_ (fun kids s2 ver hinv => ?_)
 ·exact ⟨hs18, ⟨Nat.le_refl _, by simp, fun _ => by simp⟩, hok18, p18.alt fun ho8 => if_neg (by rw [isQ_no (by simpa using gD) ho8]; exact Bool.false_ne_true)⟩
 ·refine sub_1 ?_
  all_goals (first | rfl | simp)
 ·rfl
 have hi2 := hinv.1.1
 have hd2 := hinv.1.2.2.2.2
 have hk2 := hinv.2.1
 refine aw_seq ?_
 refine aw_sr ?_
 refine al_mv ?_
 refine al_mv ?_
 apply al_and 3 37 40 rfl
 ·intro gh2
  refine tk_mv ?_
  refine al_callp_take into87 rfl rfl rfl rfl rfl rfl (q_isA v0 l hl hn (k - 1) s2 hinv.1 sComma rfl rfl) (by simp) ?_
  refine al_pk ?_
  exact al_nk gh2
 ·intro gh2
  iterate 2 refine al_ps ?_
  refine al_pk ?_
  exact al_nk gh2
 refine al_nil ?_
 refine aw_cond rfl (fun h3 => ?_) (fun h3 => ?_)
 ·have gh3 := h3
  simp only [nrm] at h3
  have gC := gh3
  obtain ⟨hb, ho2, ha2⟩ := comma_yes hinv.1.2.1 gC
  have hlt2 := isAt_lt ha2
  have hk20 := hinv.2.1.2.2 ho2
  refine aw_skip ?_
  refine aw_block ?_
  refine aw_seq ?_
  refine aw_sr ?_
  refine al_mv ?_
  refine al_o (op_len_slice u31 rfl rfl) ?_
  refine al_eq ?_
  refine al_nil ?_
  refine aw_cond rfl (fun h4 => ?_) (fun h4 => ?_)
  ·have gh4 := h4
   simp only [nrm] at h4
   have gN := gh4
   have hn20 : kids.length = 20 := by have := gN; simp only [beq_iff_eq] at this; omega
   refine aw_region ?_
   refine al_mv ?_
   refine al_mv ?_
   refine al_o (op_nilCheck_ptr rfl rfl) ?_
   refine al_fp u76 info3 ?_
   refine al_ld u3 info3 ?_
   refine al_call into84 rfl rfl rfl (rq_lift rfl (fun _ => rfl) (q_fail v0 l hl hn (k - 1) s2 hinv.1 11 (by decide) s2.i hi2) _ (by rfl)) (by simp) ?_; rintro _ _ ⟨a49, s49, hq49, rfl, rfl⟩
   have hs49 := hinv.1.after hq49.1
   have hlt49 : s49.i < l.length := by rw [hq49.2.2]; exact hlt2
   refine al_sr ?_
   refine al_mv ?_
   refine al_o (op_nilCheck_ptr rfl rfl) ?_
   refine al_fp u76 info3 ?_
   refine al_ld u3 info3 ?_
   refine al_ad ?_
   refine al_o (op_nilCheck_ptr rfl rfl) ?_
   refine al_fp u76 info3 ?_
   refine al_sp info3 ?_
   refine al_nil ?_
   refine aw_region ?_
   refine al_mv ?_
   refine al_mv ?_
   refine al_call into42 rfl rfl rfl (rq_lift rfl (fun _ => rfl) (hE v0 ⟨s49.i + 1, s49.d, s49.F⟩ (hs49.step hlt49)) _ (by rfl)) (by simp) ?_; rintro _ _ ⟨a59, s59, hq59, rfl, rfl⟩
   have hg59 : s49.i + 1 ≤ s59.i := hq59.ge
   have hi49 := hq49.2.2
   refine al_o (op_list encE [a59] u31 info37 rfl rfl (by decide) rfl (by decide) rfl (by first | rfl | (repeat (first | exact parts_nil | refine parts_cons rfl (by repeat (first | exact all_live_nil | refine all_live_clo rfl ?_ | refine all_live_slice rfl ?_ | refine all_live_map rfl ?_ | refine all_live_ptr rfl ?_)) ?_))) rfl rfl rfl (kids1 _)) ?_
   (refine al_opR (op_append_one a59 u31 u31 rfl info37 rfl rfl (by decide) rfl rfl rfl (by first | rfl | simp) rfl rfl (by first | omega | (simp; done) | (simp; omega)) (by show _ * 240 ≤ _; first | omega | (simp; done) | (simp; omega))) rfl (by simp) ?_; rintro _ _ ⟨ver61, rfl, rfl⟩)
   refine al_gs ?_
   refine al_nil ?_
   refine ⟨kids ++ [a59], s59, ver61, ?_, ?_, ?_, ?_, ?_⟩
   ·omega
   ·exact ⟨(hs49.step hlt49).after hq59, ⟨by simp, by simp; omega, fun g => absurd g (part_full ho2 hq49.1 hq59)⟩, fun _ => hinv.2.2.1 ho2, part_fu ho hinv.2.2.2 ⟨ho2, ha2⟩ hb hn20 hq49 hq59⟩
   ·refine sub_1 ?_
    all_goals (first | rfl | simp)
   ·exact sbl
   ·rfl
  have gh4 := h4
  simp only [nrm] at h4
  have gN := gh4
  have hn20 : kids.length < 20 := by have := gN; simp only [beq_eq_false_iff_ne] at this; omega
  refine aw_skip ?_
  refine aw_sr ?_
  refine al_mv ?_
  refine al_o (op_nilCheck_ptr rfl rfl) ?_
  refine al_fp u76 info3 ?_
  refine al_ld u3 info3 ?_
  refine al_ad ?_
  refine al_o (op_nilCheck_ptr rfl rfl) ?_
  refine al_fp u76 info3 ?_
  refine al_sp info3 ?_
  refine al_nil ?_
  refine aw_region ?_
  refine al_mv ?_
  refine al_mv ?_
  refine al_call into42 rfl rfl rfl (rq_lift rfl (fun _ => rfl) (hE v0 ⟨s2.i + 1, s2.d, s2.F⟩ (hinv.1.step hlt2)) _ (by rfl)) (by simp) ?_; rintro _ _ ⟨a59, s59, hq59, rfl, rfl⟩
  have hg59 : s2.i + 1 ≤ s59.i := hq59.ge
  refine al_o (op_list encE [a59] u31 info37 rfl rfl (by decide) rfl (by decide) rfl (by first | rfl | (repeat (first | exact parts_nil | refine parts_cons rfl (by repeat (first | exact all_live_nil | refine all_live_clo rfl ?_ | refine all_live_slice rfl ?_ | refine all_live_map rfl ?_ | refine all_live_ptr rfl ?_)) ?_))) rfl rfl rfl (kids1 _)) ?_
  (refine al_opR (op_append_one a59 u31 u31 rfl info37 rfl rfl (by decide) rfl rfl rfl (by first | rfl | simp) rfl rfl (by first | omega | (simp; done) | (simp; omega)) (by show _ * 240 ≤ _; first | omega | (simp; done) | (simp; omega))) rfl (by simp) ?_; rintro _ _ ⟨ver61, rfl, rfl⟩)
  refine al_gs ?_
  refine al_nil ?_
  refine ⟨kids ++ [a59], s59, ver61, ?_, ?_, ?_, ?_, ?_⟩
  ·omega
  ·exact ⟨(hinv.1.step hlt2).after hq59, ⟨by simp, by simp; omega, fun _ => by simp; omega⟩, fun _ => hinv.2.2.1 ho2, part_ar hq16 hinv.2.2.1 ho hinv.2.2.2 ⟨ho2, ha2⟩ hb hn20 hq59⟩
  ·refine sub_1 ?_
   all_goals (first | rfl | simp)
  ·exact sbl
  ·rfl
 have gh3 := h3
 have gC := gh3
 refine aw_exit ?_
 refine aw_sr ?_
 refine al_mv ?_
 (refine al_call into98 rfl rfl rfl (rq_lift rfl (fun _ => rfl) (q_closed v0 l hl hn (k - 1) s2 hinv.1) _ (by rfl)) (by simp) ?_; rintro _ _ ⟨a63, s63, hq63, rfl, rfl⟩)
 refine al_nil ?_
 refine aw_seq ?_
 refine aw_sr ?_
 refine al_fp u37 info25 ?_
 refine al_ld u25 info25 ?_
 refine al_eq ?_
 refine al_nil ?_
 refine aw_cond rfl (fun h5 => ?_) (fun h5 => ?_)
 ·have gh5 := h5
  simp only [nrm] at h5
  have gO := gh5
  refine aw_sr ?_
  refine al_mv ?_
  refine al_fp u37 info25 ?_
  refine al_sp info25 ?_
  refine al_fp u37 info31 ?_
  refine al_sp info31 ?_
  refine al_sr ?_
  refine al_ld u37 info37 ?_
  refine al_sp info37 ?_
  refine al_nil ?_
  refine aw_ret ?_
  refine ⟨_, res_cell rfl u37 info37 rfl rfl rfl rfl, ?_⟩
  exact rqf (Ex.mk 5 e.name e.n e.bits e.val kids e.type e.line e.col) s63 (part_name gO (part_cl hinv.2.2.2 gC hq63)) (.one _ _ (.agg _ _ (by repeat (first | exact frz2_nil | refine frz2_cons (.same _) ?_ | refine frz2_cons (frz_whole rfl rfl (by first | exact (List.length_map _).symm | rfl | (simp; done)) (clo_map encE_clo)) ?_)))) rfl
 have gh5 := h5
 simp only [nrm] at h5
 have gO := gh5
 refine aw_skip ?_
 refine aw_seq ?_
 refine aw_plan [0, 1, 2, 3, 4, 5, 6] (Checked.mixed Tryz.checked) (by kernel_rfl) ?_
 refine afl_float rfl rfl (opk_of (op_load_ptr u37 info37 rfl rfl rfl rfl)) (by simp) ?_
 refine afl_float rfl rfl (opk_of (op_move rfl)) (by simp) ?_
 refine afl_float rfl rfl (opk_of (op_index_slice u31 info37 rfl rfl rfl rfl (by omega) (by omega))) (by simp) ?_
 refine afl_float rfl rfl (opk_of (op_load_map (l := kids) u37 info37 rfl rfl (by omega) (asE _))) (by simp) ?_
 refine afl_float rfl rfl (opk_of (op_list encE [e, kids.getD 0 default] u31 info37 rfl rfl (by decide) rfl (by decide) rfl (by first | rfl | (repeat (first | exact parts_nil | refine parts_cons rfl (by repeat (first | exact all_live_nil | refine all_live_clo rfl ?_ | refine all_live_slice rfl ?_ | refine all_live_map rfl ?_ | refine all_live_ptr rfl ?_)) ?_))) rfl rfl rfl (kids2 _ _))) (by simp) ?_
 refine afl_float rfl rfl (opk_of (op_field_ptr u37 rfl info31 (by decide) rfl rfl rfl)) (by simp) ?_
 (refine afl_eff rfl rfl (by kernel_rfl) (op_sp info31) (by simp) ?_ ?_)
 ·
  refine loose_anc 5 rfl (by kernel_rfl) ?_
  refine loose_anc 4 rfl (by kernel_rfl) ?_
  refine loose_anc 3 rfl (by kernel_rfl) ?_
  refine loose_anc 2 rfl (by kernel_rfl) ?_
  refine loose_anc 1 rfl (by kernel_rfl) ?_
  refine loose_anc 0 rfl (by kernel_rfl) ?_
  exact loose_nil
 refine afl_end ?_
 refine aw_sr ?_
 refine al_ld u37 info37 ?_
 refine al_sp info37 ?_
 refine al_nil ?_
 refine aw_ret ?_
 refine ⟨_, res_cell rfl u37 info37 rfl rfl rfl rfl, ?_⟩
 exact rqf (mkE 6 [] 0 [] [e, kids.getD 0 default] (tokAt l s.i)) s63 (part_index gO (part_cl hinv.2.2.2 gC hq63)) (.one _ _ (.leaf _ _ (.same _))) rfl
theorem q_part (v0 : Nat) (l : List Tk) (hl : ∀ t ∈ l, possT t = true) (hn : l.length ≤ 1000000) (k : Nat) (s : Qs) (hs : QH l k s) (ho : s.F = okF) (ha : isAt l [sOpen] s.i = true) (hE : ∀ (v0 : Nat) (s : Qs), QH l (k - 1) s → AC Tryz.prog 42 [.ptr 0 v0 0 0] (rq v0 l s []) (RqK v0 l encX (QR l (rowD l (k - 1 - 1) 4 s.i) 0 s))) (e : Ex) (b : Bool) : AC Tryz.prog 88 [.ptr 0 v0 0 0, .agg (cellsE (e)), .v (.bool (b))] (rq v0 l s []) (RqK v0 l encX (QR l (partS l (k - 1) (innerD l (k - 1)) b e s.i) 0 s)) := ac_rqf (q_partF v0 l hl hn k s hs ho ha hE e b)
end Go.Proofs.YtcgdlhkiecommaaGreatDoor
/- Printed walks (gen.py, lexer_ann.py): part 465. -/





namespace Go.Proofs.YtcgdlhkiecommaaGreatDoor
open Go
theorem q_prim (v0 : Nat) (l : List Tk) (hl : ∀ t ∈ l, possT t = true) (hn : l.length ≤ 1000000) (k : Nat) (s : Qs) (hs : QH l k s) (hE : 1 ≤ k → ∀ (v0 : Nat) (s : Qs), QH l (k - 1) s → AC Tryz.prog 42 [.ptr 0 v0 0 0] (rq v0 l s []) (RqK v0 l encX (QR l (rowD l (k - 1 - 1) 4 s.i) 0 s)))  : AC Tryz.prog 176 [.ptr 0 v0 0 0] (rq v0 l s []) (fun r σ' => RqK v0 l encX (QR l (primP l (k - 1) (innerD l (k - 1)) s.i) (0) s) r σ') := by
 have hi := hs.1
 have hd := hs.2.2.2.2
 refine ace 132 Tryz.func176 ?_
 refine aw_sr ?_
 refine al_al 2 info37 fun ver2 => ?_
 refine al_nil ?_
 refine aw_seq ?_
 refine aw_seq ?_
 refine aw_any (Checked.mixed Tryz.checked) ?_
 apply aany_seg (p := 0) (q := 4) (by kernel_rfl) rfl (by decide)
 ·
  apply ql_plain rfl (op_move rfl)
  apply ql_call into43 rfl rfl rfl (q_okA v0 l hl hn k s hs  rfl rfl)
  apply ql_plain rfl (op_not rfl)
  apply ql_plain rfl (op_move rfl)
  exact ql_nil
 ·simp
 apply aany_or 4 15 10 21 (by kernel_rfl) rfl (by decide) rfl (by simp)
 ·intro h1; have gh1 := h1
  simp only [nrm] at h1
  apply ql_ex
  ·
   apply ql_take rfl rfl rfl rfl (op_move rfl)
   apply ql_take rfl rfl rfl rfl (op_nilCheck_ptr rfl rfl)
   apply ql_take rfl rfl rfl rfl (op_field_ptr u76 rfl info3 (by decide) rfl rfl rfl)
   apply ql_take rfl rfl rfl rfl (op_load_ptr u3 info3 rfl rfl rfl rfl)
   apply ql_take rfl rfl rfl rfl (op_move rfl)
   apply ql_take rfl rfl rfl rfl (op_nilCheck_ptr rfl rfl)
   apply ql_take rfl rfl rfl rfl (op_field_ptr u76 rfl info22 (by decide) rfl rfl rfl)
   apply ql_take rfl rfl rfl rfl (op_load_ptr u22 info22 rfl rfl rfl rfl)
   apply ql_take rfl rfl rfl rfl (op_len_map u22 rfl)
   apply ql_take rfl rfl rfl rfl (op_geq rfl rfl)
   apply ql_plain rfl (op_pick rfl rfl)
   exact ql_nil
  ·rfl
  ·exact subk gh1
 ·intro h1; have gh1 := h1
  simp only [nrm] at h1
  apply ql_ex
  ·
   apply ql_pass rfl rfl rfl rfl
   apply ql_pass rfl rfl rfl rfl
   apply ql_pass rfl rfl rfl rfl
   apply ql_pass rfl rfl rfl rfl
   apply ql_pass rfl rfl rfl rfl
   apply ql_pass rfl rfl rfl rfl
   apply ql_pass rfl rfl rfl rfl
   apply ql_pass rfl rfl rfl rfl
   apply ql_pass rfl rfl rfl rfl
   apply ql_pass rfl rfl rfl rfl
   apply ql_plain rfl (op_pick rfl rfl)
   exact ql_nil
  ·rfl
  ·exact subk gh1
 refine aany_end rfl (by kernel_rfl) ?_
 refine aw_cond rfl (fun h2 => ?_) (fun h2 => ?_)
 ·have gh2 := h2
  simp only [nrm] at h2
  have gE := gh2
  refine aw_sr ?_
  refine al_mv ?_
  refine al_mv ?_
  refine al_o (op_nilCheck_ptr rfl rfl) ?_
  refine al_fp u76 info3 ?_
  refine al_ld u3 info3 ?_
  (refine al_call into84 rfl rfl rfl (rq_lift rfl (fun _ => rfl) (q_fail v0 l hl hn k s hs 12 (by decide) s.i hi) _ (by rfl)) (by simp) ?_; rintro _ _ ⟨a27, s27, hq27, rfl, rfl⟩)
  refine al_sr ?_
  refine al_o (val_re (.agg (cellsE (ex0))) (op_bs u37 info37 place37) (.agg _ _ (by repeat (first | exact reL_nil | refine reL_cons (.same _) ?_ | refine reL_cons (.vnil _) ?_)))) ?_
  refine al_sp info37 ?_
  refine al_nil ?_
  refine aw_ret ?_
  refine ⟨_, res_cell rfl u37 info37 rfl rfl rfl rfl, ?_⟩
  exact rqk ex0 s27 (prim_early gE hq27.1) rfl
 have gh2 := h2
 simp only [nrm] at h2
 have gE := gh2
 obtain ⟨ho, hlt⟩ := early_no hs.2.1 gE
 have htk : possT (tokAt l s.i) = true := hl _ (getD_mem hlt)
 refine aw_skip ?_
 refine aw_sr ?_
 refine al_mv ?_
 refine al_o (op_nilCheck_ptr rfl rfl) ?_
 refine al_fp u76 info3 ?_
 refine al_ld u3 info3 ?_
 refine al_gs ?_
 refine al_sr ?_
 refine al_mv ?_
 refine al_o (op_nilCheck_ptr rfl rfl) ?_
 refine al_fp u76 info22 ?_
 refine al_ld u22 info22 ?_
 refine al_mv ?_
 refine al_o (op_im u22 info65) ?_
 refine al_lr u65 info65 ?_
 refine al_al 4 info65 fun ver4 => ?_
 refine al_sp info65 ?_
 refine al_sr ?_
 refine al_al 5 info37 fun ver5 => ?_
 refine al_nil ?_
 refine aw_seq ?_
 refine aw_block ?_
 refine aw_sr ?_
 refine al_fp u65 info63 ?_
 refine al_ld u63 info63 ?_
 refine al_eq ?_
 refine al_gs ?_
 refine al_nil ?_
 refine aw_cond rfl (fun h3 => ?_) (fun h3 => ?_)
 ·have gh3 := h3
  simp only [nrm] at h3
  have g3 := gh3
  refine aw_sr ?_
  refine al_mv ?_
  refine al_mv ?_
  refine al_callp into85 rfl rfl rfl (q_hereA v0 l hl hn k s hs 1 s.i hlt rfl rfl) (by simp) ?_
  refine al_sp info37 ?_
  refine al_sr ?_
  refine al_fp u65 info3 ?_
  refine al_ld u3 info3 ?_
  refine al_fp u37 info3 ?_
  refine al_sp info3 ?_
  refine al_nil ?_
  refine aw_region ?_
  refine al_mv ?_
  refine al_o (op_nilCheck_ptr rfl rfl) ?_
  refine al_fp u76 info3 ?_
  refine al_ld u3 info3 ?_
  refine al_ad ?_
  refine al_o (op_nilCheck_ptr rfl rfl) ?_
  refine al_fp u76 info3 ?_
  refine al_sp info3 ?_
  refine al_nil ?_
  refine aw_seq ?_
  skip
  refine aw_region ?_
  refine al_fp u65 info63 ?_
  refine al_ld u63 info63 ?_
  refine al_eq ?_
  refine al_gs ?_
  refine al_nil ?_
  refine aw_seq ?_
  refine aw_block ?_
  refine aw_for3T (α := Option Ex) (β := Bool) (γ := Qs) [6] [] (fun o first s2 => muQ l s2) (fun o first s2 => QH l k s2 ∧ (s2.F = okF → ∃ e, o = some e ∧ (first = false → okE e)) ∧ QP l (primP l (k - 1) (innerD l (k - 1)) s.i) 0 s (contS l (k - 1) (innerD l (k - 1)) first (exO o) s2.i) s2) (fun o first s2 => ([(6, .v (.bool first))] : Env)) (fun o first s2 st => ([(0, v0, .row 7 [rdq l s2]), (2, ver2, .row 16 [zeroE]), (4, ver4, .row 5 [encK (tokAt l s.i)]), (5, ver5, .row 16 [cellsOp o])] : Store)) (some (mkE 1 [] (tokAt l s.i).n [] [] (tokAt l s.i))) (((tokAt l s.i).op == 1)) (⟨s.i + 1, s.d, s.F⟩) ?_ ?_ ?_ (fun o first s2 hinv => ?_)
  ·exact ⟨hs.step hlt, fun _ => ⟨_, rfl, fun _ => okE_n (by decide)⟩, ((QP.refl hs.2.1 hi).alt fun _ => prim_lit3 g3).step ho hlt⟩
  ·refine sub_1 ?_
   all_goals (first | rfl | simp)
  ·rfl
  have hi2 := hinv.1.1
  have hd2 := hinv.1.2.2.2.2
  refine aw_seq ?_
  refine aw_sr ?_
  refine al_mv ?_
  refine al_callp into87 rfl rfl rfl (q_isA v0 l hl hn k s2 hinv.1 sOpen rfl rfl) (by simp) ?_
  refine al_nil ?_
  refine aw_cond rfl (fun gh4 => ?_) (fun gh4 => ?_)
  ·have gL := gh4
   obtain ⟨ho2, ha2⟩ := isQ_yes hinv.1.2.1 gL
   obtain ⟨e, rfl, hoe⟩ := hinv.2.1 ho2
   refine aw_skip ?_
   refine aw_block ?_
   refine aw_sr ?_
   refine al_mv ?_
   refine al_ld u37 info37 ?_
   refine al_mv ?_
   (refine al_call into88 rfl rfl rfl (rq_lift rfl (fun _ => rfl) (q_part v0 l hl hn k s2 hinv.1 ho2 ha2 (hE (hinv.1.2.2.1 ho2).1) e first) _ (by rfl)) (by simp) ?_; rintro _ _ ⟨a130, s130, hq130, rfl, rfl⟩)
   refine al_sp info37 ?_
   refine al_nil ?_
   refine aw_region ?_
   refine al_gs ?_
   refine al_nil ?_
   refine ⟨some a130, false, s130, ?_, ?_, ?_, ?_, ?_⟩
   ·exact muQ_dec (innerD_gt (k - 1)) ho2 hq130
   ·exact ⟨hinv.1.after hq130, fun g => ⟨_, rfl, fun _ => okE_part (innerD_gt (k - 1)) (hq130.ok g).2.2⟩, hinv.2.2.call2 hq130 (fun g _ hb => cont_bad ha2 hoe hb) (fun _ hk => cont_step (innerD_gt (k - 1)) ha2 hoe hk)⟩
   ·refine sub_1 ?_
    all_goals (first | rfl | simp)
   ·exact sbl
   ·rfl
  have gL := gh4
  refine aw_exit ?_
  refine aw_sr ?_
  refine al_o (val_re (.agg (cellsE (exO o))) (op_load_ptr u37 info37 rfl rfl rfl (asO o)) ((reO o))) ?_
  refine al_sp info37 ?_
  refine al_nil ?_
  refine aw_ret ?_
  refine ⟨_, res_cell rfl u37 info37 rfl rfl rfl rfl, ?_⟩
  exact rqk (exO o) s2 (hinv.2.2.alt fun ho => cont_stop (isQ_no gL ho)) rfl
 have gh3 := h3
 simp only [nrm] at h3
 have g3 := gh3
 refine aw_sr ?_
 refine al_fp u65 info63 ?_
 refine al_ld u63 info63 ?_
 refine al_eq ?_
 refine al_gs ?_
 refine al_nil ?_
 refine aw_cond rfl (fun h5 => ?_) (fun h5 => ?_)
 ·have gh5 := h5
  simp only [nrm] at h5
  have g4 := gh5
  refine aw_sr ?_
  refine al_mv ?_
  refine al_mv ?_
  refine al_callp into85 rfl rfl rfl (q_hereA v0 l hl hn k s hs 2 s.i hlt rfl rfl) (by simp) ?_
  refine al_sp info37 ?_
  refine al_sr ?_
  refine al_fp u65 info9 ?_
  refine al_ld u9 info9 ?_
  refine al_callp into197 rfl rfl rfl (q_bits (tokAt l s.i).text (poss_vec htk (.inl g4)) _) (by simp) ?_
  refine al_fp u37 info26 ?_
  refine al_sp info26 ?_
  refine al_nil ?_
  refine aw_region ?_
  refine al_mv ?_
  refine al_o (op_nilCheck_ptr rfl rfl) ?_
  refine al_fp u76 info3 ?_
  refine al_ld u3 info3 ?_
  refine al_ad ?_
  refine al_o (op_nilCheck_ptr rfl rfl) ?_
  refine al_fp u76 info3 ?_
  refine al_sp info3 ?_
  refine al_nil ?_
  refine aw_seq ?_
  skip
  refine aw_region ?_
  refine al_fp u65 info63 ?_
  refine al_ld u63 info63 ?_
  refine al_eq ?_
  refine al_gs ?_
  refine al_nil ?_
  refine aw_seq ?_
  refine aw_block ?_
  refine aw_for3T (α := Option Ex) (β := Bool) (γ := Qs) [6, 125, 126, 127, 128, 129, 130] [] (fun o first s2 => muQ l s2) (fun o first s2 => QH l k s2 ∧ (s2.F = okF → ∃ e, o = some e ∧ (first = false → okE e)) ∧ QP l (primP l (k - 1) (innerD l (k - 1)) s.i) 0 s (contS l (k - 1) (innerD l (k - 1)) first (exO o) s2.i) s2) (fun o first s2 => ([(6, .v (.bool first))] : Env)) (fun o first s2 st => ([(0, v0, .row 7 [rdq l s2]), (2, ver2, .row 16 [zeroE]), (4, ver4, .row 5 [encK (tokAt l s.i)]), (5, ver5, .row 16 [cellsOp o])] : Store)) (some (mkE 2 [] 0 (parseBits (tokAt l s.i).text) [] (tokAt l s.i))) (((tokAt l s.i).op == 1)) (⟨s.i + 1, s.d, s.F⟩) ?_ ?_ ?_ (fun o first s2 hinv => ?_)
  ·exact ⟨hs.step hlt, fun _ => ⟨_, rfl, fun _ => okE_n (by decide)⟩, ((QP.refl hs.2.1 hi).alt fun _ => prim_lit4 g3 g4).step ho hlt⟩
  ·refine sub_1 ?_
   all_goals (first | rfl | simp)
  ·rfl
  have hi2 := hinv.1.1
  have hd2 := hinv.1.2.2.2.2
  refine aw_seq ?_
  refine aw_sr ?_
  refine al_mv ?_
  refine al_callp into87 rfl rfl rfl (q_isA v0 l hl hn k s2 hinv.1 sOpen rfl rfl) (by simp) ?_
  refine al_nil ?_
  refine aw_cond rfl (fun gh6 => ?_) (fun gh6 => ?_)
  ·have gL := gh6
   obtain ⟨ho2, ha2⟩ := isQ_yes hinv.1.2.1 gL
   obtain ⟨e, rfl, hoe⟩ := hinv.2.1 ho2
   refine aw_skip ?_
   refine aw_block ?_
   refine aw_sr ?_
   refine al_mv ?_
   refine al_ld u37 info37 ?_
   refine al_mv ?_
   (refine al_call into88 rfl rfl rfl (rq_lift rfl (fun _ => rfl) (q_part v0 l hl hn k s2 hinv.1 ho2 ha2 (hE (hinv.1.2.2.1 ho2).1) e first) _ (by rfl)) (by simp) ?_; rintro _ _ ⟨a130, s130, hq130, rfl, rfl⟩)
   refine al_sp info37 ?_
   refine al_nil ?_
   refine aw_region ?_
   refine al_gs ?_
   refine al_nil ?_
   refine ⟨some a130, false, s130, ?_, ?_, ?_, ?_, ?_⟩
   ·exact muQ_dec (innerD_gt (k - 1)) ho2 hq130
   ·exact ⟨hinv.1.after hq130, fun g => ⟨_, rfl, fun _ => okE_part (innerD_gt (k - 1)) (hq130.ok g).2.2⟩, hinv.2.2.call2 hq130 (fun g _ hb => cont_bad ha2 hoe hb) (fun _ hk => cont_step (innerD_gt (k - 1)) ha2 hoe hk)⟩
   ·refine sub_1 ?_
    all_goals (first | rfl | simp)
   ·exact sbl
   ·rfl
  have gL := gh6
  refine aw_exit ?_
  refine aw_sr ?_
  refine al_o (val_re (.agg (cellsE (exO o))) (op_load_ptr u37 info37 rfl rfl rfl (asO o)) ((reO o))) ?_
  refine al_sp info37 ?_
  refine al_nil ?_
  refine aw_ret ?_
  refine ⟨_, res_cell rfl u37 info37 rfl rfl rfl rfl, ?_⟩
  exact rqk (exO o) s2 (hinv.2.2.alt fun ho => cont_stop (isQ_no gL ho)) rfl
 have gh5 := h5
 simp only [nrm] at h5
 have g4 := gh5
 refine aw_sr ?_
 refine al_fp u65 info63 ?_
 refine al_ld u63 info63 ?_
 refine al_eq ?_
 refine al_gs ?_
 refine al_nil ?_
 refine aw_cond rfl (fun h7 => ?_) (fun h7 => ?_)
 ·have gh7 := h7
  simp only [nrm] at h7
  have g5 := gh7
  refine aw_sr ?_
  refine al_mv ?_
  refine al_mv ?_
  refine al_callp into85 rfl rfl rfl (q_hereA v0 l hl hn k s hs 3 s.i hlt rfl rfl) (by simp) ?_
  refine al_sp info37 ?_
  refine al_sr ?_
  refine al_fp u65 info9 ?_
  refine al_ld u9 info9 ?_
  refine al_callp into197 rfl rfl rfl (q_bits (tokAt l s.i).text (poss_vec htk (.inr g5)) _) (by simp) ?_
  refine al_fp u37 info26 ?_
  refine al_sp info26 ?_
  refine al_nil ?_
  refine aw_region ?_
  refine al_mv ?_
  refine al_o (op_nilCheck_ptr rfl rfl) ?_
  refine al_fp u76 info3 ?_
  refine al_ld u3 info3 ?_
  refine al_ad ?_
  refine al_o (op_nilCheck_ptr rfl rfl) ?_
  refine al_fp u76 info3 ?_
  refine al_sp info3 ?_
  refine al_nil ?_
  refine aw_seq ?_
  skip
  refine aw_region ?_
  refine al_fp u65 info63 ?_
  refine al_ld u63 info63 ?_
  refine al_eq ?_
  refine al_gs ?_
  refine al_nil ?_
  refine aw_seq ?_
  refine aw_block ?_
  refine aw_for3T (α := Option Ex) (β := Bool) (γ := Qs) [6, 125, 126, 127, 128, 129, 130] [] (fun o first s2 => muQ l s2) (fun o first s2 => QH l k s2 ∧ (s2.F = okF → ∃ e, o = some e ∧ (first = false → okE e)) ∧ QP l (primP l (k - 1) (innerD l (k - 1)) s.i) 0 s (contS l (k - 1) (innerD l (k - 1)) first (exO o) s2.i) s2) (fun o first s2 => ([(6, .v (.bool first))] : Env)) (fun o first s2 st => ([(0, v0, .row 7 [rdq l s2]), (2, ver2, .row 16 [zeroE]), (4, ver4, .row 5 [encK (tokAt l s.i)]), (5, ver5, .row 16 [cellsOp o])] : Store)) (some (mkE 3 [] 0 (parseBits (tokAt l s.i).text) [] (tokAt l s.i))) (((tokAt l s.i).op == 1)) (⟨s.i + 1, s.d, s.F⟩) ?_ ?_ ?_ (fun o first s2 hinv => ?_)
  ·exact ⟨hs.step hlt, fun _ => ⟨_, rfl, fun _ => okE_n (by decide)⟩, ((QP.refl hs.2.1 hi).alt fun _ => prim_lit5 g3 g4 g5).step ho hlt⟩
  ·refine sub_1 ?_
   all_goals (first | rfl | simp)
  ·rfl
  have hi2 := hinv.1.1
  have hd2 := hinv.1.2.2.2.2
  refine aw_seq ?_
  refine aw_sr ?_
  refine al_mv ?_
  refine al_callp into87 rfl rfl rfl (q_isA v0 l hl hn k s2 hinv.1 sOpen rfl rfl) (by simp) ?_
  refine al_nil ?_
  refine aw_cond rfl (fun gh8 => ?_) (fun gh8 => ?_)
  ·have gL := gh8
   obtain ⟨ho2, ha2⟩ := isQ_yes hinv.1.2.1 gL
   obtain ⟨e, rfl, hoe⟩ := hinv.2.1 ho2
   refine aw_skip ?_
   refine aw_block ?_
   refine aw_sr ?_
   refine al_mv ?_
   refine al_ld u37 info37 ?_
   refine al_mv ?_
   (refine al_call into88 rfl rfl rfl (rq_lift rfl (fun _ => rfl) (q_part v0 l hl hn k s2 hinv.1 ho2 ha2 (hE (hinv.1.2.2.1 ho2).1) e first) _ (by rfl)) (by simp) ?_; rintro _ _ ⟨a130, s130, hq130, rfl, rfl⟩)
   refine al_sp info37 ?_
   refine al_nil ?_
   refine aw_region ?_
   refine al_gs ?_
   refine al_nil ?_
   refine ⟨some a130, false, s130, ?_, ?_, ?_, ?_, ?_⟩
   ·exact muQ_dec (innerD_gt (k - 1)) ho2 hq130
   ·exact ⟨hinv.1.after hq130, fun g => ⟨_, rfl, fun _ => okE_part (innerD_gt (k - 1)) (hq130.ok g).2.2⟩, hinv.2.2.call2 hq130 (fun g _ hb => cont_bad ha2 hoe hb) (fun _ hk => cont_step (innerD_gt (k - 1)) ha2 hoe hk)⟩
   ·refine sub_1 ?_
    all_goals (first | rfl | simp)
   ·exact sbl
   ·rfl
  have gL := gh8
  refine aw_exit ?_
  refine aw_sr ?_
  refine al_o (val_re (.agg (cellsE (exO o))) (op_load_ptr u37 info37 rfl rfl rfl (asO o)) ((reO o))) ?_
  refine al_sp info37 ?_
  refine al_nil ?_
  refine aw_ret ?_
  refine ⟨_, res_cell rfl u37 info37 rfl rfl rfl rfl, ?_⟩
  exact rqk (exO o) s2 (hinv.2.2.alt fun ho => cont_stop (isQ_no gL ho)) rfl
 have gh7 := h7
 simp only [nrm] at h7
 have g5 := gh7
 refine aw_sr ?_
 refine al_fp u65 info63 ?_
 refine al_ld u63 info63 ?_
 refine al_eq ?_
 refine al_gs ?_
 refine al_nil ?_
 refine aw_cond rfl (fun h9 => ?_) (fun h9 => ?_)
 ·have gh9 := h9
  simp only [nrm] at h9
  have g1 := gh9
  refine aw_sr ?_
  refine al_mv ?_
  refine al_mv ?_
  refine al_callp into85 rfl rfl rfl (q_hereA v0 l hl hn k s hs 4 s.i hlt rfl rfl) (by simp) ?_
  refine al_sp info37 ?_
  refine al_sr ?_
  refine al_fp u65 info9 ?_
  refine al_ld u9 info9 ?_
  refine al_fp u37 info9 ?_
  refine al_sp info9 ?_
  refine al_nil ?_
  refine aw_region ?_
  refine al_mv ?_
  refine al_o (op_nilCheck_ptr rfl rfl) ?_
  refine al_fp u76 info3 ?_
  refine al_ld u3 info3 ?_
  refine al_ad ?_
  refine al_o (op_nilCheck_ptr rfl rfl) ?_
  refine al_fp u76 info3 ?_
  refine al_sp info3 ?_
  refine al_nil ?_
  refine aw_seq ?_
  skip
  refine aw_region ?_
  refine al_fp u65 info63 ?_
  refine al_ld u63 info63 ?_
  refine al_eq ?_
  refine al_gs ?_
  refine al_nil ?_
  refine aw_seq ?_
  refine aw_block ?_
  refine aw_for3T (α := Option Ex) (β := Bool) (γ := Qs) [6, 125, 126, 127, 128, 129, 130] [] (fun o first s2 => muQ l s2) (fun o first s2 => QH l k s2 ∧ (s2.F = okF → ∃ e, o = some e ∧ (first = false → okE e)) ∧ QP l (primP l (k - 1) (innerD l (k - 1)) s.i) 0 s (contS l (k - 1) (innerD l (k - 1)) first (exO o) s2.i) s2) (fun o first s2 => ([(6, .v (.bool first))] : Env)) (fun o first s2 st => ([(0, v0, .row 7 [rdq l s2]), (2, ver2, .row 16 [zeroE]), (4, ver4, .row 5 [encK (tokAt l s.i)]), (5, ver5, .row 16 [cellsOp o])] : Store)) (some (mkE 4 (tokAt l s.i).text 0 [] [] (tokAt l s.i))) (((tokAt l s.i).op == 1)) (⟨s.i + 1, s.d, s.F⟩) ?_ ?_ ?_ (fun o first s2 hinv => ?_)
  ·exact ⟨hs.step hlt, fun _ => ⟨_, rfl, fun _ => okE_4 _ _⟩, ((QP.refl hs.2.1 hi).alt fun _ => prim_name g3 g4 g5 g1).step ho hlt⟩
  ·refine sub_1 ?_
   all_goals (first | rfl | simp)
  ·rfl
  have hi2 := hinv.1.1
  have hd2 := hinv.1.2.2.2.2
  refine aw_seq ?_
  refine aw_sr ?_
  refine al_mv ?_
  refine al_callp into87 rfl rfl rfl (q_isA v0 l hl hn k s2 hinv.1 sOpen rfl rfl) (by simp) ?_
  refine al_nil ?_
  refine aw_cond rfl (fun gh10 => ?_) (fun gh10 => ?_)
  ·have gL := gh10
   obtain ⟨ho2, ha2⟩ := isQ_yes hinv.1.2.1 gL
   obtain ⟨e, rfl, hoe⟩ := hinv.2.1 ho2
   refine aw_skip ?_
   refine aw_block ?_
   refine aw_sr ?_
   refine al_mv ?_
   refine al_ld u37 info37 ?_
   refine al_mv ?_
   (refine al_call into88 rfl rfl rfl (rq_lift rfl (fun _ => rfl) (q_part v0 l hl hn k s2 hinv.1 ho2 ha2 (hE (hinv.1.2.2.1 ho2).1) e first) _ (by rfl)) (by simp) ?_; rintro _ _ ⟨a130, s130, hq130, rfl, rfl⟩)
   refine al_sp info37 ?_
   refine al_nil ?_
   refine aw_region ?_
   refine al_gs ?_
   refine al_nil ?_
   refine ⟨some a130, false, s130, ?_, ?_, ?_, ?_, ?_⟩
   ·exact muQ_dec (innerD_gt (k - 1)) ho2 hq130
   ·exact ⟨hinv.1.after hq130, fun g => ⟨_, rfl, fun _ => okE_part (innerD_gt (k - 1)) (hq130.ok g).2.2⟩, hinv.2.2.call2 hq130 (fun g _ hb => cont_bad ha2 hoe hb) (fun _ hk => cont_step (innerD_gt (k - 1)) ha2 hoe hk)⟩
   ·refine sub_1 ?_
    all_goals (first | rfl | simp)
   ·exact sbl
   ·rfl
  have gL := gh10
  refine aw_exit ?_
  refine aw_sr ?_
  refine al_o (val_re (.agg (cellsE (exO o))) (op_load_ptr u37 info37 rfl rfl rfl (asO o)) ((reO o))) ?_
  refine al_sp info37 ?_
  refine al_nil ?_
  refine aw_ret ?_
  refine ⟨_, res_cell rfl u37 info37 rfl rfl rfl rfl, ?_⟩
  exact rqk (exO o) s2 (hinv.2.2.alt fun ho => cont_stop (isQ_no gL ho)) rfl
 have gh9 := h9
 simp only [nrm] at h9
 have g1 := gh9
 refine aw_sr ?_
 refine al_mv ?_
 refine al_callp into87 rfl rfl rfl (q_isA v0 l hl hn k s hs sOpen rfl rfl) (by simp) ?_
 refine al_gs ?_
 refine al_nil ?_
 refine aw_cond rfl (fun gh11 => ?_) (fun gh11 => ?_)
 ·have gP := gh11
  refine aw_sr ?_
  refine al_mv ?_
  refine al_call into97 rfl rfl rfl (rq_lift rfl (fun _ => rfl) (q_deeper v0 l hl hn k s hs sOpen) _ (by rfl)) (by simp) ?_; rintro _ _ ⟨a117, s117, hq117, rfl, rfl⟩
  have hs117 := hs.into ho hq117
  refine al_sr ?_
  refine al_mv ?_
  refine al_call into42 rfl rfl rfl (rq_lift rfl (fun _ => rfl) (hE (hs.2.2.1 ho).1 v0 s117 hs117) _ (by rfl)) (by simp) ?_; rintro _ _ ⟨a119, s119, hq119, rfl, rfl⟩
  have hs119 := hs117.after hq119
  refine al_sp info37 ?_
  refine al_nil ?_
  refine aw_region ?_
  refine al_mv ?_
  refine al_call into98 rfl rfl rfl (rq_lift rfl (fun _ => rfl) (q_closed v0 l hl hn (k - 1) s119 hs119) _ (by rfl)) (by simp) ?_; rintro _ _ ⟨a121, s121, hq121, rfl, rfl⟩
  have hs121 := hs.after (prim_open (first := false) hs ho (prim_restF g3 g4 g5 g1) hq117 hq119 hq121)
  refine al_nil ?_
  refine aw_seq ?_
  skip
  refine aw_region ?_
  refine al_fp u65 info63 ?_
  refine al_ld u63 info63 ?_
  refine al_eq ?_
  refine al_gs ?_
  refine al_nil ?_
  refine aw_seq ?_
  refine aw_block ?_
  refine aw_for3T (α := Option Ex) (β := Bool) (γ := Qs) [6, 125, 126, 127, 128, 129, 130] [] (fun o first s2 => muQ l s2) (fun o first s2 => QH l k s2 ∧ (s2.F = okF → ∃ e, o = some e ∧ (first = false → okE e)) ∧ QP l (primP l (k - 1) (innerD l (k - 1)) s.i) 0 s (contS l (k - 1) (innerD l (k - 1)) first (exO o) s2.i) s2) (fun o first s2 => ([(6, .v (.bool first))] : Env)) (fun o first s2 st => ([(0, v0, .row 7 [rdq l s2]), (2, ver2, .row 16 [zeroE]), (4, ver4, .row 5 [encK (tokAt l s.i)]), (5, ver5, .row 16 [cellsOp o])] : Store)) (some a119) (((tokAt l s.i).op == 1)) (s121) ?_ ?_ ?_ (fun o first s2 hinv => ?_)
  ·exact ⟨hs121, fun g => ⟨_, rfl, fun _ => okE_row (wr_of hl) (hq119.ok (hq121.ok g).1).2.2⟩, prim_open hs ho (prim_rest g3 g4 g5 g1) hq117 hq119 hq121⟩
  ·refine sub_1 ?_
   all_goals (first | rfl | simp)
  ·rfl
  have hi2 := hinv.1.1
  have hd2 := hinv.1.2.2.2.2
  refine aw_seq ?_
  refine aw_sr ?_
  refine al_mv ?_
  refine al_callp into87 rfl rfl rfl (q_isA v0 l hl hn k s2 hinv.1 sOpen rfl rfl) (by simp) ?_
  refine al_nil ?_
  refine aw_cond rfl (fun gh12 => ?_) (fun gh12 => ?_)
  ·have gL := gh12
   obtain ⟨ho2, ha2⟩ := isQ_yes hinv.1.2.1 gL
   obtain ⟨e, rfl, hoe⟩ := hinv.2.1 ho2
   refine aw_skip ?_
   refine aw_block ?_
   refine aw_sr ?_
   refine al_mv ?_
   refine al_ld u37 info37 ?_
   refine al_mv ?_
   (refine al_call into88 rfl rfl rfl (rq_lift rfl (fun _ => rfl) (q_part v0 l hl hn k s2 hinv.1 ho2 ha2 (hE (hinv.1.2.2.1 ho2).1) e first) _ (by rfl)) (by simp) ?_; rintro _ _ ⟨a130, s130, hq130, rfl, rfl⟩)
   refine al_sp info37 ?_
   refine al_nil ?_
   refine aw_region ?_
   refine al_gs ?_
   refine al_nil ?_
   refine ⟨some a130, false, s130, ?_, ?_, ?_, ?_, ?_⟩
   ·exact muQ_dec (innerD_gt (k - 1)) ho2 hq130
   ·exact ⟨hinv.1.after hq130, fun g => ⟨_, rfl, fun _ => okE_part (innerD_gt (k - 1)) (hq130.ok g).2.2⟩, hinv.2.2.call2 hq130 (fun g _ hb => cont_bad ha2 hoe hb) (fun _ hk => cont_step (innerD_gt (k - 1)) ha2 hoe hk)⟩
   ·refine sub_1 ?_
    all_goals (first | rfl | simp)
   ·exact sbl
   ·rfl
  have gL := gh12
  refine aw_exit ?_
  refine aw_sr ?_
  refine al_o (val_re (.agg (cellsE (exO o))) (op_load_ptr u37 info37 rfl rfl rfl (asO o)) ((reO o))) ?_
  refine al_sp info37 ?_
  refine al_nil ?_
  refine aw_ret ?_
  refine ⟨_, res_cell rfl u37 info37 rfl rfl rfl rfl, ?_⟩
  exact rqk (exO o) s2 (hinv.2.2.alt fun ho => cont_stop (isQ_no gL ho)) rfl
 have gP := gh11
 refine aw_region ?_
 refine al_mv ?_
 refine al_mv ?_
 (refine al_call into84 rfl rfl rfl (rq_lift rfl (fun _ => rfl) (q_fail v0 l hl hn k s hs 11 (by decide) s.i hi) _ (by rfl)) (by simp) ?_; rintro _ _ ⟨a42, s42, hq42, rfl, rfl⟩)
 refine al_nil ?_
 refine aw_seq ?_
 skip
 refine aw_region ?_
 refine al_fp u65 info63 ?_
 refine al_ld u63 info63 ?_
 refine al_eq ?_
 refine al_gs ?_
 refine al_nil ?_
 refine aw_seq ?_
 refine aw_block ?_
 refine aw_for3T (α := Option Ex) (β := Bool) (γ := Qs) [6, 125, 126, 127, 128, 129, 130] [] (fun o first s2 => muQ l s2) (fun o first s2 => QH l k s2 ∧ (s2.F = okF → ∃ e, o = some e ∧ (first = false → okE e)) ∧ QP l (primP l (k - 1) (innerD l (k - 1)) s.i) 0 s (contS l (k - 1) (innerD l (k - 1)) first (exO o) s2.i) s2) (fun o first s2 => ([(6, .v (.bool first))] : Env)) (fun o first s2 st => ([(0, v0, .row 7 [rdq l s2]), (2, ver2, .row 16 [zeroE]), (4, ver4, .row 5 [encK (tokAt l s.i)]), (5, ver5, .row 16 [cellsOp o])] : Store)) (none) (((tokAt l s.i).op == 1)) (s42) ?_ ?_ ?_ (fun o first s2 hinv => ?_)
 ·exact ⟨hs.after hq42.1, fun g => absurd g (not_ok hq42.1), qp_bad hq42.1 rfl (fun _ => prim_no g3 g4 g5 g1 (isQ_no gP ho))⟩
 ·refine sub_1 ?_
  all_goals (first | rfl | simp)
 ·rfl
 have hi2 := hinv.1.1
 have hd2 := hinv.1.2.2.2.2
 refine aw_seq ?_
 refine aw_sr ?_
 refine al_mv ?_
 refine al_callp into87 rfl rfl rfl (q_isA v0 l hl hn k s2 hinv.1 sOpen rfl rfl) (by simp) ?_
 refine al_nil ?_
 refine aw_cond rfl (fun gh13 => ?_) (fun gh13 => ?_)
 ·have gL := gh13
  obtain ⟨ho2, ha2⟩ := isQ_yes hinv.1.2.1 gL
  obtain ⟨e, rfl, hoe⟩ := hinv.2.1 ho2
  refine aw_skip ?_
  refine aw_block ?_
  refine aw_sr ?_
  refine al_mv ?_
  refine al_ld u37 info37 ?_
  refine al_mv ?_
  (refine al_call into88 rfl rfl rfl (rq_lift rfl (fun _ => rfl) (q_part v0 l hl hn k s2 hinv.1 ho2 ha2 (hE (hinv.1.2.2.1 ho2).1) e first) _ (by rfl)) (by simp) ?_; rintro _ _ ⟨a130, s130, hq130, rfl, rfl⟩)
  refine al_sp info37 ?_
  refine al_nil ?_
  refine aw_region ?_
  refine al_gs ?_
  refine al_nil ?_
  refine ⟨some a130, false, s130, ?_, ?_, ?_, ?_, ?_⟩
  ·exact muQ_dec (innerD_gt (k - 1)) ho2 hq130
  ·exact ⟨hinv.1.after hq130, fun g => ⟨_, rfl, fun _ => okE_part (innerD_gt (k - 1)) (hq130.ok g).2.2⟩, hinv.2.2.call2 hq130 (fun g _ hb => cont_bad ha2 hoe hb) (fun _ hk => cont_step (innerD_gt (k - 1)) ha2 hoe hk)⟩
  ·refine sub_1 ?_
   all_goals (first | rfl | simp)
  ·exact sbl
  ·rfl
 have gL := gh13
 refine aw_exit ?_
 refine aw_sr ?_
 refine al_o (val_re (.agg (cellsE (exO o))) (op_load_ptr u37 info37 rfl rfl rfl (asO o)) ((reO o))) ?_
 refine al_sp info37 ?_
 refine al_nil ?_
 refine aw_ret ?_
 refine ⟨_, res_cell rfl u37 info37 rfl rfl rfl rfl, ?_⟩
 exact rqk (exO o) s2 (hinv.2.2.alt fun ho => cont_stop (isQ_no gL ho)) rfl
end Go.Proofs.YtcgdlhkiecommaaGreatDoor
/- Printed walks (gen.py, lexer_ann.py): part 466. -/





namespace Go.Proofs.YtcgdlhkiecommaaGreatDoor
open Go
theorem q_knot (l : List Tk) (hl : ∀ t ∈ l, possT t = true) (hn : l.length ≤ 1000000) (k : Nat) (ih : 1 ≤ k → (∀ (v0 : Nat) (s : Qs), QH l (k - 1) s → AC Tryz.prog 135 [.ptr 0 v0 0 0] (rq v0 l s []) (RqK v0 l encX (QR l (factor l (k - 1 - 1) s.i) 0 s))) ∧ (∀ (v0 : Nat) (s : Qs), QH l (k - 1) s → AC Tryz.prog 42 [.ptr 0 v0 0 0] (rq v0 l s []) (RqK v0 l encX (QR l (rowD l (k - 1 - 1) 4 s.i) 0 s)))) : (∀ (v0 : Nat) (s : Qs), QH l k s → AC Tryz.prog 135 [.ptr 0 v0 0 0] (rq v0 l s []) (RqK v0 l encX (QR l (factor l (k - 1) s.i) 0 s))) ∧ (∀ (v0 : Nat) (s : Qs), QH l k s → AC Tryz.prog 42 [.ptr 0 v0 0 0] (rq v0 l s []) (RqK v0 l encX (QR l (rowD l (k - 1) 4 s.i) 0 s))) := by
  have hA : ∀ (v0 : Nat) (s : Qs), QH l k s → AC Tryz.prog 135 [.ptr 0 v0 0 0] (rq v0 l s []) (RqK v0 l encX (QR l (factor l (k - 1) s.i) 0 s)) := fun v0 s hs => q_factor v0 l hl hn k s hs (fun h => (ih h).1) (q_prim v0 l hl hn k s hs (fun h => (ih h).2))
  have hW : ∀ m j : Nat, j + m = 5 → 1 ≤ j → ∀ (v0 : Nat) (s : Qs), QH l k s → AC Tryz.prog 80 [.ptr 0 v0 0 0, .v (.int .i64 ((j : Nat) : Int))] (rq v0 l s []) (RqK v0 l encX (QR l (rowP l (factor l (k - 1)) m s.i) 0 s)) := by
    intro m
    induction m with
    | zero => exact fun j hj h1 v0 s hs => q_row v0 l hl hn k s hs hA 0 j hj h1 (fun h => absurd rfl h)
    | succ m ihm => exact fun j hj h1 v0 s hs => q_row v0 l hl hn k s hs hA (m + 1) j hj h1 (fun _ => ihm (j + 1) (by omega) (by omega))
  exact ⟨hA, fun v0 s hs => q_expr v0 l hl hn k s hs (hW 4 1 rfl (Nat.le_refl 1) v0 s hs)⟩
theorem q_all (l : List Tk) (hl : ∀ t ∈ l, possT t = true) (hn : l.length ≤ 1000000) : ∀ k : Nat, (∀ (v0 : Nat) (s : Qs), QH l k s → AC Tryz.prog 135 [.ptr 0 v0 0 0] (rq v0 l s []) (RqK v0 l encX (QR l (factor l (k - 1) s.i) 0 s))) ∧ (∀ (v0 : Nat) (s : Qs), QH l k s → AC Tryz.prog 42 [.ptr 0 v0 0 0] (rq v0 l s []) (RqK v0 l encX (QR l (rowD l (k - 1) 4 s.i) 0 s))) := by
  intro k
  induction k with
  | zero => exact q_knot l hl hn 0 (fun h => absurd h (by decide))
  | succ k ih => exact q_knot l hl hn (k + 1) (fun _ => ih)
theorem q_target (v0 : Nat) (l : List Tk) (hl : ∀ t ∈ l, possT t = true) (hn : l.length ≤ 1000000) (k : Nat) (s : Qs) (hs : QH l k s) (hk : k = 41)  : AC Tryz.prog 45 [.ptr 0 v0 0 0] (rq v0 l s []) (fun r σ' => RqK v0 l encX (QR l (targetP l s.i) (0) s) r σ') := by
 have hi := hs.1
 have hd := hs.2.2.2.2
 subst hk
 refine ace 29 Tryz.func45 ?_
 refine aw_sr ?_
 refine al_al 2 info37 fun ver2 => ?_
 refine al_nil ?_
 refine aw_seq ?_
 refine aw_sr ?_
 refine al_mv ?_
 refine al_callp into83 rfl rfl rfl (q_kindA v0 l hl hn 41 s hs 1 (by decide) rfl rfl) (by simp) ?_
 refine al_o (op_not rfl) ?_
 refine al_nil ?_
 refine aw_cond rfl (fun h1 => ?_) (fun h1 => ?_)
 ·have gh1 := h1
  simp only [nrm] at h1
  have gK := gh1
  refine aw_sr ?_
  refine al_mv ?_
  refine al_mv ?_
  refine al_o (op_nilCheck_ptr rfl rfl) ?_
  refine al_fp u76 info3 ?_
  refine al_ld u3 info3 ?_
  (refine al_call into84 rfl rfl rfl (rq_lift rfl (fun _ => rfl) (q_fail v0 l hl hn 41 s hs 11 (by decide) s.i hi) _ (by rfl)) (by simp) ?_; rintro _ _ ⟨a12, s12, hq12, rfl, rfl⟩)
  refine al_sr ?_
  refine al_o (val_re (.agg (cellsE (ex0))) (op_bs u37 info37 place37) (.agg _ _ (by repeat (first | exact reL_nil | refine reL_cons (.same _) ?_ | refine reL_cons (.vnil _) ?_)))) ?_
  refine al_sp info37 ?_
  refine al_nil ?_
  refine aw_ret ?_
  refine ⟨_, res_cell rfl u37 info37 rfl rfl rfl rfl, ?_⟩
  exact rqk ex0 s12 (qp_bad hq12.1 rfl (fun ho => targ_no (kindQ_no (by simpa using gK) ho))) rfl
 have gh1 := h1
 simp only [nrm] at h1
 have gK := gh1
 obtain ⟨ho, ha⟩ := kindQ_yes (k := 1) hs.2.1 (by simpa using gK)
 have hlt := op_lt (l := l) (i := s.i) (k := 1) (by simpa using ha) (by decide)
 refine aw_skip ?_
 refine aw_sr ?_
 refine al_mv ?_
 refine al_mv ?_
 refine al_o (op_nilCheck_ptr rfl rfl) ?_
 refine al_fp u76 info3 ?_
 refine al_ld u3 info3 ?_
 refine al_callp into85 rfl rfl rfl (q_hereA v0 l hl hn 41 s hs 4 s.i hlt rfl rfl) (by simp) ?_
 refine al_al 3 info37 fun ver3 => ?_
 refine al_sp info37 ?_
 refine al_sr ?_
 refine al_mv ?_
 refine al_call into86 rfl rfl rfl (rq_lift rfl (fun _ => rfl) (q_name v0 l hl hn 41 s hs) _ (by rfl)) (by simp) ?_; rintro _ _ ⟨a21, s21, hq21, rfl, rfl⟩
 have p21 := targ_p hs ha hq21
 have hs21 := hs.after hq21
 obtain ⟨rfl, hi21, ho21⟩ := name_ok ho ha hq21
 refine al_fp u37 info9 ?_
 refine al_sp info9 ?_
 refine al_nil ?_
 refine aw_seq ?_
 refine aw_block ?_
 refine aw_for2T (α := Ex) (β := Qs) [] [] (fun e s2 => muQ l s2) (fun e s2 => QH l 41 s2 ∧ (s2.F = okF → okE e) ∧ QP l (targetP l s.i) 0 s (contS l 40 (innerD l 40) false e s2.i) s2) (fun e s2 => ([] : Env)) (fun e s2 st => ([(0, v0, .row 7 [rdq l s2]), (2, ver2, .row 16 [zeroE]), (3, ver3, .row 16 [cellsE e])] : Store)) (mkE 4 (tokAt l s.i).text 0 [] [] (tokAt l s.i)) (s21) ?_ ?_ ?_ (fun e s2 hinv => ?_)
 ·exact ⟨hs21, fun _ => okE_4 _ _, p21⟩
 ·exact sub_nil
 ·rfl
 have hi2 := hinv.1.1
 have hd2 := hinv.1.2.2.2.2
 refine aw_seq ?_
 refine aw_sr ?_
 refine al_mv ?_
 refine al_callp into87 rfl rfl rfl (q_isA v0 l hl hn 41 s2 hinv.1 sOpen rfl rfl) (by simp) ?_
 refine al_nil ?_
 refine aw_cond rfl (fun gh2 => ?_) (fun gh2 => ?_)
 ·have gL := gh2
  obtain ⟨ho2, ha2⟩ := isQ_yes hinv.1.2.1 gL
  refine aw_skip ?_
  refine aw_block ?_
  refine aw_region ?_
  refine al_mv ?_
  refine al_ld u37 info37 ?_
  (refine al_call into88 rfl rfl rfl (rq_lift rfl (fun _ => rfl) (q_part v0 l hl hn 41 s2 hinv.1 ho2 ha2 (q_all l hl hn (41 - 1)).2 e false) _ (by rfl)) (by simp) ?_; rintro _ _ ⟨a27, s27, hq27, rfl, rfl⟩)
  refine al_sp info37 ?_
  refine al_nil ?_
  refine ⟨a27, s27, ?_, ?_, ?_, ?_, ?_⟩
  ·exact muQ_dec (innerD_gt (41 - 1)) ho2 hq27
  ·exact ⟨hinv.1.after hq27, fun g => okE_part (innerD_gt (41 - 1)) (hq27.ok g).2.2, hinv.2.2.call2 hq27 (fun g _ hb => cont_bad ha2 (fun _ => hinv.2.1 ho2) hb) (fun _ hk => cont_step (innerD_gt 40) ha2 (fun _ => hinv.2.1 ho2) hk)⟩
  ·exact sub_nil
  ·exact sbl
  ·rfl
 have gL := gh2
 refine aw_exit ?_
 refine aw_sr ?_
 refine al_ld u37 info37 ?_
 refine al_sp info37 ?_
 refine al_nil ?_
 refine aw_ret ?_
 refine ⟨_, res_cell rfl u37 info37 rfl rfl rfl rfl, ?_⟩
 exact rqk e s2 (hinv.2.2.alt fun ho => cont_stop (isQ_no gL ho)) rfl
end Go.Proofs.YtcgdlhkiecommaaGreatDoor
/- Printed walks (gen.py, lexer_ann.py): part 467. -/



namespace Go.Proofs.YtcgdlhkiecommaaGreatDoor
open Go
theorem q_typeS (v0 : Nat) (l : List Tk) (hl : ∀ t ∈ l, possT t = true) (hn : l.length ≤ 1000000) (k : Nat) (s : Qs) (hs : QH l k s) (hk : k = 41) (b : Bool) (sub : Nat → Rd Tr) (hS : b = false → ∀ (v0 : Nat) (s : Qs), QH l 41 s → AC Tryz.prog 48 [.ptr 0 v0 0 0, .v (.bool (true))] (rq v0 l s []) (RqK v0 l encRr (QR l (sub s.i) 0 s)))  : AC Tryz.prog 48 [.ptr 0 v0 0 0, .v (.bool (b))] (rq v0 l s []) (fun r σ' => RqK v0 l encRr (QR l (typeS l b sub s.i) (0) s) r σ') := by
 have hi := hs.1
 have hd := hs.2.2.2.2
 subst hk
 refine ace 99 Tryz.func48 ?_
 refine aw_sr ?_
 refine al_al 4 info46 fun ver4 => ?_
 refine al_nil ?_
 refine aw_seq ?_
 refine aw_seq ?_
 refine aw_any (Checked.mixed Tryz.checked) ?_
 apply aany_seg (p := 0) (q := 4) (by kernel_rfl) rfl (by decide)
 ·
  apply ql_plain rfl (op_move rfl)
  apply ql_call into43 rfl rfl rfl (q_okA v0 l hl hn 41 s hs  rfl rfl)
  apply ql_plain rfl (op_not rfl)
  apply ql_plain rfl (op_move rfl)
  exact ql_nil
 ·simp
 apply aany_or 4 15 10 21 (by kernel_rfl) rfl (by decide) rfl (by simp)
 ·intro h1; have gh1 := h1
  simp only [nrm] at h1
  apply ql_ex
  ·
   apply ql_take rfl rfl rfl rfl (op_move rfl)
   apply ql_take rfl rfl rfl rfl (op_nilCheck_ptr rfl rfl)
   apply ql_take rfl rfl rfl rfl (op_field_ptr u76 rfl info3 (by decide) rfl rfl rfl)
   apply ql_take rfl rfl rfl rfl (op_load_ptr u3 info3 rfl rfl rfl rfl)
   apply ql_take rfl rfl rfl rfl (op_move rfl)
   apply ql_take rfl rfl rfl rfl (op_nilCheck_ptr rfl rfl)
   apply ql_take rfl rfl rfl rfl (op_field_ptr u76 rfl info22 (by decide) rfl rfl rfl)
   apply ql_take rfl rfl rfl rfl (op_load_ptr u22 info22 rfl rfl rfl rfl)
   apply ql_take rfl rfl rfl rfl (op_len_map u22 rfl)
   apply ql_take rfl rfl rfl rfl (op_geq rfl rfl)
   apply ql_plain rfl (op_pick rfl rfl)
   exact ql_nil
  ·rfl
  ·exact subk gh1
 ·intro h1; have gh1 := h1
  simp only [nrm] at h1
  apply ql_ex
  ·
   apply ql_pass rfl rfl rfl rfl
   apply ql_pass rfl rfl rfl rfl
   apply ql_pass rfl rfl rfl rfl
   apply ql_pass rfl rfl rfl rfl
   apply ql_pass rfl rfl rfl rfl
   apply ql_pass rfl rfl rfl rfl
   apply ql_pass rfl rfl rfl rfl
   apply ql_pass rfl rfl rfl rfl
   apply ql_pass rfl rfl rfl rfl
   apply ql_pass rfl rfl rfl rfl
   apply ql_plain rfl (op_pick rfl rfl)
   exact ql_nil
  ·rfl
  ·exact subk gh1
 refine aany_end rfl (by kernel_rfl) ?_
 refine aw_cond rfl (fun h2 => ?_) (fun h2 => ?_)
 ·have gh2 := h2
  simp only [nrm] at h2
  have gE := gh2
  refine aw_sr ?_
  refine al_mv ?_
  refine al_mv ?_
  refine al_o (op_nilCheck_ptr rfl rfl) ?_
  refine al_fp u76 info3 ?_
  refine al_ld u3 info3 ?_
  (refine al_call into84 rfl rfl rfl (rq_lift rfl (fun _ => rfl) (q_fail v0 l hl hn 41 s hs 12 (by decide) s.i hi) _ (by rfl)) (by simp) ?_; rintro _ _ ⟨a27, s27, hq27, rfl, rfl⟩)
  refine al_sr ?_
  refine al_o (val_re (.agg (cellsR (tr0))) (op_bs u46 info46 place46) (.agg _ _ (by repeat (first | exact reL_nil | refine reL_cons (.same _) ?_ | refine reL_cons (.vnil _) ?_)))) ?_
  refine al_sp info46 ?_
  refine al_nil ?_
  refine aw_ret ?_
  refine ⟨_, res_cell rfl u46 info46 rfl rfl rfl rfl, ?_⟩
  exact rqk tr0 s27 (type_early gE hq27.1) rfl
 have gh2 := h2
 simp only [nrm] at h2
 have gE := gh2
 obtain ⟨ho, hlt⟩ := early_no hs.2.1 gE
 refine aw_skip ?_
 refine aw_seq ?_
 refine aw_plan [0, 1, 2, 3, 4, 5, 6, 7, 8, 9, 10, 11] (Checked.mixed Tryz.checked) (by kernel_rfl) ?_
 refine afl_float rfl rfl (opk_of (op_move rfl)) (by simp) ?_
 refine afl_float rfl rfl (opk_of (op_nilCheck_ptr rfl rfl)) (by simp) ?_
 refine afl_float rfl rfl (opk_of (op_field_ptr u76 rfl info22 (by decide) rfl rfl rfl)) (by simp) ?_
 refine afl_float rfl rfl (opk_of (op_load_ptr u22 info22 rfl rfl rfl rfl)) (by simp) ?_
 refine afl_float rfl rfl (opk_of (op_move rfl)) (by simp) ?_
 refine afl_float rfl rfl (opk_of (op_nilCheck_ptr rfl rfl)) (by simp) ?_
 refine afl_float rfl rfl (opk_of (op_field_ptr u76 rfl info3 (by decide) rfl rfl rfl)) (by simp) ?_
 refine afl_float rfl rfl (opk_of (op_load_ptr u3 info3 rfl rfl rfl rfl)) (by simp) ?_
 refine afl_float rfl rfl (opk_of (op_im u22 info65)) (by simp) ?_
 refine afl_float rfl rfl (opk_of (op_load_rptr u65 info65 rfl rfl)) (by simp) ?_
 (refine afl_effR rfl rfl (by kernel_rfl) (op_alloc 5 info65 rfl rfl) (by simp) ?_; rintro _ _ ⟨ver5, rfl, rfl⟩; refine ⟨?_, ?_⟩)
 ·
  refine loose_k rfl (opk_of (op_load_rptr u65 info65 rfl rfl)) ?_
  refine loose_k rfl (opk_of (op_im u22 info65)) ?_
  refine loose_k rfl (opk_of (op_load_ptr u3 info3 rfl rfl rfl rfl)) ?_
  refine loose_k rfl (opk_of (op_field_ptr u76 rfl info3 (by decide) rfl rfl rfl)) ?_
  refine loose_k rfl (opk_of (op_nilCheck_ptr rfl rfl)) ?_
  refine loose_k rfl (opk_of (op_move rfl)) ?_
  refine loose_k rfl (opk_of (op_load_ptr u22 info22 rfl rfl rfl rfl)) ?_
  refine loose_k rfl (opk_of (op_field_ptr u76 rfl info22 (by decide) rfl rfl rfl)) ?_
  refine loose_k rfl (opk_of (op_nilCheck_ptr rfl rfl)) ?_
  refine loose_k rfl (opk_of (op_move rfl)) ?_
  exact loose_nil
 (refine afl_eff rfl rfl (by kernel_rfl) (op_sp info65) (by simp) ?_ ?_)
 ·
  refine loose_fix rfl ?_
  refine loose_anc 9 rfl (by kernel_rfl) ?_
  refine loose_anc 8 rfl (by kernel_rfl) ?_
  refine loose_anc 7 rfl (by kernel_rfl) ?_
  refine loose_anc 6 rfl (by kernel_rfl) ?_
  refine loose_anc 5 rfl (by kernel_rfl) ?_
  refine loose_anc 4 rfl (by kernel_rfl) ?_
  refine loose_anc 3 rfl (by kernel_rfl) ?_
  refine loose_anc 2 rfl (by kernel_rfl) ?_
  refine loose_anc 1 rfl (by kernel_rfl) ?_
  refine loose_anc 0 rfl (by kernel_rfl) ?_
  exact loose_nil
 refine afl_end ?_
 refine aw_sr ?_
 refine al_fp u65 info9 ?_
 refine al_ld u9 info9 ?_
 refine al_fp u65 info3 ?_
 refine al_ld u3 info3 ?_
 refine al_fp u65 info3 ?_
 refine al_ld u3 info3 ?_
 refine al_o (val_re (.agg (cellsR (Tr.mk (tokAt l s.i).text [] [] (tokAt l s.i).line (tokAt l s.i).col))) (op_bs u46 info46 place46) (.agg _ _ (by repeat (first | exact reL_nil | refine reL_cons (.same _) ?_ | refine reL_cons (.vnil _) ?_)))) ?_
 refine al_al 6 info46 fun ver6 => ?_
 refine al_sp info46 ?_
 refine al_nil ?_
 refine aw_seq ?_
 refine aw_block ?_
 refine aw_sr ?_
 refine al_fp u65 info63 ?_
 refine al_ld u63 info63 ?_
 refine al_eq ?_
 refine al_gs ?_
 refine al_nil ?_
 refine aw_cond rfl (fun h3 => ?_) (fun h3 => ?_)
 ·have gh3 := h3
  simp only [nrm] at h3
  have g1 := gh3
  refine aw_region ?_
  refine al_mv ?_
  refine al_o (op_nilCheck_ptr rfl rfl) ?_
  refine al_fp u76 info3 ?_
  refine al_ld u3 info3 ?_
  refine al_ad ?_
  refine al_o (op_nilCheck_ptr rfl rfl) ?_
  refine al_fp u76 info3 ?_
  refine al_sp info3 ?_
  refine al_nil ?_
  refine aw_seq ?_
  skip
  refine aw_region ?_
  refine al_ld u46 info46 ?_
  refine al_sp info46 ?_
  refine al_nil ?_
  refine aw_ret ?_
  refine ⟨_, res_cell rfl u46 info46 rfl rfl rfl rfl, ?_⟩
  exact rqk (Tr.mk (tokAt l s.i).text [] [] (tokAt l s.i).line (tokAt l s.i).col) ⟨s.i + 1, s.d, s.F⟩ (qp_ok ho (Nat.le_succ _) hlt (type_name g1)) rfl
 have gh3 := h3
 simp only [nrm] at h3
 have g1 := gh3
 refine aw_sr ?_
 refine al_mv ?_
 refine al_callp into87 rfl rfl rfl (q_isA v0 l hl hn 41 s hs sVec rfl rfl) (by simp) ?_
 refine al_mv ?_
 apply al_or 7 66 73 rfl
 ·intro gh4
  refine tk_mv ?_
  refine al_callp_take into87 rfl rfl rfl rfl rfl rfl (q_isA v0 l hl hn 41 s hs sArray rfl rfl) (by simp) ?_
  refine tk_mv ?_
  apply al_and 3 69 72 rfl
  ·intro gh5
   refine tk_mv ?_
   refine al_t (op_not rfl) ?_
   refine tk_pk ?_
   exact al_nk gh5
  ·intro gh5
   iterate 2 refine al_ps ?_
   refine tk_pk ?_
   exact al_nk gh5
  refine al_pk ?_
  exact al_nk gh4
 ·intro gh4
  iterate 3 refine al_ps ?_
  refine al_pu ?_
  refine al_pu ?_
  refine al_ps ?_
  refine al_pk ?_
  exact al_nk gh4
 refine al_gs ?_
 refine al_nil ?_
 refine aw_cond rfl (fun h6 => ?_) (fun h6 => ?_)
 ·have gh6 := h6
  simp only [nrm] at h6
  have gV := gh6
  refine aw_sr ?_
  refine al_mv ?_
  refine al_o (op_nilCheck_ptr rfl rfl) ?_
  refine al_fp u76 info3 ?_
  refine al_ld u3 info3 ?_
  refine al_ad ?_
  refine al_o (op_nilCheck_ptr rfl rfl) ?_
  refine al_fp u76 info3 ?_
  refine al_sp info3 ?_
  refine al_sr ?_
  refine al_mv ?_
  have hs1 := hs.step hlt
  refine al_call into97 rfl rfl rfl (rq_lift rfl (fun _ => rfl) (q_deeper v0 l hl hn 41 ⟨s.i + 1, s.d, s.F⟩ hs1 sOpen) _ (by rfl)) (by simp) ?_; rintro _ _ ⟨a82, s82, hq82, rfl, rfl⟩
  have hs82 := hs1.into ho hq82
  refine al_sr ?_
  refine al_mv ?_
  refine al_call into42 rfl rfl rfl (rq_lift rfl (fun _ => rfl) ((q_all l hl hn (41 - 1)).2 v0 s82 hs82) _ (by rfl)) (by simp) ?_; rintro _ _ ⟨a84, s84, hq84, rfl, rfl⟩
  have hs84 := hs82.after hq84
  refine al_o (op_list encE [a84] u31 info37 rfl rfl (by decide) rfl (by decide) rfl (by first | rfl | (repeat (first | exact parts_nil | refine parts_cons rfl (by repeat (first | exact all_live_nil | refine all_live_clo rfl ?_ | refine all_live_slice rfl ?_ | refine all_live_map rfl ?_ | refine all_live_ptr rfl ?_)) ?_))) rfl rfl rfl (kids1 _)) ?_
  refine al_fp u46 info31 ?_
  refine al_sp info31 ?_
  refine al_sr ?_
  refine al_mv ?_
  refine al_call into98 rfl rfl rfl (rq_lift rfl (fun _ => rfl) (q_closed v0 l hl hn (41 - 1) s84 hs84) _ (by rfl)) (by simp) ?_; rintro _ _ ⟨a88, s88, hq88, rfl, rfl⟩
  have p88 := type_p (sub := sub) hs ho hlt g1 gV hq82 hq84 hq88
  have hs88 := hs.after p88
  refine al_sr ?_
  refine al_fp u65 info9 ?_
  refine al_ld u9 info9 ?_
  refine al_o (op_seql_str rfl rfl) ?_
  refine al_nil ?_
  refine aw_cond rfl (fun h7 => ?_) (fun h7 => ?_)
  ·have gh7 := h7
   simp only [nrm] at h7
   have gA := gh7
   refine aw_sr ?_
   refine al_mv ?_
   refine al_call into99 rfl rfl rfl (rq_lift rfl (fun _ => rfl) (q_need v0 l hl hn 41 s88 hs88 sOf) _ (by rfl)) (by simp) ?_; rintro _ _ ⟨a93, s93, hq93, rfl, rfl⟩
   have hs93 := hs88.after hq93.1
   refine al_nil ?_
   refine aw_region ?_
   refine al_mv ?_
   (refine al_call into48 rfl rfl rfl (rq_lift rfl (fun _ => rfl) (hS (type_b ho gV gA) v0 s93 hs93) _ (by rfl)) (by simp) ?_; rintro _ _ ⟨a95, s95, hq95, rfl, rfl⟩)
   refine al_o (op_list encR [a95] u44 info46 rfl rfl (by decide) rfl (by decide) rfl (by first | rfl | (repeat (first | exact parts_nil | refine parts_cons rfl (by repeat (first | exact all_live_nil | refine all_live_clo rfl ?_ | refine all_live_slice rfl ?_ | refine all_live_map rfl ?_ | refine all_live_ptr rfl ?_)) ?_))) rfl rfl rfl (elem1 _)) ?_
   refine al_fp u46 info44 ?_
   refine al_sp info44 ?_
   refine al_nil ?_
   refine aw_seq ?_
   skip
   refine aw_region ?_
   refine al_ld u46 info46 ?_
   refine al_sp info46 ?_
   refine al_nil ?_
   refine aw_ret ?_
   refine ⟨_, res_cell rfl u46 info46 rfl rfl rfl rfl, ?_⟩
   exact rqk (Tr.mk (tokAt l s.i).text [a84] [a95] (tokAt l s.i).line (tokAt l s.i).col) s95 (type_arr gA p88 hq93.1 hq95) rfl
  have gh7 := h7
  simp only [nrm] at h7
  have gA := gh7
  refine aw_skip ?_
  refine aw_seq ?_
  skip
  refine aw_region ?_
  refine al_ld u46 info46 ?_
  refine al_sp info46 ?_
  refine al_nil ?_
  refine aw_ret ?_
  refine ⟨_, res_cell rfl u46 info46 rfl rfl rfl rfl, ?_⟩
  exact rqk (Tr.mk (tokAt l s.i).text [a84] [] (tokAt l s.i).line (tokAt l s.i).col) s88 (type_vec gA p88) rfl
 have gh6 := h6
 simp only [nrm] at h6
 have gV := gh6
 refine aw_region ?_
 refine al_mv ?_
 refine al_mv ?_
 refine al_o (op_nilCheck_ptr rfl rfl) ?_
 refine al_fp u76 info3 ?_
 refine al_ld u3 info3 ?_
 (refine al_call into84 rfl rfl rfl (rq_lift rfl (fun _ => rfl) (q_fail v0 l hl hn 41 s hs 11 (by decide) s.i hi) _ (by rfl)) (by simp) ?_; rintro _ _ ⟨a51, s51, hq51, rfl, rfl⟩)
 refine al_nil ?_
 refine aw_seq ?_
 skip
 refine aw_region ?_
 refine al_ld u46 info46 ?_
 refine al_sp info46 ?_
 refine al_nil ?_
 refine aw_ret ?_
 refine ⟨_, res_cell rfl u46 info46 rfl rfl rfl rfl, ?_⟩
 exact rqk (Tr.mk (tokAt l s.i).text [] [] (tokAt l s.i).line (tokAt l s.i).col) s51 (qp_bad hq51.1 rfl (fun ho => type_fail g1 (by rw [isQ_all ho, isQ_all ho] at gV; exact gV))) rfl
end Go.Proofs.YtcgdlhkiecommaaGreatDoor
/- Printed walks (gen.py, lexer_ann.py): part 468. -/




namespace Go.Proofs.YtcgdlhkiecommaaGreatDoor
open Go
theorem q_begun (l : List Tk) (hl : OKTs l) (hn : l.length ≤ 20000) (p : Int)  : AC Tryz.prog 41 [.list 5 (l.map encK), .v (.int .i64 (p))] ([]) (fun r σ' => (begQ l p = false ∧ r = .ret (.tuple [.v (.pointer none), .v (.bool false)]) ∧ σ'.keep k0 = []) ∨ (begQ l p = true ∧ ∃ v, r = .ret (.tuple [.ptr 0 v 0 0, .v (.bool true)]) ∧ σ'.keep k0 = rq v l ⟨p.toNat, 0, okF⟩ [])) := by
 refine ace 30 Tryz.func41 ?_
 refine aw_sr ?_
 refine al_gs ?_
 refine al_gs ?_
 refine al_nil ?_
 refine aw_seq ?_
 refine aw_sr ?_
 refine al_mv ?_
 refine al_ls ?_
 refine al_mv ?_
 apply al_or 5 10 15 rfl
 ·intro h1; have gh1 := h1
  try simp only [nrm] at h1
  refine tk_mv ?_
  refine tk_mv ?_
  first
    | refine al_take (op_len_map u22 rfl) rfl rfl rfl rfl (by simp) ?_
    | refine al_take (op_len_slice u22 rfl rfl) rfl rfl rfl rfl (by simp) ?_
    | refine al_take (op_len_list u22 rfl) rfl rfl rfl rfl (by simp) ?_
    | refine al_take (op_len_v u22 rfl) rfl rfl rfl rfl (by simp) ?_
    | refine al_take (op_len_nil u22 rfl) rfl rfl rfl rfl (by simp) ?_
  refine al_t (op_gtr rfl rfl) ?_
  first
    | refine al_op (op_pick rfl rfl) rfl (by simp) ?_
    | refine al_op (op_or rfl rfl rfl) rfl (by simp) ?_
  exact al_nk gh1
 ·intro h1; have gh1 := h1
  try simp only [nrm] at h1
  iterate 4 refine al_ps ?_
  first
    | refine al_op (op_pick rfl rfl) rfl (by simp) ?_
    | refine al_op (op_or rfl rfl rfl) rfl (by simp) ?_
  exact al_nk gh1
 refine al_nil ?_
 refine aw_cond rfl (fun h2 => ?_) (fun h2 => ?_)
 ·have gh2 := h2
  try simp only [nrm] at h2
  have gB := gh2
  refine aw_sr ?_
  refine al_gs ?_
  refine al_gs ?_
  refine al_nil ?_
  refine aw_ret ?_
  refine ⟨_, res_2 rfl rfl rfl rfl rfl, ?_⟩
  exact .inl ⟨beg_no gB, rfl, rfl⟩
 have gh2 := h2
 try simp only [nrm] at h2
 have gB := gh2
 refine aw_skip ?_
 refine aw_seq ?_
 refine aw_sr ?_
 refine al_mv ?_
 first
   | refine al_op (op_len_map u22 rfl) rfl (by simp) ?_
   | refine al_op (op_len_slice u22 rfl rfl) rfl (by simp) ?_
   | refine al_op (op_len_list u22 rfl) rfl (by simp) ?_
   | refine al_op (op_len_v u22 rfl) rfl (by simp) ?_
   | refine al_op (op_len_nil u22 rfl) rfl (by simp) ?_
 refine al_mv ?_
 refine al_nil ?_
 refine aw_block ?_
 refine aw_forT (ι := Nat) [4, 5, 18] [7] (fun i => l.length - i) (fun i => i ≤ l.length ∧ ∀ k, k < i → possT (l.getD k default) = true) (fun i => ([(18, .v (.int .i64 ((i : Nat) : Int)))] : Env)) (fun i s => s) (0) ?_ ?_ ?_ (fun i hinv => ?_)
 ·exact ⟨Nat.zero_le _, fun k hk => absurd hk (Nat.not_lt_zero k)⟩
 ·refine sub_1 ?_
  all_goals (first | rfl | simp)
 ·rfl
 have hi := hinv.1
 refine aw_sr ?_
 refine al_ls ?_
 refine al_nil ?_
 refine aw_seq ?_
 refine aw_cond rfl (fun h3 => ?_) (fun h3 => ?_)
 ·have gh3 := h3
  try simp only [nrm] at h3
  refine aw_skip ?_
  refine aw_seq ?_
  refine aw_block ?_
  refine aw_sr ?_
  first
    | refine al_op (op_im u22 info65) rfl (by simp) ?_
    | refine al_op (op_index_slice u22 info65 rfl rfl rfl rfl (by omega) (by omega)) rfl (by simp) ?_
    | refine al_op (op_index_list u22 info65 rfl rfl rfl (by decide) rfl) rfl (by simp) ?_
  first
    | refine al_op (op_load_rptr u65 info65 rfl rfl) rfl (by simp) ?_
    | refine al_op (op_load_map u65 info65 rfl rfl (by omega) rfl) rfl (by simp) ?_
    | refine al_op (op_load_ptr u65 info65 rfl rfl rfl rfl) rfl (by simp) ?_
  refine al_al 7 info65 fun ver7 => ?_
  first
    | refine al_op (op_sp info65) rfl (by simp) ?_
    | refine al_op (op_sp info65) rfl (by simp) ?_
  refine al_sr ?_
  first
    | refine al_op (op_load_rptr u65 info65 rfl rfl) rfl (by simp) ?_
    | refine al_op (op_load_map u65 info65 rfl rfl (by omega) rfl) rfl (by simp) ?_
    | refine al_op (op_load_ptr u65 info65 rfl rfl rfl rfl) rfl (by simp) ?_
  refine al_callp into79 rfl rfl rfl (r_poss (l.getD i default) (hl.at i (by omega)) _) (by simp) ?_
  refine al_o (op_not rfl) ?_
  refine al_nil ?_
  refine aw_cond rfl (fun h4 => ?_) (fun h4 => ?_)
  ·have gh4 := h4
   try simp only [nrm] at h4
   have gP := gh4
   refine aw_sr ?_
   refine al_gs ?_
   refine al_gs ?_
   refine al_nil ?_
   refine aw_ret ?_
   refine ⟨_, res_2 rfl rfl rfl rfl rfl, ?_⟩
   exact .inl ⟨beg_im (i := i) (by omega) (by simpa using gP), rfl, rfl⟩
  have gh4 := h4
  try simp only [nrm] at h4
  have gP := gh4
  refine aw_skip ?_
  refine aw_region ?_
  refine al_ad ?_
  refine al_mv ?_
  refine al_nil ?_
  refine ⟨i + 1, ?_, ?_, ?_, ?_, ?_⟩
  ·omega
  ·exact ⟨by omega, fun k hk => by
    rcases Nat.lt_or_ge k i with h | h
    · exact hinv.2 k h
    · rw [show k = i by omega]; simpa using gP⟩
  ·refine sub_1 ?_
   all_goals (first | rfl | simp)
  ·exact sbl
  ·rfl
 have gh3 := h3
 try simp only [nrm] at h3
 refine aw_exit ?_
 refine aw_seq ?_
 obtain ⟨q, rfl⟩ := Int.eq_ofNat_of_zero_le (show 0 ≤ p by have := gB; simp only [Bool.or_eq_false_iff, decide_eq_false_iff_not] at this; omega)
 refine aw_region ?_
 refine al_mv ?_
 refine al_mv ?_
 refine al_o (op_bs u76 info76 place76) ?_
 refine al_bx 0 fun ver29 => ?_
 refine al_gs ?_
 refine al_gs ?_
 refine al_nil ?_
 refine aw_ret ?_
 refine ⟨_, res_2 rfl rfl rfl rfl rfl, ?_⟩
 exact .inr ⟨beg_yes gB (fun k hk => hinv.2 k (by omega)), _, rfl, rfl⟩
theorem q_begF (l : List Tk) (hl : OKTs l) (hn : l.length ≤ 20000) (p : Int) (hb : begQ l p = false) {σ : Store} (h1 : σ.get 0 = none) (hs : σ.below 1000 = true) : AC Tryz.prog 41 [.list 5 (l.map encK), .v (.int .i64 (p))] σ (fun r σ' => r = .ret (.tuple [.v (.pointer none), .v (.bool false)]) ∧ σ' = σ) :=
  ac_mono (beg_call 0 (by decide) (q_begun l hl hn p) h1 hs) (by
    rintro r σ' (⟨_, h⟩ | ⟨e, _⟩)
    · exact h
    · rw [hb] at e; cases e)
theorem q_begT (l : List Tk) (hl : OKTs l) (hn : l.length ≤ 20000) (i : Nat) (hb : begQ l (i : Int) = true) {σ : Store} (h1 : σ.get 0 = none) (hs : σ.below 1000 = true) : AC Tryz.prog 41 [.list 5 (l.map encK), .v (.int .i64 ((i : Nat) : Int))] σ (fun r σ' => ∃ v, r = .ret (.tuple [.ptr 0 v 0 0, .v (.bool true)]) ∧ σ' = σ.put 0 v (.row 7 [rdq l ⟨i, 0, okF⟩])) :=
  ac_mono (beg_call 0 (by decide) (q_begun l hl hn (i : Int)) h1 hs) (by
    rintro r σ' (⟨e, _⟩ | ⟨_, h⟩)
    · rw [hb] at e; cases e
    · exact h)
end Go.Proofs.YtcgdlhkiecommaaGreatDoor
