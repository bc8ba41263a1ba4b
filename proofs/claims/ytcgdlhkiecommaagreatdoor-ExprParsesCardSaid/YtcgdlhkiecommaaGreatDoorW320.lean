import Derived.Test.YtcgdlhkiecommaaGreatDoorLRef

import Derived.Test.YtcgdlhkiecommaaGreatDoorXSame2
import Derived.Test.YtcgdlhkiecommaaGreatDoorFacts
import Derived.Test.YtcgdlhkiecommaaGreatDoorEngNest

import Derived.Test.YtcgdlhkiecommaaGreatDoorXTop



/- Printed walks (gen.py, lexer_ann.py): part 303. -/





set_option linter.unusedVariables false
set_option linter.unusedSimpArgs false
set_option maxRecDepth 20000
set_option maxHeartbeats 40000000
namespace Go.Proofs.YtcgdlhkiecommaaGreatDoor
open Go
theorem c_letter (c : UInt8) : ACp Tryz.prog 118 [.v (.int .u8 ((c).toNat : Int))] (.v (.bool (isLetterC c))) := by
 refine acp_of rfl ?_
 refine ace 17 Tryz.func118 ?_
 refine aw_sr ?_
 refine al_gs ?_
 refine al_sr ?_
 refine al_mv ?_
 refine al_o (op_geq rfl rfl) ?_
 refine al_mv ?_
 apply al_and 3 5 8 rfl
 ·intro h1; have gh1 := h1
  simp only [nrm] at h1
  refine tk_mv ?_
  refine al_t (op_leq rfl rfl) ?_
  refine al_pk ?_
  exact al_nk gh1
 ·intro h1; have gh1 := h1
  simp only [nrm] at h1
  iterate 2 refine al_ps ?_
  refine al_pk ?_
  exact al_nk gh1
 refine al_mv ?_
 apply al_or 7 9 16 rfl
 ·intro h2; have gh2 := h2
  simp only [nrm] at h2
  refine tk_mv ?_
  refine al_t (op_geq rfl rfl) ?_
  refine tk_mv ?_
  apply al_and 3 12 15 rfl
  ·intro h3; have gh3 := h3
   simp only [nrm] at h3
   refine tk_mv ?_
   refine al_t (op_leq rfl rfl) ?_
   refine tk_pk ?_
   exact al_nk gh3
  ·intro h3; have gh3 := h3
   simp only [nrm] at h3
   iterate 2 refine al_ps ?_
   refine tk_pk ?_
   exact al_nk gh3
  refine al_pk ?_
  exact al_nk gh2
 ·intro h2; have gh2 := h2
  simp only [nrm] at h2
  iterate 3 refine al_ps ?_
  refine al_pu ?_
  refine al_pu ?_
  refine al_ps ?_
  refine al_pk ?_
  exact al_nk gh2
 refine al_gs ?_
 refine al_nil ?_
 refine fz1 (t := 2) ?_
 refine aw_ret ?_
 refine ⟨_, res_1 rfl rfl, ?_, rfl⟩
 first | rfl | simp_all
theorem c_digit (c : UInt8) : ACp Tryz.prog 168 [.v (.int .u8 ((c).toNat : Int))] (.v (.bool (isDigitC c))) := by
 refine acp_of rfl ?_
 refine ace 9 Tryz.func168 ?_
 refine aw_sr ?_
 refine al_gs ?_
 refine al_sr ?_
 refine al_mv ?_
 refine al_o (op_geq rfl rfl) ?_
 refine al_mv ?_
 apply al_and 3 5 8 rfl
 ·intro h1; have gh1 := h1
  simp only [nrm] at h1
  refine tk_mv ?_
  refine al_t (op_leq rfl rfl) ?_
  refine al_pk ?_
  exact al_nk gh1
 ·intro h1; have gh1 := h1
  simp only [nrm] at h1
  iterate 2 refine al_ps ?_
  refine al_pk ?_
  exact al_nk gh1
 refine al_gs ?_
 refine al_nil ?_
 refine fz1 (t := 2) ?_
 refine aw_ret ?_
 refine ⟨_, res_1 rfl rfl, ?_, rfl⟩
 first | rfl | simp_all
theorem c_part (c : UInt8) : ACp Tryz.prog 120 [.v (.int .u8 ((c).toNat : Int))] (.v (.bool (isPartC c))) := by
 refine acp_of rfl ?_
 refine ace 13 Tryz.func120 ?_
 refine aw_sr ?_
 refine al_gs ?_
 refine al_sr ?_
 refine al_mv ?_
 refine al_callp into118 rfl rfl rfl ((c_letter _) _) (by simp) ?_
 refine al_mv ?_
 apply al_or 3 5 8 rfl
 ·intro gh1
  refine tk_mv ?_
  refine al_callp_take into168 rfl rfl rfl rfl rfl rfl ((c_digit _) _) (by simp) ?_
  refine al_pk ?_
  exact al_nk gh1
 ·intro gh1
  iterate 2 refine al_ps ?_
  refine al_pk ?_
  exact al_nk gh1
 refine al_mv ?_
 apply al_or 3 9 12 rfl
 ·intro h2; have gh2 := h2
  simp only [nrm] at h2
  refine tk_mv ?_
  refine tk_eq ?_
  refine al_pk ?_
  exact al_nk gh2
 ·intro h2; have gh2 := h2
  simp only [nrm] at h2
  iterate 2 refine al_ps ?_
  refine al_pk ?_
  exact al_nk gh2
 refine al_gs ?_
 refine al_nil ?_
 refine fz1 (t := 2) ?_
 refine aw_ret ?_
 refine ⟨_, res_1 rfl rfl, ?_, rfl⟩
 first | rfl | simp_all
theorem c_plain (c : UInt8) : ACp Tryz.prog 185 [.v (.int .u8 ((c).toNat : Int))] (.v (.bool (isPlainC c))) := by
 refine acp_of rfl ?_
 refine ace 13 Tryz.func185 ?_
 refine aw_sr ?_
 refine al_gs ?_
 refine al_sr ?_
 refine al_mv ?_
 refine al_o (op_geq rfl rfl) ?_
 refine al_mv ?_
 apply al_and 3 5 8 rfl
 ·intro h1; have gh1 := h1
  simp only [nrm] at h1
  refine tk_mv ?_
  refine al_t (op_leq rfl rfl) ?_
  refine al_pk ?_
  exact al_nk gh1
 ·intro h1; have gh1 := h1
  simp only [nrm] at h1
  iterate 2 refine al_ps ?_
  refine al_pk ?_
  exact al_nk gh1
 refine al_mv ?_
 apply al_and 3 9 12 rfl
 ·intro h2; have gh2 := h2
  simp only [nrm] at h2
  refine tk_mv ?_
  refine al_t (op_neq rfl rfl) ?_
  refine al_pk ?_
  exact al_nk gh2
 ·intro h2; have gh2 := h2
  simp only [nrm] at h2
  iterate 2 refine al_ps ?_
  refine al_pk ?_
  exact al_nk gh2
 refine al_gs ?_
 refine al_nil ?_
 refine fz1 (t := 2) ?_
 refine aw_ret ?_
 refine ⟨_, res_1 rfl rfl, ?_, rfl⟩
 first | rfl | simp_all
theorem r_letter (c : UInt8) : ACp Tryz.prog 121 [.v (.int .u8 ((c).toNat : Int))] (.v (.bool (isLetterC c))) := by
 refine acp_of rfl ?_
 refine ace 17 Tryz.func121 ?_
 refine aw_sr ?_
 refine al_gs ?_
 refine al_sr ?_
 refine al_mv ?_
 refine al_o (op_geq rfl rfl) ?_
 refine al_mv ?_
 apply al_and 3 5 8 rfl
 ·intro h1; have gh1 := h1
  simp only [nrm] at h1
  refine tk_mv ?_
  refine al_t (op_leq rfl rfl) ?_
  refine al_pk ?_
  exact al_nk gh1
 ·intro h1; have gh1 := h1
  simp only [nrm] at h1
  iterate 2 refine al_ps ?_
  refine al_pk ?_
  exact al_nk gh1
 refine al_mv ?_
 apply al_or 7 9 16 rfl
 ·intro h2; have gh2 := h2
  simp only [nrm] at h2
  refine tk_mv ?_
  refine al_t (op_geq rfl rfl) ?_
  refine tk_mv ?_
  apply al_and 3 12 15 rfl
  ·intro h3; have gh3 := h3
   simp only [nrm] at h3
   refine tk_mv ?_
   refine al_t (op_leq rfl rfl) ?_
   refine tk_pk ?_
   exact al_nk gh3
  ·intro h3; have gh3 := h3
   simp only [nrm] at h3
   iterate 2 refine al_ps ?_
   refine tk_pk ?_
   exact al_nk gh3
  refine al_pk ?_
  exact al_nk gh2
 ·intro h2; have gh2 := h2
  simp only [nrm] at h2
  iterate 3 refine al_ps ?_
  refine al_pu ?_
  refine al_pu ?_
  refine al_ps ?_
  refine al_pk ?_
  exact al_nk gh2
 refine al_gs ?_
 refine al_nil ?_
 refine fz1 (t := 2) ?_
 refine aw_ret ?_
 refine ⟨_, res_1 rfl rfl, ?_, rfl⟩
 first | rfl | simp_all
theorem r_digit (c : UInt8) : ACp Tryz.prog 173 [.v (.int .u8 ((c).toNat : Int))] (.v (.bool (isDigitC c))) := by
 refine acp_of rfl ?_
 refine ace 9 Tryz.func173 ?_
 refine aw_sr ?_
 refine al_gs ?_
 refine al_sr ?_
 refine al_mv ?_
 refine al_o (op_geq rfl rfl) ?_
 refine al_mv ?_
 apply al_and 3 5 8 rfl
 ·intro h1; have gh1 := h1
  simp only [nrm] at h1
  refine tk_mv ?_
  refine al_t (op_leq rfl rfl) ?_
  refine al_pk ?_
  exact al_nk gh1
 ·intro h1; have gh1 := h1
  simp only [nrm] at h1
  iterate 2 refine al_ps ?_
  refine al_pk ?_
  exact al_nk gh1
 refine al_gs ?_
 refine al_nil ?_
 refine fz1 (t := 2) ?_
 refine aw_ret ?_
 refine ⟨_, res_1 rfl rfl, ?_, rfl⟩
 first | rfl | simp_all
theorem r_inner (c : UInt8) : ACp Tryz.prog 194 [.v (.int .u8 ((c).toNat : Int))] (.v (.bool (isPartC c))) := by
 refine acp_of rfl ?_
 refine ace 13 Tryz.func194 ?_
 refine aw_sr ?_
 refine al_gs ?_
 refine al_sr ?_
 refine al_mv ?_
 refine al_callp into121 rfl rfl rfl ((r_letter _) _) (by simp) ?_
 refine al_mv ?_
 apply al_or 3 5 8 rfl
 ·intro gh1
  refine tk_mv ?_
  refine al_callp_take into173 rfl rfl rfl rfl rfl rfl ((r_digit _) _) (by simp) ?_
  refine al_pk ?_
  exact al_nk gh1
 ·intro gh1
  iterate 2 refine al_ps ?_
  refine al_pk ?_
  exact al_nk gh1
 refine al_mv ?_
 apply al_or 3 9 12 rfl
 ·intro h2; have gh2 := h2
  simp only [nrm] at h2
  refine tk_mv ?_
  refine tk_eq ?_
  refine al_pk ?_
  exact al_nk gh2
 ·intro h2; have gh2 := h2
  simp only [nrm] at h2
  iterate 2 refine al_ps ?_
  refine al_pk ?_
  exact al_nk gh2
 refine al_gs ?_
 refine al_nil ?_
 refine fz1 (t := 2) ?_
 refine aw_ret ?_
 refine ⟨_, res_1 rfl rfl, ?_, rfl⟩
 first | rfl | simp_all
theorem r_bit (c : UInt8) : ACp Tryz.prog 132 [.v (.int .u8 ((c).toNat : Int))] (.v (.bool (isBitC c))) := by
 refine acp_of rfl ?_
 refine ace 17 Tryz.func132 ?_
 refine aw_sr ?_
 refine al_gs ?_
 refine al_sr ?_
 refine al_mv ?_
 refine al_eq ?_
 refine al_mv ?_
 apply al_or 3 5 8 rfl
 ·intro h1; have gh1 := h1
  simp only [nrm] at h1
  refine tk_mv ?_
  refine tk_eq ?_
  refine al_pk ?_
  exact al_nk gh1
 ·intro h1; have gh1 := h1
  simp only [nrm] at h1
  iterate 2 refine al_ps ?_
  refine al_pk ?_
  exact al_nk gh1
 refine al_mv ?_
 apply al_or 3 9 12 rfl
 ·intro h2; have gh2 := h2
  simp only [nrm] at h2
  refine tk_mv ?_
  refine tk_eq ?_
  refine al_pk ?_
  exact al_nk gh2
 ·intro h2; have gh2 := h2
  simp only [nrm] at h2
  iterate 2 refine al_ps ?_
  refine al_pk ?_
  exact al_nk gh2
 refine al_mv ?_
 apply al_or 3 13 16 rfl
 ·intro h3; have gh3 := h3
  simp only [nrm] at h3
  refine tk_mv ?_
  refine tk_eq ?_
  refine al_pk ?_
  exact al_nk gh3
 ·intro h3; have gh3 := h3
  simp only [nrm] at h3
  iterate 2 refine al_ps ?_
  refine al_pk ?_
  exact al_nk gh3
 refine al_gs ?_
 refine al_nil ?_
 refine fz1 (t := 2) ?_
 refine aw_ret ?_
 refine ⟨_, res_1 rfl rfl, ?_, rfl⟩
 rw [isBitC_int]
theorem r_plain (c : UInt8) : ACp Tryz.prog 195 [.v (.int .u8 ((c).toNat : Int))] (.v (.bool (isPlainC c))) := by
 refine acp_of rfl ?_
 refine ace 13 Tryz.func195 ?_
 refine aw_sr ?_
 refine al_gs ?_
 refine al_sr ?_
 refine al_mv ?_
 refine al_o (op_geq rfl rfl) ?_
 refine al_mv ?_
 apply al_and 3 5 8 rfl
 ·intro h1; have gh1 := h1
  simp only [nrm] at h1
  refine tk_mv ?_
  refine al_t (op_leq rfl rfl) ?_
  refine al_pk ?_
  exact al_nk gh1
 ·intro h1; have gh1 := h1
  simp only [nrm] at h1
  iterate 2 refine al_ps ?_
  refine al_pk ?_
  exact al_nk gh1
 refine al_mv ?_
 apply al_and 3 9 12 rfl
 ·intro h2; have gh2 := h2
  simp only [nrm] at h2
  refine tk_mv ?_
  refine al_t (op_neq rfl rfl) ?_
  refine al_pk ?_
  exact al_nk gh2
 ·intro h2; have gh2 := h2
  simp only [nrm] at h2
  iterate 2 refine al_ps ?_
  refine al_pk ?_
  exact al_nk gh2
 refine al_gs ?_
 refine al_nil ?_
 refine fz1 (t := 2) ?_
 refine aw_ret ?_
 refine ⟨_, res_1 rfl rfl, ?_, rfl⟩
 first | rfl | simp_all
theorem r_of (c : UInt8) (k : Int) : ACp Tryz.prog 169 [.v (.int .u8 ((c).toNat : Int)), .v (.int .i64 (k))] (.v (.bool (ofK c k))) := by
 refine acp_of rfl ?_
 refine ace 24 Tryz.func169 ?_
 refine aw_sr ?_
 refine al_gs ?_
 refine al_nil ?_
 refine aw_seq ?_
 refine aw_sr ?_
 refine al_mv ?_
 refine al_nil ?_
 refine aw_block ?_
 refine aw_sr ?_
 refine al_eq ?_
 refine al_gs ?_
 refine al_nil ?_
 refine aw_cond rfl (fun h1 => ?_) (fun h1 => ?_)
 ·have gh1 := h1
  simp only [nrm] at h1
  refine aw_sr ?_
  refine al_mv ?_
  refine al_callp into173 rfl rfl rfl ((r_digit _) _) (by simp) ?_
  refine al_gs ?_
  refine al_nil ?_
  refine fz1 (t := 4) ?_
  refine aw_ret ?_
  refine ⟨_, res_1 rfl rfl, ?_, rfl⟩
  rw [ofK, gh1]; rfl
 have gh1 := h1
 simp only [nrm] at h1
 refine aw_sr ?_
 refine al_eq ?_
 refine al_gs ?_
 refine al_nil ?_
 refine aw_cond rfl (fun h2 => ?_) (fun h2 => ?_)
 ·have gh2 := h2
  simp only [nrm] at h2
  refine aw_sr ?_
  refine al_mv ?_
  refine al_callp into194 rfl rfl rfl ((r_inner _) _) (by simp) ?_
  refine al_gs ?_
  refine al_nil ?_
  refine fz1 (t := 4) ?_
  refine aw_ret ?_
  refine ⟨_, res_1 rfl rfl, ?_, rfl⟩
  rw [ofK, gh1, gh2]; rfl
 have gh2 := h2
 simp only [nrm] at h2
 refine aw_sr ?_
 refine al_eq ?_
 refine al_gs ?_
 refine al_nil ?_
 refine aw_cond rfl (fun h3 => ?_) (fun h3 => ?_)
 ·have gh3 := h3
  simp only [nrm] at h3
  refine aw_sr ?_
  refine al_mv ?_
  refine al_callp into132 rfl rfl rfl ((r_bit _) _) (by simp) ?_
  refine al_gs ?_
  refine al_nil ?_
  refine fz1 (t := 4) ?_
  refine aw_ret ?_
  refine ⟨_, res_1 rfl rfl, ?_, rfl⟩
  rw [ofK, gh1, gh2, gh3]; rfl
 have gh3 := h3
 simp only [nrm] at h3
 refine aw_sr ?_
 refine al_eq ?_
 refine al_gs ?_
 refine al_nil ?_
 refine aw_cond rfl (fun h4 => ?_) (fun h4 => ?_)
 ·have gh4 := h4
  simp only [nrm] at h4
  refine aw_sr ?_
  refine al_mv ?_
  refine al_callp into195 rfl rfl rfl ((r_plain _) _) (by simp) ?_
  refine al_gs ?_
  refine al_nil ?_
  refine fz1 (t := 4) ?_
  refine aw_ret ?_
  refine ⟨_, res_1 rfl rfl, ?_, rfl⟩
  rw [ofK, gh1, gh2, gh3, gh4]; rfl
 have gh4 := h4
 simp only [nrm] at h4
 refine aw_skip ?_
 refine aw_sr ?_
 refine al_mv ?_
 refine al_o (op_neq rfl rfl) ?_
 refine al_gs ?_
 refine al_nil ?_
 refine fz1 (t := 4) ?_
 refine aw_ret ?_
 refine ⟨_, res_1 rfl rfl, ?_, rfl⟩
 rw [ofK, gh1, gh2, gh3, gh4]; rfl
theorem c_runpart (s : Bs) (hs : s.length ≤ 140737488355328) : ACp Tryz.prog 184 [.v (.string (str (s))), .v (.func (.func 120) #[] #[])] (.v (.string (str ((s.takeWhile isPartC))))) := by
 refine acp_of rfl ?_
 refine ace 22 Tryz.func184 ?_
 refine aw_sr ?_
 refine al_gs ?_
 refine al_sr ?_
 refine al_gs ?_
 refine al_nil ?_
 refine aw_seq ?_
 refine aw_block ?_
 refine aw_forT (ι := Nat) [5] [] (fun i => s.length - i) (fun i => i ≤ s.length ∧ ∀ k, k < i → isPartC (s.getD k default) = true) (fun i => ([(5, .v (.int .i64 (i)))] : Env)) (fun i s => s) (0) ?_ ?_ ?_ (fun i hinv => ?_)
 ·exact ⟨Nat.zero_le _, fun k hk => absurd hk (Nat.not_lt_zero k)⟩
 ·refine sub_1 ?_
  all_goals (first | rfl | simp)
 ·rfl
 have hi := hinv.1
 refine aw_seq ?_
 refine aw_sr ?_
 refine al_mv ?_
 refine al_mv ?_
 refine al_o (op_slen_str (ts := #[]) u9 rfl) ?_
 refine al_ls ?_
 refine al_mv ?_
 apply al_and 6 10 16 rfl
 ·intro h1; have gh1 := h1
  simp only [nrm] at h1
  refine tk_mv ?_
  refine tk_mv ?_
  refine tk_mv ?_
  refine al_t (op_sidx_str u9 rfl rfl (by first | (with_reducible exact Int.toNat_natCast _) | rfl) (by omega) (by first | omega | (simp; omega))) ?_
  refine al_callp_take into120 rfl rfl rfl rfl rfl rfl ((c_part _) _) (by simp) ?_
  refine al_pk ?_
  exact al_nk gh1
 ·intro h1; have gh1 := h1
  simp only [nrm] at h1
  iterate 5 refine al_ps ?_
  refine al_pk ?_
  exact al_nk gh1
 refine al_nil ?_
 refine aw_cond rfl (fun h2 => ?_) (fun h2 => ?_)
 ·have gh2 := h2
  simp only [nrm] at h2
  refine aw_skip ?_
  refine aw_block ?_
  refine aw_region ?_
  refine al_mv ?_
  refine al_ad ?_
  refine al_gs ?_
  refine al_nil ?_
  refine ⟨i + 1, ?_, ?_, ?_, ?_, ?_⟩
  ·omega
  ·exact ⟨by omega, run_step (p := isPartC) (s := s) hinv.2 h2.2⟩
  ·refine sub_1 ?_
   all_goals (first | rfl | simp)
  ·exact sbl
  ·rfl
 have gh2 := h2
 refine aw_exit ?_
 have hrun := run_take (p := isPartC) (s := s) hinv.2 hinv.1 (by rcases Bool.and_eq_false_iff.1 gh2 with e | e; exact .inl (by have := of_decide_eq_false e; omega); exact .inr e)
 refine aw_sr ?_
 refine al_mv ?_
 refine al_mv ?_
 refine al_o (op_cut_to u9 rfl (by first | exact .of rfl rfl | exact OptI.ofN rfl (by omega)) (by first | omega | (simp; omega))) ?_
 refine al_gs ?_
 refine al_nil ?_
 refine fz1 (t := 4) ?_
 refine aw_ret ?_
 refine ⟨_, res_1 rfl rfl, ?_, rfl⟩
 rw [hrun]
theorem c_runplain (s : Bs) (hs : s.length ≤ 140737488355328) : ACp Tryz.prog 184 [.v (.string (str (s))), .v (.func (.func 185) #[] #[])] (.v (.string (str ((s.takeWhile isPlainC))))) := by
 refine acp_of rfl ?_
 refine ace 22 Tryz.func184 ?_
 refine aw_sr ?_
 refine al_gs ?_
 refine al_sr ?_
 refine al_gs ?_
 refine al_nil ?_
 refine aw_seq ?_
 refine aw_block ?_
 refine aw_forT (ι := Nat) [5] [] (fun i => s.length - i) (fun i => i ≤ s.length ∧ ∀ k, k < i → isPlainC (s.getD k default) = true) (fun i => ([(5, .v (.int .i64 (i)))] : Env)) (fun i s => s) (0) ?_ ?_ ?_ (fun i hinv => ?_)
 ·exact ⟨Nat.zero_le _, fun k hk => absurd hk (Nat.not_lt_zero k)⟩
 ·refine sub_1 ?_
  all_goals (first | rfl | simp)
 ·rfl
 have hi := hinv.1
 refine aw_seq ?_
 refine aw_sr ?_
 refine al_mv ?_
 refine al_mv ?_
 refine al_o (op_slen_str (ts := #[]) u9 rfl) ?_
 refine al_ls ?_
 refine al_mv ?_
 apply al_and 6 10 16 rfl
 ·intro h1; have gh1 := h1
  simp only [nrm] at h1
  refine tk_mv ?_
  refine tk_mv ?_
  refine tk_mv ?_
  refine al_t (op_sidx_str u9 rfl rfl (by first | (with_reducible exact Int.toNat_natCast _) | rfl) (by omega) (by first | omega | (simp; omega))) ?_
  refine al_callp_take into185 rfl rfl rfl rfl rfl rfl ((c_plain _) _) (by simp) ?_
  refine al_pk ?_
  exact al_nk gh1
 ·intro h1; have gh1 := h1
  simp only [nrm] at h1
  iterate 5 refine al_ps ?_
  refine al_pk ?_
  exact al_nk gh1
 refine al_nil ?_
 refine aw_cond rfl (fun h2 => ?_) (fun h2 => ?_)
 ·have gh2 := h2
  simp only [nrm] at h2
  refine aw_skip ?_
  refine aw_block ?_
  refine aw_region ?_
  refine al_mv ?_
  refine al_ad ?_
  refine al_gs ?_
  refine al_nil ?_
  refine ⟨i + 1, ?_, ?_, ?_, ?_, ?_⟩
  ·omega
  ·exact ⟨by omega, run_step (p := isPlainC) (s := s) hinv.2 h2.2⟩
  ·refine sub_1 ?_
   all_goals (first | rfl | simp)
  ·exact sbl
  ·rfl
 have gh2 := h2
 refine aw_exit ?_
 have hrun := run_take (p := isPlainC) (s := s) hinv.2 hinv.1 (by rcases Bool.and_eq_false_iff.1 gh2 with e | e; exact .inl (by have := of_decide_eq_false e; omega); exact .inr e)
 refine aw_sr ?_
 refine al_mv ?_
 refine al_mv ?_
 refine al_o (op_cut_to u9 rfl (by first | exact .of rfl rfl | exact OptI.ofN rfl (by omega)) (by first | omega | (simp; omega))) ?_
 refine al_gs ?_
 refine al_nil ?_
 refine fz1 (t := 4) ?_
 refine aw_ret ?_
 refine ⟨_, res_1 rfl rfl, ?_, rfl⟩
 rw [hrun]
theorem r_run3 (s : Bs) (hs : s.length ≤ 140737488355328) (i : Nat) (hi : i ≤ s.length) (k : Int) : ACp Tryz.prog 122 [.v (.string (str (s))), .v (.int .i64 ((i : Nat) : Int)), .v (.int .i64 (k))] (.v (.int .i64 ((((s.drop i).takeWhile (ofK · k)).length : Nat) : Int))) := by
 refine acp_of rfl ?_
 refine ace 26 Tryz.func122 ?_
 refine aw_sr ?_
 refine al_gs ?_
 refine al_sr ?_
 refine al_gs ?_
 refine al_nil ?_
 refine aw_seq ?_
 refine aw_block ?_
 refine aw_forT (ι := Nat) [7] [] (fun j => s.length - j) (fun j => i + j ≤ s.length ∧ ∀ q, q < j → ofK ((s.drop i).getD q default) k = true) (fun j => ([(7, .v (.int .i64 (j)))] : Env)) (fun j s => s) (0) ?_ ?_ ?_ (fun j hinv => ?_)
 ·exact ⟨hi, fun q hq => absurd hq (Nat.not_lt_zero q)⟩
 ·refine sub_1 ?_
  all_goals (first | rfl | simp)
 ·rfl
 have hi2 := hinv.1
 refine aw_seq ?_
 refine aw_sr ?_
 refine al_mv ?_
 refine al_mv ?_
 refine al_ad ?_
 refine al_mv ?_
 refine al_o (op_slen_str (ts := #[]) u9 rfl) ?_
 refine al_ls ?_
 refine al_mv ?_
 apply al_and 8 14 22 rfl
 ·intro h1; have gh1 := h1
  simp only [nrm] at h1
  refine tk_mv ?_
  refine tk_mv ?_
  refine tk_mv ?_
  refine al_t (op_add rfl rfl (by first | exact wrap_i64 (by omega) (by omega))) ?_
  refine al_t (op_sidx_str u9 rfl rfl (by first | (with_reducible exact Int.toNat_natCast _) | rfl) (by omega) (by first | omega | (simp; omega))) ?_
  refine tk_mv ?_
  refine al_callp_take into169 rfl rfl rfl rfl rfl rfl ((r_of _ _) _) (by simp) ?_
  refine al_pk ?_
  exact al_nk gh1
 ·intro h1; have gh1 := h1
  simp only [nrm] at h1
  iterate 7 refine al_ps ?_
  refine al_pk ?_
  exact al_nk gh1
 refine al_nil ?_
 refine aw_cond rfl (fun h2 => ?_) (fun h2 => ?_)
 ·have gh2 := h2
  simp only [nrm] at h2
  refine aw_skip ?_
  refine aw_block ?_
  refine aw_region ?_
  refine al_mv ?_
  refine al_ad ?_
  refine al_gs ?_
  refine al_nil ?_
  refine ⟨j + 1, ?_, ?_, ?_, ?_, ?_⟩
  ·omega
  ·exact ⟨by omega, run_step (p := fun c => ofK c k) (s := s.drop i) hinv.2 (by have := h2.2; rw [toNat_add2] at this; rw [getD_drop]; exact this)⟩
  ·refine sub_1 ?_
   all_goals (first | rfl | simp)
  ·exact sbl
  ·rfl
 have gh2 := h2
 refine aw_exit ?_
 have hrun := run_take3 (p := fun c => ofK c k) (s := s.drop i) hinv.2 (by rw [List.length_drop]; omega) (by rcases Bool.and_eq_false_iff.1 gh2 with e | e; exact .inl (by have := of_decide_eq_false e; rw [List.length_drop]; omega); exact .inr (by rw [toNat_add2] at e; rw [getD_drop]; exact e))
 refine aw_sr ?_
 refine al_mv ?_
 refine al_gs ?_
 refine al_nil ?_
 refine fz1 (t := 6) ?_
 refine aw_ret ?_
 refine ⟨_, res_1 rfl rfl, ?_, rfl⟩
 rw [← hrun]
theorem q_sindex1 (s : Bs) (c : UInt8) : ACp Tryz.prog 200 [.v (.string (str (s))), .v (.string (str ([c])))] (.v (.int .i64 (Lib.indexByte s c))) := by
 refine acp_of rfl ?_
 refine ace 143 Tryz.func200 ?_
 refine aw_sr ?_
 refine al_gs ?_
 refine al_sr ?_
 refine al_mv ?_
 refine al_o (op_slen_str (ts := #[]) u9 rfl) ?_
 refine al_gs ?_
 refine al_nil ?_
 refine aw_seq ?_
 refine aw_block ?_
 refine aw_sr ?_
 refine al_mv ?_
 refine al_eq ?_
 refine al_mv ?_
 apply al_or 4 19 23 rfl
 ·intro h1; have gh1 := h1
  try simp only [nrm] at h1
  refine tk_mv ?_
  refine tk_mv ?_
  refine al_t (op_seql_str rfl rfl) ?_
  first
    | refine al_op (op_pick rfl rfl) rfl (by simp) ?_
    | refine al_op (op_or rfl rfl rfl) rfl (by simp) ?_
  exact al_nk gh1
 ·intro h1; have gh1 := h1
  try simp only [nrm] at h1
  iterate 3 refine al_ps ?_
  first
    | refine al_op (op_pick rfl rfl) rfl (by simp) ?_
    | refine al_op (op_or rfl rfl rfl) rfl (by simp) ?_
  exact al_nk gh1
 refine al_gs ?_
 refine al_nil ?_
 refine aw_cond rfl (fun h2 => ?_) (fun h2 => ?_)
 ·have gh2 := h2
  try simp only [nrm] at h2
  have gone := gh2
  refine aw_sr ?_
  refine al_gs ?_
  refine al_nil ?_
  refine fz1 (t := 4) ?_
  refine aw_ret ?_
  refine ⟨_, res_1 rfl rfl, ?_, rfl⟩
  rw [index_self gone]
 have gh2 := h2
 try simp only [nrm] at h2
 have gone := gh2
 refine aw_sr ?_
 refine al_mv ?_
 refine al_eq ?_
 refine al_gs ?_
 refine al_nil ?_
 refine aw_cond rfl (fun h3 => ?_) (fun h3 => ?_)
 ·have gh3 := h3
  try simp only [nrm] at h3
  refine aw_sr ?_
  refine al_mv ?_
  refine al_mv ?_
  refine al_o (op_sidx_str u9 rfl rfl (by first | (with_reducible exact Int.toNat_natCast _) | rfl) (by omega) (by first | omega | (simp; omega))) ?_
  first
    | refine al_callp into201 rfl rfl rfl ((q_lindexByte _ _) _) (by simp) ?_
    | refine al_callp into201 rfl rfl rfl (acp_lent (lend_cons (by first | exact lend_same | exact .leaf _ _ (.vnil _) | exact .leaf _ _ (.nil _) | exact lend_whole rfl (by first | rfl | (simp; done) | (simp; omega)) (clo_map (fun _ => rfl))) (lend_cons (by first | exact lend_same | exact .leaf _ _ (.vnil _) | exact .leaf _ _ (.nil _) | exact lend_whole rfl (by first | rfl | (simp; done) | (simp; omega)) (clo_map (fun _ => rfl))) lend_nil)) (q_lindexByte _ _) rfl) (by simp) ?_
  refine al_gs ?_
  refine al_nil ?_
  refine fz1 (t := 4) ?_
  refine aw_ret ?_
  refine ⟨_, res_1 rfl rfl, ?_, rfl⟩
  rfl
 have gh3 := h3
 try simp only [nrm] at h3
 exact absurd gh3 (by simp)
theorem q_index1 (s : Bs) (c : UInt8) : ACp Tryz.prog 182 [.v (.string (str (s))), .v (.string (str ([c])))] (.v (.int .i64 (Lib.indexByte s c))) := by
 refine acp_of rfl ?_
 refine ace 8 Tryz.func182 ?_
 refine aw_sr ?_
 refine al_gs ?_
 refine al_sr ?_
 refine al_mv ?_
 refine al_mv ?_
 refine al_callp into200 rfl rfl rfl (q_sindex1 s c _) (by simp) ?_
 refine al_gs ?_
 refine al_nil ?_
 refine fz1 (t := 4) ?_
 refine aw_ret ?_
 refine ⟨_, res_1 rfl rfl, ?_, rfl⟩
 rfl
theorem q_contains1 (s : Bs) (c : UInt8) : ACp Tryz.prog 152 [.v (.string (str (s))), .v (.string (str ([c])))] (.v (.bool (Lib.contains s [c]))) := by
 refine acp_of rfl ?_
 refine ace 9 Tryz.func152 ?_
 refine aw_sr ?_
 refine al_gs ?_
 refine al_sr ?_
 refine al_mv ?_
 refine al_mv ?_
 refine al_callp into182 rfl rfl rfl (q_index1 s c _) (by simp) ?_
 refine al_o (op_geq rfl rfl) ?_
 refine al_gs ?_
 refine al_nil ?_
 refine fz1 (t := 4) ?_
 refine aw_ret ?_
 refine ⟨_, res_1 rfl rfl, ?_, rfl⟩
 rw [contains_index]
theorem c_isWord (s : Bs) (hs : s.length ≤ 140737488355328) : ACp Tryz.prog 119 [.v (.string (str (s)))] (.v (.bool (isWordL s))) := by
 refine acp_of rfl ?_
 refine ace 16 Tryz.func119 ?_
 refine aw_sr ?_
 refine al_gs ?_
 refine al_sr ?_
 refine al_mv ?_
 refine al_o (op_sneq_str rfl rfl) ?_
 refine al_mv ?_
 apply al_and 4 5 9 rfl
 ·intro h1; have gh1 := h1
  simp only [nrm] at h1
  refine tk_mv ?_
  refine al_callp_take into152 rfl rfl rfl rfl rfl rfl (q_contains1 s 32 _) (by simp) ?_
  refine al_t (op_not rfl) ?_
  refine al_o (op_and rfl rfl rfl) ?_
  exact al_nk gh1
 ·intro h1; have gh1 := h1
  simp only [nrm] at h1
  iterate 3 refine al_ps ?_
  refine al_pk ?_
  exact al_nk gh1
 refine al_mv ?_
 apply al_and 5 10 15 rfl
 ·intro h2; have gh2 := h2
  simp only [nrm] at h2
  refine tk_mv ?_
  refine al_t (op_sadd_str rfl rfl (by first | omega | (simp; omega) | (simp; done) | (simp only [List.length_append, List.length_cons, List.length_nil]; omega))) ?_
  refine al_t (op_sadd_str rfl rfl (by first | omega | (simp; omega) | (simp; done) | (simp only [List.length_append, List.length_cons, List.length_nil]; omega))) ?_
  refine al_callp_take into152 rfl rfl rfl rfl rfl rfl ((q_contains _ _ (by first | assumption | omega | (simp; done) | (simp; omega) | decide)) _) (by simp) ?_
  refine al_pk ?_
  exact al_nk gh2
 ·intro h2; have gh2 := h2
  iterate 4 refine al_ps ?_
  refine al_pk ?_
  exact al_nk gh2
 refine al_gs ?_
 refine al_nil ?_
 refine fz1 (t := 2) ?_
 refine aw_ret ?_
 refine ⟨_, res_1 rfl rfl, ?_, rfl⟩
 rw [← isWord_prog s]; rfl
theorem c_isName (s : Bs) (hs : s.length ≤ 140737488355328) : ACp Tryz.prog 66 [.v (.string (str (s)))] (.v (.bool (isNameL s))) := by
 refine acp_of rfl ?_
 refine ace 32 Tryz.func66 ?_
 refine aw_sr ?_
 refine al_gs ?_
 refine al_nil ?_
 refine aw_seq ?_
 refine aw_sr ?_
 refine al_mv ?_
 refine al_o (op_seql_str rfl rfl) ?_
 refine al_mv ?_
 apply al_or 4 6 10 rfl
 ·intro h1; have gh1 := h1
  simp only [nrm] at h1
  refine tk_mv ?_
  refine al_t (op_slen_str (ts := #[]) u9 rfl) ?_
  refine al_t (op_gtr rfl rfl) ?_
  refine al_pk ?_
  exact al_nk gh1
 ·intro h1; have gh1 := h1
  simp only [nrm] at h1
  iterate 3 refine al_ps ?_
  refine al_pk ?_
  exact al_nk gh1
 refine al_mv ?_
 apply al_or 5 11 16 rfl
 ·intro h2; have gh2 := h2
  simp only [nrm] at h2
  refine tk_mv ?_
  try (have hpos : 0 < s.length := str_pos gh2)
  refine al_t (op_sidx_str u9 rfl rfl (by first | (with_reducible exact Int.toNat_natCast _) | rfl) (by omega) (by first | omega | (simp; omega))) ?_
  refine al_callp_take into118 rfl rfl rfl rfl rfl rfl ((c_letter _) _) (by simp) ?_
  refine al_t (op_not rfl) ?_
  refine al_pk ?_
  exact al_nk gh2
 ·intro h2; have gh2 := h2
  simp only [nrm] at h2
  refine al_ps ?_
  try (have hpos : 0 < s.length := str_pos gh2)
  iterate 3 refine al_ps ?_
  refine al_pk ?_
  exact al_nk gh2
 refine al_mv ?_
 apply al_or 3 17 20 rfl
 ·intro h3; have gh3 := h3
  simp only [nrm] at h3
  refine tk_mv ?_
  refine al_callp_take into119 rfl rfl rfl rfl rfl rfl ((c_isWord _ (by first | assumption | omega | (simp; done) | (simp; omega) | decide)) _) (by simp) ?_
  refine al_pk ?_
  exact al_nk gh3
 ·intro h3; have gh3 := h3
  simp only [nrm] at h3
  iterate 2 refine al_ps ?_
  refine al_pk ?_
  exact al_nk gh3
 refine al_nil ?_
 refine aw_cond rfl (fun h4 => ?_) (fun h4 => ?_)
 ·have gh4 := h4
  simp only [nrm] at h4
  refine aw_sr ?_
  refine al_gs ?_
  refine al_nil ?_
  refine fz1 (t := 2) ?_
  refine aw_ret ?_
  refine ⟨_, res_1 rfl rfl, ?_, rfl⟩
  rw [isName_no gh4]
 have gh4 := h4
 simp only [nrm] at h4
 refine aw_skip ?_
 refine aw_seq ?_
 refine aw_sr ?_
 refine al_mv ?_
 refine al_o (op_slen_str (ts := #[]) u9 rfl) ?_
 refine al_mv ?_
 refine al_nil ?_
 refine aw_block ?_
 refine aw_forT (ι := Nat) [2, 23] [] (fun i => s.length - i) (fun i => i ≤ s.length ∧ ∀ k, k < i → isPartC (s.getD k default) = true) (fun i => ([(23, .v (.int .i64 (i)))] : Env)) (fun i s => s) (0) ?_ ?_ ?_ (fun i hinv => ?_)
 ·exact ⟨Nat.zero_le _, fun k hk => absurd hk (Nat.not_lt_zero k)⟩
 ·refine sub_1 ?_
  all_goals (first | rfl | simp)
 ·rfl
 have hi := hinv.1
 refine aw_sr ?_
 refine al_ls ?_
 refine al_nil ?_
 refine aw_seq ?_
 refine aw_cond rfl (fun h5 => ?_) (fun h5 => ?_)
 ·have gh5 := h5
  simp only [nrm] at h5
  refine aw_skip ?_
  refine aw_seq ?_
  refine aw_block ?_
  refine aw_sr ?_
  refine al_mv ?_
  refine al_gs ?_
  refine al_sr ?_
  refine al_mv ?_
  refine al_mv ?_
  refine al_o (op_sidx_str u9 rfl rfl (by first | (with_reducible exact Int.toNat_natCast _) | rfl) (by omega) (by first | omega | (simp; omega))) ?_
  refine al_callp into120 rfl rfl rfl ((c_part _) _) (by simp) ?_
  refine al_o (op_not rfl) ?_
  refine al_nil ?_
  refine aw_cond rfl (fun h6 => ?_) (fun h6 => ?_)
  ·have gh6 := h6
   simp only [nrm] at h6
   refine aw_sr ?_
   refine al_gs ?_
   refine al_nil ?_
   refine fz1 (t := 2) ?_
   refine aw_ret ?_
   refine ⟨_, res_1 rfl rfl, ?_, rfl⟩
   rw [isName_part i (by omega) (by simpa using gh6)]
  have gh6 := h6
  simp only [nrm] at h6
  refine aw_skip ?_
  refine aw_region ?_
  refine al_ad ?_
  refine al_mv ?_
  refine al_nil ?_
  refine ⟨i + 1, ?_, ?_, ?_, ?_, ?_⟩
  ·omega
  ·exact ⟨by omega, run_step (p := isPartC) (s := s) hinv.2 (by simpa using gh6)⟩
  ·refine sub_1 ?_
   all_goals (first | rfl | simp)
  ·exact sbl
  ·rfl
 have gh5 := h5
 simp only [nrm] at h5
 refine aw_exit ?_
 obtain rfl : i = s.length := by omega
 have hall := hinv.2
 refine aw_sr ?_
 refine al_gs ?_
 refine al_nil ?_
 refine fz1 (t := 2) ?_
 refine aw_ret ?_
 refine ⟨_, res_1 rfl rfl, ?_, rfl⟩
 rw [isName_yes gh4 hall]
end Go.Proofs.YtcgdlhkiecommaaGreatDoor
/- Printed walks (gen.py, lexer_ann.py): part 305. -/



namespace Go.Proofs.YtcgdlhkiecommaaGreatDoor
open Go
theorem c_isText (s : Bs) (hs : s.length ≤ 140737488355328) : ACp Tryz.prog 154 [.v (.string (str (s)))] (.v (.bool (isTextL s))) := by
 refine acp_of rfl ?_
 refine ace 12 Tryz.func154 ?_
 refine aw_sr ?_
 refine al_gs ?_
 refine al_sr ?_
 refine al_mv ?_
 refine al_o (op_slen_str (ts := #[]) u9 rfl) ?_
 refine al_o (op_leq rfl rfl) ?_
 refine al_mv ?_
 apply al_and 5 6 11 rfl
 ·intro h1; have gh1 := h1
  simp only [nrm] at h1
  refine tk_mv ?_
  refine al_callp_take into184 rfl rfl rfl rfl rfl rfl ((c_runplain _ (by first | assumption | omega | (simp; omega))) _) (by simp) ?_
  refine tk_mv ?_
  refine al_t (op_seql_str rfl rfl) ?_
  refine al_pk ?_
  exact al_nk gh1
 ·intro h1; have gh1 := h1
  simp only [nrm] at h1
  iterate 4 refine al_ps ?_
  refine al_pk ?_
  exact al_nk gh1
 refine al_gs ?_
 refine al_nil ?_
 refine fz1 (t := 2) ?_
 refine aw_ret ?_
 refine ⟨_, res_1 rfl rfl, ?_, rfl⟩
 rw [← isText_prog s] <;> rfl
theorem c_parse (s : Bs) (hs : s.length ≤ 140737488355328) : ACp Tryz.prog 153 [.v (.string (str (s)))] (.tuple [.list 1 ((parseBits s).map encB), .v (.int .i64 (parseE s))]) := by
 refine acp_of rfl ?_
 have hrl : (List.replicate (s.length : Int).toNat (0 : Int)).length = s.length := by simp
 refine ace 40 Tryz.func153 ?_
 refine aw_sr ?_
 refine al_gs ?_
 refine al_gs ?_
 refine al_nil ?_
 refine aw_seq ?_
 refine aw_sr ?_
 refine al_mv ?_
 refine al_o (op_slen_str (ts := #[]) u9 rfl) ?_
 refine al_ls ?_
 refine al_mv ?_
 apply al_or 4 10 14 rfl
 ·intro h1; have gh1 := h1
  simp only [nrm] at h1
  refine tk_mv ?_
  refine al_t (op_slen_str (ts := #[]) u9 rfl) ?_
  refine al_t (op_gtr rfl rfl) ?_
  refine al_pk ?_
  exact al_nk gh1
 ·intro h1; have gh1 := h1
  simp only [nrm] at h1
  iterate 3 refine al_ps ?_
  refine al_pk ?_
  exact al_nk gh1
 refine al_nil ?_
 refine aw_cond rfl (fun h2 => ?_) (fun h2 => ?_)
 ·have gh2 := h2
  simp only [nrm] at h2
  refine aw_sr ?_
  refine al_gs ?_
  refine al_gs ?_
  refine al_nil ?_
  refine aw_freeze (fun _ => false) (fsub_cons (t := 2) rfl (by first | exact .leaf _ _ (frz_whole rfl rfl (by first | rfl | (simp; done) | (simp; omega)) (clo_map (fun _ => rfl))) | exact .leaf _ _ (.vnil 1) | exact .leaf _ _ (.nil 1) | exact .leaf _ _ (.same _)) (fsub_cons (t := 3) rfl (.leaf _ _ (.same _)) fsub_nil)) ?_
  refine aw_ret ?_
  refine ⟨_, res_2 rfl rfl rfl rfl rfl, ?_, rfl⟩
  rw [parseBits, parseE, isVec_no gh2]; rfl
 have gh2 := h2
 simp only [nrm] at h2
 refine aw_skip ?_
 refine aw_sr ?_
 refine al_mv ?_
 refine al_o (op_slen_str (ts := #[]) u9 rfl) ?_
 (refine al_opR (op_makeN (f := encB) 17 (0 : Int) u26 info97 rfl rfl (by decide) rfl rfl rfl rfl (by omega) (by show (1 : Int) * _ ≤ _; omega) (by omega)) rfl (by simp) ?_; rintro _ _ ⟨ver17, rfl, rfl⟩)
 refine al_gs ?_
 refine al_nil ?_
 refine aw_seq ?_
 refine aw_sr ?_
 refine al_mv ?_
 refine al_o (op_slen_str (ts := #[]) u9 rfl) ?_
 refine al_mv ?_
 refine al_nil ?_
 refine aw_block ?_
 refine aw_forT (ι := Nat) [2, 3, 20] [] (fun i => s.length - i) (fun i => i ≤ s.length ∧ ∀ k, k < i → isBitC (s.getD k default) = true) (fun i => ([(20, .v (.int .i64 (i)))] : Env)) (fun i st => st.put 17 ver17 (.row 1 ((mixR s i).map encB))) (0) ?_ ?_ ?_ (fun i hinv => ?_)
 ·exact ⟨Nat.zero_le _, fun k hk => absurd hk (Nat.not_lt_zero k)⟩
 ·refine sub_1 ?_
  all_goals (first | rfl | simp)
 ·(rw [mixR_zero] <;> rfl)
 have hi := hinv.1
 refine aw_sr ?_
 refine al_ls ?_
 refine al_nil ?_
 refine aw_seq ?_
 refine aw_cond rfl (fun h3 => ?_) (fun h3 => ?_)
 ·have gh3 := h3
  simp only [nrm] at h3
  refine aw_skip ?_
  refine aw_seq ?_
  refine aw_block ?_
  refine aw_sr ?_
  refine al_mv ?_
  refine al_gs ?_
  refine al_sr ?_
  refine al_mv ?_
  refine al_mv ?_
  refine al_o (op_sidx_str u9 rfl rfl (by first | (with_reducible exact Int.toNat_natCast _) | rfl) (by omega) (by first | omega | (simp; omega))) ?_
  refine al_callp into183 rfl rfl rfl ((q_indexByte _ _) _) (by simp) ?_
  refine al_gs ?_
  refine al_nil ?_
  refine aw_seq ?_
  refine aw_sr ?_
  refine al_mv ?_
  refine al_ls ?_
  refine al_nil ?_
  refine aw_cond rfl (fun h4 => ?_) (fun h4 => ?_)
  ·have gh4 := h4
   simp only [nrm] at h4
   refine aw_sr ?_
   refine al_gs ?_
   refine al_gs ?_
   refine al_nil ?_
   refine aw_freeze (fun _ => false) (fsub_cons (t := 2) rfl (by first | exact .leaf _ _ (frz_whole rfl rfl (by first | rfl | (simp; done) | (simp; omega)) (clo_map (fun _ => rfl))) | exact .leaf _ _ (.vnil 1) | exact .leaf _ _ (.nil 1) | exact .leaf _ _ (.same _)) (fsub_cons (t := 3) rfl (.leaf _ _ (.same _)) fsub_nil)) ?_
   refine aw_ret ?_
   refine ⟨_, res_2 rfl rfl rfl rfl rfl, ?_, rfl⟩
   rw [parseBits, parseE, isVec_bad i (by omega) (by simpa using gh4)]; rfl
  have gh4 := h4
  simp only [nrm] at h4
  refine aw_skip ?_
  have hbl := bitCode_le (s.getD i default)
  have hmr := mixR_length s i (by omega)
  have hb0 : ¬ Lib.indexByte [48, 49, 120, 122] (s.getD i default) < 0 := by simpa using gh4
  refine aw_region ?_
  refine al_mv ?_
  refine al_mv ?_
  refine al_o (op_slen_str (ts := #[]) u9 rfl) ?_
  refine al_o (op_sub rfl rfl (by first | exact wrap_i64 (by omega) (by omega))) ?_
  refine al_mv ?_
  refine al_o (op_sub rfl rfl (by first | exact wrap_i64 (by omega) (by omega))) ?_
  refine al_mv ?_
  refine al_o (op_conv u3 u97 rfl (wrap_u8 (by omega) (by have := hbl; unfold bitCode at this; omega))) ?_
  refine al_o (op_index_slice u26 info97 rfl rfl rfl rfl (by omega) (by omega)) ?_
  refine al_o (op_store_map (bitCode (s.getD i default)) info97 rfl rfl rfl (by omega) rfl rfl rfl (Nat.le_of_ble_eq_true rfl) rfl) ?_
  refine al_nil ?_
  refine aw_region ?_
  refine al_ad ?_
  refine al_mv ?_
  refine al_nil ?_
  refine ⟨i + 1, ?_, ?_, ?_, ?_, ?_⟩
  ·omega
  ·exact ⟨by omega, run_step (p := isBitC) (s := s) hinv.2 (by rw [← isBit_index, decide_eq_true_eq]; omega)⟩
  ·refine sub_1 ?_
   all_goals (first | rfl | simp)
  ·exact sbl
  ·(rw [← mixR_step s i (by omega), show s.length - 1 - i = 0 + ((s.length : Int) - 1 - (i : Int)).toNat from by omega] <;> rfl)
 have gh3 := h3
 simp only [nrm] at h3
 refine aw_exit ?_
 obtain rfl : i = s.length := by omega
 have hall := hinv.2
 have hmr := mixR_length s s.length (by omega)
 refine aw_sr ?_
 refine al_mv ?_
 refine al_gs ?_
 refine al_gs ?_
 refine al_nil ?_
 refine aw_freeze (fun _ => false) (fsub_cons (t := 2) rfl (by first | exact .leaf _ _ (frz_whole rfl rfl (by first | rfl | (simp; done) | (simp; omega)) (clo_map (fun _ => rfl))) | exact .leaf _ _ (.vnil 1) | exact .leaf _ _ (.nil 1) | exact .leaf _ _ (.same _)) (fsub_cons (t := 3) rfl (.leaf _ _ (.same _)) fsub_nil)) ?_
 refine aw_ret ?_
 refine ⟨_, res_2 rfl rfl rfl rfl rfl, ?_, rfl⟩
 rw [parseBits, parseE, isVec_yes gh2 hall, mixR_all]; rfl
end Go.Proofs.YtcgdlhkiecommaaGreatDoor
/- Printed walks (gen.py, lexer_ann.py): part 309. -/






namespace Go.Proofs.YtcgdlhkiecommaaGreatDoor
open Go
theorem c_written (t : Tk) (ht : OKT t) : ACp Tryz.prog 102 [.agg (encK t)] (.tuple [.v (.string (str ((wrP t).1))), .v (.bool ((wrP t).2))]) := by
 refine acp_of rfl ?_
 obtain ⟨t1, t2, t3⟩ := ht
 refine ace 94 Tryz.func102 ?_
 refine aw_sr ?_
 refine al_bx 1 fun ver1 => ?_
 refine al_gs ?_
 refine al_gs ?_
 refine al_nil ?_
 refine aw_seq ?_
 refine aw_sr ?_
 refine al_fp u65 info63 ?_
 refine al_ld u63 info63 ?_
 refine al_o (op_neq rfl rfl) ?_
 refine al_mv ?_
 apply al_and 4 9 13 rfl
 ·intro h1; have gh1 := h1
  simp only [nrm] at h1
  refine tk_fp u65 info3 ?_
  refine tk_ld u3 info3 ?_
  refine al_t (op_neq rfl rfl) ?_
  refine al_pk ?_
  exact al_nk gh1
 ·intro h1; have gh1 := h1
  simp only [nrm] at h1
  iterate 3 refine al_ps ?_
  refine al_pk ?_
  exact al_nk gh1
 refine al_nil ?_
 refine aw_cond rfl (fun h2 => ?_) (fun h2 => ?_)
 ·have gh2 := h2
  simp only [nrm] at h2
  refine aw_sr ?_
  refine al_gs ?_
  refine al_gs ?_
  refine al_nil ?_
  refine fz2 (t := 2) (u := 3) ?_
  refine aw_ret ?_
  refine ⟨_, res_2 rfl rfl rfl rfl rfl, ?_, rfl⟩
  rw [wrP, gh2]; rfl
 have gh2 := h2
 refine aw_skip ?_
 refine aw_seq ?_
 refine aw_sr ?_
 refine al_fp u65 info63 ?_
 refine al_ld u63 info63 ?_
 refine al_nil ?_
 refine aw_block ?_
 refine aw_sr ?_
 refine al_eq ?_
 refine al_gs ?_
 refine al_nil ?_
 refine aw_cond rfl (fun h3 => ?_) (fun h3 => ?_)
 ·have gh3 := h3
  simp only [nrm] at h3
  refine aw_seq ?_
  refine aw_any (Checked.mixed Tryz.checked) ?_
  apply aany_seg (p := 0) (q := 7) (by kernel_rfl) rfl (by decide)
  ·
   apply ql_plain rfl (op_field_ptr u65 rfl info9 (by decide) rfl rfl rfl)
   apply ql_plain rfl (op_load_ptr u9 info9 rfl rfl rfl rfl)
   apply ql_plain rfl (op_field_ptr u65 rfl info9 (by decide) rfl rfl rfl)
   apply ql_plain rfl (op_load_ptr u9 info9 rfl rfl rfl rfl)
   apply ql_call into66 rfl rfl rfl ((c_isName _ (by first | assumption | omega | (simp; done) | (simp; omega) | decide)) _)
   apply ql_plain rfl (op_assign rfl)
   apply ql_plain rfl (op_assign rfl)
   exact ql_nil
  ·simp
  refine aany_end rfl (by kernel_rfl) ?_
  refine fz2 (t := 2) (u := 3) ?_
  refine aw_ret ?_
  refine ⟨_, res_2 rfl rfl rfl rfl rfl, ?_, rfl⟩
  rw [wrP, gh2, gh3]; rfl
 have gh3 := h3
 simp only [nrm] at h3
 refine aw_sr ?_
 refine al_eq ?_
 refine al_gs ?_
 refine al_nil ?_
 refine aw_cond rfl (fun h4 => ?_) (fun h4 => ?_)
 ·have gh4 := h4
  simp only [nrm] at h4
  refine aw_seq ?_
  refine aw_any (Checked.mixed Tryz.checked) ?_
  apply aany_seg (p := 0) (q := 7) (by kernel_rfl) rfl (by decide)
  ·
   apply ql_plain rfl (op_field_ptr u65 rfl info9 (by decide) rfl rfl rfl)
   apply ql_plain rfl (op_load_ptr u9 info9 rfl rfl rfl rfl)
   apply ql_plain rfl (op_field_ptr u65 rfl info9 (by decide) rfl rfl rfl)
   apply ql_plain rfl (op_load_ptr u9 info9 rfl rfl rfl rfl)
   apply ql_call into119 rfl rfl rfl ((c_isWord _ (by first | assumption | omega | (simp; done) | (simp; omega) | decide)) _)
   apply ql_plain rfl (op_assign rfl)
   apply ql_plain rfl (op_assign rfl)
   exact ql_nil
  ·simp
  refine aany_end rfl (by kernel_rfl) ?_
  refine fz2 (t := 2) (u := 3) ?_
  refine aw_ret ?_
  refine ⟨_, res_2 rfl rfl rfl rfl rfl, ?_, rfl⟩
  rw [wrP, gh2, gh3, gh4]; rfl
 have gh4 := h4
 simp only [nrm] at h4
 refine aw_sr ?_
 refine al_eq ?_
 refine al_gs ?_
 refine al_nil ?_
 refine aw_cond rfl (fun h5 => ?_) (fun h5 => ?_)
 ·have gh5 := h5
  simp only [nrm] at h5
  refine aw_seq ?_
  refine aw_any (Checked.mixed Tryz.checked) ?_
  apply aany_seg (p := 0) (q := 7) (by kernel_rfl) rfl (by decide)
  ·
   apply ql_plain rfl (op_field_ptr u65 rfl info3 (by decide) rfl rfl rfl)
   apply ql_plain rfl (op_load_ptr u3 info3 rfl rfl rfl rfl)
   apply ql_call into151 rfl rfl rfl ((q_itoa _ (by first | assumption | omega | (simp; done) | (simp; omega) | decide) (by first | assumption | omega | (simp; done) | (simp; omega) | decide)) _)
   apply ql_plain rfl (op_field_ptr u65 rfl info9 (by decide) rfl rfl rfl)
   apply ql_plain rfl (op_load_ptr u9 info9 rfl rfl rfl rfl)
   apply ql_plain rfl (op_seql_str rfl rfl)
   apply ql_plain rfl (op_move rfl)
   exact ql_nil
  ·simp
  apply aany_and 7 11 38 42 (by kernel_rfl) rfl (by decide) rfl (by simp)
  ·intro h6; have gh6 := h6
   simp only [nrm] at h6
   apply ql_ex
   ·
    apply ql_take rfl rfl rfl rfl (op_field_ptr u65 rfl info3 (by decide) rfl rfl rfl)
    apply ql_take rfl rfl rfl rfl (op_load_ptr u3 info3 rfl rfl rfl rfl)
    apply ql_take rfl rfl rfl rfl (op_geq rfl rfl)
    apply ql_plain rfl (op_pick rfl rfl)
    exact ql_nil
   ·rfl
   ·exact subk gh6
  ·intro h6; have gh6 := h6
   simp only [nrm] at h6
   apply ql_ex
   ·
    apply ql_pass rfl rfl rfl rfl
    apply ql_pass rfl rfl rfl rfl
    apply ql_pass rfl rfl rfl rfl
    apply ql_plain rfl (op_pick rfl rfl)
    exact ql_nil
   ·rfl
   ·exact subk gh6
  apply aany_seg (p := 11) (q := 12) (by kernel_rfl) rfl (by decide)
  ·
   apply ql_plain rfl (op_move rfl)
   exact ql_nil
  ·simp
  apply aany_and2 12 17 43 47 2 (.v (.string (str (Lib.itoa t.n)))) (by kernel_rfl) rfl (by decide) rfl (by simp)
  ·intro h7; have gh7 := h7
   simp only [nrm] at h7
   apply ql_ex2
   ·
    apply ql_take rfl rfl rfl rfl (op_field_ptr u65 rfl info3 (by decide) rfl rfl rfl)
    apply ql_take rfl rfl rfl rfl (op_load_ptr u3 info3 rfl rfl rfl rfl)
    apply ql_take rfl rfl rfl rfl (op_leq rfl rfl)
    apply ql_plain rfl (op_pick rfl rfl)
    apply ql_plain rfl (op_assign rfl)
    exact ql_nil
   ·rfl
   ·rfl
   ·exact subk gh7
  ·intro h7; have gh7 := h7
   simp only [nrm] at h7
   apply ql_ex2
   ·
    apply ql_pass rfl rfl rfl rfl
    apply ql_pass rfl rfl rfl rfl
    apply ql_pass rfl rfl rfl rfl
    apply ql_plain rfl (op_pick rfl rfl)
    apply ql_plain rfl (op_assign rfl)
    exact ql_nil
   ·rfl
   ·rfl
   ·exact subk gh7
  apply aany_seg (p := 17) (q := 18) (by kernel_rfl) rfl (by decide)
  ·
   apply ql_plain rfl (op_assign rfl)
   exact ql_nil
  ·simp
  refine aany_end rfl (by kernel_rfl) ?_
  refine fz2 (t := 2) (u := 3) ?_
  refine aw_ret ?_
  refine ⟨_, res_2 rfl rfl rfl rfl rfl, ?_, rfl⟩
  rw [wrP, gh2, gh3, gh4, gh5]; rfl
 have gh5 := h5
 simp only [nrm] at h5
 refine aw_sr ?_
 refine al_eq ?_
 refine al_gs ?_
 refine al_nil ?_
 refine aw_cond rfl (fun h8 => ?_) (fun h8 => ?_)
 ·have gh8 := h8
  simp only [nrm] at h8
  refine aw_seq ?_
  cases hsp0 : (((t.text.length : Int) == 1))
  ·
   refine aw_any (Checked.mixed Tryz.checked) ?_
   apply aany_seg (p := 0) (q := 15) (by kernel_rfl) rfl (by decide)
   ·
    apply ql_plain rfl (op_field_ptr u65 rfl info9 (by decide) rfl rfl rfl)
    apply ql_plain rfl (op_load_ptr u9 info9 rfl rfl rfl rfl)
    apply ql_plain rfl (op_sadd_str rfl rfl (by first | omega | (simp; omega) | (simp; done) | (simp only [List.length_append, List.length_cons, List.length_nil]; omega)))
    apply ql_plain rfl (op_sadd_str rfl rfl (by first | omega | (simp; omega) | (simp; done) | (simp only [List.length_append, List.length_cons, List.length_nil]; omega)))
    apply ql_plain rfl (op_field_ptr u65 rfl info9 (by decide) rfl rfl rfl)
    apply ql_plain rfl (op_load_ptr u9 info9 rfl rfl rfl rfl)
    apply ql_plain rfl (op_slen_str (ts := #[]) u9 rfl)
    apply ql_plain rfl (op_eql rfl rfl)
    apply ql_plain rfl (bool_as hsp0 (op_move rfl))
    apply ql_pass rfl rfl rfl rfl
    apply ql_pass rfl rfl rfl rfl
    apply ql_pass rfl rfl rfl rfl
    apply ql_plain rfl (op_pick rfl rfl)
    apply ql_plain rfl (op_assign rfl)
    apply ql_plain rfl (op_assign rfl)
    exact ql_nil
   ·simp
   refine aany_end rfl (by kernel_rfl) ?_
   refine fz2 (t := 2) (u := 3) ?_
   refine aw_ret ?_
   refine ⟨_, res_2 rfl rfl rfl rfl rfl, ?_, rfl⟩
   rw [wrP, gh2, gh3, gh4, gh5, gh8, hsp0]; rfl
  ·
   refine aw_any (Checked.mixed Tryz.checked) ?_
   apply aany_seg (p := 0) (q := 15) (by kernel_rfl) rfl (by decide)
   ·
    apply ql_plain rfl (op_field_ptr u65 rfl info9 (by decide) rfl rfl rfl)
    apply ql_plain rfl (op_load_ptr u9 info9 rfl rfl rfl rfl)
    apply ql_plain rfl (op_sadd_str rfl rfl (by first | omega | (simp; omega) | (simp; done) | (simp only [List.length_append, List.length_cons, List.length_nil]; omega)))
    apply ql_plain rfl (op_sadd_str rfl rfl (by first | omega | (simp; omega) | (simp; done) | (simp only [List.length_append, List.length_cons, List.length_nil]; omega)))
    apply ql_plain rfl (op_field_ptr u65 rfl info9 (by decide) rfl rfl rfl)
    apply ql_plain rfl (op_load_ptr u9 info9 rfl rfl rfl rfl)
    apply ql_plain rfl (op_slen_str (ts := #[]) u9 rfl)
    apply ql_plain rfl (op_eql rfl rfl)
    apply ql_plain rfl (bool_as hsp0 (op_move rfl))
    apply ql_take rfl rfl rfl rfl (op_field_ptr u65 rfl info9 (by decide) rfl rfl rfl)
    apply ql_take rfl rfl rfl rfl (op_load_ptr u9 info9 rfl rfl rfl rfl)
    apply ql_call_take into152 rfl rfl rfl rfl rfl rfl ((q_contains _ _ (by first | assumption | omega | (simp; done) | (simp; omega) | decide)) _)
    apply ql_plain rfl (op_pick rfl rfl)
    apply ql_plain rfl (op_assign rfl)
    apply ql_plain rfl (op_assign rfl)
    exact ql_nil
   ·simp
   refine aany_end rfl (by kernel_rfl) ?_
   refine fz2 (t := 2) (u := 3) ?_
   refine aw_ret ?_
   refine ⟨_, res_2 rfl rfl rfl rfl rfl, ?_, rfl⟩
   rw [wrP, gh2, gh3, gh4, gh5, gh8, hsp0]; rfl
 have gh8 := h8
 simp only [nrm] at h8
 refine aw_sr ?_
 refine al_eq ?_
 refine al_gs ?_
 refine al_nil ?_
 refine aw_cond rfl (fun h9 => ?_) (fun h9 => ?_)
 ·have gh9 := h9
  simp only [nrm] at h9
  refine aw_sr ?_
  refine al_fp u65 info9 ?_
  refine al_ld u9 info9 ?_
  refine al_callp into153 rfl rfl rfl ((c_parse _ (by first | assumption | omega | (simp; done) | (simp; omega) | decide)) _) (by simp) ?_
  refine al_mv ?_
  refine al_xt ?_
  refine al_xt ?_
  refine al_gs ?_
  refine al_gs ?_
  refine al_sr ?_
  refine al_fp u65 info9 ?_
  refine al_ld u9 info9 ?_
  refine al_o (op_sadd_str rfl rfl (by first | omega | (simp; omega) | (simp; done) | (simp only [List.length_append, List.length_cons, List.length_nil]; omega))) ?_
  refine al_o (op_sadd_str rfl rfl (by first | omega | (simp; omega) | (simp; done) | (simp only [List.length_append, List.length_cons, List.length_nil]; omega))) ?_
  refine al_mv ?_
  refine al_eq ?_
  refine al_gs ?_
  refine al_gs ?_
  refine al_nil ?_
  refine fz2 (t := 2) (u := 3) ?_
  refine aw_ret ?_
  refine ⟨_, res_2 rfl rfl rfl rfl rfl, ?_, rfl⟩
  rw [wrP, gh2, gh3, gh4, gh5, gh8, gh9]; rfl
 have gh9 := h9
 simp only [nrm] at h9
 refine aw_sr ?_
 refine al_eq ?_
 refine al_gs ?_
 refine al_nil ?_
 refine aw_cond rfl (fun h10 => ?_) (fun h10 => ?_)
 ·have gh10 := h10
  simp only [nrm] at h10
  refine aw_seq ?_
  refine aw_any (Checked.mixed Tryz.checked) ?_
  apply aany_seg (p := 0) (q := 9) (by kernel_rfl) rfl (by decide)
  ·
   apply ql_plain rfl (op_field_ptr u65 rfl info9 (by decide) rfl rfl rfl)
   apply ql_plain rfl (op_load_ptr u9 info9 rfl rfl rfl rfl)
   apply ql_plain rfl (op_sadd_str rfl rfl (by first | omega | (simp; omega) | (simp; done) | (simp only [List.length_append, List.length_cons, List.length_nil]; omega)))
   apply ql_plain rfl (op_sadd_str rfl rfl (by first | omega | (simp; omega) | (simp; done) | (simp only [List.length_append, List.length_cons, List.length_nil]; omega)))
   apply ql_plain rfl (op_field_ptr u65 rfl info9 (by decide) rfl rfl rfl)
   apply ql_plain rfl (op_load_ptr u9 info9 rfl rfl rfl rfl)
   apply ql_call into154 rfl rfl rfl ((c_isText _ (by first | assumption | omega | (simp; done) | (simp; omega) | decide)) _)
   apply ql_plain rfl (op_assign rfl)
   apply ql_plain rfl (op_assign rfl)
   exact ql_nil
  ·simp
  refine aany_end rfl (by kernel_rfl) ?_
  refine fz2 (t := 2) (u := 3) ?_
  refine aw_ret ?_
  refine ⟨_, res_2 rfl rfl rfl rfl rfl, ?_, rfl⟩
  rw [wrP, gh2, gh3, gh4, gh5, gh8, gh9, gh10]; rfl
 have gh10 := h10
 simp only [nrm] at h10
 refine aw_sr ?_
 refine al_eq ?_
 refine al_gs ?_
 refine al_nil ?_
 refine aw_cond rfl (fun h11 => ?_) (fun h11 => ?_)
 ·have gh11 := h11
  simp only [nrm] at h11
  refine aw_seq ?_
  refine aw_any (Checked.mixed Tryz.checked) ?_
  apply aany_seg (p := 0) (q := 8) (by kernel_rfl) rfl (by decide)
  ·
   apply ql_plain rfl (op_field_ptr u65 rfl info9 (by decide) rfl rfl rfl)
   apply ql_plain rfl (op_load_ptr u9 info9 rfl rfl rfl rfl)
   apply ql_call into155 rfl rfl rfl ((q_fields ) _)
   apply ql_plain rfl (op_field_ptr u65 rfl info9 (by decide) rfl rfl rfl)
   apply ql_plain rfl (op_load_ptr u9 info9 rfl rfl rfl rfl)
   apply ql_call into61 rfl rfl rfl ((q_member _ _ (by first | assumption | omega | (simp; done) | (simp; omega) | decide)) _)
   apply ql_plain rfl (op_assign rfl)
   apply ql_plain rfl (op_assign rfl)
   exact ql_nil
  ·simp
  refine aany_end rfl (by kernel_rfl) ?_
  refine fz2 (t := 2) (u := 3) ?_
  refine aw_ret ?_
  refine ⟨_, res_2 rfl rfl rfl rfl rfl, ?_, rfl⟩
  rw [wrP, gh2, gh3, gh4, gh5, gh8, gh9, gh10, gh11]; rfl
 have gh11 := h11
 simp only [nrm] at h11
 refine aw_skip ?_
 refine aw_sr ?_
 refine al_gs ?_
 refine al_gs ?_
 refine al_nil ?_
 refine fz2 (t := 2) (u := 3) ?_
 refine aw_ret ?_
 refine ⟨_, res_2 rfl rfl rfl rfl rfl, ?_, rfl⟩
 rw [wrP, gh2, gh3, gh4, gh5, gh8, gh9, gh10, gh11]; rfl
theorem c_Text (l : List Tk) (hl : OKTs l) (hn : l.length ≤ 140737488355328) : ACp Tryz.prog 53 [.list 5 (l.map encK)] (.tuple [.v (.string (str ((textP l).1))), .v (.int .i64 ((textP l).2))]) := by
 refine acp_of rfl ?_
 refine ace 32 Tryz.func53 ?_
 refine aw_sr ?_
 refine al_gs ?_
 refine al_gs ?_
 refine al_nil ?_
 refine aw_seq ?_
 refine aw_sr ?_
 refine al_mv ?_
 refine al_lm u22 ?_
 refine al_o (op_gtr rfl rfl) ?_
 refine al_nil ?_
 refine aw_cond rfl (fun h1 => ?_) (fun h1 => ?_)
 ·have gh1 := h1
  simp only [nrm] at h1
  refine aw_sr ?_
  refine al_gs ?_
  refine al_gs ?_
  refine al_nil ?_
  refine fz2 (t := 2) (u := 3) ?_
  refine aw_ret ?_
  refine ⟨_, res_2 rfl rfl rfl rfl rfl, ?_, rfl⟩
  rw [textP_long gh1] <;> rfl
 have gh1 := h1
 simp only [nrm] at h1
 refine aw_skip ?_
 refine aw_sr ?_
 refine al_gs ?_
 refine al_nil ?_
 refine aw_seq ?_
 refine aw_sr ?_
 refine al_mv ?_
 refine al_lm u22 ?_
 refine al_mv ?_
 refine al_nil ?_
 refine aw_block ?_
 refine aw_own_map encBs 4 1 4 rfl rfl (fun ver4 => ?_)
 refine aw_for2T (α := Nat) (β := Nat) [2, 3, 4, 14] [6] (fun i ver => l.length - i) (fun i ver => i ≤ l.length ∧ ∀ k, k < i → (wrP (l.getD k default)).2 = true) (fun i ver => ([(4, .slice 4 ver 0 ((l.take i).map fun t => (wrP t).1).length), (14, .v (.int .i64 (i)))] : Env)) (fun i ver s => s.put 4 ver (.row 1 (((l.take i).map fun t => (wrP t).1).map encBs))) (0) (ver4) ?_ ?_ ?_ (fun i ver hinv => ?_)
 ·exact ⟨Nat.zero_le _, fun k hk => absurd hk (Nat.not_lt_zero k)⟩
 ·refine sub_2 ?_ ?_
  all_goals (first | rfl | (simp; done) | (rw [take_more _ l i (by omega)] <;> rfl))
 ·rfl
 have hi := hinv.1
 have hal : ((l.take i).map fun t => (wrP t).1).length = i := by rw [List.length_map, List.length_take]; omega
 refine aw_sr ?_
 refine al_ls ?_
 refine al_nil ?_
 refine aw_seq ?_
 refine aw_cond rfl (fun h2 => ?_) (fun h2 => ?_)
 ·have gh2 := h2
  simp only [nrm] at h2
  refine aw_skip ?_
  refine aw_seq ?_
  refine aw_block ?_
  refine aw_sr ?_
  refine al_o (op_im u22 info65) ?_
  refine al_lr u65 info65 ?_
  refine al_al 6 info65 fun ver6 => ?_
  refine al_sp info65 ?_
  refine al_nil ?_
  refine aw_seq ?_
  have hti := hl.at i (by omega)
  refine aw_region ?_
  refine al_ld u65 info65 ?_
  refine al_callp into102 rfl rfl rfl ((c_written _ (by assumption)) _) (by simp) ?_
  refine al_mv ?_
  refine al_xt ?_
  refine al_xt ?_
  refine al_gs ?_
  refine al_gs ?_
  refine al_nil ?_
  refine aw_seq ?_
  refine aw_sr ?_
  refine al_mv ?_
  refine al_o (op_not rfl) ?_
  refine al_nil ?_
  refine aw_cond rfl (fun h3 => ?_) (fun h3 => ?_)
  ·have gh3 := h3
   simp only [nrm] at h3
   refine aw_sr ?_
   refine al_gs ?_
   refine al_gs ?_
   refine al_nil ?_
   refine fz2 (t := 2) (u := 3) ?_
   refine aw_ret ?_
   refine ⟨_, res_2 rfl rfl rfl rfl rfl, ?_, rfl⟩
   rw [textP_bad gh1 i (by omega) (by simpa using gh3)] <;> rfl
  have gh3 := h3
  simp only [nrm] at h3
  refine aw_skip ?_
  refine aw_region ?_
  refine al_mv ?_
  refine al_mv ?_
  refine al_o (op_buildSlice u32 info9 rfl rfl (by decide) rfl (by decide) rfl (by first | rfl | (repeat (first | exact parts_nil | refine parts_cons rfl (by repeat (first | exact all_live_nil | refine all_live_clo rfl ?_ | refine all_live_slice rfl ?_ | refine all_live_map rfl ?_ | refine all_live_ptr rfl ?_)) ?_))) rfl rfl rfl) ?_
  (refine al_opR (op_append_one (wrP (l.getD i default)).1 u32 u32 rfl info9 rfl rfl (by decide) rfl rfl rfl (by first | rfl | simp) rfl rfl (by first | omega | (simp; done) | (simp; omega)) (by show _ * 16 ≤ _; first | omega | (simp; done) | (simp; omega))) rfl (by simp) ?_; rintro _ _ ⟨ver28, rfl, rfl⟩)
  refine al_gs ?_
  refine al_nil ?_
  refine aw_region ?_
  refine al_ad ?_
  refine al_mv ?_
  refine al_nil ?_
  refine ⟨i + 1, ver28, ?_, ?_, ?_, ?_, ?_⟩
  ·omega
  ·exact ⟨by omega, all_more (p := fun t => (wrP t).2) hinv.2 (by simpa using gh3)⟩
  ·refine sub_2 ?_ ?_
   all_goals (first | rfl | (simp; done) | (rw [take_more _ l i (by omega)] <;> rfl))
  ·exact sbl
  ·(rw [take_more _ l i (by omega)] <;> rfl)
 have gh2 := h2
 simp only [nrm] at h2
 refine aw_exit ?_
 obtain rfl : i = l.length := by omega
 have hall := hinv.2
 have htl := text_len hall (by omega)
 refine aw_sr ?_
 refine al_mv ?_
 refine al_callp into103 rfl rfl rfl (acp_lent (lend_cons (by first | exact lend_same | exact .leaf _ _ (.vnil _) | exact .leaf _ _ (.nil _) | exact lend_whole rfl (by first | rfl | (simp; done) | (simp; omega)) (clo_map (fun _ => rfl))) (lend_cons (by first | exact lend_same | exact .leaf _ _ (.vnil _) | exact .leaf _ _ (.nil _) | exact lend_whole rfl (by first | rfl | (simp; done) | (simp; omega)) (clo_map (fun _ => rfl))) lend_nil)) (q_join _ _ (by first | assumption | omega | (simp; done) | (simp; omega) | decide) (by first | assumption | omega | (simp; done) | (simp; omega) | decide)) rfl) (by simp) ?_
 refine al_gs ?_
 refine al_gs ?_
 refine al_nil ?_
 refine fz2 (t := 2) (u := 3) ?_
 refine aw_ret ?_
 refine ⟨_, res_2 rfl rfl rfl rfl rfl, ?_, rfl⟩
 rw [textP_ok gh1 hall, List.take_length] <;> rfl
theorem r_Words  : ACp Tryz.prog 170 [] (.list 1 (wordsL.map encBs)) := by
 refine acp_of rfl ?_
 refine ace 2 Tryz.func170 ?_
 refine aw_sr ?_
 refine al_gs ?_
 refine al_sr ?_
 refine al_o (op_ol encBs wordsL u32 info9) ?_
 refine al_gs ?_
 refine al_nil ?_
 refine aw_freeze (fun _ => false) (fsub_cons (t := 0) rfl (by first | exact .leaf _ _ (frz_whole rfl rfl (by first | rfl | (simp; done) | (simp; omega)) (clo_map (fun _ => rfl))) | exact .leaf _ _ (.vnil 1) | exact .leaf _ _ (.nil 1) | exact .leaf _ _ (.same _)) fsub_nil) ?_
 refine aw_ret ?_
 refine ⟨_, res_1 rfl rfl, ?_, rfl⟩
 rfl
theorem r_Signs  : ACp Tryz.prog 134 [] (.list 1 (signsL.map encBs)) := by
 refine acp_of rfl ?_
 refine ace 2 Tryz.func134 ?_
 refine aw_sr ?_
 refine al_gs ?_
 refine al_sr ?_
 refine al_o (op_ol encBs signsL u32 info9) ?_
 refine al_gs ?_
 refine al_nil ?_
 refine aw_freeze (fun _ => false) (fsub_cons (t := 0) rfl (by first | exact .leaf _ _ (frz_whole rfl rfl (by first | rfl | (simp; done) | (simp; omega)) (clo_map (fun _ => rfl))) | exact .leaf _ _ (.vnil 1) | exact .leaf _ _ (.nil 1) | exact .leaf _ _ (.same _)) fsub_nil) ?_
 refine aw_ret ?_
 refine ⟨_, res_1 rfl rfl, ?_, rfl⟩
 rfl
theorem r_member (l : List Bs) (x : Bs) (hl : l.length ≤ 140737488355328) : ACp Tryz.prog 133 [.list 1 (l.map encBs), .v (.string (str (x)))] (.v (.bool (l.contains x))) := by
 refine acp_of rfl ?_
 refine ace 17 Tryz.func133 ?_
 refine aw_sr ?_
 refine al_gs ?_
 refine al_nil ?_
 refine aw_seq ?_
 refine aw_sr ?_
 refine al_mv ?_
 refine al_lm u32 ?_
 refine al_mv ?_
 refine al_nil ?_
 refine aw_block ?_
 refine aw_forT (ι := Nat) [4, 9] [] (fun i => l.length - i) (fun i => i ≤ l.length ∧ ∀ k, k < i → (l.getD k default == x) = false) (fun i => ([(9, .v (.int .i64 (i)))] : Env)) (fun i s => s) (0) ?_ ?_ ?_ (fun i hinv => ?_)
 ·exact ⟨Nat.zero_le _, fun k hk => absurd hk (Nat.not_lt_zero k)⟩
 ·refine sub_1 ?_
  all_goals (first | rfl | simp)
 ·rfl
 have hi := hinv.1
 refine aw_sr ?_
 refine al_ls ?_
 refine al_nil ?_
 refine aw_seq ?_
 refine aw_cond rfl (fun h1 => ?_) (fun h1 => ?_)
 ·have gh1 := h1
  simp only [nrm] at h1
  refine aw_skip ?_
  refine aw_seq ?_
  refine aw_block ?_
  refine aw_sr ?_
  refine al_o (op_im u32 info9) ?_
  refine al_lr u9 info9 ?_
  refine al_gs ?_
  refine al_sr ?_
  refine al_mv ?_
  refine al_mv ?_
  refine al_o (op_seql_str rfl rfl) ?_
  refine al_nil ?_
  refine aw_cond rfl (fun h2 => ?_) (fun h2 => ?_)
  ·have gh2 := h2
   simp only [nrm] at h2
   refine aw_sr ?_
   refine al_gs ?_
   refine al_nil ?_
   refine fz1 (t := 4) ?_
   refine aw_ret ?_
   refine ⟨_, res_1 rfl rfl, ?_, rfl⟩
   rw [member_yes i (by omega) gh2]
  have gh2 := h2
  simp only [nrm] at h2
  refine aw_skip ?_
  refine aw_region ?_
  refine al_ad ?_
  refine al_mv ?_
  refine al_nil ?_
  refine ⟨i + 1, ?_, ?_, ?_, ?_, ?_⟩
  ·omega
  ·exact ⟨by omega, find_more (p := fun y => y == x) (l := l) hinv.2 gh2⟩
  ·refine sub_1 ?_
   all_goals (first | rfl | simp)
  ·exact sbl
  ·rfl
 have gh1 := h1
 simp only [nrm] at h1
 refine aw_exit ?_
 obtain rfl : i = l.length := by omega
 have hall := hinv.2
 refine aw_sr ?_
 refine al_gs ?_
 refine al_nil ?_
 refine fz1 (t := 4) ?_
 refine aw_ret ?_
 refine ⟨_, res_1 rfl rfl, ?_, rfl⟩
 rw [member_no hall]
theorem r_isWord (s : Bs) (hs : s.length ≤ 140737488355328) : ACp Tryz.prog 123 [.v (.string (str (s)))] (.v (.bool (isWordL s))) := by
 refine acp_of rfl ?_
 refine ace 6 Tryz.func123 ?_
 refine aw_sr ?_
 refine al_gs ?_
 refine al_sr ?_
 refine al_callp into170 rfl rfl rfl ((r_Words ) _) (by simp) ?_
 refine al_mv ?_
 refine al_callp into133 rfl rfl rfl ((r_member _ _ (by first | assumption | omega | decide)) _) (by simp) ?_
 refine al_gs ?_
 refine al_nil ?_
 refine fz1 (t := 2) ?_
 refine aw_ret ?_
 refine ⟨_, res_1 rfl rfl, ?_, rfl⟩
 rfl
theorem r_isName (s : Bs) (hs : s.length ≤ 140737488355328) : ACp Tryz.prog 67 [.v (.string (str (s)))] (.v (.bool (isNameL s))) := by
 refine acp_of rfl ?_
 refine ace 28 Tryz.func67 ?_
 refine aw_sr ?_
 refine al_gs ?_
 refine al_sr ?_
 refine al_mv ?_
 refine al_o (op_slen_str (ts := #[]) u9 rfl) ?_
 refine al_o (op_geq rfl rfl) ?_
 refine al_mv ?_
 apply al_and 4 6 10 rfl
 ·intro h1; have gh1 := h1
  simp only [nrm] at h1
  refine tk_mv ?_
  refine al_t (op_slen_str (ts := #[]) u9 rfl) ?_
  refine al_t (op_leq rfl rfl) ?_
  refine al_pk ?_
  exact al_nk gh1
 ·intro h1; have gh1 := h1
  simp only [nrm] at h1
  iterate 3 refine al_ps ?_
  refine al_pk ?_
  exact al_nk gh1
 refine al_mv ?_
 apply al_and 4 11 15 rfl
 ·intro h2; have gh2 := h2
  simp only [nrm] at h2
  refine tk_mv ?_
  refine al_t (op_sidx_str u9 rfl rfl (by first | (with_reducible exact Int.toNat_natCast _) | rfl) (by omega) (by first | omega | (simp; omega))) ?_
  refine al_callp_take into121 rfl rfl rfl rfl rfl rfl ((r_letter _) _) (by simp) ?_
  refine al_pk ?_
  exact al_nk gh2
 ·intro h2; have gh2 := h2
  simp only [nrm] at h2
  iterate 3 refine al_ps ?_
  refine al_pk ?_
  exact al_nk gh2
 refine al_mv ?_
 apply al_and 6 16 22 rfl
 ·intro h3; have gh3 := h3
  simp only [nrm] at h3
  refine tk_mv ?_
  refine al_callp_take into122 rfl rfl rfl rfl rfl rfl (r_run3 s hs 0 (Nat.zero_le _) 1 _) (by simp) ?_
  refine tk_mv ?_
  refine al_t (op_slen_str (ts := #[]) u9 rfl) ?_
  refine tk_eq ?_
  refine al_pk ?_
  exact al_nk gh3
 ·intro h3; have gh3 := h3
  simp only [nrm] at h3
  iterate 5 refine al_ps ?_
  refine al_pk ?_
  exact al_nk gh3
 refine al_mv ?_
 apply al_and 4 23 27 rfl
 ·intro h4; have gh4 := h4
  simp only [nrm] at h4
  refine tk_mv ?_
  refine al_callp_take into123 rfl rfl rfl rfl rfl rfl ((r_isWord _ (by first | assumption | omega | (simp; done) | (simp; omega) | decide)) _) (by simp) ?_
  refine al_t (op_not rfl) ?_
  refine al_pk ?_
  exact al_nk gh4
 ·intro h4; have gh4 := h4
  simp only [nrm] at h4
  iterate 3 refine al_ps ?_
  refine al_pk ?_
  exact al_nk gh4
 refine al_gs ?_
 refine al_nil ?_
 refine fz1 (t := 2) ?_
 refine aw_ret ?_
 refine ⟨_, res_1 rfl rfl, ?_, rfl⟩
 rw [← isName_ref s] <;> rfl
theorem r_poss (t : Tk) (ht : OKT t) : ACp Tryz.prog 79 [.agg (encK t)] (.v (.bool (possT t))) := by
 refine acp_of rfl ?_
 obtain ⟨t1, t2, t3⟩ := ht
 refine ace 114 Tryz.func79 ?_
 refine aw_sr ?_
 refine al_bx 1 fun ver1 => ?_
 refine al_gs ?_
 refine al_nil ?_
 refine aw_seq ?_
 refine aw_sr ?_
 refine al_fp u65 info63 ?_
 refine al_ld u63 info63 ?_
 refine al_nil ?_
 refine aw_block ?_
 refine aw_sr ?_
 refine al_eq ?_
 refine al_gs ?_
 refine al_nil ?_
 refine aw_cond rfl (fun h1 => ?_) (fun h1 => ?_)
 ·have gh1 := h1
  simp only [nrm] at h1
  refine aw_sr ?_
  refine al_fp u65 info3 ?_
  refine al_ld u3 info3 ?_
  refine al_eq ?_
  refine al_mv ?_
  apply al_and 4 10 14 rfl
  ·intro h2; have gh2 := h2
   simp only [nrm] at h2
   refine tk_fp u65 info9 ?_
   refine tk_ld u9 info9 ?_
   refine al_callp_take into67 rfl rfl rfl rfl rfl rfl ((r_isName _ (by first | assumption | omega | (simp; done) | (simp; omega) | decide)) _) (by simp) ?_
   refine al_pk ?_
   exact al_nk gh2
  ·intro h2; have gh2 := h2
   simp only [nrm] at h2
   iterate 3 refine al_ps ?_
   refine al_pk ?_
   exact al_nk gh2
  refine al_gs ?_
  refine al_nil ?_
  refine fz1 (t := 2) ?_
  refine aw_ret ?_
  refine ⟨_, res_1 rfl rfl, ?_, rfl⟩
  rw [possT, gh1]; rfl
 have gh1 := h1
 simp only [nrm] at h1
 refine aw_sr ?_
 refine al_eq ?_
 refine al_gs ?_
 refine al_nil ?_
 refine aw_cond rfl (fun h3 => ?_) (fun h3 => ?_)
 ·have gh3 := h3
  simp only [nrm] at h3
  refine aw_sr ?_
  refine al_fp u65 info3 ?_
  refine al_ld u3 info3 ?_
  refine al_eq ?_
  refine al_mv ?_
  apply al_and 4 20 24 rfl
  ·intro h4; have gh4 := h4
   simp only [nrm] at h4
   refine tk_fp u65 info9 ?_
   refine tk_ld u9 info9 ?_
   refine al_callp_take into123 rfl rfl rfl rfl rfl rfl ((r_isWord _ (by first | assumption | omega | (simp; done) | (simp; omega) | decide)) _) (by simp) ?_
   refine al_pk ?_
   exact al_nk gh4
  ·intro h4; have gh4 := h4
   simp only [nrm] at h4
   iterate 3 refine al_ps ?_
   refine al_pk ?_
   exact al_nk gh4
  refine al_gs ?_
  refine al_nil ?_
  refine fz1 (t := 2) ?_
  refine aw_ret ?_
  refine ⟨_, res_1 rfl rfl, ?_, rfl⟩
  rw [possT, gh1, gh3]; rfl
 have gh3 := h3
 simp only [nrm] at h3
 refine aw_sr ?_
 refine al_eq ?_
 refine al_gs ?_
 refine al_nil ?_
 refine aw_cond rfl (fun h5 => ?_) (fun h5 => ?_)
 ·have gh5 := h5
  simp only [nrm] at h5
  refine aw_sr ?_
  refine al_fp u65 info9 ?_
  refine al_ld u9 info9 ?_
  refine al_o (op_seql_str rfl rfl) ?_
  refine al_mv ?_
  apply al_and 4 30 34 rfl
  ·intro h6; have gh6 := h6
   simp only [nrm] at h6
   refine tk_fp u65 info3 ?_
   refine tk_ld u3 info3 ?_
   refine al_t (op_geq rfl rfl) ?_
   refine al_pk ?_
   exact al_nk gh6
  ·intro h6; have gh6 := h6
   simp only [nrm] at h6
   iterate 3 refine al_ps ?_
   refine al_pk ?_
   exact al_nk gh6
  refine al_mv ?_
  apply al_and 4 35 39 rfl
  ·intro h7; have gh7 := h7
   simp only [nrm] at h7
   refine tk_fp u65 info3 ?_
   refine tk_ld u3 info3 ?_
   refine al_t (op_leq rfl rfl) ?_
   refine al_pk ?_
   exact al_nk gh7
  ·intro h7; have gh7 := h7
   simp only [nrm] at h7
   iterate 3 refine al_ps ?_
   refine al_pk ?_
   exact al_nk gh7
  refine al_gs ?_
  refine al_nil ?_
  refine fz1 (t := 2) ?_
  refine aw_ret ?_
  refine ⟨_, res_1 rfl rfl, ?_, rfl⟩
  rw [possT, gh1, gh3, gh5]; rfl
 have gh5 := h5
 simp only [nrm] at h5
 refine aw_sr ?_
 refine al_eq ?_
 refine al_gs ?_
 refine al_nil ?_
 refine aw_cond rfl (fun h8 => ?_) (fun h8 => ?_)
 ·have gh8 := h8
  simp only [nrm] at h8
  refine aw_sr ?_
  refine al_fp u65 info3 ?_
  refine al_ld u3 info3 ?_
  refine al_eq ?_
  refine al_mv ?_
  apply al_and 5 45 50 rfl
  ·intro h9; have gh9 := h9
   simp only [nrm] at h9
   refine tk_fp u65 info9 ?_
   refine tk_ld u9 info9 ?_
   refine al_t (op_slen_str (ts := #[]) u9 rfl) ?_
   refine tk_eq ?_
   refine al_pk ?_
   exact al_nk gh9
  ·intro h9; have gh9 := h9
   simp only [nrm] at h9
   iterate 4 refine al_ps ?_
   refine al_pk ?_
   exact al_nk gh9
  skip
  refine al_mv ?_
  apply al_and 5 51 56 rfl
  ·intro h10; have gh10 := h10
   simp only [nrm] at h10
   refine tk_fp u65 info9 ?_
   refine tk_ld u9 info9 ?_
   refine al_t (op_sidx_str u9 rfl rfl (by first | (with_reducible exact Int.toNat_natCast _) | rfl) (by omega) (by first | omega | (simp; omega))) ?_
   refine al_callp_take into132 rfl rfl rfl rfl rfl rfl ((r_bit _) _) (by simp) ?_
   refine al_pk ?_
   exact al_nk gh10
  ·intro h10; have gh10 := h10
   iterate 4 refine al_ps ?_
   refine al_pk ?_
   exact al_nk gh10
  refine al_gs ?_
  refine al_nil ?_
  refine fz1 (t := 2) ?_
  refine aw_ret ?_
  refine ⟨_, res_1 rfl rfl, ?_, rfl⟩
  rw [possT, gh1, gh3, gh5, gh8]; rfl
 have gh8 := h8
 simp only [nrm] at h8
 refine aw_sr ?_
 refine al_eq ?_
 refine al_gs ?_
 refine al_nil ?_
 refine aw_cond rfl (fun h11 => ?_) (fun h11 => ?_)
 ·have gh11 := h11
  simp only [nrm] at h11
  refine aw_seq ?_
  refine aw_any (Checked.mixed Tryz.checked) ?_
  apply aany_seg (p := 0) (q := 4) (by kernel_rfl) rfl (by decide)
  ·
   apply ql_plain rfl (op_field_ptr u65 rfl info3 (by decide) rfl rfl rfl)
   apply ql_plain rfl (op_load_ptr u3 info3 rfl rfl rfl rfl)
   apply ql_plain rfl (op_eql rfl rfl)
   apply ql_plain rfl (op_move rfl)
   exact ql_nil
  ·simp
  apply aany_and 4 9 62 67 (by kernel_rfl) rfl (by decide) rfl (by simp)
  ·intro h12; have gh12 := h12
   simp only [nrm] at h12
   apply ql_ex
   ·
    apply ql_take rfl rfl rfl rfl (op_field_ptr u65 rfl info9 (by decide) rfl rfl rfl)
    apply ql_take rfl rfl rfl rfl (op_load_ptr u9 info9 rfl rfl rfl rfl)
    apply ql_take rfl rfl rfl rfl (op_slen_str (ts := #[]) u9 rfl)
    apply ql_take rfl rfl rfl rfl (op_geq rfl rfl)
    apply ql_plain rfl (op_pick rfl rfl)
    exact ql_nil
   ·rfl
   ·exact subk gh12
  ·intro h12; have gh12 := h12
   simp only [nrm] at h12
   apply ql_ex
   ·
    apply ql_pass rfl rfl rfl rfl
    apply ql_pass rfl rfl rfl rfl
    apply ql_pass rfl rfl rfl rfl
    apply ql_pass rfl rfl rfl rfl
    apply ql_plain rfl (op_pick rfl rfl)
    exact ql_nil
   ·rfl
   ·exact subk gh12
  apply aany_seg (p := 9) (q := 10) (by kernel_rfl) rfl (by decide)
  ·
   apply ql_plain rfl (op_move rfl)
   exact ql_nil
  ·simp
  apply aany_and 10 15 68 73 (by kernel_rfl) rfl (by decide) rfl (by simp)
  ·intro h13; have gh13 := h13
   simp only [nrm] at h13
   apply ql_ex
   ·
    apply ql_take rfl rfl rfl rfl (op_field_ptr u65 rfl info9 (by decide) rfl rfl rfl)
    apply ql_take rfl rfl rfl rfl (op_load_ptr u9 info9 rfl rfl rfl rfl)
    apply ql_take rfl rfl rfl rfl (op_slen_str (ts := #[]) u9 rfl)
    apply ql_take rfl rfl rfl rfl (op_leq rfl rfl)
    apply ql_plain rfl (op_pick rfl rfl)
    exact ql_nil
   ·rfl
   ·exact subk gh13
  ·intro h13; have gh13 := h13
   simp only [nrm] at h13
   apply ql_ex
   ·
    apply ql_pass rfl rfl rfl rfl
    apply ql_pass rfl rfl rfl rfl
    apply ql_pass rfl rfl rfl rfl
    apply ql_pass rfl rfl rfl rfl
    apply ql_plain rfl (op_pick rfl rfl)
    exact ql_nil
   ·rfl
   ·exact subk gh13
  apply aany_seg (p := 15) (q := 16) (by kernel_rfl) rfl (by decide)
  ·
   apply ql_plain rfl (op_move rfl)
   exact ql_nil
  ·simp
  apply aany_and 16 24 74 82 (by kernel_rfl) rfl (by decide) rfl (by simp)
  ·intro h14; have gh14 := h14
   simp only [nrm] at h14
   apply ql_ex
   ·
    apply ql_take rfl rfl rfl rfl (op_field_ptr u65 rfl info9 (by decide) rfl rfl rfl)
    apply ql_take rfl rfl rfl rfl (op_load_ptr u9 info9 rfl rfl rfl rfl)
    apply ql_call_take into122 rfl rfl rfl rfl rfl rfl (r_run3 t.text (by omega) 0 (Nat.zero_le _) 2 _)
    apply ql_take rfl rfl rfl rfl (op_field_ptr u65 rfl info9 (by decide) rfl rfl rfl)
    apply ql_take rfl rfl rfl rfl (op_load_ptr u9 info9 rfl rfl rfl rfl)
    apply ql_take rfl rfl rfl rfl (op_slen_str (ts := #[]) u9 rfl)
    apply ql_take rfl rfl rfl rfl (op_eql rfl rfl)
    apply ql_plain rfl (op_pick rfl rfl)
    exact ql_nil
   ·rfl
   ·exact subk gh14
  ·intro h14; have gh14 := h14
   simp only [nrm] at h14
   apply ql_ex
   ·
    apply ql_pass rfl rfl rfl rfl
    apply ql_pass rfl rfl rfl rfl
    apply ql_pass rfl rfl rfl rfl
    apply ql_pass rfl rfl rfl rfl
    apply ql_pass rfl rfl rfl rfl
    apply ql_pass rfl rfl rfl rfl
    apply ql_pass rfl rfl rfl rfl
    apply ql_plain rfl (op_pick rfl rfl)
    exact ql_nil
   ·rfl
   ·exact subk gh14
  apply aany_seg (p := 24) (q := 25) (by kernel_rfl) rfl (by decide)
  ·
   apply ql_plain rfl (op_assign rfl)
   exact ql_nil
  ·simp
  refine aany_end rfl (by kernel_rfl) ?_
  refine fz1 (t := 2) ?_
  refine aw_ret ?_
  refine ⟨_, res_1 rfl rfl, ?_, rfl⟩
  rw [possT, gh1, gh3, gh5, gh8, gh11]; rfl
 have gh11 := h11
 simp only [nrm] at h11
 refine aw_sr ?_
 refine al_eq ?_
 refine al_gs ?_
 refine al_nil ?_
 refine aw_cond rfl (fun h15 => ?_) (fun h15 => ?_)
 ·have gh15 := h15
  simp only [nrm] at h15
  refine aw_seq ?_
  refine aw_any (Checked.mixed Tryz.checked) ?_
  apply aany_seg (p := 0) (q := 4) (by kernel_rfl) rfl (by decide)
  ·
   apply ql_plain rfl (op_field_ptr u65 rfl info3 (by decide) rfl rfl rfl)
   apply ql_plain rfl (op_load_ptr u3 info3 rfl rfl rfl rfl)
   apply ql_plain rfl (op_eql rfl rfl)
   apply ql_plain rfl (op_move rfl)
   exact ql_nil
  ·simp
  apply aany_and 4 9 88 93 (by kernel_rfl) rfl (by decide) rfl (by simp)
  ·intro h16; have gh16 := h16
   simp only [nrm] at h16
   apply ql_ex
   ·
    apply ql_take rfl rfl rfl rfl (op_field_ptr u65 rfl info9 (by decide) rfl rfl rfl)
    apply ql_take rfl rfl rfl rfl (op_load_ptr u9 info9 rfl rfl rfl rfl)
    apply ql_take rfl rfl rfl rfl (op_slen_str (ts := #[]) u9 rfl)
    apply ql_take rfl rfl rfl rfl (op_leq rfl rfl)
    apply ql_plain rfl (op_pick rfl rfl)
    exact ql_nil
   ·rfl
   ·exact subk gh16
  ·intro h16; have gh16 := h16
   simp only [nrm] at h16
   apply ql_ex
   ·
    apply ql_pass rfl rfl rfl rfl
    apply ql_pass rfl rfl rfl rfl
    apply ql_pass rfl rfl rfl rfl
    apply ql_pass rfl rfl rfl rfl
    apply ql_plain rfl (op_pick rfl rfl)
    exact ql_nil
   ·rfl
   ·exact subk gh16
  apply aany_seg (p := 9) (q := 10) (by kernel_rfl) rfl (by decide)
  ·
   apply ql_plain rfl (op_move rfl)
   exact ql_nil
  ·simp
  apply aany_and 10 18 94 102 (by kernel_rfl) rfl (by decide) rfl (by simp)
  ·intro h17; have gh17 := h17
   simp only [nrm] at h17
   apply ql_ex
   ·
    apply ql_take rfl rfl rfl rfl (op_field_ptr u65 rfl info9 (by decide) rfl rfl rfl)
    apply ql_take rfl rfl rfl rfl (op_load_ptr u9 info9 rfl rfl rfl rfl)
    apply ql_call_take into122 rfl rfl rfl rfl rfl rfl (r_run3 t.text (by omega) 0 (Nat.zero_le _) 3 _)
    apply ql_take rfl rfl rfl rfl (op_field_ptr u65 rfl info9 (by decide) rfl rfl rfl)
    apply ql_take rfl rfl rfl rfl (op_load_ptr u9 info9 rfl rfl rfl rfl)
    apply ql_take rfl rfl rfl rfl (op_slen_str (ts := #[]) u9 rfl)
    apply ql_take rfl rfl rfl rfl (op_eql rfl rfl)
    apply ql_plain rfl (op_pick rfl rfl)
    exact ql_nil
   ·rfl
   ·exact subk gh17
  ·intro h17; have gh17 := h17
   apply ql_ex
   ·
    apply ql_pass rfl rfl rfl rfl
    apply ql_pass rfl rfl rfl rfl
    apply ql_pass rfl rfl rfl rfl
    apply ql_pass rfl rfl rfl rfl
    apply ql_pass rfl rfl rfl rfl
    apply ql_pass rfl rfl rfl rfl
    apply ql_pass rfl rfl rfl rfl
    apply ql_plain rfl (op_pick rfl rfl)
    exact ql_nil
   ·rfl
   ·exact subk gh17
  apply aany_seg (p := 18) (q := 19) (by kernel_rfl) rfl (by decide)
  ·
   apply ql_plain rfl (op_assign rfl)
   exact ql_nil
  ·simp
  refine aany_end rfl (by kernel_rfl) ?_
  refine fz1 (t := 2) ?_
  refine aw_ret ?_
  refine ⟨_, res_1 rfl rfl, ?_, rfl⟩
  rw [possT, gh1, gh3, gh5, gh8, gh11, gh15]; rfl
 have gh15 := h15
 simp only [nrm] at h15
 refine aw_sr ?_
 refine al_eq ?_
 refine al_gs ?_
 refine al_nil ?_
 refine aw_cond rfl (fun h18 => ?_) (fun h18 => ?_)
 ·have gh18 := h18
  simp only [nrm] at h18
  refine aw_seq ?_
  refine aw_any (Checked.mixed Tryz.checked) ?_
  apply aany_seg (p := 0) (q := 4) (by kernel_rfl) rfl (by decide)
  ·
   apply ql_plain rfl (op_field_ptr u65 rfl info3 (by decide) rfl rfl rfl)
   apply ql_plain rfl (op_load_ptr u3 info3 rfl rfl rfl rfl)
   apply ql_plain rfl (op_eql rfl rfl)
   apply ql_plain rfl (op_move rfl)
   exact ql_nil
  ·simp
  apply aany_and 4 9 108 113 (by kernel_rfl) rfl (by decide) rfl (by simp)
  ·intro h19; have gh19 := h19
   simp only [nrm] at h19
   apply ql_ex
   ·
    apply ql_call_take into134 rfl rfl rfl rfl rfl rfl ((r_Signs ) _)
    apply ql_take rfl rfl rfl rfl (op_field_ptr u65 rfl info9 (by decide) rfl rfl rfl)
    apply ql_take rfl rfl rfl rfl (op_load_ptr u9 info9 rfl rfl rfl rfl)
    apply ql_call_take into133 rfl rfl rfl rfl rfl rfl ((r_member _ _ (by first | assumption | omega | decide)) _)
    apply ql_plain rfl (op_pick rfl rfl)
    exact ql_nil
   ·rfl
   ·exact subk gh19
  ·intro h19; have gh19 := h19
   simp only [nrm] at h19
   apply ql_ex
   ·
    apply ql_pass rfl rfl rfl rfl
    apply ql_pass rfl rfl rfl rfl
    apply ql_pass rfl rfl rfl rfl
    apply ql_pass rfl rfl rfl rfl
    apply ql_plain rfl (op_pick rfl rfl)
    exact ql_nil
   ·rfl
   ·exact subk gh19
  apply aany_seg (p := 9) (q := 10) (by kernel_rfl) rfl (by decide)
  ·
   apply ql_plain rfl (op_assign rfl)
   exact ql_nil
  ·simp
  refine aany_end rfl (by kernel_rfl) ?_
  refine fz1 (t := 2) ?_
  refine aw_ret ?_
  refine ⟨_, res_1 rfl rfl, ?_, rfl⟩
  rw [possT, gh1, gh3, gh5, gh8, gh11, gh15, gh18]; rfl
 have gh18 := h18
 simp only [nrm] at h18
 refine aw_skip ?_
 refine aw_sr ?_
 refine al_gs ?_
 refine al_nil ?_
 refine fz1 (t := 2) ?_
 refine aw_ret ?_
 refine ⟨_, res_1 rfl rfl, ?_, rfl⟩
 rw [possT, gh1, gh3, gh5, gh8, gh11, gh15, gh18]; rfl
theorem r_dec (n : Nat) (hn : n ≤ 9223372036854775807) : ACp Tryz.prog 161 [.v (.int .i64 ((n : Nat) : Int))] (.v (.string (str (Lib.itoa (n : Int))))) := by
 refine acp_of rfl ?_
 refine ace 25 Tryz.func161 ?_
 refine aw_sr ?_
 refine al_gs ?_
 refine al_sr ?_
 refine al_mv ?_
 refine al_o (op_rem rfl rfl (by omega) (rem_nn (by omega))) ?_
 refine al_ad ?_
 refine al_o (op_conv u3 u5 rfl (digit_u8 n)) ?_
 refine al_o (op_ol encY [UInt8.ofNat (48 + n % 10)] u161 info5) ?_
 refine al_o (op_str_list (l := [UInt8.ofNat (48 + n % 10)]) u161 u5 u9 rfl) ?_
 refine al_gs ?_
 refine al_nil ?_
 refine aw_seq ?_
 refine aw_sr ?_
 refine al_mv ?_
 refine al_o (op_quo rfl rfl (by omega) (quo_nn (by omega) (by omega) (by omega))) ?_
 refine al_gs ?_
 refine al_nil ?_
 refine aw_block ?_
 refine aw_for2T (α := Nat) (β := Bs) [0, 3] [] (fun m acc => m) (fun m acc => m ≤ n ∧ digTo m acc = Lib.decDigits n) (fun m acc => ([(0, .v (.int .i64 ((m : Nat) : Int))), (3, .v (.string (str (acc))))] : Env)) (fun m acc s => s) (n / 10) ([UInt8.ofNat (48 + n % 10)]) ?_ ?_ ?_ (fun m acc hinv => ?_)
 ·exact ⟨Nat.div_le_self _ _, digTo_first n⟩
 ·refine sub_2 ?_ ?_
  all_goals (first | rfl | simp)
 ·rfl
 have hm := hinv.1
 have hal2 := digTo_acc_le hinv.2 hn
 refine aw_seq ?_
 refine aw_sr ?_
 refine al_mv ?_
 refine al_o (op_gtr rfl rfl) ?_
 refine al_nil ?_
 refine aw_cond rfl (fun h1 => ?_) (fun h1 => ?_)
 ·have gh1 := h1
  simp only [nrm] at h1
  refine aw_skip ?_
  refine aw_seq ?_
  refine aw_block ?_
  refine aw_region ?_
  refine al_mv ?_
  refine al_o (op_rem rfl rfl (by omega) (rem_nn (by omega))) ?_
  refine al_ad ?_
  refine al_o (op_conv u3 u5 rfl (digit_u8 m)) ?_
  refine al_o (op_ol encY [UInt8.ofNat (48 + m % 10)] u161 info5) ?_
  refine al_o (op_str_list (l := [UInt8.ofNat (48 + m % 10)]) u161 u5 u9 rfl) ?_
  refine al_mv ?_
  refine al_o (op_sadd_str rfl rfl (by first | omega | (simp; omega) | (simp; done) | (simp only [List.length_append, List.length_cons, List.length_nil]; omega))) ?_
  refine al_gs ?_
  refine al_nil ?_
  refine aw_region ?_
  refine al_mv ?_
  refine al_o (op_quo rfl rfl (by omega) (quo_nn (by omega) (by omega) (by omega))) ?_
  refine al_gs ?_
  refine al_nil ?_
  refine ⟨m / 10, [UInt8.ofNat (48 + m % 10)] ++ acc, ?_, ?_, ?_, ?_, ?_⟩
  ·omega
  ·exact ⟨by omega, by rw [digTo_step (by omega)]; exact hinv.2⟩
  ·refine sub_2 ?_ ?_
   all_goals (first | rfl | simp)
  ·exact sbl
  ·rfl
 have gh1 := h1
 simp only [nrm] at h1
 refine aw_exit ?_
 obtain rfl : m = 0 := by omega
 have hac := hinv.2
 rw [digTo, if_pos rfl] at hac
 refine aw_sr ?_
 refine al_mv ?_
 refine al_gs ?_
 refine al_nil ?_
 refine fz1 (t := 2) ?_
 refine aw_ret ?_
 refine ⟨_, res_1 rfl rfl, ?_, rfl⟩
 rw [hac, Lib.itoa, if_neg (by omega), Int.toNat_natCast]
theorem r_decI (n : Int) (h0 : 0 ≤ n) (h1 : n ≤ 9223372036854775807) : ACp Tryz.prog 161 [.v (.int .i64 (n))] (.v (.string (str (Lib.itoa n)))) := by
  obtain ⟨k, rfl⟩ := Int.eq_ofNat_of_zero_le h0
  exact r_dec k (by omega)
theorem r_alike (a b : List Tk) (hb : b.length ≤ 140737488355328) : ACp Tryz.prog 49 [.list 5 (a.map encK), .list 5 (b.map encK)] (.v (.bool (alikeL a b))) := by
 refine acp_of rfl ?_
 refine ace 54 Tryz.func49 ?_
 refine aw_sr ?_
 refine al_gs ?_
 refine al_nil ?_
 refine aw_seq ?_
 refine aw_sr ?_
 refine al_mv ?_
 refine al_lm u22 ?_
 refine al_mv ?_
 refine al_lm u22 ?_
 refine al_o (op_neq rfl rfl) ?_
 refine al_nil ?_
 refine aw_cond rfl (fun h1 => ?_) (fun h1 => ?_)
 ·have gh1 := h1
  simp only [nrm] at h1
  refine aw_sr ?_
  refine al_gs ?_
  refine al_nil ?_
  refine fz1 (t := 4) ?_
  refine aw_ret ?_
  refine ⟨_, res_1 rfl rfl, ?_, rfl⟩
  rw [alike_len gh1]
 have gh1 := h1
 simp only [nrm] at h1
 refine aw_skip ?_
 refine aw_seq ?_
 refine aw_sr ?_
 refine al_mv ?_
 refine al_lm u22 ?_
 refine al_mv ?_
 refine al_nil ?_
 refine aw_block ?_
 refine aw_forT (ι := Nat) [4, 13] [] (fun i => a.length - i) (fun i => i ≤ a.length ∧ ∀ k, k < i → tkey (a.getD k default) = tkey (b.getD k default)) (fun i => ([(13, .v (.int .i64 (i)))] : Env)) (fun i s => s) (0) ?_ ?_ ?_ (fun i hinv => ?_)
 ·exact ⟨Nat.zero_le _, fun k hk => absurd hk (Nat.not_lt_zero k)⟩
 ·refine sub_1 ?_
  all_goals (first | rfl | simp)
 ·rfl
 have hi := hinv.1
 have hll : a.length = b.length := by have := bne_eq_false_iff_eq.1 gh1; omega
 refine aw_sr ?_
 refine al_ls ?_
 refine al_nil ?_
 refine aw_seq ?_
 refine aw_cond rfl (fun h2 => ?_) (fun h2 => ?_)
 ·have gh2 := h2
  simp only [nrm] at h2
  refine aw_skip ?_
  refine aw_seq ?_
  refine aw_block ?_
  refine aw_sr ?_
  refine al_mv ?_
  refine al_gs ?_
  refine al_nil ?_
  refine aw_seq ?_
  refine aw_any (Checked.mixed Tryz.checked) ?_
  apply aany_seg (p := 0) (q := 12) (by kernel_rfl) rfl (by decide)
  ·
   apply ql_plain rfl (op_move rfl)
   apply ql_plain rfl (op_move rfl)
   apply ql_plain rfl (op_im u22 info65)
   apply ql_plain rfl (op_field_rptr u65 rfl info63 (by decide) rfl rfl)
   apply ql_plain rfl (op_load_rptr u63 info63 rfl rfl)
   apply ql_plain rfl (op_move rfl)
   apply ql_plain rfl (op_move rfl)
   apply ql_plain rfl (op_im u22 info65)
   apply ql_plain rfl (op_field_rptr u65 rfl info63 (by decide) rfl rfl)
   apply ql_plain rfl (op_load_rptr u63 info63 rfl rfl)
   apply ql_plain rfl (op_neq rfl rfl)
   apply ql_plain rfl (op_move rfl)
   exact ql_nil
  ·simp
  apply aany_or 12 24 27 39 (by kernel_rfl) rfl (by decide) rfl (by simp)
  ·intro h3; have gh3 := h3
   simp only [nrm] at h3
   apply ql_ex
   ·
    apply ql_take rfl rfl rfl rfl (op_move rfl)
    apply ql_take rfl rfl rfl rfl (op_move rfl)
    apply ql_take rfl rfl rfl rfl (op_im u22 info65)
    apply ql_take rfl rfl rfl rfl (op_field_rptr u65 rfl info9 (by decide) rfl rfl)
    apply ql_take rfl rfl rfl rfl (op_load_rptr u9 info9 rfl rfl)
    apply ql_take rfl rfl rfl rfl (op_move rfl)
    apply ql_take rfl rfl rfl rfl (op_move rfl)
    apply ql_take rfl rfl rfl rfl (op_im u22 info65)
    apply ql_take rfl rfl rfl rfl (op_field_rptr u65 rfl info9 (by decide) rfl rfl)
    apply ql_take rfl rfl rfl rfl (op_load_rptr u9 info9 rfl rfl)
    apply ql_take rfl rfl rfl rfl (op_sneq_str rfl rfl)
    apply ql_plain rfl (op_pick rfl rfl)
    exact ql_nil
   ·rfl
   ·exact subk gh3
  ·intro h3; have gh3 := h3
   simp only [nrm] at h3
   apply ql_ex
   ·
    apply ql_pass rfl rfl rfl rfl
    apply ql_pass rfl rfl rfl rfl
    apply ql_pass rfl rfl rfl rfl
    apply ql_pass rfl rfl rfl rfl
    apply ql_pass rfl rfl rfl rfl
    apply ql_pass rfl rfl rfl rfl
    apply ql_pass rfl rfl rfl rfl
    apply ql_pass rfl rfl rfl rfl
    apply ql_pass rfl rfl rfl rfl
    apply ql_pass rfl rfl rfl rfl
    apply ql_pass rfl rfl rfl rfl
    apply ql_plain rfl (op_pick rfl rfl)
    exact ql_nil
   ·rfl
   ·exact subk gh3
  apply aany_seg (p := 24) (q := 25) (by kernel_rfl) rfl (by decide)
  ·
   apply ql_plain rfl (op_move rfl)
   exact ql_nil
  ·simp
  apply aany_or 25 37 40 52 (by kernel_rfl) rfl (by decide) rfl (by simp)
  ·intro h4; have gh4 := h4
   simp only [nrm] at h4
   apply ql_ex
   ·
    apply ql_take rfl rfl rfl rfl (op_move rfl)
    apply ql_take rfl rfl rfl rfl (op_move rfl)
    apply ql_take rfl rfl rfl rfl (op_im u22 info65)
    apply ql_take rfl rfl rfl rfl (op_field_rptr u65 rfl info3 (by decide) rfl rfl)
    apply ql_take rfl rfl rfl rfl (op_load_rptr u3 info3 rfl rfl)
    apply ql_take rfl rfl rfl rfl (op_move rfl)
    apply ql_take rfl rfl rfl rfl (op_move rfl)
    apply ql_take rfl rfl rfl rfl (op_im u22 info65)
    apply ql_take rfl rfl rfl rfl (op_field_rptr u65 rfl info3 (by decide) rfl rfl)
    apply ql_take rfl rfl rfl rfl (op_load_rptr u3 info3 rfl rfl)
    apply ql_take rfl rfl rfl rfl (op_neq rfl rfl)
    apply ql_plain rfl (op_pick rfl rfl)
    exact ql_nil
   ·rfl
   ·exact subk gh4
  ·intro h4; have gh4 := h4
   simp only [nrm] at h4
   apply ql_ex
   ·
    apply ql_pass rfl rfl rfl rfl
    apply ql_pass rfl rfl rfl rfl
    apply ql_pass rfl rfl rfl rfl
    apply ql_pass rfl rfl rfl rfl
    apply ql_pass rfl rfl rfl rfl
    apply ql_pass rfl rfl rfl rfl
    apply ql_pass rfl rfl rfl rfl
    apply ql_pass rfl rfl rfl rfl
    apply ql_pass rfl rfl rfl rfl
    apply ql_pass rfl rfl rfl rfl
    apply ql_pass rfl rfl rfl rfl
    apply ql_plain rfl (op_pick rfl rfl)
    exact ql_nil
   ·rfl
   ·exact subk gh4
  refine aany_end rfl (by kernel_rfl) ?_
  refine aw_cond rfl (fun h5 => ?_) (fun h5 => ?_)
  ·have gh5 := h5
   simp only [nrm] at h5
   refine aw_sr ?_
   refine al_gs ?_
   refine al_nil ?_
   refine fz1 (t := 4) ?_
   refine aw_ret ?_
   refine ⟨_, res_1 rfl rfl, ?_, rfl⟩
   rw [alike_no i (by omega) (by omega) gh5]
  have gh5 := h5
  simp only [nrm] at h5
  refine aw_skip ?_
  refine aw_region ?_
  refine al_ad ?_
  refine al_mv ?_
  refine al_nil ?_
  refine ⟨i + 1, ?_, ?_, ?_, ?_, ?_⟩
  ·omega
  ·exact ⟨by omega, alike_more hinv.2 gh5⟩
  ·refine sub_1 ?_
   all_goals (first | rfl | simp)
  ·exact sbl
  ·rfl
 have gh2 := h2
 simp only [nrm] at h2
 refine aw_exit ?_
 obtain rfl : i = a.length := by omega
 have hall := hinv.2
 refine aw_sr ?_
 refine al_gs ?_
 refine al_nil ?_
 refine fz1 (t := 4) ?_
 refine aw_ret ?_
 refine ⟨_, res_1 rfl rfl, ?_, rfl⟩
 rw [alike_yes gh1 hall]
end Go.Proofs.YtcgdlhkiecommaaGreatDoor
/- Printed walks (gen.py, lexer_ann.py): part 320. -/





namespace Go.Proofs.YtcgdlhkiecommaaGreatDoor
open Go
theorem r_same (l : List Tk) (hb : l.length ≤ 1000000000) : ACp Tryz.prog 21 [.list 5 (l.map encK), .list 5 (l.map encK)] (.v (.bool (true))) := by
 refine acp_of rfl ?_
 refine ace 45 Tryz.func21 ?_
 refine aw_sr ?_
 refine al_gs ?_
 refine al_nil ?_
 refine aw_seq ?_
 refine aw_sr ?_
 refine al_mv ?_
 refine al_lm u22 ?_
 refine al_mv ?_
 refine al_nil ?_
 refine aw_block ?_
 refine aw_forT (ι := Nat) [4, 8] [] (fun i => l.length - i) (fun i => i ≤ l.length) (fun i => ([(8, .v (.int .i64 (i)))] : Env)) (fun i s => s) (0) ?_ ?_ ?_ (fun i hinv => ?_)
 ·exact Nat.zero_le _
 ·refine sub_1 ?_
  all_goals (first | rfl | simp)
 ·rfl
 refine aw_sr ?_
 refine al_ls ?_
 refine al_nil ?_
 refine aw_seq ?_
 refine aw_cond rfl (fun h1 => ?_) (fun h1 => ?_)
 ·have gh1 := h1
  simp only [nrm] at h1
  refine aw_skip ?_
  refine aw_seq ?_
  refine aw_block ?_
  refine aw_sr ?_
  refine al_mv ?_
  refine al_gs ?_
  refine al_nil ?_
  refine aw_seq ?_
  refine aw_any (Checked.mixed Tryz.checked) ?_
  apply aany_seg (p := 0) (q := 30) (by kernel_rfl) rfl (by decide)
  ·
   apply ql_plain rfl (op_move rfl)
   apply ql_plain rfl (op_move rfl)
   apply ql_plain rfl (op_len_map u22 rfl)
   apply ql_plain rfl (op_lss rfl rfl)
   apply ql_plain rfl (val_as (.v (.bool true)) (op_move rfl) (by rw [decide_eq_true (by omega)]))
   apply ql_take rfl rfl rfl rfl (op_move rfl)
   apply ql_take rfl rfl rfl rfl (op_move rfl)
   apply ql_take rfl rfl rfl rfl (op_im u22 info65)
   apply ql_take rfl rfl rfl rfl (op_field_rptr u65 rfl info3 (by decide) rfl rfl)
   apply ql_take rfl rfl rfl rfl (op_load_rptr u3 info3 rfl rfl)
   apply ql_take rfl rfl rfl rfl (op_move rfl)
   apply ql_take rfl rfl rfl rfl (op_move rfl)
   apply ql_take rfl rfl rfl rfl (op_im u22 info65)
   apply ql_take rfl rfl rfl rfl (op_field_rptr u65 rfl info3 (by decide) rfl rfl)
   apply ql_take rfl rfl rfl rfl (op_load_rptr u3 info3 rfl rfl)
   apply ql_take rfl rfl rfl rfl (val_as (.v (.bool (false))) (op_neq rfl rfl) (by simp))
   apply ql_take rfl rfl rfl rfl (val_as (.v (.bool false)) (op_move rfl) (by rfl))
   apply ql_take rfl rfl rfl rfl (op_move rfl)
   apply ql_take rfl rfl rfl rfl (op_move rfl)
   apply ql_take rfl rfl rfl rfl (op_im u22 info65)
   apply ql_take rfl rfl rfl rfl (op_field_rptr u65 rfl info3 (by decide) rfl rfl)
   apply ql_take rfl rfl rfl rfl (op_load_rptr u3 info3 rfl rfl)
   apply ql_take rfl rfl rfl rfl (op_move rfl)
   apply ql_take rfl rfl rfl rfl (op_move rfl)
   apply ql_take rfl rfl rfl rfl (op_im u22 info65)
   apply ql_take rfl rfl rfl rfl (op_field_rptr u65 rfl info3 (by decide) rfl rfl)
   apply ql_take rfl rfl rfl rfl (op_load_rptr u3 info3 rfl rfl)
   apply ql_take rfl rfl rfl rfl (val_as (.v (.bool (false))) (op_neq rfl rfl) (by simp))
   apply ql_take rfl rfl rfl rfl (op_pick rfl rfl)
   apply ql_plain rfl (op_pick rfl rfl)
   exact ql_nil
  ·simp
  refine aany_end rfl (by kernel_rfl) ?_
  refine aw_cond rfl (fun h2 => ?_) (fun h2 => ?_)
  ·have gh2 := h2
   exact absurd gh2 (by simp)
  have gh2 := h2
  simp only [nrm] at h2
  refine aw_skip ?_
  refine aw_region ?_
  refine al_ad ?_
  refine al_mv ?_
  refine al_nil ?_
  refine ⟨i + 1, ?_, ?_, ?_, ?_, ?_⟩
  ·omega
  ·first | trivial | omega
  ·refine sub_1 ?_
   all_goals (first | rfl | simp)
  ·exact sbl
  ·rfl
 have gh1 := h1
 simp only [nrm] at h1
 refine aw_exit ?_
 refine aw_sr ?_
 refine al_mv ?_
 refine al_mv ?_
 refine al_callp into49 rfl rfl rfl ((r_alike _ _ (by first | assumption | omega | (simp; done) | (simp; omega) | decide)) _) (by simp) ?_
 refine al_gs ?_
 refine al_nil ?_
 refine fz1 (t := 4) ?_
 refine aw_ret ?_
 refine ⟨_, res_1 rfl rfl, ?_, rfl⟩
 rw [alike_self]
theorem r_blank (c : UInt8) : ACp Tryz.prog 171 [.v (.int .u8 ((c).toNat : Int))] (.v (.bool (isBlankC c))) := by
 refine acp_of rfl ?_
 refine ace 17 Tryz.func171 ?_
 refine aw_sr ?_
 refine al_gs ?_
 refine al_sr ?_
 refine al_mv ?_
 refine al_eq ?_
 refine al_mv ?_
 apply al_or 3 5 8 rfl
 ·intro h1; have gh1 := h1
  simp only [nrm] at h1
  refine tk_mv ?_
  refine tk_eq ?_
  refine al_pk ?_
  exact al_nk gh1
 ·intro h1; have gh1 := h1
  simp only [nrm] at h1
  iterate 2 refine al_ps ?_
  refine al_pk ?_
  exact al_nk gh1
 refine al_mv ?_
 apply al_or 3 9 12 rfl
 ·intro h2; have gh2 := h2
  simp only [nrm] at h2
  refine tk_mv ?_
  refine tk_eq ?_
  refine al_pk ?_
  exact al_nk gh2
 ·intro h2; have gh2 := h2
  simp only [nrm] at h2
  iterate 2 refine al_ps ?_
  refine al_pk ?_
  exact al_nk gh2
 refine al_mv ?_
 apply al_or 3 13 16 rfl
 ·intro h3; have gh3 := h3
  simp only [nrm] at h3
  refine tk_mv ?_
  refine tk_eq ?_
  refine al_pk ?_
  exact al_nk gh3
 ·intro h3; have gh3 := h3
  simp only [nrm] at h3
  iterate 2 refine al_ps ?_
  refine al_pk ?_
  exact al_nk gh3
 refine al_gs ?_
 refine al_nil ?_
 refine fz1 (t := 2) ?_
 refine aw_ret ?_
 refine ⟨_, res_1 rfl rfl, ?_, rfl⟩
 rw [isBlankC_int]
theorem r_num (s : Bs) (hs : s.length ≤ 1000000000) (hd : s.all isDigitC = true) : ACp Tryz.prog 174 [.v (.string (str (s)))] (.v (.int .i64 (numR s))) := by
 refine acp_of rfl ?_
 refine ace 22 Tryz.func174 ?_
 refine aw_sr ?_
 refine al_gs ?_
 refine al_sr ?_
 refine al_gs ?_
 refine al_nil ?_
 refine aw_seq ?_
 refine aw_sr ?_
 refine al_mv ?_
 refine al_o (op_slen_str (ts := #[]) u9 rfl) ?_
 refine al_mv ?_
 refine al_nil ?_
 refine aw_block ?_
 refine aw_forT (ι := Nat) [2, 3, 7] [] (fun i => s.length - i) (fun i => i ≤ s.length ∧ decV (s.take i) ≤ 2147483647) (fun i => ([(3, .v (.int .i64 ((decV (s.take i) : Nat) : Int))), (7, .v (.int .i64 (i)))] : Env)) (fun i s => s) (0) ?_ ?_ ?_ (fun i hinv => ?_)
 ·exact ⟨Nat.zero_le _, by simp [decV]⟩
 ·refine sub_2 ?_ ?_
  all_goals (first | rfl | (rw [decI_take (by omega) hdi.1] <;> rfl) | simp)
 ·rfl
 have hi := hinv.1
 refine aw_sr ?_
 refine al_ls ?_
 refine al_nil ?_
 refine aw_seq ?_
 refine aw_cond rfl (fun h1 => ?_) (fun h1 => ?_)
 ·have gh1 := h1
  simp only [nrm] at h1
  refine aw_skip ?_
  refine aw_seq ?_
  refine aw_block ?_
  refine aw_sr ?_
  refine al_mv ?_
  refine al_gs ?_
  refine al_nil ?_
  refine aw_seq ?_
  have hdi := digit_at hd (i := i) (by omega)
  refine aw_region ?_
  refine al_mv ?_
  refine al_o (op_mul rfl rfl (by first | exact wrap_i64 (by omega) (by omega))) ?_
  refine al_mv ?_
  refine al_mv ?_
  refine al_o (op_sidx_str u9 rfl rfl (by first | (with_reducible exact Int.toNat_natCast _) | rfl) (by omega) (by first | omega | (simp; omega))) ?_
  refine al_o (op_sub rfl rfl (by first | exact wrap_u8 (by omega) (by omega))) ?_
  refine al_o (op_conv u5 u3 rfl (wrap_i64 (by omega) (by omega))) ?_
  refine al_ad ?_
  refine al_gs ?_
  refine al_sr ?_
  refine al_mv ?_
  refine al_o (op_gtr rfl rfl) ?_
  refine al_nil ?_
  refine aw_cond rfl (fun h2 => ?_) (fun h2 => ?_)
  ·have gh2 := h2
   simp only [nrm] at h2
   refine aw_sr ?_
   refine al_gs ?_
   refine al_nil ?_
   refine fz1 (t := 2) ?_
   refine aw_ret ?_
   refine ⟨_, res_1 rfl rfl, ?_, rfl⟩
   rw [num_big (i := i) (by omega) hd gh2]
  have gh2 := h2
  simp only [nrm] at h2
  refine aw_skip ?_
  refine aw_region ?_
  refine al_ad ?_
  refine al_mv ?_
  refine al_nil ?_
  refine ⟨i + 1, ?_, ?_, ?_, ?_, ?_⟩
  ·omega
  ·exact ⟨by omega, by have h9 := of_decide_eq_false gh2; rw [decI_take (by omega) hdi.1] at h9; omega⟩
  ·refine sub_2 ?_ ?_
   all_goals (first | rfl | (rw [decI_take (by omega) hdi.1] <;> rfl) | simp)
  ·exact sbl
  ·rfl
 have gh1 := h1
 simp only [nrm] at h1
 refine aw_exit ?_
 obtain rfl : i = s.length := by omega
 refine aw_sr ?_
 refine al_mv ?_
 refine al_gs ?_
 refine al_nil ?_
 refine fz1 (t := 2) ?_
 refine aw_ret ?_
 refine ⟨_, res_1 rfl rfl, ?_, rfl⟩
 rw [num_fits hinv.2]
theorem r_quo (s : Bs) (hs : s.length ≤ 1000000000) (j : Nat) (hj : j ≤ 2000000000) (k lo hi : Int) : ACp Tryz.prog 172 [.v (.string (str (s))), .v (.int .i64 ((j : Nat) : Int)), .v (.int .i64 (k)), .v (.int .i64 (lo)), .v (.int .i64 (hi))] (.v (.int .i64 (quoI s j k lo hi))) := by
 refine acp_of rfl ?_
 refine ace 54 Tryz.func172 ?_
 refine aw_sr ?_
 refine al_gs ?_
 refine al_nil ?_
 refine aw_seq ?_
 refine aw_sr ?_
 refine al_mv ?_
 refine al_mv ?_
 refine al_o (op_slen_str (ts := #[]) u9 rfl) ?_
 refine al_o (op_geq rfl rfl) ?_
 refine al_mv ?_
 apply al_or 5 16 21 rfl
 ·intro h1; have gh1 := h1
  simp only [nrm] at h1
  refine tk_mv ?_
  refine tk_mv ?_
  refine al_t (op_sidx_str u9 rfl rfl (by first | (with_reducible exact Int.toNat_natCast _) | rfl) (by omega) (by first | omega | (simp; omega))) ?_
  refine al_t (op_neq rfl rfl) ?_
  refine al_pk ?_
  exact al_nk gh1
 ·intro h1; have gh1 := h1
  simp only [nrm] at h1
  iterate 4 refine al_ps ?_
  refine al_pk ?_
  exact al_nk gh1
 refine al_nil ?_
 refine aw_cond rfl (fun h2 => ?_) (fun h2 => ?_)
 ·have gh2 := h2
  simp only [nrm] at h2
  refine aw_sr ?_
  refine al_gs ?_
  refine al_nil ?_
  refine fz1 (t := 10) ?_
  refine aw_ret ?_
  refine ⟨_, res_1 rfl rfl, ?_, rfl⟩
  rw [quoI, gh2]; rfl
 have gh2 := h2
 simp only [nrm] at h2
 refine aw_skip ?_
 refine aw_sr ?_
 refine al_mv ?_
 refine al_mv ?_
 refine al_ad ?_
 refine al_mv ?_
 refine al_callp into122 rfl rfl rfl (r_run3 s (by omega) (j + 1) (by omega) k _) (by simp) ?_
 refine al_gs ?_
 refine al_nil ?_
 refine aw_seq ?_
 refine aw_seq ?_
 have hrl := takeWhile_len (fun x => ofK x k) (s.drop (j + 1))
 rw [List.length_drop] at hrl
 refine aw_region ?_
 refine al_mv ?_
 refine al_mv ?_
 refine al_ls ?_
 refine al_mv ?_
 apply al_or 4 30 34 rfl
 ·intro h3; have gh3 := h3
  simp only [nrm] at h3
  refine tk_mv ?_
  refine tk_mv ?_
  refine al_t (op_gtr rfl rfl) ?_
  refine al_pk ?_
  exact al_nk gh3
 ·intro h3; have gh3 := h3
  simp only [nrm] at h3
  iterate 3 refine al_ps ?_
  refine al_pk ?_
  exact al_nk gh3
 refine al_mv ?_
 apply al_or 8 35 43 rfl
 ·intro h4; have gh4 := h4
  simp only [nrm] at h4
  refine tk_mv ?_
  refine al_t (op_add rfl rfl (by first | exact wrap_i64 (by omega) (by omega))) ?_
  refine tk_mv ?_
  refine al_t (op_add rfl rfl (by first | exact wrap_i64 (by omega) (by omega))) ?_
  refine tk_mv ?_
  refine al_t (op_slen_str (ts := #[]) u9 rfl) ?_
  refine al_t (op_geq rfl rfl) ?_
  refine al_pk ?_
  exact al_nk gh4
 ·intro h4; have gh4 := h4
  simp only [nrm] at h4
  iterate 7 refine al_ps ?_
  refine al_pk ?_
  exact al_nk gh4
 refine al_mv ?_
 apply al_or 8 44 52 rfl
 ·intro h5; have gh5 := h5
  simp only [nrm] at h5
  refine tk_mv ?_
  refine tk_mv ?_
  refine al_t (op_add rfl rfl (by first | exact wrap_i64 (by omega) (by omega))) ?_
  refine tk_mv ?_
  refine al_t (op_add rfl rfl (by first | exact wrap_i64 (by omega) (by omega))) ?_
  refine al_t (op_sidx_str u9 rfl rfl (by first | (with_reducible exact Int.toNat_natCast _) | rfl) (by omega) (by first | omega | (simp; omega))) ?_
  refine al_t (op_neq rfl rfl) ?_
  refine al_pk ?_
  exact al_nk gh5
 ·intro h5; have gh5 := h5
  simp only [nrm] at h5
  iterate 7 refine al_ps ?_
  refine al_pk ?_
  exact al_nk gh5
 refine al_nil ?_
 refine aw_cond rfl (fun h6 => ?_) (fun h6 => ?_)
 ·have gh6 := h6
  simp only [nrm] at h6
  refine aw_sr ?_
  refine al_gs ?_
  refine al_nil ?_
  refine fz1 (t := 10) ?_
  refine aw_ret ?_
  refine ⟨_, res_1 rfl rfl, ?_, rfl⟩
  rw [quoI, gh2, cond_false]; unfold quoN; rw [gh6]; rfl
 have gh6 := h6
 simp only [nrm] at h6
 refine aw_skip ?_
 refine aw_sr ?_
 refine al_mv ?_
 refine al_gs ?_
 refine al_nil ?_
 refine fz1 (t := 10) ?_
 refine aw_ret ?_
 refine ⟨_, res_1 rfl rfl, ?_, rfl⟩
 rw [quoI, gh2, cond_false]; unfold quoN; rw [gh6]; rfl
theorem r_place (s : Bs) (hs : s.length ≤ 1000000000) (i : Nat) (hi : i ≤ s.length) : ACp Tryz.prog 129 [.v (.string (str (s))), .v (.int .i64 ((i : Nat) : Int))] (.tuple [.v (.int .i64 ((place s i).1)), .v (.int .i64 ((place s i).2))]) := by
 refine acp_of rfl ?_
 refine ace 24 Tryz.func129 ?_
 refine aw_sr ?_
 refine al_gs ?_
 refine al_gs ?_
 refine al_sr ?_
 refine al_gs ?_
 refine al_gs ?_
 refine al_nil ?_
 refine aw_seq ?_
 refine aw_sr ?_
 refine al_mv ?_
 refine al_mv ?_
 refine al_nil ?_
 refine aw_block ?_
 refine aw_forT (ι := Nat) [6, 7, 10] [] (fun j => i - j) (fun j => j ≤ i) (fun j => ([(6, .v (.int .i64 ((place s j).1))), (7, .v (.int .i64 ((place s j).2))), (10, .v (.int .i64 (j)))] : Env)) (fun j s => s) (0) ?_ ?_ ?_ (fun j hinv => ?_)
 ·exact Nat.zero_le _
 ·refine sub_cons (get_as rfl ?_) ?_; rotate_left; refine sub_cons (get_as rfl ?_) ?_; rotate_left; refine sub_cons (get_as rfl ?_) ?_; rotate_left; exact sub_nil
  all_goals (first | rfl | (rw [pl_line (by omega) gh2]) | (rw [pl_col (by omega) gh2]) | simp)
 ·rfl
 have hpl := place_ge s j
 refine aw_sr ?_
 refine al_ls ?_
 refine al_nil ?_
 refine aw_seq ?_
 refine aw_cond rfl (fun h1 => ?_) (fun h1 => ?_)
 ·have gh1 := h1
  simp only [nrm] at h1
  refine aw_skip ?_
  refine aw_seq ?_
  refine aw_block ?_
  refine aw_sr ?_
  refine al_mv ?_
  refine al_gs ?_
  refine al_sr ?_
  refine al_mv ?_
  refine al_mv ?_
  refine al_o (op_sidx_str u9 rfl rfl (by first | (with_reducible exact Int.toNat_natCast _) | rfl) (by omega) (by first | omega | (simp; omega))) ?_
  refine al_eq ?_
  refine al_nil ?_
  refine aw_cond rfl (fun h2 => ?_) (fun h2 => ?_)
  ·have gh2 := h2
   simp only [nrm] at h2
   refine aw_region ?_
   refine al_mv ?_
   refine al_ad ?_
   refine al_gs ?_
   refine al_gs ?_
   refine al_nil ?_
   refine aw_region ?_
   refine al_ad ?_
   refine al_mv ?_
   refine al_nil ?_
   refine ⟨j + 1, ?_, ?_, ?_, ?_, ?_⟩
   ·omega
   ·first | trivial | omega
   ·refine sub_cons (get_as rfl ?_) ?_; rotate_left; refine sub_cons (get_as rfl ?_) ?_; rotate_left; refine sub_cons (get_as rfl ?_) ?_; rotate_left; exact sub_nil
    all_goals (first | rfl | (rw [pl_line (by omega) gh2]) | (rw [pl_col (by omega) gh2]) | simp)
   ·exact sbl
   ·rfl
  have gh2 := h2
  simp only [nrm] at h2
  refine aw_region ?_
  refine al_mv ?_
  refine al_ad ?_
  refine al_gs ?_
  refine al_nil ?_
  refine aw_region ?_
  refine al_ad ?_
  refine al_mv ?_
  refine al_nil ?_
  refine ⟨j + 1, ?_, ?_, ?_, ?_, ?_⟩
  ·omega
  ·first | trivial | omega
  ·refine sub_cons (get_as rfl ?_) ?_; rotate_left; refine sub_cons (get_as rfl ?_) ?_; rotate_left; refine sub_cons (get_as rfl ?_) ?_; rotate_left; exact sub_nil
   all_goals (first | rfl | (rw [pl_line (by omega) gh2]) | (rw [pl_col (by omega) gh2]) | simp)
  ·exact sbl
  ·rfl
 have gh1 := h1
 simp only [nrm] at h1
 refine aw_exit ?_
 obtain rfl : j = i := by omega
 refine aw_sr ?_
 refine al_mv ?_
 refine al_mv ?_
 refine al_gs ?_
 refine al_gs ?_
 refine al_nil ?_
 refine fz2 (t := 4) (u := 5) ?_
 refine aw_ret ?_
 refine ⟨_, res_2 rfl rfl rfl rfl rfl, ?_, rfl⟩
 rfl
theorem r_next (s : Bs) (hs : s.length ≤ 1000000000) (i : Nat) (hi : i ≤ s.length) : ACp Tryz.prog 127 [.v (.string (str (s))), .v (.int .i64 ((i : Nat) : Int))] (.v (.int .i64 ((nextAt s i : Nat) : Int))) := by
 refine acp_of rfl ?_
 refine ace 42 Tryz.func127 ?_
 refine aw_sr ?_
 refine al_gs ?_
 refine al_nil ?_
 refine aw_seq ?_
 refine aw_block ?_
 refine aw_forT (ι := Nat) [1, 4] [] (fun j => s.length - j) (fun j => (i ≤ j ∧ j ≤ s.length) ∧ nextAt s j = nextAt s i) (fun j => ([(1, .v (.int .i64 (j)))] : Env)) (fun j s => s) (i) ?_ ?_ ?_ (fun j hinv => ?_)
 ·exact ⟨⟨Nat.le_refl _, hi⟩, rfl⟩
 ·refine sub_1 ?_
  all_goals (first | rfl | (rw [run_line] <;> rfl) | simp)
 ·rfl
 obtain ⟨⟨hj1, hj2⟩, hj3⟩ := hinv
 refine aw_seq ?_
 refine aw_sr ?_
 refine al_mv ?_
 refine al_mv ?_
 refine al_o (op_slen_str (ts := #[]) u9 rfl) ?_
 refine al_ls ?_
 refine al_nil ?_
 refine aw_cond rfl (fun h1 => ?_) (fun h1 => ?_)
 ·have gh1 := h1
  simp only [nrm] at h1
  refine aw_skip ?_
  refine aw_block ?_
  refine aw_block ?_
  refine aw_sr ?_
  refine al_mv ?_
  refine al_mv ?_
  refine al_o (op_sidx_str u9 rfl rfl (by first | (with_reducible exact Int.toNat_natCast _) | rfl) (by omega) (by first | omega | (simp; omega))) ?_
  refine al_callp into171 rfl rfl rfl ((r_blank _) _) (by simp) ?_
  refine al_gs ?_
  refine al_nil ?_
  refine aw_cond rfl (fun gh2 => ?_) (fun gh2 => ?_)
  ·refine aw_region ?_
   refine al_mv ?_
   refine al_ad ?_
   refine al_gs ?_
   refine al_nil ?_
   refine ⟨j + 1, ?_, ?_, ?_, ?_, ?_⟩
   ·omega
   ·first | exact ⟨⟨by omega, by omega⟩, (next_blank s j (by omega) gh2).trans hj3⟩ | exact ⟨⟨by omega, by omega⟩, hnc.trans hj3⟩
   ·refine sub_1 ?_
    all_goals (first | rfl | (rw [run_line] <;> rfl) | simp)
   ·exact sbl
   ·rfl
  refine aw_sr ?_
  refine al_mv ?_
  refine al_mv ?_
  refine al_o (op_sidx_str u9 rfl rfl (by first | (with_reducible exact Int.toNat_natCast _) | rfl) (by omega) (by first | omega | (simp; omega))) ?_
  refine al_eq ?_
  refine al_mv ?_
  apply al_and 6 22 28 rfl
  ·intro h3; have gh3 := h3
   simp only [nrm] at h3
   refine tk_mv ?_
   refine al_t (op_add rfl rfl (by first | exact wrap_i64 (by omega) (by omega))) ?_
   refine tk_mv ?_
   refine al_t (op_slen_str (ts := #[]) u9 rfl) ?_
   refine al_t (op_lss rfl rfl) ?_
   refine al_pk ?_
   exact al_nk gh3
  ·intro h3; have gh3 := h3
   simp only [nrm] at h3
   iterate 5 refine al_ps ?_
   refine al_pk ?_
   exact al_nk gh3
  refine al_mv ?_
  apply al_and 6 29 35 rfl
  ·intro h4; have gh4 := h4
   simp only [nrm] at h4
   refine tk_mv ?_
   refine tk_mv ?_
   refine al_t (op_add rfl rfl (by first | exact wrap_i64 (by omega) (by omega))) ?_
   refine al_t (op_sidx_str u9 rfl rfl (by first | (with_reducible exact Int.toNat_natCast _) | rfl) (by omega) (by first | omega | (simp; omega))) ?_
   refine tk_eq ?_
   refine al_pk ?_
   exact al_nk gh4
  ·intro h4; have gh4 := h4
   iterate 5 refine al_ps ?_
   refine al_pk ?_
   exact al_nk gh4
  refine al_gs ?_
  refine al_nil ?_
  refine aw_cond rfl (fun h5 => ?_) (fun h5 => ?_)
  ·have gh5 := h5
   simp only [nrm] at h5
   rw [com_cond (by omega)] at gh5
   obtain ⟨hnc, hn2⟩ := next_comment s j gh5
   have hll := lineLen_le (s.drop j)
   have hrl := run_line (s.drop j)
   rw [List.length_drop] at hll
   refine aw_region ?_
   refine al_mv ?_
   refine al_mv ?_
   refine al_mv ?_
   refine al_callp into122 rfl rfl rfl (r_run3 s (by omega) j (by omega) 4 _) (by simp) ?_
   refine al_ad ?_
   refine al_gs ?_
   refine al_nil ?_
   refine ⟨j + lineLen (s.drop j), ?_, ?_, ?_, ?_, ?_⟩
   ·omega
   ·first | exact ⟨⟨by omega, by omega⟩, (next_blank s j (by omega) gh2).trans hj3⟩ | exact ⟨⟨by omega, by omega⟩, hnc.trans hj3⟩
   ·refine sub_1 ?_
    all_goals (first | rfl | (rw [run_line] <;> rfl) | simp)
   ·exact sbl
   ·rfl
  have gh5 := h5
  refine aw_seq ?_
  rw [com_cond (by omega)] at gh5
  refine aw_region ?_
  refine al_mv ?_
  refine al_gs ?_
  refine al_nil ?_
  refine fz1 (t := 4) ?_
  refine aw_ret ?_
  refine ⟨_, res_1 rfl rfl, ?_, rfl⟩
  rw [← hj3, next_stop s j (by omega) gh2 gh5]
 have gh1 := h1
 simp only [nrm] at h1
 refine aw_exit ?_
 refine aw_sr ?_
 refine al_mv ?_
 refine al_gs ?_
 refine al_nil ?_
 refine fz1 (t := 4) ?_
 refine aw_ret ?_
 refine ⟨_, res_1 rfl rfl, ?_, rfl⟩
 rw [← hj3, next_end s j (by omega)]
theorem r_runP (s : Bs) (hs : s.length ≤ 1000000000) (i : Nat) (hi : i ≤ s.length) : ACp Tryz.prog 122 [.v (.string (str (s))), .v (.int .i64 ((i : Nat) : Int)), .v (.int .i64 (1))] (.v (.int .i64 ((((s.drop i).takeWhile isPartC).length : Nat) : Int))) := r_run3 s (by omega) i hi 1
theorem r_runD (s : Bs) (hs : s.length ≤ 1000000000) (i : Nat) (hi : i ≤ s.length) : ACp Tryz.prog 122 [.v (.string (str (s))), .v (.int .i64 ((i : Nat) : Int)), .v (.int .i64 (0))] (.v (.int .i64 ((((s.drop i).takeWhile isDigitC).length : Nat) : Int))) := r_run3 s (by omega) i hi 0
theorem q_rtoken (s : Bs) (hs : s.length ≤ 1000000000) (i : Nat) (hi : i < s.length) : AC Tryz.prog 128 [.v (.string (str (s))), .v (.int .i64 ((i : Nat) : Int))] ([]) (fun r σ' => r = .ret (.tuple [.agg (tokCells (s.drop i)), .v (.int .i64 (((tokA (s.drop i)).2.2.2 : Nat) : Int))]) ∧ σ'.keep (fun _ => false) = []) := by
 have hsl : signsL.length = 18 := by decide
 have hdl : (s.drop i).length ≤ 1000000000 := by rw [List.length_drop]; omega
 have hw5 := takeWhile_len isPartC (s.drop i)
 have hw6 := takeWhile_len isDigitC (s.drop i)
 rw [List.length_drop] at hw5 hw6
 refine ace 179 Tryz.func128 ?_
 refine aw_sr ?_
 refine al_al 4 info65 fun ver4 => ?_
 refine al_gs ?_
 refine al_sr ?_
 refine al_mv ?_
 refine al_mv ?_
 refine al_o (val_as (.v (.int .u8 (((s.drop i).getD 0 default).toNat : Int))) (op_sidx_str u9 rfl rfl (by first | (with_reducible exact Int.toNat_natCast _) | rfl) (by omega) (by first | omega | (simp; omega))) (by rw [getD_drop, Nat.add_zero])) ?_
 refine al_gs ?_
 refine al_nil ?_
 refine aw_seq ?_
 refine aw_block ?_
 refine aw_sr ?_
 refine al_mv ?_
 refine al_eq ?_
 refine al_mv ?_
 apply al_and 6 49 55 rfl
 ·intro h1; have gh1 := h1
  simp only [nrm] at h1
  refine tk_mv ?_
  refine al_t (op_add rfl rfl (by first | exact wrap_i64 (by omega) (by omega))) ?_
  refine tk_mv ?_
  refine al_t (op_slen_str (ts := #[]) u9 rfl) ?_
  refine al_t (op_lss rfl rfl) ?_
  refine al_pk ?_
  exact al_nk gh1
 ·intro h1; have gh1 := h1
  simp only [nrm] at h1
  iterate 5 refine al_ps ?_
  refine al_pk ?_
  exact al_nk gh1
 refine al_mv ?_
 apply al_and 6 56 62 rfl
 ·intro h2; have gh2 := h2
  simp only [nrm] at h2
  refine tk_mv ?_
  refine tk_mv ?_
  refine al_t (op_add rfl rfl (by first | exact wrap_i64 (by omega) (by omega))) ?_
  refine al_t (op_sidx_str u9 rfl rfl (by first | (with_reducible exact Int.toNat_natCast _) | rfl) (by omega) (by first | omega | (simp; omega))) ?_
  refine tk_eq ?_
  refine al_pk ?_
  exact al_nk gh2
 ·intro h2; have gh2 := h2
  iterate 5 refine al_ps ?_
  refine al_pk ?_
  exact al_nk gh2
 refine al_gs ?_
 refine al_nil ?_
 refine aw_cond rfl (fun h3 => ?_) (fun h3 => ?_)
 ·have gh3 := h3
  simp only [nrm] at h3
  refine aw_seq ?_
  rw [b46 hi] at gh3
  refine aw_region ?_
  refine al_mv ?_
  refine al_mv ?_
  refine al_ad ?_
  refine al_callp into172 rfl rfl rfl (r_quo s hs (i + 1) (by omega) 2 1 64 _) (by simp) ?_
  refine al_gs ?_
  refine al_sr ?_
  refine al_mv ?_
  refine al_o (op_geq rfl rfl) ?_
  refine al_nil ?_
  refine aw_cond rfl (fun h4 => ?_) (fun h4 => ?_)
  ·have gh4 := h4
   simp only [nrm] at h4
   refine aw_seq ?_
   obtain ⟨n, hn, hnl, htk⟩ := rt_vec gh3 gh4
   refine aw_region ?_
   refine al_mv ?_
   refine al_mv ?_
   refine al_ad ?_
   refine al_mv ?_
   refine al_ad ?_
   refine al_mv ?_
   refine al_ad ?_
   refine al_o (op_cut_str u9 rfl (.of rfl (show _ = (((i + 2) : Nat) : Int) from by omega)) (.of rfl (show _ = (((i + 2 + n) : Nat) : Int) from by omega)) (by omega) (by first | omega | (simp; omega))) ?_
   refine al_o (op_bs u65 info65 place65) ?_
   refine al_mv ?_
   refine al_ad ?_
   refine al_sp info65 ?_
   refine al_gs ?_
   refine al_nil ?_
   refine aw_ret ?_
   refine ⟨_, res_cell_tmp rfl u65 info65 rfl rfl rfl rfl rfl rfl rfl, ?_⟩
   exact ⟨(by rw [tokCells, htk, hn]; rfl), rfl⟩
  have gh4 := h4
  simp only [nrm] at h4
  refine aw_skip ?_
  refine aw_sr ?_
  refine al_o (op_bs u65 info65 place65) ?_
  refine al_sp info65 ?_
  refine al_gs ?_
  refine al_nil ?_
  refine aw_ret ?_
  refine ⟨_, res_cell_tmp rfl u65 info65 rfl rfl rfl rfl rfl rfl rfl, ?_⟩
  exact ⟨(by rw [tokCells, rt_novec gh3 gh4]; rfl), rfl⟩
 have gh3 := h3
 refine aw_seq ?_
 rw [b46 hi] at gh3
 refine aw_region ?_
 refine al_mv ?_
 refine al_callp into121 rfl rfl rfl ((r_letter _) _) (by simp) ?_
 refine al_gs ?_
 refine al_nil ?_
 refine aw_cond rfl (fun gh5 => ?_) (fun gh5 => ?_)
 ·refine aw_sr ?_
  refine al_mv ?_
  refine al_mv ?_
  refine al_mv ?_
  refine al_mv ?_
  refine al_mv ?_
  refine al_callp into122 rfl rfl rfl (r_runP s hs i (by omega) _) (by simp) ?_
  refine al_ad ?_
  refine al_o (val_as (.v (.string (str ((s.drop i).takeWhile isPartC)))) (op_cut_str u9 rfl (.of rfl (show _ = ((i : Nat) : Int) from by omega)) (.of rfl (show _ = (((i + ((s.drop i).takeWhile isPartC).length) : Nat) : Int) from by omega)) (by omega) (by first | omega | (simp; omega))) (by rw [run_cut])) ?_
  refine al_gs ?_
  refine al_nil ?_
  refine aw_seq ?_
  refine aw_sr ?_
  refine al_mv ?_
  refine al_callp into123 rfl rfl rfl ((r_isWord _ (by first | assumption | omega | (simp; done) | (simp; omega) | decide)) _) (by simp) ?_
  refine al_nil ?_
  refine aw_cond rfl (fun gh6 => ?_) (fun gh6 => ?_)
  ·refine aw_sr ?_
   refine al_mv ?_
   refine al_o (op_bs u65 info65 place65) ?_
   refine al_mv ?_
   refine al_o (op_slen_str (ts := #[]) u9 rfl) ?_
   refine al_sp info65 ?_
   refine al_gs ?_
   refine al_nil ?_
   refine aw_ret ?_
   refine ⟨_, res_cell_tmp rfl u65 info65 rfl rfl rfl rfl rfl rfl rfl, ?_⟩
   exact ⟨(by rw [tokCells, tok_word gh3 gh5 gh6]; rfl), rfl⟩
  refine aw_skip ?_
  refine aw_sr ?_
  refine al_mv ?_
  refine al_callp into67 rfl rfl rfl ((r_isName _ (by first | assumption | omega | (simp; done) | (simp; omega) | decide)) _) (by simp) ?_
  refine al_nil ?_
  refine aw_cond rfl (fun gh7 => ?_) (fun gh7 => ?_)
  ·refine aw_sr ?_
   refine al_mv ?_
   refine al_o (op_bs u65 info65 place65) ?_
   refine al_mv ?_
   refine al_o (op_slen_str (ts := #[]) u9 rfl) ?_
   refine al_sp info65 ?_
   refine al_gs ?_
   refine al_nil ?_
   refine aw_ret ?_
   refine ⟨_, res_cell_tmp rfl u65 info65 rfl rfl rfl rfl rfl rfl rfl, ?_⟩
   exact ⟨(by rw [tokCells, tok_name gh3 gh5 gh6 gh7]; rfl), rfl⟩
  refine aw_skip ?_
  refine aw_sr ?_
  refine al_o (op_bs u65 info65 place65) ?_
  refine al_sp info65 ?_
  refine al_gs ?_
  refine al_nil ?_
  refine aw_ret ?_
  refine ⟨_, res_cell_tmp rfl u65 info65 rfl rfl rfl rfl rfl rfl rfl, ?_⟩
  exact ⟨(by rw [tokCells, tok_noname gh3 gh5 gh6 gh7]; rfl), rfl⟩
 refine aw_sr ?_
 refine al_mv ?_
 refine al_callp into173 rfl rfl rfl ((r_digit _) _) (by simp) ?_
 refine al_gs ?_
 refine al_nil ?_
 refine aw_cond rfl (fun gh8 => ?_) (fun gh8 => ?_)
 ·refine aw_sr ?_
  refine al_mv ?_
  refine al_mv ?_
  refine al_mv ?_
  refine al_mv ?_
  refine al_mv ?_
  refine al_callp into122 rfl rfl rfl (r_runD s hs i (by omega) _) (by simp) ?_
  refine al_ad ?_
  refine al_o (val_as (.v (.string (str ((s.drop i).takeWhile isDigitC)))) (op_cut_str u9 rfl (.of rfl (show _ = ((i : Nat) : Int) from by omega)) (.of rfl (show _ = (((i + ((s.drop i).takeWhile isDigitC).length) : Nat) : Int) from by omega)) (by omega) (by first | omega | (simp; omega))) (by rw [run_cut])) ?_
  refine al_gs ?_
  refine al_sr ?_
  refine al_mv ?_
  refine al_callp into174 rfl rfl rfl (r_num _ (by omega) digit_tw _) (by simp) ?_
  refine al_gs ?_
  refine al_sr ?_
  refine al_mv ?_
  refine al_o (op_geq rfl rfl) ?_
  refine al_mv ?_
  apply al_and 7 118 125 rfl
  ·intro h9; have gh9 := h9
   simp only [nrm] at h9
   refine tk_mv ?_
   refine tk_mv ?_
   refine al_callp_take into122 rfl rfl rfl rfl rfl rfl (r_runP s hs i (by omega) _) (by simp) ?_
   refine tk_mv ?_
   refine al_t (op_slen_str (ts := #[]) u9 rfl) ?_
   refine tk_eq ?_
   refine al_pk ?_
   exact al_nk gh9
  ·intro h9; have gh9 := h9
   simp only [nrm] at h9
   iterate 6 refine al_ps ?_
   refine al_pk ?_
   exact al_nk gh9
  refine al_nil ?_
  refine aw_cond rfl (fun h10 => ?_) (fun h10 => ?_)
  ·have gh10 := h10
   simp only [nrm] at h10
   refine aw_sr ?_
   refine al_mv ?_
   refine al_o (op_bs u65 info65 place65) ?_
   refine al_mv ?_
   refine al_o (op_slen_str (ts := #[]) u9 rfl) ?_
   refine al_sp info65 ?_
   refine al_gs ?_
   refine al_nil ?_
   refine aw_ret ?_
   refine ⟨_, res_cell_tmp rfl u65 info65 rfl rfl rfl rfl rfl rfl rfl, ?_⟩
   exact ⟨(by rw [tokCells, rt_int_yes gh3 gh5 gh8 gh10]; rfl), rfl⟩
  have gh10 := h10
  simp only [nrm] at h10
  refine aw_skip ?_
  refine aw_sr ?_
  refine al_o (op_bs u65 info65 place65) ?_
  refine al_sp info65 ?_
  refine al_gs ?_
  refine al_nil ?_
  refine aw_ret ?_
  refine ⟨_, res_cell_tmp rfl u65 info65 rfl rfl rfl rfl rfl rfl rfl, ?_⟩
  exact ⟨(by rw [tokCells, rt_int_no gh3 gh5 gh8 gh10]; rfl), rfl⟩
 refine aw_sr ?_
 refine al_mv ?_
 refine al_eq ?_
 refine al_gs ?_
 refine al_nil ?_
 refine aw_cond rfl (fun h11 => ?_) (fun h11 => ?_)
 ·have gh11 := h11
  simp only [nrm] at h11
  refine aw_sr ?_
  refine al_mv ?_
  refine al_ad ?_
  refine al_mv ?_
  refine al_o (op_slen_str (ts := #[]) u9 rfl) ?_
  refine al_ls ?_
  refine al_mv ?_
  apply al_and 6 138 144 rfl
  ·intro h12; have gh12 := h12
   simp only [nrm] at h12
   refine tk_mv ?_
   refine tk_mv ?_
   refine al_t (op_add rfl rfl (by first | exact wrap_i64 (by omega) (by omega))) ?_
   refine al_t (op_sidx_str u9 rfl rfl (by first | (with_reducible exact Int.toNat_natCast _) | rfl) (by omega) (by first | omega | (simp; omega))) ?_
   refine al_callp_take into132 rfl rfl rfl rfl rfl rfl ((r_bit _) _) (by simp) ?_
   refine al_pk ?_
   exact al_nk gh12
  ·intro h12; have gh12 := h12
   simp only [nrm] at h12
   iterate 5 refine al_ps ?_
   refine al_pk ?_
   exact al_nk gh12
  refine al_mv ?_
  apply al_and 6 145 151 rfl
  ·intro h13; have gh13 := h13
   simp only [nrm] at h13
   refine tk_mv ?_
   refine tk_mv ?_
   refine al_t (op_add rfl rfl (by first | exact wrap_i64 (by omega) (by omega))) ?_
   refine al_t (op_sidx_str u9 rfl rfl (by first | (with_reducible exact Int.toNat_natCast _) | rfl) (by omega) (by first | omega | (simp; omega))) ?_
   refine tk_eq ?_
   refine al_pk ?_
   exact al_nk gh13
  ·intro h13; have gh13 := h13
   iterate 5 refine al_ps ?_
   refine al_pk ?_
   exact al_nk gh13
  refine al_nil ?_
  refine aw_cond rfl (fun h14 => ?_) (fun h14 => ?_)
  ·have gh14 := h14
   simp only [nrm] at h14
   refine aw_seq ?_
   obtain ⟨hbl, htk⟩ := rt_bit gh3 gh5 gh8 hi gh11 gh14
   refine aw_region ?_
   refine al_mv ?_
   refine al_mv ?_
   refine al_ad ?_
   refine al_mv ?_
   refine al_ad ?_
   refine al_o (op_cut_str u9 rfl (.of rfl (show _ = (((i + 1) : Nat) : Int) from by omega)) (.of rfl (show _ = (((i + 2) : Nat) : Int) from by omega)) (by omega) (by first | omega | (simp; omega))) ?_
   refine al_o (op_bs u65 info65 place65) ?_
   refine al_sp info65 ?_
   refine al_gs ?_
   refine al_nil ?_
   refine aw_ret ?_
   refine ⟨_, res_cell_tmp rfl u65 info65 rfl rfl rfl rfl rfl rfl rfl, ?_⟩
   exact ⟨(by rw [tokCells, htk]; rfl), rfl⟩
  have gh14 := h14
  refine aw_skip ?_
  refine aw_sr ?_
  refine al_o (op_bs u65 info65 place65) ?_
  refine al_sp info65 ?_
  refine al_gs ?_
  refine al_nil ?_
  refine aw_ret ?_
  refine ⟨_, res_cell_tmp rfl u65 info65 rfl rfl rfl rfl rfl rfl rfl, ?_⟩
  exact ⟨(by rw [tokCells, rt_nobit gh3 gh5 gh8 hi gh11 gh14]; rfl), rfl⟩
 have gh11 := h11
 simp only [nrm] at h11
 refine aw_sr ?_
 refine al_mv ?_
 refine al_eq ?_
 refine al_gs ?_
 refine al_nil ?_
 refine aw_cond rfl (fun h15 => ?_) (fun h15 => ?_)
 ·have gh15 := h15
  simp only [nrm] at h15
  refine aw_sr ?_
  refine al_mv ?_
  refine al_mv ?_
  refine al_callp into172 rfl rfl rfl (r_quo s hs i (by omega) 3 0 60 _) (by simp) ?_
  refine al_gs ?_
  refine al_sr ?_
  refine al_mv ?_
  refine al_o (op_geq rfl rfl) ?_
  refine al_nil ?_
  refine aw_cond rfl (fun h16 => ?_) (fun h16 => ?_)
  ·have gh16 := h16
   simp only [nrm] at h16
   refine aw_seq ?_
   obtain ⟨n, hn, hnl, htk⟩ := rt_text gh3 gh5 gh8 gh11 gh15 gh16
   refine aw_region ?_
   refine al_mv ?_
   refine al_mv ?_
   refine al_ad ?_
   refine al_mv ?_
   refine al_ad ?_
   refine al_mv ?_
   refine al_ad ?_
   refine al_o (op_cut_str u9 rfl (.of rfl (show _ = (((i + 1) : Nat) : Int) from by omega)) (.of rfl (show _ = (((i + 1 + n) : Nat) : Int) from by omega)) (by omega) (by first | omega | (simp; omega))) ?_
   refine al_o (op_bs u65 info65 place65) ?_
   refine al_mv ?_
   refine al_ad ?_
   refine al_sp info65 ?_
   refine al_gs ?_
   refine al_nil ?_
   refine aw_ret ?_
   refine ⟨_, res_cell_tmp rfl u65 info65 rfl rfl rfl rfl rfl rfl rfl, ?_⟩
   exact ⟨(by rw [tokCells, htk, hn]; rfl), rfl⟩
  have gh16 := h16
  simp only [nrm] at h16
  refine aw_skip ?_
  refine aw_sr ?_
  refine al_o (op_bs u65 info65 place65) ?_
  refine al_sp info65 ?_
  refine al_gs ?_
  refine al_nil ?_
  refine aw_ret ?_
  refine ⟨_, res_cell_tmp rfl u65 info65 rfl rfl rfl rfl rfl rfl rfl, ?_⟩
  exact ⟨(by rw [tokCells, rt_notext gh3 gh5 gh8 gh11 gh15 gh16]; rfl), rfl⟩
 have gh15 := h15
 simp only [nrm] at h15
 refine aw_sr ?_
 refine al_callp into134 rfl rfl rfl ((r_Signs ) _) (by simp) ?_
 refine al_lm u32 ?_
 refine al_mv ?_
 refine al_nil ?_
 refine aw_block ?_
 refine aw_forT (ι := Nat) [5, 19] [] (fun q => signsL.length - q) (fun q => q ≤ signsL.length ∧ ∀ k, k < q → (signsL.getD k default).isPrefixOf (s.drop i) = false) (fun q => ([(19, .v (.int .i64 (q)))] : Env)) (fun q s => s) (0) ?_ ?_ ?_ (fun q hinv => ?_)
 ·exact ⟨Nat.zero_le _, fun k hk => absurd hk (Nat.not_lt_zero k)⟩
 ·refine sub_1 ?_
  all_goals (first | rfl | simp)
 ·rfl
 have hq := hinv.1
 refine aw_sr ?_
 refine al_ls ?_
 refine al_nil ?_
 refine aw_seq ?_
 refine aw_cond rfl (fun h17 => ?_) (fun h17 => ?_)
 ·have gh17 := h17
  simp only [nrm] at h17
  refine aw_skip ?_
  refine aw_seq ?_
  refine aw_block ?_
  refine aw_sr ?_
  refine al_o (op_im u32 info9) ?_
  refine al_lr u9 info9 ?_
  refine al_gs ?_
  refine al_nil ?_
  refine aw_seq ?_
  have hsx := (sign_all _ (getD_mem (show q < signsL.length by omega))).2.1
  refine aw_region ?_
  refine al_mv ?_
  refine al_mv ?_
  refine al_o (op_slen_str (ts := #[]) u9 rfl) ?_
  refine al_ad ?_
  refine al_mv ?_
  refine al_o (op_slen_str (ts := #[]) u9 rfl) ?_
  refine al_o (op_leq rfl rfl) ?_
  refine al_mv ?_
  apply al_and 10 30 40 rfl
  ·intro h18; have gh18 := h18
   simp only [nrm] at h18
   refine tk_mv ?_
   refine tk_mv ?_
   refine tk_mv ?_
   refine tk_mv ?_
   refine al_t (op_slen_str (ts := #[]) u9 rfl) ?_
   refine al_t (op_add rfl rfl (by first | exact wrap_i64 (by omega) (by omega))) ?_
   refine al_t (op_cut_str u9 rfl (.of rfl (show _ = ((i : Nat) : Int) from by omega)) (.of rfl (show _ = (((i + (signsL.getD q default).length) : Nat) : Int) from by omega)) (by omega) (by first | omega | (simp; omega))) ?_
   refine tk_mv ?_
   refine al_t (op_seql_str rfl rfl) ?_
   refine al_pk ?_
   exact al_nk gh18
  ·intro h18; have gh18 := h18
   simp only [nrm] at h18
   iterate 9 refine al_ps ?_
   refine al_pk ?_
   exact al_nk gh18
  refine al_nil ?_
  refine aw_cond rfl (fun h19 => ?_) (fun h19 => ?_)
  ·have gh19 := h19
   simp only [nrm] at h19
   refine aw_sr ?_
   refine al_mv ?_
   refine al_o (op_bs u65 info65 place65) ?_
   refine al_mv ?_
   refine al_o (op_slen_str (ts := #[]) u9 rfl) ?_
   refine al_sp info65 ?_
   refine al_gs ?_
   refine al_nil ?_
   refine aw_ret ?_
   refine ⟨_, res_cell_tmp rfl u65 info65 rfl rfl rfl rfl rfl rfl rfl, ?_⟩
   exact ⟨(by rw [tokCells, tok_last gh3 gh5 gh8 gh11 gh15, find_step (p := fun x => x.isPrefixOf (s.drop i)) (by omega) hinv.2 (by rw [sign_cond (by omega)] at gh19; exact gh19)]; rfl), rfl⟩
  have gh19 := h19
  refine aw_skip ?_
  refine aw_region ?_
  refine al_ad ?_
  refine al_mv ?_
  refine al_nil ?_
  refine ⟨q + 1, ?_, ?_, ?_, ?_, ?_⟩
  ·omega
  ·exact ⟨by omega, find_more (p := fun x => x.isPrefixOf (s.drop i)) (l := signsL) hinv.2 (by rw [sign_cond (by omega)] at gh19; exact gh19)⟩
  ·refine sub_1 ?_
   all_goals (first | rfl | simp)
  ·exact sbl
  ·rfl
 have gh17 := h17
 simp only [nrm] at h17
 refine aw_exit ?_
 obtain rfl : q = signsL.length := by omega
 have hall := hinv.2
 refine aw_sr ?_
 refine al_o (op_bs u65 info65 place65) ?_
 refine al_sp info65 ?_
 refine al_gs ?_
 refine al_nil ?_
 refine aw_ret ?_
 refine ⟨_, res_cell_tmp rfl u65 info65 rfl rfl rfl rfl rfl rfl rfl, ?_⟩
 exact ⟨(by rw [tokCells, tok_last gh3 gh5 gh8 gh11 gh15, find_none (p := fun x => x.isPrefixOf (s.drop i)) hall]; rfl), rfl⟩
theorem r_token (s : Bs) (hs : s.length ≤ 1000000000) (i : Nat) (hi : i < s.length) : ACp Tryz.prog 128 [.v (.string (str (s))), .v (.int .i64 ((i : Nat) : Int))] (.tuple [.agg (tokCells (s.drop i)), .v (.int .i64 (((tokA (s.drop i)).2.2.2 : Nat) : Int))]) :=
  acp_of rfl (ac_mono (ac_keep (fun _ => false) (q_rtoken s hs i hi)) (by rintro x σ1 ⟨σ2, ⟨rfl, e⟩, rfl⟩; exact ⟨rfl, e⟩))
theorem q_rMost (s : Bs) (hs : s.length ≤ 1000000000) : AC Tryz.prog 76 [.v (.string (str (s)))] ([]) (fun r σ' => ∃ a, r = .ret a ∧ FrzT σ' (fun _ => false) a (.tuple [.list 5 ((lex s).1.map encK), .agg (encF (lex s).2)])) := by
 refine ace 55 Tryz.func76 ?_
 refine aw_sr ?_
 refine al_gs ?_
 refine al_al 3 info40 fun ver3 => ?_
 refine al_sr ?_
 refine al_gs ?_
 refine al_nil ?_
 refine aw_seq ?_
 refine aw_sr ?_
 refine al_mv ?_
 refine al_callp into127 rfl rfl rfl (r_next s hs 0 (Nat.zero_le _) _) (by simp) ?_
 refine al_gs ?_
 refine al_nil ?_
 refine aw_block ?_
 refine aw_own_map encK 4 5 4 rfl rfl (fun ver4 => ?_)
 refine aw_for3T (α := Nat) (β := List Tk) (γ := Nat) [2, 4, 5] [6] (fun i acc ver => s.length - i) (fun i acc ver => (i ≤ s.length ∧ nextAt s i = i) ∧ acc.length ≤ i ∧ lex s = (acc ++ (lexFrom s i).1, (lexFrom s i).2)) (fun i acc ver => ([(4, .slice 4 ver 0 acc.length), (5, .v (.int .i64 ((i : Nat) : Int)))] : Env)) (fun i acc ver st => ([(3, ver3, .row 4 [encF okF]), (4, ver, .row 5 (acc.map encK))] : Store)) (nextAt s 0) ([]) (ver4) ?_ ?_ ?_ (fun i acc ver hinv => ?_)
 ·exact ⟨⟨(nextAt_le s 0 (Nat.zero_le _)).2, next_idem s 0⟩, Nat.zero_le _, lex_start s⟩
 ·refine sub_2 ?_ ?_
  all_goals (first | rfl | simp)
 ·rfl
 obtain ⟨⟨hi, hni⟩, hac, hlx⟩ := hinv
 refine aw_seq ?_
 refine aw_sr ?_
 refine al_mv ?_
 refine al_mv ?_
 refine al_o (op_slen_str (ts := #[]) u9 rfl) ?_
 refine al_ls ?_
 refine al_nil ?_
 refine aw_cond rfl (fun h1 => ?_) (fun h1 => ?_)
 ·have gh1 := h1
  simp only [nrm] at h1
  refine aw_skip ?_
  refine aw_seq ?_
  refine aw_block ?_
  refine aw_sr ?_
  refine al_mv ?_
  refine al_mv ?_
  refine al_callp into128 rfl rfl rfl (r_token s hs i (by omega) _) (by simp) ?_
  refine al_mv ?_
  refine al_xt ?_
  refine al_xt ?_
  refine al_al 6 info65 fun ver6 => ?_
  refine al_sp info65 ?_
  refine al_gs ?_
  refine al_sr ?_
  refine al_mv ?_
  refine al_mv ?_
  refine al_callp into129 rfl rfl rfl (r_place s hs i (by omega) _) (by simp) ?_
  refine al_mv ?_
  refine al_xt ?_
  refine al_xt ?_
  refine al_gs ?_
  refine al_gs ?_
  refine al_nil ?_
  refine aw_seq ?_
  refine aw_sr ?_
  refine al_mv ?_
  refine al_eq ?_
  refine al_nil ?_
  refine aw_cond rfl (fun h2 => ?_) (fun h2 => ?_)
  ·have gh2 := h2
   simp only [nrm] at h2
   refine aw_seq ?_
   refine aw_any (Checked.mixed Tryz.checked) ?_
   apply aany_seg (p := 0) (q := 10) (by kernel_rfl) rfl (by decide)
   ·
    apply ql_plain rfl (op_move rfl)
    apply ql_plain rfl (op_move rfl)
    apply ql_plain rfl (op_move rfl)
    apply ql_plain rfl (op_move rfl)
    apply ql_plain rfl (op_add rfl rfl (by first | exact wrap_i64 (by omega) (by omega)))
    apply ql_plain rfl (op_cut_str u9 rfl (.of rfl (show _ = ((i : Nat) : Int) from by omega)) (.of rfl (show _ = (((i + 1) : Nat) : Int) from by omega)) (by omega) (by first | omega | (simp; omega)))
    apply ql_plain rfl (op_move rfl)
    apply ql_plain rfl (op_move rfl)
    apply ql_plain rfl (op_bs u40 info40 place40)
    apply ql_plain rfl (op_assign rfl)
    exact ql_nil
   ·simp
   refine aany_op (by kernel_rfl) rfl rfl (op_sp info40) (by simp) ?_
   refine aany_end rfl (by kernel_rfl) ?_
   refine aw_ret ?_
   refine ⟨_, res_tmp_cell rfl rfl u40 info40 rfl rfl rfl rfl rfl rfl, ?_⟩
   rw [most_bad hlx (round_bad (by omega) hni gh2), badF_cut]; exact ⟨_, rfl, .tuple _ _ (frz3_cons (.leaf _ _ (frz_whole rfl rfl (List.length_map _).symm (clo_map (fun _ => rfl)))) (frz3_cons (.leaf _ _ (.same _)) frz3_nil))⟩
  have gh2 := h2
  simp only [nrm] at h2
  refine aw_skip ?_
  refine aw_seq ?_
  obtain ⟨ht1, ht2, ht3⟩ := tokA_some gh2
  rw [List.length_drop] at ht3
  refine aw_region ?_
  refine al_mv ?_
  refine al_mv ?_
  refine al_fp u65 info3 ?_
  refine al_sp info3 ?_
  refine al_fp u65 info3 ?_
  refine al_sp info3 ?_
  refine al_sr ?_
  refine al_mv ?_
  refine al_ld u65 info65 ?_
  refine al_o (op_buildSlice u22 info65 rfl rfl (by decide) rfl (by decide) rfl (by first | rfl | (repeat (first | exact parts_nil | refine parts_cons rfl (by repeat (first | exact all_live_nil | refine all_live_clo rfl ?_ | refine all_live_slice rfl ?_ | refine all_live_map rfl ?_ | refine all_live_ptr rfl ?_)) ?_))) rfl rfl rfl) ?_
  (refine al_opR (op_append_one (mkTk s i) u22 u22 rfl info65 rfl rfl (by decide) rfl rfl rfl (by first | rfl | simp) rfl rfl (by first | omega | (simp; done) | (simp; omega)) (by show _ * 48 ≤ _; first | omega | (simp; done) | (simp; omega))) rfl (by simp) ?_; rintro _ _ ⟨ver49, rfl, rfl⟩)
  refine al_gs ?_
  refine al_nil ?_
  refine aw_region ?_
  refine al_mv ?_
  refine al_mv ?_
  refine al_ad ?_
  refine al_gs ?_
  refine al_nil ?_
  refine aw_region ?_
  refine al_mv ?_
  refine al_mv ?_
  refine al_callp into127 rfl rfl rfl (r_next s hs (i + (tokA (s.drop i)).2.2.2) (by omega) _) (by simp) ?_
  refine al_gs ?_
  refine al_nil ?_
  refine ⟨(nextAt s (i + (tokA (s.drop i)).2.2.2)), acc ++ [mkTk s i], ver49, ?_, ?_, ?_, ?_, ?_⟩
  ·(have hnl := nextAt_le s (i + (tokA (s.drop i)).2.2.2) (by omega)); omega
  ·exact ⟨⟨(nextAt_le s _ (by omega)).2, next_idem s _⟩, by have hnl := nextAt_le s (i + (tokA (s.drop i)).2.2.2) (by omega); rw [List.length_append, List.length_singleton]; omega, lex_more hlx (round_ok (by omega) hni gh2)⟩
  ·refine sub_2 ?_ ?_
   all_goals (first | rfl | simp)
  ·exact sbl
  ·rfl
 have gh1 := h1
 simp only [nrm] at h1
 refine aw_exit ?_
 skip
 refine aw_sr ?_
 refine al_mv ?_
 refine al_o (op_bs u40 info40 place40) ?_
 refine al_gs ?_
 refine al_sp info40 ?_
 refine al_nil ?_
 refine aw_ret ?_
 refine ⟨_, res_tmp_cell rfl rfl u40 info40 rfl rfl rfl rfl rfl rfl, ?_⟩
 rw [most_ok hlx hi (by omega)]; exact ⟨_, rfl, .tuple _ _ (frz3_cons (.leaf _ _ (frz_whole rfl rfl (List.length_map _).symm (clo_map (fun _ => rfl)))) (frz3_cons (.leaf _ _ (.same _)) frz3_nil))⟩
theorem r_Most (s : Bs) (hs : s.length ≤ 1000000000) : ACp Tryz.prog 76 [.v (.string (str (s)))] (.tuple [.list 5 ((lex s).1.map encK), .agg (encF (lex s).2)]) :=
  acp_of (lex_clo s) (ac_frz (fun _ => false) (q_rMost s hs) (by rintro x σ1 ⟨a, rfl, h⟩; exact ⟨a, _, rfl, h, rfl, keep_nothing _⟩))
theorem q_rLex (s : Bs) (hs : s.length ≤ 1000000000) : AC Tryz.prog 37 [.v (.string (str (s)))] ([]) (fun r σ' => ∃ a, r = .ret a ∧ FrzT σ' (fun _ => false) a (.tuple [.list 5 ((lexP s).1.map encK), .agg (encF (lexP s).2)])) := by
 refine ace 21 Tryz.func37 ?_
 refine aw_sr ?_
 refine al_gs ?_
 refine al_al 3 info40 fun ver3 => ?_
 refine al_nil ?_
 refine aw_seq ?_
 refine aw_sr ?_
 refine al_mv ?_
 refine al_o (op_slen_str (ts := #[]) u9 rfl) ?_
 refine al_o (op_gtr rfl rfl) ?_
 refine al_nil ?_
 refine aw_cond rfl (fun h1 => ?_) (fun h1 => ?_)
 ·have gh1 := h1
  simp only [nrm] at h1
  refine aw_sr ?_
  refine al_o (op_bs u40 info40 place40) ?_
  refine al_gs ?_
  refine al_sp info40 ?_
  refine al_nil ?_
  refine aw_ret ?_
  refine ⟨_, res_tmp_cell rfl rfl u40 info40 rfl rfl rfl rfl rfl rfl, ?_⟩
  rw [lexP_long gh1]; exact ⟨_, rfl, .tuple _ _ (frz3_cons (.leaf _ _ (.vnil 5)) (frz3_cons (.leaf _ _ (.same _)) frz3_nil))⟩
 have gh1 := h1
 simp only [nrm] at h1
 refine aw_skip ?_
 refine aw_sr ?_
 refine al_mv ?_
 refine al_callp into76 rfl rfl rfl ((r_Most _ (by first | assumption | omega | (simp; done) | (simp; omega) | decide)) _) (by simp) ?_
 refine al_mv ?_
 refine al_xt ?_
 refine al_xt ?_
 refine al_al 5 info40 fun ver5 => ?_
 refine al_gs ?_
 refine al_sp info40 ?_
 refine al_nil ?_
 refine aw_seq ?_
 refine aw_sr ?_
 refine al_fp u40 info38 ?_
 refine al_ld u38 info38 ?_
 refine al_o (op_neq rfl rfl) ?_
 refine al_nil ?_
 refine aw_cond rfl (fun h2 => ?_) (fun h2 => ?_)
 ·have gh2 := h2
  simp only [nrm] at h2
  refine aw_seq ?_
  refine aw_any (Checked.mixed Tryz.checked) ?_
  apply aany_seg (p := 0) (q := 2) (by kernel_rfl) rfl (by decide)
  ·
   apply ql_plain rfl (op_load_ptr u40 info40 rfl rfl rfl rfl)
   apply ql_plain rfl (op_assign rfl)
   exact ql_nil
  ·simp
  refine aany_op (by kernel_rfl) rfl rfl (op_sp info40) (by simp) ?_
  refine aany_end rfl (by kernel_rfl) ?_
  refine aw_ret ?_
  refine ⟨_, res_tmp_cell rfl rfl u40 info40 rfl rfl rfl rfl rfl rfl, ?_⟩
  rw [lexP_no gh1 gh2]; exact ⟨_, rfl, .tuple _ _ (frz3_cons (.leaf _ _ (.vnil 5)) (frz3_cons (.leaf _ _ (.same _)) frz3_nil))⟩
 have gh2 := h2
 simp only [nrm] at h2
 refine aw_skip ?_
 refine aw_seq ?_
 refine aw_any (Checked.mixed Tryz.checked) ?_
 apply aany_seg (p := 0) (q := 3) (by kernel_rfl) rfl (by decide)
 ·
  apply ql_plain rfl (op_move rfl)
  apply ql_plain rfl (op_load_ptr u40 info40 rfl rfl rfl rfl)
  apply ql_plain rfl (op_assign rfl)
  exact ql_nil
 ·simp
 refine aany_op (by kernel_rfl) rfl rfl (op_sp info40) (by simp) ?_
 refine aany_end rfl (by kernel_rfl) ?_
 refine aw_ret ?_
 refine ⟨_, res_tmp_cell rfl rfl u40 info40 rfl rfl rfl rfl rfl rfl, ?_⟩
 rw [lexP_yes gh1 gh2]; exact ⟨_, rfl, .tuple _ _ (frz3_cons (.leaf _ _ (.same _)) (frz3_cons (.leaf _ _ (.same _)) frz3_nil))⟩
theorem r_Lex (s : Bs) (hs : s.length ≤ 1000000000) : ACp Tryz.prog 37 [.v (.string (str (s)))] (.tuple [.list 5 ((lexP s).1.map encK), .agg (encF (lexP s).2)]) :=
  acp_of (lexP_clo s) (ac_frz (fun _ => false) (q_rLex s hs) (by rintro x σ1 ⟨a, rfl, h⟩; exact ⟨a, _, rfl, h, rfl, keep_nothing _⟩))
end Go.Proofs.YtcgdlhkiecommaaGreatDoor
