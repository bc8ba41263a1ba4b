import Derived.Test.YtcgdlhkiecommaaGreatDoorLRef

import Derived.Test.YtcgdlhkiecommaaGreatDoorXSame2
import Derived.Test.YtcgdlhkiecommaaGreatDoorFacts
import Derived.Test.YtcgdlhkiecommaaGreatDoorEngNest

import Derived.Test.YtcgdlhkiecommaaGreatDoorXWr


/- Printed walks (gen.py, lexer_ann.py): part 303. -/





set_option linter.unusedVariables false
set_option linter.unusedSimpArgs false
set_option maxRecDepth 20000
set_option maxHeartbeats 40000000
namespace Go.Proofs.YtcgdlhkiecommaaGreatDoor
open Go
theorem c_letter (c : UInt8) : ACp Tryz.prog 118 [.v (.int .u8 ((c).toNat : Int))] (.v (.bool (isLetterC c))) := by
 refine acp_of rfl ?_
 refine ace 17 Tryz.func118 ?_
 refine aw_sr ?_
 refine al_gs ?_
 refine al_sr ?_
 refine al_mv ?_
 refine al_o (op_geq rfl rfl) ?_
 refine al_mv ?_
 apply al_and 3 5 8 rfl
 ·intro h1; have gh1 := h1
  simp only [nrm] at h1
  refine tk_mv ?_
  refine al_t (op_leq rfl rfl) ?_
  refine al_pk ?_
  exact al_nk gh1
 ·intro h1; have gh1 := h1
  simp only [nrm] at h1
  iterate 2 refine al_ps ?_
  refine al_pk ?_
  exact al_nk gh1
 refine al_mv ?_
 apply al_or 7 9 16 rfl
 ·intro h2; have gh2 := h2
  simp only [nrm] at h2
  refine tk_mv ?_
  refine al_t (op_geq rfl rfl) ?_
  refine tk_mv ?_
  apply al_and 3 12 15 rfl
  ·intro h3; have gh3 := h3
   simp only [nrm] at h3
   refine tk_mv ?_
   refine al_t (op_leq rfl rfl) ?_
   refine tk_pk ?_
   exact al_nk gh3
  ·intro h3; have gh3 := h3
   simp only [nrm] at h3
   iterate 2 refine al_ps ?_
   refine tk_pk ?_
   exact al_nk gh3
  refine al_pk ?_
  exact al_nk gh2
 ·intro h2; have gh2 := h2
  simp only [nrm] at h2
  iterate 3 refine al_ps ?_
  refine al_pu ?_
  refine al_pu ?_
  refine al_ps ?_
  refine al_pk ?_
  exact al_nk gh2
 refine al_gs ?_
 refine al_nil ?_
 refine fz1 (t := 2) ?_
 refine aw_ret ?_
 refine ⟨_, res_1 rfl rfl, ?_, rfl⟩
 first | rfl | simp_all
theorem c_digit (c : UInt8) : ACp Tryz.prog 168 [.v (.int .u8 ((c).toNat : Int))] (.v (.bool (isDigitC c))) := by
 refine acp_of rfl ?_
 refine ace 9 Tryz.func168 ?_
 refine aw_sr ?_
 refine al_gs ?_
 refine al_sr ?_
 refine al_mv ?_
 refine al_o (op_geq rfl rfl) ?_
 refine al_mv ?_
 apply al_and 3 5 8 rfl
 ·intro h1; have gh1 := h1
  simp only [nrm] at h1
  refine tk_mv ?_
  refine al_t (op_leq rfl rfl) ?_
  refine al_pk ?_
  exact al_nk gh1
 ·intro h1; have gh1 := h1
  simp only [nrm] at h1
  iterate 2 refine al_ps ?_
  refine al_pk ?_
  exact al_nk gh1
 refine al_gs ?_
 refine al_nil ?_
 refine fz1 (t := 2) ?_
 refine aw_ret ?_
 refine ⟨_, res_1 rfl rfl, ?_, rfl⟩
 first | rfl | simp_all
theorem c_part (c : UInt8) : ACp Tryz.prog 120 [.v (.int .u8 ((c).toNat : Int))] (.v (.bool (isPartC c))) := by
 refine acp_of rfl ?_
 refine ace 13 Tryz.func120 ?_
 refine aw_sr ?_
 refine al_gs ?_
 refine al_sr ?_
 refine al_mv ?_
 refine al_callp into118 rfl rfl rfl ((c_letter _) _) (by simp) ?_
 refine al_mv ?_
 apply al_or 3 5 8 rfl
 ·intro gh1
  refine tk_mv ?_
  refine al_callp_take into168 rfl rfl rfl rfl rfl rfl ((c_digit _) _) (by simp) ?_
  refine al_pk ?_
  exact al_nk gh1
 ·intro gh1
  iterate 2 refine al_ps ?_
  refine al_pk ?_
  exact al_nk gh1
 refine al_mv ?_
 apply al_or 3 9 12 rfl
 ·intro h2; have gh2 := h2
  simp only [nrm] at h2
  refine tk_mv ?_
  refine tk_eq ?_
  refine al_pk ?_
  exact al_nk gh2
 ·intro h2; have gh2 := h2
  simp only [nrm] at h2
  iterate 2 refine al_ps ?_
  refine al_pk ?_
  exact al_nk gh2
 refine al_gs ?_
 refine al_nil ?_
 refine fz1 (t := 2) ?_
 refine aw_ret ?_
 refine ⟨_, res_1 rfl rfl, ?_, rfl⟩
 first | rfl | simp_all
theorem c_plain (c : UInt8) : ACp Tryz.prog 185 [.v (.int .u8 ((c).toNat : Int))] (.v (.bool (isPlainC c))) := by
 refine acp_of rfl ?_
 refine ace 13 Tryz.func185 ?_
 refine aw_sr ?_
 refine al_gs ?_
 refine al_sr ?_
 refine al_mv ?_
 refine al_o (op_geq rfl rfl) ?_
 refine al_mv ?_
 apply al_and 3 5 8 rfl
 ·intro h1; have gh1 := h1
  simp only [nrm] at h1
  refine tk_mv ?_
  refine al_t (op_leq rfl rfl) ?_
  refine al_pk ?_
  exact al_nk gh1
 ·intro h1; have gh1 := h1
  simp only [nrm] at h1
  iterate 2 refine al_ps ?_
  refine al_pk ?_
  exact al_nk gh1
 refine al_mv ?_
 apply al_and 3 9 12 rfl
 ·intro h2; have gh2 := h2
  simp only [nrm] at h2
  refine tk_mv ?_
  refine al_t (op_neq rfl rfl) ?_
  refine al_pk ?_
  exact al_nk gh2
 ·intro h2; have gh2 := h2
  simp only [nrm] at h2
  iterate 2 refine al_ps ?_
  refine al_pk ?_
  exact al_nk gh2
 refine al_gs ?_
 refine al_nil ?_
 refine fz1 (t := 2) ?_
 refine aw_ret ?_
 refine ⟨_, res_1 rfl rfl, ?_, rfl⟩
 first | rfl | simp_all
theorem r_letter (c : UInt8) : ACp Tryz.prog 121 [.v (.int .u8 ((c).toNat : Int))] (.v (.bool (isLetterC c))) := by
 refine acp_of rfl ?_
 refine ace 17 Tryz.func121 ?_
 refine aw_sr ?_
 refine al_gs ?_
 refine al_sr ?_
 refine al_mv ?_
 refine al_o (op_geq rfl rfl) ?_
 refine al_mv ?_
 apply al_and 3 5 8 rfl
 ·intro h1; have gh1 := h1
  simp only [nrm] at h1
  refine tk_mv ?_
  refine al_t (op_leq rfl rfl) ?_
  refine al_pk ?_
  exact al_nk gh1
 ·intro h1; have gh1 := h1
  simp only [nrm] at h1
  iterate 2 refine al_ps ?_
  refine al_pk ?_
  exact al_nk gh1
 refine al_mv ?_
 apply al_or 7 9 16 rfl
 ·intro h2; have gh2 := h2
  simp only [nrm] at h2
  refine tk_mv ?_
  refine al_t (op_geq rfl rfl) ?_
  refine tk_mv ?_
  apply al_and 3 12 15 rfl
  ·intro h3; have gh3 := h3
   simp only [nrm] at h3
   refine tk_mv ?_
   refine al_t (op_leq rfl rfl) ?_
   refine tk_pk ?_
   exact al_nk gh3
  ·intro h3; have gh3 := h3
   simp only [nrm] at h3
   iterate 2 refine al_ps ?_
   refine tk_pk ?_
   exact al_nk gh3
  refine al_pk ?_
  exact al_nk gh2
 ·intro h2; have gh2 := h2
  simp only [nrm] at h2
  iterate 3 refine al_ps ?_
  refine al_pu ?_
  refine al_pu ?_
  refine al_ps ?_
  refine al_pk ?_
  exact al_nk gh2
 refine al_gs ?_
 refine al_nil ?_
 refine fz1 (t := 2) ?_
 refine aw_ret ?_
 refine ⟨_, res_1 rfl rfl, ?_, rfl⟩
 first | rfl | simp_all
theorem r_digit (c : UInt8) : ACp Tryz.prog 173 [.v (.int .u8 ((c).toNat : Int))] (.v (.bool (isDigitC c))) := by
 refine acp_of rfl ?_
 refine ace 9 Tryz.func173 ?_
 refine aw_sr ?_
 refine al_gs ?_
 refine al_sr ?_
 refine al_mv ?_
 refine al_o (op_geq rfl rfl) ?_
 refine al_mv ?_
 apply al_and 3 5 8 rfl
 ·intro h1; have gh1 := h1
  simp only [nrm] at h1
  refine tk_mv ?_
  refine al_t (op_leq rfl rfl) ?_
  refine al_pk ?_
  exact al_nk gh1
 ·intro h1; have gh1 := h1
  simp only [nrm] at h1
  iterate 2 refine al_ps ?_
  refine al_pk ?_
  exact al_nk gh1
 refine al_gs ?_
 refine al_nil ?_
 refine fz1 (t := 2) ?_
 refine aw_ret ?_
 refine ⟨_, res_1 rfl rfl, ?_, rfl⟩
 first | rfl | simp_all
theorem r_inner (c : UInt8) : ACp Tryz.prog 194 [.v (.int .u8 ((c).toNat : Int))] (.v (.bool (isPartC c))) := by
 refine acp_of rfl ?_
 refine ace 13 Tryz.func194 ?_
 refine aw_sr ?_
 refine al_gs ?_
 refine al_sr ?_
 refine al_mv ?_
 refine al_callp into121 rfl rfl rfl ((r_letter _) _) (by simp) ?_
 refine al_mv ?_
 apply al_or 3 5 8 rfl
 ·intro gh1
  refine tk_mv ?_
  refine al_callp_take into173 rfl rfl rfl rfl rfl rfl ((r_digit _) _) (by simp) ?_
  refine al_pk ?_
  exact al_nk gh1
 ·intro gh1
  iterate 2 refine al_ps ?_
  refine al_pk ?_
  exact al_nk gh1
 refine al_mv ?_
 apply al_or 3 9 12 rfl
 ·intro h2; have gh2 := h2
  simp only [nrm] at h2
  refine tk_mv ?_
  refine tk_eq ?_
  refine al_pk ?_
  exact al_nk gh2
 ·intro h2; have gh2 := h2
  simp only [nrm] at h2
  iterate 2 refine al_ps ?_
  refine al_pk ?_
  exact al_nk gh2
 refine al_gs ?_
 refine al_nil ?_
 refine fz1 (t := 2) ?_
 refine aw_ret ?_
 refine ⟨_, res_1 rfl rfl, ?_, rfl⟩
 first | rfl | simp_all
theorem r_bit (c : UInt8) : ACp Tryz.prog 132 [.v (.int .u8 ((c).toNat : Int))] (.v (.bool (isBitC c))) := by
 refine acp_of rfl ?_
 refine ace 17 Tryz.func132 ?_
 refine aw_sr ?_
 refine al_gs ?_
 refine al_sr ?_
 refine al_mv ?_
 refine al_eq ?_
 refine al_mv ?_
 apply al_or 3 5 8 rfl
 ·intro h1; have gh1 := h1
  simp only [nrm] at h1
  refine tk_mv ?_
  refine tk_eq ?_
  refine al_pk ?_
  exact al_nk gh1
 ·intro h1; have gh1 := h1
  simp only [nrm] at h1
  iterate 2 refine al_ps ?_
  refine al_pk ?_
  exact al_nk gh1
 refine al_mv ?_
 apply al_or 3 9 12 rfl
 ·intro h2; have gh2 := h2
  simp only [nrm] at h2
  refine tk_mv ?_
  refine tk_eq ?_
  refine al_pk ?_
  exact al_nk gh2
 ·intro h2; have gh2 := h2
  simp only [nrm] at h2
  iterate 2 refine al_ps ?_
  refine al_pk ?_
  exact al_nk gh2
 refine al_mv ?_
 apply al_or 3 13 16 rfl
 ·intro h3; have gh3 := h3
  simp only [nrm] at h3
  refine tk_mv ?_
  refine tk_eq ?_
  refine al_pk ?_
  exact al_nk gh3
 ·intro h3; have gh3 := h3
  simp only [nrm] at h3
  iterate 2 refine al_ps ?_
  refine al_pk ?_
  exact al_nk gh3
 refine al_gs ?_
 refine al_nil ?_
 refine fz1 (t := 2) ?_
 refine aw_ret ?_
 refine ⟨_, res_1 rfl rfl, ?_, rfl⟩
 rw [isBitC_int]
theorem r_plain (c : UInt8) : ACp Tryz.prog 195 [.v (.int .u8 ((c).toNat : Int))] (.v (.bool (isPlainC c))) := by
 refine acp_of rfl ?_
 refine ace 13 Tryz.func195 ?_
 refine aw_sr ?_
 refine al_gs ?_
 refine al_sr ?_
 refine al_mv ?_
 refine al_o (op_geq rfl rfl) ?_
 refine al_mv ?_
 apply al_and 3 5 8 rfl
 ·intro h1; have gh1 := h1
  simp only [nrm] at h1
  refine tk_mv ?_
  refine al_t (op_leq rfl rfl) ?_
  refine al_pk ?_
  exact al_nk gh1
 ·intro h1; have gh1 := h1
  simp only [nrm] at h1
  iterate 2 refine al_ps ?_
  refine al_pk ?_
  exact al_nk gh1
 refine al_mv ?_
 apply al_and 3 9 12 rfl
 ·intro h2; have gh2 := h2
  simp only [nrm] at h2
  refine tk_mv ?_
  refine al_t (op_neq rfl rfl) ?_
  refine al_pk ?_
  exact al_nk gh2
 ·intro h2; have gh2 := h2
  simp only [nrm] at h2
  iterate 2 refine al_ps ?_
  refine al_pk ?_
  exact al_nk gh2
 refine al_gs ?_
 refine al_nil ?_
 refine fz1 (t := 2) ?_
 refine aw_ret ?_
 refine ⟨_, res_1 rfl rfl, ?_, rfl⟩
 first | rfl | simp_all
theorem r_of (c : UInt8) (k : Int) : ACp Tryz.prog 169 [.v (.int .u8 ((c).toNat : Int)), .v (.int .i64 (k))] (.v (.bool (ofK c k))) := by
 refine acp_of rfl ?_
 refine ace 24 Tryz.func169 ?_
 refine aw_sr ?_
 refine al_gs ?_
 refine al_nil ?_
 refine aw_seq ?_
 refine aw_sr ?_
 refine al_mv ?_
 refine al_nil ?_
 refine aw_block ?_
 refine aw_sr ?_
 refine al_eq ?_
 refine al_gs ?_
 refine al_nil ?_
 refine aw_cond rfl (fun h1 => ?_) (fun h1 => ?_)
 ·have gh1 := h1
  simp only [nrm] at h1
  refine aw_sr ?_
  refine al_mv ?_
  refine al_callp into173 rfl rfl rfl ((r_digit _) _) (by simp) ?_
  refine al_gs ?_
  refine al_nil ?_
  refine fz1 (t := 4) ?_
  refine aw_ret ?_
  refine ⟨_, res_1 rfl rfl, ?_, rfl⟩
  rw [ofK, gh1]; rfl
 have gh1 := h1
 simp only [nrm] at h1
 refine aw_sr ?_
 refine al_eq ?_
 refine al_gs ?_
 refine al_nil ?_
 refine aw_cond rfl (fun h2 => ?_) (fun h2 => ?_)
 ·have gh2 := h2
  simp only [nrm] at h2
  refine aw_sr ?_
  refine al_mv ?_
  refine al_callp into194 rfl rfl rfl ((r_inner _) _) (by simp) ?_
  refine al_gs ?_
  refine al_nil ?_
  refine fz1 (t := 4) ?_
  refine aw_ret ?_
  refine ⟨_, res_1 rfl rfl, ?_, rfl⟩
  rw [ofK, gh1, gh2]; rfl
 have gh2 := h2
 simp only [nrm] at h2
 refine aw_sr ?_
 refine al_eq ?_
 refine al_gs ?_
 refine al_nil ?_
 refine aw_cond rfl (fun h3 => ?_) (fun h3 => ?_)
 ·have gh3 := h3
  simp only [nrm] at h3
  refine aw_sr ?_
  refine al_mv ?_
  refine al_callp into132 rfl rfl rfl ((r_bit _) _) (by simp) ?_
  refine al_gs ?_
  refine al_nil ?_
  refine fz1 (t := 4) ?_
  refine aw_ret ?_
  refine ⟨_, res_1 rfl rfl, ?_, rfl⟩
  rw [ofK, gh1, gh2, gh3]; rfl
 have gh3 := h3
 simp only [nrm] at h3
 refine aw_sr ?_
 refine al_eq ?_
 refine al_gs ?_
 refine al_nil ?_
 refine aw_cond rfl (fun h4 => ?_) (fun h4 => ?_)
 ·have gh4 := h4
  simp only [nrm] at h4
  refine aw_sr ?_
  refine al_mv ?_
  refine al_callp into195 rfl rfl rfl ((r_plain _) _) (by simp) ?_
  refine al_gs ?_
  refine al_nil ?_
  refine fz1 (t := 4) ?_
  refine aw_ret ?_
  refine ⟨_, res_1 rfl rfl, ?_, rfl⟩
  rw [ofK, gh1, gh2, gh3, gh4]; rfl
 have gh4 := h4
 simp only [nrm] at h4
 refine aw_skip ?_
 refine aw_sr ?_
 refine al_mv ?_
 refine al_o (op_neq rfl rfl) ?_
 refine al_gs ?_
 refine al_nil ?_
 refine fz1 (t := 4) ?_
 refine aw_ret ?_
 refine ⟨_, res_1 rfl rfl, ?_, rfl⟩
 rw [ofK, gh1, gh2, gh3, gh4]; rfl
theorem c_runpart (s : Bs) (hs : s.length ≤ 140737488355328) : ACp Tryz.prog 184 [.v (.string (str (s))), .v (.func (.func 120) #[] #[])] (.v (.string (str ((s.takeWhile isPartC))))) := by
 refine acp_of rfl ?_
 refine ace 22 Tryz.func184 ?_
 refine aw_sr ?_
 refine al_gs ?_
 refine al_sr ?_
 refine al_gs ?_
 refine al_nil ?_
 refine aw_seq ?_
 refine aw_block ?_
 refine aw_forT (ι := Nat) [5] [] (fun i => s.length - i) (fun i => i ≤ s.length ∧ ∀ k, k < i → isPartC (s.getD k default) = true) (fun i => ([(5, .v (.int .i64 (i)))] : Env)) (fun i s => s) (0) ?_ ?_ ?_ (fun i hinv => ?_)
 ·exact ⟨Nat.zero_le _, fun k hk => absurd hk (Nat.not_lt_zero k)⟩
 ·refine sub_1 ?_
  all_goals (first | rfl | simp)
 ·rfl
 have hi := hinv.1
 refine aw_seq ?_
 refine aw_sr ?_
 refine al_mv ?_
 refine al_mv ?_
 refine al_o (op_slen_str (ts := #[]) u9 rfl) ?_
 refine al_ls ?_
 refine al_mv ?_
 apply al_and 6 10 16 rfl
 ·intro h1; have gh1 := h1
  simp only [nrm] at h1
  refine tk_mv ?_
  refine tk_mv ?_
  refine tk_mv ?_
  refine al_t (op_sidx_str u9 rfl rfl (by first | (with_reducible exact Int.toNat_natCast _) | rfl) (by omega) (by first | omega | (simp; omega))) ?_
  refine al_callp_take into120 rfl rfl rfl rfl rfl rfl ((c_part _) _) (by simp) ?_
  refine al_pk ?_
  exact al_nk gh1
 ·intro h1; have gh1 := h1
  simp only [nrm] at h1
  iterate 5 refine al_ps ?_
  refine al_pk ?_
  exact al_nk gh1
 refine al_nil ?_
 refine aw_cond rfl (fun h2 => ?_) (fun h2 => ?_)
 ·have gh2 := h2
  simp only [nrm] at h2
  refine aw_skip ?_
  refine aw_block ?_
  refine aw_region ?_
  refine al_mv ?_
  refine al_ad ?_
  refine al_gs ?_
  refine al_nil ?_
  refine ⟨i + 1, ?_, ?_, ?_, ?_, ?_⟩
  ·omega
  ·exact ⟨by omega, run_step (p := isPartC) (s := s) hinv.2 h2.2⟩
  ·refine sub_1 ?_
   all_goals (first | rfl | simp)
  ·exact sbl
  ·rfl
 have gh2 := h2
 refine aw_exit ?_
 have hrun := run_take (p := isPartC) (s := s) hinv.2 hinv.1 (by rcases Bool.and_eq_false_iff.1 gh2 with e | e; exact .inl (by have := of_decide_eq_false e; omega); exact .inr e)
 refine aw_sr ?_
 refine al_mv ?_
 refine al_mv ?_
 refine al_o (op_cut_to u9 rfl (by first | exact .of rfl rfl | exact OptI.ofN rfl (by omega)) (by first | omega | (simp; omega))) ?_
 refine al_gs ?_
 refine al_nil ?_
 refine fz1 (t := 4) ?_
 refine aw_ret ?_
 refine ⟨_, res_1 rfl rfl, ?_, rfl⟩
 rw [hrun]
theorem c_runplain (s : Bs) (hs : s.length ≤ 140737488355328) : ACp Tryz.prog 184 [.v (.string (str (s))), .v (.func (.func 185) #[] #[])] (.v (.string (str ((s.takeWhile isPlainC))))) := by
 refine acp_of rfl ?_
 refine ace 22 Tryz.func184 ?_
 refine aw_sr ?_
 refine al_gs ?_
 refine al_sr ?_
 refine al_gs ?_
 refine al_nil ?_
 refine aw_seq ?_
 refine aw_block ?_
 refine aw_forT (ι := Nat) [5] [] (fun i => s.length - i) (fun i => i ≤ s.length ∧ ∀ k, k < i → isPlainC (s.getD k default) = true) (fun i => ([(5, .v (.int .i64 (i)))] : Env)) (fun i s => s) (0) ?_ ?_ ?_ (fun i hinv => ?_)
 ·exact ⟨Nat.zero_le _, fun k hk => absurd hk (Nat.not_lt_zero k)⟩
 ·refine sub_1 ?_
  all_goals (first | rfl | simp)
 ·rfl
 have hi := hinv.1
 refine aw_seq ?_
 refine aw_sr ?_
 refine al_mv ?_
 refine al_mv ?_
 refine al_o (op_slen_str (ts := #[]) u9 rfl) ?_
 refine al_ls ?_
 refine al_mv ?_
 apply al_and 6 10 16 rfl
 ·intro h1; have gh1 := h1
  simp only [nrm] at h1
  refine tk_mv ?_
  refine tk_mv ?_
  refine tk_mv ?_
  refine al_t (op_sidx_str u9 rfl rfl (by first | (with_reducible exact Int.toNat_natCast _) | rfl) (by omega) (by first | omega | (simp; omega))) ?_
  refine al_callp_take into185 rfl rfl rfl rfl rfl rfl ((c_plain _) _) (by simp) ?_
  refine al_pk ?_
  exact al_nk gh1
 ·intro h1; have gh1 := h1
  simp only [nrm] at h1
  iterate 5 refine al_ps ?_
  refine al_pk ?_
  exact al_nk gh1
 refine al_nil ?_
 refine aw_cond rfl (fun h2 => ?_) (fun h2 => ?_)
 ·have gh2 := h2
  simp only [nrm] at h2
  refine aw_skip ?_
  refine aw_block ?_
  refine aw_region ?_
  refine al_mv ?_
  refine al_ad ?_
  refine al_gs ?_
  refine al_nil ?_
  refine ⟨i + 1, ?_, ?_, ?_, ?_, ?_⟩
  ·omega
  ·exact ⟨by omega, run_step (p := isPlainC) (s := s) hinv.2 h2.2⟩
  ·refine sub_1 ?_
   all_goals (first | rfl | simp)
  ·exact sbl
  ·rfl
 have gh2 := h2
 refine aw_exit ?_
 have hrun := run_take (p := isPlainC) (s := s) hinv.2 hinv.1 (by rcases Bool.and_eq_false_iff.1 gh2 with e | e; exact .inl (by have := of_decide_eq_false e; omega); exact .inr e)
 refine aw_sr ?_
 refine al_mv ?_
 refine al_mv ?_
 refine al_o (op_cut_to u9 rfl (by first | exact .of rfl rfl | exact OptI.ofN rfl (by omega)) (by first | omega | (simp; omega))) ?_
 refine al_gs ?_
 refine al_nil ?_
 refine fz1 (t := 4) ?_
 refine aw_ret ?_
 refine ⟨_, res_1 rfl rfl, ?_, rfl⟩
 rw [hrun]
theorem r_run3 (s : Bs) (hs : s.length ≤ 140737488355328) (i : Nat) (hi : i ≤ s.length) (k : Int) : ACp Tryz.prog 122 [.v (.string (str (s))), .v (.int .i64 ((i : Nat) : Int)), .v (.int .i64 (k))] (.v (.int .i64 ((((s.drop i).takeWhile (ofK · k)).length : Nat) : Int))) := by
 refine acp_of rfl ?_
 refine ace 26 Tryz.func122 ?_
 refine aw_sr ?_
 refine al_gs ?_
 refine al_sr ?_
 refine al_gs ?_
 refine al_nil ?_
 refine aw_seq ?_
 refine aw_block ?_
 refine aw_forT (ι := Nat) [7] [] (fun j => s.length - j) (fun j => i + j ≤ s.length ∧ ∀ q, q < j → ofK ((s.drop i).getD q default) k = true) (fun j => ([(7, .v (.int .i64 (j)))] : Env)) (fun j s => s) (0) ?_ ?_ ?_ (fun j hinv => ?_)
 ·exact ⟨hi, fun q hq => absurd hq (Nat.not_lt_zero q)⟩
 ·refine sub_1 ?_
  all_goals (first | rfl | simp)
 ·rfl
 have hi2 := hinv.1
 refine aw_seq ?_
 refine aw_sr ?_
 refine al_mv ?_
 refine al_mv ?_
 refine al_ad ?_
 refine al_mv ?_
 refine al_o (op_slen_str (ts := #[]) u9 rfl) ?_
 refine al_ls ?_
 refine al_mv ?_
 apply al_and 8 14 22 rfl
 ·intro h1; have gh1 := h1
  simp only [nrm] at h1
  refine tk_mv ?_
  refine tk_mv ?_
  refine tk_mv ?_
  refine al_t (op_add rfl rfl (by first | exact wrap_i64 (by omega) (by omega))) ?_
  refine al_t (op_sidx_str u9 rfl rfl (by first | (with_reducible exact Int.toNat_natCast _) | rfl) (by omega) (by first | omega | (simp; omega))) ?_
  refine tk_mv ?_
  refine al_callp_take into169 rfl rfl rfl rfl rfl rfl ((r_of _ _) _) (by simp) ?_
  refine al_pk ?_
  exact al_nk gh1
 ·intro h1; have gh1 := h1
  simp only [nrm] at h1
  iterate 7 refine al_ps ?_
  refine al_pk ?_
  exact al_nk gh1
 refine al_nil ?_
 refine aw_cond rfl (fun h2 => ?_) (fun h2 => ?_)
 ·have gh2 := h2
  simp only [nrm] at h2
  refine aw_skip ?_
  refine aw_block ?_
  refine aw_region ?_
  refine al_mv ?_
  refine al_ad ?_
  refine al_gs ?_
  refine al_nil ?_
  refine ⟨j + 1, ?_, ?_, ?_, ?_, ?_⟩
  ·omega
  ·exact ⟨by omega, run_step (p := fun c => ofK c k) (s := s.drop i) hinv.2 (by have := h2.2; rw [toNat_add2] at this; rw [getD_drop]; exact this)⟩
  ·refine sub_1 ?_
   all_goals (first | rfl | simp)
  ·exact sbl
  ·rfl
 have gh2 := h2
 refine aw_exit ?_
 have hrun := run_take3 (p := fun c => ofK c k) (s := s.drop i) hinv.2 (by rw [List.length_drop]; omega) (by rcases Bool.and_eq_false_iff.1 gh2 with e | e; exact .inl (by have := of_decide_eq_false e; rw [List.length_drop]; omega); exact .inr (by rw [toNat_add2] at e; rw [getD_drop]; exact e))
 refine aw_sr ?_
 refine al_mv ?_
 refine al_gs ?_
 refine al_nil ?_
 refine fz1 (t := 6) ?_
 refine aw_ret ?_
 refine ⟨_, res_1 rfl rfl, ?_, rfl⟩
 rw [← hrun]
theorem q_sindex1 (s : Bs) (c : UInt8) : ACp Tryz.prog 200 [.v (.string (str (s))), .v (.string (str ([c])))] (.v (.int .i64 (Lib.indexByte s c))) := by
 refine acp_of rfl ?_
 refine ace 143 Tryz.func200 ?_
 refine aw_sr ?_
 refine al_gs ?_
 refine al_sr ?_
 refine al_mv ?_
 refine al_o (op_slen_str (ts := #[]) u9 rfl) ?_
 refine al_gs ?_
 refine al_nil ?_
 refine aw_seq ?_
 refine aw_block ?_
 refine aw_sr ?_
 refine al_mv ?_
 refine al_eq ?_
 refine al_mv ?_
 apply al_or 4 19 23 rfl
 ·intro h1; have gh1 := h1
  try simp only [nrm] at h1
  refine tk_mv ?_
  refine tk_mv ?_
  refine al_t (op_seql_str rfl rfl) ?_
  first
    | refine al_op (op_pick rfl rfl) rfl (by simp) ?_
    | refine al_op (op_or rfl rfl rfl) rfl (by simp) ?_
  exact al_nk gh1
 ·intro h1; have gh1 := h1
  try simp only [nrm] at h1
  iterate 3 refine al_ps ?_
  first
    | refine al_op (op_pick rfl rfl) rfl (by simp) ?_
    | refine al_op (op_or rfl rfl rfl) rfl (by simp) ?_
  exact al_nk gh1
 refine al_gs ?_
 refine al_nil ?_
 refine aw_cond rfl (fun h2 => ?_) (fun h2 => ?_)
 ·have gh2 := h2
  try simp only [nrm] at h2
  have gone := gh2
  refine aw_sr ?_
  refine al_gs ?_
  refine al_nil ?_
  refine fz1 (t := 4) ?_
  refine aw_ret ?_
  refine ⟨_, res_1 rfl rfl, ?_, rfl⟩
  rw [index_self gone]
 have gh2 := h2
 try simp only [nrm] at h2
 have gone := gh2
 refine aw_sr ?_
 refine al_mv ?_
 refine al_eq ?_
 refine al_gs ?_
 refine al_nil ?_
 refine aw_cond rfl (fun h3 => ?_) (fun h3 => ?_)
 ·have gh3 := h3
  try simp only [nrm] at h3
  refine aw_sr ?_
  refine al_mv ?_
  refine al_mv ?_
  refine al_o (op_sidx_str u9 rfl rfl (by first | (with_reducible exact Int.toNat_natCast _) | rfl) (by omega) (by first | omega | (simp; omega))) ?_
  first
    | refine al_callp into201 rfl rfl rfl ((q_lindexByte _ _) _) (by simp) ?_
    | refine al_callp into201 rfl rfl rfl (acp_lent (lend_cons (by first | exact lend_same | exact .leaf _ _ (.vnil _) | exact .leaf _ _ (.nil _) | exact lend_whole rfl (by first | rfl | (simp; done) | (simp; omega)) (clo_map (fun _ => rfl))) (lend_cons (by first | exact lend_same | exact .leaf _ _ (.vnil _) | exact .leaf _ _ (.nil _) | exact lend_whole rfl (by first | rfl | (simp; done) | (simp; omega)) (clo_map (fun _ => rfl))) lend_nil)) (q_lindexByte _ _) rfl) (by simp) ?_
  refine al_gs ?_
  refine al_nil ?_
  refine fz1 (t := 4) ?_
  refine aw_ret ?_
  refine ⟨_, res_1 rfl rfl, ?_, rfl⟩
  rfl
 have gh3 := h3
 try simp only [nrm] at h3
 exact absurd gh3 (by simp)
theorem q_index1 (s : Bs) (c : UInt8) : ACp Tryz.prog 182 [.v (.string (str (s))), .v (.string (str ([c])))] (.v (.int .i64 (Lib.indexByte s c))) := by
 refine acp_of rfl ?_
 refine ace 8 Tryz.func182 ?_
 refine aw_sr ?_
 refine al_gs ?_
 refine al_sr ?_
 refine al_mv ?_
 refine al_mv ?_
 refine al_callp into200 rfl rfl rfl (q_sindex1 s c _) (by simp) ?_
 refine al_gs ?_
 refine al_nil ?_
 refine fz1 (t := 4) ?_
 refine aw_ret ?_
 refine ⟨_, res_1 rfl rfl, ?_, rfl⟩
 rfl
theorem q_contains1 (s : Bs) (c : UInt8) : ACp Tryz.prog 152 [.v (.string (str (s))), .v (.string (str ([c])))] (.v (.bool (Lib.contains s [c]))) := by
 refine acp_of rfl ?_
 refine ace 9 Tryz.func152 ?_
 refine aw_sr ?_
 refine al_gs ?_
 refine al_sr ?_
 refine al_mv ?_
 refine al_mv ?_
 refine al_callp into182 rfl rfl rfl (q_index1 s c _) (by simp) ?_
 refine al_o (op_geq rfl rfl) ?_
 refine al_gs ?_
 refine al_nil ?_
 refine fz1 (t := 4) ?_
 refine aw_ret ?_
 refine ⟨_, res_1 rfl rfl, ?_, rfl⟩
 rw [contains_index]
theorem c_isWord (s : Bs) (hs : s.length ≤ 140737488355328) : ACp Tryz.prog 119 [.v (.string (str (s)))] (.v (.bool (isWordL s))) := by
 refine acp_of rfl ?_
 refine ace 16 Tryz.func119 ?_
 refine aw_sr ?_
 refine al_gs ?_
 refine al_sr ?_
 refine al_mv ?_
 refine al_o (op_sneq_str rfl rfl) ?_
 refine al_mv ?_
 apply al_and 4 5 9 rfl
 ·intro h1; have gh1 := h1
  simp only [nrm] at h1
  refine tk_mv ?_
  refine al_callp_take into152 rfl rfl rfl rfl rfl rfl (q_contains1 s 32 _) (by simp) ?_
  refine al_t (op_not rfl) ?_
  refine al_o (op_and rfl rfl rfl) ?_
  exact al_nk gh1
 ·intro h1; have gh1 := h1
  simp only [nrm] at h1
  iterate 3 refine al_ps ?_
  refine al_pk ?_
  exact al_nk gh1
 refine al_mv ?_
 apply al_and 5 10 15 rfl
 ·intro h2; have gh2 := h2
  simp only [nrm] at h2
  refine tk_mv ?_
  refine al_t (op_sadd_str rfl rfl (by first | omega | (simp; omega) | (simp; done) | (simp only [List.length_append, List.length_cons, List.length_nil]; omega))) ?_
  refine al_t (op_sadd_str rfl rfl (by first | omega | (simp; omega) | (simp; done) | (simp only [List.length_append, List.length_cons, List.length_nil]; omega))) ?_
  refine al_callp_take into152 rfl rfl rfl rfl rfl rfl ((q_contains _ _ (by first | assumption | omega | (simp; done) | (simp; omega) | decide)) _) (by simp) ?_
  refine al_pk ?_
  exact al_nk gh2
 ·intro h2; have gh2 := h2
  iterate 4 refine al_ps ?_
  refine al_pk ?_
  exact al_nk gh2
 refine al_gs ?_
 refine al_nil ?_
 refine fz1 (t := 2) ?_
 refine aw_ret ?_
 refine ⟨_, res_1 rfl rfl, ?_, rfl⟩
 rw [← isWord_prog s]; rfl
theorem c_isName (s : Bs) (hs : s.length ≤ 140737488355328) : ACp Tryz.prog 66 [.v (.string (str (s)))] (.v (.bool (isNameL s))) := by
 refine acp_of rfl ?_
 refine ace 32 Tryz.func66 ?_
 refine aw_sr ?_
 refine al_gs ?_
 refine al_nil ?_
 refine aw_seq ?_
 refine aw_sr ?_
 refine al_mv ?_
 refine al_o (op_seql_str rfl rfl) ?_
 refine al_mv ?_
 apply al_or 4 6 10 rfl
 ·intro h1; have gh1 := h1
  simp only [nrm] at h1
  refine tk_mv ?_
  refine al_t (op_slen_str (ts := #[]) u9 rfl) ?_
  refine al_t (op_gtr rfl rfl) ?_
  refine al_pk ?_
  exact al_nk gh1
 ·intro h1; have gh1 := h1
  simp only [nrm] at h1
  iterate 3 refine al_ps ?_
  refine al_pk ?_
  exact al_nk gh1
 refine al_mv ?_
 apply al_or 5 11 16 rfl
 ·intro h2; have gh2 := h2
  simp only [nrm] at h2
  refine tk_mv ?_
  try (have hpos : 0 < s.length := str_pos gh2)
  refine al_t (op_sidx_str u9 rfl rfl (by first | (with_reducible exact Int.toNat_natCast _) | rfl) (by omega) (by first | omega | (simp; omega))) ?_
  refine al_callp_take into118 rfl rfl rfl rfl rfl rfl ((c_letter _) _) (by simp) ?_
  refine al_t (op_not rfl) ?_
  refine al_pk ?_
  exact al_nk gh2
 ·intro h2; have gh2 := h2
  simp only [nrm] at h2
  refine al_ps ?_
  try (have hpos : 0 < s.length := str_pos gh2)
  iterate 3 refine al_ps ?_
  refine al_pk ?_
  exact al_nk gh2
 refine al_mv ?_
 apply al_or 3 17 20 rfl
 ·intro h3; have gh3 := h3
  simp only [nrm] at h3
  refine tk_mv ?_
  refine al_callp_take into119 rfl rfl rfl rfl rfl rfl ((c_isWord _ (by first | assumption | omega | (simp; done) | (simp; omega) | decide)) _) (by simp) ?_
  refine al_pk ?_
  exact al_nk gh3
 ·intro h3; have gh3 := h3
  simp only [nrm] at h3
  iterate 2 refine al_ps ?_
  refine al_pk ?_
  exact al_nk gh3
 refine al_nil ?_
 refine aw_cond rfl (fun h4 => ?_) (fun h4 => ?_)
 ·have gh4 := h4
  simp only [nrm] at h4
  refine aw_sr ?_
  refine al_gs ?_
  refine al_nil ?_
  refine fz1 (t := 2) ?_
  refine aw_ret ?_
  refine ⟨_, res_1 rfl rfl, ?_, rfl⟩
  rw [isName_no gh4]
 have gh4 := h4
 simp only [nrm] at h4
 refine aw_skip ?_
 refine aw_seq ?_
 refine aw_sr ?_
 refine al_mv ?_
 refine al_o (op_slen_str (ts := #[]) u9 rfl) ?_
 refine al_mv ?_
 refine al_nil ?_
 refine aw_block ?_
 refine aw_forT (ι := Nat) [2, 23] [] (fun i => s.length - i) (fun i => i ≤ s.length ∧ ∀ k, k < i → isPartC (s.getD k default) = true) (fun i => ([(23, .v (.int .i64 (i)))] : Env)) (fun i s => s) (0) ?_ ?_ ?_ (fun i hinv => ?_)
 ·exact ⟨Nat.zero_le _, fun k hk => absurd hk (Nat.not_lt_zero k)⟩
 ·refine sub_1 ?_
  all_goals (first | rfl | simp)
 ·rfl
 have hi := hinv.1
 refine aw_sr ?_
 refine al_ls ?_
 refine al_nil ?_
 refine aw_seq ?_
 refine aw_cond rfl (fun h5 => ?_) (fun h5 => ?_)
 ·have gh5 := h5
  simp only [nrm] at h5
  refine aw_skip ?_
  refine aw_seq ?_
  refine aw_block ?_
  refine aw_sr ?_
  refine al_mv ?_
  refine al_gs ?_
  refine al_sr ?_
  refine al_mv ?_
  refine al_mv ?_
  refine al_o (op_sidx_str u9 rfl rfl (by first | (with_reducible exact Int.toNat_natCast _) | rfl) (by omega) (by first | omega | (simp; omega))) ?_
  refine al_callp into120 rfl rfl rfl ((c_part _) _) (by simp) ?_
  refine al_o (op_not rfl) ?_
  refine al_nil ?_
  refine aw_cond rfl (fun h6 => ?_) (fun h6 => ?_)
  ·have gh6 := h6
   simp only [nrm] at h6
   refine aw_sr ?_
   refine al_gs ?_
   refine al_nil ?_
   refine fz1 (t := 2) ?_
   refine aw_ret ?_
   refine ⟨_, res_1 rfl rfl, ?_, rfl⟩
   rw [isName_part i (by omega) (by simpa using gh6)]
  have gh6 := h6
  simp only [nrm] at h6
  refine aw_skip ?_
  refine aw_region ?_
  refine al_ad ?_
  refine al_mv ?_
  refine al_nil ?_
  refine ⟨i + 1, ?_, ?_, ?_, ?_, ?_⟩
  ·omega
  ·exact ⟨by omega, run_step (p := isPartC) (s := s) hinv.2 (by simpa using gh6)⟩
  ·refine sub_1 ?_
   all_goals (first | rfl | simp)
  ·exact sbl
  ·rfl
 have gh5 := h5
 simp only [nrm] at h5
 refine aw_exit ?_
 obtain rfl : i = s.length := by omega
 have hall := hinv.2
 refine aw_sr ?_
 refine al_gs ?_
 refine al_nil ?_
 refine fz1 (t := 2) ?_
 refine aw_ret ?_
 refine ⟨_, res_1 rfl rfl, ?_, rfl⟩
 rw [isName_yes gh4 hall]
end Go.Proofs.YtcgdlhkiecommaaGreatDoor
/- Printed walks (gen.py, lexer_ann.py): part 305. -/



namespace Go.Proofs.YtcgdlhkiecommaaGreatDoor
open Go
theorem c_isText (s : Bs) (hs : s.length ≤ 140737488355328) : ACp Tryz.prog 154 [.v (.string (str (s)))] (.v (.bool (isTextL s))) := by
 refine acp_of rfl ?_
 refine ace 12 Tryz.func154 ?_
 refine aw_sr ?_
 refine al_gs ?_
 refine al_sr ?_
 refine al_mv ?_
 refine al_o (op_slen_str (ts := #[]) u9 rfl) ?_
 refine al_o (op_leq rfl rfl) ?_
 refine al_mv ?_
 apply al_and 5 6 11 rfl
 ·intro h1; have gh1 := h1
  simp only [nrm] at h1
  refine tk_mv ?_
  refine al_callp_take into184 rfl rfl rfl rfl rfl rfl ((c_runplain _ (by first | assumption | omega | (simp; omega))) _) (by simp) ?_
  refine tk_mv ?_
  refine al_t (op_seql_str rfl rfl) ?_
  refine al_pk ?_
  exact al_nk gh1
 ·intro h1; have gh1 := h1
  simp only [nrm] at h1
  iterate 4 refine al_ps ?_
  refine al_pk ?_
  exact al_nk gh1
 refine al_gs ?_
 refine al_nil ?_
 refine fz1 (t := 2) ?_
 refine aw_ret ?_
 refine ⟨_, res_1 rfl rfl, ?_, rfl⟩
 rw [← isText_prog s] <;> rfl
theorem c_parse (s : Bs) (hs : s.length ≤ 140737488355328) : ACp Tryz.prog 153 [.v (.string (str (s)))] (.tuple [.list 1 ((parseBits s).map encB), .v (.int .i64 (parseE s))]) := by
 refine acp_of rfl ?_
 have hrl : (List.replicate (s.length : Int).toNat (0 : Int)).length = s.length := by simp
 refine ace 40 Tryz.func153 ?_
 refine aw_sr ?_
 refine al_gs ?_
 refine al_gs ?_
 refine al_nil ?_
 refine aw_seq ?_
 refine aw_sr ?_
 refine al_mv ?_
 refine al_o (op_slen_str (ts := #[]) u9 rfl) ?_
 refine al_ls ?_
 refine al_mv ?_
 apply al_or 4 10 14 rfl
 ·intro h1; have gh1 := h1
  simp only [nrm] at h1
  refine tk_mv ?_
  refine al_t (op_slen_str (ts := #[]) u9 rfl) ?_
  refine al_t (op_gtr rfl rfl) ?_
  refine al_pk ?_
  exact al_nk gh1
 ·intro h1; have gh1 := h1
  simp only [nrm] at h1
  iterate 3 refine al_ps ?_
  refine al_pk ?_
  exact al_nk gh1
 refine al_nil ?_
 refine aw_cond rfl (fun h2 => ?_) (fun h2 => ?_)
 ·have gh2 := h2
  simp only [nrm] at h2
  refine aw_sr ?_
  refine al_gs ?_
  refine al_gs ?_
  refine al_nil ?_
  refine aw_freeze (fun _ => false) (fsub_cons (t := 2) rfl (by first | exact .leaf _ _ (frz_whole rfl rfl (by first | rfl | (simp; done) | (simp; omega)) (clo_map (fun _ => rfl))) | exact .leaf _ _ (.vnil 1) | exact .leaf _ _ (.nil 1) | exact .leaf _ _ (.same _)) (fsub_cons (t := 3) rfl (.leaf _ _ (.same _)) fsub_nil)) ?_
  refine aw_ret ?_
  refine ⟨_, res_2 rfl rfl rfl rfl rfl, ?_, rfl⟩
  rw [parseBits, parseE, isVec_no gh2]; rfl
 have gh2 := h2
 simp only [nrm] at h2
 refine aw_skip ?_
 refine aw_sr ?_
 refine al_mv ?_
 refine al_o (op_slen_str (ts := #[]) u9 rfl) ?_
 (refine al_opR (op_makeN (f := encB) 17 (0 : Int) u26 info97 rfl rfl (by decide) rfl rfl rfl rfl (by omega) (by show (1 : Int) * _ ≤ _; omega) (by omega)) rfl (by simp) ?_; rintro _ _ ⟨ver17, rfl, rfl⟩)
 refine al_gs ?_
 refine al_nil ?_
 refine aw_seq ?_
 refine aw_sr ?_
 refine al_mv ?_
 refine al_o (op_slen_str (ts := #[]) u9 rfl) ?_
 refine al_mv ?_
 refine al_nil ?_
 refine aw_block ?_
 refine aw_forT (ι := Nat) [2, 3, 20] [] (fun i => s.length - i) (fun i => i ≤ s.length ∧ ∀ k, k < i → isBitC (s.getD k default) = true) (fun i => ([(20, .v (.int .i64 (i)))] : Env)) (fun i st => st.put 17 ver17 (.row 1 ((mixR s i).map encB))) (0) ?_ ?_ ?_ (fun i hinv => ?_)
 ·exact ⟨Nat.zero_le _, fun k hk => absurd hk (Nat.not_lt_zero k)⟩
 ·refine sub_1 ?_
  all_goals (first | rfl | simp)
 ·(rw [mixR_zero] <;> rfl)
 have hi := hinv.1
 refine aw_sr ?_
 refine al_ls ?_
 refine al_nil ?_
 refine aw_seq ?_
 refine aw_cond rfl (fun h3 => ?_) (fun h3 => ?_)
 ·have gh3 := h3
  simp only [nrm] at h3
  refine aw_skip ?_
  refine aw_seq ?_
  refine aw_block ?_
  refine aw_sr ?_
  refine al_mv ?_
  refine al_gs ?_
  refine al_sr ?_
  refine al_mv ?_
  refine al_mv ?_
  refine al_o (op_sidx_str u9 rfl rfl (by first | (with_reducible exact Int.toNat_natCast _) | rfl) (by omega) (by first | omega | (simp; omega))) ?_
  refine al_callp into183 rfl rfl rfl ((q_indexByte _ _) _) (by simp) ?_
  refine al_gs ?_
  refine al_nil ?_
  refine aw_seq ?_
  refine aw_sr ?_
  refine al_mv ?_
  refine al_ls ?_
  refine al_nil ?_
  refine aw_cond rfl (fun h4 => ?_) (fun h4 => ?_)
  ·have gh4 := h4
   simp only [nrm] at h4
   refine aw_sr ?_
   refine al_gs ?_
   refine al_gs ?_
   refine al_nil ?_
   refine aw_freeze (fun _ => false) (fsub_cons (t := 2) rfl (by first | exact .leaf _ _ (frz_whole rfl rfl (by first | rfl | (simp; done) | (simp; omega)) (clo_map (fun _ => rfl))) | exact .leaf _ _ (.vnil 1) | exact .leaf _ _ (.nil 1) | exact .leaf _ _ (.same _)) (fsub_cons (t := 3) rfl (.leaf _ _ (.same _)) fsub_nil)) ?_
   refine aw_ret ?_
   refine ⟨_, res_2 rfl rfl rfl rfl rfl, ?_, rfl⟩
   rw [parseBits, parseE, isVec_bad i (by omega) (by simpa using gh4)]; rfl
  have gh4 := h4
  simp only [nrm] at h4
  refine aw_skip ?_
  have hbl := bitCode_le (s.getD i default)
  have hmr := mixR_length s i (by omega)
  have hb0 : ¬ Lib.indexByte [48, 49, 120, 122] (s.getD i default) < 0 := by simpa using gh4
  refine aw_region ?_
  refine al_mv ?_
  refine al_mv ?_
  refine al_o (op_slen_str (ts := #[]) u9 rfl) ?_
  refine al_o (op_sub rfl rfl (by first | exact wrap_i64 (by omega) (by omega))) ?_
  refine al_mv ?_
  refine al_o (op_sub rfl rfl (by first | exact wrap_i64 (by omega) (by omega))) ?_
  refine al_mv ?_
  refine al_o (op_conv u3 u97 rfl (wrap_u8 (by omega) (by have := hbl; unfold bitCode at this; omega))) ?_
  refine al_o (op_index_slice u26 info97 rfl rfl rfl rfl (by omega) (by omega)) ?_
  refine al_o (op_store_map (bitCode (s.getD i default)) info97 rfl rfl rfl (by omega) rfl rfl rfl (Nat.le_of_ble_eq_true rfl) rfl) ?_
  refine al_nil ?_
  refine aw_region ?_
  refine al_ad ?_
  refine al_mv ?_
  refine al_nil ?_
  refine ⟨i + 1, ?_, ?_, ?_, ?_, ?_⟩
  ·omega
  ·exact ⟨by omega, run_step (p := isBitC) (s := s) hinv.2 (by rw [← isBit_index, decide_eq_true_eq]; omega)⟩
  ·refine sub_1 ?_
   all_goals (first | rfl | simp)
  ·exact sbl
  ·(rw [← mixR_step s i (by omega), show s.length - 1 - i = 0 + ((s.length : Int) - 1 - (i : Int)).toNat from by omega] <;> rfl)
 have gh3 := h3
 simp only [nrm] at h3
 refine aw_exit ?_
 obtain rfl : i = s.length := by omega
 have hall := hinv.2
 have hmr := mixR_length s s.length (by omega)
 refine aw_sr ?_
 refine al_mv ?_
 refine al_gs ?_
 refine al_gs ?_
 refine al_nil ?_
 refine aw_freeze (fun _ => false) (fsub_cons (t := 2) rfl (by first | exact .leaf _ _ (frz_whole rfl rfl (by first | rfl | (simp; done) | (simp; omega)) (clo_map (fun _ => rfl))) | exact .leaf _ _ (.vnil 1) | exact .leaf _ _ (.nil 1) | exact .leaf _ _ (.same _)) (fsub_cons (t := 3) rfl (.leaf _ _ (.same _)) fsub_nil)) ?_
 refine aw_ret ?_
 refine ⟨_, res_2 rfl rfl rfl rfl rfl, ?_, rfl⟩
 rw [parseBits, parseE, isVec_yes gh2 hall, mixR_all]; rfl
end Go.Proofs.YtcgdlhkiecommaaGreatDoor
/- Printed walks (gen.py, lexer_ann.py): part 309. -/






namespace Go.Proofs.YtcgdlhkiecommaaGreatDoor
open Go
theorem c_written (t : Tk) (ht : OKT t) : ACp Tryz.prog 102 [.agg (encK t)] (.tuple [.v (.string (str ((wrP t).1))), .v (.bool ((wrP t).2))]) := by
 refine acp_of rfl ?_
 obtain ⟨t1, t2, t3⟩ := ht
 refine ace 94 Tryz.func102 ?_
 refine aw_sr ?_
 refine al_bx 1 fun ver1 => ?_
 refine al_gs ?_
 refine al_gs ?_
 refine al_nil ?_
 refine aw_seq ?_
 refine aw_sr ?_
 refine al_fp u65 info63 ?_
 refine al_ld u63 info63 ?_
 refine al_o (op_neq rfl rfl) ?_
 refine al_mv ?_
 apply al_and 4 9 13 rfl
 ·intro h1; have gh1 := h1
  simp only [nrm] at h1
  refine tk_fp u65 info3 ?_
  refine tk_ld u3 info3 ?_
  refine al_t (op_neq rfl rfl) ?_
  refine al_pk ?_
  exact al_nk gh1
 ·intro h1; have gh1 := h1
  simp only [nrm] at h1
  iterate 3 refine al_ps ?_
  refine al_pk ?_
  exact al_nk gh1
 refine al_nil ?_
 refine aw_cond rfl (fun h2 => ?_) (fun h2 => ?_)
 ·have gh2 := h2
  simp only [nrm] at h2
  refine aw_sr ?_
  refine al_gs ?_
  refine al_gs ?_
  refine al_nil ?_
  refine fz2 (t := 2) (u := 3) ?_
  refine aw_ret ?_
  refine ⟨_, res_2 rfl rfl rfl rfl rfl, ?_, rfl⟩
  rw [wrP, gh2]; rfl
 have gh2 := h2
 refine aw_skip ?_
 refine aw_seq ?_
 refine aw_sr ?_
 refine al_fp u65 info63 ?_
 refine al_ld u63 info63 ?_
 refine al_nil ?_
 refine aw_block ?_
 refine aw_sr ?_
 refine al_eq ?_
 refine al_gs ?_
 refine al_nil ?_
 refine aw_cond rfl (fun h3 => ?_) (fun h3 => ?_)
 ·have gh3 := h3
  simp only [nrm] at h3
  refine aw_seq ?_
  refine aw_any (Checked.mixed Tryz.checked) ?_
  apply aany_seg (p := 0) (q := 7) (by kernel_rfl) rfl (by decide)
  ·
   apply ql_plain rfl (op_field_ptr u65 rfl info9 (by decide) rfl rfl rfl)
   apply ql_plain rfl (op_load_ptr u9 info9 rfl rfl rfl rfl)
   apply ql_plain rfl (op_field_ptr u65 rfl info9 (by decide) rfl rfl rfl)
   apply ql_plain rfl (op_load_ptr u9 info9 rfl rfl rfl rfl)
   apply ql_call into66 rfl rfl rfl ((c_isName _ (by first | assumption | omega | (simp; done) | (simp; omega) | decide)) _)
   apply ql_plain rfl (op_assign rfl)
   apply ql_plain rfl (op_assign rfl)
   exact ql_nil
  ·simp
  refine aany_end rfl (by kernel_rfl) ?_
  refine fz2 (t := 2) (u := 3) ?_
  refine aw_ret ?_
  refine ⟨_, res_2 rfl rfl rfl rfl rfl, ?_, rfl⟩
  rw [wrP, gh2, gh3]; rfl
 have gh3 := h3
 simp only [nrm] at h3
 refine aw_sr ?_
 refine al_eq ?_
 refine al_gs ?_
 refine al_nil ?_
 refine aw_cond rfl (fun h4 => ?_) (fun h4 => ?_)
 ·have gh4 := h4
  simp only [nrm] at h4
  refine aw_seq ?_
  refine aw_any (Checked.mixed Tryz.checked) ?_
  apply aany_seg (p := 0) (q := 7) (by kernel_rfl) rfl (by decide)
  ·
   apply ql_plain rfl (op_field_ptr u65 rfl info9 (by decide) rfl rfl rfl)
   apply ql_plain rfl (op_load_ptr u9 info9 rfl rfl rfl rfl)
   apply ql_plain rfl (op_field_ptr u65 rfl info9 (by decide) rfl rfl rfl)
   apply ql_plain rfl (op_load_ptr u9 info9 rfl rfl rfl rfl)
   apply ql_call into119 rfl rfl rfl ((c_isWord _ (by first | assumption | omega | (simp; done) | (simp; omega) | decide)) _)
   apply ql_plain rfl (op_assign rfl)
   apply ql_plain rfl (op_assign rfl)
   exact ql_nil
  ·simp
  refine aany_end rfl (by kernel_rfl) ?_
  refine fz2 (t := 2) (u := 3) ?_
  refine aw_ret ?_
  refine ⟨_, res_2 rfl rfl rfl rfl rfl, ?_, rfl⟩
  rw [wrP, gh2, gh3, gh4]; rfl
 have gh4 := h4
 simp only [nrm] at h4
 refine aw_sr ?_
 refine al_eq ?_
 refine al_gs ?_
 refine al_nil ?_
 refine aw_cond rfl (fun h5 => ?_) (fun h5 => ?_)
 ·have gh5 := h5
  simp only [nrm] at h5
  refine aw_seq ?_
  refine aw_any (Checked.mixed Tryz.checked) ?_
  apply aany_seg (p := 0) (q := 7) (by kernel_rfl) rfl (by decide)
  ·
   apply ql_plain rfl (op_field_ptr u65 rfl info3 (by decide) rfl rfl rfl)
   apply ql_plain rfl (op_load_ptr u3 info3 rfl rfl rfl rfl)
   apply ql_call into151 rfl rfl rfl ((q_itoa _ (by first | assumption | omega | (simp; done) | (simp; omega) | decide) (by first | assumption | omega | (simp; done) | (simp; omega) | decide)) _)
   apply ql_plain rfl (op_field_ptr u65 rfl info9 (by decide) rfl rfl rfl)
   apply ql_plain rfl (op_load_ptr u9 info9 rfl rfl rfl rfl)
   apply ql_plain rfl (op_seql_str rfl rfl)
   apply ql_plain rfl (op_move rfl)
   exact ql_nil
  ·simp
  apply aany_and 7 11 38 42 (by kernel_rfl) rfl (by decide) rfl (by simp)
  ·intro h6; have gh6 := h6
   simp only [nrm] at h6
   apply ql_ex
   ·
    apply ql_take rfl rfl rfl rfl (op_field_ptr u65 rfl info3 (by decide) rfl rfl rfl)
    apply ql_take rfl rfl rfl rfl (op_load_ptr u3 info3 rfl rfl rfl rfl)
    apply ql_take rfl rfl rfl rfl (op_geq rfl rfl)
    apply ql_plain rfl (op_pick rfl rfl)
    exact ql_nil
   ·rfl
   ·exact subk gh6
  ·intro h6; have gh6 := h6
   simp only [nrm] at h6
   apply ql_ex
   ·
    apply ql_pass rfl rfl rfl rfl
    apply ql_pass rfl rfl rfl rfl
    apply ql_pass rfl rfl rfl rfl
    apply ql_plain rfl (op_pick rfl rfl)
    exact ql_nil
   ·rfl
   ·exact subk gh6
  apply aany_seg (p := 11) (q := 12) (by kernel_rfl) rfl (by decide)
  ·
   apply ql_plain rfl (op_move rfl)
   exact ql_nil
  ·simp
  apply aany_and2 12 17 43 47 2 (.v (.string (str (Lib.itoa t.n)))) (by kernel_rfl) rfl (by decide) rfl (by simp)
  ·intro h7; have gh7 := h7
   simp only [nrm] at h7
   apply ql_ex2
   ·
    apply ql_take rfl rfl rfl rfl (op_field_ptr u65 rfl info3 (by decide) rfl rfl rfl)
    apply ql_take rfl rfl rfl rfl (op_load_ptr u3 info3 rfl rfl rfl rfl)
    apply ql_take rfl rfl rfl rfl (op_leq rfl rfl)
    apply ql_plain rfl (op_pick rfl rfl)
    apply ql_plain rfl (op_assign rfl)
    exact ql_nil
   ·rfl
   ·rfl
   ·exact subk gh7
  ·intro h7; have gh7 := h7
   simp only [nrm] at h7
   apply ql_ex2
   ·
    apply ql_pass rfl rfl rfl rfl
    apply ql_pass rfl rfl rfl rfl
    apply ql_pass rfl rfl rfl rfl
    apply ql_plain rfl (op_pick rfl rfl)
    apply ql_plain rfl (op_assign rfl)
    exact ql_nil
   ·rfl
   ·rfl
   ·exact subk gh7
  apply aany_seg (p := 17) (q := 18) (by kernel_rfl) rfl (by decide)
  ·
   apply ql_plain rfl (op_assign rfl)
   exact ql_nil
  ·simp
  refine aany_end rfl (by kernel_rfl) ?_
  refine fz2 (t := 2) (u := 3) ?_
  refine aw_ret ?_
  refine ⟨_, res_2 rfl rfl rfl rfl rfl, ?_, rfl⟩
  rw [wrP, gh2, gh3, gh4, gh5]; rfl
 have gh5 := h5
 simp only [nrm] at h5
 refine aw_sr ?_
 refine al_eq ?_
 refine al_gs ?_
 refine al_nil ?_
 refine aw_cond rfl (fun h8 => ?_) (fun h8 => ?_)
 ·have gh8 := h8
  simp only [nrm] at h8
  refine aw_seq ?_
  cases hsp0 : (((t.text.length : Int) == 1))
  ·
   refine aw_any (Checked.mixed Tryz.checked) ?_
   apply aany_seg (p := 0) (q := 15) (by kernel_rfl) rfl (by decide)
   ·
    apply ql_plain rfl (op_field_ptr u65 rfl info9 (by decide) rfl rfl rfl)
    apply ql_plain rfl (op_load_ptr u9 info9 rfl rfl rfl rfl)
    apply ql_plain rfl (op_sadd_str rfl rfl (by first | omega | (simp; omega) | (simp; done) | (simp only [List.length_append, List.length_cons, List.length_nil]; omega)))
    apply ql_plain rfl (op_sadd_str rfl rfl (by first | omega | (simp; omega) | (simp; done) | (simp only [List.length_append, List.length_cons, List.length_nil]; omega)))
    apply ql_plain rfl (op_field_ptr u65 rfl info9 (by decide) rfl rfl rfl)
    apply ql_plain rfl (op_load_ptr u9 info9 rfl rfl rfl rfl)
    apply ql_plain rfl (op_slen_str (ts := #[]) u9 rfl)
    apply ql_plain rfl (op_eql rfl rfl)
    apply ql_plain rfl (bool_as hsp0 (op_move rfl))
    apply ql_pass rfl rfl rfl rfl
    apply ql_pass rfl rfl rfl rfl
    apply ql_pass rfl rfl rfl rfl
    apply ql_plain rfl (op_pick rfl rfl)
    apply ql_plain rfl (op_assign rfl)
    apply ql_plain rfl (op_assign rfl)
    exact ql_nil
   ·simp
   refine aany_end rfl (by kernel_rfl) ?_
   refine fz2 (t := 2) (u := 3) ?_
   refine aw_ret ?_
   refine ⟨_, res_2 rfl rfl rfl rfl rfl, ?_, rfl⟩
   rw [wrP, gh2, gh3, gh4, gh5, gh8, hsp0]; rfl
  ·
   refine aw_any (Checked.mixed Tryz.checked) ?_
   apply aany_seg (p := 0) (q := 15) (by kernel_rfl) rfl (by decide)
   ·
    apply ql_plain rfl (op_field_ptr u65 rfl info9 (by decide) rfl rfl rfl)
    apply ql_plain rfl (op_load_ptr u9 info9 rfl rfl rfl rfl)
    apply ql_plain rfl (op_sadd_str rfl rfl (by first | omega | (simp; omega) | (simp; done) | (simp only [List.length_append, List.length_cons, List.length_nil]; omega)))
    apply ql_plain rfl (op_sadd_str rfl rfl (by first | omega | (simp; omega) | (simp; done) | (simp only [List.length_append, List.length_cons, List.length_nil]; omega)))
    apply ql_plain rfl (op_field_ptr u65 rfl info9 (by decide) rfl rfl rfl)
    apply ql_plain rfl (op_load_ptr u9 info9 rfl rfl rfl rfl)
    apply ql_plain rfl (op_slen_str (ts := #[]) u9 rfl)
    apply ql_plain rfl (op_eql rfl rfl)
    apply ql_plain rfl (bool_as hsp0 (op_move rfl))
    apply ql_take rfl rfl rfl rfl (op_field_ptr u65 rfl info9 (by decide) rfl rfl rfl)
    apply ql_take rfl rfl rfl rfl (op_load_ptr u9 info9 rfl rfl rfl rfl)
    apply ql_call_take into152 rfl rfl rfl rfl rfl rfl ((q_contains _ _ (by first | assumption | omega | (simp; done) | (simp; omega) | decide)) _)
    apply ql_plain rfl (op_pick rfl rfl)
    apply ql_plain rfl (op_assign rfl)
    apply ql_plain rfl (op_assign rfl)
    exact ql_nil
   ·simp
   refine aany_end rfl (by kernel_rfl) ?_
   refine fz2 (t := 2) (u := 3) ?_
   refine aw_ret ?_
   refine ⟨_, res_2 rfl rfl rfl rfl rfl, ?_, rfl⟩
   rw [wrP, gh2, gh3, gh4, gh5, gh8, hsp0]; rfl
 have gh8 := h8
 simp only [nrm] at h8
 refine aw_sr ?_
 refine al_eq ?_
 refine al_gs ?_
 refine al_nil ?_
 refine aw_cond rfl (fun h9 => ?_) (fun h9 => ?_)
 ·have gh9 := h9
  simp only [nrm] at h9
  refine aw_sr ?_
  refine al_fp u65 info9 ?_
  refine al_ld u9 info9 ?_
  refine al_callp into153 rfl rfl rfl ((c_parse _ (by first | assumption | omega | (simp; done) | (simp; omega) | decide)) _) (by simp) ?_
  refine al_mv ?_
  refine al_xt ?_
  refine al_xt ?_
  refine al_gs ?_
  refine al_gs ?_
  refine al_sr ?_
  refine al_fp u65 info9 ?_
  refine al_ld u9 info9 ?_
  refine al_o (op_sadd_str rfl rfl (by first | omega | (simp; omega) | (simp; done) | (simp only [List.length_append, List.length_cons, List.length_nil]; omega))) ?_
  refine al_o (op_sadd_str rfl rfl (by first | omega | (simp; omega) | (simp; done) | (simp only [List.length_append, List.length_cons, List.length_nil]; omega))) ?_
  refine al_mv ?_
  refine al_eq ?_
  refine al_gs ?_
  refine al_gs ?_
  refine al_nil ?_
  refine fz2 (t := 2) (u := 3) ?_
  refine aw_ret ?_
  refine ⟨_, res_2 rfl rfl rfl rfl rfl, ?_, rfl⟩
  rw [wrP, gh2, gh3, gh4, gh5, gh8, gh9]; rfl
 have gh9 := h9
 simp only [nrm] at h9
 refine aw_sr ?_
 refine al_eq ?_
 refine al_gs ?_
 refine al_nil ?_
 refine aw_cond rfl (fun h10 => ?_) (fun h10 => ?_)
 ·have gh10 := h10
  simp only [nrm] at h10
  refine aw_seq ?_
  refine aw_any (Checked.mixed Tryz.checked) ?_
  apply aany_seg (p := 0) (q := 9) (by kernel_rfl) rfl (by decide)
  ·
   apply ql_plain rfl (op_field_ptr u65 rfl info9 (by decide) rfl rfl rfl)
   apply ql_plain rfl (op_load_ptr u9 info9 rfl rfl rfl rfl)
   apply ql_plain rfl (op_sadd_str rfl rfl (by first | omega | (simp; omega) | (simp; done) | (simp only [List.length_append, List.length_cons, List.length_nil]; omega)))
   apply ql_plain rfl (op_sadd_str rfl rfl (by first | omega | (simp; omega) | (simp; done) | (simp only [List.length_append, List.length_cons, List.length_nil]; omega)))
   apply ql_plain rfl (op_field_ptr u65 rfl info9 (by decide) rfl rfl rfl)
   apply ql_plain rfl (op_load_ptr u9 info9 rfl rfl rfl rfl)
   apply ql_call into154 rfl rfl rfl ((c_isText _ (by first | assumption | omega | (simp; done) | (simp; omega) | decide)) _)
   apply ql_plain rfl (op_assign rfl)
   apply ql_plain rfl (op_assign rfl)
   exact ql_nil
  ·simp
  refine aany_end rfl (by kernel_rfl) ?_
  refine fz2 (t := 2) (u := 3) ?_
  refine aw_ret ?_
  refine ⟨_, res_2 rfl rfl rfl rfl rfl, ?_, rfl⟩
  rw [wrP, gh2, gh3, gh4, gh5, gh8, gh9, gh10]; rfl
 have gh10 := h10
 simp only [nrm] at h10
 refine aw_sr ?_
 refine al_eq ?_
 refine al_gs ?_
 refine al_nil ?_
 refine aw_cond rfl (fun h11 => ?_) (fun h11 => ?_)
 ·have gh11 := h11
  simp only [nrm] at h11
  refine aw_seq ?_
  refine aw_any (Checked.mixed Tryz.checked) ?_
  apply aany_seg (p := 0) (q := 8) (by kernel_rfl) rfl (by decide)
  ·
   apply ql_plain rfl (op_field_ptr u65 rfl info9 (by decide) rfl rfl rfl)
   apply ql_plain rfl (op_load_ptr u9 info9 rfl rfl rfl rfl)
   apply ql_call into155 rfl rfl rfl ((q_fields ) _)
   apply ql_plain rfl (op_field_ptr u65 rfl info9 (by decide) rfl rfl rfl)
   apply ql_plain rfl (op_load_ptr u9 info9 rfl rfl rfl rfl)
   apply ql_call into61 rfl rfl rfl ((q_member _ _ (by first | assumption | omega | (simp; done) | (simp; omega) | decide)) _)
   apply ql_plain rfl (op_assign rfl)
   apply ql_plain rfl (op_assign rfl)
   exact ql_nil
  ·simp
  refine aany_end rfl (by kernel_rfl) ?_
  refine fz2 (t := 2) (u := 3) ?_
  refine aw_ret ?_
  refine ⟨_, res_2 rfl rfl rfl rfl rfl, ?_, rfl⟩
  rw [wrP, gh2, gh3, gh4, gh5, gh8, gh9, gh10, gh11]; rfl
 have gh11 := h11
 simp only [nrm] at h11
 refine aw_skip ?_
 refine aw_sr ?_
 refine al_gs ?_
 refine al_gs ?_
 refine al_nil ?_
 refine fz2 (t := 2) (u := 3) ?_
 refine aw_ret ?_
 refine ⟨_, res_2 rfl rfl rfl rfl rfl, ?_, rfl⟩
 rw [wrP, gh2, gh3, gh4, gh5, gh8, gh9, gh10, gh11]; rfl
theorem c_Text (l : List Tk) (hl : OKTs l) (hn : l.length ≤ 140737488355328) : ACp Tryz.prog 53 [.list 5 (l.map encK)] (.tuple [.v (.string (str ((textP l).1))), .v (.int .i64 ((textP l).2))]) := by
 refine acp_of rfl ?_
 refine ace 32 Tryz.func53 ?_
 refine aw_sr ?_
 refine al_gs ?_
 refine al_gs ?_
 refine al_nil ?_
 refine aw_seq ?_
 refine aw_sr ?_
 refine al_mv ?_
 refine al_lm u22 ?_
 refine al_o (op_gtr rfl rfl) ?_
 refine al_nil ?_
 refine aw_cond rfl (fun h1 => ?_) (fun h1 => ?_)
 ·have gh1 := h1
  simp only [nrm] at h1
  refine aw_sr ?_
  refine al_gs ?_
  refine al_gs ?_
  refine al_nil ?_
  refine fz2 (t := 2) (u := 3) ?_
  refine aw_ret ?_
  refine ⟨_, res_2 rfl rfl rfl rfl rfl, ?_, rfl⟩
  rw [textP_long gh1] <;> rfl
 have gh1 := h1
 simp only [nrm] at h1
 refine aw_skip ?_
 refine aw_sr ?_
 refine al_gs ?_
 refine al_nil ?_
 refine aw_seq ?_
 refine aw_sr ?_
 refine al_mv ?_
 refine al_lm u22 ?_
 refine al_mv ?_
 refine al_nil ?_
 refine aw_block ?_
 refine aw_own_map encBs 4 1 4 rfl rfl (fun ver4 => ?_)
 refine aw_for2T (α := Nat) (β := Nat) [2, 3, 4, 14] [6] (fun i ver => l.length - i) (fun i ver => i ≤ l.length ∧ ∀ k, k < i → (wrP (l.getD k default)).2 = true) (fun i ver => ([(4, .slice 4 ver 0 ((l.take i).map fun t => (wrP t).1).length), (14, .v (.int .i64 (i)))] : Env)) (fun i ver s => s.put 4 ver (.row 1 (((l.take i).map fun t => (wrP t).1).map encBs))) (0) (ver4) ?_ ?_ ?_ (fun i ver hinv => ?_)
 ·exact ⟨Nat.zero_le _, fun k hk => absurd hk (Nat.not_lt_zero k)⟩
 ·refine sub_2 ?_ ?_
  all_goals (first | rfl | (simp; done) | (rw [take_more _ l i (by omega)] <;> rfl))
 ·rfl
 have hi := hinv.1
 have hal : ((l.take i).map fun t => (wrP t).1).length = i := by rw [List.length_map, List.length_take]; omega
 refine aw_sr ?_
 refine al_ls ?_
 refine al_nil ?_
 refine aw_seq ?_
 refine aw_cond rfl (fun h2 => ?_) (fun h2 => ?_)
 ·have gh2 := h2
  simp only [nrm] at h2
  refine aw_skip ?_
  refine aw_seq ?_
  refine aw_block ?_
  refine aw_sr ?_
  refine al_o (op_im u22 info65) ?_
  refine al_lr u65 info65 ?_
  refine al_al 6 info65 fun ver6 => ?_
  refine al_sp info65 ?_
  refine al_nil ?_
  refine aw_seq ?_
  have hti := hl.at i (by omega)
  refine aw_region ?_
  refine al_ld u65 info65 ?_
  refine al_callp into102 rfl rfl rfl ((c_written _ (by assumption)) _) (by simp) ?_
  refine al_mv ?_
  refine al_xt ?_
  refine al_xt ?_
  refine al_gs ?_
  refine al_gs ?_
  refine al_nil ?_
  refine aw_seq ?_
  refine aw_sr ?_
  refine al_mv ?_
  refine al_o (op_not rfl) ?_
  refine al_nil ?_
  refine aw_cond rfl (fun h3 => ?_) (fun h3 => ?_)
  ·have gh3 := h3
   simp only [nrm] at h3
   refine aw_sr ?_
   refine al_gs ?_
   refine al_gs ?_
   refine al_nil ?_
   refine fz2 (t := 2) (u := 3) ?_
   refine aw_ret ?_
   refine ⟨_, res_2 rfl rfl rfl rfl rfl, ?_, rfl⟩
   rw [textP_bad gh1 i (by omega) (by simpa using gh3)] <;> rfl
  have gh3 := h3
  simp only [nrm] at h3
  refine aw_skip ?_
  refine aw_region ?_
  refine al_mv ?_
  refine al_mv ?_
  refine al_o (op_buildSlice u32 info9 rfl rfl (by decide) rfl (by decide) rfl (by first | rfl | (repeat (first | exact parts_nil | refine parts_cons rfl (by repeat (first | exact all_live_nil | refine all_live_clo rfl ?_ | refine all_live_slice rfl ?_ | refine all_live_map rfl ?_ | refine all_live_ptr rfl ?_)) ?_))) rfl rfl rfl) ?_
  (refine al_opR (op_append_one (wrP (l.getD i default)).1 u32 u32 rfl info9 rfl rfl (by decide) rfl rfl rfl (by first | rfl | simp) rfl rfl (by first | omega | (simp; done) | (simp; omega)) (by show _ * 16 ≤ _; first | omega | (simp; done) | (simp; omega))) rfl (by simp) ?_; rintro _ _ ⟨ver28, rfl, rfl⟩)
  refine al_gs ?_
  refine al_nil ?_
  refine aw_region ?_
  refine al_ad ?_
  refine al_mv ?_
  refine al_nil ?_
  refine ⟨i + 1, ver28, ?_, ?_, ?_, ?_, ?_⟩
  ·omega
  ·exact ⟨by omega, all_more (p := fun t => (wrP t).2) hinv.2 (by simpa using gh3)⟩
  ·refine sub_2 ?_ ?_
   all_goals (first | rfl | (simp; done) | (rw [take_more _ l i (by omega)] <;> rfl))
  ·exact sbl
  ·(rw [take_more _ l i (by omega)] <;> rfl)
 have gh2 := h2
 simp only [nrm] at h2
 refine aw_exit ?_
 obtain rfl : i = l.length := by omega
 have hall := hinv.2
 have htl := text_len hall (by omega)
 refine aw_sr ?_
 refine al_mv ?_
 refine al_callp into103 rfl rfl rfl (acp_lent (lend_cons (by first | exact lend_same | exact .leaf _ _ (.vnil _) | exact .leaf _ _ (.nil _) | exact lend_whole rfl (by first | rfl | (simp; done) | (simp; omega)) (clo_map (fun _ => rfl))) (lend_cons (by first | exact lend_same | exact .leaf _ _ (.vnil _) | exact .leaf _ _ (.nil _) | exact lend_whole rfl (by first | rfl | (simp; done) | (simp; omega)) (clo_map (fun _ => rfl))) lend_nil)) (q_join _ _ (by first | assumption | omega | (simp; done) | (simp; omega) | decide) (by first | assumption | omega | (simp; done) | (simp; omega) | decide)) rfl) (by simp) ?_
 refine al_gs ?_
 refine al_gs ?_
 refine al_nil ?_
 refine fz2 (t := 2) (u := 3) ?_
 refine aw_ret ?_
 refine ⟨_, res_2 rfl rfl rfl rfl rfl, ?_, rfl⟩
 rw [textP_ok gh1 hall, List.take_length] <;> rfl
theorem r_Words  : ACp Tryz.prog 170 [] (.list 1 (wordsL.map encBs)) := by
 refine acp_of rfl ?_
 refine ace 2 Tryz.func170 ?_
 refine aw_sr ?_
 refine al_gs ?_
 refine al_sr ?_
 refine al_o (op_ol encBs wordsL u32 info9) ?_
 refine al_gs ?_
 refine al_nil ?_
 refine aw_freeze (fun _ => false) (fsub_cons (t := 0) rfl (by first | exact .leaf _ _ (frz_whole rfl rfl (by first | rfl | (simp; done) | (simp; omega)) (clo_map (fun _ => rfl))) | exact .leaf _ _ (.vnil 1) | exact .leaf _ _ (.nil 1) | exact .leaf _ _ (.same _)) fsub_nil) ?_
 refine aw_ret ?_
 refine ⟨_, res_1 rfl rfl, ?_, rfl⟩
 rfl
theorem r_Signs  : ACp Tryz.prog 134 [] (.list 1 (signsL.map encBs)) := by
 refine acp_of rfl ?_
 refine ace 2 Tryz.func134 ?_
 refine aw_sr ?_
 refine al_gs ?_
 refine al_sr ?_
 refine al_o (op_ol encBs signsL u32 info9) ?_
 refine al_gs ?_
 refine al_nil ?_
 refine aw_freeze (fun _ => false) (fsub_cons (t := 0) rfl (by first | exact .leaf _ _ (frz_whole rfl rfl (by first | rfl | (simp; done) | (simp; omega)) (clo_map (fun _ => rfl))) | exact .leaf _ _ (.vnil 1) | exact .leaf _ _ (.nil 1) | exact .leaf _ _ (.same _)) fsub_nil) ?_
 refine aw_ret ?_
 refine ⟨_, res_1 rfl rfl, ?_, rfl⟩
 rfl
theorem r_member (l : List Bs) (x : Bs) (hl : l.length ≤ 140737488355328) : ACp Tryz.prog 133 [.list 1 (l.map encBs), .v (.string (str (x)))] (.v (.bool (l.contains x))) := by
 refine acp_of rfl ?_
 refine ace 17 Tryz.func133 ?_
 refine aw_sr ?_
 refine al_gs ?_
 refine al_nil ?_
 refine aw_seq ?_
 refine aw_sr ?_
 refine al_mv ?_
 refine al_lm u32 ?_
 refine al_mv ?_
 refine al_nil ?_
 refine aw_block ?_
 refine aw_forT (ι := Nat) [4, 9] [] (fun i => l.length - i) (fun i => i ≤ l.length ∧ ∀ k, k < i → (l.getD k default == x) = false) (fun i => ([(9, .v (.int .i64 (i)))] : Env)) (fun i s => s) (0) ?_ ?_ ?_ (fun i hinv => ?_)
 ·exact ⟨Nat.zero_le _, fun k hk => absurd hk (Nat.not_lt_zero k)⟩
 ·refine sub_1 ?_
  all_goals (first | rfl | simp)
 ·rfl
 have hi := hinv.1
 refine aw_sr ?_
 refine al_ls ?_
 refine al_nil ?_
 refine aw_seq ?_
 refine aw_cond rfl (fun h1 => ?_) (fun h1 => ?_)
 ·have gh1 := h1
  simp only [nrm] at h1
  refine aw_skip ?_
  refine aw_seq ?_
  refine aw_block ?_
  refine aw_sr ?_
  refine al_o (op_im u32 info9) ?_
  refine al_lr u9 info9 ?_
  refine al_gs ?_
  refine al_sr ?_
  refine al_mv ?_
  refine al_mv ?_
  refine al_o (op_seql_str rfl rfl) ?_
  refine al_nil ?_
  refine aw_cond rfl (fun h2 => ?_) (fun h2 => ?_)
  ·have gh2 := h2
   simp only [nrm] at h2
   refine aw_sr ?_
   refine al_gs ?_
   refine al_nil ?_
   refine fz1 (t := 4) ?_
   refine aw_ret ?_
   refine ⟨_, res_1 rfl rfl, ?_, rfl⟩
   rw [member_yes i (by omega) gh2]
  have gh2 := h2
  simp only [nrm] at h2
  refine aw_skip ?_
  refine aw_region ?_
  refine al_ad ?_
  refine al_mv ?_
  refine al_nil ?_
  refine ⟨i + 1, ?_, ?_, ?_, ?_, ?_⟩
  ·omega
  ·exact ⟨by omega, find_more (p := fun y => y == x) (l := l) hinv.2 gh2⟩
  ·refine sub_1 ?_
   all_goals (first | rfl | simp)
  ·exact sbl
  ·rfl
 have gh1 := h1
 simp only [nrm] at h1
 refine aw_exit ?_
 obtain rfl : i = l.length := by omega
 have hall := hinv.2
 refine aw_sr ?_
 refine al_gs ?_
 refine al_nil ?_
 refine fz1 (t := 4) ?_
 refine aw_ret ?_
 refine ⟨_, res_1 rfl rfl, ?_, rfl⟩
 rw [member_no hall]
theorem r_isWord (s : Bs) (hs : s.length ≤ 140737488355328) : ACp Tryz.prog 123 [.v (.string (str (s)))] (.v (.bool (isWordL s))) := by
 refine acp_of rfl ?_
 refine ace 6 Tryz.func123 ?_
 refine aw_sr ?_
 refine al_gs ?_
 refine al_sr ?_
 refine al_callp into170 rfl rfl rfl ((r_Words ) _) (by simp) ?_
 refine al_mv ?_
 refine al_callp into133 rfl rfl rfl ((r_member _ _ (by first | assumption | omega | decide)) _) (by simp) ?_
 refine al_gs ?_
 refine al_nil ?_
 refine fz1 (t := 2) ?_
 refine aw_ret ?_
 refine ⟨_, res_1 rfl rfl, ?_, rfl⟩
 rfl
theorem r_isName (s : Bs) (hs : s.length ≤ 140737488355328) : ACp Tryz.prog 67 [.v (.string (str (s)))] (.v (.bool (isNameL s))) := by
 refine acp_of rfl ?_
 refine ace 28 Tryz.func67 ?_
 refine aw_sr ?_
 refine al_gs ?_
 refine al_sr ?_
 refine al_mv ?_
 refine al_o (op_slen_str (ts := #[]) u9 rfl) ?_
 refine al_o (op_geq rfl rfl) ?_
 refine al_mv ?_
 apply al_and 4 6 10 rfl
 ·intro h1; have gh1 := h1
  simp only [nrm] at h1
  refine tk_mv ?_
  refine al_t (op_slen_str (ts := #[]) u9 rfl) ?_
  refine al_t (op_leq rfl rfl) ?_
  refine al_pk ?_
  exact al_nk gh1
 ·intro h1; have gh1 := h1
  simp only [nrm] at h1
  iterate 3 refine al_ps ?_
  refine al_pk ?_
  exact al_nk gh1
 refine al_mv ?_
 apply al_and 4 11 15 rfl
 ·intro h2; have gh2 := h2
  simp only [nrm] at h2
  refine tk_mv ?_
  refine al_t (op_sidx_str u9 rfl rfl (by first | (with_reducible exact Int.toNat_natCast _) | rfl) (by omega) (by first | omega | (simp; omega))) ?_
  refine al_callp_take into121 rfl rfl rfl rfl rfl rfl ((r_letter _) _) (by simp) ?_
  refine al_pk ?_
  exact al_nk gh2
 ·intro h2; have gh2 := h2
  simp only [nrm] at h2
  iterate 3 refine al_ps ?_
  refine al_pk ?_
  exact al_nk gh2
 refine al_mv ?_
 apply al_and 6 16 22 rfl
 ·intro h3; have gh3 := h3
  simp only [nrm] at h3
  refine tk_mv ?_
  refine al_callp_take into122 rfl rfl rfl rfl rfl rfl (r_run3 s hs 0 (Nat.zero_le _) 1 _) (by simp) ?_
  refine tk_mv ?_
  refine al_t (op_slen_str (ts := #[]) u9 rfl) ?_
  refine tk_eq ?_
  refine al_pk ?_
  exact al_nk gh3
 ·intro h3; have gh3 := h3
  simp only [nrm] at h3
  iterate 5 refine al_ps ?_
  refine al_pk ?_
  exact al_nk gh3
 refine al_mv ?_
 apply al_and 4 23 27 rfl
 ·intro h4; have gh4 := h4
  simp only [nrm] at h4
  refine tk_mv ?_
  refine al_callp_take into123 rfl rfl rfl rfl rfl rfl ((r_isWord _ (by first | assumption | omega | (simp; done) | (simp; omega) | decide)) _) (by simp) ?_
  refine al_t (op_not rfl) ?_
  refine al_pk ?_
  exact al_nk gh4
 ·intro h4; have gh4 := h4
  simp only [nrm] at h4
  iterate 3 refine al_ps ?_
  refine al_pk ?_
  exact al_nk gh4
 refine al_gs ?_
 refine al_nil ?_
 refine fz1 (t := 2) ?_
 refine aw_ret ?_
 refine ⟨_, res_1 rfl rfl, ?_, rfl⟩
 rw [← isName_ref s] <;> rfl
theorem r_alike (a b : List Tk) (hb : b.length ≤ 140737488355328) : ACp Tryz.prog 49 [.list 5 (a.map encK), .list 5 (b.map encK)] (.v (.bool (alikeL a b))) := by
 refine acp_of rfl ?_
 refine ace 54 Tryz.func49 ?_
 refine aw_sr ?_
 refine al_gs ?_
 refine al_nil ?_
 refine aw_seq ?_
 refine aw_sr ?_
 refine al_mv ?_
 refine al_lm u22 ?_
 refine al_mv ?_
 refine al_lm u22 ?_
 refine al_o (op_neq rfl rfl) ?_
 refine al_nil ?_
 refine aw_cond rfl (fun h1 => ?_) (fun h1 => ?_)
 ·have gh1 := h1
  simp only [nrm] at h1
  refine aw_sr ?_
  refine al_gs ?_
  refine al_nil ?_
  refine fz1 (t := 4) ?_
  refine aw_ret ?_
  refine ⟨_, res_1 rfl rfl, ?_, rfl⟩
  rw [alike_len gh1]
 have gh1 := h1
 simp only [nrm] at h1
 refine aw_skip ?_
 refine aw_seq ?_
 refine aw_sr ?_
 refine al_mv ?_
 refine al_lm u22 ?_
 refine al_mv ?_
 refine al_nil ?_
 refine aw_block ?_
 refine aw_forT (ι := Nat) [4, 13] [] (fun i => a.length - i) (fun i => i ≤ a.length ∧ ∀ k, k < i → tkey (a.getD k default) = tkey (b.getD k default)) (fun i => ([(13, .v (.int .i64 (i)))] : Env)) (fun i s => s) (0) ?_ ?_ ?_ (fun i hinv => ?_)
 ·exact ⟨Nat.zero_le _, fun k hk => absurd hk (Nat.not_lt_zero k)⟩
 ·refine sub_1 ?_
  all_goals (first | rfl | simp)
 ·rfl
 have hi := hinv.1
 have hll : a.length = b.length := by have := bne_eq_false_iff_eq.1 gh1; omega
 refine aw_sr ?_
 refine al_ls ?_
 refine al_nil ?_
 refine aw_seq ?_
 refine aw_cond rfl (fun h2 => ?_) (fun h2 => ?_)
 ·have gh2 := h2
  simp only [nrm] at h2
  refine aw_skip ?_
  refine aw_seq ?_
  refine aw_block ?_
  refine aw_sr ?_
  refine al_mv ?_
  refine al_gs ?_
  refine al_nil ?_
  refine aw_seq ?_
  refine aw_any (Checked.mixed Tryz.checked) ?_
  apply aany_seg (p := 0) (q := 12) (by kernel_rfl) rfl (by decide)
  ·
   apply ql_plain rfl (op_move rfl)
   apply ql_plain rfl (op_move rfl)
   apply ql_plain rfl (op_im u22 info65)
   apply ql_plain rfl (op_field_rptr u65 rfl info63 (by decide) rfl rfl)
   apply ql_plain rfl (op_load_rptr u63 info63 rfl rfl)
   apply ql_plain rfl (op_move rfl)
   apply ql_plain rfl (op_move rfl)
   apply ql_plain rfl (op_im u22 info65)
   apply ql_plain rfl (op_field_rptr u65 rfl info63 (by decide) rfl rfl)
   apply ql_plain rfl (op_load_rptr u63 info63 rfl rfl)
   apply ql_plain rfl (op_neq rfl rfl)
   apply ql_plain rfl (op_move rfl)
   exact ql_nil
  ·simp
  apply aany_or 12 24 27 39 (by kernel_rfl) rfl (by decide) rfl (by simp)
  ·intro h3; have gh3 := h3
   simp only [nrm] at h3
   apply ql_ex
   ·
    apply ql_take rfl rfl rfl rfl (op_move rfl)
    apply ql_take rfl rfl rfl rfl (op_move rfl)
    apply ql_take rfl rfl rfl rfl (op_im u22 info65)
    apply ql_take rfl rfl rfl rfl (op_field_rptr u65 rfl info9 (by decide) rfl rfl)
    apply ql_take rfl rfl rfl rfl (op_load_rptr u9 info9 rfl rfl)
    apply ql_take rfl rfl rfl rfl (op_move rfl)
    apply ql_take rfl rfl rfl rfl (op_move rfl)
    apply ql_take rfl rfl rfl rfl (op_im u22 info65)
    apply ql_take rfl rfl rfl rfl (op_field_rptr u65 rfl info9 (by decide) rfl rfl)
    apply ql_take rfl rfl rfl rfl (op_load_rptr u9 info9 rfl rfl)
    apply ql_take rfl rfl rfl rfl (op_sneq_str rfl rfl)
    apply ql_plain rfl (op_pick rfl rfl)
    exact ql_nil
   ·rfl
   ·exact subk gh3
  ·intro h3; have gh3 := h3
   simp only [nrm] at h3
   apply ql_ex
   ·
    apply ql_pass rfl rfl rfl rfl
    apply ql_pass rfl rfl rfl rfl
    apply ql_pass rfl rfl rfl rfl
    apply ql_pass rfl rfl rfl rfl
    apply ql_pass rfl rfl rfl rfl
    apply ql_pass rfl rfl rfl rfl
    apply ql_pass rfl rfl rfl rfl
    apply ql_pass rfl rfl rfl rfl
    apply ql_pass rfl rfl rfl rfl
    apply ql_pass rfl rfl rfl rfl
    apply ql_pass rfl rfl rfl rfl
    apply ql_plain rfl (op_pick rfl rfl)
    exact ql_nil
   ·rfl
   ·exact subk gh3
  apply aany_seg (p := 24) (q := 25) (by kernel_rfl) rfl (by decide)
  ·
   apply ql_plain rfl (op_move rfl)
   exact ql_nil
  ·simp
  apply aany_or 25 37 40 52 (by kernel_rfl) rfl (by decide) rfl (by simp)
  ·intro h4; have gh4 := h4
   simp only [nrm] at h4
   apply ql_ex
   ·
    apply ql_take rfl rfl rfl rfl (op_move rfl)
    apply ql_take rfl rfl rfl rfl (op_move rfl)
    apply ql_take rfl rfl rfl rfl (op_im u22 info65)
    apply ql_take rfl rfl rfl rfl (op_field_rptr u65 rfl info3 (by decide) rfl rfl)
    apply ql_take rfl rfl rfl rfl (op_load_rptr u3 info3 rfl rfl)
    apply ql_take rfl rfl rfl rfl (op_move rfl)
    apply ql_take rfl rfl rfl rfl (op_move rfl)
    apply ql_take rfl rfl rfl rfl (op_im u22 info65)
    apply ql_take rfl rfl rfl rfl (op_field_rptr u65 rfl info3 (by decide) rfl rfl)
    apply ql_take rfl rfl rfl rfl (op_load_rptr u3 info3 rfl rfl)
    apply ql_take rfl rfl rfl rfl (op_neq rfl rfl)
    apply ql_plain rfl (op_pick rfl rfl)
    exact ql_nil
   ·rfl
   ·exact subk gh4
  ·intro h4; have gh4 := h4
   simp only [nrm] at h4
   apply ql_ex
   ·
    apply ql_pass rfl rfl rfl rfl
    apply ql_pass rfl rfl rfl rfl
    apply ql_pass rfl rfl rfl rfl
    apply ql_pass rfl rfl rfl rfl
    apply ql_pass rfl rfl rfl rfl
    apply ql_pass rfl rfl rfl rfl
    apply ql_pass rfl rfl rfl rfl
    apply ql_pass rfl rfl rfl rfl
    apply ql_pass rfl rfl rfl rfl
    apply ql_pass rfl rfl rfl rfl
    apply ql_pass rfl rfl rfl rfl
    apply ql_plain rfl (op_pick rfl rfl)
    exact ql_nil
   ·rfl
   ·exact subk gh4
  refine aany_end rfl (by kernel_rfl) ?_
  refine aw_cond rfl (fun h5 => ?_) (fun h5 => ?_)
  ·have gh5 := h5
   simp only [nrm] at h5
   refine aw_sr ?_
   refine al_gs ?_
   refine al_nil ?_
   refine fz1 (t := 4) ?_
   refine aw_ret ?_
   refine ⟨_, res_1 rfl rfl, ?_, rfl⟩
   rw [alike_no i (by omega) (by omega) gh5]
  have gh5 := h5
  simp only [nrm] at h5
  refine aw_skip ?_
  refine aw_region ?_
  refine al_ad ?_
  refine al_mv ?_
  refine al_nil ?_
  refine ⟨i + 1, ?_, ?_, ?_, ?_, ?_⟩
  ·omega
  ·exact ⟨by omega, alike_more hinv.2 gh5⟩
  ·refine sub_1 ?_
   all_goals (first | rfl | simp)
  ·exact sbl
  ·rfl
 have gh2 := h2
 simp only [nrm] at h2
 refine aw_exit ?_
 obtain rfl : i = a.length := by omega
 have hall := hinv.2
 refine aw_sr ?_
 refine al_gs ?_
 refine al_nil ?_
 refine fz1 (t := 4) ?_
 refine aw_ret ?_
 refine ⟨_, res_1 rfl rfl, ?_, rfl⟩
 rw [alike_yes gh1 hall]
end Go.Proofs.YtcgdlhkiecommaaGreatDoor
/- Printed walks (gen.py, lexer_ann.py): part 401. -/






namespace Go.Proofs.YtcgdlhkiecommaaGreatDoor
open Go
theorem e_text (t : Tk) (ht : OKT t) : ACp Tryz.prog 141 [.agg (encK t)] (.v (.string (str (textT t)))) := by
 refine acp_of rfl ?_
 obtain ⟨t1, t2, t3⟩ := ht
 refine ace 11 Tryz.func141 ?_
 refine aw_sr ?_
 refine al_bx 1 fun ver1 => ?_
 refine al_gs ?_
 refine al_nil ?_
 refine aw_seq ?_
 refine aw_sr ?_
 refine al_fp u65 info63 ?_
 refine al_ld u63 info63 ?_
 refine al_eq ?_
 refine al_nil ?_
 refine aw_cond rfl (fun h1 => ?_) (fun h1 => ?_)
 ·have gh1 := h1
  simp only [nrm] at h1
  refine aw_sr ?_
  refine al_fp u65 info3 ?_
  refine al_ld u3 info3 ?_
  refine al_callp into151 rfl rfl rfl ((q_itoa _ (by first | assumption | omega | (simp; done) | (simp; omega) | decide) (by first | assumption | omega | (simp; done) | (simp; omega) | decide)) _) (by simp) ?_
  refine al_gs ?_
  refine al_nil ?_
  refine fz1 (t := 2) ?_
  refine aw_ret ?_
  refine ⟨_, res_1 rfl rfl, ?_, rfl⟩
  rw [textT, gh1]; rfl
 have gh1 := h1
 simp only [nrm] at h1
 refine aw_skip ?_
 refine aw_sr ?_
 refine al_fp u65 info9 ?_
 refine al_ld u9 info9 ?_
 refine al_gs ?_
 refine al_nil ?_
 refine fz1 (t := 2) ?_
 refine aw_ret ?_
 refine ⟨_, res_1 rfl rfl, ?_, rfl⟩
 rw [textT, gh1]; rfl
theorem e_token (v0 : Nat) (l : List Tk) (hl : OKTs l) (hn : l.length ≤ 1000000000) (i d : Nat) (hd : d ≤ 40) (hi : i ≤ l.length)  : AC Tryz.prog 91 [.ptr 0 v0 0 0] (rd v0 l i d []) (fun r σ' => r = .ret (.agg (encK (tokAt l i))) ∧ σ'.keep k0 = rd v0 l i d []) := by
 refine ace 24 Tryz.func91 ?_
 refine aw_sr ?_
 refine al_al 2 info65 fun ver2 => ?_
 refine al_nil ?_
 refine aw_seq ?_
 refine aw_seq ?_
 refine aw_any (Checked.mixed Tryz.checked) ?_
 apply aany_seg (p := 0) (q := 10) (by kernel_rfl) rfl (by decide)
 ·
  apply ql_plain rfl (op_move rfl)
  apply ql_plain rfl (op_nilCheck_ptr rfl rfl)
  apply ql_plain rfl (op_field_ptr u105 rfl info3 (by decide) rfl rfl rfl)
  apply ql_plain rfl (op_load_ptr u3 info3 rfl rfl rfl rfl)
  apply ql_plain rfl (op_move rfl)
  apply ql_plain rfl (op_nilCheck_ptr rfl rfl)
  apply ql_plain rfl (op_field_ptr u105 rfl info22 (by decide) rfl rfl rfl)
  apply ql_plain rfl (op_load_ptr u22 info22 rfl rfl rfl rfl)
  apply ql_plain rfl (op_len_map u22 rfl)
  apply ql_plain rfl (op_lss rfl rfl)
  exact ql_nil
 ·simp
 refine aany_end rfl (by kernel_rfl) ?_
 refine aw_cond rfl (fun h1 => ?_) (fun h1 => ?_)
 ·have gh1 := h1
  simp only [nrm] at h1
  refine aw_seq ?_
  refine aw_any (Checked.mixed Tryz.checked) ?_
  apply aany_seg (p := 0) (q := 10) (by kernel_rfl) rfl (by decide)
  ·
   apply ql_plain rfl (op_move rfl)
   apply ql_plain rfl (op_nilCheck_ptr rfl rfl)
   apply ql_plain rfl (op_field_ptr u105 rfl info22 (by decide) rfl rfl rfl)
   apply ql_plain rfl (op_load_ptr u22 info22 rfl rfl rfl rfl)
   apply ql_plain rfl (op_move rfl)
   apply ql_plain rfl (op_nilCheck_ptr rfl rfl)
   apply ql_plain rfl (op_field_ptr u105 rfl info3 (by decide) rfl rfl rfl)
   apply ql_plain rfl (op_load_ptr u3 info3 rfl rfl rfl rfl)
   apply ql_plain rfl (op_im u22 info65)
   apply ql_plain rfl (op_load_rptr u65 info65 rfl rfl)
   exact ql_nil
  ·simp
  refine aany_op (by kernel_rfl) rfl rfl (op_sp info65) (by simp) ?_
  refine aany_end rfl (by kernel_rfl) ?_
  refine aw_ret ?_
  refine ⟨_, res_cell rfl u65 info65 rfl rfl rfl rfl, ?_⟩
  exact ⟨rfl, rfl⟩
 have gh1 := h1
 simp only [nrm] at h1
 refine aw_skip ?_
 refine aw_sr ?_
 refine al_o (op_bs u65 info65 place65) ?_
 refine al_sp info65 ?_
 refine al_nil ?_
 refine aw_ret ?_
 refine ⟨_, res_cell rfl u65 info65 rfl rfl rfl rfl, ?_⟩
 rw [tokAt_out (by omega)]; exact ⟨rfl, rfl⟩
theorem e_tokenA {σ : Store} (v0 : Nat) (l : List Tk) (hl : OKTs l) (hn : l.length ≤ 1000000000) (i d : Nat) (hd : d ≤ 40) (hi : i ≤ l.length) (h1 : σ.get 0 = some (v0, .row 7 [rdr l i d])) (hb : σ.below 1000 = true) : AC Tryz.prog 91 [.ptr 0 v0 0 0] σ (fun r σ' => r = .ret (.agg (encK (tokAt l i))) ∧ σ' = σ) :=
  rd_look rfl rfl (e_token v0 l hl hn i d hd hi ) h1 hb
theorem e_fail (v0 : Nat) (l : List Tk) (hl : OKTs l) (hn : l.length ≤ 1000000000) (i d : Nat) (hd : d ≤ 40) (hi : i ≤ l.length) (c : Int) : AC Tryz.prog 96 [.ptr 0 v0 0 0, .v (.int .i64 (c))] (rd v0 l i d []) (fun r σ' => RdK v0 l (d) encUnit (.bad (fltAt l c i)) r σ') := by
 refine ace 31 Tryz.func96 ?_
 refine aw_seq ?_
 refine aw_seq ?_
 refine aw_any (Checked.mixed Tryz.checked) ?_
 apply aany_seg (p := 0) (q := 10) (by kernel_rfl) rfl (by decide)
 ·
  apply ql_plain rfl (op_move rfl)
  apply ql_plain rfl (op_nilCheck_ptr rfl rfl)
  apply ql_plain rfl (op_field_ptr u105 rfl info3 (by decide) rfl rfl rfl)
  apply ql_plain rfl (op_load_ptr u3 info3 rfl rfl rfl rfl)
  apply ql_plain rfl (op_move rfl)
  apply ql_plain rfl (op_nilCheck_ptr rfl rfl)
  apply ql_plain rfl (op_field_ptr u105 rfl info22 (by decide) rfl rfl rfl)
  apply ql_plain rfl (op_load_ptr u22 info22 rfl rfl rfl rfl)
  apply ql_plain rfl (op_len_map u22 rfl)
  apply ql_plain rfl (op_geq rfl rfl)
  exact ql_nil
 ·simp
 refine aany_end rfl (by kernel_rfl) ?_
 refine aw_cond rfl (fun h1 => ?_) (fun h1 => ?_)
 ·have gh1 := h1
  simp only [nrm] at h1
  refine aw_region ?_
  refine al_mv ?_
  refine al_o (op_nilCheck_ptr rfl rfl) ?_
  refine al_fp u105 info40 ?_
  refine al_ld u40 info40 ?_
  refine al_o (op_iface_agg (vals := [.int .i64 12, .string (str []), .int .i64 0, .int .i64 0]) (by kernel_rfl) rfl) ?_
  refine al_panic rfl ?_
  rw [fltAt_end _ (by omega)]; exact rdk_bad (g := eofF) rfl rfl
 have gh1 := h1
 simp only [nrm] at h1
 refine aw_skip ?_
 refine aw_seq ?_
 have htk := tokAt_ok hl i
 refine aw_region ?_
 refine al_mv ?_
 refine al_callp into91 rfl rfl rfl (e_tokenA v0 l hl hn i d (by omega) (by omega)  rfl rfl) (by simp) ?_
 refine al_al 4 info65 fun ver4 => ?_
 refine al_sp info65 ?_
 refine al_nil ?_
 refine aw_any (Checked.mixed Tryz.checked) ?_
 apply aany_seg (p := 0) (q := 9) (by kernel_rfl) rfl (by decide)
 ·
  apply ql_plain rfl (op_move rfl)
  apply ql_plain rfl (op_load_ptr u65 info65 rfl rfl rfl rfl)
  apply ql_call into141 rfl rfl rfl (e_text (tokAt l i) htk _)
  apply ql_plain rfl (op_field_ptr u65 rfl info3 (by decide) rfl rfl rfl)
  apply ql_plain rfl (op_load_ptr u3 info3 rfl rfl rfl rfl)
  apply ql_plain rfl (op_field_ptr u65 rfl info3 (by decide) rfl rfl rfl)
  apply ql_plain rfl (op_load_ptr u3 info3 rfl rfl rfl rfl)
  apply ql_plain rfl (op_bs u40 info40 place40)
  apply ql_plain rfl (op_iface_agg (vals := [.int .i64 c, .string (str (textT (tokAt l i))), .int .i64 (tokAt l i).line, .int .i64 (tokAt l i).col]) (by kernel_rfl) rfl)
  exact ql_nil
 ·simp
 refine aany_panic (by kernel_rfl) rfl rfl ?_
 rw [fltAt_in _ (by omega)]; exact rdk_bad (g := ⟨c, textT (tokAt l i), (tokAt l i).line, (tokAt l i).col⟩) rfl rfl
theorem e_is (v0 : Nat) (l : List Tk) (hl : OKTs l) (hn : l.length ≤ 1000000000) (i d : Nat) (hd : d ≤ 40) (hi : i ≤ l.length) (ts : List Bs) (hts : ts.length ≤ 1000000) : AC Tryz.prog 90 [.ptr 0 v0 0 0, .list 1 (ts.map encBs)] (rd v0 l i d []) (fun r σ' => r = .ret (.v (.bool (isAt l ts i))) ∧ σ'.keep k0 = rd v0 l i d []) := by
 refine ace 22 Tryz.func90 ?_
 refine aw_sr ?_
 refine al_gs ?_
 refine al_sr ?_
 refine al_mv ?_
 refine al_callp into91 rfl rfl rfl (e_tokenA v0 l hl hn i d (by omega) (by omega)  rfl rfl) (by simp) ?_
 refine al_al 5 info65 fun ver5 => ?_
 refine al_sp info65 ?_
 refine al_sr ?_
 refine al_fp u65 info63 ?_
 refine al_ld u63 info63 ?_
 refine al_eq ?_
 refine al_mv ?_
 apply al_or 4 11 15 rfl
 ·intro h1; have gh1 := h1
  simp only [nrm] at h1
  refine tk_fp u65 info63 ?_
  refine tk_ld u63 info63 ?_
  refine tk_eq ?_
  refine al_pk ?_
  exact al_nk gh1
 ·intro h1; have gh1 := h1
  simp only [nrm] at h1
  iterate 3 refine al_ps ?_
  refine al_pk ?_
  exact al_nk gh1
 refine al_mv ?_
 apply al_and 5 16 21 rfl
 ·intro h2; have gh2 := h2
  simp only [nrm] at h2
  refine tk_mv ?_
  refine tk_fp u65 info9 ?_
  refine tk_ld u9 info9 ?_
  refine al_callp_take into61 rfl rfl rfl rfl rfl rfl ((q_member _ _ (by first | assumption | omega | (simp; done) | (simp; omega) | decide)) _) (by simp) ?_
  refine al_pk ?_
  exact al_nk gh2
 ·intro h2; have gh2 := h2
  simp only [nrm] at h2
  iterate 4 refine al_ps ?_
  refine al_pk ?_
  exact al_nk gh2
 refine al_gs ?_
 refine al_nil ?_
 refine aw_ret ?_
 refine ⟨_, res_1 rfl rfl, ?_⟩
 exact ⟨rfl, rfl⟩
theorem e_isA {σ : Store} (v0 : Nat) (l : List Tk) (hl : OKTs l) (hn : l.length ≤ 1000000000) (i d : Nat) (hd : d ≤ 40) (hi : i ≤ l.length) (ts : List Bs) (hts : ts.length ≤ 1000000)(h1 : σ.get 0 = some (v0, .row 7 [rdr l i d])) (hb : σ.below 1000 = true) : AC Tryz.prog 90 [.ptr 0 v0 0 0, .list 1 (ts.map encBs)] σ (fun r σ' => r = .ret (.v (.bool (isAt l ts i))) ∧ σ' = σ) :=
  rd_look rfl rfl (e_is v0 l hl hn i d hd hi ts hts) h1 hb
theorem e_take (v0 : Nat) (l : List Tk) (hl : OKTs l) (hn : l.length ≤ 1000000000) (i d : Nat) (hd : d ≤ 40) (hi : i ≤ l.length) (ts : List Bs) (hts : ts.length ≤ 1000000) : AC Tryz.prog 140 [.ptr 0 v0 0 0, .list 1 (ts.map encBs)] (rd v0 l i d []) (fun r σ' => RdK v0 l (d) (fun b => .v (.bool b)) (.ok (isAt l ts i) (if isAt l ts i = true then i + 1 else i)) r σ') := by
 refine ace 16 Tryz.func140 ?_
 refine aw_sr ?_
 refine al_gs ?_
 refine al_nil ?_
 refine aw_seq ?_
 refine aw_sr ?_
 refine al_mv ?_
 refine al_mv ?_
 refine al_callp into90 rfl rfl rfl (e_isA v0 l hl hn i d (by omega) (by omega) ts hts rfl rfl) (by simp) ?_
 refine al_o (op_not rfl) ?_
 refine al_nil ?_
 refine aw_cond rfl (fun h1 => ?_) (fun h1 => ?_)
 ·have gh1 := h1
  simp only [nrm] at h1
  refine aw_sr ?_
  refine al_gs ?_
  refine al_nil ?_
  refine aw_ret ?_
  refine ⟨_, res_1 rfl rfl, ?_⟩
  have g : isAt l ts i = false := by simpa using gh1
  rw [g]; exact rdk_ok false i rfl rfl
 have gh1 := h1
 simp only [nrm] at h1
 refine aw_skip ?_
 refine aw_sr ?_
 refine al_mv ?_
 refine al_o (op_nilCheck_ptr rfl rfl) ?_
 refine al_fp u105 info3 ?_
 refine al_ld u3 info3 ?_
 refine al_ad ?_
 refine al_o (op_nilCheck_ptr rfl rfl) ?_
 refine al_fp u105 info3 ?_
 refine al_sp info3 ?_
 refine al_sr ?_
 refine al_gs ?_
 refine al_nil ?_
 refine aw_ret ?_
 refine ⟨_, res_1 rfl rfl, ?_⟩
 have g : isAt l ts i = true := by simpa using gh1
 rw [g]; exact rdk_ok true (i + 1) rfl rfl
theorem e_want (v0 : Nat) (l : List Tk) (hl : OKTs l) (hn : l.length ≤ 1000000000) (i d : Nat) (hd : d ≤ 40) (hi : i ≤ l.length) (s : Bs) : AC Tryz.prog 95 [.ptr 0 v0 0 0, .v (.string (str (s)))] (rd v0 l i d []) (fun r σ' => RdK v0 l (d) encUnit (wantP l s i) r σ') := by
 refine ace 11 Tryz.func95 ?_
 refine aw_sr ?_
 refine al_mv ?_
 refine al_mv ?_
 refine al_o (op_ol encBs [s] u32 info9) ?_
 refine al_call into140 rfl rfl rfl (rd_lift rfl (fun _ => rfl) (e_take v0 l hl hn i d hd hi [s] (by simp)) _ (by rfl)) (by simp) ?_; rintro _ _ (⟨g7, i7, d7, hx7, rfl, rfl⟩ | ⟨a7, j7, hx7, rfl, rfl⟩)
 ·cases hx7
 cases hx7
 refine al_o (op_not rfl) ?_
 refine al_nil ?_
 refine aw_cond rfl (fun h1 => ?_) (fun h1 => ?_)
 ·have gh1 := h1
  simp only [nrm] at h1
  refine aw_region ?_
  refine al_mv ?_
  have g : isAt l [s] i = false := by simpa using gh1
  rw [if_neg (by rw [g]; exact Bool.false_ne_true)]
  refine al_call into96 rfl rfl rfl (rd_lift rfl (fun _ => rfl) (e_fail v0 l hl hn i d hd hi 11) _ (by rfl)) (by simp) ?_; rintro _ _ (⟨g10, i10, d10, ⟨⟩, rfl, rfl⟩ | ⟨_, _, ⟨⟩, _⟩)
  exact rdk_bad (by rw [wantP, g]; rfl) rfl
 have gh1 := h1
 simp only [nrm] at h1
 refine aw_skip ?_
 refine ⟨_, res_0 rfl, ?_⟩
 have g : isAt l [s] i = true := by simpa using gh1
 exact rdk_ok () (i + 1) (want_yes g) (by rw [g]; rfl)
theorem e_kind (v0 : Nat) (l : List Tk) (hl : OKTs l) (hn : l.length ≤ 1000000000) (i d : Nat) (hd : d ≤ 40) (hi : i ≤ l.length) (k : Int) (hk : k ≠ 0) : AC Tryz.prog 81 [.ptr 0 v0 0 0, .v (.int .i64 (k))] (rd v0 l i d []) (fun r σ' => RdK v0 l (d) (fun t => .agg (encK t)) (kindP l k i) r σ') := by
 refine ace 22 Tryz.func81 ?_
 refine aw_sr ?_
 refine al_al 4 info65 fun ver4 => ?_
 refine al_sr ?_
 refine al_mv ?_
 refine al_callp into91 rfl rfl rfl (e_tokenA v0 l hl hn i d (by omega) (by omega)  rfl rfl) (by simp) ?_
 refine al_al 5 info65 fun ver5 => ?_
 refine al_sp info65 ?_
 refine al_nil ?_
 refine aw_seq ?_
 refine aw_sr ?_
 refine al_fp u65 info63 ?_
 refine al_ld u63 info63 ?_
 refine al_mv ?_
 refine al_o (op_neq rfl rfl) ?_
 refine al_nil ?_
 refine aw_cond rfl (fun h1 => ?_) (fun h1 => ?_)
 ·have gh1 := h1
  simp only [nrm] at h1
  refine aw_region ?_
  refine al_mv ?_
  refine al_call into96 rfl rfl rfl (rd_lift rfl (fun _ => rfl) (e_fail v0 l hl hn (i) (d) (by omega) (by omega) 11) _ (by rfl)) (by simp) ?_; rintro _ _ (⟨g13, i13, d13, ⟨⟩, rfl, rfl⟩ | ⟨_, _, ⟨⟩, _⟩)
  have g : ((tokAt l i).op == k) = false := by simpa using gh1
  exact rdk_bad (by rw [kindP, g]; rfl) rfl
 have gh1 := h1
 simp only [nrm] at h1
 refine aw_skip ?_
 refine aw_seq ?_
 have g : ((tokAt l i).op == k) = true := by simpa using gh1
 have hlt := op_lt (l := l) (i := i) (k := k) (by simpa using g) hk
 refine aw_region ?_
 refine al_mv ?_
 refine al_o (op_nilCheck_ptr rfl rfl) ?_
 refine al_fp u105 info3 ?_
 refine al_ld u3 info3 ?_
 refine al_ad ?_
 refine al_o (op_nilCheck_ptr rfl rfl) ?_
 refine al_fp u105 info3 ?_
 refine al_sp info3 ?_
 refine al_sr ?_
 refine al_ld u65 info65 ?_
 refine al_sp info65 ?_
 refine al_nil ?_
 refine aw_ret ?_
 refine ⟨_, res_cell rfl u65 info65 rfl rfl rfl rfl, ?_⟩
 exact rdk_ok (tokAt l i) (i + 1) (by rw [kindP, g]; rfl) rfl
theorem e_name (v0 : Nat) (l : List Tk) (hl : OKTs l) (hn : l.length ≤ 1000000000) (i d : Nat) (hd : d ≤ 40) (hi : i ≤ l.length)  : AC Tryz.prog 94 [.ptr 0 v0 0 0] (rd v0 l i d []) (fun r σ' => RdK v0 l (d) (fun t => .v (.string (str t.text))) (kindP l 1 i) r σ') := by
 refine ace 6 Tryz.func94 ?_
 refine aw_sr ?_
 refine al_gs ?_
 refine al_sr ?_
 refine al_mv ?_
 refine al_call into81 rfl rfl rfl (rd_lift rfl (fun _ => rfl) (e_kind v0 l hl hn i d hd hi 1 (by decide)) _ (by rfl)) (by simp) ?_; rintro _ _ (⟨g4, i4, d4, hx4, rfl, rfl⟩ | ⟨a4, j4, hx4, rfl, rfl⟩)
 ·exact rdk_bad (hx4) rfl
 refine al_o (op_field u65 rfl u9 info9 rfl rfl rfl) ?_
 refine al_gs ?_
 refine al_nil ?_
 refine aw_ret ?_
 refine ⟨_, res_1 rfl rfl, ?_⟩
 exact rdk_ok a4 j4 hx4 rfl
theorem e_here (v0 : Nat) (l : List Tk) (hl : OKTs l) (hn : l.length ≤ 1000000000) (i d : Nat) (hd : d ≤ 40) (hi : i ≤ l.length)  : AC Tryz.prog 89 [.ptr 0 v0 0 0] (rd v0 l i d []) (fun r σ' => r = .ret (.tuple [.v (.int .i64 ((tokAt l i).line)), .v (.int .i64 ((tokAt l i).col))]) ∧ σ'.keep k0 = rd v0 l i d []) := by
 refine ace 11 Tryz.func89 ?_
 refine aw_sr ?_
 refine al_gs ?_
 refine al_gs ?_
 refine al_sr ?_
 refine al_mv ?_
 refine al_callp into91 rfl rfl rfl (e_tokenA v0 l hl hn i d (by omega) (by omega)  rfl rfl) (by simp) ?_
 refine al_al 4 info65 fun ver4 => ?_
 refine al_sp info65 ?_
 refine al_nil ?_
 refine aw_seq ?_
 refine aw_any (Checked.mixed Tryz.checked) ?_
 apply aany_seg (p := 0) (q := 6) (by kernel_rfl) rfl (by decide)
 ·
  apply ql_plain rfl (op_field_ptr u65 rfl info3 (by decide) rfl rfl rfl)
  apply ql_plain rfl (op_load_ptr u3 info3 rfl rfl rfl rfl)
  apply ql_plain rfl (op_field_ptr u65 rfl info3 (by decide) rfl rfl rfl)
  apply ql_plain rfl (op_load_ptr u3 info3 rfl rfl rfl rfl)
  apply ql_plain rfl (op_assign rfl)
  apply ql_plain rfl (op_assign rfl)
  exact ql_nil
 ·simp
 refine aany_end rfl (by kernel_rfl) ?_
 refine aw_ret ?_
 refine ⟨_, res_2 rfl rfl rfl rfl rfl, ?_⟩
 exact ⟨rfl, rfl⟩
theorem e_hereA {σ : Store} (v0 : Nat) (l : List Tk) (hl : OKTs l) (hn : l.length ≤ 1000000000) (i d : Nat) (hd : d ≤ 40) (hi : i ≤ l.length) (h1 : σ.get 0 = some (v0, .row 7 [rdr l i d])) (hb : σ.below 1000 = true) : AC Tryz.prog 89 [.ptr 0 v0 0 0] σ (fun r σ' => r = .ret (.tuple [.v (.int .i64 ((tokAt l i).line)), .v (.int .i64 ((tokAt l i).col))]) ∧ σ' = σ) :=
  rd_look rfl rfl (e_here v0 l hl hn i d hd hi ) h1 hb
theorem e_into (v0 : Nat) (l : List Tk) (hl : OKTs l) (hn : l.length ≤ 1000000000) (i d : Nat) (hd : d ≤ 40) (hi : i ≤ l.length)  : AC Tryz.prog 139 [.ptr 0 v0 0 0] (rd v0 l i d []) (fun r σ' => RdK v0 l (d - 1) encUnit (intoP l d i) r σ') := by
 refine ace 23 Tryz.func139 ?_
 refine aw_seq ?_
 refine aw_sr ?_
 refine al_mv ?_
 refine al_o (op_nilCheck_ptr rfl rfl) ?_
 refine al_fp u105 info3 ?_
 refine al_ld u3 info3 ?_
 refine al_eq ?_
 refine al_nil ?_
 refine aw_cond rfl (fun h1 => ?_) (fun h1 => ?_)
 ·have gh1 := h1
  simp only [nrm] at h1
  refine aw_region ?_
  refine al_mv ?_
  refine al_call into96 rfl rfl rfl (rd_lift rfl (fun _ => rfl) (e_fail v0 l hl hn (i) (d) (by omega) (by omega) 23) _ (by rfl)) (by simp) ?_; rintro _ _ (⟨g8, i8, d8, ⟨⟩, rfl, rfl⟩ | ⟨_, _, ⟨⟩, _⟩)
  exact rdk_bad (by rw [intoP, if_pos (by omega)]) rfl
 have gh1 := h1
 simp only [nrm] at h1
 refine aw_skip ?_
 refine aw_sr ?_
 refine al_mv ?_
 refine al_o (op_nilCheck_ptr rfl rfl) ?_
 refine al_fp u105 info3 ?_
 refine al_ld u3 info3 ?_
 refine al_ad ?_
 refine al_o (op_nilCheck_ptr rfl rfl) ?_
 refine al_fp u105 info3 ?_
 refine al_sp info3 ?_
 refine al_nil ?_
 refine aw_region ?_
 refine al_mv ?_
 refine al_o (op_nilCheck_ptr rfl rfl) ?_
 refine al_fp u105 info3 ?_
 refine al_ld u3 info3 ?_
 refine al_ad ?_
 refine al_o (op_nilCheck_ptr rfl rfl) ?_
 refine al_fp u105 info3 ?_
 refine al_sp info3 ?_
 refine al_nil ?_
 refine ⟨_, res_0 rfl, ?_⟩
 have h0 : d ≠ 0 := by omega
 rw [rd_deep h0]; exact rdk_ok () (i + 1) (by rw [intoP, if_neg h0]) rfl
theorem e_open (v0 : Nat) (l : List Tk) (hl : OKTs l) (hn : l.length ≤ 1000000000) (i d : Nat) (hd : d ≤ 40) (hi : i ≤ l.length)  : AC Tryz.prog 92 [.ptr 0 v0 0 0] (rd v0 l i d []) (fun r σ' => RdK v0 l (d - 1) encUnit (openP l d i) r σ') := by
 refine ace 10 Tryz.func92 ?_
 refine aw_seq ?_
 refine aw_sr ?_
 refine al_mv ?_
 refine al_o (op_ol encBs [sOpen] u32 info9) ?_
 refine al_callp into90 rfl rfl rfl (e_isA v0 l hl hn i d (by omega) (by omega) [sOpen] (by decide) rfl rfl) (by simp) ?_
 refine al_o (op_not rfl) ?_
 refine al_nil ?_
 refine aw_cond rfl (fun h1 => ?_) (fun h1 => ?_)
 ·have gh1 := h1
  simp only [nrm] at h1
  refine aw_region ?_
  refine al_mv ?_
  refine al_call into96 rfl rfl rfl (rd_lift rfl (fun _ => rfl) (e_fail v0 l hl hn (i) (d) (by omega) (by omega) 11) _ (by rfl)) (by simp) ?_; rintro _ _ (⟨g7, i7, d7, ⟨⟩, rfl, rfl⟩ | ⟨_, _, ⟨⟩, _⟩)
  have g : isAt l [sOpen] i = false := by simpa using gh1
  exact rdk_bad (by rw [openP, g]; rfl) rfl
 have gh1 := h1
 simp only [nrm] at h1
 refine aw_skip ?_
 refine aw_region ?_
 refine al_mv ?_
 have g : isAt l [sOpen] i = true := by simpa using gh1
 refine al_call into139 rfl rfl rfl (rd_lift rfl (fun _ => rfl) (e_into v0 l hl hn i d hd hi) _ (by rfl)) (by simp) ?_; rintro _ _ (⟨g9, i9, d9, hx9, rfl, rfl⟩ | ⟨a9, j9, hx9, rfl, rfl⟩)
 ·exact rdk_bad (by rw [openP, g]; exact hx9) rfl
 refine al_nil ?_
 refine ⟨_, res_0 rfl, ?_⟩
 exact rdk_ok a9 j9 (by rw [openP, g]; exact hx9) rfl
theorem e_shut (v0 : Nat) (l : List Tk) (hl : OKTs l) (hn : l.length ≤ 1000000000) (i d : Nat) (hd : d ≤ 40) (hi : i ≤ l.length) (d' : Nat) (hdd : d' = d + 1) : AC Tryz.prog 93 [.ptr 0 v0 0 0] (rd v0 l i d []) (fun r σ' => RdK v0 l (d') encUnit (wantP l sShut i) r σ') := by
 refine ace 11 Tryz.func93 ?_
 refine aw_sr ?_
 refine al_mv ?_
 refine al_call into95 rfl rfl rfl (rd_lift rfl (fun _ => rfl) (e_want v0 l hl hn i d hd hi sShut) _ (by rfl)) (by simp) ?_; rintro _ _ (⟨g3, i3, d3, hx3, rfl, rfl⟩ | ⟨a3, j3, hx3, rfl, rfl⟩)
 ·exact rdk_bad (hx3) rfl
 refine al_nil ?_
 refine aw_region ?_
 refine al_mv ?_
 refine al_o (op_nilCheck_ptr rfl rfl) ?_
 refine al_fp u105 info3 ?_
 refine al_ld u3 info3 ?_
 refine al_o (op_sub rfl rfl (by first | exact wrap_i64 (by omega) (by omega))) ?_
 refine al_o (op_nilCheck_ptr rfl rfl) ?_
 refine al_fp u105 info3 ?_
 refine al_sp info3 ?_
 refine al_nil ?_
 refine ⟨_, res_0 rfl, ?_⟩
 have e : (40 - (d : Int) - 1) = 40 - (d' : Int) := by omega
 rw [e]; exact rdk_ok a3 j3 hx3 rfl
theorem e_level (k : Nat) (hk : k < 4) : ACp Tryz.prog 131 [.v (.int .i64 ((k : Nat) : Int))] (.list 1 ((levelL k).map encBs)) := by
 refine acp_of rfl ?_
 refine ace 11 Tryz.func131 ?_
 refine aw_sr ?_
 refine al_gs ?_
 refine al_sr ?_
 refine al_o (op_ol encBs (levelL 0) u32 info9) ?_
 refine al_o (op_ol encBs (levelL 1) u32 info9) ?_
 refine al_o (op_ol encBs (levelL 2) u32 info9) ?_
 refine al_o (op_ol encBs (levelL 3) u32 info9) ?_
 refine al_o (op_ol encSL levelsL u177 info32) ?_
 refine al_mv ?_
 refine al_o (op_index_map default u177 info32 rfl rfl rfl (by first | (with_reducible exact Int.toNat_natCast _) | rfl) (by omega) (by show _ < 4; omega)) ?_
 refine al_lr u32 info32 ?_
 refine al_gs ?_
 refine al_nil ?_
 refine aw_freeze (fun _ => false) (fsub_cons (t := 2) rfl (by first | exact .leaf _ _ (frz_whole rfl rfl (by first | rfl | (simp; done) | (simp; omega)) (clo_map (fun _ => rfl))) | exact .leaf _ _ (.vnil 1) | exact .leaf _ _ (.nil 1) | exact .leaf _ _ (.same _)) fsub_nil) ?_
 refine aw_ret ?_
 refine ⟨_, res_1 rfl rfl, ?_, rfl⟩
 rfl
end Go.Proofs.YtcgdlhkiecommaaGreatDoor
/- Printed walks (gen.py, lexer_ann.py): part 403. -/



namespace Go.Proofs.YtcgdlhkiecommaaGreatDoor
open Go
theorem e_slice (v0 : Nat) (l : List Tk) (hl : OKTs l) (hn : l.length ≤ 1000000000) (j d : Nat) (hd : d ≤ 40) (hj : j ≤ l.length) (hd0 : d ≠ 0) (hE : d ≠ 0 → ∀ v0 i, i ≤ l.length → AC Tryz.prog 40 [.ptr 0 v0 0 0] (rd v0 l i (d - 1) []) (RdK v0 l (d - 1) encX (rowD l (d - 1) 4 i))) (e high : Ex) (t : Tk) : AC Tryz.prog 177 [.ptr 0 v0 0 0, .agg (cellsE (e)), .agg (cellsE (high)), .v (.int .i64 (t.line)), .v (.int .i64 (t.col))] (rd v0 l j (d - 1) []) (fun r σ' => RdK v0 l (d) encX (sliceP l (innerD l d) e high t j) r σ') := by
 refine ace 25 Tryz.func177 ?_
 refine aw_sr ?_
 refine al_bx 6 fun ver6 => ?_
 refine al_bx 7 fun ver7 => ?_
 refine al_al 10 info37 fun ver10 => ?_
 refine al_sr ?_
 refine al_mv ?_
 refine al_call into95 rfl rfl rfl (rd_lift rfl (fun _ => rfl) (e_want v0 l hl hn j (d - 1) (by omega) hj sDownto) _ (by rfl)) (by simp) ?_; rintro _ _ (⟨g13, i13, d13, hx13, rfl, rfl⟩ | ⟨a13, j13, hx13, rfl, rfl⟩)
 ·exact rdk_bad (by rw [sliceP, hx13]) rfl
 obtain ⟨rfl, hat13⟩ := want_ok hx13
 have hlt13 := isAt_lt hat13
 refine al_sr ?_
 refine al_mv ?_
 refine al_call into40 rfl rfl rfl (rd_lift rfl (fun _ => rfl) (hE hd0 v0 (j + 1) (by omega)) _ (by rfl)) (by simp) ?_; rintro _ _ (⟨g15, i15, d15, hx15, rfl, rfl⟩ | ⟨a15, j15, hx15, rfl, rfl⟩)
 ·exact rdk_bad (by rw [sliceP, hx13]; simp only; rw [innerD_pos hd0, hx15]) rfl
 have hgt15 := innerD_gt (l := l) d _ _ _ (by rw [innerD_pos hd0]; exact hx15)
 have hy15 : innerD l d (j + 1) = .ok a15 j15 := by rw [innerD_pos hd0]; exact hx15
 refine al_al 11 info37 fun ver11 => ?_
 refine al_sp info37 ?_
 refine al_sr ?_
 refine al_mv ?_
 refine al_call into93 rfl rfl rfl (rd_lift rfl (fun _ => rfl) (e_shut v0 l hl hn j15 (d - 1) (by omega) (by omega) d (by omega)) _ (by rfl)) (by simp) ?_; rintro _ _ (⟨g17, i17, d17, hx17, rfl, rfl⟩ | ⟨a17, j17, hx17, rfl, rfl⟩)
 ·exact rdk_bad (by rw [sliceP, hx13]; simp only; rw [hy15]; simp only; rw [hx17]) rfl
 refine al_sr ?_
 refine al_ld u37 info37 ?_
 refine al_ld u37 info37 ?_
 refine al_ld u37 info37 ?_
 refine al_o (op_list encE [e, high, a15] u31 info37 rfl rfl (by decide) rfl (by decide) rfl (by first | rfl | (repeat (first | exact parts_nil | refine parts_cons rfl (by repeat (first | exact all_live_nil | refine all_live_clo rfl ?_ | refine all_live_slice rfl ?_ | refine all_live_map rfl ?_ | refine all_live_ptr rfl ?_)) ?_))) rfl rfl rfl (kids3 _ _ _)) ?_
 refine al_mv ?_
 refine al_mv ?_
 refine al_o (val_re (.agg (cellsE (mkE 7 [] 0 [] [e, high, a15] t))) (op_bs u37 info37 place37) (.agg _ _ (by repeat (first | exact reL_nil | refine reL_cons (.same _) ?_ | refine reL_cons (.vnil _) ?_)))) ?_
 refine al_sp info37 ?_
 refine al_nil ?_
 refine aw_ret ?_
 refine ⟨_, res_cell rfl u37 info37 rfl rfl rfl rfl, ?_⟩
 exact rdk_ok (mkE 7 [] 0 [] [e, high, a15] t) j17 (by rw [sliceP, hx13]; simp only; rw [hy15]; simp only; rw [hx17]) rfl
theorem e_part (v0 : Nat) (l : List Tk) (hl : OKTs l) (hn : l.length ≤ 1000000000) (i d : Nat) (hd : d ≤ 40) (hi : i ≤ l.length) (hE : d ≠ 0 → ∀ v0 i, i ≤ l.length → AC Tryz.prog 40 [.ptr 0 v0 0 0] (rd v0 l i (d - 1) []) (RdK v0 l (d - 1) encX (rowD l (d - 1) 4 i))) (e : Ex) : AC Tryz.prog 137 [.ptr 0 v0 0 0, .agg (cellsE (e))] (rd v0 l i d []) (fun r σ' => RdK v0 l (d) encX (partP l d (innerD l d) e i) r σ') := by
 refine ace 46 Tryz.func137 ?_
 refine aw_sr ?_
 refine al_bx 3 fun ver3 => ?_
 refine al_al 4 info37 fun ver4 => ?_
 refine al_sr ?_
 refine al_mv ?_
 refine al_callp into89 rfl rfl rfl (e_hereA v0 l hl hn i d (by omega) (by omega)  rfl rfl) (by simp) ?_
 refine al_mv ?_
 refine al_xt ?_
 refine al_xt ?_
 refine al_gs ?_
 refine al_gs ?_
 refine al_sr ?_
 refine al_mv ?_
 refine al_call into92 rfl rfl rfl (rd_lift rfl (fun _ => rfl) (e_open v0 l hl hn (i) d hd (by omega)) _ (by rfl)) (by simp) ?_; rintro _ _ (⟨g14, i14, d14, hx14, rfl, rfl⟩ | ⟨a14, j14, hx14, rfl, rfl⟩)
 ·exact rdk_bad (by rw [partP, hx14]) rfl
 obtain ⟨hd0, rfl, hop14⟩ := open_ok hx14
 have hlt14 := isAt_lt hop14
 refine al_sr ?_
 refine al_mv ?_
 refine al_call into40 rfl rfl rfl (rd_lift rfl (fun _ => rfl) (hE hd0 v0 (i + 1) (by omega)) _ (by rfl)) (by simp) ?_; rintro _ _ (⟨g16, i16, d16, hx16, rfl, rfl⟩ | ⟨a16, j16, hx16, rfl, rfl⟩)
 ·exact rdk_bad (by rw [partP, hx14]; simp only; rw [innerD_pos hd0, hx16]) rfl
 have hgt16 := innerD_gt (l := l) d _ _ _ (by rw [innerD_pos hd0]; exact hx16)
 have hy16 : innerD l d (i + 1) = .ok a16 j16 := by rw [innerD_pos hd0]; exact hx16
 refine al_al 7 info37 fun ver7 => ?_
 refine al_sp info37 ?_
 refine al_nil ?_
 refine aw_seq ?_
 refine aw_sr ?_
 refine al_mv ?_
 refine al_o (op_ol encBs [sDownto] u32 info9) ?_
 refine al_callp into90 rfl rfl rfl (e_isA v0 l hl hn j16 (d - 1) (by omega) (by omega) [sDownto] (by decide) rfl rfl) (by simp) ?_
 refine al_nil ?_
 refine aw_cond rfl (fun h1 => ?_) (fun h1 => ?_)
 ·have gh1 := h1
  refine aw_sr ?_
  refine al_mv ?_
  refine al_ld u37 info37 ?_
  refine al_ld u37 info37 ?_
  refine al_mv ?_
  refine al_mv ?_
  refine al_call into177 rfl rfl rfl (rd_lift rfl (fun _ => rfl) (e_slice v0 l hl hn j16 d hd (by omega) hd0 hE e a16 (tokAt l i)) _ (by rfl)) (by simp) ?_; rintro _ _ (⟨g25, i25, d25, hx25, rfl, rfl⟩ | ⟨a25, j25, hx25, rfl, rfl⟩)
  ·exact rdk_bad (by rw [partP, hx14]; simp only; rw [hy16]; simp only; rw [if_pos h1]; exact hx25) rfl
  refine al_sp info37 ?_
  refine al_nil ?_
  refine aw_ret ?_
  refine ⟨_, res_cell rfl u37 info37 rfl rfl rfl rfl, ?_⟩
  exact rdk_ok a25 j25 (by rw [partP, hx14]; simp only; rw [hy16]; simp only; rw [if_pos h1]; exact hx25) rfl
 have gh1 := h1
 refine aw_skip ?_
 refine aw_sr ?_
 refine al_mv ?_
 refine al_call into93 rfl rfl rfl (rd_lift rfl (fun _ => rfl) (e_shut v0 l hl hn j16 (d - 1) (by omega) (by omega) d (by omega)) _ (by rfl)) (by simp) ?_; rintro _ _ (⟨g27, i27, d27, hx27, rfl, rfl⟩ | ⟨a27, j27, hx27, rfl, rfl⟩)
 ·exact rdk_bad (by rw [partP, hx14]; simp only; rw [hy16]; simp only; rw [h1, if_neg Bool.false_ne_true, hx27]) rfl
 refine al_nil ?_
 refine aw_seq ?_
 refine aw_sr ?_
 refine al_fp u37 info25 ?_
 refine al_ld u25 info25 ?_
 refine al_eq ?_
 refine al_nil ?_
 refine aw_cond rfl (fun h2 => ?_) (fun h2 => ?_)
 ·have gh2 := h2
  simp only [nrm] at h2
  refine aw_sr ?_
  refine al_fp u37 info9 ?_
  refine al_ld u9 info9 ?_
  refine al_ld u37 info37 ?_
  refine al_o (op_list encE [a16] u31 info37 rfl rfl (by decide) rfl (by decide) rfl (by first | rfl | (repeat (first | exact parts_nil | refine parts_cons rfl (by repeat (first | exact all_live_nil | refine all_live_clo rfl ?_ | refine all_live_slice rfl ?_ | refine all_live_map rfl ?_ | refine all_live_ptr rfl ?_)) ?_))) rfl rfl rfl (kids1 _)) ?_
  refine al_fp u37 info3 ?_
  refine al_ld u3 info3 ?_
  refine al_fp u37 info3 ?_
  refine al_ld u3 info3 ?_
  refine al_o (val_re (.agg (cellsE (Ex.mk 5 e.name 0 [] va0 [a16] ty0 e.line e.col))) (op_bs u37 info37 place37) (.agg _ _ (by repeat (first | exact reL_nil | refine reL_cons (.same _) ?_ | refine reL_cons (.vnil _) ?_)))) ?_
  refine al_sp info37 ?_
  refine al_nil ?_
  refine aw_ret ?_
  refine ⟨_, res_cell rfl u37 info37 rfl rfl rfl rfl, ?_⟩
  exact rdk_ok (Ex.mk 5 e.name 0 [] va0 [a16] ty0 e.line e.col) j27 (by rw [partP, hx14]; simp only; rw [hy16]; simp only; rw [h1, if_neg Bool.false_ne_true, hx27]; simp only; rw [partE, gh2]; rfl) rfl
 have gh2 := h2
 simp only [nrm] at h2
 refine aw_skip ?_
 refine aw_sr ?_
 refine al_ld u37 info37 ?_
 refine al_ld u37 info37 ?_
 refine al_o (op_list encE [e, a16] u31 info37 rfl rfl (by decide) rfl (by decide) rfl (by first | rfl | (repeat (first | exact parts_nil | refine parts_cons rfl (by repeat (first | exact all_live_nil | refine all_live_clo rfl ?_ | refine all_live_slice rfl ?_ | refine all_live_map rfl ?_ | refine all_live_ptr rfl ?_)) ?_))) rfl rfl rfl (kids2 _ _)) ?_
 refine al_mv ?_
 refine al_mv ?_
 refine al_o (val_re (.agg (cellsE (mkE 6 [] 0 [] [e, a16] (tokAt l i)))) (op_bs u37 info37 place37) (.agg _ _ (by repeat (first | exact reL_nil | refine reL_cons (.same _) ?_ | refine reL_cons (.vnil _) ?_)))) ?_
 refine al_sp info37 ?_
 refine al_nil ?_
 refine aw_ret ?_
 refine ⟨_, res_cell rfl u37 info37 rfl rfl rfl rfl, ?_⟩
 exact rdk_ok (mkE 6 [] 0 [] [e, a16] (tokAt l i)) j27 (by rw [partP, hx14]; simp only; rw [hy16]; simp only; rw [h1, if_neg Bool.false_ne_true, hx27]; simp only; rw [partE, gh2]; rfl) rfl
theorem e_parts (v0 : Nat) (l : List Tk) (hl : OKTs l) (hn : l.length ≤ 1000000000) (i d : Nat) (hd : d ≤ 40) (hi : i ≤ l.length) (hE : d ≠ 0 → ∀ v0 i, i ≤ l.length → AC Tryz.prog 40 [.ptr 0 v0 0 0] (rd v0 l i (d - 1) []) (RdK v0 l (d - 1) encX (rowD l (d - 1) 4 i))) (e : Ex) : AC Tryz.prog 82 [.ptr 0 v0 0 0, .agg (cellsE (e))] (rd v0 l i d []) (fun r σ' => RdK v0 l (d) encX (partsP l d (innerD l d) (l.length - i) e i) r σ') := by
 refine ace 12 Tryz.func82 ?_
 refine aw_sr ?_
 refine al_bx 3 fun ver3 => ?_
 refine al_al 4 info37 fun ver4 => ?_
 refine al_nil ?_
 refine aw_seq ?_
 refine aw_block ?_
 refine aw_for2T (α := Ex) (β := Nat) [] [] (fun e2 j => l.length - j) (fun e2 j => j ≤ l.length ∧ partsP l d (innerD l d) (l.length - j) e2 j = partsP l d (innerD l d) (l.length - i) e i) (fun e2 j => ([] : Env)) (fun e2 j st => ([(0, v0, .row 7 [rdr l j d]), (3, ver3, .row 16 [cellsE e2]), (4, ver4, .row 16 [zeroE])] : Store)) (e) (i) ?_ ?_ ?_ (fun e2 j hinv => ?_)
 ·exact ⟨hi, rfl⟩
 ·exact sub_nil
 ·rfl
 refine aw_seq ?_
 refine aw_sr ?_
 refine al_mv ?_
 refine al_o (op_ol encBs [sOpen] u32 info9) ?_
 refine al_callp into90 rfl rfl rfl (e_isA v0 l hl hn j d (by omega) (by omega) [sOpen] (by decide) rfl rfl) (by simp) ?_
 refine al_nil ?_
 refine aw_cond rfl (fun h1 => ?_) (fun h1 => ?_)
 ·have gh1 := h1
  refine aw_skip ?_
  refine aw_block ?_
  refine aw_region ?_
  refine al_mv ?_
  refine al_ld u37 info37 ?_
  refine al_call into137 rfl rfl rfl (rd_lift rfl (fun _ => rfl) (e_part v0 l hl hn j d hd hinv.1 hE e2) _ (by rfl)) (by simp) ?_; rintro _ _ (⟨g10, i10, d10, hx10, rfl, rfl⟩ | ⟨a10, j10, hx10, rfl, rfl⟩)
  ·exact rdk_bad (by rw [← hinv.2]; exact parts_bad h1 hx10) rfl
  have hgt10 := part_gt (innerD_gt d) _ _ hx10
  refine al_sp info37 ?_
  refine al_nil ?_
  refine ⟨a10, j10, ?_, ?_, ?_, ?_, ?_⟩
  ·have := isAt_lt h1; omega
  ·exact ⟨by omega, (parts_step (innerD_gt d) h1 hx10).trans hinv.2⟩
  ·exact sub_nil
  ·exact sbl
  ·rfl
 have gh1 := h1
 refine aw_exit ?_
 refine aw_sr ?_
 refine al_ld u37 info37 ?_
 refine al_sp info37 ?_
 refine al_nil ?_
 refine aw_ret ?_
 refine ⟨_, res_cell rfl u37 info37 rfl rfl rfl rfl, ?_⟩
 exact rdk_ok e2 j (by rw [← hinv.2]; exact parts_stop h1) rfl
end Go.Proofs.YtcgdlhkiecommaaGreatDoor
/- Printed walks (gen.py, lexer_ann.py): part 404. -/



namespace Go.Proofs.YtcgdlhkiecommaaGreatDoor
open Go
theorem e_namedF (v0 : Nat) (l : List Tk) (hl : OKTs l) (hn : l.length ≤ 1000000000) (i d : Nat) (hd : d ≤ 40) (hi : i ≤ l.length) (hE : d ≠ 0 → ∀ v0 i, i ≤ l.length → AC Tryz.prog 40 [.ptr 0 v0 0 0] (rd v0 l i (d - 1) []) (RdK v0 l (d - 1) encX (rowD l (d - 1) 4 i)))  : AC Tryz.prog 196 [.ptr 0 v0 0 0] (rd v0 l i d []) (fun r σ' => RdF v0 l d (namedP l d (innerD l d) i) r σ') := by
 refine ace 70 Tryz.func196 ?_
 refine aw_sr ?_
 refine al_al 2 info37 fun ver2 => ?_
 refine al_sr ?_
 refine al_mv ?_
 refine al_call into81 rfl rfl rfl (rd_lift rfl (fun _ => rfl) (e_kind v0 l hl hn i d hd hi 1 (by decide)) _ (by rfl)) (by simp) ?_; rintro _ _ (⟨g9, i9, d9, hx9, rfl, rfl⟩ | ⟨a9, j9, hx9, rfl, rfl⟩)
 ·exact rdf_bad (by obtain ⟨g, rfl⟩ := kind_bad hx9; rw [namedP, g]; rfl) rfl
 obtain ⟨rfl, rfl, hop9⟩ := kind_ok hx9
 have hlt9 := op_lt (l := l) (i := i) (k := 1) (by simpa using hop9) (by decide)
 refine al_al 3 info65 fun ver3 => ?_
 refine al_sp info65 ?_
 refine al_sr ?_
 refine al_fp u65 info9 ?_
 refine al_ld u9 info9 ?_
 refine al_fp u65 info3 ?_
 refine al_ld u3 info3 ?_
 refine al_fp u65 info3 ?_
 refine al_ld u3 info3 ?_
 refine al_o (val_re (.agg (cellsE (mkE 4 (tokAt l i).text 0 [] [] (tokAt l i)))) (op_bs u37 info37 place37) (.agg _ _ (by repeat (first | exact reL_nil | refine reL_cons (.same _) ?_ | refine reL_cons (.vnil _) ?_)))) ?_
 refine al_al 4 info37 fun ver4 => ?_
 refine al_sp info37 ?_
 refine al_nil ?_
 refine aw_seq ?_
 refine aw_sr ?_
 refine al_mv ?_
 refine al_o (op_ol encBs [sOpen] u32 info9) ?_
 refine al_callp into90 rfl rfl rfl (e_isA v0 l hl hn (i + 1) d (by omega) (by omega) [sOpen] (by decide) rfl rfl) (by simp) ?_
 refine al_o (op_not rfl) ?_
 refine al_nil ?_
 refine aw_cond rfl (fun h1 => ?_) (fun h1 => ?_)
 ·have gh1 := h1
  simp only [nrm] at h1
  refine aw_sr ?_
  refine al_ld u37 info37 ?_
  refine al_sp info37 ?_
  refine al_nil ?_
  refine aw_ret ?_
  refine ⟨_, res_cell rfl u37 info37 rfl rfl rfl rfl, ?_⟩
  exact rdf_ok (mkE 4 (tokAt l i).text 0 [] [] (tokAt l i)) (i + 1) (by rw [namedP, if_pos hop9]; rw [show isAt l [sOpen] (i + 1) = false by simpa using gh1]; rfl) (.one _ _ (.leaf _ _ (.same _))) rfl
 have gh1 := h1
 simp only [nrm] at h1
 refine aw_skip ?_
 refine aw_sr ?_
 refine al_mv ?_
 refine al_callp into89 rfl rfl rfl (e_hereA v0 l hl hn (i + 1) d (by omega) (by omega)  rfl rfl) (by simp) ?_
 refine al_mv ?_
 refine al_xt ?_
 refine al_xt ?_
 refine al_gs ?_
 refine al_gs ?_
 refine al_sr ?_
 refine al_mv ?_
 have hb : isAt l [sOpen] (i + 1) = true := by simpa using gh1
 refine al_call into92 rfl rfl rfl (rd_lift rfl (fun _ => rfl) (e_open v0 l hl hn (i + 1) d hd (by omega)) _ (by rfl)) (by simp) ?_; rintro _ _ (⟨g28, i28, d28, hx28, rfl, rfl⟩ | ⟨a28, j28, hx28, rfl, rfl⟩)
 ·exact rdf_bad (by rw [namedP, if_pos hop9]; rw [if_pos hb]; rw [hx28]) rfl
 obtain ⟨hd0, rfl, hop28⟩ := open_ok hx28
 have hlt28 := isAt_lt hop28
 refine al_sr ?_
 refine al_mv ?_
 refine al_call into40 rfl rfl rfl (rd_lift rfl (fun _ => rfl) (hE hd0 v0 (i + 1 + 1) (by omega)) _ (by rfl)) (by simp) ?_; rintro _ _ (⟨g30, i30, d30, hx30, rfl, rfl⟩ | ⟨a30, j30, hx30, rfl, rfl⟩)
 ·exact rdf_bad (by rw [namedP, if_pos hop9]; rw [if_pos hb]; rw [hx28]; simp only; rw [innerD_pos hd0, hx30]) rfl
 have hgt30 := innerD_gt (l := l) d _ _ _ (by rw [innerD_pos hd0]; exact hx30)
 have hy30 : innerD l d (i + 1 + 1) = .ok a30 j30 := by rw [innerD_pos hd0]; exact hx30
 refine al_al 7 info37 fun ver7 => ?_
 refine al_sp info37 ?_
 refine al_nil ?_
 refine aw_seq ?_
 refine aw_sr ?_
 refine al_mv ?_
 refine al_o (op_ol encBs [sDownto] u32 info9) ?_
 refine al_callp into90 rfl rfl rfl (e_isA v0 l hl hn j30 (d - 1) (by omega) (by omega) [sDownto] (by decide) rfl rfl) (by simp) ?_
 refine al_nil ?_
 refine aw_cond rfl (fun h2 => ?_) (fun h2 => ?_)
 ·have gh2 := h2
  refine aw_sr ?_
  refine al_mv ?_
  refine al_ld u37 info37 ?_
  refine al_ld u37 info37 ?_
  refine al_mv ?_
  refine al_mv ?_
  refine al_call into177 rfl rfl rfl (rd_lift rfl (fun _ => rfl) (e_slice v0 l hl hn j30 d hd (by omega) hd0 hE (mkE 4 (tokAt l i).text 0 [] [] (tokAt l i)) a30 (tokAt l (i + 1))) _ (by rfl)) (by simp) ?_; rintro _ _ (⟨g39, i39, d39, hx39, rfl, rfl⟩ | ⟨a39, j39, hx39, rfl, rfl⟩)
  ·exact rdf_bad (by rw [namedP, if_pos hop9]; rw [if_pos hb]; rw [hx28]; simp only; rw [hy30]; simp only; rw [if_pos h2]; exact hx39) rfl
  refine al_sp info37 ?_
  refine al_nil ?_
  refine aw_ret ?_
  refine ⟨_, res_cell rfl u37 info37 rfl rfl rfl rfl, ?_⟩
  exact rdf_ok a39 j39 (by rw [namedP, if_pos hop9]; rw [if_pos hb]; rw [hx28]; simp only; rw [hy30]; simp only; rw [if_pos h2]; exact hx39) (.one _ _ (.leaf _ _ (.same _))) rfl
 have gh2 := h2
 refine aw_skip ?_
 refine aw_seq ?_
 refine aw_plan [0, 2, 1, 3, 4, 5] (Checked.mixed Tryz.checked) (by kernel_rfl) ?_
 refine afl_float rfl rfl (opk_of (op_load_ptr u37 info37 rfl rfl rfl rfl)) (by simp) ?_
 refine afl_float rfl rfl (opk_of (op_field_ptr u37 rfl info25 (by decide) rfl rfl rfl)) (by simp) ?_
 refine afl_two 3 [1, 4, 5] rfl rfl rfl rfl (by kernel_rfl) (by kernel_rfl) (by simp) (by simp) (next_opR (op_list_own encE [a30] 41 u31 info37 rfl rfl (by decide) rfl (by decide) rfl (by first | rfl | (repeat (first | exact parts_nil | refine parts_cons rfl (by repeat (first | exact all_live_nil | refine all_live_clo rfl ?_ | refine all_live_slice rfl ?_ | refine all_live_map rfl ?_ | refine all_live_ptr rfl ?_)) ?_))) rfl rfl (by first | rfl | (repeat (first | exact parts_nil | refine parts_cons rfl (by repeat (first | exact all_live_nil | refine all_live_clo rfl ?_ | refine all_live_slice rfl ?_ | refine all_live_map rfl ?_ | refine all_live_ptr rfl ?_)) ?_))) (kids1 _) rfl) ?_) (next_opR (opR_of (op_sp info25)) ?_)
 ·rintro _ _ ⟨ver41, rfl, rfl⟩; refine ⟨?_, ?_⟩
  ·
   refine loose_k rfl (opk_of (op_field_ptr u37 rfl info25 (by decide) rfl rfl rfl)) ?_
   refine loose_anc 0 rfl (by kernel_rfl) ?_
   exact loose_nil
  (refine afl_eff rfl rfl (by kernel_rfl) (op_sp info25) (by simp) ?_ ?_)
  ·
   refine loose_fix rfl ?_
   refine loose_anc 2 rfl (by kernel_rfl) ?_
   refine loose_k rfl (opk_of (op_load_ptr u37 info37 rfl rfl rfl rfl)) ?_
   exact loose_nil
  refine afl_float rfl rfl (opk_of (op_field_ptr u37 rfl info31 (by decide) rfl rfl rfl)) (by simp) ?_
  (refine afl_eff rfl rfl (by kernel_rfl) (op_sp info31) (by simp) ?_ ?_)
  ·
   refine loose_anc 4 rfl (by kernel_rfl) ?_
   refine loose_fix rfl ?_
   refine loose_fix rfl ?_
   refine loose_anc 2 rfl (by kernel_rfl) ?_
   refine loose_anc 0 rfl (by kernel_rfl) ?_
   exact loose_nil
  refine afl_end ?_
  refine aw_seq ?_
  refine aw_block ?_
  refine aw_for3T (α := List Ex) (β := Nat) (γ := Nat) [] [] (fun kids j ver => l.length - j) (fun kids j ver => j ≤ l.length ∧ kids.length ≤ 20 ∧ argsP l (innerD l d) (20 - kids.length) kids j = argsP l (innerD l d) 19 [a30] j30) (fun kids j ver => ([] : Env)) (fun kids j ver st => ([(0, v0, .row 7 [rdr l j (d - 1)]), (2, ver2, .row 16 [zeroE]), (3, ver3, .row 5 [encK (tokAt l i)]), (4, ver4, .row 16 [[.v (.int .i64 5), .v (.string (str (tokAt l i).text)), .v (.int .i64 0), .list 1 [], .v (.int .i64 0), .v (.int .i64 0), .list 1 [], .list 4 [], .slice 41 ver 0 (kids).length, .v (.int .i64 0), .v (.int .i64 0), .v (.string (str [])), .list 1 [], .list 5 [], .v (.int .i64 (tokAt l i).line), .v (.int .i64 (tokAt l i).col)]]), (7, ver7, .row 16 [cellsE a30]), (41, ver, .row 16 (kids.map encE))] : Store)) ([a30]) (j30) (ver41) ?_ ?_ ?_ (fun kids j ver hinv => ?_)
  ·exact ⟨by omega, by simp, rfl⟩
  ·exact sub_nil
  ·rfl
  refine aw_seq ?_
  refine aw_sr ?_
  refine al_mv ?_
  refine al_o (op_ol encBs [sComma] u32 info9) ?_
  refine al_callp into90 rfl rfl rfl (e_isA v0 l hl hn j (d - 1) (by omega) (by omega) [sComma] (by decide) rfl rfl) (by simp) ?_
  refine al_nil ?_
  refine aw_cond rfl (fun h3 => ?_) (fun h3 => ?_)
  ·have gh3 := h3
   refine aw_skip ?_
   refine aw_block ?_
   refine aw_seq ?_
   refine aw_sr ?_
   refine al_fp u37 info31 ?_
   refine al_ld u31 info31 ?_
   refine al_o (op_len_slice u31 rfl rfl) ?_
   refine al_eq ?_
   refine al_nil ?_
   refine aw_cond rfl (fun h4 => ?_) (fun h4 => ?_)
   ·have gh4 := h4
    simp only [nrm] at h4
    refine aw_region ?_
    refine al_mv ?_
    refine al_call into96 rfl rfl rfl (rd_lift rfl (fun _ => rfl) (e_fail v0 l hl hn j (d - 1) (by omega) hinv.1 11) _ (by rfl)) (by simp) ?_; rintro _ _ (⟨g52, i52, d52, ⟨⟩, rfl, rfl⟩ | ⟨_, _, ⟨⟩, _⟩)
    exact rdf_bad (by rw [namedP, if_pos hop9]; rw [if_pos hb]; rw [hx28]; simp only; rw [hy30]; simp only; rw [h2, if_neg Bool.false_ne_true]; rw [← hinv.2.2, args_full h3 (by omega)]) rfl
   have gh4 := h4
   simp only [nrm] at h4
   refine aw_skip ?_
   refine aw_seq ?_
   have hltj := isAt_lt h3
   have hk20 : kids.length < 20 := by omega
   refine aw_region ?_
   refine al_mv ?_
   refine al_o (op_nilCheck_ptr rfl rfl) ?_
   refine al_fp u105 info3 ?_
   refine al_ld u3 info3 ?_
   refine al_ad ?_
   refine al_o (op_nilCheck_ptr rfl rfl) ?_
   refine al_fp u105 info3 ?_
   refine al_sp info3 ?_
   refine al_nil ?_
   refine aw_plan [0, 1, 2, 3, 4, 5, 6, 7] (Checked.mixed Tryz.checked) (by kernel_rfl) ?_
   refine afl_float rfl rfl (opk_of (op_field_ptr u37 rfl info31 (by decide) rfl rfl rfl)) (by simp) ?_
   refine afl_float rfl rfl (opk_of (op_load_ptr u31 info31 rfl rfl rfl rfl)) (by simp) ?_
   refine afl_float rfl rfl (opk_of (op_move rfl)) (by simp) ?_
   refine afl_callP rfl (by kernel_rfl) into40 rfl rfl rfl (rd_lift rfl (fun _ => rfl) (hE hd0 v0 (j + 1) (by omega)) _ (by rfl)) (by simp) ?_; rintro _ _ (⟨g63, i63, d63, hx63, rfl, rfl⟩ | ⟨a63, j63, hx63, rfl, rfl⟩)
   ·exact rdf_bad (by rw [namedP, if_pos hop9]; rw [if_pos hb]; rw [hx28]; simp only; rw [hy30]; simp only; rw [h2, if_neg Bool.false_ne_true]; rw [← hinv.2.2, args_bad h3 (by omega) (g := g63) (by rw [innerD_pos hd0]; exact hx63)]) rfl
   have hgt63 := innerD_gt (l := l) d _ _ _ (by rw [innerD_pos hd0]; exact hx63)
   have hy63 : innerD l d (j + 1) = .ok a63 j63 := by rw [innerD_pos hd0]; exact hx63
   refine ⟨?_, ?_⟩
   ·
    refine loose_anc 2 rfl (by kernel_rfl) ?_
    refine loose_k rfl (opk_of (op_load_ptr u31 info31 rfl rfl rfl rfl)) ?_
    refine loose_k rfl (opk_of (op_field_ptr u37 rfl info31 (by decide) rfl rfl rfl)) ?_
    exact loose_nil
   refine afl_float rfl rfl (opk_of (op_list encE [a63] u31 info37 rfl rfl (by decide) rfl (by decide) rfl (by first | rfl | (repeat (first | exact parts_nil | refine parts_cons rfl (by repeat (first | exact all_live_nil | refine all_live_clo rfl ?_ | refine all_live_slice rfl ?_ | refine all_live_map rfl ?_ | refine all_live_ptr rfl ?_)) ?_))) rfl rfl rfl (kids1 _))) (by simp) ?_
   (refine afl_effR rfl rfl (by kernel_rfl) (op_append_one a63 u31 u31 rfl info37 rfl rfl (by decide) rfl rfl rfl (by first | rfl | simp) rfl rfl (by first | omega | (simp; done) | (simp; omega)) (by show _ * 240 ≤ _; first | omega | (simp; done) | (simp; omega))) (by simp) ?_; rintro _ _ ⟨ver65, rfl, rfl⟩; refine ⟨?_, ?_⟩)
   ·
    refine loose_anc 4 rfl (by kernel_rfl) ?_
    refine loose_fix rfl ?_
    refine loose_anc 2 rfl (by kernel_rfl) ?_
    refine loose_anc 1 rfl (by kernel_rfl) ?_
    refine loose_anc 0 rfl (by kernel_rfl) ?_
    exact loose_nil
   refine afl_float rfl rfl (opk_of (op_field_ptr u37 rfl info31 (by decide) rfl rfl rfl)) (by simp) ?_
   (refine afl_eff rfl rfl (by kernel_rfl) (op_sp info31) (by simp) ?_ ?_)
   ·
    refine loose_anc 6 rfl (by kernel_rfl) ?_
    refine loose_fix rfl ?_
    refine loose_anc 4 rfl (by kernel_rfl) ?_
    refine loose_fix rfl ?_
    refine loose_anc 2 rfl (by kernel_rfl) ?_
    refine loose_anc 1 rfl (by kernel_rfl) ?_
    refine loose_anc 0 rfl (by kernel_rfl) ?_
    exact loose_nil
   refine afl_end ?_
   refine ⟨kids ++ [a63], j63, ver65, ?_, ?_, ?_, ?_, ?_⟩
   ·omega
   ·exact ⟨by omega, by simp; omega, (args_step h3 hk20 hy63).trans hinv.2.2⟩
   ·exact sub_nil
   ·exact sbl
   ·rfl
  have gh3 := h3
  refine aw_exit ?_
  refine aw_sr ?_
  refine al_mv ?_
  refine al_call into93 rfl rfl rfl (rd_lift rfl (fun _ => rfl) (e_shut v0 l hl hn j (d - 1) (by omega) hinv.1 d (by omega)) _ (by rfl)) (by simp) ?_; rintro _ _ (⟨g68, i68, d68, hx68, rfl, rfl⟩ | ⟨a68, j68, hx68, rfl, rfl⟩)
  ·exact rdf_bad (by rw [namedP, if_pos hop9]; rw [if_pos hb]; rw [hx28]; simp only; rw [hy30]; simp only; rw [h2, if_neg Bool.false_ne_true]; rw [← hinv.2.2, args_stop h3]; simp only; rw [hx68]) rfl
  refine al_sr ?_
  refine al_ld u37 info37 ?_
  refine al_sp info37 ?_
  refine al_nil ?_
  refine aw_ret ?_
  refine ⟨_, res_cell rfl u37 info37 rfl rfl rfl rfl, ?_⟩
  exact rdf_ok (mkE 5 (tokAt l i).text 0 [] kids (tokAt l i)) j68 (by rw [namedP, if_pos hop9]; rw [if_pos hb]; rw [hx28]; simp only; rw [hy30]; simp only; rw [h2, if_neg Bool.false_ne_true]; rw [← hinv.2.2, args_stop h3]; simp only; rw [hx68]) (.one _ _ (.agg _ _ (by repeat (first | exact frz2_nil | refine frz2_cons (.same _) ?_ | refine frz2_cons (frz_whole rfl rfl (by first | exact (List.length_map _).symm | rfl | (simp; done)) (clo_map encE_clo)) ?_)))) rfl
 ·rintro _ _ ⟨rfl, rfl⟩; refine ⟨?_, ?_⟩
  ·
   refine loose_anc 2 rfl (by kernel_rfl) ?_
   refine loose_k rfl (opk_of (op_load_ptr u37 info37 rfl rfl rfl rfl)) ?_
   exact loose_nil
  (refine afl_effR rfl rfl (by kernel_rfl) (op_list_own encE [a30] 41 u31 info37 rfl rfl (by decide) rfl (by decide) rfl (by first | rfl | (repeat (first | exact parts_nil | refine parts_cons rfl (by repeat (first | exact all_live_nil | refine all_live_clo rfl ?_ | refine all_live_slice rfl ?_ | refine all_live_map rfl ?_ | refine all_live_ptr rfl ?_)) ?_))) rfl rfl (by first | rfl | (repeat (first | exact parts_nil | refine parts_cons rfl (by repeat (first | exact all_live_nil | refine all_live_clo rfl ?_ | refine all_live_slice rfl ?_ | refine all_live_map rfl ?_ | refine all_live_ptr rfl ?_)) ?_))) (kids1 _) rfl) (by simp) ?_; rintro _ _ ⟨ver41, rfl, rfl⟩; refine ⟨?_, ?_⟩)
  ·
   refine loose_fix rfl ?_
   refine loose_k rfl (opk_of (op_field_ptr u37 rfl info25 (by decide) rfl rfl rfl)) ?_
   refine loose_anc 0 rfl (by kernel_rfl) ?_
   exact loose_nil
  refine afl_float rfl rfl (opk_of (op_field_ptr u37 rfl info31 (by decide) rfl rfl rfl)) (by simp) ?_
  (refine afl_eff rfl rfl (by kernel_rfl) (op_sp info31) (by simp) ?_ ?_)
  ·
   refine loose_anc 4 rfl (by kernel_rfl) ?_
   refine loose_fix rfl ?_
   refine loose_fix rfl ?_
   refine loose_anc 2 rfl (by kernel_rfl) ?_
   refine loose_anc 0 rfl (by kernel_rfl) ?_
   exact loose_nil
  refine afl_end ?_
  refine aw_seq ?_
  refine aw_block ?_
  refine aw_for3T (α := List Ex) (β := Nat) (γ := Nat) [44, 45, 46, 47, 48, 49, 50, 51, 52, 53, 54, 55, 56, 57, 58, 59, 60, 61, 62, 63, 64, 65, 66] [] (fun kids j ver => l.length - j) (fun kids j ver => j ≤ l.length ∧ kids.length ≤ 20 ∧ argsP l (innerD l d) (20 - kids.length) kids j = argsP l (innerD l d) 19 [a30] j30) (fun kids j ver => ([] : Env)) (fun kids j ver st => ([(0, v0, .row 7 [rdr l j (d - 1)]), (2, ver2, .row 16 [zeroE]), (3, ver3, .row 5 [encK (tokAt l i)]), (4, ver4, .row 16 [[.v (.int .i64 5), .v (.string (str (tokAt l i).text)), .v (.int .i64 0), .list 1 [], .v (.int .i64 0), .v (.int .i64 0), .list 1 [], .list 4 [], .slice 41 ver 0 (kids).length, .v (.int .i64 0), .v (.int .i64 0), .v (.string (str [])), .list 1 [], .list 5 [], .v (.int .i64 (tokAt l i).line), .v (.int .i64 (tokAt l i).col)]]), (7, ver7, .row 16 [cellsE a30]), (41, ver, .row 16 (kids.map encE))] : Store)) ([a30]) (j30) (ver41) ?_ ?_ ?_ (fun kids j ver hinv => ?_)
  ·exact ⟨by omega, by simp, rfl⟩
  ·exact sub_nil
  ·rfl
  refine aw_seq ?_
  refine aw_sr ?_
  refine al_mv ?_
  refine al_o (op_ol encBs [sComma] u32 info9) ?_
  refine al_callp into90 rfl rfl rfl (e_isA v0 l hl hn j (d - 1) (by omega) (by omega) [sComma] (by decide) rfl rfl) (by simp) ?_
  refine al_nil ?_
  refine aw_cond rfl (fun h5 => ?_) (fun h5 => ?_)
  ·have gh5 := h5
   have h3 := h5
   refine aw_skip ?_
   refine aw_block ?_
   refine aw_seq ?_
   refine aw_sr ?_
   refine al_fp u37 info31 ?_
   refine al_ld u31 info31 ?_
   refine al_o (op_len_slice u31 rfl rfl) ?_
   refine al_eq ?_
   refine al_nil ?_
   refine aw_cond rfl (fun h6 => ?_) (fun h6 => ?_)
   ·have gh6 := h6
    simp only [nrm] at h6
    have h4 := h6
    refine aw_region ?_
    refine al_mv ?_
    refine al_call into96 rfl rfl rfl (rd_lift rfl (fun _ => rfl) (e_fail v0 l hl hn j (d - 1) (by omega) hinv.1 11) _ (by rfl)) (by simp) ?_; rintro _ _ (⟨g52, i52, d52, ⟨⟩, rfl, rfl⟩ | ⟨_, _, ⟨⟩, _⟩)
    exact rdf_bad (by rw [namedP, if_pos hop9]; rw [if_pos hb]; rw [hx28]; simp only; rw [hy30]; simp only; rw [h2, if_neg Bool.false_ne_true]; rw [← hinv.2.2, args_full h3 (by omega)]) rfl
   have gh6 := h6
   simp only [nrm] at h6
   have h4 := h6
   refine aw_skip ?_
   refine aw_seq ?_
   have hltj := isAt_lt h3
   have hk20 : kids.length < 20 := by omega
   refine aw_region ?_
   refine al_mv ?_
   refine al_o (op_nilCheck_ptr rfl rfl) ?_
   refine al_fp u105 info3 ?_
   refine al_ld u3 info3 ?_
   refine al_ad ?_
   refine al_o (op_nilCheck_ptr rfl rfl) ?_
   refine al_fp u105 info3 ?_
   refine al_sp info3 ?_
   refine al_nil ?_
   refine aw_plan [0, 1, 2, 3, 4, 5, 6, 7] (Checked.mixed Tryz.checked) (by kernel_rfl) ?_
   refine afl_float rfl rfl (opk_of (op_field_ptr u37 rfl info31 (by decide) rfl rfl rfl)) (by simp) ?_
   refine afl_float rfl rfl (opk_of (op_load_ptr u31 info31 rfl rfl rfl rfl)) (by simp) ?_
   refine afl_float rfl rfl (opk_of (op_move rfl)) (by simp) ?_
   refine afl_callP rfl (by kernel_rfl) into40 rfl rfl rfl (rd_lift rfl (fun _ => rfl) (hE hd0 v0 (j + 1) (by omega)) _ (by rfl)) (by simp) ?_; rintro _ _ (⟨g63, i63, d63, hx63, rfl, rfl⟩ | ⟨a63, j63, hx63, rfl, rfl⟩)
   ·exact rdf_bad (by rw [namedP, if_pos hop9]; rw [if_pos hb]; rw [hx28]; simp only; rw [hy30]; simp only; rw [h2, if_neg Bool.false_ne_true]; rw [← hinv.2.2, args_bad h3 (by omega) (g := g63) (by rw [innerD_pos hd0]; exact hx63)]) rfl
   have hgt63 := innerD_gt (l := l) d _ _ _ (by rw [innerD_pos hd0]; exact hx63)
   have hy63 : innerD l d (j + 1) = .ok a63 j63 := by rw [innerD_pos hd0]; exact hx63
   refine ⟨?_, ?_⟩
   ·
    refine loose_anc 2 rfl (by kernel_rfl) ?_
    refine loose_k rfl (opk_of (op_load_ptr u31 info31 rfl rfl rfl rfl)) ?_
    refine loose_k rfl (opk_of (op_field_ptr u37 rfl info31 (by decide) rfl rfl rfl)) ?_
    exact loose_nil
   refine afl_float rfl rfl (opk_of (op_list encE [a63] u31 info37 rfl rfl (by decide) rfl (by decide) rfl (by first | rfl | (repeat (first | exact parts_nil | refine parts_cons rfl (by repeat (first | exact all_live_nil | refine all_live_clo rfl ?_ | refine all_live_slice rfl ?_ | refine all_live_map rfl ?_ | refine all_live_ptr rfl ?_)) ?_))) rfl rfl rfl (kids1 _))) (by simp) ?_
   (refine afl_effR rfl rfl (by kernel_rfl) (op_append_one a63 u31 u31 rfl info37 rfl rfl (by decide) rfl rfl rfl (by first | rfl | simp) rfl rfl (by first | omega | (simp; done) | (simp; omega)) (by show _ * 240 ≤ _; first | omega | (simp; done) | (simp; omega))) (by simp) ?_; rintro _ _ ⟨ver65, rfl, rfl⟩; refine ⟨?_, ?_⟩)
   ·
    refine loose_anc 4 rfl (by kernel_rfl) ?_
    refine loose_fix rfl ?_
    refine loose_anc 2 rfl (by kernel_rfl) ?_
    refine loose_anc 1 rfl (by kernel_rfl) ?_
    refine loose_anc 0 rfl (by kernel_rfl) ?_
    exact loose_nil
   refine afl_float rfl rfl (opk_of (op_field_ptr u37 rfl info31 (by decide) rfl rfl rfl)) (by simp) ?_
   (refine afl_eff rfl rfl (by kernel_rfl) (op_sp info31) (by simp) ?_ ?_)
   ·
    refine loose_anc 6 rfl (by kernel_rfl) ?_
    refine loose_fix rfl ?_
    refine loose_anc 4 rfl (by kernel_rfl) ?_
    refine loose_fix rfl ?_
    refine loose_anc 2 rfl (by kernel_rfl) ?_
    refine loose_anc 1 rfl (by kernel_rfl) ?_
    refine loose_anc 0 rfl (by kernel_rfl) ?_
    exact loose_nil
   refine afl_end ?_
   refine ⟨kids ++ [a63], j63, ver65, ?_, ?_, ?_, ?_, ?_⟩
   ·omega
   ·exact ⟨by omega, by simp; omega, (args_step h3 hk20 hy63).trans hinv.2.2⟩
   ·exact sub_nil
   ·exact sbl
   ·rfl
  have gh5 := h5
  have h3 := h5
  refine aw_exit ?_
  refine aw_sr ?_
  refine al_mv ?_
  refine al_call into93 rfl rfl rfl (rd_lift rfl (fun _ => rfl) (e_shut v0 l hl hn j (d - 1) (by omega) hinv.1 d (by omega)) _ (by rfl)) (by simp) ?_; rintro _ _ (⟨g68, i68, d68, hx68, rfl, rfl⟩ | ⟨a68, j68, hx68, rfl, rfl⟩)
  ·exact rdf_bad (by rw [namedP, if_pos hop9]; rw [if_pos hb]; rw [hx28]; simp only; rw [hy30]; simp only; rw [h2, if_neg Bool.false_ne_true]; rw [← hinv.2.2, args_stop h3]; simp only; rw [hx68]) rfl
  refine al_sr ?_
  refine al_ld u37 info37 ?_
  refine al_sp info37 ?_
  refine al_nil ?_
  refine aw_ret ?_
  refine ⟨_, res_cell rfl u37 info37 rfl rfl rfl rfl, ?_⟩
  exact rdf_ok (mkE 5 (tokAt l i).text 0 [] kids (tokAt l i)) j68 (by rw [namedP, if_pos hop9]; rw [if_pos hb]; rw [hx28]; simp only; rw [hy30]; simp only; rw [h2, if_neg Bool.false_ne_true]; rw [← hinv.2.2, args_stop h3]; simp only; rw [hx68]) (.one _ _ (.agg _ _ (by repeat (first | exact frz2_nil | refine frz2_cons (.same _) ?_ | refine frz2_cons (frz_whole rfl rfl (by first | exact (List.length_map _).symm | rfl | (simp; done)) (clo_map encE_clo)) ?_)))) rfl
theorem e_named (v0 : Nat) (l : List Tk) (hl : OKTs l) (hn : l.length ≤ 1000000000) (i d : Nat) (hd : d ≤ 40) (hi : i ≤ l.length) (hE : d ≠ 0 → ∀ v0 i, i ≤ l.length → AC Tryz.prog 40 [.ptr 0 v0 0 0] (rd v0 l i (d - 1) []) (RdK v0 l (d - 1) encX (rowD l (d - 1) 4 i))) : AC Tryz.prog 196 [.ptr 0 v0 0 0] (rd v0 l i d []) (RdK v0 l d encX (namedP l d (innerD l d) i)) := ac_rdf (e_namedF v0 l hl hn i d hd hi hE)
end Go.Proofs.YtcgdlhkiecommaaGreatDoor
/- Printed walks (gen.py, lexer_ann.py): part 405. -/



namespace Go.Proofs.YtcgdlhkiecommaaGreatDoor
open Go
theorem e_prim (v0 : Nat) (l : List Tk) (hl : OKTs l) (hn : l.length ≤ 1000000000) (i d : Nat) (hd : d ≤ 40) (hi : i ≤ l.length) (hE : d ≠ 0 → ∀ v0 i, i ≤ l.length → AC Tryz.prog 40 [.ptr 0 v0 0 0] (rd v0 l i (d - 1) []) (RdK v0 l (d - 1) encX (rowD l (d - 1) 4 i)))  : AC Tryz.prog 175 [.ptr 0 v0 0 0] (rd v0 l i d []) (fun r σ' => RdK v0 l (d) encX (primP l d (innerD l d) i) r σ') := by
 refine ace 65 Tryz.func175 ?_
 refine aw_sr ?_
 refine al_al 2 info37 fun ver2 => ?_
 refine al_sr ?_
 refine al_mv ?_
 refine al_callp into91 rfl rfl rfl (e_tokenA v0 l hl hn i d (by omega) (by omega)  rfl rfl) (by simp) ?_
 refine al_al 3 info65 fun ver3 => ?_
 refine al_sp info65 ?_
 refine al_sr ?_
 refine al_fp u65 info3 ?_
 refine al_ld u3 info3 ?_
 refine al_fp u65 info3 ?_
 refine al_ld u3 info3 ?_
 refine al_o (val_re (.agg (cellsE (mkE 0 [] 0 [] [] (tokAt l i)))) (op_bs u37 info37 place37) (.agg _ _ (by repeat (first | exact reL_nil | refine reL_cons (.same _) ?_ | refine reL_cons (.vnil _) ?_)))) ?_
 refine al_al 4 info37 fun ver4 => ?_
 refine al_sp info37 ?_
 refine al_nil ?_
 refine aw_seq ?_
 refine aw_sr ?_
 refine al_fp u65 info63 ?_
 refine al_ld u63 info63 ?_
 refine al_nil ?_
 refine aw_block ?_
 refine aw_sr ?_
 refine al_eq ?_
 refine al_gs ?_
 refine al_nil ?_
 refine aw_cond rfl (fun h1 => ?_) (fun h1 => ?_)
 ·have gh1 := h1
  simp only [nrm] at h1
  refine aw_plan [0, 1, 2, 3, 4, 5] (Checked.mixed Tryz.checked) (by kernel_rfl) ?_
  refine afl_float rfl rfl (opk_of (op_field_ptr u65 rfl info3 (by decide) rfl rfl rfl)) (by simp) ?_
  refine afl_float rfl rfl (opk_of (op_load_ptr u3 info3 rfl rfl rfl rfl)) (by simp) ?_
  refine afl_float rfl rfl (opk_of (op_field_ptr u37 rfl info25 (by decide) rfl rfl rfl)) (by simp) ?_
  (refine afl_eff rfl rfl (by kernel_rfl) (op_sp info25) (by simp) ?_ ?_)
  ·
   refine loose_anc 2 rfl (by kernel_rfl) ?_
   refine loose_k rfl (opk_of (op_load_ptr u3 info3 rfl rfl rfl rfl)) ?_
   refine loose_k rfl (opk_of (op_field_ptr u65 rfl info3 (by decide) rfl rfl rfl)) ?_
   exact loose_nil
  refine afl_float rfl rfl (opk_of (op_field_ptr u37 rfl info3 (by decide) rfl rfl rfl)) (by simp) ?_
  (refine afl_eff rfl rfl (by kernel_rfl) (op_sp info3) (by simp) ?_ ?_)
  ·
   refine loose_anc 4 rfl (by kernel_rfl) ?_
   refine loose_fix rfl ?_
   refine loose_anc 2 rfl (by kernel_rfl) ?_
   refine loose_anc 1 rfl (by kernel_rfl) ?_
   refine loose_anc 0 rfl (by kernel_rfl) ?_
   exact loose_nil
  refine afl_end ?_
  refine aw_seq ?_
  have hlt := prim_lt (l := l) (i := i) (by first | exact .inl gh1 | exact .inr (.inl gh2) | exact .inr (.inr gh3))
  refine aw_region ?_
  refine al_mv ?_
  refine al_o (op_nilCheck_ptr rfl rfl) ?_
  refine al_fp u105 info3 ?_
  refine al_ld u3 info3 ?_
  refine al_ad ?_
  refine al_o (op_nilCheck_ptr rfl rfl) ?_
  refine al_fp u105 info3 ?_
  refine al_sp info3 ?_
  refine al_sr ?_
  refine al_mv ?_
  refine al_ld u37 info37 ?_
  refine al_call into82 rfl rfl rfl (rd_lift rfl (fun _ => rfl) (e_parts v0 l hl hn (i + 1) d hd (by omega) hE (mkE 1 [] (tokAt l i).n [] [] (tokAt l i))) _ (by rfl)) (by simp) ?_; rintro _ _ (⟨g64, i64, d64, hx64, rfl, rfl⟩ | ⟨a64, j64, hx64, rfl, rfl⟩)
  ·exact rdk_bad (by rw [primP]; rw [gh1, if_pos rfl]; exact hx64) rfl
  refine al_sp info37 ?_
  refine al_nil ?_
  refine aw_ret ?_
  refine ⟨_, res_cell rfl u37 info37 rfl rfl rfl rfl, ?_⟩
  exact rdk_ok a64 j64 (by rw [primP]; rw [gh1, if_pos rfl]; exact hx64) rfl
 have gh1 := h1
 simp only [nrm] at h1
 refine aw_sr ?_
 refine al_eq ?_
 refine al_gs ?_
 refine al_nil ?_
 refine aw_cond rfl (fun h2 => ?_) (fun h2 => ?_)
 ·have gh2 := h2
  simp only [nrm] at h2
  refine aw_sr ?_
  refine al_fp u37 info25 ?_
  refine al_sp info25 ?_
  refine al_nil ?_
  refine aw_region ?_
  refine al_fp u65 info9 ?_
  refine al_ld u9 info9 ?_
  refine al_callp into153 rfl rfl rfl (c_parse (tokAt l i).text (by have := (tokAt_ok hl i).len; omega) _) (by simp) ?_
  refine al_mv ?_
  refine al_xt ?_
  refine al_xt ?_
  refine al_fp u37 info26 ?_
  refine al_sp info26 ?_
  refine al_nil ?_
  refine aw_seq ?_
  have hlt := prim_lt (l := l) (i := i) (by first | exact .inl gh1 | exact .inr (.inl gh2) | exact .inr (.inr gh3))
  refine aw_region ?_
  refine al_mv ?_
  refine al_o (op_nilCheck_ptr rfl rfl) ?_
  refine al_fp u105 info3 ?_
  refine al_ld u3 info3 ?_
  refine al_ad ?_
  refine al_o (op_nilCheck_ptr rfl rfl) ?_
  refine al_fp u105 info3 ?_
  refine al_sp info3 ?_
  refine al_sr ?_
  refine al_mv ?_
  refine al_ld u37 info37 ?_
  refine al_call into82 rfl rfl rfl (rd_lift rfl (fun _ => rfl) (e_parts v0 l hl hn (i + 1) d hd (by omega) hE (mkE 2 [] 0 (parseBits (tokAt l i).text) [] (tokAt l i))) _ (by rfl)) (by simp) ?_; rintro _ _ (⟨g64, i64, d64, hx64, rfl, rfl⟩ | ⟨a64, j64, hx64, rfl, rfl⟩)
  ·exact rdk_bad (by rw [primP]; rw [gh1, if_neg Bool.false_ne_true]; rw [gh2, if_pos rfl]; exact hx64) rfl
  refine al_sp info37 ?_
  refine al_nil ?_
  refine aw_ret ?_
  refine ⟨_, res_cell rfl u37 info37 rfl rfl rfl rfl, ?_⟩
  exact rdk_ok a64 j64 (by rw [primP]; rw [gh1, if_neg Bool.false_ne_true]; rw [gh2, if_pos rfl]; exact hx64) rfl
 have gh2 := h2
 simp only [nrm] at h2
 refine aw_sr ?_
 refine al_eq ?_
 refine al_gs ?_
 refine al_nil ?_
 refine aw_cond rfl (fun h3 => ?_) (fun h3 => ?_)
 ·have gh3 := h3
  simp only [nrm] at h3
  refine aw_sr ?_
  refine al_fp u37 info25 ?_
  refine al_sp info25 ?_
  refine al_nil ?_
  refine aw_region ?_
  refine al_fp u65 info9 ?_
  refine al_ld u9 info9 ?_
  refine al_callp into153 rfl rfl rfl (c_parse (tokAt l i).text (by have := (tokAt_ok hl i).len; omega) _) (by simp) ?_
  refine al_mv ?_
  refine al_xt ?_
  refine al_xt ?_
  refine al_fp u37 info26 ?_
  refine al_sp info26 ?_
  refine al_nil ?_
  refine aw_seq ?_
  have hlt := prim_lt (l := l) (i := i) (by first | exact .inl gh1 | exact .inr (.inl gh2) | exact .inr (.inr gh3))
  refine aw_region ?_
  refine al_mv ?_
  refine al_o (op_nilCheck_ptr rfl rfl) ?_
  refine al_fp u105 info3 ?_
  refine al_ld u3 info3 ?_
  refine al_ad ?_
  refine al_o (op_nilCheck_ptr rfl rfl) ?_
  refine al_fp u105 info3 ?_
  refine al_sp info3 ?_
  refine al_sr ?_
  refine al_mv ?_
  refine al_ld u37 info37 ?_
  refine al_call into82 rfl rfl rfl (rd_lift rfl (fun _ => rfl) (e_parts v0 l hl hn (i + 1) d hd (by omega) hE (mkE 3 [] 0 (parseBits (tokAt l i).text) [] (tokAt l i))) _ (by rfl)) (by simp) ?_; rintro _ _ (⟨g64, i64, d64, hx64, rfl, rfl⟩ | ⟨a64, j64, hx64, rfl, rfl⟩)
  ·exact rdk_bad (by rw [primP]; rw [gh1, if_neg Bool.false_ne_true]; rw [gh2, if_neg Bool.false_ne_true]; rw [gh3, if_pos rfl]; exact hx64) rfl
  refine al_sp info37 ?_
  refine al_nil ?_
  refine aw_ret ?_
  refine ⟨_, res_cell rfl u37 info37 rfl rfl rfl rfl, ?_⟩
  exact rdk_ok a64 j64 (by rw [primP]; rw [gh1, if_neg Bool.false_ne_true]; rw [gh2, if_neg Bool.false_ne_true]; rw [gh3, if_pos rfl]; exact hx64) rfl
 have gh3 := h3
 simp only [nrm] at h3
 refine aw_sr ?_
 refine al_eq ?_
 refine al_gs ?_
 refine al_nil ?_
 refine aw_cond rfl (fun h4 => ?_) (fun h4 => ?_)
 ·have gh4 := h4
  simp only [nrm] at h4
  refine aw_sr ?_
  refine al_mv ?_
  refine al_mv ?_
  refine al_call into196 rfl rfl rfl (rd_lift rfl (fun _ => rfl) (e_named v0 l hl hn i d hd hi hE) _ (by rfl)) (by simp) ?_; rintro _ _ (⟨g53, i53, d53, hx53, rfl, rfl⟩ | ⟨a53, j53, hx53, rfl, rfl⟩)
  ·exact rdk_bad (by rw [primP]; rw [gh1, if_neg Bool.false_ne_true]; rw [gh2, if_neg Bool.false_ne_true]; rw [gh3, if_neg Bool.false_ne_true]; rw [gh4, if_pos rfl]; rw [hx53]) rfl
  have hgt53 := named_gt (innerD_gt d) _ _ hx53
  refine al_call into82 rfl rfl rfl (rd_lift rfl (fun _ => rfl) (e_parts v0 l hl hn j53 d hd (by omega) hE a53) _ (by rfl)) (by simp) ?_; rintro _ _ (⟨g54, i54, d54, hx54, rfl, rfl⟩ | ⟨a54, j54, hx54, rfl, rfl⟩)
  ·exact rdk_bad (by rw [primP]; rw [gh1, if_neg Bool.false_ne_true]; rw [gh2, if_neg Bool.false_ne_true]; rw [gh3, if_neg Bool.false_ne_true]; rw [gh4, if_pos rfl]; rw [hx53]; exact hx54) rfl
  refine al_sp info37 ?_
  refine al_nil ?_
  refine aw_ret ?_
  refine ⟨_, res_cell rfl u37 info37 rfl rfl rfl rfl, ?_⟩
  exact rdk_ok a54 j54 (by rw [primP]; rw [gh1, if_neg Bool.false_ne_true]; rw [gh2, if_neg Bool.false_ne_true]; rw [gh3, if_neg Bool.false_ne_true]; rw [gh4, if_pos rfl]; rw [hx53]; exact hx54) rfl
 have gh4 := h4
 simp only [nrm] at h4
 refine aw_sr ?_
 refine al_mv ?_
 refine al_call into92 rfl rfl rfl (rd_lift rfl (fun _ => rfl) (e_open v0 l hl hn i d hd hi) _ (by rfl)) (by simp) ?_; rintro _ _ (⟨g15, i15, d15, hx15, rfl, rfl⟩ | ⟨a15, j15, hx15, rfl, rfl⟩)
 ·exact rdk_bad (by rw [primP]; rw [gh1, if_neg Bool.false_ne_true]; rw [gh2, if_neg Bool.false_ne_true]; rw [gh3, if_neg Bool.false_ne_true]; rw [gh4, if_neg Bool.false_ne_true]; rw [hx15]) rfl
 obtain ⟨hd0, rfl, hop15⟩ := open_ok hx15
 have hlt15 := isAt_lt hop15
 refine al_sr ?_
 refine al_mv ?_
 refine al_call into40 rfl rfl rfl (rd_lift rfl (fun _ => rfl) (hE hd0 v0 (i + 1) (by omega)) _ (by rfl)) (by simp) ?_; rintro _ _ (⟨g17, i17, d17, hx17, rfl, rfl⟩ | ⟨a17, j17, hx17, rfl, rfl⟩)
 ·exact rdk_bad (by rw [primP]; rw [gh1, if_neg Bool.false_ne_true]; rw [gh2, if_neg Bool.false_ne_true]; rw [gh3, if_neg Bool.false_ne_true]; rw [gh4, if_neg Bool.false_ne_true]; rw [hx15]; simp only; rw [innerD_pos hd0, hx17]) rfl
 have hgt17 := innerD_gt (l := l) d _ _ _ (by rw [innerD_pos hd0]; exact hx17)
 have hy17 : innerD l d (i + 1) = .ok a17 j17 := by rw [innerD_pos hd0]; exact hx17
 refine al_sp info37 ?_
 refine al_sr ?_
 refine al_mv ?_
 refine al_call into93 rfl rfl rfl (rd_lift rfl (fun _ => rfl) (e_shut v0 l hl hn j17 (d - 1) (by omega) (by omega) d (by omega)) _ (by rfl)) (by simp) ?_; rintro _ _ (⟨g19, i19, d19, hx19, rfl, rfl⟩ | ⟨a19, j19, hx19, rfl, rfl⟩)
 ·exact rdk_bad (by rw [primP]; rw [gh1, if_neg Bool.false_ne_true]; rw [gh2, if_neg Bool.false_ne_true]; rw [gh3, if_neg Bool.false_ne_true]; rw [gh4, if_neg Bool.false_ne_true]; rw [hx15]; simp only; rw [hy17]; simp only; rw [hx19]) rfl
 obtain ⟨rfl, hat19⟩ := want_ok hx19
 have hlt19 := isAt_lt hat19
 refine al_sr ?_
 refine al_mv ?_
 refine al_ld u37 info37 ?_
 refine al_call into82 rfl rfl rfl (rd_lift rfl (fun _ => rfl) (e_parts v0 l hl hn (j17 + 1) d hd (by omega) hE a17) _ (by rfl)) (by simp) ?_; rintro _ _ (⟨g22, i22, d22, hx22, rfl, rfl⟩ | ⟨a22, j22, hx22, rfl, rfl⟩)
 ·exact rdk_bad (by rw [primP]; rw [gh1, if_neg Bool.false_ne_true]; rw [gh2, if_neg Bool.false_ne_true]; rw [gh3, if_neg Bool.false_ne_true]; rw [gh4, if_neg Bool.false_ne_true]; rw [hx15]; simp only; rw [hy17]; simp only; rw [hx19]; exact hx22) rfl
 refine al_sp info37 ?_
 refine al_nil ?_
 refine aw_ret ?_
 refine ⟨_, res_cell rfl u37 info37 rfl rfl rfl rfl, ?_⟩
 exact rdk_ok a22 j22 (by rw [primP]; rw [gh1, if_neg Bool.false_ne_true]; rw [gh2, if_neg Bool.false_ne_true]; rw [gh3, if_neg Bool.false_ne_true]; rw [gh4, if_neg Bool.false_ne_true]; rw [hx15]; simp only; rw [hy17]; simp only; rw [hx19]; exact hx22) rfl
end Go.Proofs.YtcgdlhkiecommaaGreatDoor
/- Printed walks (gen.py, lexer_ann.py): part 406. -/



namespace Go.Proofs.YtcgdlhkiecommaaGreatDoor
open Go
theorem e_factor (v0 : Nat) (l : List Tk) (hl : OKTs l) (hn : l.length ≤ 1000000000) (i d : Nat) (hd : d ≤ 40) (hi : i ≤ l.length) (hF : d ≠ 0 → ∀ v0 i, i ≤ l.length → AC Tryz.prog 130 [.ptr 0 v0 0 0] (rd v0 l i (d - 1) []) (RdK v0 l (d - 1) encX (factor l (d - 1) i))) (hP : AC Tryz.prog 175 [.ptr 0 v0 0 0] (rd v0 l i (d) []) (RdK v0 l (d) encX (primP l d (innerD l d) i))) : AC Tryz.prog 130 [.ptr 0 v0 0 0] (rd v0 l i d []) (fun r σ' => RdK v0 l (d) encX (factor l d i) r σ') := by
 refine ace 33 Tryz.func130 ?_
 refine aw_sr ?_
 refine al_al 2 info37 fun ver2 => ?_
 refine al_nil ?_
 refine aw_seq ?_
 refine aw_sr ?_
 refine al_mv ?_
 refine al_o (op_ol encBs [sNot, sMinus] u32 info9) ?_
 refine al_callp into90 rfl rfl rfl (e_isA v0 l hl hn i d (by omega) (by omega) [sNot, sMinus] (by decide) rfl rfl) (by simp) ?_
 refine al_o (op_not rfl) ?_
 refine al_nil ?_
 refine aw_cond rfl (fun h1 => ?_) (fun h1 => ?_)
 ·have gh1 := h1
  simp only [nrm] at h1
  refine aw_sr ?_
  refine al_mv ?_
  refine al_call into175 rfl rfl rfl (rd_lift rfl (fun _ => rfl) (hP) _ (by rfl)) (by simp) ?_; rintro _ _ (⟨g10, i10, d10, hx10, rfl, rfl⟩ | ⟨a10, j10, hx10, rfl, rfl⟩)
  ·exact rdk_bad (by rw [factor_not l d i (by simpa using gh1)]; exact hx10) rfl
  refine al_sp info37 ?_
  refine al_nil ?_
  refine aw_ret ?_
  refine ⟨_, res_cell rfl u37 info37 rfl rfl rfl rfl, ?_⟩
  exact rdk_ok a10 j10 (by rw [factor_not l d i (by simpa using gh1)]; exact hx10) rfl
 have gh1 := h1
 simp only [nrm] at h1
 refine aw_skip ?_
 refine aw_sr ?_
 refine al_mv ?_
 refine al_callp into91 rfl rfl rfl (e_tokenA v0 l hl hn i d (by omega) (by omega)  rfl rfl) (by simp) ?_
 refine al_al 3 info65 fun ver3 => ?_
 refine al_sp info65 ?_
 refine al_sr ?_
 refine al_mv ?_
 have hat : isAt l [sNot, sMinus] i = true := by simpa using gh1
 have hlt := isAt_lt hat
 refine al_call into139 rfl rfl rfl (rd_lift rfl (fun _ => rfl) (e_into v0 l hl hn i d hd hi) _ (by rfl)) (by simp) ?_; rintro _ _ (⟨g14, i14, d14, hx14, rfl, rfl⟩ | ⟨a14, j14, hx14, rfl, rfl⟩)
 ·exact rdk_bad (fac_into hat hx14) rfl
 obtain ⟨hd0, rfl⟩ := into_ok hx14
 refine al_sr ?_
 refine al_mv ?_
 refine al_call into130 rfl rfl rfl (rd_lift rfl (fun _ => rfl) (hF hd0 v0 (i + 1) (by omega)) _ (by rfl)) (by simp) ?_; rintro _ _ (⟨g16, i16, d16, hx16, rfl, rfl⟩ | ⟨a16, j16, hx16, rfl, rfl⟩)
 ·exact rdk_bad (fac_bad hat hd0 hx16) rfl
 refine al_al 4 info37 fun ver4 => ?_
 refine al_sp info37 ?_
 refine al_sr ?_
 refine al_mv ?_
 refine al_o (op_nilCheck_ptr rfl rfl) ?_
 refine al_fp u105 info3 ?_
 refine al_ld u3 info3 ?_
 refine al_o (op_sub rfl rfl (by first | exact wrap_i64 (by omega) (by omega))) ?_
 refine al_o (op_nilCheck_ptr rfl rfl) ?_
 refine al_fp u105 info3 ?_
 refine al_sp info3 ?_
 refine al_sr ?_
 refine al_fp u65 info9 ?_
 refine al_ld u9 info9 ?_
 refine al_ld u37 info37 ?_
 refine al_o (op_list encE [a16] u31 info37 rfl rfl (by decide) rfl (by decide) rfl (by first | rfl | (repeat (first | exact parts_nil | refine parts_cons rfl (by repeat (first | exact all_live_nil | refine all_live_clo rfl ?_ | refine all_live_slice rfl ?_ | refine all_live_map rfl ?_ | refine all_live_ptr rfl ?_)) ?_))) rfl rfl rfl (kids1 _)) ?_
 refine al_fp u65 info3 ?_
 refine al_ld u3 info3 ?_
 refine al_fp u65 info3 ?_
 refine al_ld u3 info3 ?_
 refine al_o (val_re (.agg (cellsE (mkE 5 (tokAt l i).text 0 [] [a16] (tokAt l i)))) (op_bs u37 info37 place37) (.agg _ _ (by repeat (first | exact reL_nil | refine reL_cons (.same _) ?_ | refine reL_cons (.vnil _) ?_)))) ?_
 refine al_sp info37 ?_
 refine al_nil ?_
 refine aw_ret ?_
 refine ⟨_, res_cell rfl u37 info37 rfl rfl rfl rfl, ?_⟩
 rw [rd_back hd0]; exact rdk_ok (mkE 5 (tokAt l i).text 0 [] [a16] (tokAt l i)) j16 (fac_ok hat hd0 hx16) rfl
theorem e_row (v0 : Nat) (l : List Tk) (hl : OKTs l) (hn : l.length ≤ 1000000000) (i d : Nat) (hd : d ≤ 40) (hi : i ≤ l.length) (hF : ∀ v0 i, i ≤ l.length → AC Tryz.prog 130 [.ptr 0 v0 0 0] (rd v0 l i (d) []) (RdK v0 l (d) encX (factor l d i))) (m k : Nat) (hk : k + m = 4) (hR : m ≠ 0 → ∀ v0 i, i ≤ l.length → AC Tryz.prog 78 [.ptr 0 v0 0 0, .v (.int .i64 ((k + 1 : Nat) : Int))] (rd v0 l i (d) []) (RdK v0 l (d) encX (rowP l (factor l d) (m - 1) i))) : AC Tryz.prog 78 [.ptr 0 v0 0 0, .v (.int .i64 ((k : Nat) : Int))] (rd v0 l i d []) (fun r σ' => RdK v0 l (d) encX (rowP l (factor l d) m i) r σ') := by
 refine ace 44 Tryz.func78 ?_
 refine aw_sr ?_
 refine al_al 4 info37 fun ver4 => ?_
 refine al_nil ?_
 refine aw_seq ?_
 refine aw_sr ?_
 refine al_mv ?_
 refine al_eq ?_
 refine al_nil ?_
 refine aw_cond rfl (fun h1 => ?_) (fun h1 => ?_)
 ·have gh1 := h1
  simp only [nrm] at h1
  refine aw_sr ?_
  refine al_mv ?_
  refine al_call into130 rfl rfl rfl (rd_lift rfl (fun _ => rfl) (hF v0 i hi) _ (by rfl)) (by simp) ?_; rintro _ _ (⟨g10, i10, d10, hx10, rfl, rfl⟩ | ⟨a10, j10, hx10, rfl, rfl⟩)
  ·exact rdk_bad (by rw [show m = 0 by omega]; exact hx10) rfl
  refine al_sp info37 ?_
  refine al_nil ?_
  refine aw_ret ?_
  refine ⟨_, res_cell rfl u37 info37 rfl rfl rfl rfl, ?_⟩
  exact rdk_ok a10 j10 (by rw [show m = 0 by omega]; exact hx10) rfl
 have gh1 := h1
 simp only [nrm] at h1
 refine aw_skip ?_
 refine aw_sr ?_
 refine al_mv ?_
 refine al_mv ?_
 refine al_ad ?_
 have hm : m ≠ 0 := by omega
 refine al_call into78 rfl rfl rfl (rd_lift rfl (fun _ => rfl) (hR hm v0 i hi) _ (by rfl)) (by simp) ?_; rintro _ _ (⟨g14, i14, d14, hx14, rfl, rfl⟩ | ⟨a14, j14, hx14, rfl, rfl⟩)
 ·exact rdk_bad (row_bad hm hx14) rfl
 have hgt14 := row_gt (factor_gt d) _ _ _ _ hx14
 refine al_al 5 info37 fun ver5 => ?_
 refine al_sp info37 ?_
 refine al_nil ?_
 refine aw_seq ?_
 refine aw_block ?_
 refine aw_for2T (α := Ex) (β := Nat) [] [6] (fun left j => l.length - j) (fun left j => j ≤ l.length ∧ rowLoop l (rowP l (factor l d) (m - 1)) k (l.length - j) left j = rowP l (factor l d) m i) (fun left j => ([] : Env)) (fun left j st => ([(0, v0, .row 7 [rdr l j d]), (4, ver4, .row 16 [zeroE]), (5, ver5, .row 16 [cellsE left])] : Store)) (a14) (j14) ?_ ?_ ?_ (fun left j hinv => ?_)
 ·exact ⟨by omega, row_ok hm hk hx14⟩
 ·exact sub_nil
 ·rfl
 refine aw_seq ?_
 refine aw_sr ?_
 refine al_mv ?_
 refine al_mv ?_
 refine al_callp into131 rfl rfl rfl (e_level k (by omega) _) (by simp) ?_
 refine al_callp into90 rfl rfl rfl (e_isA v0 l hl hn j d (by omega) (by omega) (levelL k) (level_len k) rfl rfl) (by simp) ?_
 refine al_nil ?_
 refine aw_cond rfl (fun h2 => ?_) (fun h2 => ?_)
 ·have gh2 := h2
  refine aw_skip ?_
  refine aw_block ?_
  refine aw_seq ?_
  have hltj := isAt_lt h2
  refine aw_region ?_
  refine al_mv ?_
  refine al_callp into91 rfl rfl rfl (e_tokenA v0 l hl hn j d (by omega) (by omega)  rfl rfl) (by simp) ?_
  refine al_al 6 info65 fun ver6 => ?_
  refine al_sp info65 ?_
  refine al_sr ?_
  refine al_mv ?_
  refine al_o (op_nilCheck_ptr rfl rfl) ?_
  refine al_fp u105 info3 ?_
  refine al_ld u3 info3 ?_
  refine al_ad ?_
  refine al_o (op_nilCheck_ptr rfl rfl) ?_
  refine al_fp u105 info3 ?_
  refine al_sp info3 ?_
  refine al_nil ?_
  refine aw_seq ?_
  refine aw_plan [0, 1, 2, 3, 4, 5, 8, 9, 10, 11, 6, 7, 12, 13] (Checked.mixed Tryz.checked) (by kernel_rfl) ?_
  refine afl_float rfl rfl (opk_of (op_field_ptr u65 rfl info9 (by decide) rfl rfl rfl)) (by simp) ?_
  refine afl_float rfl rfl (opk_of (op_load_ptr u9 info9 rfl rfl rfl rfl)) (by simp) ?_
  refine afl_float rfl rfl (opk_of (op_load_ptr u37 info37 rfl rfl rfl rfl)) (by simp) ?_
  refine afl_float rfl rfl (opk_of (op_move rfl)) (by simp) ?_
  refine afl_float rfl rfl (opk_of (op_move rfl)) (by simp) ?_
  refine afl_float rfl rfl (opk_of (op_add rfl rfl (by first | exact wrap_i64 (by omega) (by omega)))) (by simp) ?_
  refine afl_float rfl rfl (opk_of (op_field_ptr u65 rfl info3 (by decide) rfl rfl rfl)) (by simp) ?_
  refine afl_float rfl rfl (opk_of (op_load_ptr u3 info3 rfl rfl rfl rfl)) (by simp) ?_
  refine afl_float rfl rfl (opk_of (op_field_ptr u65 rfl info3 (by decide) rfl rfl rfl)) (by simp) ?_
  refine afl_float rfl rfl (opk_of (op_load_ptr u3 info3 rfl rfl rfl rfl)) (by simp) ?_
  refine afl_callP rfl (by kernel_rfl) into78 rfl rfl rfl (rd_lift rfl (fun _ => rfl) (hR hm v0 (j + 1) (by omega)) _ (by rfl)) (by simp) ?_; rintro _ _ (⟨g34, i34, d34, hx34, rfl, rfl⟩ | ⟨a34, j34, hx34, rfl, rfl⟩)
  ·exact rdk_bad (by rw [← hinv.2]; exact loop_bad h2 hx34) rfl
  have hgt34 := row_gt (factor_gt d) _ _ _ _ hx34
  refine ⟨?_, ?_⟩
  ·
   refine loose_k rfl (opk_of (op_load_ptr u3 info3 rfl rfl rfl rfl)) ?_
   refine loose_k rfl (opk_of (op_field_ptr u65 rfl info3 (by decide) rfl rfl rfl)) ?_
   refine loose_k rfl (opk_of (op_load_ptr u3 info3 rfl rfl rfl rfl)) ?_
   refine loose_k rfl (opk_of (op_field_ptr u65 rfl info3 (by decide) rfl rfl rfl)) ?_
   refine loose_anc 5 rfl (by kernel_rfl) ?_
   refine loose_anc 4 rfl (by kernel_rfl) ?_
   refine loose_anc 3 rfl (by kernel_rfl) ?_
   refine loose_k rfl (opk_of (op_load_ptr u37 info37 rfl rfl rfl rfl)) ?_
   refine loose_k rfl (opk_of (op_load_ptr u9 info9 rfl rfl rfl rfl)) ?_
   refine loose_k rfl (opk_of (op_field_ptr u65 rfl info9 (by decide) rfl rfl rfl)) ?_
   exact loose_nil
  refine afl_float rfl rfl (opk_of (op_list encE [left, a34] u31 info37 rfl rfl (by decide) rfl (by decide) rfl (by first | rfl | (repeat (first | exact parts_nil | refine parts_cons rfl (by repeat (first | exact all_live_nil | refine all_live_clo rfl ?_ | refine all_live_slice rfl ?_ | refine all_live_map rfl ?_ | refine all_live_ptr rfl ?_)) ?_))) rfl rfl rfl (kids2 _ _))) (by simp) ?_
  refine afl_float rfl rfl (opk_of (val_re (.agg (cellsE (mkE 5 (tokAt l j).text 0 [] [left, a34] (tokAt l j)))) (op_bs u37 info37 place37) (.agg _ _ (by repeat (first | exact reL_nil | refine reL_cons (.same _) ?_ | refine reL_cons (.vnil _) ?_))))) (by simp) ?_
  (refine afl_eff rfl rfl (by kernel_rfl) (op_sp info37) (by simp) ?_ ?_)
  ·
   refine loose_anc 12 rfl (by kernel_rfl) ?_
   refine loose_anc 7 rfl (by kernel_rfl) ?_
   refine loose_fix rfl ?_
   refine loose_anc 11 rfl (by kernel_rfl) ?_
   refine loose_anc 10 rfl (by kernel_rfl) ?_
   refine loose_anc 9 rfl (by kernel_rfl) ?_
   refine loose_anc 8 rfl (by kernel_rfl) ?_
   refine loose_anc 5 rfl (by kernel_rfl) ?_
   refine loose_anc 4 rfl (by kernel_rfl) ?_
   refine loose_anc 3 rfl (by kernel_rfl) ?_
   refine loose_anc 2 rfl (by kernel_rfl) ?_
   refine loose_anc 1 rfl (by kernel_rfl) ?_
   refine loose_anc 0 rfl (by kernel_rfl) ?_
   exact loose_nil
  refine afl_end ?_
  refine aw_sr ?_
  refine al_mv ?_
  refine al_eq ?_
  refine al_nil ?_
  refine aw_cond rfl (fun h3 => ?_) (fun h3 => ?_)
  ·have gh3 := h3
   simp only [nrm] at h3
   refine aw_exit ?_
   refine aw_sr ?_
   refine al_ld u37 info37 ?_
   refine al_sp info37 ?_
   refine al_nil ?_
   refine aw_ret ?_
   refine ⟨_, res_cell rfl u37 info37 rfl rfl rfl rfl, ?_⟩
   exact rdk_ok (mkE 5 (tokAt l j).text 0 [] [left, a34] (tokAt l j)) j34 (by rw [← hinv.2]; exact loop_one h2 hx34 (by omega)) rfl
  have gh3 := h3
  simp only [nrm] at h3
  refine aw_skip ?_
  refine ⟨mkE 5 (tokAt l j).text 0 [] [left, a34] (tokAt l j), j34, ?_, ?_, ?_, ?_, ?_⟩
  ·omega
  ·exact ⟨by omega, (loop_step (row_gt (factor_gt d) _) h2 hx34 (by omega)).trans hinv.2⟩
  ·exact sub_nil
  ·exact sbl
  ·rfl
 have gh2 := h2
 refine aw_exit ?_
 refine aw_sr ?_
 refine al_ld u37 info37 ?_
 refine al_sp info37 ?_
 refine al_nil ?_
 refine aw_ret ?_
 refine ⟨_, res_cell rfl u37 info37 rfl rfl rfl rfl, ?_⟩
 exact rdk_ok left j (by rw [← hinv.2]; exact loop_stop h2) rfl
theorem e_expr (v0 : Nat) (l : List Tk) (hl : OKTs l) (hn : l.length ≤ 1000000000) (i d : Nat) (hd : d ≤ 40) (hi : i ≤ l.length) (hR : AC Tryz.prog 78 [.ptr 0 v0 0 0, .v (.int .i64 (0))] (rd v0 l i (d) []) (RdK v0 l (d) encX (rowP l (factor l d) 4 i))) : AC Tryz.prog 40 [.ptr 0 v0 0 0] (rd v0 l i d []) (fun r σ' => RdK v0 l (d) encX (rowD l d 4 i) r σ') := by
 refine ace 5 Tryz.func40 ?_
 refine aw_sr ?_
 refine al_al 2 info37 fun ver2 => ?_
 refine al_sr ?_
 refine al_mv ?_
 refine al_call into78 rfl rfl rfl (rd_lift rfl (fun _ => rfl) (hR) _ (by rfl)) (by simp) ?_; rintro _ _ (⟨g4, i4, d4, hx4, rfl, rfl⟩ | ⟨a4, j4, hx4, rfl, rfl⟩)
 ·exact rdk_bad (hx4) rfl
 refine al_sp info37 ?_
 refine al_nil ?_
 refine aw_ret ?_
 refine ⟨_, res_cell rfl u37 info37 rfl rfl rfl rfl, ?_⟩
 exact rdk_ok a4 j4 hx4 rfl
theorem e_all (l : List Tk) (hl : OKTs l) (hn : l.length ≤ 1000000000)  : ∀ d, d ≤ 40 → (∀ v0 i, i ≤ l.length → AC Tryz.prog 130 [.ptr 0 v0 0 0] (rd v0 l i (d) []) (RdK v0 l (d) encX (factor l d i))) ∧ (∀ v0 i, i ≤ l.length → AC Tryz.prog 40 [.ptr 0 v0 0 0] (rd v0 l i (d) []) (RdK v0 l (d) encX (rowD l d 4 i))) := by
  intro d
  induction d with
  | zero =>
    intro hd
    have hA : ∀ v0 i, i ≤ l.length → AC Tryz.prog 130 [.ptr 0 v0 0 0] (rd v0 l i (0) []) (RdK v0 l (0) encX (factor l 0 i)) := fun v0 i hi => e_factor v0 l hl hn i 0 hd hi (fun h => absurd rfl h) (e_prim v0 l hl hn i 0 hd hi (fun h => absurd rfl h))
    have hW : ∀ m k, k + m = 4 → ∀ v0 i, i ≤ l.length → AC Tryz.prog 78 [.ptr 0 v0 0 0, .v (.int .i64 ((k : Nat) : Int))] (rd v0 l i (0) []) (RdK v0 l (0) encX (rowP l (factor l 0) m i)) := by
      intro m
      induction m with
      | zero => exact fun k hk v0 i hi => e_row v0 l hl hn i 0 hd hi hA 0 k hk (fun h => absurd rfl h)
      | succ m ih => exact fun k hk v0 i hi => e_row v0 l hl hn i 0 hd hi hA (m + 1) k hk (fun _ => ih (k + 1) (by omega))
    exact ⟨hA, fun v0 i hi => e_expr v0 l hl hn i 0 hd hi (hW 4 0 rfl v0 i hi)⟩
  | succ d ih =>
    intro hd
    obtain ⟨h1, h2⟩ := ih (by omega)
    have hA : ∀ v0 i, i ≤ l.length → AC Tryz.prog 130 [.ptr 0 v0 0 0] (rd v0 l i (d + 1) []) (RdK v0 l (d + 1) encX (factor l (d + 1) i)) := fun v0 i hi => e_factor v0 l hl hn i (d + 1) hd hi (fun _ => h1) (e_prim v0 l hl hn i (d + 1) hd hi (fun _ => h2))
    have hW : ∀ m k, k + m = 4 → ∀ v0 i, i ≤ l.length → AC Tryz.prog 78 [.ptr 0 v0 0 0, .v (.int .i64 ((k : Nat) : Int))] (rd v0 l i (d + 1) []) (RdK v0 l (d + 1) encX (rowP l (factor l (d + 1)) m i)) := by
      intro m
      induction m with
      | zero => exact fun k hk v0 i hi => e_row v0 l hl hn i (d + 1) hd hi hA 0 k hk (fun h => absurd rfl h)
      | succ m ih => exact fun k hk v0 i hi => e_row v0 l hl hn i (d + 1) hd hi hA (m + 1) k hk (fun _ => ih (k + 1) (by omega))
    exact ⟨hA, fun v0 i hi => e_expr v0 l hl hn i (d + 1) hd hi (hW 4 0 rfl v0 i hi)⟩
theorem e_inner (l : List Tk) (hl : OKTs l) (hn : l.length ≤ 1000000000)  (hd : 40 ≠ 0) : ∀ v0 i, i ≤ l.length → AC Tryz.prog 40 [.ptr 0 v0 0 0] (rd v0 l i (40 - 1) []) (RdK v0 l (40 - 1) encX (rowD l (40 - 1) 4 i)) := (e_all l hl hn 39 (by decide)).2
end Go.Proofs.YtcgdlhkiecommaaGreatDoor
