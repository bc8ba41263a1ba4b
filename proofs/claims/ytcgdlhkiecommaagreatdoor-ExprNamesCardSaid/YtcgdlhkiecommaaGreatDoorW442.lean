import Derived.Test.YtcgdlhkiecommaaGreatDoorW424
import Derived.Test.YtcgdlhkiecommaaGreatDoorXRef3
import Derived.Test.YtcgdlhkiecommaaGreatDoorFacts
import Derived.Test.YtcgdlhkiecommaaGreatDoorEngStr


import Derived.Test.YtcgdlhkiecommaaGreatDoorXBld

import Derived.Test.YtcgdlhkiecommaaGreatDoorXSame2


/- Printed walks (gen.py, lexer_ann.py): part 425. -/




set_option linter.unusedVariables false
set_option linter.unusedSimpArgs false
set_option maxRecDepth 20000
set_option maxHeartbeats 40000000
namespace Go.Proofs.YtcgdlhkiecommaaGreatDoor
open Go
theorem r_partsS (v : Va) (hz : szV v = true) (n : Int) (hn : 0 ≤ n) (hn2 : n ≤ 9000) (ih : ∀ k ∈ v.list, ∀ n : Int, 0 ≤ n → n ≤ 9000 → ACp Tryz.prog 100 [.agg (cellsV k), .v (.int .i64 (n))] (.v (.int .i64 (partsV k n)))) : ACp Tryz.prog 100 [.agg (cellsV v), .v (.int .i64 (n))] (.v (.int .i64 (partsV v n))) := by
 refine acp_of rfl ?_
 obtain ⟨z1, z2, z3⟩ := szV_facts hz
 have hB : loP = (-4503599627370496 : Int) := rfl
 refine ace 28 Tryz.func100 ?_
 refine aw_sr ?_
 refine al_bx 2 fun ver2 => ?_
 refine al_gs ?_
 refine al_sr ?_
 refine al_mv ?_
 refine al_fp Tryz.underlying30 info26 ?_
 refine al_ld Tryz.underlying26 info26 ?_
 refine al_lm Tryz.underlying26 ?_
 refine al_ad ?_
 refine al_op (op_sub rfl rfl (by first | exact wrap_i64 (by omega) (by omega))) rfl (by simp) ?_
 refine al_gs ?_
 refine al_nil ?_
 refine aw_seq ?_
 refine aw_sr ?_
 refine al_fp Tryz.underlying30 info28 ?_
 refine al_ld Tryz.underlying28 info28 ?_
 refine al_lm Tryz.underlying28 ?_
 refine al_mv ?_
 refine al_nil ?_
 refine aw_block ?_
 refine aw_for2T (α := Nat) (β := Int) [1, 4, 16] [6] (fun i m => v.list.length - i) (fun i m => i ≤ v.list.length ∧ (loP ≤ m ∧ m ≤ 9000) ∧ partsVs (v.list.drop i) m = partsV v n) (fun i m => ([(1, .v (.int .i64 (m))), (16, .v (.int .i64 ((i : Nat) : Int)))] : Env)) (fun i m s => s) (0) (n - (1 + (v.bits.length : Int))) ?_ ?_ ?_ (fun i m hinv => ?_)
 ·exact ⟨Nat.zero_le _, ⟨by omega, by omega⟩, (partsV_eq v n).symm⟩
 ·refine sub_cons (get_as rfl ?_) ?_; rotate_left; refine sub_cons (get_as rfl ?_) ?_; rotate_left; exact sub_nil
  all_goals (first | rfl | simp)
 ·rfl
 obtain ⟨hi, ⟨hm1, hm2⟩, hpe⟩ := hinv
 refine aw_sr ?_
 refine al_ls ?_
 refine al_nil ?_
 refine aw_seq ?_
 refine aw_cond rfl (fun h1 => ?_) (fun h1 => ?_)
 ·have gh1 := h1
  simp only [nrm] at h1
  refine aw_skip ?_
  refine aw_seq ?_
  refine aw_block ?_
  refine aw_sr ?_
  refine al_op (val_as (.rptr (cellsV (v.list.getD i default))) (op_index_map default Tryz.underlying28 info30 rfl rfl rfl (by first | (with_reducible exact Int.toNat_natCast _) | rfl) (by omega) (by omega)) (by exact congrArg AVal.rptr (encVa_cells _))) rfl (by simp) ?_
  refine al_lr Tryz.underlying30 info30 ?_
  refine al_al 6 info30 fun ver6 => ?_
  refine al_sp info30 ?_
  refine al_nil ?_
  refine aw_seq ?_
  refine aw_sr ?_
  refine al_mv ?_
  refine al_ls ?_
  refine al_nil ?_
  refine aw_cond rfl (fun h2 => ?_) (fun h2 => ?_)
  ·have gh2 := h2
   simp only [nrm] at h2
   refine aw_sr ?_
   refine al_mv ?_
   refine al_gs ?_
   refine al_nil ?_
   refine fz1 (t := 4) ?_
   refine aw_ret ?_
   refine ⟨_, res_1 rfl rfl, ?_, rfl⟩
   rw [← hpe, partsVs_lt (by simpa using gh2)]
  have gh2 := h2
  simp only [nrm] at h2
  have hmn : ¬ m < 0 := by simpa using gh2
  have hq := partsV_in (v.list.getD i default) (z3 _ (getD_mem (by omega))) m (by omega)
  refine aw_skip ?_
  refine aw_region ?_
  refine al_ld Tryz.underlying30 info30 ?_
  refine al_mv ?_
  refine al_callp into100 rfl rfl rfl (ih (v.list.getD i default) (getD_mem (by omega)) m (by omega) (by omega) _) (by simp) ?_
  refine al_gs ?_
  refine al_nil ?_
  refine aw_region ?_
  refine al_ad ?_
  refine al_mv ?_
  refine al_nil ?_
  refine ⟨i + 1, partsV (v.list.getD i default) m, ?_, ?_, ?_, ?_, ?_⟩
  ·omega
  ·exact ⟨by omega, ⟨hq.1, by have := hq.2; omega⟩, by rw [← partsVs_step (by omega) (by simpa using gh2)]; exact hpe⟩
  ·refine sub_cons (get_as rfl ?_) ?_; rotate_left; refine sub_cons (get_as rfl ?_) ?_; rotate_left; exact sub_nil
   all_goals (first | rfl | simp)
  ·repeat (first | exact subx_refl | exact subx_del | refine subx_put rfl ?_)
  ·rfl
 have gh1 := h1
 simp only [nrm] at h1
 refine aw_exit ?_

 refine aw_sr ?_
 refine al_mv ?_
 refine al_gs ?_
 refine al_nil ?_
 refine fz1 (t := 4) ?_
 refine aw_ret ?_
 refine ⟨_, res_1 rfl rfl, ?_, rfl⟩
 rw [← hpe, partsVs_end (by omega)]
theorem r_parts (v : Va) : szV v = true → ∀ n : Int, 0 ≤ n → n ≤ 9000 → ACp Tryz.prog 100 [.agg (cellsV v), .v (.int .i64 (n))] (.v (.int .i64 (partsV v n))) := by
  induction v using Va.ind with
  | h v ih =>
    intro hz n hn hn2
    obtain ⟨z1, z2, z3⟩ := szV_facts hz
    exact r_partsS v hz n hn hn2 (fun k hk => ih k hk (z3 k hk))
theorem r_PartsS (e : Ex) (hz : szX e = true) (n : Int) (hn : 0 ≤ n) (hn2 : n ≤ 9000) (d : Nat) (hd : d ≤ 301) (ih : ∀ k ∈ e.kids, ∀ n : Int, 0 ≤ n → n ≤ 9000 → ∀ d : Nat, d ≤ 301 → ACp Tryz.prog 50 [.agg (cellsE k), .v (.int .i64 (n)), .v (.int .i64 ((d : Nat) : Int))] (.v (.int .i64 (partsE k n d)))) : ACp Tryz.prog 50 [.agg (cellsE (e)), .v (.int .i64 (n)), .v (.int .i64 ((d : Nat) : Int))] (.v (.int .i64 (partsE e n d))) := by
 refine acp_of rfl ?_
 obtain ⟨z1, z2, z3, z4, z5, z6⟩ := szX_facts hz
 obtain ⟨w1, w2, -⟩ := szV_facts z4
 obtain ⟨u0, u1, u2, -⟩ := szT_facts z5
 have hB : loP = (-4503599627370496 : Int) := rfl
 refine ace 59 Tryz.func50 ?_
 refine aw_sr ?_
 refine al_bx 3 fun ver3 => ?_
 refine al_gs ?_
 refine al_sr ?_
 refine al_mv ?_
 refine al_fp Tryz.underlying37 info26 ?_
 refine al_ld Tryz.underlying26 info26 ?_
 refine al_lm Tryz.underlying26 ?_
 refine al_ad ?_
 refine al_fp Tryz.underlying37 info9 ?_
 refine al_ld Tryz.underlying9 info9 ?_
 refine al_op (op_slen_str (ts := #[]) Tryz.underlying9 rfl) rfl (by simp) ?_
 refine al_op (op_quo rfl rfl (by omega) (quo_nn (by omega) (by omega) (by omega))) rfl (by simp) ?_
 refine al_ad ?_
 refine al_fp Tryz.underlying37 info30 ?_
 refine al_fp Tryz.underlying30 info26 ?_
 refine al_ld Tryz.underlying26 info26 ?_
 refine al_lm Tryz.underlying26 ?_
 refine al_ad ?_
 refine al_fp Tryz.underlying37 info30 ?_
 refine al_fp Tryz.underlying30 info28 ?_
 refine al_ld Tryz.underlying28 info28 ?_
 refine al_lm Tryz.underlying28 ?_
 refine al_ad ?_
 refine al_fp Tryz.underlying37 info35 ?_
 refine al_fp Tryz.underlying35 info32 ?_
 refine al_ld Tryz.underlying32 info32 ?_
 refine al_lm Tryz.underlying32 ?_
 refine al_ad ?_
 refine al_fp Tryz.underlying37 info35 ?_
 refine al_fp Tryz.underlying35 info33 ?_
 refine al_ld Tryz.underlying33 info33 ?_
 refine al_lm Tryz.underlying33 ?_
 refine al_ad ?_
 refine al_op (op_sub rfl rfl (by first | exact wrap_i64 (by omega) (by omega))) rfl (by simp) ?_
 refine al_gs ?_
 refine al_nil ?_
 refine aw_seq ?_
 refine aw_sr ?_
 refine al_mv ?_
 refine al_op (op_gtr rfl rfl) rfl (by simp) ?_
 refine al_nil ?_
 refine aw_cond rfl (fun h1 => ?_) (fun h1 => ?_)
 ·have gh1 := h1
  simp only [nrm] at h1
  refine aw_sr ?_
  refine al_gs ?_
  refine al_nil ?_
  refine fz1 (t := 6) ?_
  refine aw_ret ?_
  refine ⟨_, res_1 rfl rfl, ?_, rfl⟩
  rw [partsE_no (by simp at gh1; omega)]
 have gh1 := h1
 simp only [nrm] at h1
 have hdn : ¬ 300 < d := by simp at gh1; omega
 refine aw_skip ?_
 refine aw_seq ?_
 refine aw_sr ?_
 refine al_fp Tryz.underlying37 info31 ?_
 refine al_ld Tryz.underlying31 info31 ?_
 refine al_lm Tryz.underlying31 ?_
 refine al_mv ?_
 refine al_nil ?_
 refine aw_block ?_
 refine aw_for2T (α := Nat) (β := Int) [1, 6, 45] [8] (fun i m => e.kids.length - i) (fun i m => i ≤ e.kids.length ∧ (loP ≤ m ∧ m ≤ 9000) ∧ partsEs (e.kids.drop i) m d = partsE e n d) (fun i m => ([(1, .v (.int .i64 (m))), (45, .v (.int .i64 ((i : Nat) : Int)))] : Env)) (fun i m s => s) (0) (n - (((((1 + (e.bits.length : Int)) + (e.name.length / 50 : Nat)) + e.val.bits.length) + e.val.list.length) + e.type.names.length + e.type.elem.length)) ?_ ?_ ?_ (fun i m hinv => ?_)
 ·exact ⟨Nat.zero_le _, ⟨by omega, by omega⟩, (partsE_eq hdn).symm⟩
 ·refine sub_cons (get_as rfl ?_) ?_; rotate_left; refine sub_cons (get_as rfl ?_) ?_; rotate_left; exact sub_nil
  all_goals (first | rfl | simp)
 ·rfl
 obtain ⟨hi, ⟨hm1, hm2⟩, hpe⟩ := hinv
 refine aw_sr ?_
 refine al_ls ?_
 refine al_nil ?_
 refine aw_seq ?_
 refine aw_cond rfl (fun h2 => ?_) (fun h2 => ?_)
 ·have gh2 := h2
  simp only [nrm] at h2
  refine aw_skip ?_
  refine aw_seq ?_
  refine aw_block ?_
  refine aw_sr ?_
  refine al_op (val_as (.rptr (cellsE (e.kids.getD i default))) (op_index_map default Tryz.underlying31 info37 rfl rfl rfl (by first | (with_reducible exact Int.toNat_natCast _) | rfl) (by omega) (by omega)) (by exact congrArg AVal.rptr (encE_cells _))) rfl (by simp) ?_
  refine al_lr Tryz.underlying37 info37 ?_
  refine al_al 8 info37 fun ver8 => ?_
  refine al_sp info37 ?_
  refine al_nil ?_
  refine aw_seq ?_
  refine aw_sr ?_
  refine al_mv ?_
  refine al_ls ?_
  refine al_nil ?_
  refine aw_cond rfl (fun h3 => ?_) (fun h3 => ?_)
  ·have gh3 := h3
   simp only [nrm] at h3
   refine aw_sr ?_
   refine al_mv ?_
   refine al_gs ?_
   refine al_nil ?_
   refine fz1 (t := 6) ?_
   refine aw_ret ?_
   refine ⟨_, res_1 rfl rfl, ?_, rfl⟩
   rw [← hpe, partsEs_lt (by simpa using gh3)]
  have gh3 := h3
  simp only [nrm] at h3
  have hmn : ¬ m < 0 := by simpa using gh3
  have hq := partsE_in (e.kids.getD i default) (z6 _ (getD_mem (by omega))) m (d + 1) (by omega)
  refine aw_skip ?_
  refine aw_region ?_
  refine al_ld Tryz.underlying37 info37 ?_
  refine al_mv ?_
  refine al_mv ?_
  refine al_ad ?_
  refine al_callp into50 rfl rfl rfl (ih (e.kids.getD i default) (getD_mem (by omega)) m (by omega) (by omega) (d + 1) (by omega) _) (by simp) ?_
  refine al_gs ?_
  refine al_nil ?_
  refine aw_region ?_
  refine al_ad ?_
  refine al_mv ?_
  refine al_nil ?_
  refine ⟨i + 1, partsE (e.kids.getD i default) m (d + 1), ?_, ?_, ?_, ?_, ?_⟩
  ·omega
  ·exact ⟨by omega, ⟨hq.1, by have := hq.2; omega⟩, by rw [← partsEs_step (by omega) (by simpa using gh3)]; exact hpe⟩
  ·refine sub_cons (get_as rfl ?_) ?_; rotate_left; refine sub_cons (get_as rfl ?_) ?_; rotate_left; exact sub_nil
   all_goals (first | rfl | simp)
  ·repeat (first | exact subx_refl | exact subx_del | refine subx_put rfl ?_)
  ·rfl
 have gh2 := h2
 simp only [nrm] at h2
 refine aw_exit ?_

 refine aw_sr ?_
 refine al_mv ?_
 refine al_gs ?_
 refine al_nil ?_
 refine fz1 (t := 6) ?_
 refine aw_ret ?_
 refine ⟨_, res_1 rfl rfl, ?_, rfl⟩
 rw [← hpe, partsEs_end (by omega)]
theorem r_Parts (e : Ex) : szX e = true → ∀ n : Int, 0 ≤ n → n ≤ 9000 → ∀ d : Nat, d ≤ 301 → ACp Tryz.prog 50 [.agg (cellsE e), .v (.int .i64 (n)), .v (.int .i64 ((d : Nat) : Int))] (.v (.int .i64 (partsE e n d))) := by
  induction e using Ex.ind with
  | h e ih =>
    intro hz n hn hn2 d hd
    obtain ⟨z1, z2, z3, z4, z5, z6⟩ := szX_facts hz
    exact r_PartsS e hz n hn hn2 d hd (fun k hk => ih k hk (z6 k hk))
theorem r_SmallS (t : Ty) (hz : szT t = true) (vs : List Va) (hv : vs.length ≤ 140737488355328) (hvs : ∀ v ∈ vs, szV v = true) (ih : ∀ k ∈ t.elem, ACp Tryz.prog 51 [.agg (cellsT k), .list 4 []] (.v (.bool (smallT k)))) : ACp Tryz.prog 51 [.agg (cellsT t), .list 4 (vs.map encVa)] (.v (.bool (smallP t vs))) := by
 refine acp_of rfl ?_
 obtain ⟨u0, u1, u2, u3⟩ := szT_facts hz
 refine ace 65 Tryz.func51 ?_
 refine aw_sr ?_
 refine al_bx 2 fun ver2 => ?_
 refine al_gs ?_
 refine al_nil ?_
 refine aw_seq ?_
 refine aw_sr ?_
 refine al_fp Tryz.underlying35 info9 ?_
 refine al_ld Tryz.underlying9 info9 ?_
 refine al_op (op_slen_str (ts := #[]) Tryz.underlying9 rfl) rfl (by simp) ?_
 refine al_op (op_gtr rfl rfl) rfl (by simp) ?_
 refine al_mv ?_
 apply al_or 5 15 20 rfl
 ·intro h1; have gh1 := h1
  simp only [nrm] at h1
  refine tk_fp Tryz.underlying35 info32 ?_
  refine tk_ld Tryz.underlying32 info32 ?_
  refine al_take (op_len_map Tryz.underlying32 rfl) rfl rfl rfl rfl (by simp) ?_
  refine al_take (op_gtr rfl rfl) rfl rfl rfl rfl (by simp) ?_
  refine al_pk ?_
  exact al_nk gh1
 ·intro h1; have gh1 := h1
  simp only [nrm] at h1
  refine al_ps ?_
  refine al_ps ?_
  refine al_ps ?_
  refine al_ps ?_
  refine al_pk ?_
  exact al_nk gh1
 refine al_mv ?_
 apply al_or 5 21 26 rfl
 ·intro h2; have gh2 := h2
  simp only [nrm] at h2
  refine tk_fp Tryz.underlying35 info33 ?_
  refine tk_ld Tryz.underlying33 info33 ?_
  refine al_take (op_len_map Tryz.underlying33 rfl) rfl rfl rfl rfl (by simp) ?_
  refine al_take (op_gtr rfl rfl) rfl rfl rfl rfl (by simp) ?_
  refine al_pk ?_
  exact al_nk gh2
 ·intro h2; have gh2 := h2
  simp only [nrm] at h2
  refine al_ps ?_
  refine al_ps ?_
  refine al_ps ?_
  refine al_ps ?_
  refine al_pk ?_
  exact al_nk gh2
 refine al_nil ?_
 refine aw_cond rfl (fun h3 => ?_) (fun h3 => ?_)
 ·have gh3 := h3
  simp only [nrm] at h3
  refine aw_sr ?_
  refine al_gs ?_
  refine al_nil ?_
  refine fz1 (t := 4) ?_
  refine aw_ret ?_
  refine ⟨_, res_1 rfl rfl, ?_, rfl⟩
  rw [small_no1 gh3]
 have gh3 := h3
 simp only [nrm] at h3
 refine aw_skip ?_
 refine aw_seq ?_
 refine aw_sr ?_
 refine al_fp Tryz.underlying35 info32 ?_
 refine al_ld Tryz.underlying32 info32 ?_
 refine al_lm Tryz.underlying32 ?_
 refine al_mv ?_
 refine al_nil ?_
 refine aw_block ?_
 refine aw_forT (ι := Nat) [4, 30] [] (fun i => t.names.length - i) (fun i => i ≤ t.names.length ∧ ∀ k, k < i → (fun k => decide (100 < ((t.names.getD k default).length : Int))) k = false) (fun i => ([(30, .v (.int .i64 ((i : Nat) : Int)))] : Env)) (fun i s => s) (0) ?_ ?_ ?_ (fun i hinv => ?_)
 ·exact ⟨Nat.zero_le _, fun k hk => absurd hk (Nat.not_lt_zero k)⟩
 ·refine sub_cons (get_as rfl ?_) ?_; rotate_left; exact sub_nil
  all_goals (first | rfl | simp)
 ·rfl
 have hi := hinv.1

 refine aw_sr ?_
 refine al_ls ?_
 refine al_nil ?_
 refine aw_seq ?_
 refine aw_cond rfl (fun h4 => ?_) (fun h4 => ?_)
 ·have gh4 := h4
  simp only [nrm] at h4
  refine aw_skip ?_
  refine aw_seq ?_
  refine aw_block ?_
  refine aw_sr ?_
  refine al_op (op_index_map default Tryz.underlying32 info9 rfl rfl rfl (by first | (with_reducible exact Int.toNat_natCast _) | rfl) (by omega) (by omega)) rfl (by simp) ?_
  refine al_lr Tryz.underlying9 info9 ?_
  refine al_gs ?_
  refine al_sr ?_
  refine al_mv ?_
  refine al_op (op_slen_str (ts := #[]) Tryz.underlying9 rfl) rfl (by simp) ?_
  refine al_op (op_gtr rfl rfl) rfl (by simp) ?_
  refine al_nil ?_
  refine aw_cond rfl (fun h5 => ?_) (fun h5 => ?_)
  ·have gh5 := h5
   simp only [nrm] at h5
   refine aw_sr ?_
   refine al_gs ?_
   refine al_nil ?_
   refine fz1 (t := 4) ?_
   refine aw_ret ?_
   refine ⟨_, res_1 rfl rfl, ?_, rfl⟩
   rw [small_no2 i (by omega) gh5]
  have gh5 := h5
  simp only [nrm] at h5
  refine aw_skip ?_
  refine aw_region ?_
  refine al_ad ?_
  refine al_mv ?_
  refine al_nil ?_
  refine ⟨i + 1, ?_, ?_, ?_, ?_, ?_⟩
  ·omega
  ·exact ⟨by omega, idx_more (p := fun k => decide (100 < ((t.names.getD k default).length : Int))) hinv.2 gh5⟩
  ·refine sub_cons (get_as rfl ?_) ?_; rotate_left; exact sub_nil
   all_goals (first | rfl | simp)
  ·repeat (first | exact subx_refl | exact subx_del | refine subx_put rfl ?_)
  ·rfl
 have gh4 := h4
 simp only [nrm] at h4
 refine aw_exit ?_
 have hn1 := hinv.2
 have hi1 : i = t.names.length := by omega
 refine aw_seq ?_
 refine aw_sr ?_
 refine al_fp Tryz.underlying35 info33 ?_
 refine al_ld Tryz.underlying33 info33 ?_
 refine al_lm Tryz.underlying33 ?_
 refine al_mv ?_
 refine al_nil ?_
 refine aw_block ?_
 refine aw_forT (ι := Nat) [4, 41] [8] (fun j => t.elem.length - j) (fun j => j ≤ t.elem.length ∧ ∀ k, k < j → (fun k => (decide (2 < ((t.elem.getD k default).elem.length : Int)) || !(smallT (t.elem.getD k default)))) k = false) (fun j => ([(41, .v (.int .i64 ((j : Nat) : Int)))] : Env)) (fun j s => s) (0) ?_ ?_ ?_ (fun j hinv => ?_)
 ·exact ⟨Nat.zero_le _, fun k hk => absurd hk (Nat.not_lt_zero k)⟩
 ·refine sub_cons (get_as rfl ?_) ?_; rotate_left; exact sub_nil
  all_goals (first | rfl | simp)
 ·rfl
 have hi := hinv.1

 refine aw_sr ?_
 refine al_ls ?_
 refine al_nil ?_
 refine aw_seq ?_
 refine aw_cond rfl (fun h6 => ?_) (fun h6 => ?_)
 ·have gh6 := h6
  simp only [nrm] at h6
  refine aw_skip ?_
  refine aw_seq ?_
  refine aw_block ?_
  refine aw_sr ?_
  refine al_op (val_as (.rptr (cellsT (t.elem.getD j default))) (op_index_map default Tryz.underlying33 info35 rfl rfl rfl (by first | (with_reducible exact Int.toNat_natCast _) | rfl) (by omega) (by omega)) (by exact congrArg AVal.rptr (encTy_cells _))) rfl (by simp) ?_
  refine al_lr Tryz.underlying35 info35 ?_
  refine al_al 8 info35 fun ver8 => ?_
  refine al_sp info35 ?_
  refine al_sr ?_
  refine al_fp Tryz.underlying35 info33 ?_
  refine al_ld Tryz.underlying33 info33 ?_
  refine al_lm Tryz.underlying33 ?_
  refine al_op (op_gtr rfl rfl) rfl (by simp) ?_
  refine al_mv ?_
  apply al_or 4 49 53 rfl
  ·intro h7; have gh7 := h7
   simp only [nrm] at h7
   refine tk_ld Tryz.underlying35 info35 ?_
   refine al_callp_take into51 rfl rfl rfl rfl rfl rfl (acp_lent (lend_cons lend_same (lend_cons (.leaf _ _ (.vnil _)) lend_nil)) (ih (t.elem.getD j default) (getD_mem (by omega))) rfl) (by simp) ?_
   refine al_take (op_not rfl) rfl rfl rfl rfl (by simp) ?_
   refine al_pk ?_
   exact al_nk gh7
  ·intro h7; have gh7 := h7
   simp only [nrm] at h7
   refine al_ps ?_
   refine al_ps ?_
   refine al_ps ?_
   refine al_pk ?_
   exact al_nk gh7
  refine al_nil ?_
  refine aw_cond rfl (fun h8 => ?_) (fun h8 => ?_)
  ·have gh8 := h8
   simp only [nrm] at h8
   refine aw_sr ?_
   refine al_gs ?_
   refine al_nil ?_
   refine fz1 (t := 4) ?_
   refine aw_ret ?_
   refine ⟨_, res_1 rfl rfl, ?_, rfl⟩
   rw [small_no3 j (by omega) gh8]
  have gh8 := h8
  simp only [nrm] at h8
  refine aw_skip ?_
  refine aw_region ?_
  refine al_ad ?_
  refine al_mv ?_
  refine al_nil ?_
  refine ⟨j + 1, ?_, ?_, ?_, ?_, ?_⟩
  ·omega
  ·exact ⟨by omega, idx_more (p := fun k => (decide (2 < ((t.elem.getD k default).elem.length : Int)) || !(smallT (t.elem.getD k default)))) hinv.2 gh8⟩
  ·refine sub_cons (get_as rfl ?_) ?_; rotate_left; exact sub_nil
   all_goals (first | rfl | simp)
  ·repeat (first | exact subx_refl | exact subx_del | refine subx_put rfl ?_)
  ·rfl
 have gh6 := h6
 simp only [nrm] at h6
 refine aw_exit ?_
 have hn2 := hinv.2
 have hj1 : j = t.elem.length := by omega
 refine aw_seq ?_
 refine aw_sr ?_
 refine al_mv ?_
 refine al_lm Tryz.underlying28 ?_
 refine al_mv ?_
 refine al_nil ?_
 refine aw_block ?_
 refine aw_forT (ι := Nat) [4, 57] [10] (fun m => vs.length - m) (fun m => m ≤ vs.length ∧ ∀ k, k < m → (fun k => decide (partsV (vs.getD k default) 9000 < 0)) k = false) (fun m => ([(57, .v (.int .i64 ((m : Nat) : Int)))] : Env)) (fun m s => s) (0) ?_ ?_ ?_ (fun m hinv => ?_)
 ·exact ⟨Nat.zero_le _, fun k hk => absurd hk (Nat.not_lt_zero k)⟩
 ·refine sub_cons (get_as rfl ?_) ?_; rotate_left; exact sub_nil
  all_goals (first | rfl | simp)
 ·rfl
 have hi := hinv.1

 refine aw_sr ?_
 refine al_ls ?_
 refine al_nil ?_
 refine aw_seq ?_
 refine aw_cond rfl (fun h9 => ?_) (fun h9 => ?_)
 ·have gh9 := h9
  simp only [nrm] at h9
  refine aw_skip ?_
  refine aw_seq ?_
  refine aw_block ?_
  refine aw_sr ?_
  refine al_op (val_as (.rptr (cellsV (vs.getD m default))) (op_index_map default Tryz.underlying28 info30 rfl rfl rfl (by first | (with_reducible exact Int.toNat_natCast _) | rfl) (by omega) (by omega)) (by exact congrArg AVal.rptr (encVa_cells _))) rfl (by simp) ?_
  refine al_lr Tryz.underlying30 info30 ?_
  refine al_al 10 info30 fun ver10 => ?_
  refine al_sp info30 ?_
  refine al_sr ?_
  refine al_ld Tryz.underlying30 info30 ?_
  refine al_callp into100 rfl rfl rfl (r_parts (vs.getD m default) (hvs _ (getD_mem (by omega))) 9000 (by omega) (by omega) _) (by simp) ?_
  refine al_ls ?_
  refine al_nil ?_
  refine aw_cond rfl (fun h10 => ?_) (fun h10 => ?_)
  ·have gh10 := h10
   simp only [nrm] at h10
   refine aw_sr ?_
   refine al_gs ?_
   refine al_nil ?_
   refine fz1 (t := 4) ?_
   refine aw_ret ?_
   refine ⟨_, res_1 rfl rfl, ?_, rfl⟩
   rw [small_no4 m (by omega) gh10]
  have gh10 := h10
  simp only [nrm] at h10
  refine aw_skip ?_
  refine aw_region ?_
  refine al_ad ?_
  refine al_mv ?_
  refine al_nil ?_
  refine ⟨m + 1, ?_, ?_, ?_, ?_, ?_⟩
  ·omega
  ·exact ⟨by omega, idx_more (p := fun k => decide (partsV (vs.getD k default) 9000 < 0)) hinv.2 gh10⟩
  ·refine sub_cons (get_as rfl ?_) ?_; rotate_left; exact sub_nil
   all_goals (first | rfl | simp)
  ·repeat (first | exact subx_refl | exact subx_del | refine subx_put rfl ?_)
  ·rfl
 have gh9 := h9
 simp only [nrm] at h9
 refine aw_exit ?_
 refine aw_sr ?_
 refine al_gs ?_
 refine al_nil ?_
 refine fz1 (t := 4) ?_
 refine aw_ret ?_
 refine ⟨_, res_1 rfl rfl, ?_, rfl⟩
 rw [small_yes gh3 (fun k hk => hn1 k (by omega)) (fun k hk => hn2 k (by omega)) (fun k hk => hinv.2 k (by omega))]
theorem r_SmallN (t : Ty) : szT t = true → ACp Tryz.prog 51 [.agg (cellsT t), .list 4 []] (.v (.bool (smallT t))) := by
  induction t using Ty.ind with
  | h t ih =>
    intro hz
    obtain ⟨u0, u1, u2, u3⟩ := szT_facts hz
    rw [← smallP_nil]
    exact r_SmallS t hz [] (by simp) (by simp) (fun k hk => ih k hk (u3 k hk))
theorem r_Small (t : Ty) (hz : szT t = true) (vs : List Va) (hv : vs.length ≤ 140737488355328) (hvs : ∀ v ∈ vs, szV v = true) : ACp Tryz.prog 51 [.agg (cellsT t), .list 4 ((vs).map encVa)] (.v (.bool (smallP t vs))) := by
  obtain ⟨u0, u1, u2, u3⟩ := szT_facts hz
  exact r_SmallS t hz vs hv hvs (fun k hk => r_SmallN k (u3 k hk))
end Go.Proofs.YtcgdlhkiecommaaGreatDoor
/- Printed walks (gen.py, lexer_ann.py): part 426. -/



namespace Go.Proofs.YtcgdlhkiecommaaGreatDoor
open Go
theorem r_Few (l : List Ex) (hl : l.length ≤ 140737488355328) (hz : ∀ e ∈ l, szX e = true) : ACp Tryz.prog 22 [.list 16 ((l).map encE)] (.v (.bool (fewP l 3000))) := by
 refine acp_of rfl ?_
 have hB : loP = (-4503599627370496 : Int) := rfl
 refine ace 27 Tryz.func22 ?_
 refine aw_sr ?_
 refine al_gs ?_
 refine al_sr ?_
 refine al_gs ?_
 refine al_nil ?_
 refine aw_seq ?_
 refine aw_sr ?_
 refine al_mv ?_
 refine al_lm Tryz.underlying31 ?_
 refine al_mv ?_
 refine al_nil ?_
 refine aw_block ?_
 refine aw_for2T (α := Nat) (β := Int) [2, 3, 8] [5] (fun i m => l.length - i) (fun i m => i ≤ l.length ∧ (0 ≤ m ∧ m ≤ 3000) ∧ fewP (l.drop i) m = fewP l 3000) (fun i m => ([(3, .v (.int .i64 (m))), (8, .v (.int .i64 ((i : Nat) : Int)))] : Env)) (fun i m s => s) (0) (3000) ?_ ?_ ?_ (fun i m hinv => ?_)
 ·exact ⟨Nat.zero_le _, ⟨by omega, by omega⟩, rfl⟩
 ·refine sub_cons (get_as rfl ?_) ?_; rotate_left; refine sub_cons (get_as rfl ?_) ?_; rotate_left; exact sub_nil
  all_goals (first | rfl | simp)
 ·rfl
 obtain ⟨hi, ⟨hm1, hm2⟩, hpe⟩ := hinv
 refine aw_sr ?_
 refine al_ls ?_
 refine al_nil ?_
 refine aw_seq ?_
 refine aw_cond rfl (fun h1 => ?_) (fun h1 => ?_)
 ·have gh1 := h1
  simp only [nrm] at h1
  have he : szX (l.getD i default) = true := hz _ (getD_mem (by omega))
  obtain ⟨e1, e2, e3, e4, e5, e6⟩ := szX_facts he
  have hq := partsE_in (l.getD i default) he m 0 (by omega)
  refine aw_skip ?_
  refine aw_seq ?_
  refine aw_block ?_
  refine aw_sr ?_
  refine al_op (val_as (.rptr (cellsE (l.getD i default))) (op_index_map default Tryz.underlying31 info37 rfl rfl rfl (by first | (with_reducible exact Int.toNat_natCast _) | rfl) (by omega) (by omega)) (by exact congrArg AVal.rptr (encE_cells _))) rfl (by simp) ?_
  refine al_lr Tryz.underlying37 info37 ?_
  refine al_al 5 info37 fun ver5 => ?_
  refine al_sp info37 ?_
  refine al_sr ?_
  refine al_ld Tryz.underlying37 info37 ?_
  refine al_mv ?_
  refine al_callp into50 rfl rfl rfl (r_Parts (l.getD i default) he m (by omega) (by omega) 0 (by omega) _) (by simp) ?_
  refine al_gs ?_
  refine al_sr ?_
  refine al_mv ?_
  refine al_ls ?_
  refine al_mv ?_
  apply al_or 8 17 25 rfl
  ·intro h2; have gh2 := h2
   simp only [nrm] at h2
   refine tk_fp Tryz.underlying37 info35 ?_
   refine tk_ld Tryz.underlying35 info35 ?_
   refine tk_fp Tryz.underlying37 info30 ?_
   refine tk_ld Tryz.underlying30 info30 ?_
   refine al_take (op_list encVa [(l.getD i default).val] Tryz.underlying28 info30 rfl rfl (by decide) rfl (by decide) rfl (by first | rfl | (repeat (first | exact parts_nil | refine parts_cons rfl (by repeat (first | exact all_live_nil | refine all_live_clo rfl ?_ | refine all_live_slice rfl ?_ | refine all_live_map rfl ?_ | refine all_live_ptr rfl ?_)) ?_))) rfl rfl rfl (vals1 _)) rfl rfl rfl rfl (by simp) ?_
   refine al_callp_take into51 rfl rfl rfl rfl rfl rfl (r_Small (l.getD i default).type e5 [(l.getD i default).val] (by simp) (fun v hv => by rw [List.mem_singleton.1 hv]; exact e4) _) (by simp) ?_
   refine al_take (op_not rfl) rfl rfl rfl rfl (by simp) ?_
   refine al_pk ?_
   exact al_nk gh2
  ·intro h2; have gh2 := h2
   simp only [nrm] at h2
   refine al_ps ?_
   refine al_ps ?_
   refine al_ps ?_
   refine al_ps ?_
   refine al_ps ?_
   refine al_ps ?_
   refine al_ps ?_
   refine al_pk ?_
   exact al_nk gh2
  refine al_nil ?_
  refine aw_cond rfl (fun h3 => ?_) (fun h3 => ?_)
  ·have gh3 := h3
   simp only [nrm] at h3
   refine aw_sr ?_
   refine al_gs ?_
   refine al_nil ?_
   refine fz1 (t := 2) ?_
   refine aw_ret ?_
   refine ⟨_, res_1 rfl rfl, ?_, rfl⟩
   rw [← hpe, fewP_stop (by omega) gh3]
  have gh3 := h3
  simp only [nrm] at h3
  refine aw_skip ?_
  refine aw_region ?_
  refine al_ad ?_
  refine al_mv ?_
  refine al_nil ?_
  refine ⟨i + 1, partsE (l.getD i default) m 0, ?_, ?_, ?_, ?_, ?_⟩
  ·omega
  ·exact ⟨by omega, ⟨by have := few_ge gh3; omega, by have := hq.2; omega⟩, by rw [← fewP_step (by omega) gh3]; exact hpe⟩
  ·refine sub_cons (get_as rfl ?_) ?_; rotate_left; refine sub_cons (get_as rfl ?_) ?_; rotate_left; exact sub_nil
   all_goals (first | rfl | simp)
  ·repeat (first | exact subx_refl | exact subx_del | refine subx_put rfl ?_)
  ·rfl
 have gh1 := h1
 simp only [nrm] at h1
 refine aw_exit ?_
 refine aw_sr ?_
 refine al_gs ?_
 refine al_nil ?_
 refine fz1 (t := 2) ?_
 refine aw_ret ?_
 refine ⟨_, res_1 rfl rfl, ?_, rfl⟩
 rw [← hpe, fewP_end (by omega)]
end Go.Proofs.YtcgdlhkiecommaaGreatDoor
/- Printed walks (gen.py, lexer_ann.py): part 427. -/



namespace Go.Proofs.YtcgdlhkiecommaaGreatDoor
open Go
end Go.Proofs.YtcgdlhkiecommaaGreatDoor
/- Printed walks (gen.py, lexer_ann.py): part 430. -/




namespace Go.Proofs.YtcgdlhkiecommaaGreatDoor
open Go
theorem r_strength (s : Bs) : ACp Tryz.prog 136 [.v (.string (str (s)))] (.v (.int .i64 (strR s))) := by
 refine acp_of rfl ?_
 refine ace 28 Tryz.func136 ?_
 refine aw_sr ?_
 refine al_gs ?_
 refine al_nil ?_
 refine aw_seq ?_
 refine aw_sr ?_
 refine al_mv ?_
 refine al_nil ?_
 refine aw_block ?_
 refine aw_seq ?_
 refine aw_sr ?_
 refine al_op (op_seql_str rfl rfl) rfl (by simp) ?_
 refine al_gs ?_
 refine al_nil ?_
 refine aw_cond rfl (fun h1 => ?_) (fun h1 => ?_)
 ·have gh1 := h1
  simp only [nrm] at h1
  refine aw_skip ?_
  refine aw_cond rfl (fun h2 => ?_) (fun h2 => ?_)
  ·have gh2 := h2
   simp only [nrm] at h2
   refine aw_sr ?_
   refine al_gs ?_
   refine al_nil ?_
   refine fz1 (t := 2) ?_
   refine aw_ret ?_
   refine ⟨_, res_1 rfl rfl, ?_, rfl⟩
   rw [strR_eq]; simp only [gh1, Bool.false_or, Bool.true_or, Bool.or_true, Bool.or_false, Bool.false_eq_true, if_true, if_false, reduceIte]
  have gh2 := h2
  simp only [nrm] at h2
  exact absurd (gh1.symm.trans gh2) (by decide)
 have gh1 := h1
 simp only [nrm] at h1
 refine aw_sr ?_
 refine al_op (op_seql_str rfl rfl) rfl (by simp) ?_
 refine al_gs ?_
 refine al_nil ?_
 refine aw_cond rfl (fun h3 => ?_) (fun h3 => ?_)
 ·have gh3 := h3
  simp only [nrm] at h3
  refine aw_skip ?_
  refine aw_cond rfl (fun h4 => ?_) (fun h4 => ?_)
  ·have gh4 := h4
   simp only [nrm] at h4
   refine aw_sr ?_
   refine al_gs ?_
   refine al_nil ?_
   refine fz1 (t := 2) ?_
   refine aw_ret ?_
   refine ⟨_, res_1 rfl rfl, ?_, rfl⟩
   rw [strR_eq]; simp only [gh1, gh3, Bool.false_or, Bool.true_or, Bool.or_true, Bool.or_false, Bool.false_eq_true, if_true, if_false, reduceIte]
  have gh4 := h4
  simp only [nrm] at h4
  exact absurd (gh3.symm.trans gh4) (by decide)
 have gh3 := h3
 simp only [nrm] at h3
 refine aw_sr ?_
 refine al_op (op_seql_str rfl rfl) rfl (by simp) ?_
 refine al_gs ?_
 refine al_nil ?_
 refine aw_cond rfl (fun h5 => ?_) (fun h5 => ?_)
 ·have gh5 := h5
  simp only [nrm] at h5
  refine aw_skip ?_
  refine aw_cond rfl (fun h6 => ?_) (fun h6 => ?_)
  ·have gh6 := h6
   simp only [nrm] at h6
   refine aw_sr ?_
   refine al_gs ?_
   refine al_nil ?_
   refine fz1 (t := 2) ?_
   refine aw_ret ?_
   refine ⟨_, res_1 rfl rfl, ?_, rfl⟩
   rw [strR_eq]; simp only [gh1, gh3, gh5, Bool.false_or, Bool.true_or, Bool.or_true, Bool.or_false, Bool.false_eq_true, if_true, if_false, reduceIte]
  have gh6 := h6
  simp only [nrm] at h6
  exact absurd (gh5.symm.trans gh6) (by decide)
 have gh5 := h5
 simp only [nrm] at h5
 refine aw_sr ?_
 refine al_op (op_seql_str rfl rfl) rfl (by simp) ?_
 refine al_gs ?_
 refine al_nil ?_
 refine aw_cond rfl (fun h7 => ?_) (fun h7 => ?_)
 ·have gh7 := h7
  simp only [nrm] at h7
  refine aw_skip ?_
  refine aw_cond rfl (fun h8 => ?_) (fun h8 => ?_)
  ·have gh8 := h8
   simp only [nrm] at h8
   refine aw_sr ?_
   refine al_gs ?_
   refine al_nil ?_
   refine fz1 (t := 2) ?_
   refine aw_ret ?_
   refine ⟨_, res_1 rfl rfl, ?_, rfl⟩
   rw [strR_eq]; simp only [gh1, gh3, gh5, gh7, Bool.false_or, Bool.true_or, Bool.or_true, Bool.or_false, Bool.false_eq_true, if_true, if_false, reduceIte]
  have gh8 := h8
  simp only [nrm] at h8
  exact absurd (gh7.symm.trans gh8) (by decide)
 have gh7 := h7
 simp only [nrm] at h7
 refine aw_sr ?_
 refine al_op (op_seql_str rfl rfl) rfl (by simp) ?_
 refine al_gs ?_
 refine al_nil ?_
 refine aw_cond rfl (fun h9 => ?_) (fun h9 => ?_)
 ·have gh9 := h9
  simp only [nrm] at h9
  refine aw_skip ?_
  refine aw_cond rfl (fun h10 => ?_) (fun h10 => ?_)
  ·have gh10 := h10
   simp only [nrm] at h10
   refine aw_sr ?_
   refine al_gs ?_
   refine al_nil ?_
   refine fz1 (t := 2) ?_
   refine aw_ret ?_
   refine ⟨_, res_1 rfl rfl, ?_, rfl⟩
   rw [strR_eq]; simp only [gh1, gh3, gh5, gh7, gh9, Bool.false_or, Bool.true_or, Bool.or_true, Bool.or_false, Bool.false_eq_true, if_true, if_false, reduceIte]
  have gh10 := h10
  simp only [nrm] at h10
  exact absurd (gh9.symm.trans gh10) (by decide)
 have gh9 := h9
 simp only [nrm] at h9
 refine aw_region ?_
 refine al_op (op_seql_str rfl rfl) rfl (by simp) ?_
 refine al_gs ?_
 refine al_nil ?_
 refine aw_cond rfl (fun h11 => ?_) (fun h11 => ?_)
 ·have gh11 := h11
  simp only [nrm] at h11
  refine aw_sr ?_
  refine al_gs ?_
  refine al_nil ?_
  refine fz1 (t := 2) ?_
  refine aw_ret ?_
  refine ⟨_, res_1 rfl rfl, ?_, rfl⟩
  rw [strR_eq]; simp only [gh1, gh3, gh5, gh7, gh9, gh11, Bool.false_or, Bool.true_or, Bool.or_true, Bool.or_false, Bool.false_eq_true, if_true, if_false, reduceIte]
 have gh11 := h11
 simp only [nrm] at h11
 refine aw_seq ?_
 refine aw_sr ?_
 refine al_op (op_seql_str rfl rfl) rfl (by simp) ?_
 refine al_gs ?_
 refine al_nil ?_
 refine aw_cond rfl (fun h12 => ?_) (fun h12 => ?_)
 ·have gh12 := h12
  simp only [nrm] at h12
  refine aw_skip ?_
  refine aw_cond rfl (fun h13 => ?_) (fun h13 => ?_)
  ·have gh13 := h13
   simp only [nrm] at h13
   refine aw_sr ?_
   refine al_gs ?_
   refine al_nil ?_
   refine fz1 (t := 2) ?_
   refine aw_ret ?_
   refine ⟨_, res_1 rfl rfl, ?_, rfl⟩
   rw [strR_eq]; simp only [gh1, gh3, gh5, gh7, gh9, gh11, gh12, Bool.false_or, Bool.true_or, Bool.or_true, Bool.or_false, Bool.false_eq_true, if_true, if_false, reduceIte]
  have gh13 := h13
  simp only [nrm] at h13
  exact absurd (gh12.symm.trans gh13) (by decide)
 have gh12 := h12
 simp only [nrm] at h12
 refine aw_sr ?_
 refine al_op (op_seql_str rfl rfl) rfl (by simp) ?_
 refine al_gs ?_
 refine al_nil ?_
 refine aw_cond rfl (fun h14 => ?_) (fun h14 => ?_)
 ·have gh14 := h14
  simp only [nrm] at h14
  refine aw_skip ?_
  refine aw_cond rfl (fun h15 => ?_) (fun h15 => ?_)
  ·have gh15 := h15
   simp only [nrm] at h15
   refine aw_sr ?_
   refine al_gs ?_
   refine al_nil ?_
   refine fz1 (t := 2) ?_
   refine aw_ret ?_
   refine ⟨_, res_1 rfl rfl, ?_, rfl⟩
   rw [strR_eq]; simp only [gh1, gh3, gh5, gh7, gh9, gh11, gh12, gh14, Bool.false_or, Bool.true_or, Bool.or_true, Bool.or_false, Bool.false_eq_true, if_true, if_false, reduceIte]
  have gh15 := h15
  simp only [nrm] at h15
  exact absurd (gh14.symm.trans gh15) (by decide)
 have gh14 := h14
 simp only [nrm] at h14
 refine aw_sr ?_
 refine al_op (op_seql_str rfl rfl) rfl (by simp) ?_
 refine al_gs ?_
 refine al_nil ?_
 refine aw_cond rfl (fun h16 => ?_) (fun h16 => ?_)
 ·have gh16 := h16
  simp only [nrm] at h16
  refine aw_skip ?_
  refine aw_cond rfl (fun h17 => ?_) (fun h17 => ?_)
  ·have gh17 := h17
   simp only [nrm] at h17
   refine aw_sr ?_
   refine al_gs ?_
   refine al_nil ?_
   refine fz1 (t := 2) ?_
   refine aw_ret ?_
   refine ⟨_, res_1 rfl rfl, ?_, rfl⟩
   rw [strR_eq]; simp only [gh1, gh3, gh5, gh7, gh9, gh11, gh12, gh14, gh16, Bool.false_or, Bool.true_or, Bool.or_true, Bool.or_false, Bool.false_eq_true, if_true, if_false, reduceIte]
  have gh17 := h17
  simp only [nrm] at h17
  exact absurd (gh16.symm.trans gh17) (by decide)
 have gh16 := h16
 simp only [nrm] at h16
 refine aw_sr ?_
 refine al_op (op_seql_str rfl rfl) rfl (by simp) ?_
 refine al_gs ?_
 refine al_nil ?_
 refine aw_cond rfl (fun h18 => ?_) (fun h18 => ?_)
 ·have gh18 := h18
  simp only [nrm] at h18
  refine aw_skip ?_
  refine aw_cond rfl (fun h19 => ?_) (fun h19 => ?_)
  ·have gh19 := h19
   simp only [nrm] at h19
   refine aw_sr ?_
   refine al_gs ?_
   refine al_nil ?_
   refine fz1 (t := 2) ?_
   refine aw_ret ?_
   refine ⟨_, res_1 rfl rfl, ?_, rfl⟩
   rw [strR_eq]; simp only [gh1, gh3, gh5, gh7, gh9, gh11, gh12, gh14, gh16, gh18, Bool.false_or, Bool.true_or, Bool.or_true, Bool.or_false, Bool.false_eq_true, if_true, if_false, reduceIte]
  have gh19 := h19
  simp only [nrm] at h19
  exact absurd (gh18.symm.trans gh19) (by decide)
 have gh18 := h18
 simp only [nrm] at h18
 refine aw_sr ?_
 refine al_op (op_seql_str rfl rfl) rfl (by simp) ?_
 refine al_gs ?_
 refine al_nil ?_
 refine aw_cond rfl (fun h20 => ?_) (fun h20 => ?_)
 ·have gh20 := h20
  simp only [nrm] at h20
  refine aw_skip ?_
  refine aw_cond rfl (fun h21 => ?_) (fun h21 => ?_)
  ·have gh21 := h21
   simp only [nrm] at h21
   refine aw_sr ?_
   refine al_gs ?_
   refine al_nil ?_
   refine fz1 (t := 2) ?_
   refine aw_ret ?_
   refine ⟨_, res_1 rfl rfl, ?_, rfl⟩
   rw [strR_eq]; simp only [gh1, gh3, gh5, gh7, gh9, gh11, gh12, gh14, gh16, gh18, gh20, Bool.false_or, Bool.true_or, Bool.or_true, Bool.or_false, Bool.false_eq_true, if_true, if_false, reduceIte]
  have gh21 := h21
  simp only [nrm] at h21
  exact absurd (gh20.symm.trans gh21) (by decide)
 have gh20 := h20
 simp only [nrm] at h20
 refine aw_region ?_
 refine al_op (op_seql_str rfl rfl) rfl (by simp) ?_
 refine al_gs ?_
 refine al_nil ?_
 refine aw_cond rfl (fun h22 => ?_) (fun h22 => ?_)
 ·have gh22 := h22
  simp only [nrm] at h22
  refine aw_sr ?_
  refine al_gs ?_
  refine al_nil ?_
  refine fz1 (t := 2) ?_
  refine aw_ret ?_
  refine ⟨_, res_1 rfl rfl, ?_, rfl⟩
  rw [strR_eq]; simp only [gh1, gh3, gh5, gh7, gh9, gh11, gh12, gh14, gh16, gh18, gh20, gh22, Bool.false_or, Bool.true_or, Bool.or_true, Bool.or_false, Bool.false_eq_true, if_true, if_false, reduceIte]
 have gh22 := h22
 simp only [nrm] at h22
 refine aw_seq ?_
 refine aw_sr ?_
 refine al_op (op_seql_str rfl rfl) rfl (by simp) ?_
 refine al_gs ?_
 refine al_nil ?_
 refine aw_cond rfl (fun h23 => ?_) (fun h23 => ?_)
 ·have gh23 := h23
  simp only [nrm] at h23
  refine aw_skip ?_
  refine aw_cond rfl (fun h24 => ?_) (fun h24 => ?_)
  ·have gh24 := h24
   simp only [nrm] at h24
   refine aw_sr ?_
   refine al_gs ?_
   refine al_nil ?_
   refine fz1 (t := 2) ?_
   refine aw_ret ?_
   refine ⟨_, res_1 rfl rfl, ?_, rfl⟩
   rw [strR_eq]; simp only [gh1, gh3, gh5, gh7, gh9, gh11, gh12, gh14, gh16, gh18, gh20, gh22, gh23, Bool.false_or, Bool.true_or, Bool.or_true, Bool.or_false, Bool.false_eq_true, if_true, if_false, reduceIte]
  have gh24 := h24
  simp only [nrm] at h24
  exact absurd (gh23.symm.trans gh24) (by decide)
 have gh23 := h23
 simp only [nrm] at h23
 refine aw_sr ?_
 refine al_op (op_seql_str rfl rfl) rfl (by simp) ?_
 refine al_gs ?_
 refine al_nil ?_
 refine aw_cond rfl (fun h25 => ?_) (fun h25 => ?_)
 ·have gh25 := h25
  simp only [nrm] at h25
  refine aw_skip ?_
  refine aw_cond rfl (fun h26 => ?_) (fun h26 => ?_)
  ·have gh26 := h26
   simp only [nrm] at h26
   refine aw_sr ?_
   refine al_gs ?_
   refine al_nil ?_
   refine fz1 (t := 2) ?_
   refine aw_ret ?_
   refine ⟨_, res_1 rfl rfl, ?_, rfl⟩
   rw [strR_eq]; simp only [gh1, gh3, gh5, gh7, gh9, gh11, gh12, gh14, gh16, gh18, gh20, gh22, gh23, gh25, Bool.false_or, Bool.true_or, Bool.or_true, Bool.or_false, Bool.false_eq_true, if_true, if_false, reduceIte]
  have gh26 := h26
  simp only [nrm] at h26
  exact absurd (gh25.symm.trans gh26) (by decide)
 have gh25 := h25
 simp only [nrm] at h25
 refine aw_region ?_
 refine al_op (op_seql_str rfl rfl) rfl (by simp) ?_
 refine al_gs ?_
 refine al_nil ?_
 refine aw_cond rfl (fun h27 => ?_) (fun h27 => ?_)
 ·have gh27 := h27
  simp only [nrm] at h27
  refine aw_sr ?_
  refine al_gs ?_
  refine al_nil ?_
  refine fz1 (t := 2) ?_
  refine aw_ret ?_
  refine ⟨_, res_1 rfl rfl, ?_, rfl⟩
  rw [strR_eq]; simp only [gh1, gh3, gh5, gh7, gh9, gh11, gh12, gh14, gh16, gh18, gh20, gh22, gh23, gh25, gh27, Bool.false_or, Bool.true_or, Bool.or_true, Bool.or_false, Bool.false_eq_true, if_true, if_false, reduceIte]
 have gh27 := h27
 simp only [nrm] at h27
 refine aw_seq ?_
 refine aw_sr ?_
 refine al_op (op_seql_str rfl rfl) rfl (by simp) ?_
 refine al_gs ?_
 refine al_nil ?_
 refine aw_cond rfl (fun h28 => ?_) (fun h28 => ?_)
 ·have gh28 := h28
  simp only [nrm] at h28
  refine aw_skip ?_
  refine aw_cond rfl (fun h29 => ?_) (fun h29 => ?_)
  ·have gh29 := h29
   simp only [nrm] at h29
   refine aw_sr ?_
   refine al_gs ?_
   refine al_nil ?_
   refine fz1 (t := 2) ?_
   refine aw_ret ?_
   refine ⟨_, res_1 rfl rfl, ?_, rfl⟩
   rw [strR_eq]; simp only [gh1, gh3, gh5, gh7, gh9, gh11, gh12, gh14, gh16, gh18, gh20, gh22, gh23, gh25, gh27, gh28, Bool.false_or, Bool.true_or, Bool.or_true, Bool.or_false, Bool.false_eq_true, if_true, if_false, reduceIte]
  have gh29 := h29
  simp only [nrm] at h29
  exact absurd (gh28.symm.trans gh29) (by decide)
 have gh28 := h28
 simp only [nrm] at h28
 refine aw_sr ?_
 refine al_op (op_seql_str rfl rfl) rfl (by simp) ?_
 refine al_gs ?_
 refine al_nil ?_
 refine aw_cond rfl (fun h30 => ?_) (fun h30 => ?_)
 ·have gh30 := h30
  simp only [nrm] at h30
  refine aw_skip ?_
  refine aw_cond rfl (fun h31 => ?_) (fun h31 => ?_)
  ·have gh31 := h31
   simp only [nrm] at h31
   refine aw_sr ?_
   refine al_gs ?_
   refine al_nil ?_
   refine fz1 (t := 2) ?_
   refine aw_ret ?_
   refine ⟨_, res_1 rfl rfl, ?_, rfl⟩
   rw [strR_eq]; simp only [gh1, gh3, gh5, gh7, gh9, gh11, gh12, gh14, gh16, gh18, gh20, gh22, gh23, gh25, gh27, gh28, gh30, Bool.false_or, Bool.true_or, Bool.or_true, Bool.or_false, Bool.false_eq_true, if_true, if_false, reduceIte]
  have gh31 := h31
  simp only [nrm] at h31
  exact absurd (gh30.symm.trans gh31) (by decide)
 have gh30 := h30
 simp only [nrm] at h30
 refine aw_sr ?_
 refine al_op (op_seql_str rfl rfl) rfl (by simp) ?_
 refine al_gs ?_
 refine al_nil ?_
 refine aw_cond rfl (fun h32 => ?_) (fun h32 => ?_)
 ·have gh32 := h32
  simp only [nrm] at h32
  refine aw_skip ?_
  refine aw_cond rfl (fun h33 => ?_) (fun h33 => ?_)
  ·have gh33 := h33
   simp only [nrm] at h33
   refine aw_sr ?_
   refine al_gs ?_
   refine al_nil ?_
   refine fz1 (t := 2) ?_
   refine aw_ret ?_
   refine ⟨_, res_1 rfl rfl, ?_, rfl⟩
   rw [strR_eq]; simp only [gh1, gh3, gh5, gh7, gh9, gh11, gh12, gh14, gh16, gh18, gh20, gh22, gh23, gh25, gh27, gh28, gh30, gh32, Bool.false_or, Bool.true_or, Bool.or_true, Bool.or_false, Bool.false_eq_true, if_true, if_false, reduceIte]
  have gh33 := h33
  simp only [nrm] at h33
  exact absurd (gh32.symm.trans gh33) (by decide)
 have gh32 := h32
 simp only [nrm] at h32
 refine aw_sr ?_
 refine al_op (op_seql_str rfl rfl) rfl (by simp) ?_
 refine al_gs ?_
 refine al_nil ?_
 refine aw_cond rfl (fun h34 => ?_) (fun h34 => ?_)
 ·have gh34 := h34
  simp only [nrm] at h34
  refine aw_skip ?_
  refine aw_cond rfl (fun h35 => ?_) (fun h35 => ?_)
  ·have gh35 := h35
   simp only [nrm] at h35
   refine aw_sr ?_
   refine al_gs ?_
   refine al_nil ?_
   refine fz1 (t := 2) ?_
   refine aw_ret ?_
   refine ⟨_, res_1 rfl rfl, ?_, rfl⟩
   rw [strR_eq]; simp only [gh1, gh3, gh5, gh7, gh9, gh11, gh12, gh14, gh16, gh18, gh20, gh22, gh23, gh25, gh27, gh28, gh30, gh32, gh34, Bool.false_or, Bool.true_or, Bool.or_true, Bool.or_false, Bool.false_eq_true, if_true, if_false, reduceIte]
  have gh35 := h35
  simp only [nrm] at h35
  exact absurd (gh34.symm.trans gh35) (by decide)
 have gh34 := h34
 simp only [nrm] at h34
 refine aw_region ?_
 refine al_op (op_seql_str rfl rfl) rfl (by simp) ?_
 refine al_gs ?_
 refine al_nil ?_
 refine aw_cond rfl (fun h36 => ?_) (fun h36 => ?_)
 ·have gh36 := h36
  simp only [nrm] at h36
  refine aw_sr ?_
  refine al_gs ?_
  refine al_nil ?_
  refine fz1 (t := 2) ?_
  refine aw_ret ?_
  refine ⟨_, res_1 rfl rfl, ?_, rfl⟩
  rw [strR_eq]; simp only [gh1, gh3, gh5, gh7, gh9, gh11, gh12, gh14, gh16, gh18, gh20, gh22, gh23, gh25, gh27, gh28, gh30, gh32, gh34, gh36, Bool.false_or, Bool.true_or, Bool.or_true, Bool.or_false, Bool.false_eq_true, if_true, if_false, reduceIte]
 have gh36 := h36
 simp only [nrm] at h36
 refine aw_skip ?_
 refine aw_sr ?_
 refine al_gs ?_
 refine al_nil ?_
 refine fz1 (t := 2) ?_
 refine aw_ret ?_
 refine ⟨_, res_1 rfl rfl, ?_, rfl⟩
 rw [strR_eq]; simp only [gh1, gh3, gh5, gh7, gh9, gh11, gh12, gh14, gh16, gh18, gh20, gh22, gh23, gh25, gh27, gh28, gh30, gh32, gh34, gh36, Bool.false_or, Bool.true_or, Bool.or_true, Bool.or_false, Bool.false_eq_true, if_true, if_false, reduceIte]
theorem r_level (e : Ex) (hs : e.name.length ≤ 1000000000) : ACp Tryz.prog 112 [.agg (cellsE (e))] (.v (.int .i64 (levelR e))) := by
 refine acp_of rfl ?_
 refine ace 20 Tryz.func112 ?_
 refine aw_sr ?_
 refine al_bx 1 fun ver1 => ?_
 refine al_gs ?_
 refine al_nil ?_
 refine aw_seq ?_
 refine aw_block ?_
 refine aw_sr ?_
 refine al_fp Tryz.underlying37 info25 ?_
 refine al_ld Tryz.underlying25 info25 ?_
 refine al_op (op_neq rfl rfl) rfl (by simp) ?_
 refine al_mv ?_
 apply al_or 4 7 11 rfl
 ·intro h1; have gh1 := h1
  simp only [nrm] at h1
  refine tk_fp Tryz.underlying37 info9 ?_
  refine tk_ld Tryz.underlying9 info9 ?_
  refine al_callp_take into67 rfl rfl rfl rfl rfl rfl (r_isName e.name (by omega) _) (by simp) ?_
  refine al_pk ?_
  exact al_nk gh1
 ·intro h1; have gh1 := h1
  simp only [nrm] at h1
  refine al_ps ?_
  refine al_ps ?_
  refine al_ps ?_
  refine al_pk ?_
  exact al_nk gh1
 refine al_gs ?_
 refine al_nil ?_
 refine aw_cond rfl (fun h2 => ?_) (fun h2 => ?_)
 ·have gh2 := h2
  simp only [nrm] at h2
  refine aw_sr ?_
  refine al_gs ?_
  refine al_nil ?_
  refine fz1 (t := 2) ?_
  refine aw_ret ?_
  refine ⟨_, res_1 rfl rfl, ?_, rfl⟩
  rw [levelR_6 gh2]
 have gh2 := h2
 simp only [nrm] at h2
 refine aw_sr ?_
 refine al_fp Tryz.underlying37 info31 ?_
 refine al_ld Tryz.underlying31 info31 ?_
 refine al_lm Tryz.underlying31 ?_
 refine al_eq ?_
 refine al_gs ?_
 refine al_nil ?_
 refine aw_cond rfl (fun h3 => ?_) (fun h3 => ?_)
 ·have gh3 := h3
  simp only [nrm] at h3
  refine aw_sr ?_
  refine al_gs ?_
  refine al_nil ?_
  refine fz1 (t := 2) ?_
  refine aw_ret ?_
  refine ⟨_, res_1 rfl rfl, ?_, rfl⟩
  rw [levelR_5 gh2 gh3]
 have gh3 := h3
 simp only [nrm] at h3
 refine aw_skip ?_
 refine aw_sr ?_
 refine al_fp Tryz.underlying37 info9 ?_
 refine al_ld Tryz.underlying9 info9 ?_
 refine al_callp into136 rfl rfl rfl ((r_strength _) _) (by simp) ?_
 refine al_gs ?_
 refine al_nil ?_
 refine fz1 (t := 2) ?_
 refine aw_ret ?_
 refine ⟨_, res_1 rfl rfl, ?_, rfl⟩
 rw [levelR_s gh2 gh3]
theorem r_least (e : Ex) (hs : e.name.length ≤ 1000000000) (i : Nat) : ACp Tryz.prog 113 [.agg (cellsE (e)), .v (.int .i64 ((i : Nat) : Int))] (.v (.int .i64 (leastR e (i : Int)))) := by
 refine acp_of rfl ?_
 obtain ⟨s1, s2⟩ := strR_range e.name
 refine ace 46 Tryz.func113 ?_
 refine aw_sr ?_
 refine al_bx 2 fun ver2 => ?_
 refine al_gs ?_
 refine al_nil ?_
 refine aw_seq ?_
 refine aw_block ?_
 refine aw_sr ?_
 refine al_fp Tryz.underlying37 info25 ?_
 refine al_ld Tryz.underlying25 info25 ?_
 refine al_eq ?_
 refine al_mv ?_
 apply al_or 4 9 13 rfl
 ·intro h1; have gh1 := h1
  simp only [nrm] at h1
  refine tk_fp Tryz.underlying37 info25 ?_
  refine tk_ld Tryz.underlying25 info25 ?_
  refine tk_eq ?_
  refine al_pk ?_
  exact al_nk gh1
 ·intro h1; have gh1 := h1
  simp only [nrm] at h1
  refine al_ps ?_
  refine al_ps ?_
  refine al_ps ?_
  refine al_pk ?_
  exact al_nk gh1
 refine al_gs ?_
 refine al_nil ?_
 refine aw_cond rfl (fun h2 => ?_) (fun h2 => ?_)
 ·have gh2 := h2
  simp only [nrm] at h2
  refine aw_seq ?_
  refine aw_sr ?_
  refine al_mv ?_
  refine al_eq ?_
  refine al_nil ?_
  refine aw_cond rfl (fun h3 => ?_) (fun h3 => ?_)
  ·have gh3 := h3
   simp only [nrm] at h3
   refine aw_sr ?_
   refine al_gs ?_
   refine al_nil ?_
   refine fz1 (t := 4) ?_
   refine aw_ret ?_
   refine ⟨_, res_1 rfl rfl, ?_, rfl⟩
   rw [leastR, gh2, gh3]; rfl
  have gh3 := h3
  simp only [nrm] at h3
  refine aw_skip ?_
  refine aw_sr ?_
  refine al_gs ?_
  refine al_nil ?_
  refine fz1 (t := 4) ?_
  refine aw_ret ?_
  refine ⟨_, res_1 rfl rfl, ?_, rfl⟩
  rw [leastR, gh2, gh3]; rfl
 have gh2 := h2
 simp only [nrm] at h2
 refine aw_sr ?_
 refine al_fp Tryz.underlying37 info25 ?_
 refine al_ld Tryz.underlying25 info25 ?_
 refine al_op (op_neq rfl rfl) rfl (by simp) ?_
 refine al_mv ?_
 apply al_or 4 20 24 rfl
 ·intro h4; have gh4 := h4
  simp only [nrm] at h4
  refine tk_fp Tryz.underlying37 info9 ?_
  refine tk_ld Tryz.underlying9 info9 ?_
  refine al_callp_take into67 rfl rfl rfl rfl rfl rfl (r_isName e.name (by omega) _) (by simp) ?_
  refine al_pk ?_
  exact al_nk gh4
 ·intro h4; have gh4 := h4
  simp only [nrm] at h4
  refine al_ps ?_
  refine al_ps ?_
  refine al_ps ?_
  refine al_pk ?_
  exact al_nk gh4
 refine al_gs ?_
 refine al_nil ?_
 refine aw_cond rfl (fun h5 => ?_) (fun h5 => ?_)
 ·have gh5 := h5
  simp only [nrm] at h5
  refine aw_sr ?_
  refine al_gs ?_
  refine al_nil ?_
  refine fz1 (t := 4) ?_
  refine aw_ret ?_
  refine ⟨_, res_1 rfl rfl, ?_, rfl⟩
  rw [leastR, gh2, gh5]; rfl
 have gh5 := h5
 simp only [nrm] at h5
 refine aw_sr ?_
 refine al_fp Tryz.underlying37 info31 ?_
 refine al_ld Tryz.underlying31 info31 ?_
 refine al_lm Tryz.underlying31 ?_
 refine al_eq ?_
 refine al_gs ?_
 refine al_nil ?_
 refine aw_cond rfl (fun h6 => ?_) (fun h6 => ?_)
 ·have gh6 := h6
  simp only [nrm] at h6
  refine aw_sr ?_
  refine al_gs ?_
  refine al_nil ?_
  refine fz1 (t := 4) ?_
  refine aw_ret ?_
  refine ⟨_, res_1 rfl rfl, ?_, rfl⟩
  rw [leastR, gh2, gh5, gh6]; rfl
 have gh6 := h6
 simp only [nrm] at h6
 refine aw_sr ?_
 refine al_mv ?_
 refine al_eq ?_
 refine al_mv ?_
 apply al_or 5 33 38 rfl
 ·intro h7; have gh7 := h7
  simp only [nrm] at h7
  refine tk_fp Tryz.underlying37 info9 ?_
  refine tk_ld Tryz.underlying9 info9 ?_
  refine al_callp_take into136 rfl rfl rfl rfl rfl rfl ((r_strength _) _) (by simp) ?_
  refine tk_eq ?_
  refine al_pk ?_
  exact al_nk gh7
 ·intro h7; have gh7 := h7
  simp only [nrm] at h7
  refine al_ps ?_
  refine al_ps ?_
  refine al_ps ?_
  refine al_ps ?_
  refine al_pk ?_
  exact al_nk gh7
 refine al_gs ?_
 refine al_nil ?_
 refine aw_cond rfl (fun h8 => ?_) (fun h8 => ?_)
 ·have gh8 := h8
  simp only [nrm] at h8
  refine aw_sr ?_
  refine al_fp Tryz.underlying37 info9 ?_
  refine al_ld Tryz.underlying9 info9 ?_
  refine al_callp into136 rfl rfl rfl ((r_strength _) _) (by simp) ?_
  refine al_ad ?_
  refine al_gs ?_
  refine al_nil ?_
  refine fz1 (t := 4) ?_
  refine aw_ret ?_
  refine ⟨_, res_1 rfl rfl, ?_, rfl⟩
  rw [leastR, gh2, gh5, gh6, gh8]; rfl
 have gh8 := h8
 simp only [nrm] at h8
 refine aw_skip ?_
 refine aw_sr ?_
 refine al_fp Tryz.underlying37 info9 ?_
 refine al_ld Tryz.underlying9 info9 ?_
 refine al_callp into136 rfl rfl rfl ((r_strength _) _) (by simp) ?_
 refine al_gs ?_
 refine al_nil ?_
 refine fz1 (t := 4) ?_
 refine aw_ret ?_
 refine ⟨_, res_1 rfl rfl, ?_, rfl⟩
 rw [leastR, gh2, gh5, gh6, gh8]; rfl
theorem r_bare (e : Ex) : ACp Tryz.prog 109 [.agg (cellsE (e))] (.v (.bool (bareR e))) := by
 refine acp_of rfl ?_
 refine ace 56 Tryz.func109 ?_
 refine aw_sr ?_
 refine al_bx 1 fun ver1 => ?_
 refine al_gs ?_
 refine al_nil ?_
 refine aw_seq ?_
 refine aw_plan [0, 1, 2, 3, 4, 5, 6, 7] (Checked.mixed Tryz.checked) (by kernel_rfl) ?_
 refine afl_float rfl rfl (opk_of (op_field_ptr Tryz.underlying37 rfl info35 (by decide) rfl rfl rfl)) (by simp) ?_
 refine afl_float rfl rfl (opk_of (op_load_ptr Tryz.underlying35 info35 rfl rfl rfl rfl)) (by simp) ?_
 refine afl_float rfl rfl (opk_of (op_field_ptr Tryz.underlying37 rfl info30 (by decide) rfl rfl rfl)) (by simp) ?_
 refine afl_float rfl rfl (opk_of (op_load_ptr Tryz.underlying30 info30 rfl rfl rfl rfl)) (by simp) ?_
 refine afl_two 5 [4, 6, 7] rfl rfl rfl rfl (by kernel_rfl) (by kernel_rfl) (by simp) (by simp) (next_opR (op_alloc 3 info35 rfl rfl) ?_) (next_opR (op_alloc 4 info30 rfl rfl) ?_)
 ·rintro _ _ ⟨ver3, rfl, rfl⟩; refine ⟨?_, ?_⟩
  ·
   refine loose_k rfl (opk_of (op_load_ptr Tryz.underlying30 info30 rfl rfl rfl rfl)) ?_
   refine loose_k rfl (opk_of (op_field_ptr Tryz.underlying37 rfl info30 (by decide) rfl rfl rfl)) ?_
   refine loose_k rfl (opk_of (op_load_ptr Tryz.underlying35 info35 rfl rfl rfl rfl)) ?_
   refine loose_k rfl (opk_of (op_field_ptr Tryz.underlying37 rfl info35 (by decide) rfl rfl rfl)) ?_
   exact loose_nil
  (refine afl_effR rfl rfl (by kernel_rfl) (op_alloc 4 info30 rfl rfl) (by simp) ?_; rintro _ _ ⟨ver4, rfl, rfl⟩; refine ⟨?_, ?_⟩)
  ·
   refine loose_fix rfl ?_
   refine loose_k rfl (opk_of (op_load_ptr Tryz.underlying30 info30 rfl rfl rfl rfl)) ?_
   refine loose_k rfl (opk_of (op_field_ptr Tryz.underlying37 rfl info30 (by decide) rfl rfl rfl)) ?_
   refine loose_k rfl (opk_of (op_load_ptr Tryz.underlying35 info35 rfl rfl rfl rfl)) ?_
   refine loose_k rfl (opk_of (op_field_ptr Tryz.underlying37 rfl info35 (by decide) rfl rfl rfl)) ?_
   exact loose_nil
  (refine afl_eff rfl rfl (by kernel_rfl) (op_sp info35) (by simp) ?_ ?_)
  ·
   refine loose_fix rfl ?_
   refine loose_fix rfl ?_
   refine loose_k rfl (opk_of (op_load_ptr Tryz.underlying30 info30 rfl rfl rfl rfl)) ?_
   refine loose_k rfl (opk_of (op_field_ptr Tryz.underlying37 rfl info30 (by decide) rfl rfl rfl)) ?_
   refine loose_anc 1 rfl (by kernel_rfl) ?_
   refine loose_anc 0 rfl (by kernel_rfl) ?_
   exact loose_nil
  (refine afl_eff rfl rfl (by kernel_rfl) (op_sp info30) (by simp) ?_ ?_)
  ·
   refine loose_fix rfl ?_
   refine loose_fix rfl ?_
   refine loose_fix rfl ?_
   refine loose_anc 3 rfl (by kernel_rfl) ?_
   refine loose_anc 2 rfl (by kernel_rfl) ?_
   refine loose_anc 1 rfl (by kernel_rfl) ?_
   refine loose_anc 0 rfl (by kernel_rfl) ?_
   exact loose_nil
  refine afl_end ?_
  refine aw_sr ?_
  refine al_fp Tryz.underlying35 info27 ?_
  refine al_ld Tryz.underlying27 info27 ?_
  refine al_eq ?_
  refine al_mv ?_
  apply al_and 4 12 16 rfl
  ·intro h1; have gh1 := h1
   simp only [nrm] at h1
   refine tk_fp Tryz.underlying35 info3 ?_
   refine tk_ld Tryz.underlying3 info3 ?_
   refine tk_eq ?_
   refine al_pk ?_
   exact al_nk gh1
  ·intro h1; have gh1 := h1
   simp only [nrm] at h1
   refine al_ps ?_
   refine al_ps ?_
   refine al_ps ?_
   refine al_pk ?_
   exact al_nk gh1
  refine al_mv ?_
  apply al_and 4 17 21 rfl
  ·intro h2; have gh2 := h2
   simp only [nrm] at h2
   refine tk_fp Tryz.underlying35 info9 ?_
   refine tk_ld Tryz.underlying9 info9 ?_
   refine al_take (op_seql_str rfl rfl) rfl rfl rfl rfl (by simp) ?_
   refine al_pk ?_
   exact al_nk gh2
  ·intro h2; have gh2 := h2
   refine al_ps ?_
   refine al_ps ?_
   refine al_ps ?_
   refine al_pk ?_
   exact al_nk gh2
  refine al_mv ?_
  apply al_and 5 22 27 rfl
  ·intro h3; have gh3 := h3
   simp only [nrm] at h3
   refine tk_fp Tryz.underlying35 info32 ?_
   refine tk_ld Tryz.underlying32 info32 ?_
   refine al_take (op_len_map Tryz.underlying32 rfl) rfl rfl rfl rfl (by simp) ?_
   refine tk_eq ?_
   refine al_pk ?_
   exact al_nk gh3
  ·intro h3; have gh3 := h3
   refine al_ps ?_
   refine al_ps ?_
   refine al_ps ?_
   refine al_ps ?_
   refine al_pk ?_
   exact al_nk gh3
  refine al_mv ?_
  apply al_and 5 28 33 rfl
  ·intro h4; have gh4 := h4
   simp only [nrm] at h4
   refine tk_fp Tryz.underlying35 info33 ?_
   refine tk_ld Tryz.underlying33 info33 ?_
   refine al_take (op_len_map Tryz.underlying33 rfl) rfl rfl rfl rfl (by simp) ?_
   refine tk_eq ?_
   refine al_pk ?_
   exact al_nk gh4
  ·intro h4; have gh4 := h4
   refine al_ps ?_
   refine al_ps ?_
   refine al_ps ?_
   refine al_ps ?_
   refine al_pk ?_
   exact al_nk gh4
  refine al_mv ?_
  apply al_and 4 34 38 rfl
  ·intro h5; have gh5 := h5
   simp only [nrm] at h5
   refine tk_fp Tryz.underlying30 info27 ?_
   refine tk_ld Tryz.underlying27 info27 ?_
   refine tk_eq ?_
   refine al_pk ?_
   exact al_nk gh5
  ·intro h5; have gh5 := h5
   refine al_ps ?_
   refine al_ps ?_
   refine al_ps ?_
   refine al_pk ?_
   exact al_nk gh5
  refine al_mv ?_
  apply al_and 4 39 43 rfl
  ·intro h6; have gh6 := h6
   simp only [nrm] at h6
   refine tk_fp Tryz.underlying30 info3 ?_
   refine tk_ld Tryz.underlying3 info3 ?_
   refine tk_eq ?_
   refine al_pk ?_
   exact al_nk gh6
  ·intro h6; have gh6 := h6
   refine al_ps ?_
   refine al_ps ?_
   refine al_ps ?_
   refine al_pk ?_
   exact al_nk gh6
  refine al_mv ?_
  apply al_and 5 44 49 rfl
  ·intro h7; have gh7 := h7
   simp only [nrm] at h7
   refine tk_fp Tryz.underlying30 info26 ?_
   refine tk_ld Tryz.underlying26 info26 ?_
   refine al_take (op_len_map Tryz.underlying26 rfl) rfl rfl rfl rfl (by simp) ?_
   refine tk_eq ?_
   refine al_pk ?_
   exact al_nk gh7
  ·intro h7; have gh7 := h7
   refine al_ps ?_
   refine al_ps ?_
   refine al_ps ?_
   refine al_ps ?_
   refine al_pk ?_
   exact al_nk gh7
  refine al_mv ?_
  apply al_and 5 50 55 rfl
  ·intro h8; have gh8 := h8
   simp only [nrm] at h8
   refine tk_fp Tryz.underlying30 info28 ?_
   refine tk_ld Tryz.underlying28 info28 ?_
   refine al_take (op_len_map Tryz.underlying28 rfl) rfl rfl rfl rfl (by simp) ?_
   refine tk_eq ?_
   refine al_pk ?_
   exact al_nk gh8
  ·intro h8; have gh8 := h8
   refine al_ps ?_
   refine al_ps ?_
   refine al_ps ?_
   refine al_ps ?_
   refine al_pk ?_
   exact al_nk gh8
  refine al_gs ?_
  refine al_nil ?_
  refine fz1 (t := 2) ?_
  refine aw_ret ?_
  refine ⟨_, res_1 rfl rfl, ?_, rfl⟩
  rw [bareR, untyped, noneV]; simp only [Bool.and_assoc]
 ·rintro _ _ ⟨ver4, rfl, rfl⟩; refine ⟨?_, ?_⟩
  ·
   refine loose_k rfl (opk_of (op_load_ptr Tryz.underlying30 info30 rfl rfl rfl rfl)) ?_
   refine loose_k rfl (opk_of (op_field_ptr Tryz.underlying37 rfl info30 (by decide) rfl rfl rfl)) ?_
   refine loose_k rfl (opk_of (op_load_ptr Tryz.underlying35 info35 rfl rfl rfl rfl)) ?_
   refine loose_k rfl (opk_of (op_field_ptr Tryz.underlying37 rfl info35 (by decide) rfl rfl rfl)) ?_
   exact loose_nil
  (refine afl_effR rfl rfl (by kernel_rfl) (op_alloc 3 info35 rfl rfl) (by simp) ?_; rintro _ _ ⟨ver3, rfl, rfl⟩; refine ⟨?_, ?_⟩)
  ·
   refine loose_fix rfl ?_
   refine loose_k rfl (opk_of (op_load_ptr Tryz.underlying30 info30 rfl rfl rfl rfl)) ?_
   refine loose_k rfl (opk_of (op_field_ptr Tryz.underlying37 rfl info30 (by decide) rfl rfl rfl)) ?_
   refine loose_k rfl (opk_of (op_load_ptr Tryz.underlying35 info35 rfl rfl rfl rfl)) ?_
   refine loose_k rfl (opk_of (op_field_ptr Tryz.underlying37 rfl info35 (by decide) rfl rfl rfl)) ?_
   exact loose_nil
  (refine afl_eff rfl rfl (by kernel_rfl) (op_sp info35) (by simp) ?_ ?_)
  ·
   refine loose_fix rfl ?_
   refine loose_fix rfl ?_
   refine loose_k rfl (opk_of (op_load_ptr Tryz.underlying30 info30 rfl rfl rfl rfl)) ?_
   refine loose_k rfl (opk_of (op_field_ptr Tryz.underlying37 rfl info30 (by decide) rfl rfl rfl)) ?_
   refine loose_anc 1 rfl (by kernel_rfl) ?_
   refine loose_anc 0 rfl (by kernel_rfl) ?_
   exact loose_nil
  (refine afl_eff rfl rfl (by kernel_rfl) (op_sp info30) (by simp) ?_ ?_)
  ·
   refine loose_fix rfl ?_
   refine loose_fix rfl ?_
   refine loose_fix rfl ?_
   refine loose_anc 3 rfl (by kernel_rfl) ?_
   refine loose_anc 2 rfl (by kernel_rfl) ?_
   refine loose_anc 1 rfl (by kernel_rfl) ?_
   refine loose_anc 0 rfl (by kernel_rfl) ?_
   exact loose_nil
  refine afl_end ?_
  refine aw_sr ?_
  refine al_fp Tryz.underlying35 info27 ?_
  refine al_ld Tryz.underlying27 info27 ?_
  refine al_eq ?_
  refine al_mv ?_
  apply al_and 4 12 16 rfl
  ·intro h9; have gh9 := h9
   simp only [nrm] at h9
   refine tk_fp Tryz.underlying35 info3 ?_
   refine tk_ld Tryz.underlying3 info3 ?_
   refine tk_eq ?_
   refine al_pk ?_
   exact al_nk gh9
  ·intro h9; have gh9 := h9
   simp only [nrm] at h9
   refine al_ps ?_
   refine al_ps ?_
   refine al_ps ?_
   refine al_pk ?_
   exact al_nk gh9
  refine al_mv ?_
  apply al_and 4 17 21 rfl
  ·intro h10; have gh10 := h10
   simp only [nrm] at h10
   refine tk_fp Tryz.underlying35 info9 ?_
   refine tk_ld Tryz.underlying9 info9 ?_
   refine al_take (op_seql_str rfl rfl) rfl rfl rfl rfl (by simp) ?_
   refine al_pk ?_
   exact al_nk gh10
  ·intro h10; have gh10 := h10
   refine al_ps ?_
   refine al_ps ?_
   refine al_ps ?_
   refine al_pk ?_
   exact al_nk gh10
  refine al_mv ?_
  apply al_and 5 22 27 rfl
  ·intro h11; have gh11 := h11
   simp only [nrm] at h11
   refine tk_fp Tryz.underlying35 info32 ?_
   refine tk_ld Tryz.underlying32 info32 ?_
   refine al_take (op_len_map Tryz.underlying32 rfl) rfl rfl rfl rfl (by simp) ?_
   refine tk_eq ?_
   refine al_pk ?_
   exact al_nk gh11
  ·intro h11; have gh11 := h11
   refine al_ps ?_
   refine al_ps ?_
   refine al_ps ?_
   refine al_ps ?_
   refine al_pk ?_
   exact al_nk gh11
  refine al_mv ?_
  apply al_and 5 28 33 rfl
  ·intro h12; have gh12 := h12
   simp only [nrm] at h12
   refine tk_fp Tryz.underlying35 info33 ?_
   refine tk_ld Tryz.underlying33 info33 ?_
   refine al_take (op_len_map Tryz.underlying33 rfl) rfl rfl rfl rfl (by simp) ?_
   refine tk_eq ?_
   refine al_pk ?_
   exact al_nk gh12
  ·intro h12; have gh12 := h12
   refine al_ps ?_
   refine al_ps ?_
   refine al_ps ?_
   refine al_ps ?_
   refine al_pk ?_
   exact al_nk gh12
  refine al_mv ?_
  apply al_and 4 34 38 rfl
  ·intro h13; have gh13 := h13
   simp only [nrm] at h13
   refine tk_fp Tryz.underlying30 info27 ?_
   refine tk_ld Tryz.underlying27 info27 ?_
   refine tk_eq ?_
   refine al_pk ?_
   exact al_nk gh13
  ·intro h13; have gh13 := h13
   refine al_ps ?_
   refine al_ps ?_
   refine al_ps ?_
   refine al_pk ?_
   exact al_nk gh13
  refine al_mv ?_
  apply al_and 4 39 43 rfl
  ·intro h14; have gh14 := h14
   simp only [nrm] at h14
   refine tk_fp Tryz.underlying30 info3 ?_
   refine tk_ld Tryz.underlying3 info3 ?_
   refine tk_eq ?_
   refine al_pk ?_
   exact al_nk gh14
  ·intro h14; have gh14 := h14
   refine al_ps ?_
   refine al_ps ?_
   refine al_ps ?_
   refine al_pk ?_
   exact al_nk gh14
  refine al_mv ?_
  apply al_and 5 44 49 rfl
  ·intro h15; have gh15 := h15
   simp only [nrm] at h15
   refine tk_fp Tryz.underlying30 info26 ?_
   refine tk_ld Tryz.underlying26 info26 ?_
   refine al_take (op_len_map Tryz.underlying26 rfl) rfl rfl rfl rfl (by simp) ?_
   refine tk_eq ?_
   refine al_pk ?_
   exact al_nk gh15
  ·intro h15; have gh15 := h15
   refine al_ps ?_
   refine al_ps ?_
   refine al_ps ?_
   refine al_ps ?_
   refine al_pk ?_
   exact al_nk gh15
  refine al_mv ?_
  apply al_and 5 50 55 rfl
  ·intro h16; have gh16 := h16
   simp only [nrm] at h16
   refine tk_fp Tryz.underlying30 info28 ?_
   refine tk_ld Tryz.underlying28 info28 ?_
   refine al_take (op_len_map Tryz.underlying28 rfl) rfl rfl rfl rfl (by simp) ?_
   refine tk_eq ?_
   refine al_pk ?_
   exact al_nk gh16
  ·intro h16; have gh16 := h16
   refine al_ps ?_
   refine al_ps ?_
   refine al_ps ?_
   refine al_ps ?_
   refine al_pk ?_
   exact al_nk gh16
  refine al_gs ?_
  refine al_nil ?_
  refine fz1 (t := 2) ?_
  refine aw_ret ?_
  refine ⟨_, res_1 rfl rfl, ?_, rfl⟩
  rw [bareR, untyped, noneV]; simp only [Bool.and_assoc]
theorem r_operator (s : Bs) (k : Int) : ACp Tryz.prog 111 [.v (.string (str (s))), .v (.int .i64 (k))] (.v (.bool (operR s k))) := by
 refine acp_of rfl ?_
 refine ace 24 Tryz.func111 ?_
 refine aw_sr ?_
 refine al_gs ?_
 refine al_sr ?_
 refine al_mv ?_
 refine al_eq ?_
 refine al_mv ?_
 apply al_and 4 7 11 rfl
 ·intro h1; have gh1 := h1
  simp only [nrm] at h1
  refine tk_mv ?_
  refine al_callp_take into136 rfl rfl rfl rfl rfl rfl ((r_strength _) _) (by simp) ?_
  refine al_take (op_gtr rfl rfl) rfl rfl rfl rfl (by simp) ?_
  refine al_pk ?_
  exact al_nk gh1
 ·intro h1; have gh1 := h1
  simp only [nrm] at h1
  refine al_ps ?_
  refine al_ps ?_
  refine al_ps ?_
  refine al_pk ?_
  exact al_nk gh1
 refine al_mv ?_
 apply al_or 11 12 23 rfl
 ·intro h2; have gh2 := h2
  simp only [nrm] at h2
  refine tk_mv ?_
  refine tk_eq ?_
  refine tk_mv ?_
  apply al_and 7 15 22 rfl
  ·intro h3; have gh3 := h3
   simp only [nrm] at h3
   refine tk_mv ?_
   refine al_take (op_seql_str rfl rfl) rfl rfl rfl rfl (by simp) ?_
   refine tk_mv ?_
   apply al_or 3 18 21 rfl
   ·intro h4; have gh4 := h4
    simp only [nrm] at h4
    refine tk_mv ?_
    refine al_take (op_seql_str rfl rfl) rfl rfl rfl rfl (by simp) ?_
    refine tk_pk ?_
    exact al_nk gh4
   ·intro h4; have gh4 := h4
    simp only [nrm] at h4
    refine al_ps ?_
    refine al_ps ?_
    refine tk_pk ?_
    exact al_nk gh4
   refine tk_pk ?_
   exact al_nk gh3
  ·intro h3; have gh3 := h3
   simp only [nrm] at h3
   refine al_ps ?_
   refine al_ps ?_
   refine al_ps ?_
   refine al_pu ?_
   refine al_pu ?_
   refine al_ps ?_
   refine tk_pk ?_
   exact al_nk gh3
  refine al_pk ?_
  exact al_nk gh2
 ·intro h2; have gh2 := h2
  simp only [nrm] at h2
  refine al_ps ?_
  refine al_ps ?_
  refine al_ps ?_
  refine al_pu ?_
  refine al_pu ?_
  refine al_pu ?_
  refine al_pu ?_
  refine al_pu ?_
  refine al_pu ?_
  refine al_ps ?_
  refine al_pk ?_
  exact al_nk gh2
 refine al_gs ?_
 refine al_nil ?_
 refine fz1 (t := 4) ?_
 refine aw_ret ?_
 refine ⟨_, res_1 rfl rfl, ?_, rfl⟩
 rfl
theorem r_bitX (x : Int) (hx : 0 ≤ x) : ACp Tryz.prog 167 [.v (.int .u8 (x))] (.v (.bool (decide (x ≤ 3)))) := by
 refine acp_of rfl ?_
 refine ace 17 Tryz.func167 ?_
 refine aw_sr ?_
 refine al_gs ?_
 refine al_sr ?_
 refine al_mv ?_
 refine al_eq ?_
 refine al_mv ?_
 apply al_or 3 5 8 rfl
 ·intro h1; have gh1 := h1
  simp only [nrm] at h1
  refine tk_mv ?_
  refine tk_eq ?_
  refine al_pk ?_
  exact al_nk gh1
 ·intro h1; have gh1 := h1
  simp only [nrm] at h1
  refine al_ps ?_
  refine al_ps ?_
  refine al_pk ?_
  exact al_nk gh1
 refine al_mv ?_
 apply al_or 3 9 12 rfl
 ·intro h2; have gh2 := h2
  simp only [nrm] at h2
  refine tk_mv ?_
  refine tk_eq ?_
  refine al_pk ?_
  exact al_nk gh2
 ·intro h2; have gh2 := h2
  simp only [nrm] at h2
  refine al_ps ?_
  refine al_ps ?_
  refine al_pk ?_
  exact al_nk gh2
 refine al_mv ?_
 apply al_or 3 13 16 rfl
 ·intro h3; have gh3 := h3
  simp only [nrm] at h3
  refine tk_mv ?_
  refine tk_eq ?_
  refine al_pk ?_
  exact al_nk gh3
 ·intro h3; have gh3 := h3
  simp only [nrm] at h3
  refine al_ps ?_
  refine al_ps ?_
  refine al_pk ?_
  exact al_nk gh3
 refine al_gs ?_
 refine al_nil ?_
 refine fz1 (t := 2) ?_
 refine aw_ret ?_
 refine ⟨_, res_1 rfl rfl, ?_, rfl⟩
 rw [bit_eq hx]
theorem r_IsB (b : List Int) (hb : b.length ≤ 1000000000) (hz : ∀ x ∈ b, 0 ≤ x) : ACp Tryz.prog 110 [.list 1 (b.map encB)] (.v (.bool (isBits b))) := by
 refine acp_of rfl ?_
 refine ace 23 Tryz.func110 ?_
 refine aw_sr ?_
 refine al_gs ?_
 refine al_nil ?_
 refine aw_seq ?_
 refine aw_sr ?_
 refine al_mv ?_
 refine al_lm Tryz.underlying26 ?_
 refine al_mv ?_
 refine al_nil ?_
 refine aw_block ?_
 refine aw_forT (ι := Nat) [2, 7] [] (fun i => b.length - i) (fun i => i ≤ b.length ∧ ∀ k, k < i → (fun k => (!(decide (b.getD k default ≤ 3)))) k = false) (fun i => ([(7, .v (.int .i64 ((i : Nat) : Int)))] : Env)) (fun i s => s) (0) ?_ ?_ ?_ (fun i hinv => ?_)
 ·exact ⟨Nat.zero_le _, fun k hk => absurd hk (Nat.not_lt_zero k)⟩
 ·refine sub_cons (get_as rfl ?_) ?_; rotate_left; exact sub_nil
  all_goals (first | rfl | simp)
 ·rfl
 have hi := hinv.1

 refine aw_sr ?_
 refine al_ls ?_
 refine al_nil ?_
 refine aw_seq ?_
 refine aw_cond rfl (fun h1 => ?_) (fun h1 => ?_)
 ·have gh1 := h1
  simp only [nrm] at h1
  refine aw_skip ?_
  refine aw_seq ?_
  refine aw_block ?_
  refine aw_sr ?_
  refine al_op (op_index_map default Tryz.underlying26 info97 rfl rfl rfl (by first | (with_reducible exact Int.toNat_natCast _) | rfl) (by omega) (by omega)) rfl (by simp) ?_
  refine al_lr Tryz.underlying97 info97 ?_
  refine al_gs ?_
  refine al_sr ?_
  refine al_mv ?_
  refine al_callp into167 rfl rfl rfl (r_bitX (b.getD i default) (hz _ (getD_mem (by omega))) _) (by simp) ?_
  refine al_op (op_not rfl) rfl (by simp) ?_
  refine al_nil ?_
  refine aw_cond rfl (fun h2 => ?_) (fun h2 => ?_)
  ·have gh2 := h2
   simp only [nrm] at h2
   refine aw_sr ?_
   refine al_gs ?_
   refine al_nil ?_
   refine fz1 (t := 2) ?_
   refine aw_ret ?_
   refine ⟨_, res_1 rfl rfl, ?_, rfl⟩
   rw [isBits_no i (by omega) gh2]
  have gh2 := h2
  simp only [nrm] at h2
  refine aw_skip ?_
  refine aw_region ?_
  refine al_ad ?_
  refine al_mv ?_
  refine al_nil ?_
  refine ⟨i + 1, ?_, ?_, ?_, ?_, ?_⟩
  ·omega
  ·exact ⟨by omega, idx_more (p := fun k => (!(decide (b.getD k default ≤ 3)))) hinv.2 gh2⟩
  ·refine sub_cons (get_as rfl ?_) ?_; rotate_left; exact sub_nil
   all_goals (first | rfl | simp)
  ·repeat (first | exact subx_refl | exact subx_del | refine subx_put rfl ?_)
  ·rfl
 have gh1 := h1
 simp only [nrm] at h1
 refine aw_exit ?_
 refine aw_sr ?_
 refine al_mv ?_
 refine al_lm Tryz.underlying26 ?_
 refine al_op (op_geq rfl rfl) rfl (by simp) ?_
 refine al_mv ?_
 apply al_and 4 18 22 rfl
 ·intro h3; have gh3 := h3
  simp only [nrm] at h3
  refine tk_mv ?_
  refine al_take (op_len_map Tryz.underlying26 rfl) rfl rfl rfl rfl (by simp) ?_
  refine al_take (op_leq rfl rfl) rfl rfl rfl rfl (by simp) ?_
  refine al_pk ?_
  exact al_nk gh3
 ·intro h3; have gh3 := h3
  simp only [nrm] at h3
  refine al_ps ?_
  refine al_ps ?_
  refine al_ps ?_
  refine al_pk ?_
  exact al_nk gh3
 refine al_gs ?_
 refine al_nil ?_
 refine fz1 (t := 2) ?_
 refine aw_ret ?_
 refine ⟨_, res_1 rfl rfl, ?_, rfl⟩
 rw [isBits_yes (fun k hk => hinv.2 k (by omega))]
end Go.Proofs.YtcgdlhkiecommaaGreatDoor
/- Printed walks (gen.py, lexer_ann.py): part 431. -/



namespace Go.Proofs.YtcgdlhkiecommaaGreatDoor
open Go
end Go.Proofs.YtcgdlhkiecommaaGreatDoor
/- Printed walks (gen.py, lexer_ann.py): part 432. -/



namespace Go.Proofs.YtcgdlhkiecommaaGreatDoor
open Go
theorem r_formS (e : Ex) (hz : szE e = true) (ih : ∀ k ∈ e.kids, ACp Tryz.prog 57 [.agg (cellsE (k))] (.v (.bool (formP k)))) : ACp Tryz.prog 57 [.agg (cellsE (e))] (.v (.bool (formP e))) := by
 refine acp_of rfl ?_
 obtain ⟨z1, z2, z3, z4, z5⟩ := szE_facts hz
 refine ace 162 Tryz.func57 ?_
 refine aw_sr ?_
 refine al_bx 1 fun ver1 => ?_
 refine al_gs ?_
 refine al_nil ?_
 refine aw_seq ?_
 refine aw_sr ?_
 refine al_ld Tryz.underlying37 info37 ?_
 refine al_callp into109 rfl rfl rfl (r_bare e _) (by simp) ?_
 refine al_op (op_not rfl) rfl (by simp) ?_
 refine al_mv ?_
 apply al_or 9 8 17 rfl
 ·intro h1; have gh1 := h1
  simp only [nrm] at h1
  refine tk_fp Tryz.underlying37 info25 ?_
  refine tk_ld Tryz.underlying25 info25 ?_
  refine al_take (op_neq rfl rfl) rfl rfl rfl rfl (by simp) ?_
  refine tk_mv ?_
  apply al_and 4 12 16 rfl
  ·intro h2; have gh2 := h2
   simp only [nrm] at h2
   refine tk_fp Tryz.underlying37 info3 ?_
   refine tk_ld Tryz.underlying3 info3 ?_
   refine al_take (op_neq rfl rfl) rfl rfl rfl rfl (by simp) ?_
   refine tk_pk ?_
   exact al_nk gh2
  ·intro h2; have gh2 := h2
   simp only [nrm] at h2
   refine al_ps ?_
   refine al_ps ?_
   refine al_ps ?_
   refine tk_pk ?_
   exact al_nk gh2
  refine al_pk ?_
  exact al_nk gh1
 ·intro h1; have gh1 := h1
  simp only [nrm] at h1
  refine al_ps ?_
  refine al_ps ?_
  refine al_ps ?_
  refine al_ps ?_
  refine al_pu ?_
  refine al_pu ?_
  refine al_pu ?_
  refine al_ps ?_
  refine al_pk ?_
  exact al_nk gh1
 refine al_mv ?_
 apply al_or 14 18 32 rfl
 ·intro h3; have gh3 := h3
  simp only [nrm] at h3
  refine tk_fp Tryz.underlying37 info25 ?_
  refine tk_ld Tryz.underlying25 info25 ?_
  refine al_take (op_neq rfl rfl) rfl rfl rfl rfl (by simp) ?_
  refine tk_mv ?_
  apply al_and 4 22 26 rfl
  ·intro h4; have gh4 := h4
   simp only [nrm] at h4
   refine tk_fp Tryz.underlying37 info25 ?_
   refine tk_ld Tryz.underlying25 info25 ?_
   refine al_take (op_neq rfl rfl) rfl rfl rfl rfl (by simp) ?_
   refine tk_pk ?_
   exact al_nk gh4
  ·intro h4; have gh4 := h4
   simp only [nrm] at h4
   refine al_ps ?_
   refine al_ps ?_
   refine al_ps ?_
   refine tk_pk ?_
   exact al_nk gh4
  refine tk_mv ?_
  apply al_and 4 27 31 rfl
  ·intro h5; have gh5 := h5
   simp only [nrm] at h5
   refine tk_fp Tryz.underlying37 info9 ?_
   refine tk_ld Tryz.underlying9 info9 ?_
   refine al_take (op_sneq_str rfl rfl) rfl rfl rfl rfl (by simp) ?_
   refine tk_pk ?_
   exact al_nk gh5
  ·intro h5; have gh5 := h5
   refine al_ps ?_
   refine al_ps ?_
   refine al_ps ?_
   refine tk_pk ?_
   exact al_nk gh5
  refine al_pk ?_
  exact al_nk gh3
 ·intro h3; have gh3 := h3
  simp only [nrm] at h3
  refine al_ps ?_
  refine al_ps ?_
  refine al_ps ?_
  refine al_ps ?_
  refine al_pu ?_
  refine al_pu ?_
  refine al_pu ?_
  refine al_ps ?_
  refine al_ps ?_
  refine al_pu ?_
  refine al_pu ?_
  refine al_pu ?_
  refine al_ps ?_
  refine al_pk ?_
  exact al_nk gh3
 refine al_mv ?_
 apply al_or 15 33 48 rfl
 ·intro h6; have gh6 := h6
  simp only [nrm] at h6
  refine tk_fp Tryz.underlying37 info25 ?_
  refine tk_ld Tryz.underlying25 info25 ?_
  refine al_take (op_neq rfl rfl) rfl rfl rfl rfl (by simp) ?_
  refine tk_mv ?_
  apply al_and 4 37 41 rfl
  ·intro h7; have gh7 := h7
   simp only [nrm] at h7
   refine tk_fp Tryz.underlying37 info25 ?_
   refine tk_ld Tryz.underlying25 info25 ?_
   refine al_take (op_neq rfl rfl) rfl rfl rfl rfl (by simp) ?_
   refine tk_pk ?_
   exact al_nk gh7
  ·intro h7; have gh7 := h7
   simp only [nrm] at h7
   refine al_ps ?_
   refine al_ps ?_
   refine al_ps ?_
   refine tk_pk ?_
   exact al_nk gh7
  refine tk_mv ?_
  apply al_and 5 42 47 rfl
  ·intro h8; have gh8 := h8
   simp only [nrm] at h8
   refine tk_fp Tryz.underlying37 info26 ?_
   refine tk_ld Tryz.underlying26 info26 ?_
   refine al_take (op_len_map Tryz.underlying26 rfl) rfl rfl rfl rfl (by simp) ?_
   refine al_take (op_gtr rfl rfl) rfl rfl rfl rfl (by simp) ?_
   refine tk_pk ?_
   exact al_nk gh8
  ·intro h8; have gh8 := h8
   refine al_ps ?_
   refine al_ps ?_
   refine al_ps ?_
   refine al_ps ?_
   refine tk_pk ?_
   exact al_nk gh8
  refine al_pk ?_
  exact al_nk gh6
 ·intro h6; have gh6 := h6
  simp only [nrm] at h6
  refine al_ps ?_
  refine al_ps ?_
  refine al_ps ?_
  refine al_ps ?_
  refine al_pu ?_
  refine al_pu ?_
  refine al_pu ?_
  refine al_ps ?_
  refine al_ps ?_
  refine al_pu ?_
  refine al_pu ?_
  refine al_pu ?_
  refine al_pu ?_
  refine al_ps ?_
  refine al_pk ?_
  exact al_nk gh6
 refine al_nil ?_
 refine aw_cond rfl (fun h9 => ?_) (fun h9 => ?_)
 ·have gh9 := h9
  simp only [nrm] at h9
  refine aw_sr ?_
  refine al_gs ?_
  refine al_nil ?_
  refine fz1 (t := 2) ?_
  refine aw_ret ?_
  refine ⟨_, res_1 rfl rfl, ?_, rfl⟩
  rw [formH_no gh9]
 have gh9 := h9
 simp only [nrm] at h9
 refine aw_skip ?_
 refine aw_seq ?_
 refine aw_sr ?_
 refine al_fp Tryz.underlying37 info31 ?_
 refine al_ld Tryz.underlying31 info31 ?_
 refine al_lm Tryz.underlying31 ?_
 refine al_mv ?_
 refine al_nil ?_
 refine aw_block ?_
 refine aw_forT (ι := Nat) [2, 52] [4] (fun i => e.kids.length - i) (fun i => i ≤ e.kids.length ∧ ∀ k, k < i → (fun k => (!(formP (e.kids.getD k default)))) k = false) (fun i => ([(52, .v (.int .i64 ((i : Nat) : Int)))] : Env)) (fun i s => s) (0) ?_ ?_ ?_ (fun i hinv => ?_)
 ·exact ⟨Nat.zero_le _, fun k hk => absurd hk (Nat.not_lt_zero k)⟩
 ·refine sub_cons (get_as rfl ?_) ?_; rotate_left; exact sub_nil
  all_goals (first | rfl | simp)
 ·rfl
 have hi := hinv.1

 refine aw_sr ?_
 refine al_ls ?_
 refine al_nil ?_
 refine aw_seq ?_
 refine aw_cond rfl (fun h10 => ?_) (fun h10 => ?_)
 ·have gh10 := h10
  simp only [nrm] at h10
  refine aw_skip ?_
  refine aw_seq ?_
  refine aw_block ?_
  refine aw_sr ?_
  refine al_op (val_as (.rptr (cellsE (e.kids.getD i default))) (op_index_map default Tryz.underlying31 info37 rfl rfl rfl (by first | (with_reducible exact Int.toNat_natCast _) | rfl) (by omega) (by omega)) (by exact congrArg AVal.rptr (encE_cells _))) rfl (by simp) ?_
  refine al_lr Tryz.underlying37 info37 ?_
  refine al_al 4 info37 fun ver4 => ?_
  refine al_sp info37 ?_
  refine al_sr ?_
  refine al_ld Tryz.underlying37 info37 ?_
  refine al_callp into57 rfl rfl rfl (ih (e.kids.getD i default) (getD_mem (by omega)) _) (by simp) ?_
  refine al_op (op_not rfl) rfl (by simp) ?_
  refine al_nil ?_
  refine aw_cond rfl (fun h11 => ?_) (fun h11 => ?_)
  ·have gh11 := h11
   simp only [nrm] at h11
   refine aw_sr ?_
   refine al_gs ?_
   refine al_nil ?_
   refine fz1 (t := 2) ?_
   refine aw_ret ?_
   refine ⟨_, res_1 rfl rfl, ?_, rfl⟩
   rw [formH_kid i (by omega) gh11]
  have gh11 := h11
  simp only [nrm] at h11
  refine aw_skip ?_
  refine aw_region ?_
  refine al_ad ?_
  refine al_mv ?_
  refine al_nil ?_
  refine ⟨i + 1, ?_, ?_, ?_, ?_, ?_⟩
  ·omega
  ·exact ⟨by omega, idx_more (p := fun k => (!(formP (e.kids.getD k default)))) hinv.2 gh11⟩
  ·refine sub_cons (get_as rfl ?_) ?_; rotate_left; exact sub_nil
   all_goals (first | rfl | simp)
  ·repeat (first | exact subx_refl | exact subx_del | refine subx_put rfl ?_)
  ·rfl
 have gh10 := h10
 simp only [nrm] at h10
 refine aw_exit ?_
 have hall : ∀ k, k < e.kids.length → (!(formP (e.kids.getD k default))) = false := fun k hk => hinv.2 k (by omega)
 refine aw_seq ?_
 refine aw_sr ?_
 refine al_fp Tryz.underlying37 info25 ?_
 refine al_ld Tryz.underlying25 info25 ?_
 refine al_nil ?_
 refine aw_block ?_
 refine aw_sr ?_
 refine al_eq ?_
 refine al_gs ?_
 refine al_nil ?_
 refine aw_cond rfl (fun h12 => ?_) (fun h12 => ?_)
 ·have gh12 := h12
  simp only [nrm] at h12
  refine aw_sr ?_
  refine al_fp Tryz.underlying37 info3 ?_
  refine al_ld Tryz.underlying3 info3 ?_
  refine al_op (op_geq rfl rfl) rfl (by simp) ?_
  refine al_mv ?_
  apply al_and 4 67 71 rfl
  ·intro h13; have gh13 := h13
   simp only [nrm] at h13
   refine tk_fp Tryz.underlying37 info3 ?_
   refine tk_ld Tryz.underlying3 info3 ?_
   refine al_take (op_leq rfl rfl) rfl rfl rfl rfl (by simp) ?_
   refine al_pk ?_
   exact al_nk gh13
  ·intro h13; have gh13 := h13
   simp only [nrm] at h13
   refine al_ps ?_
   refine al_ps ?_
   refine al_ps ?_
   refine al_pk ?_
   exact al_nk gh13
  refine al_mv ?_
  apply al_and 5 72 77 rfl
  ·intro h14; have gh14 := h14
   simp only [nrm] at h14
   refine tk_fp Tryz.underlying37 info31 ?_
   refine tk_ld Tryz.underlying31 info31 ?_
   refine al_take (op_len_map Tryz.underlying31 rfl) rfl rfl rfl rfl (by simp) ?_
   refine tk_eq ?_
   refine al_pk ?_
   exact al_nk gh14
  ·intro h14; have gh14 := h14
   simp only [nrm] at h14
   refine al_ps ?_
   refine al_ps ?_
   refine al_ps ?_
   refine al_ps ?_
   refine al_pk ?_
   exact al_nk gh14
  refine al_gs ?_
  refine al_nil ?_
  refine fz1 (t := 2) ?_
  refine aw_ret ?_
  refine ⟨_, res_1 rfl rfl, ?_, rfl⟩
  rw [formH_yes gh9 hall, tailR, gh12]; rfl
 have gh12 := h12
 simp only [nrm] at h12
 refine aw_sr ?_
 refine al_eq ?_
 refine al_gs ?_
 refine al_nil ?_
 refine aw_cond rfl (fun h15 => ?_) (fun h15 => ?_)
 ·have gh15 := h15
  simp only [nrm] at h15
  refine aw_sr ?_
  refine al_fp Tryz.underlying37 info26 ?_
  refine al_ld Tryz.underlying26 info26 ?_
  refine al_lm Tryz.underlying26 ?_
  refine al_eq ?_
  refine al_mv ?_
  apply al_and 4 84 88 rfl
  ·intro h16; have gh16 := h16
   simp only [nrm] at h16
   refine tk_fp Tryz.underlying37 info26 ?_
   refine tk_ld Tryz.underlying26 info26 ?_
   refine al_callp_take into110 rfl rfl rfl rfl rfl rfl (r_IsB e.bits z2 z4 _) (by simp) ?_
   refine al_pk ?_
   exact al_nk gh16
  ·intro h16; have gh16 := h16
   simp only [nrm] at h16
   refine al_ps ?_
   refine al_ps ?_
   refine al_ps ?_
   refine al_pk ?_
   exact al_nk gh16
  refine al_mv ?_
  apply al_and 5 89 94 rfl
  ·intro h17; have gh17 := h17
   simp only [nrm] at h17
   refine tk_fp Tryz.underlying37 info31 ?_
   refine tk_ld Tryz.underlying31 info31 ?_
   refine al_take (op_len_map Tryz.underlying31 rfl) rfl rfl rfl rfl (by simp) ?_
   refine tk_eq ?_
   refine al_pk ?_
   exact al_nk gh17
  ·intro h17; have gh17 := h17
   refine al_ps ?_
   refine al_ps ?_
   refine al_ps ?_
   refine al_ps ?_
   refine al_pk ?_
   exact al_nk gh17
  refine al_gs ?_
  refine al_nil ?_
  refine fz1 (t := 2) ?_
  refine aw_ret ?_
  refine ⟨_, res_1 rfl rfl, ?_, rfl⟩
  rw [formH_yes gh9 hall, tailR, gh12, gh15]; rfl
 have gh15 := h15
 simp only [nrm] at h15
 refine aw_sr ?_
 refine al_eq ?_
 refine al_gs ?_
 refine al_nil ?_
 refine aw_cond rfl (fun h18 => ?_) (fun h18 => ?_)
 ·have gh18 := h18
  simp only [nrm] at h18
  refine aw_sr ?_
  refine al_fp Tryz.underlying37 info26 ?_
  refine al_ld Tryz.underlying26 info26 ?_
  refine al_callp into110 rfl rfl rfl (r_IsB e.bits z2 z4 _) (by simp) ?_
  refine al_mv ?_
  apply al_and 5 100 105 rfl
  ·intro gh19
   refine tk_fp Tryz.underlying37 info31 ?_
   refine tk_ld Tryz.underlying31 info31 ?_
   refine al_take (op_len_map Tryz.underlying31 rfl) rfl rfl rfl rfl (by simp) ?_
   refine tk_eq ?_
   refine al_pk ?_
   exact al_nk gh19
  ·intro gh19
   refine al_ps ?_
   refine al_ps ?_
   refine al_ps ?_
   refine al_ps ?_
   refine al_pk ?_
   exact al_nk gh19
  refine al_gs ?_
  refine al_nil ?_
  refine fz1 (t := 2) ?_
  refine aw_ret ?_
  refine ⟨_, res_1 rfl rfl, ?_, rfl⟩
  rw [formH_yes gh9 hall, tailR, gh12, gh15, gh18]; rfl
 have gh18 := h18
 simp only [nrm] at h18
 refine aw_sr ?_
 refine al_eq ?_
 refine al_gs ?_
 refine al_nil ?_
 refine aw_cond rfl (fun h20 => ?_) (fun h20 => ?_)
 ·have gh20 := h20
  simp only [nrm] at h20
  refine aw_sr ?_
  refine al_fp Tryz.underlying37 info9 ?_
  refine al_ld Tryz.underlying9 info9 ?_
  refine al_callp into67 rfl rfl rfl (r_isName e.name (by omega) _) (by simp) ?_
  refine al_mv ?_
  apply al_and 5 111 116 rfl
  ·intro gh21
   refine tk_fp Tryz.underlying37 info31 ?_
   refine tk_ld Tryz.underlying31 info31 ?_
   refine al_take (op_len_map Tryz.underlying31 rfl) rfl rfl rfl rfl (by simp) ?_
   refine tk_eq ?_
   refine al_pk ?_
   exact al_nk gh21
  ·intro gh21
   refine al_ps ?_
   refine al_ps ?_
   refine al_ps ?_
   refine al_ps ?_
   refine al_pk ?_
   exact al_nk gh21
  refine al_gs ?_
  refine al_nil ?_
  refine fz1 (t := 2) ?_
  refine aw_ret ?_
  refine ⟨_, res_1 rfl rfl, ?_, rfl⟩
  rw [formH_yes gh9 hall, tailR, gh12, gh15, gh18, gh20]; rfl
 have gh20 := h20
 simp only [nrm] at h20
 refine aw_sr ?_
 refine al_eq ?_
 refine al_gs ?_
 refine al_nil ?_
 refine aw_cond rfl (fun h22 => ?_) (fun h22 => ?_)
 ·have gh22 := h22
  simp only [nrm] at h22
  refine aw_sr ?_
  refine al_fp Tryz.underlying37 info9 ?_
  refine al_ld Tryz.underlying9 info9 ?_
  refine al_fp Tryz.underlying37 info31 ?_
  refine al_ld Tryz.underlying31 info31 ?_
  refine al_lm Tryz.underlying31 ?_
  refine al_callp into111 rfl rfl rfl ((r_operator _ _) _) (by simp) ?_
  refine al_mv ?_
  apply al_or 16 125 141 rfl
  ·intro gh23
   refine tk_fp Tryz.underlying37 info9 ?_
   refine tk_ld Tryz.underlying9 info9 ?_
   refine al_callp_take into67 rfl rfl rfl rfl rfl rfl ((r_isName _ (by first | assumption | omega | (simp; done) | (simp; omega) | decide)) _) (by simp) ?_
   refine tk_mv ?_
   apply al_and 5 129 134 rfl
   ·intro gh24
    refine tk_fp Tryz.underlying37 info31 ?_
    refine tk_ld Tryz.underlying31 info31 ?_
    refine al_take (op_len_map Tryz.underlying31 rfl) rfl rfl rfl rfl (by simp) ?_
    refine al_take (op_geq rfl rfl) rfl rfl rfl rfl (by simp) ?_
    refine tk_pk ?_
    exact al_nk gh24
   ·intro gh24
    refine al_ps ?_
    refine al_ps ?_
    refine al_ps ?_
    refine al_ps ?_
    refine tk_pk ?_
    exact al_nk gh24
   refine tk_mv ?_
   apply al_and 5 135 140 rfl
   ·intro h25; have gh25 := h25
    simp only [nrm] at h25
    refine tk_fp Tryz.underlying37 info31 ?_
    refine tk_ld Tryz.underlying31 info31 ?_
    refine al_take (op_len_map Tryz.underlying31 rfl) rfl rfl rfl rfl (by simp) ?_
    refine al_take (op_leq rfl rfl) rfl rfl rfl rfl (by simp) ?_
    refine tk_pk ?_
    exact al_nk gh25
   ·intro h25; have gh25 := h25
    simp only [nrm] at h25
    refine al_ps ?_
    refine al_ps ?_
    refine al_ps ?_
    refine al_ps ?_
    refine tk_pk ?_
    exact al_nk gh25
   refine al_pk ?_
   exact al_nk gh23
  ·intro gh23
   refine al_ps ?_
   refine al_ps ?_
   refine al_ps ?_
   refine al_ps ?_
   refine al_pu ?_
   refine al_pu ?_
   refine al_pu ?_
   refine al_pu ?_
   refine al_ps ?_
   refine al_ps ?_
   refine al_pu ?_
   refine al_pu ?_
   refine al_pu ?_
   refine al_pu ?_
   refine al_ps ?_
   refine al_pk ?_
   exact al_nk gh23
  refine al_gs ?_
  refine al_nil ?_
  refine fz1 (t := 2) ?_
  refine aw_ret ?_
  refine ⟨_, res_1 rfl rfl, ?_, rfl⟩
  rw [formH_yes gh9 hall, tailR, gh12, gh15, gh18, gh20, gh22]; rfl
 have gh22 := h22
 simp only [nrm] at h22
 refine aw_sr ?_
 refine al_eq ?_
 refine al_gs ?_
 refine al_nil ?_
 refine aw_cond rfl (fun h26 => ?_) (fun h26 => ?_)
 ·have gh26 := h26
  simp only [nrm] at h26
  refine aw_sr ?_
  refine al_fp Tryz.underlying37 info31 ?_
  refine al_ld Tryz.underlying31 info31 ?_
  refine al_lm Tryz.underlying31 ?_
  refine al_eq ?_
  refine al_mv ?_
  apply al_and 7 148 155 rfl
  ·intro h27; have gh27 := h27
   simp only [nrm] at h27
   refine tk_fp Tryz.underlying37 info31 ?_
   refine tk_ld Tryz.underlying31 info31 ?_
   refine al_take (op_index_map default Tryz.underlying31 info37 rfl rfl rfl (by first | (with_reducible exact Int.toNat_natCast _) | rfl) (by omega) (by omega)) rfl rfl rfl rfl (by simp) ?_
   refine al_take (val_as (.rptr (cellsE (e.kids.getD 0 default))) (op_field_rptr Tryz.underlying37 rfl info25 (by decide) rfl rfl) (by exact congrArg AVal.rptr (encE_cells _))) rfl rfl rfl rfl (by simp) ?_
   refine al_take (op_load_rptr Tryz.underlying25 info25 rfl rfl) rfl rfl rfl rfl (by simp) ?_
   refine al_take (op_neq rfl rfl) rfl rfl rfl rfl (by simp) ?_
   refine al_pk ?_
   exact al_nk gh27
  ·intro h27; have gh27 := h27
   simp only [nrm] at h27
   refine al_ps ?_
   refine al_ps ?_
   refine al_ps ?_
   refine al_ps ?_
   refine al_ps ?_
   refine al_ps ?_
   refine al_pk ?_
   exact al_nk gh27
  refine al_gs ?_
  refine al_nil ?_
  refine fz1 (t := 2) ?_
  refine aw_ret ?_
  refine ⟨_, res_1 rfl rfl, ?_, rfl⟩
  rw [formH_yes gh9 hall, tailR, gh12, gh15, gh18, gh20, gh22, gh26]; rfl
 have gh26 := h26
 simp only [nrm] at h26
 refine aw_sr ?_
 refine al_eq ?_
 refine al_gs ?_
 refine al_nil ?_
 refine aw_cond rfl (fun h28 => ?_) (fun h28 => ?_)
 ·have gh28 := h28
  simp only [nrm] at h28
  refine aw_sr ?_
  refine al_fp Tryz.underlying37 info31 ?_
  refine al_ld Tryz.underlying31 info31 ?_
  refine al_lm Tryz.underlying31 ?_
  refine al_eq ?_
  refine al_gs ?_
  refine al_nil ?_
  refine fz1 (t := 2) ?_
  refine aw_ret ?_
  refine ⟨_, res_1 rfl rfl, ?_, rfl⟩
  rw [formH_yes gh9 hall, tailR, gh12, gh15, gh18, gh20, gh22, gh26, gh28]; rfl
 have gh28 := h28
 simp only [nrm] at h28
 refine aw_skip ?_
 refine aw_sr ?_
 refine al_gs ?_
 refine al_nil ?_
 refine fz1 (t := 2) ?_
 refine aw_ret ?_
 refine ⟨_, res_1 rfl rfl, ?_, rfl⟩
 rw [formH_yes gh9 hall, tailR, gh12, gh15, gh18, gh20, gh22, gh26, gh28]; rfl
theorem r_form (e : Ex) : szE e = true → ACp Tryz.prog 57 [.agg (cellsE (e))] (.v (.bool (formP e))) := by
  induction e using Ex.ind with
  | h e ih =>
    intro hz
    obtain ⟨z1, z2, z3, z4, z5⟩ := szE_facts hz
    exact r_formS e hz (fun k hk => ih k hk (z5 k hk))
end Go.Proofs.YtcgdlhkiecommaaGreatDoor
/- Printed walks (gen.py, lexer_ann.py): part 433. -/



namespace Go.Proofs.YtcgdlhkiecommaaGreatDoor
open Go
theorem r_depthS (e : Ex) (hz : szE e = true) (hB : depQ e ≤ 1000000000) (ih : ∀ k ∈ e.kids, ACp Tryz.prog 58 [.agg (cellsE (k))] (.v (.int .i64 ((depQ k : Nat) : Int)))) : ACp Tryz.prog 58 [.agg (cellsE (e))] (.v (.int .i64 ((depQ e : Nat) : Int))) := by
 refine acp_of rfl ?_
 obtain ⟨z1, z2, z3, z4, z5⟩ := szE_facts hz
 refine ace 60 Tryz.func58 ?_
 refine aw_sr ?_
 refine al_bx 1 fun ver1 => ?_
 refine al_gs ?_
 refine al_sr ?_
 refine al_gs ?_
 refine al_nil ?_
 refine aw_seq ?_
 refine aw_sr ?_
 refine al_fp Tryz.underlying37 info31 ?_
 refine al_ld Tryz.underlying31 info31 ?_
 refine al_lm Tryz.underlying31 ?_
 refine al_mv ?_
 refine al_nil ?_
 refine aw_block ?_
 refine aw_forT (ι := Nat) [3, 10] [5] (fun i => e.kids.length - i) (fun i => i ≤ e.kids.length) (fun i => ([(3, .v (.int .i64 ((mostR e (e.kids.map depQ) i : Nat) : Int))), (10, .v (.int .i64 ((i : Nat) : Int)))] : Env)) (fun i s => s) (0) ?_ ?_ ?_ (fun i hinv => ?_)
 ·exact Nat.zero_le _
 ·refine sub_cons (get_as rfl ?_) ?_; rotate_left; refine sub_cons (get_as rfl ?_) ?_; rotate_left; exact sub_nil
  all_goals (first | rfl | simp)
 ·rfl
 have hi := hinv
 refine aw_sr ?_
 refine al_ls ?_
 refine al_nil ?_
 refine aw_seq ?_
 refine aw_cond rfl (fun h1 => ?_) (fun h1 => ?_)
 ·have gh1 := h1
  simp only [nrm] at h1
  have hks := (szE_facts (z5 (e.kids.getD i default) (getD_mem (by omega)))).1
  have hkd := kid_depQ (e := e) (i := i) (by omega)
  have hmo := mostR_mono e (e.kids.map depQ) hi
  rw [← depQ_eq] at hmo
  refine aw_skip ?_
  refine aw_seq ?_
  refine aw_block ?_
  refine aw_sr ?_
  refine al_mv ?_
  refine al_op (val_as (.rptr (cellsE (e.kids.getD i default))) (op_index_map default Tryz.underlying31 info37 rfl rfl rfl (by first | (with_reducible exact Int.toNat_natCast _) | rfl) (by omega) (by omega)) (by exact congrArg AVal.rptr (encE_cells _))) rfl (by simp) ?_
  refine al_lr Tryz.underlying37 info37 ?_
  refine al_al 5 info37 fun ver5 => ?_
  refine al_gs ?_
  refine al_sp info37 ?_
  refine al_sr ?_
  refine al_ld Tryz.underlying37 info37 ?_
  refine al_callp into58 rfl rfl rfl (ih (e.kids.getD i default) (getD_mem (by omega)) _) (by simp) ?_
  refine al_gs ?_
  refine al_nil ?_
  refine aw_seq ?_
  refine aw_seq ?_
  refine aw_any (Checked.mixed Tryz.checked) ?_
  apply aany_seg (p := 0) (q := 6) (by kernel_rfl) rfl (by decide)
  ·
   apply ql_plain rfl (op_load_ptr Tryz.underlying37 info37 rfl rfl rfl rfl)
   apply ql_call into112 rfl rfl rfl (r_level (e.kids.getD i default) hks _)
   apply ql_plain rfl (op_load_ptr Tryz.underlying37 info37 rfl rfl rfl rfl)
   apply ql_plain rfl (op_move rfl)
   apply ql_call into113 rfl rfl rfl (r_least e z1 i _)
   apply ql_plain rfl (op_lss rfl rfl)
   exact ql_nil
  ·simp
  refine aany_end rfl (by kernel_rfl) ?_
  refine aw_cond rfl (fun h2 => ?_) (fun h2 => ?_)
  ·have gh2 := h2
   simp only [nrm] at h2
   have gl := gh2
   refine aw_region ?_
   refine al_mv ?_
   refine al_ad ?_
   refine al_gs ?_
   refine al_nil ?_
   refine aw_seq ?_
   refine aw_sr ?_
   refine al_fp Tryz.underlying37 info25 ?_
   refine al_ld Tryz.underlying25 info25 ?_
   refine al_eq ?_
   refine al_mv ?_
   apply al_or 4 28 32 rfl
   ·intro h3; have gh3 := h3
    simp only [nrm] at h3
    refine tk_fp Tryz.underlying37 info25 ?_
    refine tk_ld Tryz.underlying25 info25 ?_
    refine tk_eq ?_
    refine al_pk ?_
    exact al_nk gh3
   ·intro h3; have gh3 := h3
    simp only [nrm] at h3
    refine al_ps ?_
    refine al_ps ?_
    refine al_ps ?_
    refine al_pk ?_
    exact al_nk gh3
   refine al_mv ?_
   apply al_and 3 33 36 rfl
   ·intro h4; have gh4 := h4
    simp only [nrm] at h4
    refine tk_mv ?_
    refine al_take (op_gtr rfl rfl) rfl rfl rfl rfl (by simp) ?_
    refine al_pk ?_
    exact al_nk gh4
   ·intro h4; have gh4 := h4
    simp only [nrm] at h4
    refine al_ps ?_
    refine al_ps ?_
    refine al_pk ?_
    exact al_nk gh4
   refine al_mv ?_
   apply al_or 15 37 52 rfl
   ·intro h5; have gh5 := h5
    simp only [nrm] at h5
    refine tk_fp Tryz.underlying37 info25 ?_
    refine tk_ld Tryz.underlying25 info25 ?_
    refine tk_eq ?_
    refine tk_mv ?_
    apply al_and 10 41 51 rfl
    ·intro h6; have gh6 := h6
     simp only [nrm] at h6
     refine tk_fp Tryz.underlying37 info9 ?_
     refine tk_ld Tryz.underlying9 info9 ?_
     refine al_callp_take into67 rfl rfl rfl rfl rfl rfl (r_isName e.name (by omega) _) (by simp) ?_
     refine tk_mv ?_
     apply al_or 5 45 50 rfl
     ·intro gh7
      refine tk_fp Tryz.underlying37 info31 ?_
      refine tk_ld Tryz.underlying31 info31 ?_
      refine al_take (op_len_map Tryz.underlying31 rfl) rfl rfl rfl rfl (by simp) ?_
      refine tk_eq ?_
      refine tk_pk ?_
      exact al_nk gh7
     ·intro gh7
      refine al_ps ?_
      refine al_ps ?_
      refine al_ps ?_
      refine al_ps ?_
      refine tk_pk ?_
      exact al_nk gh7
     refine tk_pk ?_
     exact al_nk gh6
    ·intro h6; have gh6 := h6
     simp only [nrm] at h6
     refine al_ps ?_
     refine al_ps ?_
     refine al_ps ?_
     refine al_ps ?_
     refine al_pu ?_
     refine al_pu ?_
     refine al_pu ?_
     refine al_pu ?_
     refine al_ps ?_
     refine tk_pk ?_
     exact al_nk gh6
    refine al_pk ?_
    exact al_nk gh5
   ·intro h5; have gh5 := h5
    simp only [nrm] at h5
    refine al_ps ?_
    refine al_ps ?_
    refine al_ps ?_
    refine al_ps ?_
    refine al_pu ?_
    refine al_pu ?_
    refine al_pu ?_
    refine al_pu ?_
    refine al_pu ?_
    refine al_pu ?_
    refine al_pu ?_
    refine al_pu ?_
    refine al_pu ?_
    refine al_ps ?_
    refine al_pk ?_
    exact al_nk gh5
   refine al_nil ?_
   refine aw_cond rfl (fun h8 => ?_) (fun h8 => ?_)
   ·have gh8 := h8
    simp only [nrm] at h8
    have gn := gh8
    refine aw_region ?_
    refine al_mv ?_
    refine al_ad ?_
    refine al_gs ?_
    refine al_nil ?_
    refine aw_region ?_
    refine al_mv ?_
    refine al_mv ?_
    refine al_op (op_max rfl rfl) rfl (by simp) ?_
    refine al_gs ?_
    refine al_nil ?_
    refine aw_region ?_
    refine al_ad ?_
    refine al_mv ?_
    refine al_nil ?_
    refine ⟨i + 1, ?_, ?_, ?_, ?_, ?_⟩
    ·omega
    ·omega
    ·refine sub_cons (get_as rfl ?_) ?_; rotate_left; refine sub_cons (get_as rfl ?_) ?_; rotate_left; exact sub_nil
     all_goals (first | rfl | (exact congrArg (fun x => AVal.v (.int .i64 x)) (most_00 (by omega) gl gn); done) | (exact congrArg (fun x => AVal.v (.int .i64 x)) (most_01 (by omega) gl gn); done) | (exact congrArg (fun x => AVal.v (.int .i64 x)) (most_10 (by omega) gl gn); done) | (exact congrArg (fun x => AVal.v (.int .i64 x)) (most_11 (by omega) gl gn); done) | simp)
    ·repeat (first | exact subx_refl | exact subx_del | refine subx_put rfl ?_)
    ·rfl
   have gh8 := h8
   simp only [nrm] at h8
   have gn := gh8
   refine aw_skip ?_
   refine aw_region ?_
   refine al_mv ?_
   refine al_mv ?_
   refine al_op (op_max rfl rfl) rfl (by simp) ?_
   refine al_gs ?_
   refine al_nil ?_
   refine aw_region ?_
   refine al_ad ?_
   refine al_mv ?_
   refine al_nil ?_
   refine ⟨i + 1, ?_, ?_, ?_, ?_, ?_⟩
   ·omega
   ·omega
   ·refine sub_cons (get_as rfl ?_) ?_; rotate_left; refine sub_cons (get_as rfl ?_) ?_; rotate_left; exact sub_nil
    all_goals (first | rfl | (exact congrArg (fun x => AVal.v (.int .i64 x)) (most_00 (by omega) gl gn); done) | (exact congrArg (fun x => AVal.v (.int .i64 x)) (most_01 (by omega) gl gn); done) | (exact congrArg (fun x => AVal.v (.int .i64 x)) (most_10 (by omega) gl gn); done) | (exact congrArg (fun x => AVal.v (.int .i64 x)) (most_11 (by omega) gl gn); done) | simp)
   ·repeat (first | exact subx_refl | exact subx_del | refine subx_put rfl ?_)
   ·rfl
  have gh2 := h2
  simp only [nrm] at h2
  have gl := gh2
  refine aw_skip ?_
  refine aw_seq ?_
  refine aw_sr ?_
  refine al_fp Tryz.underlying37 info25 ?_
  refine al_ld Tryz.underlying25 info25 ?_
  refine al_eq ?_
  refine al_mv ?_
  apply al_or 4 28 32 rfl
  ·intro h9; have gh9 := h9
   simp only [nrm] at h9
   refine tk_fp Tryz.underlying37 info25 ?_
   refine tk_ld Tryz.underlying25 info25 ?_
   refine tk_eq ?_
   refine al_pk ?_
   exact al_nk gh9
  ·intro h9; have gh9 := h9
   simp only [nrm] at h9
   refine al_ps ?_
   refine al_ps ?_
   refine al_ps ?_
   refine al_pk ?_
   exact al_nk gh9
  refine al_mv ?_
  apply al_and 3 33 36 rfl
  ·intro h10; have gh10 := h10
   simp only [nrm] at h10
   refine tk_mv ?_
   refine al_take (op_gtr rfl rfl) rfl rfl rfl rfl (by simp) ?_
   refine al_pk ?_
   exact al_nk gh10
  ·intro h10; have gh10 := h10
   simp only [nrm] at h10
   refine al_ps ?_
   refine al_ps ?_
   refine al_pk ?_
   exact al_nk gh10
  refine al_mv ?_
  apply al_or 15 37 52 rfl
  ·intro h11; have gh11 := h11
   simp only [nrm] at h11
   refine tk_fp Tryz.underlying37 info25 ?_
   refine tk_ld Tryz.underlying25 info25 ?_
   refine tk_eq ?_
   refine tk_mv ?_
   apply al_and 10 41 51 rfl
   ·intro h12; have gh12 := h12
    simp only [nrm] at h12
    refine tk_fp Tryz.underlying37 info9 ?_
    refine tk_ld Tryz.underlying9 info9 ?_
    refine al_callp_take into67 rfl rfl rfl rfl rfl rfl (r_isName e.name (by omega) _) (by simp) ?_
    refine tk_mv ?_
    apply al_or 5 45 50 rfl
    ·intro gh13
     refine tk_fp Tryz.underlying37 info31 ?_
     refine tk_ld Tryz.underlying31 info31 ?_
     refine al_take (op_len_map Tryz.underlying31 rfl) rfl rfl rfl rfl (by simp) ?_
     refine tk_eq ?_
     refine tk_pk ?_
     exact al_nk gh13
    ·intro gh13
     refine al_ps ?_
     refine al_ps ?_
     refine al_ps ?_
     refine al_ps ?_
     refine tk_pk ?_
     exact al_nk gh13
    refine tk_pk ?_
    exact al_nk gh12
   ·intro h12; have gh12 := h12
    simp only [nrm] at h12
    refine al_ps ?_
    refine al_ps ?_
    refine al_ps ?_
    refine al_ps ?_
    refine al_pu ?_
    refine al_pu ?_
    refine al_pu ?_
    refine al_pu ?_
    refine al_ps ?_
    refine tk_pk ?_
    exact al_nk gh12
   refine al_pk ?_
   exact al_nk gh11
  ·intro h11; have gh11 := h11
   simp only [nrm] at h11
   refine al_ps ?_
   refine al_ps ?_
   refine al_ps ?_
   refine al_ps ?_
   refine al_pu ?_
   refine al_pu ?_
   refine al_pu ?_
   refine al_pu ?_
   refine al_pu ?_
   refine al_pu ?_
   refine al_pu ?_
   refine al_pu ?_
   refine al_pu ?_
   refine al_ps ?_
   refine al_pk ?_
   exact al_nk gh11
  refine al_nil ?_
  refine aw_cond rfl (fun h14 => ?_) (fun h14 => ?_)
  ·have gh14 := h14
   simp only [nrm] at h14
   have gn := gh14
   refine aw_region ?_
   refine al_mv ?_
   refine al_ad ?_
   refine al_gs ?_
   refine al_nil ?_
   refine aw_region ?_
   refine al_mv ?_
   refine al_mv ?_
   refine al_op (op_max rfl rfl) rfl (by simp) ?_
   refine al_gs ?_
   refine al_nil ?_
   refine aw_region ?_
   refine al_ad ?_
   refine al_mv ?_
   refine al_nil ?_
   refine ⟨i + 1, ?_, ?_, ?_, ?_, ?_⟩
   ·omega
   ·omega
   ·refine sub_cons (get_as rfl ?_) ?_; rotate_left; refine sub_cons (get_as rfl ?_) ?_; rotate_left; exact sub_nil
    all_goals (first | rfl | (exact congrArg (fun x => AVal.v (.int .i64 x)) (most_00 (by omega) gl gn); done) | (exact congrArg (fun x => AVal.v (.int .i64 x)) (most_01 (by omega) gl gn); done) | (exact congrArg (fun x => AVal.v (.int .i64 x)) (most_10 (by omega) gl gn); done) | (exact congrArg (fun x => AVal.v (.int .i64 x)) (most_11 (by omega) gl gn); done) | simp)
   ·repeat (first | exact subx_refl | exact subx_del | refine subx_put rfl ?_)
   ·rfl
  have gh14 := h14
  simp only [nrm] at h14
  have gn := gh14
  refine aw_skip ?_
  refine aw_region ?_
  refine al_mv ?_
  refine al_mv ?_
  refine al_op (op_max rfl rfl) rfl (by simp) ?_
  refine al_gs ?_
  refine al_nil ?_
  refine aw_region ?_
  refine al_ad ?_
  refine al_mv ?_
  refine al_nil ?_
  refine ⟨i + 1, ?_, ?_, ?_, ?_, ?_⟩
  ·omega
  ·omega
  ·refine sub_cons (get_as rfl ?_) ?_; rotate_left; refine sub_cons (get_as rfl ?_) ?_; rotate_left; exact sub_nil
   all_goals (first | rfl | (exact congrArg (fun x => AVal.v (.int .i64 x)) (most_00 (by omega) gl gn); done) | (exact congrArg (fun x => AVal.v (.int .i64 x)) (most_01 (by omega) gl gn); done) | (exact congrArg (fun x => AVal.v (.int .i64 x)) (most_10 (by omega) gl gn); done) | (exact congrArg (fun x => AVal.v (.int .i64 x)) (most_11 (by omega) gl gn); done) | simp)
  ·repeat (first | exact subx_refl | exact subx_del | refine subx_put rfl ?_)
  ·rfl
 have gh1 := h1
 simp only [nrm] at h1
 refine aw_exit ?_
 refine aw_sr ?_
 refine al_mv ?_
 refine al_gs ?_
 refine al_nil ?_
 refine fz1 (t := 2) ?_
 refine aw_ret ?_
 refine ⟨_, res_1 rfl rfl, ?_, rfl⟩
 have hl : i = e.kids.length := by omega
 rw [depQ_eq, hl]
theorem r_depth (e : Ex) : szE e = true → depQ e ≤ 1000000000 → ACp Tryz.prog 58 [.agg (cellsE (e))] (.v (.int .i64 ((depQ e : Nat) : Int))) := by
  induction e using Ex.ind with
  | h e ih =>
    intro hz hB
    obtain ⟨z1, z2, z3, z4, z5⟩ := szE_facts hz
    refine r_depthS e hz hB (fun k hk => ?_)
    obtain ⟨i, hi, rfl⟩ := List.getElem_of_mem hk
    have hkd := kid_depQ (e := e) (i := i) hi
    rw [List.getD_eq_getElem?_getD, List.getElem?_eq_getElem hi, Option.getD_some] at hkd
    exact ih _ hk (z5 _ hk) (by omega)
end Go.Proofs.YtcgdlhkiecommaaGreatDoor
/- Printed walks (gen.py, lexer_ann.py): part 434. -/



namespace Go.Proofs.YtcgdlhkiecommaaGreatDoor
open Go
theorem r_Valid (e : Ex) (hz : szE e = true) (hB : depQ e ≤ 1000000000) : ACp Tryz.prog 26 [.agg (cellsE (e))] (.v (.bool (validQ e))) := by
 refine acp_of rfl ?_
 refine ace 10 Tryz.func26 ?_
 refine aw_sr ?_
 refine al_bx 1 fun ver1 => ?_
 refine al_gs ?_
 refine al_sr ?_
 refine al_ld Tryz.underlying37 info37 ?_
 refine al_callp into57 rfl rfl rfl (r_form e hz _) (by simp) ?_
 refine al_mv ?_
 apply al_and 4 5 9 rfl
 ·intro gh1
  refine tk_ld Tryz.underlying37 info37 ?_
  refine al_callp_take into58 rfl rfl rfl rfl rfl rfl (r_depth e hz hB _) (by simp) ?_
  refine al_take (op_leq rfl rfl) rfl rfl rfl rfl (by simp) ?_
  refine al_pk ?_
  exact al_nk gh1
 ·intro gh1
  refine al_ps ?_
  refine al_ps ?_
  refine al_ps ?_
  refine al_pk ?_
  exact al_nk gh1
 refine al_gs ?_
 refine al_nil ?_
 refine fz1 (t := 2) ?_
 refine aw_ret ?_
 refine ⟨_, res_1 rfl rfl, ?_, rfl⟩
 rfl
end Go.Proofs.YtcgdlhkiecommaaGreatDoor
/- Printed walks (gen.py, lexer_ann.py): part 435. -/




namespace Go.Proofs.YtcgdlhkiecommaaGreatDoor
open Go
end Go.Proofs.YtcgdlhkiecommaaGreatDoor
/- Printed walks (gen.py, lexer_ann.py): part 436. -/



namespace Go.Proofs.YtcgdlhkiecommaaGreatDoor
open Go
end Go.Proofs.YtcgdlhkiecommaaGreatDoor
/- Printed walks (gen.py, lexer_ann.py): part 437. -/




namespace Go.Proofs.YtcgdlhkiecommaaGreatDoor
open Go
end Go.Proofs.YtcgdlhkiecommaaGreatDoor
/- Printed walks (gen.py, lexer_ann.py): part 438. -/




namespace Go.Proofs.YtcgdlhkiecommaaGreatDoor
open Go
end Go.Proofs.YtcgdlhkiecommaaGreatDoor
/- Printed walks (gen.py, lexer_ann.py): part 439. -/





namespace Go.Proofs.YtcgdlhkiecommaaGreatDoor
open Go
end Go.Proofs.YtcgdlhkiecommaaGreatDoor
/- Printed walks (gen.py, lexer_ann.py): part 440. -/



namespace Go.Proofs.YtcgdlhkiecommaaGreatDoor
open Go
end Go.Proofs.YtcgdlhkiecommaaGreatDoor
/- Printed walks (gen.py, lexer_ann.py): part 441. -/




namespace Go.Proofs.YtcgdlhkiecommaaGreatDoor
open Go
end Go.Proofs.YtcgdlhkiecommaaGreatDoor
/- Printed walks (gen.py, lexer_ann.py): part 442. -/



namespace Go.Proofs.YtcgdlhkiecommaaGreatDoor
open Go
theorem l_ExprNames (e : Ex) (he : szX e = true) (hn : nuE e = true) : ACp Tryz.prog 10 [.agg (cellsE (e))] (.v (.bool (true))) := by
 refine acp_of rfl ?_
 have hBT : BT Tryz.prog := bt_all (fun l hl => e_isBits l hl)
 refine ace 97 Tryz.func10 ?_
 refine aw_sr ?_
 refine al_bx 1 fun ver1 => ?_
 refine al_gs ?_
 refine al_nil ?_
 refine aw_seq ?_
 refine aw_sr ?_
 refine al_ld Tryz.underlying37 info37 ?_
 refine al_op (op_list encE [e] Tryz.underlying31 info37 rfl rfl (by decide) rfl (by decide) rfl (by first | rfl | (repeat (first | exact parts_nil | refine parts_cons rfl (by repeat (first | exact all_live_nil | refine all_live_clo rfl ?_ | refine all_live_slice rfl ?_ | refine all_live_map rfl ?_ | refine all_live_ptr rfl ?_)) ?_))) rfl rfl rfl (kids1 _)) rfl (by simp) ?_
 refine al_callp into22 rfl rfl rfl (r_Few [e] (by simp) (fun x hx => by rw [List.mem_singleton.1 hx]; exact he) _) (by simp) ?_
 refine al_op (op_not rfl) rfl (by simp) ?_
 refine al_mv ?_
 apply al_or 4 18 22 rfl
 ·intro h1; have gh1 := h1
  simp only [nrm] at h1
  try (have wf : WF Tryz.prog e := wf_of hBT (by simpa using gh1) hn)
  try (have w2 := wf.dq)
  refine tk_ld Tryz.underlying37 info37 ?_
  refine al_callp_take into26 rfl rfl rfl rfl rfl rfl (r_Valid e wf.z (by omega) _) (by simp) ?_
  refine al_take (op_not rfl) rfl rfl rfl rfl (by simp) ?_
  refine al_pk ?_
  exact al_nk gh1
 ·intro h1; have gh1 := h1
  simp only [nrm] at h1
  try (have wf : WF Tryz.prog e := wf_of hBT (by simpa using gh1) hn)
  try (have w2 := wf.dq)
  refine al_ps ?_
  refine al_ps ?_
  refine al_ps ?_
  refine al_pk ?_
  exact al_nk gh1
 refine al_nil ?_
 refine aw_cond rfl (fun h2 => ?_) (fun h2 => ?_)
 ·have gh2 := h2
  simp only [nrm] at h2
  have gq := gh2
  refine aw_sr ?_
  refine al_callp into12 rfl rfl rfl (l_awake _) (by simp) ?_
  refine al_gs ?_
  refine al_nil ?_
  refine fz1 (t := 2) ?_
  refine aw_ret ?_
  refine ⟨_, res_1 rfl rfl, ?_, rfl⟩
  rfl
 have gh2 := h2
 simp only [nrm] at h2
 have gq := gh2
 have hfv : fewP [e] 3000 = true ∧ validQ e = true := by simpa using gq
 have wf : WF Tryz.prog e := wf_of hBT hfv.1 hn
 have hv : validP e = true := wf.v ▸ hfv.2
 have w1 := wf.tl
 have w2 := wf.dq
 have w3 := wf.nl
 have w4 := namesE_len e
 have w5 := szX_facts he
 refine aw_skip ?_
 refine aw_sr ?_
 refine al_ld Tryz.underlying37 info37 ?_
 refine al_callp into23 rfl rfl rfl (e_textE e wf.w wf.tk _) (by simp) ?_
 refine al_as 26 (.tuple [.v (.string (str (joinT (toks e)))), .v (.int .i64 (0))]) rfl (by rw [text_valid wf hv]) ?_
 refine al_mv ?_
 refine al_xt ?_
 refine al_xt ?_
 refine al_gs ?_
 refine al_gs ?_
 refine al_nil ?_
 refine aw_seq ?_
 have hjl := joinT_len (toks e)
 have hjw := wtot_big wf hv
 refine aw_region ?_
 refine al_mv ?_
 refine al_callp into37 rfl rfl rfl (r_Lex (joinT (toks e)) (by omega) _) (by simp) ?_
 refine al_mv ?_
 refine al_xt ?_
 refine al_xt ?_
 refine al_al 6 info40 fun ver6 => ?_
 refine al_gs ?_
 refine al_sp info40 ?_
 refine al_nil ?_
 refine aw_seq ?_
 refine aw_st (σ2 := [(1, ver1, .row 16 [cellsE e]), (6, ver6, .row 4 [encF (lexP (joinT (toks e))).2])]) rfl ?_
 refine aw_region ?_
 refine al_ld Tryz.underlying37 info37 ?_
 refine al_callp into29 rfl rfl rfl (e_names e wf.w (by omega) _) (by simp) ?_
 refine al_as 36 (.tuple [.list 1 ((namesT (toks e)).map encBs), .v (.int .i64 (0))]) rfl (by rw [namesE, hv]; rfl) ?_
 refine al_mv ?_
 refine al_xt ?_
 refine al_xt ?_
 refine al_gs ?_
 refine al_gs ?_
 refine al_nil ?_
 refine aw_seq ?_
 refine aw_sr ?_
 refine al_mv ?_
 refine al_op (op_neq rfl rfl) rfl (by simp) ?_
 refine al_mv ?_
 refine al_as 41 (.v (.bool false)) rfl (by rfl) ?_
 refine tk_mv ?_
 refine al_take (op_neq rfl rfl) rfl rfl rfl rfl (by simp) ?_
 refine al_pk ?_
 refine al_nil ?_
 refine aw_cond rfl (fun h3 => ?_) (fun h3 => ?_)
 ·have gh3 := h3
  simp only [nrm] at h3
  exact absurd gh3 (by decide)
 have gh3 := h3
 simp only [nrm] at h3
 refine aw_skip ?_
 refine aw_seq ?_
 refine aw_sr ?_
 refine al_fp Tryz.underlying40 info38 ?_
 refine al_ld Tryz.underlying38 info38 ?_
 refine al_op (op_neq rfl rfl) rfl (by simp) ?_
 refine al_nil ?_
 refine aw_cond rfl (fun h4 => ?_) (fun h4 => ?_)
 ·have gh4 := h4
  simp only [nrm] at h4
  have gc := gh4
  have hbig : 20000 < (joinT (toks e)).length := by
    rcases Nat.lt_or_ge 20000 (joinT (toks e)).length with h | h
    · exact h
    · rw [(bk_of wf hv h).1] at gc; cases gc
  refine aw_sr ?_
  refine al_mv ?_
  refine al_op (op_slen_str (ts := #[]) Tryz.underlying9 rfl) rfl (by simp) ?_
  refine al_op (op_gtr rfl rfl) rfl (by simp) ?_
  refine al_mv ?_
  refine al_as 51 (.v (.bool true)) rfl (by rw [decide_eq_true (by omega)]) ?_
  refine al_callp_take into12 rfl rfl rfl rfl rfl rfl (l_awake _) (by simp) ?_
  refine al_pk ?_
  refine al_gs ?_
  refine al_nil ?_
  refine fz1 (t := 2) ?_
  refine aw_ret ?_
  refine ⟨_, res_1 rfl rfl, ?_, rfl⟩
  rfl
 have gh4 := h4
 simp only [nrm] at h4
 have gc := gh4
 obtain ⟨hlf, bk⟩ := bk_of wf hv (lex_fault gc)
 have hln := bk.n
 have hN : namesT (toks e) = (namesT (lexP (joinT (toks e))).1) := (names_alike bk.al).symm
 have hNl := names_len hln
 refine aw_as 7 (.list 1 ((namesT (lexP (joinT (toks e))).1).map encBs)) rfl (by rw [hN]) ?_
 refine aw_skip ?_
 refine aw_sr ?_
 refine al_gs ?_
 refine al_nil ?_
 refine aw_seq ?_
 refine aw_sr ?_
 refine al_mv ?_
 refine al_lm Tryz.underlying22 ?_
 refine al_mv ?_
 refine al_nil ?_
 refine aw_block ?_
 refine aw_forT (ι := Nat) [2, 9, 56] [11] (fun i => (lexP (joinT (toks e))).1.length - i) (fun i => i ≤ (lexP (joinT (toks e))).1.length) (fun i => ([(9, .v (.int .i64 ((nxT (lexP (joinT (toks e))).1 i : Nat) : Int))), (56, .v (.int .i64 ((i : Nat) : Int)))] : Env)) (fun i s => s) (0) ?_ ?_ ?_ (fun i hinv => ?_)
 ·exact Nat.zero_le _
 ·refine sub_cons (get_as rfl ?_) ?_; rotate_left; refine sub_cons (get_as rfl ?_) ?_; rotate_left; exact sub_nil
  all_goals (first | rfl | simp)
 ·rfl
 have hi := hinv
 refine aw_sr ?_
 refine al_ls ?_
 refine al_nil ?_
 refine aw_seq ?_
 refine aw_cond rfl (fun h5 => ?_) (fun h5 => ?_)
 ·have gh5 := h5
  simp only [nrm] at h5
  refine aw_skip ?_
  refine aw_seq ?_
  refine aw_block ?_
  refine aw_seq ?_
  have hil : i < (lexP (joinT (toks e))).1.length := by omega
  refine aw_region ?_
  refine al_op (op_index_map default Tryz.underlying22 info65 rfl rfl rfl (by first | (with_reducible exact Int.toNat_natCast _) | rfl) (by omega) (by omega)) rfl (by simp) ?_
  refine al_lr Tryz.underlying65 info65 ?_
  refine al_al 11 info65 fun ver11 => ?_
  refine al_sp info65 ?_
  refine al_nil ?_
  refine aw_seq ?_
  refine aw_sr ?_
  refine al_fp Tryz.underlying65 info63 ?_
  refine al_ld Tryz.underlying63 info63 ?_
  refine al_op (op_neq rfl rfl) rfl (by simp) ?_
  refine al_nil ?_
  refine aw_cond rfl (fun h6 => ?_) (fun h6 => ?_)
  ·have gh6 := h6
   simp only [nrm] at h6
   have go := gh6
   have hnx : nxT (lexP (joinT (toks e))).1 (i + 1) = nxT (lexP (joinT (toks e))).1 i := nx_skip hil go
   refine aw_exit ?_
   refine aw_region ?_
   refine al_ad ?_
   refine al_mv ?_
   refine al_nil ?_
   refine ⟨i + 1, ?_, ?_, ?_, ?_, ?_⟩
   ·omega
   ·omega
   ·refine sub_cons (get_as rfl ?_) ?_; rotate_left; refine sub_cons (get_as rfl ?_) ?_; rotate_left; exact sub_nil
    all_goals (first | rfl | (rw [hnx]; rfl) | (rw [hnx]; done) | (rw [hnx]; simp) | simp)
   ·repeat (first | exact subx_refl | exact subx_del | refine subx_put rfl ?_)
   ·rfl
  have gh6 := h6
  simp only [nrm] at h6
  have go := gh6
  obtain ⟨k, hk1, hk2, hk3⟩ := nm_in hil go
  have hnl := nx_le (l := (lexP (joinT (toks e))).1) (i := i)
  refine aw_skip ?_
  refine aw_sr ?_
  refine al_gs ?_
  refine al_nil ?_
  refine aw_seq ?_
  refine aw_sr ?_
  refine al_mv ?_
  refine al_lm Tryz.underlying32 ?_
  refine al_mv ?_
  refine al_nil ?_
  refine aw_block ?_
  refine aw_forT (ι := Nat) [12, 13, 65, 66, 67, 68, 69, 70, 71, 72, 73, 74, 75, 76] [] (fun j => (namesT (lexP (joinT (toks e))).1).length - j) (fun j => j ≤ (namesT (lexP (joinT (toks e))).1).length ∧ ∀ k, k < j → ((namesT (lexP (joinT (toks e))).1).getD k default == ((lexP (joinT (toks e))).1.getD i default).text) = false) (fun j => ([(12, .v (.int .i64 (-1))), (65, .v (.int .i64 ((j : Nat) : Int)))] : Env)) (fun j s => s) (0) ?_ ?_ ?_ (fun j hinv => ?_)
  ·exact ⟨Nat.zero_le _, fun k hk => absurd hk (Nat.not_lt_zero k)⟩
  ·refine sub_cons (get_as rfl ?_) ?_; rotate_left; refine sub_cons (get_as rfl ?_) ?_; rotate_left; exact sub_nil
   all_goals (first | rfl | simp)
  ·rfl
  have hj := hinv.1
  refine aw_sr ?_
  refine al_ls ?_
  refine al_nil ?_
  refine aw_seq ?_
  refine aw_cond rfl (fun h7 => ?_) (fun h7 => ?_)
  ·have gh7 := h7
   simp only [nrm] at h7
   refine aw_skip ?_
   refine aw_seq ?_
   refine aw_block ?_
   refine aw_sr ?_
   refine al_mv ?_
   refine al_gs ?_
   refine al_nil ?_
   refine aw_seq ?_
   refine aw_any (Checked.mixed Tryz.checked) ?_
   apply aany_seg (p := 0) (q := 7) (by kernel_rfl) rfl (by decide)
   ·
    apply ql_plain rfl (op_move rfl)
    apply ql_plain rfl (op_move rfl)
    apply ql_plain rfl (op_index_map default Tryz.underlying32 info9 rfl rfl rfl (by first | (with_reducible exact Int.toNat_natCast _) | rfl) (by omega) (by omega))
    apply ql_plain rfl (op_load_rptr Tryz.underlying9 info9 rfl rfl)
    apply ql_plain rfl (op_field_ptr Tryz.underlying65 rfl info9 (by decide) rfl rfl rfl)
    apply ql_plain rfl (op_load_ptr Tryz.underlying9 info9 rfl rfl rfl rfl)
    apply ql_plain rfl (op_seql_str rfl rfl)
    exact ql_nil
   ·simp
   refine aany_end rfl (by kernel_rfl) ?_
   refine aw_cond rfl (fun h8 => ?_) (fun h8 => ?_)
   ·have gh8 := h8
    simp only [nrm] at h8
    have gj := gh8
    refine aw_sr ?_
    refine al_mv ?_
    refine al_gs ?_
    refine al_nil ?_
    refine aw_exit ?_
    have hjk : j ≤ k := nx_none hinv.2 hk2
    refine aw_seq ?_
    refine aw_sr ?_
    refine al_mv ?_
    refine al_ls ?_
    refine al_mv ?_
    apply al_or 4 79 83 rfl
    ·intro h9; have gh9 := h9
     simp only [nrm] at h9
     refine tk_mv ?_
     refine tk_mv ?_
     refine al_take (op_gtr rfl rfl) rfl rfl rfl rfl (by simp) ?_
     refine al_pk ?_
     exact al_nk gh9
    ·intro h9; have gh9 := h9
     simp only [nrm] at h9
     refine al_ps ?_
     refine al_ps ?_
     refine al_ps ?_
     refine al_pk ?_
     exact al_nk gh9
    refine al_nil ?_
    refine aw_cond rfl (fun h10 => ?_) (fun h10 => ?_)
    ·have gh10 := h10
     simp only [nrm] at h10
     exfalso; omega
    have gh10 := h10
    simp only [nrm] at h10
    refine aw_skip ?_
    refine aw_sr ?_
    refine al_mv ?_
    refine al_mv ?_
    refine al_eq ?_
    refine al_nil ?_
    refine aw_cond rfl (fun h11 => ?_) (fun h11 => ?_)
    ·have gh11 := h11
     simp only [nrm] at h11
     have hnx : nxT (lexP (joinT (toks e))).1 (i + 1) = nxT (lexP (joinT (toks e))).1 i + 1 := by first | (exfalso; omega) | exact nm_hit hil go hinv.2 (by omega)
     refine aw_region ?_
     refine al_mv ?_
     refine al_ad ?_
     refine al_gs ?_
     refine al_nil ?_
     refine aw_region ?_
     refine al_ad ?_
     refine al_mv ?_
     refine al_nil ?_
     refine ⟨i + 1, ?_, ?_, ?_, ?_, ?_⟩
     ·omega
     ·omega
     ·refine sub_cons (get_as rfl ?_) ?_; rotate_left; refine sub_cons (get_as rfl ?_) ?_; rotate_left; exact sub_nil
      all_goals (first | rfl | (rw [hnx]; rfl) | (rw [hnx]; done) | (rw [hnx]; simp) | simp)
     ·repeat (first | exact subx_refl | exact subx_del | refine subx_put rfl ?_)
     ·rfl
    have gh11 := h11
    simp only [nrm] at h11
    have hnx : nxT (lexP (joinT (toks e))).1 (i + 1) = nxT (lexP (joinT (toks e))).1 i := by first | (exfalso; omega) | exact nm_miss hil go (beq_iff_eq.1 gj) (by omega)
    refine aw_skip ?_
    refine aw_region ?_
    refine al_ad ?_
    refine al_mv ?_
    refine al_nil ?_
    refine ⟨i + 1, ?_, ?_, ?_, ?_, ?_⟩
    ·omega
    ·omega
    ·refine sub_cons (get_as rfl ?_) ?_; rotate_left; refine sub_cons (get_as rfl ?_) ?_; rotate_left; exact sub_nil
     all_goals (first | rfl | (rw [hnx]; rfl) | (rw [hnx]; done) | (rw [hnx]; simp) | simp)
    ·repeat (first | exact subx_refl | exact subx_del | refine subx_put rfl ?_)
    ·rfl
   have gh8 := h8
   simp only [nrm] at h8
   have gj := gh8
   refine aw_skip ?_
   refine aw_region ?_
   refine al_ad ?_
   refine al_mv ?_
   refine al_nil ?_
   refine ⟨j + 1, ?_, ?_, ?_, ?_, ?_⟩
   ·omega
   ·exact ⟨by omega, idx_more (p := fun k => ((namesT (lexP (joinT (toks e))).1).getD k default == ((lexP (joinT (toks e))).1.getD i default).text)) hinv.2 gj⟩
   ·refine sub_cons (get_as rfl ?_) ?_; rotate_left; refine sub_cons (get_as rfl ?_) ?_; rotate_left; exact sub_nil
    all_goals (first | rfl | simp)
   ·repeat (first | exact subx_refl | exact subx_del | refine subx_put rfl ?_)
   ·rfl
  have gh7 := h7
  simp only [nrm] at h7
  refine aw_exit ?_
  have hjk : j ≤ k := nx_none hinv.2 hk2
  refine aw_seq ?_
  refine aw_sr ?_
  refine al_mv ?_
  refine al_ls ?_
  refine al_mv ?_
  apply al_or 4 79 83 rfl
  ·intro h12; have gh12 := h12
   simp only [nrm] at h12
   refine tk_mv ?_
   refine tk_mv ?_
   refine al_take (op_gtr rfl rfl) rfl rfl rfl rfl (by simp) ?_
   refine al_pk ?_
   exact al_nk gh12
  ·intro h12; have gh12 := h12
   simp only [nrm] at h12
   refine al_ps ?_
   refine al_ps ?_
   refine al_ps ?_
   refine al_pk ?_
   exact al_nk gh12
  refine al_nil ?_
  refine aw_cond rfl (fun h13 => ?_) (fun h13 => ?_)
  ·have gh13 := h13
   simp only [nrm] at h13
   exfalso; omega
  have gh13 := h13
  simp only [nrm] at h13
  refine aw_skip ?_
  refine aw_sr ?_
  refine al_mv ?_
  refine al_mv ?_
  refine al_eq ?_
  refine al_nil ?_
  refine aw_cond rfl (fun h14 => ?_) (fun h14 => ?_)
  ·have gh14 := h14
   simp only [nrm] at h14
   have hnx : nxT (lexP (joinT (toks e))).1 (i + 1) = nxT (lexP (joinT (toks e))).1 i + 1 := by first | (exfalso; omega) | exact nm_hit hil go hinv.2 (by omega)
   refine aw_region ?_
   refine al_mv ?_
   refine al_ad ?_
   refine al_gs ?_
   refine al_nil ?_
   refine aw_region ?_
   refine al_ad ?_
   refine al_mv ?_
   refine al_nil ?_
   refine ⟨i + 1, ?_, ?_, ?_, ?_, ?_⟩
   ·omega
   ·omega
   ·refine sub_cons (get_as rfl ?_) ?_; rotate_left; refine sub_cons (get_as rfl ?_) ?_; rotate_left; exact sub_nil
    all_goals (first | rfl | (rw [hnx]; rfl) | (rw [hnx]; done) | (rw [hnx]; simp) | simp)
   ·repeat (first | exact subx_refl | exact subx_del | refine subx_put rfl ?_)
   ·rfl
  have gh14 := h14
  simp only [nrm] at h14
  have hnx : nxT (lexP (joinT (toks e))).1 (i + 1) = nxT (lexP (joinT (toks e))).1 i := by first | (exfalso; omega) | exact nm_miss hil go (beq_iff_eq.1 gj) (by omega)
  refine aw_skip ?_
  refine aw_region ?_
  refine al_ad ?_
  refine al_mv ?_
  refine al_nil ?_
  refine ⟨i + 1, ?_, ?_, ?_, ?_, ?_⟩
  ·omega
  ·omega
  ·refine sub_cons (get_as rfl ?_) ?_; rotate_left; refine sub_cons (get_as rfl ?_) ?_; rotate_left; exact sub_nil
   all_goals (first | rfl | (rw [hnx]; rfl) | (rw [hnx]; done) | (rw [hnx]; simp) | simp)
  ·repeat (first | exact subx_refl | exact subx_del | refine subx_put rfl ?_)
  ·rfl
 have gh5 := h5
 simp only [nrm] at h5
 refine aw_exit ?_
 have hie : i = (lexP (joinT (toks e))).1.length := by omega
 refine aw_sr ?_
 refine al_mv ?_
 refine al_mv ?_
 refine al_lm Tryz.underlying32 ?_
 refine al_eq ?_
 refine al_mv ?_
 refine al_as 94 (.v (.bool true)) rfl (by rw [hie, nxT, List.take_length]; simp) ?_
 refine al_callp_take into12 rfl rfl rfl rfl rfl rfl (l_awake _) (by simp) ?_
 refine al_pk ?_
 refine al_gs ?_
 refine al_nil ?_
 refine fz1 (t := 2) ?_
 refine aw_ret ?_
 refine ⟨_, res_1 rfl rfl, ?_, rfl⟩
 rfl
end Go.Proofs.YtcgdlhkiecommaaGreatDoor
