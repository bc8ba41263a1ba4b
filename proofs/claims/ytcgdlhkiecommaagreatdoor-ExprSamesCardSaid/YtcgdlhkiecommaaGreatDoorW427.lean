import Derived.Test.YtcgdlhkiecommaaGreatDoorW424
import Derived.Test.YtcgdlhkiecommaaGreatDoorXParts
import Derived.Test.YtcgdlhkiecommaaGreatDoorFacts

/- Printed walks (gen.py, lexer_ann.py): part 425. -/



set_option linter.unusedVariables false
set_option linter.unusedSimpArgs false
set_option maxRecDepth 20000
set_option maxHeartbeats 40000000
namespace Go.Proofs.YtcgdlhkiecommaaGreatDoor
open Go
theorem r_partsS (v : Va) (hz : szV v = true) (n : Int) (hn : 0 ≤ n) (hn2 : n ≤ 9000) (ih : ∀ k ∈ v.list, ∀ n : Int, 0 ≤ n → n ≤ 9000 → ACp Tryz.prog 100 [.agg (cellsV k), .v (.int .i64 (n))] (.v (.int .i64 (partsV k n)))) : ACp Tryz.prog 100 [.agg (cellsV v), .v (.int .i64 (n))] (.v (.int .i64 (partsV v n))) := by
 refine acp_of rfl ?_
 obtain ⟨z1, z2, z3⟩ := szV_facts hz
 have hB : loP = (-4503599627370496 : Int) := rfl
 refine ac_enter 28 Tryz.func100 rfl rfl (by simp) ?_
 refine aw_seq ?_
 refine aw_region ?_
 (refine al_opR (op_box 2 rfl rfl (by first | rfl | exact live_one rfl | (repeat (first | exact all_live_nil | refine all_live_clo rfl ?_ | refine all_live_slice rfl ?_ | refine all_live_map rfl ?_ | refine all_live_ptr rfl ?_)))) rfl (by simp) ?_; rintro _ _ ⟨ver2, rfl, rfl⟩)
 refine al_op (op_assign rfl) rfl (by simp) ?_
 refine al_nil ?_
 refine aw_seq ?_
 refine aw_region ?_
 refine al_op (op_move rfl) rfl (by simp) ?_
 refine al_op (op_field_ptr Tryz.underlying30 rfl info26 (by decide) rfl rfl rfl) rfl (by simp) ?_
 refine al_op (op_load_ptr Tryz.underlying26 info26 rfl rfl rfl rfl) rfl (by simp) ?_
 refine al_op (op_len_map Tryz.underlying26 rfl) rfl (by simp) ?_
 refine al_op (op_add rfl rfl (by first | exact wrap_i64 (by omega) (by omega))) rfl (by simp) ?_
 refine al_op (op_sub rfl rfl (by first | exact wrap_i64 (by omega) (by omega))) rfl (by simp) ?_
 refine al_op (op_assign rfl) rfl (by simp) ?_
 refine al_nil ?_
 refine aw_seq ?_
 refine aw_seq ?_
 refine aw_region ?_
 refine al_op (op_field_ptr Tryz.underlying30 rfl info28 (by decide) rfl rfl rfl) rfl (by simp) ?_
 refine al_op (op_load_ptr Tryz.underlying28 info28 rfl rfl rfl rfl) rfl (by simp) ?_
 refine al_op (op_len_map Tryz.underlying28 rfl) rfl (by simp) ?_
 refine al_op (op_move rfl) rfl (by simp) ?_
 refine al_nil ?_
 refine aw_block ?_
 refine aw_for2T (α := Nat) (β := Int) [1, 4, 16] [6] (fun i m => v.list.length - i) (fun i m => i ≤ v.list.length ∧ (loP ≤ m ∧ m ≤ 9000) ∧ partsVs (v.list.drop i) m = partsV v n) (fun i m => ([(1, .v (.int .i64 (m))), (16, .v (.int .i64 ((i : Nat) : Int)))] : Env)) (fun i m s => s) (0) (n - (1 + (v.bits.length : Int))) ?_ ?_ ?_ (fun i m hinv => ?_)
 ·exact ⟨Nat.zero_le _, ⟨by omega, by omega⟩, (partsV_eq v n).symm⟩
 ·refine sub_cons (get_as rfl ?_) ?_; rotate_left; refine sub_cons (get_as rfl ?_) ?_; rotate_left; exact sub_nil
  all_goals (first | rfl | simp)
 ·rfl
 obtain ⟨hi, ⟨hm1, hm2⟩, hpe⟩ := hinv
 refine aw_seq ?_
 refine aw_region ?_
 refine al_op (op_lss rfl rfl) rfl (by simp) ?_
 refine al_nil ?_
 refine aw_seq ?_
 refine aw_cond rfl (fun h1 => ?_) (fun h1 => ?_)
 ·have gh1 := h1
  try simp only [nrm] at h1
  refine aw_skip ?_
  refine aw_seq ?_
  refine aw_block ?_
  refine aw_seq ?_
  refine aw_region ?_
  refine al_op (val_as (.rptr (cellsV (v.list.getD i default))) (op_index_map default Tryz.underlying28 info30 rfl rfl rfl (by first | (with_reducible exact Int.toNat_natCast _) | rfl) (by omega) (by omega)) (by exact congrArg AVal.rptr (encVa_cells _))) rfl (by simp) ?_
  refine al_op (op_load_rptr Tryz.underlying30 info30 rfl rfl) rfl (by simp) ?_
  (refine al_opR (op_alloc 6 info30 rfl rfl) rfl (by simp) ?_; rintro _ _ ⟨ver6, rfl, rfl⟩)
  refine al_op (op_store_ptr info30 rfl rfl rfl rfl rfl rfl (by first | rfl | exact live_one rfl | (repeat (first | exact all_live_nil | refine all_live_clo rfl ?_ | refine all_live_slice rfl ?_ | refine all_live_map rfl ?_ | refine all_live_ptr rfl ?_))) (Nat.le_of_ble_eq_true rfl)) rfl (by simp) ?_
  refine al_nil ?_
  refine aw_seq ?_
  refine aw_seq ?_
  refine aw_region ?_
  refine al_op (op_move rfl) rfl (by simp) ?_
  refine al_op (op_lss rfl rfl) rfl (by simp) ?_
  refine al_nil ?_
  refine aw_cond rfl (fun h2 => ?_) (fun h2 => ?_)
  ·have gh2 := h2
   try simp only [nrm] at h2
   refine aw_seq ?_
   refine aw_region ?_
   refine al_op (op_move rfl) rfl (by simp) ?_
   refine al_op (op_assign rfl) rfl (by simp) ?_
   refine al_nil ?_
   refine aw_freeze (fun _ => false) (fsub_cons (t := 4) rfl (.leaf _ _ (.same _)) fsub_nil) ?_
   refine aw_ret ?_
   refine ⟨_, res_1 rfl rfl, ?_, rfl⟩
   rw [← hpe, partsVs_lt (by simpa using gh2)]
  ·have gh2 := h2
   try simp only [nrm] at h2
   have hmn : ¬ m < 0 := by simpa using gh2
   have hq := partsV_in (v.list.getD i default) (z3 _ (getD_mem (by omega))) m (by omega)
   refine aw_skip ?_
   refine aw_region ?_
   refine al_op (op_load_ptr Tryz.underlying30 info30 rfl rfl rfl rfl) rfl (by simp) ?_
   refine al_op (op_move rfl) rfl (by simp) ?_
   refine al_callp into100 rfl rfl rfl (ih (v.list.getD i default) (getD_mem (by omega)) m (by omega) (by omega) _) (by simp) ?_
   refine al_op (op_assign rfl) rfl (by simp) ?_
   refine al_nil ?_
   refine aw_region ?_
   refine al_op (op_add rfl rfl (by first | exact wrap_i64 (by omega) (by omega))) rfl (by simp) ?_
   refine al_op (op_move rfl) rfl (by simp) ?_
   refine al_nil ?_
   refine ⟨i + 1, partsV (v.list.getD i default) m, ?_, ?_, ?_, ?_, ?_⟩
   ·omega
   ·exact ⟨by omega, ⟨hq.1, by have := hq.2; omega⟩, by rw [← partsVs_step (by omega) (by simpa using gh2)]; exact hpe⟩
   ·refine sub_cons (get_as rfl ?_) ?_; rotate_left; refine sub_cons (get_as rfl ?_) ?_; rotate_left; exact sub_nil
    all_goals (first | rfl | simp)
   ·repeat (first | exact subx_refl | exact subx_del | refine subx_put rfl ?_)
   ·rfl
 ·have gh1 := h1
  try simp only [nrm] at h1
  refine aw_exit ?_
  
  refine aw_seq ?_
  refine aw_region ?_
  refine al_op (op_move rfl) rfl (by simp) ?_
  refine al_op (op_assign rfl) rfl (by simp) ?_
  refine al_nil ?_
  refine aw_freeze (fun _ => false) (fsub_cons (t := 4) rfl (.leaf _ _ (.same _)) fsub_nil) ?_
  refine aw_ret ?_
  refine ⟨_, res_1 rfl rfl, ?_, rfl⟩
  rw [← hpe, partsVs_end (by omega)]
theorem r_parts (v : Va) : szV v = true → ∀ n : Int, 0 ≤ n → n ≤ 9000 → ACp Tryz.prog 100 [.agg (cellsV v), .v (.int .i64 (n))] (.v (.int .i64 (partsV v n))) := by
  induction v using Va.ind with
  | h v ih =>
    intro hz n hn hn2
    obtain ⟨z1, z2, z3⟩ := szV_facts hz
    exact r_partsS v hz n hn hn2 (fun k hk => ih k hk (z3 k hk))
theorem r_PartsS (e : Ex) (hz : szX e = true) (n : Int) (hn : 0 ≤ n) (hn2 : n ≤ 9000) (d : Nat) (hd : d ≤ 301) (ih : ∀ k ∈ e.kids, ∀ n : Int, 0 ≤ n → n ≤ 9000 → ∀ d : Nat, d ≤ 301 → ACp Tryz.prog 50 [.agg (cellsE k), .v (.int .i64 (n)), .v (.int .i64 ((d : Nat) : Int))] (.v (.int .i64 (partsE k n d)))) : ACp Tryz.prog 50 [.agg (cellsE (e)), .v (.int .i64 (n)), .v (.int .i64 ((d : Nat) : Int))] (.v (.int .i64 (partsE e n d))) := by
 refine acp_of rfl ?_
 obtain ⟨z1, z2, z3, z4, z5, z6⟩ := szX_facts hz
 obtain ⟨w1, w2, -⟩ := szV_facts z4
 obtain ⟨u0, u1, u2, -⟩ := szT_facts z5
 have hB : loP = (-4503599627370496 : Int) := rfl
 refine ac_enter 59 Tryz.func50 rfl rfl (by simp) ?_
 refine aw_seq ?_
 refine aw_region ?_
 (refine al_opR (op_box 3 rfl rfl (by first | rfl | exact live_one rfl | (repeat (first | exact all_live_nil | refine all_live_clo rfl ?_ | refine all_live_slice rfl ?_ | refine all_live_map rfl ?_ | refine all_live_ptr rfl ?_)))) rfl (by simp) ?_; rintro _ _ ⟨ver3, rfl, rfl⟩)
 refine al_op (op_assign rfl) rfl (by simp) ?_
 refine al_nil ?_
 refine aw_seq ?_
 refine aw_region ?_
 refine al_op (op_move rfl) rfl (by simp) ?_
 refine al_op (op_field_ptr Tryz.underlying37 rfl info26 (by decide) rfl rfl rfl) rfl (by simp) ?_
 refine al_op (op_load_ptr Tryz.underlying26 info26 rfl rfl rfl rfl) rfl (by simp) ?_
 refine al_op (op_len_map Tryz.underlying26 rfl) rfl (by simp) ?_
 refine al_op (op_add rfl rfl (by first | exact wrap_i64 (by omega) (by omega))) rfl (by simp) ?_
 refine al_op (op_field_ptr Tryz.underlying37 rfl info9 (by decide) rfl rfl rfl) rfl (by simp) ?_
 refine al_op (op_load_ptr Tryz.underlying9 info9 rfl rfl rfl rfl) rfl (by simp) ?_
 refine al_op (op_slen_str (ts := #[]) Tryz.underlying9 rfl) rfl (by simp) ?_
 refine al_op (op_quo rfl rfl (by omega) (quo_nn (by omega) (by omega) (by omega))) rfl (by simp) ?_
 refine al_op (op_add rfl rfl (by first | exact wrap_i64 (by omega) (by omega))) rfl (by simp) ?_
 refine al_op (op_field_ptr Tryz.underlying37 rfl info30 (by decide) rfl rfl rfl) rfl (by simp) ?_
 refine al_op (op_field_ptr Tryz.underlying30 rfl info26 (by decide) rfl rfl rfl) rfl (by simp) ?_
 refine al_op (op_load_ptr Tryz.underlying26 info26 rfl rfl rfl rfl) rfl (by simp) ?_
 refine al_op (op_len_map Tryz.underlying26 rfl) rfl (by simp) ?_
 refine al_op (op_add rfl rfl (by first | exact wrap_i64 (by omega) (by omega))) rfl (by simp) ?_
 refine al_op (op_field_ptr Tryz.underlying37 rfl info30 (by decide) rfl rfl rfl) rfl (by simp) ?_
 refine al_op (op_field_ptr Tryz.underlying30 rfl info28 (by decide) rfl rfl rfl) rfl (by simp) ?_
 refine al_op (op_load_ptr Tryz.underlying28 info28 rfl rfl rfl rfl) rfl (by simp) ?_
 refine al_op (op_len_map Tryz.underlying28 rfl) rfl (by simp) ?_
 refine al_op (op_add rfl rfl (by first | exact wrap_i64 (by omega) (by omega))) rfl (by simp) ?_
 refine al_op (op_field_ptr Tryz.underlying37 rfl info35 (by decide) rfl rfl rfl) rfl (by simp) ?_
 refine al_op (op_field_ptr Tryz.underlying35 rfl info32 (by decide) rfl rfl rfl) rfl (by simp) ?_
 refine al_op (op_load_ptr Tryz.underlying32 info32 rfl rfl rfl rfl) rfl (by simp) ?_
 refine al_op (op_len_map Tryz.underlying32 rfl) rfl (by simp) ?_
 refine al_op (op_add rfl rfl (by first | exact wrap_i64 (by omega) (by omega))) rfl (by simp) ?_
 refine al_op (op_field_ptr Tryz.underlying37 rfl info35 (by decide) rfl rfl rfl) rfl (by simp) ?_
 refine al_op (op_field_ptr Tryz.underlying35 rfl info33 (by decide) rfl rfl rfl) rfl (by simp) ?_
 refine al_op (op_load_ptr Tryz.underlying33 info33 rfl rfl rfl rfl) rfl (by simp) ?_
 refine al_op (op_len_map Tryz.underlying33 rfl) rfl (by simp) ?_
 refine al_op (op_add rfl rfl (by first | exact wrap_i64 (by omega) (by omega))) rfl (by simp) ?_
 refine al_op (op_sub rfl rfl (by first | exact wrap_i64 (by omega) (by omega))) rfl (by simp) ?_
 refine al_op (op_assign rfl) rfl (by simp) ?_
 refine al_nil ?_
 refine aw_seq ?_
 refine aw_seq ?_
 refine aw_region ?_
 refine al_op (op_move rfl) rfl (by simp) ?_
 refine al_op (op_gtr rfl rfl) rfl (by simp) ?_
 refine al_nil ?_
 refine aw_cond rfl (fun h1 => ?_) (fun h1 => ?_)
 ·have gh1 := h1
  try simp only [nrm] at h1
  refine aw_seq ?_
  refine aw_region ?_
  refine al_op (op_assign rfl) rfl (by simp) ?_
  refine al_nil ?_
  refine aw_freeze (fun _ => false) (fsub_cons (t := 6) rfl (.leaf _ _ (.same _)) fsub_nil) ?_
  refine aw_ret ?_
  refine ⟨_, res_1 rfl rfl, ?_, rfl⟩
  rw [partsE_no (by simp at gh1; omega)]
 ·have gh1 := h1
  try simp only [nrm] at h1
  have hdn : ¬ 300 < d := by simp at gh1; omega
  refine aw_skip ?_
  refine aw_seq ?_
  refine aw_seq ?_
  refine aw_region ?_
  refine al_op (op_field_ptr Tryz.underlying37 rfl info31 (by decide) rfl rfl rfl) rfl (by simp) ?_
  refine al_op (op_load_ptr Tryz.underlying31 info31 rfl rfl rfl rfl) rfl (by simp) ?_
  refine al_op (op_len_map Tryz.underlying31 rfl) rfl (by simp) ?_
  refine al_op (op_move rfl) rfl (by simp) ?_
  refine al_nil ?_
  refine aw_block ?_
  refine aw_for2T (α := Nat) (β := Int) [1, 6, 45] [8] (fun i m => e.kids.length - i) (fun i m => i ≤ e.kids.length ∧ (loP ≤ m ∧ m ≤ 9000) ∧ partsEs (e.kids.drop i) m d = partsE e n d) (fun i m => ([(1, .v (.int .i64 (m))), (45, .v (.int .i64 ((i : Nat) : Int)))] : Env)) (fun i m s => s) (0) (n - (((((1 + (e.bits.length : Int)) + (e.name.length / 50 : Nat)) + e.val.bits.length) + e.val.list.length) + e.type.names.length + e.type.elem.length)) ?_ ?_ ?_ (fun i m hinv => ?_)
  ·exact ⟨Nat.zero_le _, ⟨by omega, by omega⟩, (partsE_eq hdn).symm⟩
  ·refine sub_cons (get_as rfl ?_) ?_; rotate_left; refine sub_cons (get_as rfl ?_) ?_; rotate_left; exact sub_nil
   all_goals (first | rfl | simp)
  ·rfl
  obtain ⟨hi, ⟨hm1, hm2⟩, hpe⟩ := hinv
  refine aw_seq ?_
  refine aw_region ?_
  refine al_op (op_lss rfl rfl) rfl (by simp) ?_
  refine al_nil ?_
  refine aw_seq ?_
  refine aw_cond rfl (fun h2 => ?_) (fun h2 => ?_)
  ·have gh2 := h2
   try simp only [nrm] at h2
   refine aw_skip ?_
   refine aw_seq ?_
   refine aw_block ?_
   refine aw_seq ?_
   refine aw_region ?_
   refine al_op (val_as (.rptr (cellsE (e.kids.getD i default))) (op_index_map default Tryz.underlying31 info37 rfl rfl rfl (by first | (with_reducible exact Int.toNat_natCast _) | rfl) (by omega) (by omega)) (by exact congrArg AVal.rptr (encE_cells _))) rfl (by simp) ?_
   refine al_op (op_load_rptr Tryz.underlying37 info37 rfl rfl) rfl (by simp) ?_
   (refine al_opR (op_alloc 8 info37 rfl rfl) rfl (by simp) ?_; rintro _ _ ⟨ver8, rfl, rfl⟩)
   refine al_op (op_store_ptr info37 rfl rfl rfl rfl rfl rfl (by first | rfl | exact live_one rfl | (repeat (first | exact all_live_nil | refine all_live_clo rfl ?_ | refine all_live_slice rfl ?_ | refine all_live_map rfl ?_ | refine all_live_ptr rfl ?_))) (Nat.le_of_ble_eq_true rfl)) rfl (by simp) ?_
   refine al_nil ?_
   refine aw_seq ?_
   refine aw_seq ?_
   refine aw_region ?_
   refine al_op (op_move rfl) rfl (by simp) ?_
   refine al_op (op_lss rfl rfl) rfl (by simp) ?_
   refine al_nil ?_
   refine aw_cond rfl (fun h3 => ?_) (fun h3 => ?_)
   ·have gh3 := h3
    try simp only [nrm] at h3
    refine aw_seq ?_
    refine aw_region ?_
    refine al_op (op_move rfl) rfl (by simp) ?_
    refine al_op (op_assign rfl) rfl (by simp) ?_
    refine al_nil ?_
    refine aw_freeze (fun _ => false) (fsub_cons (t := 6) rfl (.leaf _ _ (.same _)) fsub_nil) ?_
    refine aw_ret ?_
    refine ⟨_, res_1 rfl rfl, ?_, rfl⟩
    rw [← hpe, partsEs_lt (by simpa using gh3)]
   ·have gh3 := h3
    try simp only [nrm] at h3
    have hmn : ¬ m < 0 := by simpa using gh3
    have hq := partsE_in (e.kids.getD i default) (z6 _ (getD_mem (by omega))) m (d + 1) (by omega)
    refine aw_skip ?_
    refine aw_region ?_
    refine al_op (op_load_ptr Tryz.underlying37 info37 rfl rfl rfl rfl) rfl (by simp) ?_
    refine al_op (op_move rfl) rfl (by simp) ?_
    refine al_op (op_move rfl) rfl (by simp) ?_
    refine al_op (op_add rfl rfl (by first | exact wrap_i64 (by omega) (by omega))) rfl (by simp) ?_
    refine al_callp into50 rfl rfl rfl (ih (e.kids.getD i default) (getD_mem (by omega)) m (by omega) (by omega) (d + 1) (by omega) _) (by simp) ?_
    refine al_op (op_assign rfl) rfl (by simp) ?_
    refine al_nil ?_
    refine aw_region ?_
    refine al_op (op_add rfl rfl (by first | exact wrap_i64 (by omega) (by omega))) rfl (by simp) ?_
    refine al_op (op_move rfl) rfl (by simp) ?_
    refine al_nil ?_
    refine ⟨i + 1, partsE (e.kids.getD i default) m (d + 1), ?_, ?_, ?_, ?_, ?_⟩
    ·omega
    ·exact ⟨by omega, ⟨hq.1, by have := hq.2; omega⟩, by rw [← partsEs_step (by omega) (by simpa using gh3)]; exact hpe⟩
    ·refine sub_cons (get_as rfl ?_) ?_; rotate_left; refine sub_cons (get_as rfl ?_) ?_; rotate_left; exact sub_nil
     all_goals (first | rfl | simp)
    ·repeat (first | exact subx_refl | exact subx_del | refine subx_put rfl ?_)
    ·rfl
  ·have gh2 := h2
   try simp only [nrm] at h2
   refine aw_exit ?_
   
   refine aw_seq ?_
   refine aw_region ?_
   refine al_op (op_move rfl) rfl (by simp) ?_
   refine al_op (op_assign rfl) rfl (by simp) ?_
   refine al_nil ?_
   refine aw_freeze (fun _ => false) (fsub_cons (t := 6) rfl (.leaf _ _ (.same _)) fsub_nil) ?_
   refine aw_ret ?_
   refine ⟨_, res_1 rfl rfl, ?_, rfl⟩
   rw [← hpe, partsEs_end (by omega)]
theorem r_Parts (e : Ex) : szX e = true → ∀ n : Int, 0 ≤ n → n ≤ 9000 → ∀ d : Nat, d ≤ 301 → ACp Tryz.prog 50 [.agg (cellsE e), .v (.int .i64 (n)), .v (.int .i64 ((d : Nat) : Int))] (.v (.int .i64 (partsE e n d))) := by
  induction e using Ex.ind with
  | h e ih =>
    intro hz n hn hn2 d hd
    obtain ⟨z1, z2, z3, z4, z5, z6⟩ := szX_facts hz
    exact r_PartsS e hz n hn hn2 d hd (fun k hk => ih k hk (z6 k hk))
theorem r_SmallS (t : Ty) (hz : szT t = true) (vs : List Va) (hv : vs.length ≤ 140737488355328) (hvs : ∀ v ∈ vs, szV v = true) (ih : ∀ k ∈ t.elem, ACp Tryz.prog 51 [.agg (cellsT k), .list 4 []] (.v (.bool (smallT k)))) : ACp Tryz.prog 51 [.agg (cellsT t), .list 4 (vs.map encVa)] (.v (.bool (smallP t vs))) := by
 refine acp_of rfl ?_
 obtain ⟨u0, u1, u2, u3⟩ := szT_facts hz
 refine ac_enter 65 Tryz.func51 rfl rfl (by simp) ?_
 refine aw_seq ?_
 refine aw_region ?_
 (refine al_opR (op_box 2 rfl rfl (by first | rfl | exact live_one rfl | (repeat (first | exact all_live_nil | refine all_live_clo rfl ?_ | refine all_live_slice rfl ?_ | refine all_live_map rfl ?_ | refine all_live_ptr rfl ?_)))) rfl (by simp) ?_; rintro _ _ ⟨ver2, rfl, rfl⟩)
 refine al_op (op_assign rfl) rfl (by simp) ?_
 refine al_nil ?_
 refine aw_seq ?_
 refine aw_seq ?_
 refine aw_region ?_
 refine al_op (op_field_ptr Tryz.underlying35 rfl info9 (by decide) rfl rfl rfl) rfl (by simp) ?_
 refine al_op (op_load_ptr Tryz.underlying9 info9 rfl rfl rfl rfl) rfl (by simp) ?_
 refine al_op (op_slen_str (ts := #[]) Tryz.underlying9 rfl) rfl (by simp) ?_
 refine al_op (op_gtr rfl rfl) rfl (by simp) ?_
 refine al_op (op_move rfl) rfl (by simp) ?_
 apply al_or 5 15 20 rfl
 ·intro h1; have gh1 := h1
  try simp only [nrm] at h1
  refine al_take (op_field_ptr Tryz.underlying35 rfl info32 (by decide) rfl rfl rfl) rfl rfl rfl rfl (by simp) ?_
  refine al_take (op_load_ptr Tryz.underlying32 info32 rfl rfl rfl rfl) rfl rfl rfl rfl (by simp) ?_
  refine al_take (op_len_map Tryz.underlying32 rfl) rfl rfl rfl rfl (by simp) ?_
  refine al_take (op_gtr rfl rfl) rfl rfl rfl rfl (by simp) ?_
  refine al_op (op_pick rfl rfl) rfl (by simp) ?_
  refine al_nil ⟨rfl, rfl, rfl, keep_of ?_⟩
  repeat (first | exact subx_refl | exact subx_known rfl gh1 subx_refl | refine subx_put rfl ?_)
 ·intro h1; have gh1 := h1
  try simp only [nrm] at h1
  refine al_pass rfl rfl rfl rfl (by simp) ?_
  refine al_pass rfl rfl rfl rfl (by simp) ?_
  refine al_pass rfl rfl rfl rfl (by simp) ?_
  refine al_pass rfl rfl rfl rfl (by simp) ?_
  refine al_op (op_pick rfl rfl) rfl (by simp) ?_
  refine al_nil ⟨rfl, rfl, rfl, keep_of ?_⟩
  repeat (first | exact subx_refl | exact subx_known rfl gh1 subx_refl | refine subx_put rfl ?_)
 refine al_op (op_move rfl) rfl (by simp) ?_
 apply al_or 5 21 26 rfl
 ·intro h2; have gh2 := h2
  try simp only [nrm] at h2
  refine al_take (op_field_ptr Tryz.underlying35 rfl info33 (by decide) rfl rfl rfl) rfl rfl rfl rfl (by simp) ?_
  refine al_take (op_load_ptr Tryz.underlying33 info33 rfl rfl rfl rfl) rfl rfl rfl rfl (by simp) ?_
  refine al_take (op_len_map Tryz.underlying33 rfl) rfl rfl rfl rfl (by simp) ?_
  refine al_take (op_gtr rfl rfl) rfl rfl rfl rfl (by simp) ?_
  refine al_op (op_pick rfl rfl) rfl (by simp) ?_
  refine al_nil ⟨rfl, rfl, rfl, keep_of ?_⟩
  repeat (first | exact subx_refl | exact subx_known rfl gh2 subx_refl | refine subx_put rfl ?_)
 ·intro h2; have gh2 := h2
  try simp only [nrm] at h2
  refine al_pass rfl rfl rfl rfl (by simp) ?_
  refine al_pass rfl rfl rfl rfl (by simp) ?_
  refine al_pass rfl rfl rfl rfl (by simp) ?_
  refine al_pass rfl rfl rfl rfl (by simp) ?_
  refine al_op (op_pick rfl rfl) rfl (by simp) ?_
  refine al_nil ⟨rfl, rfl, rfl, keep_of ?_⟩
  repeat (first | exact subx_refl | exact subx_known rfl gh2 subx_refl | refine subx_put rfl ?_)
 refine al_nil ?_
 refine aw_cond rfl (fun h3 => ?_) (fun h3 => ?_)
 ·have gh3 := h3
  try simp only [nrm] at h3
  refine aw_seq ?_
  refine aw_region ?_
  refine al_op (op_assign rfl) rfl (by simp) ?_
  refine al_nil ?_
  refine aw_freeze (fun _ => false) (fsub_cons (t := 4) rfl (.leaf _ _ (.same _)) fsub_nil) ?_
  refine aw_ret ?_
  refine ⟨_, res_1 rfl rfl, ?_, rfl⟩
  rw [small_no1 gh3]
 ·have gh3 := h3
  try simp only [nrm] at h3
  refine aw_skip ?_
  refine aw_seq ?_
  refine aw_seq ?_
  refine aw_region ?_
  refine al_op (op_field_ptr Tryz.underlying35 rfl info32 (by decide) rfl rfl rfl) rfl (by simp) ?_
  refine al_op (op_load_ptr Tryz.underlying32 info32 rfl rfl rfl rfl) rfl (by simp) ?_
  refine al_op (op_len_map Tryz.underlying32 rfl) rfl (by simp) ?_
  refine al_op (op_move rfl) rfl (by simp) ?_
  refine al_nil ?_
  refine aw_block ?_
  refine aw_forT (ι := Nat) [4, 30] [] (fun i => t.names.length - i) (fun i => i ≤ t.names.length ∧ ∀ k, k < i → (fun k => decide (100 < ((t.names.getD k default).length : Int))) k = false) (fun i => ([(30, .v (.int .i64 ((i : Nat) : Int)))] : Env)) (fun i s => s) (0) ?_ ?_ ?_ (fun i hinv => ?_)
  ·exact ⟨Nat.zero_le _, fun k hk => absurd hk (Nat.not_lt_zero k)⟩
  ·refine sub_cons (get_as rfl ?_) ?_; rotate_left; exact sub_nil
   all_goals (first | rfl | simp)
  ·rfl
  have hi := hinv.1
  
  refine aw_seq ?_
  refine aw_region ?_
  refine al_op (op_lss rfl rfl) rfl (by simp) ?_
  refine al_nil ?_
  refine aw_seq ?_
  refine aw_cond rfl (fun h4 => ?_) (fun h4 => ?_)
  ·have gh4 := h4
   try simp only [nrm] at h4
   refine aw_skip ?_
   refine aw_seq ?_
   refine aw_block ?_
   refine aw_seq ?_
   refine aw_region ?_
   refine al_op (op_index_map default Tryz.underlying32 info9 rfl rfl rfl (by first | (with_reducible exact Int.toNat_natCast _) | rfl) (by omega) (by omega)) rfl (by simp) ?_
   refine al_op (op_load_rptr Tryz.underlying9 info9 rfl rfl) rfl (by simp) ?_
   refine al_op (op_assign rfl) rfl (by simp) ?_
   refine al_nil ?_
   refine aw_seq ?_
   refine aw_region ?_
   refine al_op (op_move rfl) rfl (by simp) ?_
   refine al_op (op_slen_str (ts := #[]) Tryz.underlying9 rfl) rfl (by simp) ?_
   refine al_op (op_gtr rfl rfl) rfl (by simp) ?_
   refine al_nil ?_
   refine aw_cond rfl (fun h5 => ?_) (fun h5 => ?_)
   ·have gh5 := h5
    try simp only [nrm] at h5
    refine aw_seq ?_
    refine aw_region ?_
    refine al_op (op_assign rfl) rfl (by simp) ?_
    refine al_nil ?_
    refine aw_freeze (fun _ => false) (fsub_cons (t := 4) rfl (.leaf _ _ (.same _)) fsub_nil) ?_
    refine aw_ret ?_
    refine ⟨_, res_1 rfl rfl, ?_, rfl⟩
    rw [small_no2 i (by omega) gh5]
   ·have gh5 := h5
    try simp only [nrm] at h5
    refine aw_skip ?_
    refine aw_region ?_
    refine al_op (op_add rfl rfl (by first | exact wrap_i64 (by omega) (by omega))) rfl (by simp) ?_
    refine al_op (op_move rfl) rfl (by simp) ?_
    refine al_nil ?_
    refine ⟨i + 1, ?_, ?_, ?_, ?_, ?_⟩
    ·omega
    ·exact ⟨by omega, idx_more (p := fun k => decide (100 < ((t.names.getD k default).length : Int))) hinv.2 gh5⟩
    ·refine sub_cons (get_as rfl ?_) ?_; rotate_left; exact sub_nil
     all_goals (first | rfl | simp)
    ·repeat (first | exact subx_refl | exact subx_del | refine subx_put rfl ?_)
    ·rfl
  ·have gh4 := h4
   try simp only [nrm] at h4
   refine aw_exit ?_
   have hn1 := hinv.2
   have hi1 : i = t.names.length := by omega
   refine aw_seq ?_
   refine aw_seq ?_
   refine aw_region ?_
   refine al_op (op_field_ptr Tryz.underlying35 rfl info33 (by decide) rfl rfl rfl) rfl (by simp) ?_
   refine al_op (op_load_ptr Tryz.underlying33 info33 rfl rfl rfl rfl) rfl (by simp) ?_
   refine al_op (op_len_map Tryz.underlying33 rfl) rfl (by simp) ?_
   refine al_op (op_move rfl) rfl (by simp) ?_
   refine al_nil ?_
   refine aw_block ?_
   refine aw_forT (ι := Nat) [4, 41] [8] (fun j => t.elem.length - j) (fun j => j ≤ t.elem.length ∧ ∀ k, k < j → (fun k => (decide (2 < ((t.elem.getD k default).elem.length : Int)) || !(smallT (t.elem.getD k default)))) k = false) (fun j => ([(41, .v (.int .i64 ((j : Nat) : Int)))] : Env)) (fun j s => s) (0) ?_ ?_ ?_ (fun j hinv => ?_)
   ·exact ⟨Nat.zero_le _, fun k hk => absurd hk (Nat.not_lt_zero k)⟩
   ·refine sub_cons (get_as rfl ?_) ?_; rotate_left; exact sub_nil
    all_goals (first | rfl | simp)
   ·rfl
   have hi := hinv.1
   
   refine aw_seq ?_
   refine aw_region ?_
   refine al_op (op_lss rfl rfl) rfl (by simp) ?_
   refine al_nil ?_
   refine aw_seq ?_
   refine aw_cond rfl (fun h6 => ?_) (fun h6 => ?_)
   ·have gh6 := h6
    try simp only [nrm] at h6
    refine aw_skip ?_
    refine aw_seq ?_
    refine aw_block ?_
    refine aw_seq ?_
    refine aw_region ?_
    refine al_op (val_as (.rptr (cellsT (t.elem.getD j default))) (op_index_map default Tryz.underlying33 info35 rfl rfl rfl (by first | (with_reducible exact Int.toNat_natCast _) | rfl) (by omega) (by omega)) (by exact congrArg AVal.rptr (encTy_cells _))) rfl (by simp) ?_
    refine al_op (op_load_rptr Tryz.underlying35 info35 rfl rfl) rfl (by simp) ?_
    (refine al_opR (op_alloc 8 info35 rfl rfl) rfl (by simp) ?_; rintro _ _ ⟨ver8, rfl, rfl⟩)
    refine al_op (op_store_ptr info35 rfl rfl rfl rfl rfl rfl (by first | rfl | exact live_one rfl | (repeat (first | exact all_live_nil | refine all_live_clo rfl ?_ | refine all_live_slice rfl ?_ | refine all_live_map rfl ?_ | refine all_live_ptr rfl ?_))) (Nat.le_of_ble_eq_true rfl)) rfl (by simp) ?_
    refine al_nil ?_
    refine aw_seq ?_
    refine aw_region ?_
    refine al_op (op_field_ptr Tryz.underlying35 rfl info33 (by decide) rfl rfl rfl) rfl (by simp) ?_
    refine al_op (op_load_ptr Tryz.underlying33 info33 rfl rfl rfl rfl) rfl (by simp) ?_
    refine al_op (op_len_map Tryz.underlying33 rfl) rfl (by simp) ?_
    refine al_op (op_gtr rfl rfl) rfl (by simp) ?_
    refine al_op (op_move rfl) rfl (by simp) ?_
    apply al_or 4 49 53 rfl
    ·intro h7; have gh7 := h7
     try simp only [nrm] at h7
     refine al_take (op_load_ptr Tryz.underlying35 info35 rfl rfl rfl rfl) rfl rfl rfl rfl (by simp) ?_
     refine al_callp_take into51 rfl rfl rfl rfl rfl rfl (acp_lent (lend_cons lend_same (lend_cons (.leaf _ _ (.vnil _)) lend_nil)) (ih (t.elem.getD j default) (getD_mem (by omega))) rfl) (by simp) ?_
     refine al_take (op_not rfl) rfl rfl rfl rfl (by simp) ?_
     refine al_op (op_pick rfl rfl) rfl (by simp) ?_
     refine al_nil ⟨rfl, rfl, rfl, keep_of ?_⟩
     repeat (first | exact subx_refl | exact subx_known rfl gh7 subx_refl | refine subx_put rfl ?_)
    ·intro h7; have gh7 := h7
     try simp only [nrm] at h7
     refine al_pass rfl rfl rfl rfl (by simp) ?_
     refine al_pass rfl rfl rfl rfl (by simp) ?_
     refine al_pass rfl rfl rfl rfl (by simp) ?_
     refine al_op (op_pick rfl rfl) rfl (by simp) ?_
     refine al_nil ⟨rfl, rfl, rfl, keep_of ?_⟩
     repeat (first | exact subx_refl | exact subx_known rfl gh7 subx_refl | refine subx_put rfl ?_)
    refine al_nil ?_
    refine aw_cond rfl (fun h8 => ?_) (fun h8 => ?_)
    ·have gh8 := h8
     try simp only [nrm] at h8
     refine aw_seq ?_
     refine aw_region ?_
     refine al_op (op_assign rfl) rfl (by simp) ?_
     refine al_nil ?_
     refine aw_freeze (fun _ => false) (fsub_cons (t := 4) rfl (.leaf _ _ (.same _)) fsub_nil) ?_
     refine aw_ret ?_
     refine ⟨_, res_1 rfl rfl, ?_, rfl⟩
     rw [small_no3 j (by omega) gh8]
    ·have gh8 := h8
     try simp only [nrm] at h8
     refine aw_skip ?_
     refine aw_region ?_
     refine al_op (op_add rfl rfl (by first | exact wrap_i64 (by omega) (by omega))) rfl (by simp) ?_
     refine al_op (op_move rfl) rfl (by simp) ?_
     refine al_nil ?_
     refine ⟨j + 1, ?_, ?_, ?_, ?_, ?_⟩
     ·omega
     ·exact ⟨by omega, idx_more (p := fun k => (decide (2 < ((t.elem.getD k default).elem.length : Int)) || !(smallT (t.elem.getD k default)))) hinv.2 gh8⟩
     ·refine sub_cons (get_as rfl ?_) ?_; rotate_left; exact sub_nil
      all_goals (first | rfl | simp)
     ·repeat (first | exact subx_refl | exact subx_del | refine subx_put rfl ?_)
     ·rfl
   ·have gh6 := h6
    try simp only [nrm] at h6
    refine aw_exit ?_
    have hn2 := hinv.2
    have hj1 : j = t.elem.length := by omega
    refine aw_seq ?_
    refine aw_seq ?_
    refine aw_region ?_
    refine al_op (op_move rfl) rfl (by simp) ?_
    refine al_op (op_len_map Tryz.underlying28 rfl) rfl (by simp) ?_
    refine al_op (op_move rfl) rfl (by simp) ?_
    refine al_nil ?_
    refine aw_block ?_
    refine aw_forT (ι := Nat) [4, 57] [10] (fun m => vs.length - m) (fun m => m ≤ vs.length ∧ ∀ k, k < m → (fun k => decide (partsV (vs.getD k default) 9000 < 0)) k = false) (fun m => ([(57, .v (.int .i64 ((m : Nat) : Int)))] : Env)) (fun m s => s) (0) ?_ ?_ ?_ (fun m hinv => ?_)
    ·exact ⟨Nat.zero_le _, fun k hk => absurd hk (Nat.not_lt_zero k)⟩
    ·refine sub_cons (get_as rfl ?_) ?_; rotate_left; exact sub_nil
     all_goals (first | rfl | simp)
    ·rfl
    have hi := hinv.1
    
    refine aw_seq ?_
    refine aw_region ?_
    refine al_op (op_lss rfl rfl) rfl (by simp) ?_
    refine al_nil ?_
    refine aw_seq ?_
    refine aw_cond rfl (fun h9 => ?_) (fun h9 => ?_)
    ·have gh9 := h9
     try simp only [nrm] at h9
     refine aw_skip ?_
     refine aw_seq ?_
     refine aw_block ?_
     refine aw_seq ?_
     refine aw_region ?_
     refine al_op (val_as (.rptr (cellsV (vs.getD m default))) (op_index_map default Tryz.underlying28 info30 rfl rfl rfl (by first | (with_reducible exact Int.toNat_natCast _) | rfl) (by omega) (by omega)) (by exact congrArg AVal.rptr (encVa_cells _))) rfl (by simp) ?_
     refine al_op (op_load_rptr Tryz.underlying30 info30 rfl rfl) rfl (by simp) ?_
     (refine al_opR (op_alloc 10 info30 rfl rfl) rfl (by simp) ?_; rintro _ _ ⟨ver10, rfl, rfl⟩)
     refine al_op (op_store_ptr info30 rfl rfl rfl rfl rfl rfl (by first | rfl | exact live_one rfl | (repeat (first | exact all_live_nil | refine all_live_clo rfl ?_ | refine all_live_slice rfl ?_ | refine all_live_map rfl ?_ | refine all_live_ptr rfl ?_))) (Nat.le_of_ble_eq_true rfl)) rfl (by simp) ?_
     refine al_nil ?_
     refine aw_seq ?_
     refine aw_region ?_
     refine al_op (op_load_ptr Tryz.underlying30 info30 rfl rfl rfl rfl) rfl (by simp) ?_
     refine al_callp into100 rfl rfl rfl (r_parts (vs.getD m default) (hvs _ (getD_mem (by omega))) 9000 (by omega) (by omega) _) (by simp) ?_
     refine al_op (op_lss rfl rfl) rfl (by simp) ?_
     refine al_nil ?_
     refine aw_cond rfl (fun h10 => ?_) (fun h10 => ?_)
     ·have gh10 := h10
      try simp only [nrm] at h10
      refine aw_seq ?_
      refine aw_region ?_
      refine al_op (op_assign rfl) rfl (by simp) ?_
      refine al_nil ?_
      refine aw_freeze (fun _ => false) (fsub_cons (t := 4) rfl (.leaf _ _ (.same _)) fsub_nil) ?_
      refine aw_ret ?_
      refine ⟨_, res_1 rfl rfl, ?_, rfl⟩
      rw [small_no4 m (by omega) gh10]
     ·have gh10 := h10
      try simp only [nrm] at h10
      refine aw_skip ?_
      refine aw_region ?_
      refine al_op (op_add rfl rfl (by first | exact wrap_i64 (by omega) (by omega))) rfl (by simp) ?_
      refine al_op (op_move rfl) rfl (by simp) ?_
      refine al_nil ?_
      refine ⟨m + 1, ?_, ?_, ?_, ?_, ?_⟩
      ·omega
      ·exact ⟨by omega, idx_more (p := fun k => decide (partsV (vs.getD k default) 9000 < 0)) hinv.2 gh10⟩
      ·refine sub_cons (get_as rfl ?_) ?_; rotate_left; exact sub_nil
       all_goals (first | rfl | simp)
      ·repeat (first | exact subx_refl | exact subx_del | refine subx_put rfl ?_)
      ·rfl
    ·have gh9 := h9
     try simp only [nrm] at h9
     refine aw_exit ?_
     refine aw_seq ?_
     refine aw_region ?_
     refine al_op (op_assign rfl) rfl (by simp) ?_
     refine al_nil ?_
     refine aw_freeze (fun _ => false) (fsub_cons (t := 4) rfl (.leaf _ _ (.same _)) fsub_nil) ?_
     refine aw_ret ?_
     refine ⟨_, res_1 rfl rfl, ?_, rfl⟩
     rw [small_yes gh3 (fun k hk => hn1 k (by omega)) (fun k hk => hn2 k (by omega)) (fun k hk => hinv.2 k (by omega))]
theorem r_SmallN (t : Ty) : szT t = true → ACp Tryz.prog 51 [.agg (cellsT t), .list 4 []] (.v (.bool (smallT t))) := by
  induction t using Ty.ind with
  | h t ih =>
    intro hz
    obtain ⟨u0, u1, u2, u3⟩ := szT_facts hz
    rw [← smallP_nil]
    exact r_SmallS t hz [] (by simp) (by simp) (fun k hk => ih k hk (u3 k hk))
theorem r_Small (t : Ty) (hz : szT t = true) (vs : List Va) (hv : vs.length ≤ 140737488355328) (hvs : ∀ v ∈ vs, szV v = true) : ACp Tryz.prog 51 [.agg (cellsT t), .list 4 ((vs).map encVa)] (.v (.bool (smallP t vs))) := by
  obtain ⟨u0, u1, u2, u3⟩ := szT_facts hz
  exact r_SmallS t hz vs hv hvs (fun k hk => r_SmallN k (u3 k hk))
end Go.Proofs.YtcgdlhkiecommaaGreatDoor

/- Printed walks (gen.py, lexer_ann.py): part 426. -/


set_option linter.unusedVariables false
set_option linter.unusedSimpArgs false
set_option maxRecDepth 20000
set_option maxHeartbeats 40000000
namespace Go.Proofs.YtcgdlhkiecommaaGreatDoor
open Go
theorem r_Few (l : List Ex) (hl : l.length ≤ 140737488355328) (hz : ∀ e ∈ l, szX e = true) : ACp Tryz.prog 22 [.list 16 ((l).map encE)] (.v (.bool (fewP l 3000))) := by
 refine acp_of rfl ?_
 have hB : loP = (-4503599627370496 : Int) := rfl
 refine ac_enter 27 Tryz.func22 rfl rfl (by simp) ?_
 refine aw_seq ?_
 refine aw_region ?_
 refine al_op (op_assign rfl) rfl (by simp) ?_
 refine al_nil ?_
 refine aw_seq ?_
 refine aw_region ?_
 refine al_op (op_assign rfl) rfl (by simp) ?_
 refine al_nil ?_
 refine aw_seq ?_
 refine aw_seq ?_
 refine aw_region ?_
 refine al_op (op_move rfl) rfl (by simp) ?_
 refine al_op (op_len_map Tryz.underlying31 rfl) rfl (by simp) ?_
 refine al_op (op_move rfl) rfl (by simp) ?_
 refine al_nil ?_
 refine aw_block ?_
 refine aw_for2T (α := Nat) (β := Int) [2, 3, 8] [5] (fun i m => l.length - i) (fun i m => i ≤ l.length ∧ (0 ≤ m ∧ m ≤ 3000) ∧ fewP (l.drop i) m = fewP l 3000) (fun i m => ([(3, .v (.int .i64 (m))), (8, .v (.int .i64 ((i : Nat) : Int)))] : Env)) (fun i m s => s) (0) (3000) ?_ ?_ ?_ (fun i m hinv => ?_)
 ·exact ⟨Nat.zero_le _, ⟨by omega, by omega⟩, rfl⟩
 ·refine sub_cons (get_as rfl ?_) ?_; rotate_left; refine sub_cons (get_as rfl ?_) ?_; rotate_left; exact sub_nil
  all_goals (first | rfl | simp)
 ·rfl
 obtain ⟨hi, ⟨hm1, hm2⟩, hpe⟩ := hinv
 refine aw_seq ?_
 refine aw_region ?_
 refine al_op (op_lss rfl rfl) rfl (by simp) ?_
 refine al_nil ?_
 refine aw_seq ?_
 refine aw_cond rfl (fun h1 => ?_) (fun h1 => ?_)
 ·have gh1 := h1
  try simp only [nrm] at h1
  have he : szX (l.getD i default) = true := hz _ (getD_mem (by omega))
  obtain ⟨e1, e2, e3, e4, e5, e6⟩ := szX_facts he
  have hq := partsE_in (l.getD i default) he m 0 (by omega)
  refine aw_skip ?_
  refine aw_seq ?_
  refine aw_block ?_
  refine aw_seq ?_
  refine aw_region ?_
  refine al_op (val_as (.rptr (cellsE (l.getD i default))) (op_index_map default Tryz.underlying31 info37 rfl rfl rfl (by first | (with_reducible exact Int.toNat_natCast _) | rfl) (by omega) (by omega)) (by exact congrArg AVal.rptr (encE_cells _))) rfl (by simp) ?_
  refine al_op (op_load_rptr Tryz.underlying37 info37 rfl rfl) rfl (by simp) ?_
  (refine al_opR (op_alloc 5 info37 rfl rfl) rfl (by simp) ?_; rintro _ _ ⟨ver5, rfl, rfl⟩)
  refine al_op (op_store_ptr info37 rfl rfl rfl rfl rfl rfl (by first | rfl | exact live_one rfl | (repeat (first | exact all_live_nil | refine all_live_clo rfl ?_ | refine all_live_slice rfl ?_ | refine all_live_map rfl ?_ | refine all_live_ptr rfl ?_))) (Nat.le_of_ble_eq_true rfl)) rfl (by simp) ?_
  refine al_nil ?_
  refine aw_seq ?_
  refine aw_region ?_
  refine al_op (op_load_ptr Tryz.underlying37 info37 rfl rfl rfl rfl) rfl (by simp) ?_
  refine al_op (op_move rfl) rfl (by simp) ?_
  refine al_callp into50 rfl rfl rfl (r_Parts (l.getD i default) he m (by omega) (by omega) 0 (by omega) _) (by simp) ?_
  refine al_op (op_assign rfl) rfl (by simp) ?_
  refine al_nil ?_
  refine aw_seq ?_
  refine aw_region ?_
  refine al_op (op_move rfl) rfl (by simp) ?_
  refine al_op (op_lss rfl rfl) rfl (by simp) ?_
  refine al_op (op_move rfl) rfl (by simp) ?_
  apply al_or 8 17 25 rfl
  ·intro h2; have gh2 := h2
   try simp only [nrm] at h2
   refine al_take (op_field_ptr Tryz.underlying37 rfl info35 (by decide) rfl rfl rfl) rfl rfl rfl rfl (by simp) ?_
   refine al_take (op_load_ptr Tryz.underlying35 info35 rfl rfl rfl rfl) rfl rfl rfl rfl (by simp) ?_
   refine al_take (op_field_ptr Tryz.underlying37 rfl info30 (by decide) rfl rfl rfl) rfl rfl rfl rfl (by simp) ?_
   refine al_take (op_load_ptr Tryz.underlying30 info30 rfl rfl rfl rfl) rfl rfl rfl rfl (by simp) ?_
   refine al_take (op_list encVa [(l.getD i default).val] Tryz.underlying28 info30 rfl rfl (by decide) rfl (by decide) rfl (by first | rfl | (repeat (first | exact parts_nil | refine parts_cons rfl (by repeat (first | exact all_live_nil | refine all_live_clo rfl ?_ | refine all_live_slice rfl ?_ | refine all_live_map rfl ?_ | refine all_live_ptr rfl ?_)) ?_))) rfl rfl rfl (vals1 _)) rfl rfl rfl rfl (by simp) ?_
   refine al_callp_take into51 rfl rfl rfl rfl rfl rfl (r_Small (l.getD i default).type e5 [(l.getD i default).val] (by simp) (fun v hv => by rw [List.mem_singleton.1 hv]; exact e4) _) (by simp) ?_
   refine al_take (op_not rfl) rfl rfl rfl rfl (by simp) ?_
   refine al_op (op_pick rfl rfl) rfl (by simp) ?_
   refine al_nil ⟨rfl, rfl, rfl, keep_of ?_⟩
   repeat (first | exact subx_refl | exact subx_known rfl gh2 subx_refl | refine subx_put rfl ?_)
  ·intro h2; have gh2 := h2
   try simp only [nrm] at h2
   refine al_pass rfl rfl rfl rfl (by simp) ?_
   refine al_pass rfl rfl rfl rfl (by simp) ?_
   refine al_pass rfl rfl rfl rfl (by simp) ?_
   refine al_pass rfl rfl rfl rfl (by simp) ?_
   refine al_pass rfl rfl rfl rfl (by simp) ?_
   refine al_pass rfl rfl rfl rfl (by simp) ?_
   refine al_pass rfl rfl rfl rfl (by simp) ?_
   refine al_op (op_pick rfl rfl) rfl (by simp) ?_
   refine al_nil ⟨rfl, rfl, rfl, keep_of ?_⟩
   repeat (first | exact subx_refl | exact subx_known rfl gh2 subx_refl | refine subx_put rfl ?_)
  refine al_nil ?_
  refine aw_cond rfl (fun h3 => ?_) (fun h3 => ?_)
  ·have gh3 := h3
   try simp only [nrm] at h3
   refine aw_seq ?_
   refine aw_region ?_
   refine al_op (op_assign rfl) rfl (by simp) ?_
   refine al_nil ?_
   refine aw_freeze (fun _ => false) (fsub_cons (t := 2) rfl (.leaf _ _ (.same _)) fsub_nil) ?_
   refine aw_ret ?_
   refine ⟨_, res_1 rfl rfl, ?_, rfl⟩
   rw [← hpe, fewP_stop (by omega) gh3]
  ·have gh3 := h3
   try simp only [nrm] at h3
   refine aw_skip ?_
   refine aw_region ?_
   refine al_op (op_add rfl rfl (by first | exact wrap_i64 (by omega) (by omega))) rfl (by simp) ?_
   refine al_op (op_move rfl) rfl (by simp) ?_
   refine al_nil ?_
   refine ⟨i + 1, partsE (l.getD i default) m 0, ?_, ?_, ?_, ?_, ?_⟩
   ·omega
   ·exact ⟨by omega, ⟨by have := few_ge gh3; omega, by have := hq.2; omega⟩, by rw [← fewP_step (by omega) gh3]; exact hpe⟩
   ·refine sub_cons (get_as rfl ?_) ?_; rotate_left; refine sub_cons (get_as rfl ?_) ?_; rotate_left; exact sub_nil
    all_goals (first | rfl | simp)
   ·repeat (first | exact subx_refl | exact subx_del | refine subx_put rfl ?_)
   ·rfl
 ·have gh1 := h1
  try simp only [nrm] at h1
  refine aw_exit ?_
  refine aw_seq ?_
  refine aw_region ?_
  refine al_op (op_assign rfl) rfl (by simp) ?_
  refine al_nil ?_
  refine aw_freeze (fun _ => false) (fsub_cons (t := 2) rfl (.leaf _ _ (.same _)) fsub_nil) ?_
  refine aw_ret ?_
  refine ⟨_, res_1 rfl rfl, ?_, rfl⟩
  rw [← hpe, fewP_end (by omega)]
end Go.Proofs.YtcgdlhkiecommaaGreatDoor

/- Printed walks (gen.py, lexer_ann.py): part 427. -/


set_option linter.unusedVariables false
set_option linter.unusedSimpArgs false
set_option maxRecDepth 20000
set_option maxHeartbeats 40000000
namespace Go.Proofs.YtcgdlhkiecommaaGreatDoor
open Go
theorem l_ExprSames (a b : Ex) (ha : szX a = true) (hb : szX b = true) : ACp Tryz.prog 6 [.agg (cellsE (a)), .agg (cellsE (b))] (.v (.bool (true))) := by
 refine acp_of rfl ?_
 refine ac_enter 35 Tryz.func6 rfl rfl (by simp) ?_
 refine aw_seq ?_
 refine aw_region ?_
 (refine al_opR (op_box 2 rfl rfl (by first | rfl | exact live_one rfl | (repeat (first | exact all_live_nil | refine all_live_clo rfl ?_ | refine all_live_slice rfl ?_ | refine all_live_map rfl ?_ | refine all_live_ptr rfl ?_)))) rfl (by simp) ?_; rintro _ _ ⟨ver2, rfl, rfl⟩)
 (refine al_opR (op_box 3 rfl rfl (by first | rfl | exact live_one rfl | (repeat (first | exact all_live_nil | refine all_live_clo rfl ?_ | refine all_live_slice rfl ?_ | refine all_live_map rfl ?_ | refine all_live_ptr rfl ?_)))) rfl (by simp) ?_; rintro _ _ ⟨ver3, rfl, rfl⟩)
 refine al_op (op_assign rfl) rfl (by simp) ?_
 refine al_nil ?_
 refine aw_seq ?_
 refine aw_seq ?_
 refine aw_region ?_
 refine al_op (op_load_ptr Tryz.underlying37 info37 rfl rfl rfl rfl) rfl (by simp) ?_
 refine al_op (op_load_ptr Tryz.underlying37 info37 rfl rfl rfl rfl) rfl (by simp) ?_
 refine al_op (op_list encE [a, b] Tryz.underlying31 info37 rfl rfl (by decide) rfl (by decide) rfl (by first | rfl | (repeat (first | exact parts_nil | refine parts_cons rfl (by repeat (first | exact all_live_nil | refine all_live_clo rfl ?_ | refine all_live_slice rfl ?_ | refine all_live_map rfl ?_ | refine all_live_ptr rfl ?_)) ?_))) rfl rfl rfl (kids2 _ _)) rfl (by simp) ?_
 refine al_callp into22 rfl rfl rfl (r_Few [a, b] (by simp) (fun e he => by rcases List.mem_cons.1 he with rfl | he; exact ha; rw [List.mem_singleton.1 he]; exact hb) _) (by simp) ?_
 refine al_op (op_not rfl) rfl (by simp) ?_
 refine al_nil ?_
 refine aw_cond rfl (fun h1 => ?_) (fun h1 => ?_)
 ·have gh1 := h1
  try simp only [nrm] at h1
  refine aw_seq ?_
  refine aw_region ?_
  refine al_callp into12 rfl rfl rfl (l_awake _) (by simp) ?_
  refine al_op (op_assign rfl) rfl (by simp) ?_
  refine al_nil ?_
  refine aw_freeze (fun _ => false) (fsub_cons (t := 4) rfl (.leaf _ _ (.same _)) fsub_nil) ?_
  refine aw_ret ?_
  refine ⟨_, res_1 rfl rfl, ?_, rfl⟩
  rfl
 ·have gh1 := h1
  try simp only [nrm] at h1
  refine aw_skip ?_
  refine aw_seq ?_
  refine aw_any (Checked.mixed Tryz.checked) ?_
  apply aany_seg (p := 0) (q := 25) (by kernel_rfl) rfl (by decide)
  ·
   apply ql_plain rfl (op_load_ptr Tryz.underlying37 info37 rfl rfl rfl rfl)
   apply ql_plain rfl (op_load_ptr Tryz.underlying37 info37 rfl rfl rfl rfl)
   apply ql_call into35 rfl rfl rfl (e_same a b ha hb _)
   apply ql_plain rfl (op_load_ptr Tryz.underlying37 info37 rfl rfl rfl rfl)
   apply ql_plain rfl (op_load_ptr Tryz.underlying37 info37 rfl rfl rfl rfl)
   apply ql_call into36 rfl rfl rfl (r_sameE a b ha hb _)
   apply ql_plain rfl (op_beql Tryz.underlying4 rfl rfl)
   apply ql_plain rfl (val_as (.v (.bool true)) (op_move rfl) (by simp))
   apply ql_take rfl rfl rfl rfl (op_load_ptr Tryz.underlying37 info37 rfl rfl rfl rfl)
   apply ql_take rfl rfl rfl rfl (op_load_ptr Tryz.underlying37 info37 rfl rfl rfl rfl)
   apply ql_call_take into35 rfl rfl rfl rfl rfl rfl (e_same b a hb ha _)
   apply ql_take rfl rfl rfl rfl (op_load_ptr Tryz.underlying37 info37 rfl rfl rfl rfl)
   apply ql_take rfl rfl rfl rfl (op_load_ptr Tryz.underlying37 info37 rfl rfl rfl rfl)
   apply ql_call_take into35 rfl rfl rfl rfl rfl rfl (e_same a b ha hb _)
   apply ql_take rfl rfl rfl rfl (op_beql Tryz.underlying4 rfl rfl)
   apply ql_plain rfl (op_pick rfl rfl)
   apply ql_plain rfl (val_as (.v (.bool true)) (op_move rfl) (by simp [sameE_comm b a]))
   apply ql_take rfl rfl rfl rfl (op_load_ptr Tryz.underlying37 info37 rfl rfl rfl rfl)
   apply ql_take rfl rfl rfl rfl (op_load_ptr Tryz.underlying37 info37 rfl rfl rfl rfl)
   apply ql_call_take into35 rfl rfl rfl rfl rfl rfl (e_same a a ha ha _)
   apply ql_plain rfl (op_pick rfl rfl)
   apply ql_plain rfl (val_as (.v (.bool true)) (op_move rfl) (by rw [sameE_self]))
   apply ql_call_take into12 rfl rfl rfl rfl rfl rfl (l_awake _)
   apply ql_plain rfl (op_pick rfl rfl)
   apply ql_plain rfl (op_assign rfl)
   exact ql_nil
  ·simp
  refine aany_end rfl (by kernel_rfl) ?_
  refine aw_freeze (fun _ => false) (fsub_cons (t := 4) rfl (.leaf _ _ (.same _)) fsub_nil) ?_
  refine aw_ret ?_
  refine ⟨_, res_1 rfl rfl, ?_, rfl⟩
  rfl
end Go.Proofs.YtcgdlhkiecommaaGreatDoor
