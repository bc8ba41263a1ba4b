/- Printed walks (gen.py, lexer_ann.py): part 307. -/
import Derived.Test.YtbojpddejdmamaaGreatDoorW305
import Derived.Test.YtbojpddejdmamaaGreatDoorLLex
import Derived.Test.YtbojpddejdmamaaGreatDoorFacts
set_option linter.unusedVariables false
set_option linter.unusedSimpArgs false
set_option maxRecDepth 20000
set_option maxHeartbeats 40000000
namespace Go.Proofs.YtbojpddejdmamaaGreatDoor
open Go

theorem q_token (s : Bs) (hs : s.length ≤ 1000000000) (hpos : 0 < s.length) : AC Tryz.prog 17 [.v (.string (str (s)))] ([]) (fun r σ' => r = .ret (.tuple [.agg (tokCells s), .v (.int .i64 (((tokA s).2.2.2 : Nat) : Int))]) ∧ σ'.keep (fun _ => false) = []) := by
 have hsl : signsL.length = 18 := by decide
 refine ac_enter 139 Tryz.func17 rfl rfl (by simp) ?_
 refine aw_seq ?_
 refine aw_region ?_
 (refine al_opR (op_alloc 2 info40 rfl rfl) rfl (by simp) ?_; rintro _ _ ⟨ver2, rfl, rfl⟩)
 refine al_op (op_assign rfl) rfl (by simp) ?_
 refine al_nil ?_
 refine aw_seq ?_
 refine aw_seq ?_
 refine aw_region ?_
 refine al_op (op_move rfl) rfl (by simp) ?_
 refine al_op (op_sidx_str Tryz.underlying9 rfl rfl (by first | (with_reducible exact Int.toNat_natCast _) | rfl) (by omega) (by first | omega | (simp; omega))) rfl (by simp) ?_
 refine al_op (op_assign rfl) rfl (by simp) ?_
 refine al_nil ?_
 refine aw_block ?_
 refine aw_seq ?_
 refine aw_region ?_
 refine al_op (op_move rfl) rfl (by simp) ?_
 first
   | refine al_callp into30 rfl rfl rfl ((q_hasPrefix _ _) _) (by simp) ?_
   | refine al_callp into30 rfl rfl rfl (acp_lent (lend_cons (by first | exact lend_same | exact .leaf _ _ (.vnil _) | exact .leaf _ _ (.nil _) | exact lend_whole rfl (by first | rfl | (simp; done) | (simp; omega)) (clo_map (fun _ => rfl))) (lend_cons (by first | exact lend_same | exact .leaf _ _ (.vnil _) | exact .leaf _ _ (.nil _) | exact lend_whole rfl (by first | rfl | (simp; done) | (simp; omega)) (clo_map (fun _ => rfl))) lend_nil)) (q_hasPrefix _ _) rfl) (by simp) ?_
 refine al_op (op_assign rfl) rfl (by simp) ?_
 refine al_nil ?_
 refine aw_cond rfl (fun h1 => ?_) (fun h1 => ?_)
 ·have gh1 := h1
  try simp only [nrm] at h1
  refine aw_seq ?_
  refine aw_region ?_
  refine al_op (op_move rfl) rfl (by simp) ?_
  refine al_op (op_cut_from Tryz.underlying9 rfl (.of rfl (show _ = ((1 : Nat) : Int) from by omega)) (by first | omega | (simp; omega))) rfl (by simp) ?_
  first
    | refine al_callp into31 rfl rfl rfl ((c_quoted _ (by first | assumption | omega | (simp; done) | (simp; omega) | decide)) _) (by simp) ?_
    | refine al_callp into31 rfl rfl rfl (acp_lent (lend_cons (by first | exact lend_same | exact .leaf _ _ (.vnil _) | exact .leaf _ _ (.nil _) | exact lend_whole rfl (by first | rfl | (simp; done) | (simp; omega)) (clo_map (fun _ => rfl))) lend_nil) (c_quoted _ (by first | assumption | omega | (simp; done) | (simp; omega) | decide)) rfl) (by simp) ?_
  refine al_op (op_move rfl) rfl (by simp) ?_
  refine al_op (op_extract rfl rfl rfl) rfl (by simp) ?_
  refine al_op (op_extract rfl rfl rfl) rfl (by simp) ?_
  refine al_op (op_assign rfl) rfl (by simp) ?_
  refine al_op (op_assign rfl) rfl (by simp) ?_
  refine al_nil ?_
  refine aw_seq ?_
  refine aw_seq ?_
  have hq5 := cutQ_len (s := s.drop 1) (n := 1000000000) (by simp; omega)
  refine aw_region ?_
  refine al_op (op_move rfl) rfl (by simp) ?_
  first
    | refine al_callp into32 rfl rfl rfl ((c_parse _ (by first | assumption | omega | (simp; done) | (simp; omega) | decide)) _) (by simp) ?_
    | refine al_callp into32 rfl rfl rfl (ac_told (re_cons (by first | exact .leaf _ _ (.same _) | exact .leaf _ _ (.vnil _) | exact .leaf _ _ (.nil _)) re_nil) ((c_parse _ (by first | assumption | omega | (simp; done) | (simp; omega) | decide)) _)) (by simp) ?_
  refine al_op (op_move rfl) rfl (by simp) ?_
  refine al_op (op_extract rfl rfl rfl) rfl (by simp) ?_
  refine al_op (op_extract rfl rfl rfl) rfl (by simp) ?_
  refine al_op (op_assign rfl) rfl (by simp) ?_
  refine al_op (op_assign rfl) rfl (by simp) ?_
  refine al_nil ?_
  refine aw_seq ?_
  have hq5 := cutQ_len (s := s.drop 1) (n := 1000000000) (by simp; omega)
  refine aw_region ?_
  refine al_op (op_move rfl) rfl (by simp) ?_
  refine al_op (op_not rfl) rfl (by simp) ?_
  refine al_op (op_move rfl) rfl (by simp) ?_
  apply al_or 3 49 52 rfl
  ·intro h2; have gh2 := h2
   try simp only [nrm] at h2
   refine al_take (op_move rfl) rfl rfl rfl rfl (by simp) ?_
   refine al_take (op_neq rfl rfl) rfl rfl rfl rfl (by simp) ?_
   first
     | refine al_op (op_pick rfl rfl) rfl (by simp) ?_
     | refine al_op (op_or rfl rfl rfl) rfl (by simp) ?_
   refine al_nil ⟨rfl, rfl, rfl, keep_of ?_⟩
   repeat (first | exact subx_refl | exact subx_known rfl gh2 subx_refl | refine subx_put rfl ?_)
  ·intro h2; have gh2 := h2
   try simp only [nrm] at h2
   refine al_pass rfl rfl rfl rfl (by simp) ?_
   refine al_pass rfl rfl rfl rfl (by simp) ?_
   first
     | refine al_op (op_pick rfl rfl) rfl (by simp) ?_
     | refine al_op (op_or rfl rfl rfl) rfl (by simp) ?_
   refine al_nil ⟨rfl, rfl, rfl, keep_of ?_⟩
   repeat (first | exact subx_refl | exact subx_known rfl gh2 subx_refl | refine subx_put rfl ?_)
  refine al_nil ?_
  refine aw_cond rfl (fun h3 => ?_) (fun h3 => ?_)
  ·have gh3 := h3
   try simp only [nrm] at h3
   refine aw_seq ?_
   refine aw_region ?_
   first
     | refine al_op (op_load_rptr Tryz.underlying40 info40 rfl rfl) rfl (by simp) ?_
     | refine al_op (op_load_map Tryz.underlying40 info40 rfl rfl (by omega) rfl) rfl (by simp) ?_
     | refine al_op (op_load_ptr Tryz.underlying40 info40 rfl rfl rfl rfl) rfl (by simp) ?_
   first
     | refine al_op (op_store_ptr info40 rfl rfl rfl rfl rfl rfl (by first | rfl | exact live_one rfl | (repeat (first | exact all_live_nil | refine all_live_clo rfl ?_ | refine all_live_slice rfl ?_ | refine all_live_map rfl ?_ | refine all_live_ptr rfl ?_))) (by decide)) rfl (by simp) ?_
     | refine al_op (op_store_ptr info40 rfl rfl rfl rfl rfl rfl (by first | rfl | exact live_one rfl | (repeat (first | exact all_live_nil | refine all_live_clo rfl ?_ | refine all_live_slice rfl ?_ | refine all_live_map rfl ?_ | refine all_live_ptr rfl ?_))) (Nat.le_of_ble_eq_true rfl)) rfl (by simp) ?_
   refine al_op (op_assign rfl) rfl (by simp) ?_
   refine al_nil ?_
   refine aw_ret ?_
   refine ⟨_, res_cell_tmp rfl Tryz.underlying40 info40 rfl rfl rfl rfl rfl rfl rfl, ?_⟩
   exact ⟨(by rw [tokCells, tok_novec gh1 gh3]; rfl), rfl⟩
  ·have gh3 := h3
   try simp only [nrm] at h3
   refine aw_skip ?_
   refine aw_seq ?_
   refine aw_region ?_
   refine al_op (op_move rfl) rfl (by simp) ?_
   refine al_op (op_build_struct Tryz.underlying40 info40 rfl place40 rfl (by first | rfl | (repeat (first | exact parts_nil | refine parts_cons rfl (by repeat (first | exact all_live_nil | refine all_live_clo rfl ?_ | refine all_live_slice rfl ?_ | refine all_live_map rfl ?_ | refine all_live_ptr rfl ?_)) ?_))) rfl) rfl (by simp) ?_
   refine al_op (op_move rfl) rfl (by simp) ?_
   refine al_op (op_slen_str (ts := #[]) Tryz.underlying9 rfl) rfl (by simp) ?_
   refine al_op (op_add rfl rfl (by first | exact wrap_i64 (by omega) (by omega))) rfl (by simp) ?_
   first
     | refine al_op (op_store_ptr info40 rfl rfl rfl rfl rfl rfl (by first | rfl | exact live_one rfl | (repeat (first | exact all_live_nil | refine all_live_clo rfl ?_ | refine all_live_slice rfl ?_ | refine all_live_map rfl ?_ | refine all_live_ptr rfl ?_))) (by decide)) rfl (by simp) ?_
     | refine al_op (op_store_ptr info40 rfl rfl rfl rfl rfl rfl (by first | rfl | exact live_one rfl | (repeat (first | exact all_live_nil | refine all_live_clo rfl ?_ | refine all_live_slice rfl ?_ | refine all_live_map rfl ?_ | refine all_live_ptr rfl ?_))) (Nat.le_of_ble_eq_true rfl)) rfl (by simp) ?_
   refine al_op (op_assign rfl) rfl (by simp) ?_
   refine al_nil ?_
   refine aw_ret ?_
   refine ⟨_, res_cell_tmp rfl Tryz.underlying40 info40 rfl rfl rfl rfl rfl rfl rfl, ?_⟩
   exact ⟨(by rw [tokCells, tok_vec gh1 gh3]; rfl), rfl⟩
 ·have gh1 := h1
  try simp only [nrm] at h1
  refine aw_seq ?_
  refine aw_region ?_
  refine al_op (op_move rfl) rfl (by simp) ?_
  first
    | refine al_callp into26 rfl rfl rfl ((c_letter _) _) (by simp) ?_
    | refine al_callp into26 rfl rfl rfl (acp_lent (lend_cons (by first | exact lend_same | exact .leaf _ _ (.vnil _) | exact .leaf _ _ (.nil _) | exact lend_whole rfl (by first | rfl | (simp; done) | (simp; omega)) (clo_map (fun _ => rfl))) lend_nil) (c_letter _) rfl) (by simp) ?_
  refine al_op (op_assign rfl) rfl (by simp) ?_
  refine al_nil ?_
  refine aw_cond rfl (fun h4 => ?_) (fun h4 => ?_)
  ·have gh4 := h4
   try simp only [nrm] at h4
   refine aw_seq ?_
   refine aw_region ?_
   refine al_op (op_move rfl) rfl (by simp) ?_
   first
     | refine al_callp into33 rfl rfl rfl ((c_runpart _ (by first | assumption | omega | (simp; omega))) _) (by simp) ?_
     | refine al_callp into33 rfl rfl rfl (acp_lent (lend_cons (by first | exact lend_same | exact .leaf _ _ (.vnil _) | exact .leaf _ _ (.nil _) | exact lend_whole rfl (by first | rfl | (simp; done) | (simp; omega)) (clo_map (fun _ => rfl))) (lend_cons (by first | exact lend_same | exact .leaf _ _ (.vnil _) | exact .leaf _ _ (.nil _) | exact lend_whole rfl (by first | rfl | (simp; done) | (simp; omega)) (clo_map (fun _ => rfl))) lend_nil)) (c_runpart _ (by first | assumption | omega | (simp; omega))) rfl) (by simp) ?_
   refine al_op (op_assign rfl) rfl (by simp) ?_
   refine al_nil ?_
   refine aw_block ?_
   refine aw_seq ?_
   have hw5 := takeWhile_len isPartC s
   refine aw_region ?_
   refine al_op (op_move rfl) rfl (by simp) ?_
   first
     | refine al_callp into15 rfl rfl rfl ((c_isWord _ (by first | assumption | omega | (simp; done) | (simp; omega) | decide)) _) (by simp) ?_
     | refine al_callp into15 rfl rfl rfl (acp_lent (lend_cons (by first | exact lend_same | exact .leaf _ _ (.vnil _) | exact .leaf _ _ (.nil _) | exact lend_whole rfl (by first | rfl | (simp; done) | (simp; omega)) (clo_map (fun _ => rfl))) lend_nil) (c_isWord _ (by first | assumption | omega | (simp; done) | (simp; omega) | decide)) rfl) (by simp) ?_
   refine al_op (op_assign rfl) rfl (by simp) ?_
   refine al_nil ?_
   refine aw_cond rfl (fun h5 => ?_) (fun h5 => ?_)
   ·have gh5 := h5
    try simp only [nrm] at h5
    refine aw_seq ?_
    refine aw_region ?_
    refine al_op (op_move rfl) rfl (by simp) ?_
    refine al_op (op_build_struct Tryz.underlying40 info40 rfl place40 rfl (by first | rfl | (repeat (first | exact parts_nil | refine parts_cons rfl (by repeat (first | exact all_live_nil | refine all_live_clo rfl ?_ | refine all_live_slice rfl ?_ | refine all_live_map rfl ?_ | refine all_live_ptr rfl ?_)) ?_))) rfl) rfl (by simp) ?_
    refine al_op (op_move rfl) rfl (by simp) ?_
    refine al_op (op_slen_str (ts := #[]) Tryz.underlying9 rfl) rfl (by simp) ?_
    first
      | refine al_op (op_store_ptr info40 rfl rfl rfl rfl rfl rfl (by first | rfl | exact live_one rfl | (repeat (first | exact all_live_nil | refine all_live_clo rfl ?_ | refine all_live_slice rfl ?_ | refine all_live_map rfl ?_ | refine all_live_ptr rfl ?_))) (by decide)) rfl (by simp) ?_
      | refine al_op (op_store_ptr info40 rfl rfl rfl rfl rfl rfl (by first | rfl | exact live_one rfl | (repeat (first | exact all_live_nil | refine all_live_clo rfl ?_ | refine all_live_slice rfl ?_ | refine all_live_map rfl ?_ | refine all_live_ptr rfl ?_))) (Nat.le_of_ble_eq_true rfl)) rfl (by simp) ?_
    refine al_op (op_assign rfl) rfl (by simp) ?_
    refine al_nil ?_
    refine aw_ret ?_
    refine ⟨_, res_cell_tmp rfl Tryz.underlying40 info40 rfl rfl rfl rfl rfl rfl rfl, ?_⟩
    exact ⟨(by rw [tokCells, tok_word gh1 gh4 gh5]; rfl), rfl⟩
   ·have gh5 := h5
    try simp only [nrm] at h5
    refine aw_seq ?_
    refine aw_region ?_
    refine al_op (op_move rfl) rfl (by simp) ?_
    first
      | refine al_callp into14 rfl rfl rfl ((c_isName _ (by first | assumption | omega | (simp; done) | (simp; omega) | decide)) _) (by simp) ?_
      | refine al_callp into14 rfl rfl rfl (acp_lent (lend_cons (by first | exact lend_same | exact .leaf _ _ (.vnil _) | exact .leaf _ _ (.nil _) | exact lend_whole rfl (by first | rfl | (simp; done) | (simp; omega)) (clo_map (fun _ => rfl))) lend_nil) (c_isName _ (by first | assumption | omega | (simp; done) | (simp; omega) | decide)) rfl) (by simp) ?_
    refine al_op (op_assign rfl) rfl (by simp) ?_
    refine al_nil ?_
    refine aw_cond rfl (fun h6 => ?_) (fun h6 => ?_)
    ·have gh6 := h6
     try simp only [nrm] at h6
     refine aw_seq ?_
     refine aw_region ?_
     refine al_op (op_move rfl) rfl (by simp) ?_
     refine al_op (op_build_struct Tryz.underlying40 info40 rfl place40 rfl (by first | rfl | (repeat (first | exact parts_nil | refine parts_cons rfl (by repeat (first | exact all_live_nil | refine all_live_clo rfl ?_ | refine all_live_slice rfl ?_ | refine all_live_map rfl ?_ | refine all_live_ptr rfl ?_)) ?_))) rfl) rfl (by simp) ?_
     refine al_op (op_move rfl) rfl (by simp) ?_
     refine al_op (op_slen_str (ts := #[]) Tryz.underlying9 rfl) rfl (by simp) ?_
     first
       | refine al_op (op_store_ptr info40 rfl rfl rfl rfl rfl rfl (by first | rfl | exact live_one rfl | (repeat (first | exact all_live_nil | refine all_live_clo rfl ?_ | refine all_live_slice rfl ?_ | refine all_live_map rfl ?_ | refine all_live_ptr rfl ?_))) (by decide)) rfl (by simp) ?_
       | refine al_op (op_store_ptr info40 rfl rfl rfl rfl rfl rfl (by first | rfl | exact live_one rfl | (repeat (first | exact all_live_nil | refine all_live_clo rfl ?_ | refine all_live_slice rfl ?_ | refine all_live_map rfl ?_ | refine all_live_ptr rfl ?_))) (Nat.le_of_ble_eq_true rfl)) rfl (by simp) ?_
     refine al_op (op_assign rfl) rfl (by simp) ?_
     refine al_nil ?_
     refine aw_ret ?_
     refine ⟨_, res_cell_tmp rfl Tryz.underlying40 info40 rfl rfl rfl rfl rfl rfl rfl, ?_⟩
     exact ⟨(by rw [tokCells, tok_name gh1 gh4 gh5 gh6]; rfl), rfl⟩
    ·have gh6 := h6
     try simp only [nrm] at h6
     refine aw_skip ?_
     refine aw_seq ?_
     refine aw_region ?_
     first
       | refine al_op (op_load_rptr Tryz.underlying40 info40 rfl rfl) rfl (by simp) ?_
       | refine al_op (op_load_map Tryz.underlying40 info40 rfl rfl (by omega) rfl) rfl (by simp) ?_
       | refine al_op (op_load_ptr Tryz.underlying40 info40 rfl rfl rfl rfl) rfl (by simp) ?_
     first
       | refine al_op (op_store_ptr info40 rfl rfl rfl rfl rfl rfl (by first | rfl | exact live_one rfl | (repeat (first | exact all_live_nil | refine all_live_clo rfl ?_ | refine all_live_slice rfl ?_ | refine all_live_map rfl ?_ | refine all_live_ptr rfl ?_))) (by decide)) rfl (by simp) ?_
       | refine al_op (op_store_ptr info40 rfl rfl rfl rfl rfl rfl (by first | rfl | exact live_one rfl | (repeat (first | exact all_live_nil | refine all_live_clo rfl ?_ | refine all_live_slice rfl ?_ | refine all_live_map rfl ?_ | refine all_live_ptr rfl ?_))) (Nat.le_of_ble_eq_true rfl)) rfl (by simp) ?_
     refine al_op (op_assign rfl) rfl (by simp) ?_
     refine al_nil ?_
     refine aw_ret ?_
     refine ⟨_, res_cell_tmp rfl Tryz.underlying40 info40 rfl rfl rfl rfl rfl rfl rfl, ?_⟩
     exact ⟨(by rw [tokCells, tok_noname gh1 gh4 gh5 gh6]; rfl), rfl⟩
  ·have gh4 := h4
   try simp only [nrm] at h4
   refine aw_seq ?_
   refine aw_region ?_
   refine al_op (op_move rfl) rfl (by simp) ?_
   first
     | refine al_callp into34 rfl rfl rfl ((c_digit _) _) (by simp) ?_
     | refine al_callp into34 rfl rfl rfl (acp_lent (lend_cons (by first | exact lend_same | exact .leaf _ _ (.vnil _) | exact .leaf _ _ (.nil _) | exact lend_whole rfl (by first | rfl | (simp; done) | (simp; omega)) (clo_map (fun _ => rfl))) lend_nil) (c_digit _) rfl) (by simp) ?_
   refine al_op (op_assign rfl) rfl (by simp) ?_
   refine al_nil ?_
   refine aw_cond rfl (fun h7 => ?_) (fun h7 => ?_)
   ·have gh7 := h7
    try simp only [nrm] at h7
    refine aw_seq ?_
    refine aw_region ?_
    refine al_op (op_move rfl) rfl (by simp) ?_
    first
      | refine al_callp into33 rfl rfl rfl ((c_runpart _ (by first | assumption | omega | (simp; omega))) _) (by simp) ?_
      | refine al_callp into33 rfl rfl rfl (acp_lent (lend_cons (by first | exact lend_same | exact .leaf _ _ (.vnil _) | exact .leaf _ _ (.nil _) | exact lend_whole rfl (by first | rfl | (simp; done) | (simp; omega)) (clo_map (fun _ => rfl))) (lend_cons (by first | exact lend_same | exact .leaf _ _ (.vnil _) | exact .leaf _ _ (.nil _) | exact lend_whole rfl (by first | rfl | (simp; done) | (simp; omega)) (clo_map (fun _ => rfl))) lend_nil)) (c_runpart _ (by first | assumption | omega | (simp; omega))) rfl) (by simp) ?_
    refine al_op (op_assign rfl) rfl (by simp) ?_
    refine al_nil ?_
    refine aw_seq ?_
    have hw5 := takeWhile_len isPartC s
    refine aw_region ?_
    refine al_op (op_move rfl) rfl (by simp) ?_
    first
      | refine al_callp into35 rfl rfl rfl ((c_integer _ (by first | assumption | omega | (simp; done) | (simp; omega) | decide)) _) (by simp) ?_
      | refine al_callp into35 rfl rfl rfl (acp_lent (lend_cons (by first | exact lend_same | exact .leaf _ _ (.vnil _) | exact .leaf _ _ (.nil _) | exact lend_whole rfl (by first | rfl | (simp; done) | (simp; omega)) (clo_map (fun _ => rfl))) lend_nil) (c_integer _ (by first | assumption | omega | (simp; done) | (simp; omega) | decide)) rfl) (by simp) ?_
    refine al_op (op_move rfl) rfl (by simp) ?_
    refine al_op (op_extract rfl rfl rfl) rfl (by simp) ?_
    refine al_op (op_extract rfl rfl rfl) rfl (by simp) ?_
    refine al_op (op_assign rfl) rfl (by simp) ?_
    refine al_op (op_assign rfl) rfl (by simp) ?_
    refine al_nil ?_
    refine aw_seq ?_
    refine aw_region ?_
    refine al_op (op_move rfl) rfl (by simp) ?_
    refine al_op (op_move rfl) rfl (by simp) ?_
    apply al_and 5 89 94 rfl
    ·intro h8; have gh8 := h8
     try simp only [nrm] at h8
     refine al_take (op_move rfl) rfl rfl rfl rfl (by simp) ?_
     first
       | refine al_callp_take into33 rfl rfl rfl rfl rfl rfl ((c_rundigit _ (by first | assumption | omega | (simp; omega))) _) (by simp) ?_
       | refine al_callp_take into33 rfl rfl rfl rfl rfl rfl (acp_lent (lend_cons (by first | exact lend_same | exact .leaf _ _ (.vnil _) | exact .leaf _ _ (.nil _) | exact lend_whole rfl (by first | rfl | (simp; done) | (simp; omega)) (clo_map (fun _ => rfl))) (lend_cons (by first | exact lend_same | exact .leaf _ _ (.vnil _) | exact .leaf _ _ (.nil _) | exact lend_whole rfl (by first | rfl | (simp; done) | (simp; omega)) (clo_map (fun _ => rfl))) lend_nil)) (c_rundigit _ (by first | assumption | omega | (simp; omega))) rfl) (by simp) ?_
     refine al_take (op_move rfl) rfl rfl rfl rfl (by simp) ?_
     refine al_take (op_seql_str rfl rfl) rfl rfl rfl rfl (by simp) ?_
     first
       | refine al_op (op_pick rfl rfl) rfl (by simp) ?_
       | refine al_op (op_and rfl rfl rfl) rfl (by simp) ?_
     refine al_nil ⟨rfl, rfl, rfl, keep_of ?_⟩
     repeat (first | exact subx_refl | exact subx_known rfl gh8 subx_refl | refine subx_put rfl ?_)
    ·intro h8; have gh8 := h8
     try simp only [nrm] at h8
     refine al_pass rfl rfl rfl rfl (by simp) ?_
     refine al_pass rfl rfl rfl rfl (by simp) ?_
     refine al_pass rfl rfl rfl rfl (by simp) ?_
     refine al_pass rfl rfl rfl rfl (by simp) ?_
     first
       | refine al_op (op_pick rfl rfl) rfl (by simp) ?_
       | refine al_op (op_and rfl rfl rfl) rfl (by simp) ?_
     refine al_nil ⟨rfl, rfl, rfl, keep_of ?_⟩
     repeat (first | exact subx_refl | exact subx_known rfl gh8 subx_refl | refine subx_put rfl ?_)
    refine al_nil ?_
    refine aw_cond rfl (fun h9 => ?_) (fun h9 => ?_)
    ·have gh9 := h9
     try simp only [nrm] at h9
     refine aw_seq ?_
     refine aw_region ?_
     refine al_op (op_move rfl) rfl (by simp) ?_
     refine al_op (op_build_struct Tryz.underlying40 info40 rfl place40 rfl (by first | rfl | (repeat (first | exact parts_nil | refine parts_cons rfl (by repeat (first | exact all_live_nil | refine all_live_clo rfl ?_ | refine all_live_slice rfl ?_ | refine all_live_map rfl ?_ | refine all_live_ptr rfl ?_)) ?_))) rfl) rfl (by simp) ?_
     refine al_op (op_move rfl) rfl (by simp) ?_
     refine al_op (op_slen_str (ts := #[]) Tryz.underlying9 rfl) rfl (by simp) ?_
     first
       | refine al_op (op_store_ptr info40 rfl rfl rfl rfl rfl rfl (by first | rfl | exact live_one rfl | (repeat (first | exact all_live_nil | refine all_live_clo rfl ?_ | refine all_live_slice rfl ?_ | refine all_live_map rfl ?_ | refine all_live_ptr rfl ?_))) (by decide)) rfl (by simp) ?_
       | refine al_op (op_store_ptr info40 rfl rfl rfl rfl rfl rfl (by first | rfl | exact live_one rfl | (repeat (first | exact all_live_nil | refine all_live_clo rfl ?_ | refine all_live_slice rfl ?_ | refine all_live_map rfl ?_ | refine all_live_ptr rfl ?_))) (Nat.le_of_ble_eq_true rfl)) rfl (by simp) ?_
     refine al_op (op_assign rfl) rfl (by simp) ?_
     refine al_nil ?_
     refine aw_ret ?_
     refine ⟨_, res_cell_tmp rfl Tryz.underlying40 info40 rfl rfl rfl rfl rfl rfl rfl, ?_⟩
     exact ⟨(by rw [tokCells, tok_int gh1 gh4 gh7 gh9]; rfl), rfl⟩
    ·have gh9 := h9
     try simp only [nrm] at h9
     refine aw_skip ?_
     refine aw_seq ?_
     refine aw_region ?_
     first
       | refine al_op (op_load_rptr Tryz.underlying40 info40 rfl rfl) rfl (by simp) ?_
       | refine al_op (op_load_map Tryz.underlying40 info40 rfl rfl (by omega) rfl) rfl (by simp) ?_
       | refine al_op (op_load_ptr Tryz.underlying40 info40 rfl rfl rfl rfl) rfl (by simp) ?_
     first
       | refine al_op (op_store_ptr info40 rfl rfl rfl rfl rfl rfl (by first | rfl | exact live_one rfl | (repeat (first | exact all_live_nil | refine all_live_clo rfl ?_ | refine all_live_slice rfl ?_ | refine all_live_map rfl ?_ | refine all_live_ptr rfl ?_))) (by decide)) rfl (by simp) ?_
       | refine al_op (op_store_ptr info40 rfl rfl rfl rfl rfl rfl (by first | rfl | exact live_one rfl | (repeat (first | exact all_live_nil | refine all_live_clo rfl ?_ | refine all_live_slice rfl ?_ | refine all_live_map rfl ?_ | refine all_live_ptr rfl ?_))) (Nat.le_of_ble_eq_true rfl)) rfl (by simp) ?_
     refine al_op (op_assign rfl) rfl (by simp) ?_
     refine al_nil ?_
     refine aw_ret ?_
     refine ⟨_, res_cell_tmp rfl Tryz.underlying40 info40 rfl rfl rfl rfl rfl rfl rfl, ?_⟩
     exact ⟨(by rw [tokCells, tok_noint gh1 gh4 gh7 gh9]; rfl), rfl⟩
   ·have gh7 := h7
    try simp only [nrm] at h7
    refine aw_seq ?_
    refine aw_region ?_
    refine al_op (op_move rfl) rfl (by simp) ?_
    refine al_op (op_eql rfl rfl) rfl (by simp) ?_
    refine al_op (op_assign rfl) rfl (by simp) ?_
    refine al_nil ?_
    refine aw_cond rfl (fun h10 => ?_) (fun h10 => ?_)
    ·have gh10 := h10
     try simp only [nrm] at h10
     refine aw_seq ?_
     refine aw_region ?_
     refine al_op (op_move rfl) rfl (by simp) ?_
     refine al_op (op_slen_str (ts := #[]) Tryz.underlying9 rfl) rfl (by simp) ?_
     refine al_op (op_gtr rfl rfl) rfl (by simp) ?_
     refine al_op (op_move rfl) rfl (by simp) ?_
     apply al_and 5 105 110 rfl
     ·intro h11; have gh11 := h11
      try simp only [nrm] at h11
      refine al_take (op_move rfl) rfl rfl rfl rfl (by simp) ?_
      refine al_take (op_sidx_str Tryz.underlying9 rfl rfl (by first | (with_reducible exact Int.toNat_natCast _) | rfl) (by omega) (by first | omega | (simp; omega))) rfl rfl rfl rfl (by simp) ?_
      refine al_take (op_move rfl) rfl rfl rfl rfl (by simp) ?_
      refine al_take (op_eql rfl rfl) rfl rfl rfl rfl (by simp) ?_
      first
        | refine al_op (op_pick rfl rfl) rfl (by simp) ?_
        | refine al_op (op_and rfl rfl rfl) rfl (by simp) ?_
      refine al_nil ⟨rfl, rfl, rfl, keep_of ?_⟩
      repeat (first | exact subx_refl | exact subx_known rfl gh11 subx_refl | refine subx_put rfl ?_)
     ·intro h11; have gh11 := h11
      try simp only [nrm] at h11
      refine al_pass rfl rfl rfl rfl (by simp) ?_
      refine al_pass rfl rfl rfl rfl (by simp) ?_
      refine al_pass rfl rfl rfl rfl (by simp) ?_
      refine al_pass rfl rfl rfl rfl (by simp) ?_
      first
        | refine al_op (op_pick rfl rfl) rfl (by simp) ?_
        | refine al_op (op_and rfl rfl rfl) rfl (by simp) ?_
      refine al_nil ⟨rfl, rfl, rfl, keep_of ?_⟩
      repeat (first | exact subx_refl | exact subx_known rfl gh11 subx_refl | refine subx_put rfl ?_)
     refine al_op (op_move rfl) rfl (by simp) ?_
     apply al_and 5 111 116 rfl
     ·intro h12; have gh12 := h12
      try simp only [nrm] at h12
      refine al_take (op_move rfl) rfl rfl rfl rfl (by simp) ?_
      refine al_take (op_sidx_str Tryz.underlying9 rfl rfl (by first | (with_reducible exact Int.toNat_natCast _) | rfl) (by omega) (by first | omega | (simp; omega))) rfl rfl rfl rfl (by simp) ?_
      first
        | refine al_callp_take into29 rfl rfl rfl rfl rfl rfl ((q_indexByte _ _) _) (by simp) ?_
        | refine al_callp_take into29 rfl rfl rfl rfl rfl rfl (acp_lent (lend_cons (by first | exact lend_same | exact .leaf _ _ (.vnil _) | exact .leaf _ _ (.nil _) | exact lend_whole rfl (by first | rfl | (simp; done) | (simp; omega)) (clo_map (fun _ => rfl))) (lend_cons (by first | exact lend_same | exact .leaf _ _ (.vnil _) | exact .leaf _ _ (.nil _) | exact lend_whole rfl (by first | rfl | (simp; done) | (simp; omega)) (clo_map (fun _ => rfl))) lend_nil)) (q_indexByte _ _) rfl) (by simp) ?_
      refine al_take (op_geq rfl rfl) rfl rfl rfl rfl (by simp) ?_
      first
        | refine al_op (op_pick rfl rfl) rfl (by simp) ?_
        | refine al_op (op_and rfl rfl rfl) rfl (by simp) ?_
      refine al_nil ⟨rfl, rfl, rfl, keep_of ?_⟩
      repeat (first | exact subx_refl | exact subx_known rfl gh12 subx_refl | refine subx_put rfl ?_)
     ·intro h12; have gh12 := h12
      try simp only [nrm] at h12
      refine al_pass rfl rfl rfl rfl (by simp) ?_
      refine al_pass rfl rfl rfl rfl (by simp) ?_
      refine al_pass rfl rfl rfl rfl (by simp) ?_
      refine al_pass rfl rfl rfl rfl (by simp) ?_
      first
        | refine al_op (op_pick rfl rfl) rfl (by simp) ?_
        | refine al_op (op_and rfl rfl rfl) rfl (by simp) ?_
      refine al_nil ⟨rfl, rfl, rfl, keep_of ?_⟩
      repeat (first | exact subx_refl | exact subx_known rfl gh12 subx_refl | refine subx_put rfl ?_)
     refine al_nil ?_
     refine aw_cond rfl (fun h13 => ?_) (fun h13 => ?_)
     ·have gh13 := h13
      try simp only [nrm] at h13
      refine aw_seq ?_
      refine aw_region ?_
      refine al_op (op_move rfl) rfl (by simp) ?_
      refine al_op (op_cut_str Tryz.underlying9 rfl (.of rfl (show _ = ((1 : Nat) : Int) from by omega)) (.of rfl (show _ = ((2 : Nat) : Int) from by omega)) (by omega) (by first | omega | (simp; omega))) rfl (by simp) ?_
      refine al_op (op_build_struct Tryz.underlying40 info40 rfl place40 rfl (by first | rfl | (repeat (first | exact parts_nil | refine parts_cons rfl (by repeat (first | exact all_live_nil | refine all_live_clo rfl ?_ | refine all_live_slice rfl ?_ | refine all_live_map rfl ?_ | refine all_live_ptr rfl ?_)) ?_))) rfl) rfl (by simp) ?_
      first
        | refine al_op (op_store_ptr info40 rfl rfl rfl rfl rfl rfl (by first | rfl | exact live_one rfl | (repeat (first | exact all_live_nil | refine all_live_clo rfl ?_ | refine all_live_slice rfl ?_ | refine all_live_map rfl ?_ | refine all_live_ptr rfl ?_))) (by decide)) rfl (by simp) ?_
        | refine al_op (op_store_ptr info40 rfl rfl rfl rfl rfl rfl (by first | rfl | exact live_one rfl | (repeat (first | exact all_live_nil | refine all_live_clo rfl ?_ | refine all_live_slice rfl ?_ | refine all_live_map rfl ?_ | refine all_live_ptr rfl ?_))) (Nat.le_of_ble_eq_true rfl)) rfl (by simp) ?_
      refine al_op (op_assign rfl) rfl (by simp) ?_
      refine al_nil ?_
      refine aw_ret ?_
      refine ⟨_, res_cell_tmp rfl Tryz.underlying40 info40 rfl rfl rfl rfl rfl rfl rfl, ?_⟩
      exact ⟨(by rw [tokCells, tok_bit gh1 gh4 gh7 gh10 gh13]; rfl), rfl⟩
     ·have gh13 := h13
      try simp only [nrm] at h13
      refine aw_skip ?_
      refine aw_seq ?_
      refine aw_region ?_
      first
        | refine al_op (op_load_rptr Tryz.underlying40 info40 rfl rfl) rfl (by simp) ?_
        | refine al_op (op_load_map Tryz.underlying40 info40 rfl rfl (by omega) rfl) rfl (by simp) ?_
        | refine al_op (op_load_ptr Tryz.underlying40 info40 rfl rfl rfl rfl) rfl (by simp) ?_
      first
        | refine al_op (op_store_ptr info40 rfl rfl rfl rfl rfl rfl (by first | rfl | exact live_one rfl | (repeat (first | exact all_live_nil | refine all_live_clo rfl ?_ | refine all_live_slice rfl ?_ | refine all_live_map rfl ?_ | refine all_live_ptr rfl ?_))) (by decide)) rfl (by simp) ?_
        | refine al_op (op_store_ptr info40 rfl rfl rfl rfl rfl rfl (by first | rfl | exact live_one rfl | (repeat (first | exact all_live_nil | refine all_live_clo rfl ?_ | refine all_live_slice rfl ?_ | refine all_live_map rfl ?_ | refine all_live_ptr rfl ?_))) (Nat.le_of_ble_eq_true rfl)) rfl (by simp) ?_
      refine al_op (op_assign rfl) rfl (by simp) ?_
      refine al_nil ?_
      refine aw_ret ?_
      refine ⟨_, res_cell_tmp rfl Tryz.underlying40 info40 rfl rfl rfl rfl rfl rfl rfl, ?_⟩
      exact ⟨(by rw [tokCells, tok_nobit gh1 gh4 gh7 gh10 gh13]; rfl), rfl⟩
    ·have gh10 := h10
     try simp only [nrm] at h10
     refine aw_seq ?_
     refine aw_region ?_
     refine al_op (op_move rfl) rfl (by simp) ?_
     refine al_op (op_eql rfl rfl) rfl (by simp) ?_
     refine al_op (op_assign rfl) rfl (by simp) ?_
     refine al_nil ?_
     refine aw_cond rfl (fun h14 => ?_) (fun h14 => ?_)
     ·have gh14 := h14
      try simp only [nrm] at h14
      refine aw_seq ?_
      refine aw_region ?_
      refine al_op (op_move rfl) rfl (by simp) ?_
      first
        | refine al_callp into31 rfl rfl rfl ((c_quoted _ (by first | assumption | omega | (simp; done) | (simp; omega) | decide)) _) (by simp) ?_
        | refine al_callp into31 rfl rfl rfl (acp_lent (lend_cons (by first | exact lend_same | exact .leaf _ _ (.vnil _) | exact .leaf _ _ (.nil _) | exact lend_whole rfl (by first | rfl | (simp; done) | (simp; omega)) (clo_map (fun _ => rfl))) lend_nil) (c_quoted _ (by first | assumption | omega | (simp; done) | (simp; omega) | decide)) rfl) (by simp) ?_
      refine al_op (op_move rfl) rfl (by simp) ?_
      refine al_op (op_extract rfl rfl rfl) rfl (by simp) ?_
      refine al_op (op_extract rfl rfl rfl) rfl (by simp) ?_
      refine al_op (op_assign rfl) rfl (by simp) ?_
      refine al_op (op_assign rfl) rfl (by simp) ?_
      refine al_nil ?_
      refine aw_seq ?_
      have hq5 := cutQ_len (s := s) hs
      refine aw_region ?_
      refine al_op (op_move rfl) rfl (by simp) ?_
      refine al_op (op_move rfl) rfl (by simp) ?_
      apply al_and 3 129 132 rfl
      ·intro h15; have gh15 := h15
       try simp only [nrm] at h15
       refine al_take (op_move rfl) rfl rfl rfl rfl (by simp) ?_
       first
         | refine al_callp_take into36 rfl rfl rfl rfl rfl rfl ((c_isText _ (by first | assumption | omega | (simp; done) | (simp; omega) | decide)) _) (by simp) ?_
         | refine al_callp_take into36 rfl rfl rfl rfl rfl rfl (acp_lent (lend_cons (by first | exact lend_same | exact .leaf _ _ (.vnil _) | exact .leaf _ _ (.nil _) | exact lend_whole rfl (by first | rfl | (simp; done) | (simp; omega)) (clo_map (fun _ => rfl))) lend_nil) (c_isText _ (by first | assumption | omega | (simp; done) | (simp; omega) | decide)) rfl) (by simp) ?_
       first
         | refine al_op (op_pick rfl rfl) rfl (by simp) ?_
         | refine al_op (op_and rfl rfl rfl) rfl (by simp) ?_
       refine al_nil ⟨rfl, rfl, rfl, keep_of ?_⟩
       repeat (first | exact subx_refl | exact subx_known rfl gh15 subx_refl | refine subx_put rfl ?_)
      ·intro h15; have gh15 := h15
       try simp only [nrm] at h15
       refine al_pass rfl rfl rfl rfl (by simp) ?_
       refine al_pass rfl rfl rfl rfl (by simp) ?_
       first
         | refine al_op (op_pick rfl rfl) rfl (by simp) ?_
         | refine al_op (op_and rfl rfl rfl) rfl (by simp) ?_
       refine al_nil ⟨rfl, rfl, rfl, keep_of ?_⟩
       repeat (first | exact subx_refl | exact subx_known rfl gh15 subx_refl | refine subx_put rfl ?_)
      refine al_nil ?_
      refine aw_cond rfl (fun h16 => ?_) (fun h16 => ?_)
      ·have gh16 := h16
       try simp only [nrm] at h16
       refine aw_seq ?_
       refine aw_region ?_
       refine al_op (op_move rfl) rfl (by simp) ?_
       refine al_op (op_build_struct Tryz.underlying40 info40 rfl place40 rfl (by first | rfl | (repeat (first | exact parts_nil | refine parts_cons rfl (by repeat (first | exact all_live_nil | refine all_live_clo rfl ?_ | refine all_live_slice rfl ?_ | refine all_live_map rfl ?_ | refine all_live_ptr rfl ?_)) ?_))) rfl) rfl (by simp) ?_
       refine al_op (op_move rfl) rfl (by simp) ?_
       refine al_op (op_slen_str (ts := #[]) Tryz.underlying9 rfl) rfl (by simp) ?_
       refine al_op (op_add rfl rfl (by first | exact wrap_i64 (by omega) (by omega))) rfl (by simp) ?_
       first
         | refine al_op (op_store_ptr info40 rfl rfl rfl rfl rfl rfl (by first | rfl | exact live_one rfl | (repeat (first | exact all_live_nil | refine all_live_clo rfl ?_ | refine all_live_slice rfl ?_ | refine all_live_map rfl ?_ | refine all_live_ptr rfl ?_))) (by decide)) rfl (by simp) ?_
         | refine al_op (op_store_ptr info40 rfl rfl rfl rfl rfl rfl (by first | rfl | exact live_one rfl | (repeat (first | exact all_live_nil | refine all_live_clo rfl ?_ | refine all_live_slice rfl ?_ | refine all_live_map rfl ?_ | refine all_live_ptr rfl ?_))) (Nat.le_of_ble_eq_true rfl)) rfl (by simp) ?_
       refine al_op (op_assign rfl) rfl (by simp) ?_
       refine al_nil ?_
       refine aw_ret ?_
       refine ⟨_, res_cell_tmp rfl Tryz.underlying40 info40 rfl rfl rfl rfl rfl rfl rfl, ?_⟩
       exact ⟨(by rw [tokCells, tok_text gh1 gh4 gh7 gh10 gh14 gh16]; rfl), rfl⟩
      ·have gh16 := h16
       try simp only [nrm] at h16
       refine aw_skip ?_
       refine aw_seq ?_
       refine aw_region ?_
       first
         | refine al_op (op_load_rptr Tryz.underlying40 info40 rfl rfl) rfl (by simp) ?_
         | refine al_op (op_load_map Tryz.underlying40 info40 rfl rfl (by omega) rfl) rfl (by simp) ?_
         | refine al_op (op_load_ptr Tryz.underlying40 info40 rfl rfl rfl rfl) rfl (by simp) ?_
       first
         | refine al_op (op_store_ptr info40 rfl rfl rfl rfl rfl rfl (by first | rfl | exact live_one rfl | (repeat (first | exact all_live_nil | refine all_live_clo rfl ?_ | refine all_live_slice rfl ?_ | refine all_live_map rfl ?_ | refine all_live_ptr rfl ?_))) (by decide)) rfl (by simp) ?_
         | refine al_op (op_store_ptr info40 rfl rfl rfl rfl rfl rfl (by first | rfl | exact live_one rfl | (repeat (first | exact all_live_nil | refine all_live_clo rfl ?_ | refine all_live_slice rfl ?_ | refine all_live_map rfl ?_ | refine all_live_ptr rfl ?_))) (Nat.le_of_ble_eq_true rfl)) rfl (by simp) ?_
       refine al_op (op_assign rfl) rfl (by simp) ?_
       refine al_nil ?_
       refine aw_ret ?_
       refine ⟨_, res_cell_tmp rfl Tryz.underlying40 info40 rfl rfl rfl rfl rfl rfl rfl, ?_⟩
       exact ⟨(by rw [tokCells, tok_notext gh1 gh4 gh7 gh10 gh14 gh16]; rfl), rfl⟩
     ·have gh14 := h14
      try simp only [nrm] at h14
      refine aw_seq ?_
      refine aw_region ?_
      first
        | refine al_callp into37 rfl rfl rfl ((q_fields ) _) (by simp) ?_
        | refine al_callp into37 rfl rfl rfl (ac_told (re_cons (by first | exact .leaf _ _ (.same _) | exact .leaf _ _ (.vnil _) | exact .leaf _ _ (.nil _)) re_nil) ((q_fields ) _)) (by simp) ?_
      first
        | refine al_op (op_len_map Tryz.underlying48 rfl) rfl (by simp) ?_
        | refine al_op (op_len_slice Tryz.underlying48 rfl rfl) rfl (by simp) ?_
        | refine al_op (op_len_list Tryz.underlying48 rfl) rfl (by simp) ?_
        | refine al_op (op_len_v Tryz.underlying48 rfl) rfl (by simp) ?_
        | refine al_op (op_len_nil Tryz.underlying48 rfl) rfl (by simp) ?_
      refine al_op (op_move rfl) rfl (by simp) ?_
      refine al_nil ?_
      refine aw_block ?_
      refine aw_forT (ι := Nat) [3, 21] [] (fun i => signsL.length - i) (fun i => i ≤ signsL.length ∧ ∀ k, k < i → (signsL.getD k default).isPrefixOf s = false) (fun i => ([(21, .v (.int .i64 (i)))] : Env)) (fun i s => s) (0) ?_ ?_ ?_ (fun i hinv => ?_)
      ·exact ⟨Nat.zero_le _, fun k hk => absurd hk (Nat.not_lt_zero k)⟩
      ·refine sub_cons (get_as rfl ?_) ?_; rotate_left; exact sub_nil
       all_goals (first | rfl | simp)
      ·rfl
      have hi := hinv.1
      refine aw_seq ?_
      refine aw_region ?_
      refine al_op (op_lss rfl rfl) rfl (by simp) ?_
      refine al_nil ?_
      refine aw_seq ?_
      refine aw_cond rfl (fun h17 => ?_) (fun h17 => ?_)
      ·have gh17 := h17
       try simp only [nrm] at h17
       refine aw_skip ?_
       refine aw_seq ?_
       refine aw_block ?_
       refine aw_seq ?_
       refine aw_region ?_
       first
         | refine al_op (op_index_map default Tryz.underlying48 info9 rfl rfl rfl (by first | (with_reducible exact Int.toNat_natCast _) | rfl) (by omega) (by omega)) rfl (by simp) ?_
         | refine al_op (op_index_slice Tryz.underlying48 info9 rfl rfl rfl rfl (by omega) (by omega)) rfl (by simp) ?_
         | refine al_op (op_index_list Tryz.underlying48 info9 rfl rfl rfl (by decide) rfl) rfl (by simp) ?_
       first
         | refine al_op (op_load_rptr Tryz.underlying9 info9 rfl rfl) rfl (by simp) ?_
         | refine al_op (op_load_map Tryz.underlying9 info9 rfl rfl (by omega) rfl) rfl (by simp) ?_
         | refine al_op (op_load_ptr Tryz.underlying9 info9 rfl rfl rfl rfl) rfl (by simp) ?_
       refine al_op (op_assign rfl) rfl (by simp) ?_
       refine al_nil ?_
       refine aw_seq ?_
       refine aw_region ?_
       refine al_op (op_move rfl) rfl (by simp) ?_
       refine al_op (op_move rfl) rfl (by simp) ?_
       first
         | refine al_callp into30 rfl rfl rfl ((q_hasPrefix _ _) _) (by simp) ?_
         | refine al_callp into30 rfl rfl rfl (acp_lent (lend_cons (by first | exact lend_same | exact .leaf _ _ (.vnil _) | exact .leaf _ _ (.nil _) | exact lend_whole rfl (by first | rfl | (simp; done) | (simp; omega)) (clo_map (fun _ => rfl))) (lend_cons (by first | exact lend_same | exact .leaf _ _ (.vnil _) | exact .leaf _ _ (.nil _) | exact lend_whole rfl (by first | rfl | (simp; done) | (simp; omega)) (clo_map (fun _ => rfl))) lend_nil)) (q_hasPrefix _ _) rfl) (by simp) ?_
       refine al_nil ?_
       refine aw_cond rfl (fun h18 => ?_) (fun h18 => ?_)
       ·have gh18 := h18
        try simp only [nrm] at h18
        refine aw_seq ?_
        refine aw_region ?_
        refine al_op (op_move rfl) rfl (by simp) ?_
        refine al_op (op_build_struct Tryz.underlying40 info40 rfl place40 rfl (by first | rfl | (repeat (first | exact parts_nil | refine parts_cons rfl (by repeat (first | exact all_live_nil | refine all_live_clo rfl ?_ | refine all_live_slice rfl ?_ | refine all_live_map rfl ?_ | refine all_live_ptr rfl ?_)) ?_))) rfl) rfl (by simp) ?_
        refine al_op (op_move rfl) rfl (by simp) ?_
        refine al_op (op_slen_str (ts := #[]) Tryz.underlying9 rfl) rfl (by simp) ?_
        first
          | refine al_op (op_store_ptr info40 rfl rfl rfl rfl rfl rfl (by first | rfl | exact live_one rfl | (repeat (first | exact all_live_nil | refine all_live_clo rfl ?_ | refine all_live_slice rfl ?_ | refine all_live_map rfl ?_ | refine all_live_ptr rfl ?_))) (by decide)) rfl (by simp) ?_
          | refine al_op (op_store_ptr info40 rfl rfl rfl rfl rfl rfl (by first | rfl | exact live_one rfl | (repeat (first | exact all_live_nil | refine all_live_clo rfl ?_ | refine all_live_slice rfl ?_ | refine all_live_map rfl ?_ | refine all_live_ptr rfl ?_))) (Nat.le_of_ble_eq_true rfl)) rfl (by simp) ?_
        refine al_op (op_assign rfl) rfl (by simp) ?_
        refine al_nil ?_
        refine aw_ret ?_
        refine ⟨_, res_cell_tmp rfl Tryz.underlying40 info40 rfl rfl rfl rfl rfl rfl rfl, ?_⟩
        exact ⟨(by rw [tokCells, (tok_last gh1 gh4 gh7 gh10 gh14), find_step (p := fun x => x.isPrefixOf s) (by omega) hinv.2 gh18]; rfl), rfl⟩
       ·have gh18 := h18
        try simp only [nrm] at h18
        refine aw_skip ?_
        refine aw_region ?_
        refine al_op (op_add rfl rfl (by first | exact wrap_i64 (by omega) (by omega))) rfl (by simp) ?_
        refine al_op (op_move rfl) rfl (by simp) ?_
        refine al_nil ?_
        refine ⟨i + 1, ?_, ?_, ?_, ?_, ?_⟩
        ·omega
        ·exact ⟨by omega, find_more (p := fun x => x.isPrefixOf s) (l := signsL) hinv.2 gh18⟩
        ·refine sub_cons (get_as rfl ?_) ?_; rotate_left; exact sub_nil
         all_goals (first | rfl | simp)
        ·repeat (first | exact subx_refl | exact subx_del | refine subx_put rfl ?_)
        ·rfl
      ·have gh17 := h17
       try simp only [nrm] at h17
       refine aw_exit ?_
       obtain rfl : i = signsL.length := by omega
       have hall := hinv.2
       refine aw_seq ?_
       refine aw_region ?_
       first
         | refine al_op (op_load_rptr Tryz.underlying40 info40 rfl rfl) rfl (by simp) ?_
         | refine al_op (op_load_map Tryz.underlying40 info40 rfl rfl (by omega) rfl) rfl (by simp) ?_
         | refine al_op (op_load_ptr Tryz.underlying40 info40 rfl rfl rfl rfl) rfl (by simp) ?_
       first
         | refine al_op (op_store_ptr info40 rfl rfl rfl rfl rfl rfl (by first | rfl | exact live_one rfl | (repeat (first | exact all_live_nil | refine all_live_clo rfl ?_ | refine all_live_slice rfl ?_ | refine all_live_map rfl ?_ | refine all_live_ptr rfl ?_))) (by decide)) rfl (by simp) ?_
         | refine al_op (op_store_ptr info40 rfl rfl rfl rfl rfl rfl (by first | rfl | exact live_one rfl | (repeat (first | exact all_live_nil | refine all_live_clo rfl ?_ | refine all_live_slice rfl ?_ | refine all_live_map rfl ?_ | refine all_live_ptr rfl ?_))) (Nat.le_of_ble_eq_true rfl)) rfl (by simp) ?_
       refine al_op (op_assign rfl) rfl (by simp) ?_
       refine al_nil ?_
       refine aw_ret ?_
       refine ⟨_, res_cell_tmp rfl Tryz.underlying40 info40 rfl rfl rfl rfl rfl rfl rfl, ?_⟩
       exact ⟨(by rw [tokCells, (tok_last gh1 gh4 gh7 gh10 gh14), find_none (p := fun x => x.isPrefixOf s) hall]; rfl), rfl⟩
theorem c_token (s : Bs) (hs : s.length ≤ 1000000000) (hpos : 0 < s.length) : ACp Tryz.prog 17 [.v (.string (str (s)))] (.tuple [.agg (tokCells s), .v (.int .i64 (((tokA s).2.2.2 : Nat) : Int))]) :=
  acp_of rfl (ac_mono (ac_keep (fun _ => false) (q_token s hs hpos)) (by rintro x σ1 ⟨σ2, ⟨rfl, e⟩, rfl⟩; exact ⟨rfl, e⟩))

theorem q_Lex (s : Bs) (hs : s.length ≤ 1000000000) : AC Tryz.prog 8 [.v (.string (str (s)))] ([]) (fun r σ' => ∃ a, r = .ret a ∧ FrzT σ' (fun _ => false) a (.tuple [.list 5 ((lexP s).1.map encK), .agg (encF (lexP s).2)])) := by
 refine ac_enter 73 Tryz.func8 rfl rfl (by simp) ?_
 refine aw_seq ?_
 refine aw_region ?_
 refine al_op (op_assign rfl) rfl (by simp) ?_
 (refine al_opR (op_alloc 3 info27 rfl rfl) rfl (by simp) ?_; rintro _ _ ⟨ver3, rfl, rfl⟩)
 refine al_nil ?_
 refine aw_seq ?_
 refine aw_seq ?_
 refine aw_region ?_
 refine al_op (op_move rfl) rfl (by simp) ?_
 refine al_op (op_slen_str (ts := #[]) Tryz.underlying9 rfl) rfl (by simp) ?_
 refine al_op (op_gtr rfl rfl) rfl (by simp) ?_
 refine al_nil ?_
 refine aw_cond rfl (fun h1 => ?_) (fun h1 => ?_)
 ·have gh1 := h1
  try simp only [nrm] at h1
  refine aw_seq ?_
  refine aw_region ?_
  refine al_op (op_build_struct Tryz.underlying27 info27 rfl place27 rfl (by first | rfl | (repeat (first | exact parts_nil | refine parts_cons rfl (by repeat (first | exact all_live_nil | refine all_live_clo rfl ?_ | refine all_live_slice rfl ?_ | refine all_live_map rfl ?_ | refine all_live_ptr rfl ?_)) ?_))) rfl) rfl (by simp) ?_
  refine al_op (op_assign rfl) rfl (by simp) ?_
  first
    | refine al_op (op_store_ptr info27 rfl rfl rfl rfl rfl rfl (by first | rfl | exact live_one rfl | (repeat (first | exact all_live_nil | refine all_live_clo rfl ?_ | refine all_live_slice rfl ?_ | refine all_live_map rfl ?_ | refine all_live_ptr rfl ?_))) (by decide)) rfl (by simp) ?_
    | refine al_op (op_store_ptr info27 rfl rfl rfl rfl rfl rfl (by first | rfl | exact live_one rfl | (repeat (first | exact all_live_nil | refine all_live_clo rfl ?_ | refine all_live_slice rfl ?_ | refine all_live_map rfl ?_ | refine all_live_ptr rfl ?_))) (Nat.le_of_ble_eq_true rfl)) rfl (by simp) ?_
  refine al_nil ?_
  refine aw_ret ?_
  refine ⟨_, res_tmp_cell rfl rfl Tryz.underlying27 info27 rfl rfl rfl rfl rfl rfl, ?_⟩
  rw [lexP_long gh1]; exact ⟨_, rfl, .tuple _ _ (frz3_cons (.leaf _ _ (.vnil 5)) (frz3_cons (.leaf _ _ (.same _)) frz3_nil))⟩
 ·have gh1 := h1
  try simp only [nrm] at h1
  refine aw_skip ?_
  refine aw_seq ?_
  refine aw_region ?_
  refine al_op (op_move rfl) rfl (by simp) ?_
  refine al_op (op_build_struct Tryz.underlying43 info43 rfl place43 rfl (by first | rfl | (repeat (first | exact parts_nil | refine parts_cons rfl (by repeat (first | exact all_live_nil | refine all_live_clo rfl ?_ | refine all_live_slice rfl ?_ | refine all_live_map rfl ?_ | refine all_live_ptr rfl ?_)) ?_))) rfl) rfl (by simp) ?_
  (refine al_opR (op_box 14 rfl rfl (by first | rfl | exact live_one rfl | (repeat (first | exact all_live_nil | refine all_live_clo rfl ?_ | refine all_live_slice rfl ?_ | refine all_live_map rfl ?_ | refine all_live_ptr rfl ?_)))) rfl (by simp) ?_; rintro _ _ ⟨ver14, rfl, rfl⟩)
  refine al_op (op_assign rfl) rfl (by simp) ?_
  refine al_nil ?_
  refine aw_seq ?_
  refine aw_region ?_
  refine al_op (op_assign rfl) rfl (by simp) ?_
  refine al_nil ?_
  refine aw_seq ?_
  refine aw_seq ?_
  refine aw_region ?_
  refine al_op (op_move rfl) rfl (by simp) ?_
  (refine al_call into16 rfl rfl rfl (blanks_at 14 ver14 s hs 0 (Nat.zero_le _) rfl rfl rfl) (by simp) ?_; rintro _ _ ⟨rfl, rfl⟩)
  refine al_nil ?_
  refine aw_block ?_
  refine aw_own_map encK 5 5 5 rfl rfl (fun ver5 => ?_)
  refine aw_for3T (α := Nat) (β := List Tk) (γ := Nat) [2, 5] [6] (fun i acc ver => s.length - i) (fun i acc ver => (i ≤ s.length ∧ nextAt s i = i) ∧ acc.length ≤ i ∧ lex s = (acc ++ (lexFrom s i).1, (lexFrom s i).2)) (fun i acc ver => ([(5, .slice 5 ver 0 acc.length)] : Env)) (fun i acc ver st => ([(3, ver3, .row 4 [encF okF]), (14, ver14, .row 4 [scanRow s (i)]), (5, ver, .row 5 (acc.map encK))] : Store)) (nextAt s 0) ([]) (ver5) ?_ ?_ ?_ (fun i acc ver hinv => ?_)
  ·exact ⟨⟨(nextAt_le s 0 (Nat.zero_le _)).2, next_idem s 0⟩, Nat.zero_le _, lex_start s⟩
  ·refine sub_cons (get_as rfl ?_) ?_; rotate_left; exact sub_nil
   all_goals (first | rfl | simp)
  ·rfl
  obtain ⟨⟨hi, hni⟩, hac, hlx⟩ := hinv
  refine aw_seq ?_
  refine aw_seq ?_
  refine aw_region ?_
  refine al_op (op_move rfl) rfl (by simp) ?_
  first
    | refine al_op (op_nilCheck_rptr rfl) rfl (by simp) ?_
    | refine al_op (op_nilCheck_ptr rfl rfl) rfl (by simp) ?_
  first
    | refine al_op (op_field_rptr Tryz.underlying43 rfl info3 (by decide) rfl rfl) rfl (by simp) ?_
    | refine al_op (op_field_ptr Tryz.underlying43 rfl info3 (by decide) rfl rfl rfl) rfl (by simp) ?_
  first
    | refine al_op (op_load_rptr Tryz.underlying3 info3 rfl rfl) rfl (by simp) ?_
    | refine al_op (op_load_map Tryz.underlying3 info3 rfl rfl (by omega) rfl) rfl (by simp) ?_
    | refine al_op (op_load_ptr Tryz.underlying3 info3 rfl rfl rfl rfl) rfl (by simp) ?_
  refine al_op (op_move rfl) rfl (by simp) ?_
  refine al_op (op_slen_str (ts := #[]) Tryz.underlying9 rfl) rfl (by simp) ?_
  refine al_op (op_lss rfl rfl) rfl (by simp) ?_
  refine al_nil ?_
  refine aw_cond rfl (fun h2 => ?_) (fun h2 => ?_)
  ·have gh2 := h2
   try simp only [nrm] at h2
   refine aw_skip ?_
   refine aw_seq ?_
   refine aw_block ?_
   refine aw_seq ?_
   refine aw_region ?_
   refine al_op (op_move rfl) rfl (by simp) ?_
   refine al_callp into18 rfl rfl rfl (rest_at 14 ver14 s hs i (by omega) rfl rfl rfl) (by simp) ?_
   have hpos : 0 < (s.drop i).length := by rw [List.length_drop]; omega
   have hdl : (s.drop i).length ≤ 1000000000 := by rw [List.length_drop]; omega
   first
     | refine al_callp into17 rfl rfl rfl ((c_token _ (by first | assumption | omega | (simp; done) | (simp; omega) | decide) (by first | assumption | omega | (simp; done) | (simp; omega) | decide)) _) (by simp) ?_
     | refine al_callp into17 rfl rfl rfl (acp_lent (lend_cons (by first | exact lend_same | exact .leaf _ _ (.vnil _) | exact .leaf _ _ (.nil _) | exact lend_whole rfl (by first | rfl | (simp; done) | (simp; omega)) (clo_map (fun _ => rfl))) lend_nil) (c_token _ (by first | assumption | omega | (simp; done) | (simp; omega) | decide) (by first | assumption | omega | (simp; done) | (simp; omega) | decide)) rfl) (by simp) ?_
   refine al_op (op_move rfl) rfl (by simp) ?_
   refine al_op (op_extract rfl rfl rfl) rfl (by simp) ?_
   refine al_op (op_extract rfl rfl rfl) rfl (by simp) ?_
   (refine al_opR (op_alloc 6 info40 rfl rfl) rfl (by simp) ?_; rintro _ _ ⟨ver6, rfl, rfl⟩)
   first
     | refine al_op (op_store_ptr info40 rfl rfl rfl rfl rfl rfl (by first | rfl | exact live_one rfl | (repeat (first | exact all_live_nil | refine all_live_clo rfl ?_ | refine all_live_slice rfl ?_ | refine all_live_map rfl ?_ | refine all_live_ptr rfl ?_))) (by decide)) rfl (by simp) ?_
     | refine al_op (op_store_ptr info40 rfl rfl rfl rfl rfl rfl (by first | rfl | exact live_one rfl | (repeat (first | exact all_live_nil | refine all_live_clo rfl ?_ | refine all_live_slice rfl ?_ | refine all_live_map rfl ?_ | refine all_live_ptr rfl ?_))) (Nat.le_of_ble_eq_true rfl)) rfl (by simp) ?_
   refine al_op (op_assign rfl) rfl (by simp) ?_
   refine al_nil ?_
   refine aw_seq ?_
   refine aw_seq ?_
   refine aw_region ?_
   refine al_op (op_move rfl) rfl (by simp) ?_
   refine al_op (op_eql rfl rfl) rfl (by simp) ?_
   refine al_nil ?_
   refine aw_cond rfl (fun h3 => ?_) (fun h3 => ?_)
   ·have gh3 := h3
    try simp only [nrm] at h3
    refine aw_seq ?_
    refine aw_any (Checked.mixed Tryz.checked) ?_
    apply aany_seg (p := 0) (q := 21) (by kernel_rfl) rfl (by decide)
    ·
     apply ql_plain rfl (op_move rfl)
     apply ql_plain rfl (op_move rfl)
     first
       | apply ql_plain rfl (op_nilCheck_rptr rfl)
       | apply ql_plain rfl (op_nilCheck_ptr rfl rfl)
     first
       | apply ql_plain rfl (op_field_rptr Tryz.underlying43 rfl info3 (by decide) rfl rfl)
       | apply ql_plain rfl (op_field_ptr Tryz.underlying43 rfl info3 (by decide) rfl rfl rfl)
     first
       | apply ql_plain rfl (op_load_rptr Tryz.underlying3 info3 rfl rfl)
       | apply ql_plain rfl (op_load_map Tryz.underlying3 info3 rfl rfl (by omega) rfl)
       | apply ql_plain rfl (op_load_ptr Tryz.underlying3 info3 rfl rfl rfl rfl)
     apply ql_plain rfl (op_move rfl)
     first
       | apply ql_plain rfl (op_nilCheck_rptr rfl)
       | apply ql_plain rfl (op_nilCheck_ptr rfl rfl)
     first
       | apply ql_plain rfl (op_field_rptr Tryz.underlying43 rfl info3 (by decide) rfl rfl)
       | apply ql_plain rfl (op_field_ptr Tryz.underlying43 rfl info3 (by decide) rfl rfl rfl)
     first
       | apply ql_plain rfl (op_load_rptr Tryz.underlying3 info3 rfl rfl)
       | apply ql_plain rfl (op_load_map Tryz.underlying3 info3 rfl rfl (by omega) rfl)
       | apply ql_plain rfl (op_load_ptr Tryz.underlying3 info3 rfl rfl rfl rfl)
     apply ql_plain rfl (op_add rfl rfl (by first | exact wrap_i64 (by omega) (by omega)))
     apply ql_plain rfl (op_cut_str Tryz.underlying9 rfl (.of rfl (show _ = ((i : Nat) : Int) from by omega)) (.of rfl (show _ = (((i + 1) : Nat) : Int) from by omega)) (by omega) (by first | omega | (simp; omega)))
     apply ql_plain rfl (op_move rfl)
     first
       | apply ql_plain rfl (op_nilCheck_rptr rfl)
       | apply ql_plain rfl (op_nilCheck_ptr rfl rfl)
     first
       | apply ql_plain rfl (op_field_rptr Tryz.underlying43 rfl info3 (by decide) rfl rfl)
       | apply ql_plain rfl (op_field_ptr Tryz.underlying43 rfl info3 (by decide) rfl rfl rfl)
     first
       | apply ql_plain rfl (op_load_rptr Tryz.underlying3 info3 rfl rfl)
       | apply ql_plain rfl (op_load_map Tryz.underlying3 info3 rfl rfl (by omega) rfl)
       | apply ql_plain rfl (op_load_ptr Tryz.underlying3 info3 rfl rfl rfl rfl)
     apply ql_plain rfl (op_move rfl)
     first
       | apply ql_plain rfl (op_nilCheck_rptr rfl)
       | apply ql_plain rfl (op_nilCheck_ptr rfl rfl)
     first
       | apply ql_plain rfl (op_field_rptr Tryz.underlying43 rfl info3 (by decide) rfl rfl)
       | apply ql_plain rfl (op_field_ptr Tryz.underlying43 rfl info3 (by decide) rfl rfl rfl)
     first
       | apply ql_plain rfl (op_load_rptr Tryz.underlying3 info3 rfl rfl)
       | apply ql_plain rfl (op_load_map Tryz.underlying3 info3 rfl rfl (by omega) rfl)
       | apply ql_plain rfl (op_load_ptr Tryz.underlying3 info3 rfl rfl rfl rfl)
     apply ql_plain rfl (op_build_struct Tryz.underlying27 info27 rfl place27 rfl (by first | rfl | (repeat (first | exact parts_nil | refine parts_cons rfl (by repeat (first | exact all_live_nil | refine all_live_clo rfl ?_ | refine all_live_slice rfl ?_ | refine all_live_map rfl ?_ | refine all_live_ptr rfl ?_)) ?_))) rfl)
     apply ql_plain rfl (op_assign rfl)
     exact ql_nil
    ·simp
    first
      | refine aany_op (by kernel_rfl) rfl rfl (op_store_ptr info27 rfl rfl rfl rfl rfl rfl (by first | rfl | exact live_one rfl | (repeat (first | exact all_live_nil | refine all_live_clo rfl ?_ | refine all_live_slice rfl ?_ | refine all_live_map rfl ?_ | refine all_live_ptr rfl ?_))) (by decide)) (by simp) ?_
      | refine aany_op (by kernel_rfl) rfl rfl (op_store_ptr info27 rfl rfl rfl rfl rfl rfl (by first | rfl | exact live_one rfl | (repeat (first | exact all_live_nil | refine all_live_clo rfl ?_ | refine all_live_slice rfl ?_ | refine all_live_map rfl ?_ | refine all_live_ptr rfl ?_))) (Nat.le_of_ble_eq_true rfl)) (by simp) ?_
    refine aany_end rfl (by kernel_rfl) ?_
    refine aw_ret ?_
    refine ⟨_, res_tmp_cell rfl rfl Tryz.underlying27 info27 rfl rfl rfl rfl rfl rfl, ?_⟩
    rw [lexP_bad gh1 hlx (round_bad (by omega) hni gh3), badF_cut]; exact ⟨_, rfl, .tuple _ _ (frz3_cons (.leaf _ _ (.vnil 5)) (frz3_cons (.leaf _ _ (.same _)) frz3_nil))⟩
   ·have gh3 := h3
    try simp only [nrm] at h3
    refine aw_skip ?_
    refine aw_seq ?_
    obtain ⟨ht1, ht2, ht3⟩ := tokA_some gh3
    rw [List.length_drop] at ht3
    refine aw_plan [0, 1, 2, 3, 4, 5, 6, 7, 8, 9, 10, 11] (Checked.mixed Tryz.checked) (by kernel_rfl) ?_
    refine afl_float rfl rfl (opk_of (op_move rfl)) (by simp) ?_
    first
      | refine afl_float rfl rfl (opk_of (op_nilCheck_rptr rfl)) (by simp) ?_
      | refine afl_float rfl rfl (opk_of (op_nilCheck_ptr rfl rfl)) (by simp) ?_
    first
      | refine afl_float rfl rfl (opk_of (op_field_rptr Tryz.underlying43 rfl info3 (by decide) rfl rfl)) (by simp) ?_
      | refine afl_float rfl rfl (opk_of (op_field_ptr Tryz.underlying43 rfl info3 (by decide) rfl rfl rfl)) (by simp) ?_
    first
      | refine afl_float rfl rfl (opk_of (op_load_rptr Tryz.underlying3 info3 rfl rfl)) (by simp) ?_
      | refine afl_float rfl rfl (opk_of (op_load_map Tryz.underlying3 info3 rfl rfl (by omega) rfl)) (by simp) ?_
      | refine afl_float rfl rfl (opk_of (op_load_ptr Tryz.underlying3 info3 rfl rfl rfl rfl)) (by simp) ?_
    refine afl_float rfl rfl (opk_of (op_move rfl)) (by simp) ?_
    first
      | refine afl_float rfl rfl (opk_of (op_nilCheck_rptr rfl)) (by simp) ?_
      | refine afl_float rfl rfl (opk_of (op_nilCheck_ptr rfl rfl)) (by simp) ?_
    first
      | refine afl_float rfl rfl (opk_of (op_field_rptr Tryz.underlying43 rfl info3 (by decide) rfl rfl)) (by simp) ?_
      | refine afl_float rfl rfl (opk_of (op_field_ptr Tryz.underlying43 rfl info3 (by decide) rfl rfl rfl)) (by simp) ?_
    first
      | refine afl_float rfl rfl (opk_of (op_load_rptr Tryz.underlying3 info3 rfl rfl)) (by simp) ?_
      | refine afl_float rfl rfl (opk_of (op_load_map Tryz.underlying3 info3 rfl rfl (by omega) rfl)) (by simp) ?_
      | refine afl_float rfl rfl (opk_of (op_load_ptr Tryz.underlying3 info3 rfl rfl rfl rfl)) (by simp) ?_
    first
      | refine afl_float rfl rfl (opk_of (op_field_rptr Tryz.underlying40 rfl info3 (by decide) rfl rfl)) (by simp) ?_
      | refine afl_float rfl rfl (opk_of (op_field_ptr Tryz.underlying40 rfl info3 (by decide) rfl rfl rfl)) (by simp) ?_
    first
      | (refine afl_eff rfl rfl (by kernel_rfl) (op_store_ptr info3 rfl rfl rfl rfl rfl rfl (by first | rfl | exact live_one rfl | (repeat (first | exact all_live_nil | refine all_live_clo rfl ?_ | refine all_live_slice rfl ?_ | refine all_live_map rfl ?_ | refine all_live_ptr rfl ?_))) (by decide)) (by simp) ?_ ?_)
      | (refine afl_eff rfl rfl (by kernel_rfl) (op_store_ptr info3 rfl rfl rfl rfl rfl rfl (by first | rfl | exact live_one rfl | (repeat (first | exact all_live_nil | refine all_live_clo rfl ?_ | refine all_live_slice rfl ?_ | refine all_live_map rfl ?_ | refine all_live_ptr rfl ?_))) (Nat.le_of_ble_eq_true rfl)) (by simp) ?_ ?_)
    ·
     refine loose_anc 8 rfl (by kernel_rfl) ?_
     first
       | refine loose_k rfl (opk_of (op_load_rptr Tryz.underlying3 info3 rfl rfl)) ?_
       | refine loose_k rfl (opk_of (op_load_map Tryz.underlying3 info3 rfl rfl (by omega) rfl)) ?_
       | refine loose_k rfl (opk_of (op_load_ptr Tryz.underlying3 info3 rfl rfl rfl rfl)) ?_
     first
       | refine loose_k rfl (opk_of (op_field_rptr Tryz.underlying43 rfl info3 (by decide) rfl rfl)) ?_
       | refine loose_k rfl (opk_of (op_field_ptr Tryz.underlying43 rfl info3 (by decide) rfl rfl rfl)) ?_
     first
       | refine loose_k rfl (opk_of (op_nilCheck_rptr rfl)) ?_
       | refine loose_k rfl (opk_of (op_nilCheck_ptr rfl rfl)) ?_
     refine loose_k rfl (opk_of (op_move rfl)) ?_
     refine loose_anc 3 rfl (by kernel_rfl) ?_
     refine loose_anc 2 rfl (by kernel_rfl) ?_
     refine loose_anc 1 rfl (by kernel_rfl) ?_
     refine loose_anc 0 rfl (by kernel_rfl) ?_
     exact loose_nil
    first
      | refine afl_float rfl rfl (opk_of (op_field_rptr Tryz.underlying40 rfl info3 (by decide) rfl rfl)) (by simp) ?_
      | refine afl_float rfl rfl (opk_of (op_field_ptr Tryz.underlying40 rfl info3 (by decide) rfl rfl rfl)) (by simp) ?_
    first
      | (refine afl_eff rfl rfl (by kernel_rfl) (op_store_ptr info3 rfl rfl rfl rfl rfl rfl (by first | rfl | exact live_one rfl | (repeat (first | exact all_live_nil | refine all_live_clo rfl ?_ | refine all_live_slice rfl ?_ | refine all_live_map rfl ?_ | refine all_live_ptr rfl ?_))) (by decide)) (by simp) ?_ ?_)
      | (refine afl_eff rfl rfl (by kernel_rfl) (op_store_ptr info3 rfl rfl rfl rfl rfl rfl (by first | rfl | exact live_one rfl | (repeat (first | exact all_live_nil | refine all_live_clo rfl ?_ | refine all_live_slice rfl ?_ | refine all_live_map rfl ?_ | refine all_live_ptr rfl ?_))) (Nat.le_of_ble_eq_true rfl)) (by simp) ?_ ?_)
    ·
     refine loose_anc 10 rfl (by kernel_rfl) ?_
     refine loose_fix rfl ?_
     refine loose_anc 8 rfl (by kernel_rfl) ?_
     refine loose_anc 7 rfl (by kernel_rfl) ?_
     refine loose_anc 6 rfl (by kernel_rfl) ?_
     refine loose_anc 5 rfl (by kernel_rfl) ?_
     refine loose_anc 4 rfl (by kernel_rfl) ?_
     refine loose_anc 3 rfl (by kernel_rfl) ?_
     refine loose_anc 2 rfl (by kernel_rfl) ?_
     refine loose_anc 1 rfl (by kernel_rfl) ?_
     refine loose_anc 0 rfl (by kernel_rfl) ?_
     exact loose_nil
    refine afl_end ?_
    refine aw_seq ?_
    refine aw_region ?_
    refine al_op (op_move rfl) rfl (by simp) ?_
    first
      | refine al_op (op_load_rptr Tryz.underlying40 info40 rfl rfl) rfl (by simp) ?_
      | refine al_op (op_load_map Tryz.underlying40 info40 rfl rfl (by omega) rfl) rfl (by simp) ?_
      | refine al_op (op_load_ptr Tryz.underlying40 info40 rfl rfl rfl rfl) rfl (by simp) ?_
    refine al_op (op_buildSlice Tryz.underlying24 info40 rfl rfl (by decide) rfl (by decide) rfl (by first | rfl | (repeat (first | exact parts_nil | refine parts_cons rfl (by repeat (first | exact all_live_nil | refine all_live_clo rfl ?_ | refine all_live_slice rfl ?_ | refine all_live_map rfl ?_ | refine all_live_ptr rfl ?_)) ?_))) rfl rfl rfl) rfl (by simp) ?_
    first
      | (refine al_opR (op_append_one (mkTk s i) Tryz.underlying24 Tryz.underlying24 rfl info40 rfl rfl (by decide) rfl rfl rfl (by first | rfl | simp) rfl rfl (by first | omega | (simp; done) | (simp; omega)) (by show _ * 48 ≤ _; first | omega | (simp; done) | (simp; omega))) rfl (by simp) ?_; rintro _ _ ⟨ver67, rfl, rfl⟩)
      | (refine al_opR (op_append_map Tryz.underlying24 Tryz.underlying24 rfl info40 rfl rfl (by decide) rfl rfl rfl (by first | rfl | simp) rfl (by first | exact .list _ | exact .vnil | exact .nil | exact .row _ _ _ _ rfl (by first | rfl | simp)) rfl (by first | omega | (simp; done) | (simp; omega)) (by show _ * 48 ≤ _; first | omega | (simp; done) | (simp; omega))) rfl (by simp) ?_; rintro _ _ ⟨ver67, rfl, rfl⟩)
    refine al_op (op_assign rfl) rfl (by simp) ?_
    refine al_nil ?_
    refine aw_region ?_
    refine al_op (op_move rfl) rfl (by simp) ?_
    refine al_op (op_move rfl) rfl (by simp) ?_
    (refine al_call into19 rfl rfl rfl (skip_at 14 ver14 s hs i (tokA (s.drop i)).2.2.2 (by omega) rfl rfl rfl) (by simp) ?_; rintro _ _ ⟨rfl, rfl⟩)
    refine al_nil ?_
    refine aw_region ?_
    refine al_op (op_move rfl) rfl (by simp) ?_
    (refine al_call into16 rfl rfl rfl (blanks_at 14 ver14 s hs (i + (tokA (s.drop i)).2.2.2) (by omega) rfl rfl rfl) (by simp) ?_; rintro _ _ ⟨rfl, rfl⟩)
    refine al_nil ?_
    refine ⟨(nextAt s (i + (tokA (s.drop i)).2.2.2)), acc ++ [mkTk s i], ver67, ?_, ?_, ?_, ?_, ?_⟩
    ·(have hnl := nextAt_le s (i + (tokA (s.drop i)).2.2.2) (by omega)); omega
    ·exact ⟨⟨(nextAt_le s _ (by omega)).2, next_idem s _⟩, by have hnl := nextAt_le s (i + (tokA (s.drop i)).2.2.2) (by omega); rw [List.length_append, List.length_singleton]; omega, lex_more hlx (round_ok (by omega) hni gh3)⟩
    ·refine sub_cons (get_as rfl ?_) ?_; rotate_left; exact sub_nil
     all_goals (first | rfl | simp)
    ·repeat (first | exact subx_refl | exact subx_del | refine subx_put rfl ?_)
    ·rfl
  ·have gh2 := h2
   try simp only [nrm] at h2
   refine aw_exit ?_
   skip
   refine aw_seq ?_
   refine aw_region ?_
   refine al_op (op_move rfl) rfl (by simp) ?_
   refine al_op (op_build_struct Tryz.underlying27 info27 rfl place27 rfl (by first | rfl | (repeat (first | exact parts_nil | refine parts_cons rfl (by repeat (first | exact all_live_nil | refine all_live_clo rfl ?_ | refine all_live_slice rfl ?_ | refine all_live_map rfl ?_ | refine all_live_ptr rfl ?_)) ?_))) rfl) rfl (by simp) ?_
   refine al_op (op_assign rfl) rfl (by simp) ?_
   first
     | refine al_op (op_store_ptr info27 rfl rfl rfl rfl rfl rfl (by first | rfl | exact live_one rfl | (repeat (first | exact all_live_nil | refine all_live_clo rfl ?_ | refine all_live_slice rfl ?_ | refine all_live_map rfl ?_ | refine all_live_ptr rfl ?_))) (by decide)) rfl (by simp) ?_
     | refine al_op (op_store_ptr info27 rfl rfl rfl rfl rfl rfl (by first | rfl | exact live_one rfl | (repeat (first | exact all_live_nil | refine all_live_clo rfl ?_ | refine all_live_slice rfl ?_ | refine all_live_map rfl ?_ | refine all_live_ptr rfl ?_))) (Nat.le_of_ble_eq_true rfl)) rfl (by simp) ?_
   refine al_nil ?_
   refine aw_ret ?_
   refine ⟨_, res_tmp_cell rfl rfl Tryz.underlying27 info27 rfl rfl rfl rfl rfl rfl, ?_⟩
   rw [lexP_ok gh1 hlx hi (by omega)]; exact ⟨_, rfl, .tuple _ _ (frz3_cons (.leaf _ _ (frz_whole rfl rfl (List.length_map _).symm (clo_map (fun _ => rfl)))) (frz3_cons (.leaf _ _ (.same _)) frz3_nil))⟩
theorem c_Lex (s : Bs) (hs : s.length ≤ 1000000000) : ACp Tryz.prog 8 [.v (.string (str (s)))] (.tuple [.list 5 ((lexP s).1.map encK), .agg (encF (lexP s).2)]) :=
  acp_of (lexP_clo s) (ac_frz (fun _ => false) (q_Lex s hs) (by rintro x σ1 ⟨a, rfl, h⟩; exact ⟨a, _, rfl, h, rfl, keep_nothing _⟩))
end Go.Proofs.YtbojpddejdmamaaGreatDoor
