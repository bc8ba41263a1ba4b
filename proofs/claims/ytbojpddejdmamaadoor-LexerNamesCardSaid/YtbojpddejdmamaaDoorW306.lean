/- Printed walks (gen.py, lexer_ann.py): part 306. -/
import Derived.Test.YtbojpddejdmamaaDoorW305
import Derived.Test.YtbojpddejdmamaaDoorFacts
set_option linter.unusedVariables false
set_option linter.unusedSimpArgs false
set_option maxRecDepth 20000
set_option maxHeartbeats 40000000
namespace Go.Proofs.YtbojpddejdmamaaDoor
open Go

theorem q_token (s : Bs) (hs : s.length ≤ 1000000000) (hpos : 0 < s.length) : AC Tryd.prog 33 [.v (.string (str (s)))] ([]) (fun r σ' => r = .ret (.tuple [.agg (tokCells s), .v (.int .i64 (((tokA s).2.2.2 : Nat) : Int))]) ∧ σ'.keep (fun _ => false) = []) := by
 have hsl : signsL.length = 18 := by decide
 refine ac_enter 139 Tryd.func33 rfl rfl (by simp) ?_
 refine aw_seq ?_
 refine aw_region ?_
 (refine al_opR (op_alloc 2 info28 rfl rfl) rfl (by simp) ?_; rintro _ _ ⟨ver2, rfl, rfl⟩)
 refine al_op (op_assign rfl) rfl (by simp) ?_
 refine al_nil ?_
 refine aw_seq ?_
 refine aw_seq ?_
 refine aw_region ?_
 refine al_op (op_move rfl) rfl (by simp) ?_
 refine al_op (op_sidx_str Tryd.underlying9 rfl rfl (by first | (with_reducible exact Int.toNat_natCast _) | rfl) (by omega) (by first | omega | (simp; omega))) rfl (by simp) ?_
 refine al_op (op_assign rfl) rfl (by simp) ?_
 refine al_nil ?_
 refine aw_block ?_
 refine aw_seq ?_
 refine aw_region ?_
 refine al_op (op_move rfl) rfl (by simp) ?_
 first
   | refine al_callp into49 rfl rfl rfl ((q_hasPrefix _ _) _) (by simp) ?_
   | refine al_callp into49 rfl rfl rfl (acp_lent (lend_cons (by first | exact lend_same | exact .leaf _ _ (.vnil _) | exact .leaf _ _ (.nil _) | exact lend_whole rfl (by first | rfl | (simp; done) | (simp; omega)) (clo_map (fun _ => rfl))) (lend_cons (by first | exact lend_same | exact .leaf _ _ (.vnil _) | exact .leaf _ _ (.nil _) | exact lend_whole rfl (by first | rfl | (simp; done) | (simp; omega)) (clo_map (fun _ => rfl))) lend_nil)) (q_hasPrefix _ _) rfl) (by simp) ?_
 refine al_op (op_assign rfl) rfl (by simp) ?_
 refine al_nil ?_
 refine aw_cond rfl (fun h1 => ?_) (fun h1 => ?_)
 ·have gh1 := h1
  try simp only [nrm] at h1
  refine aw_seq ?_
  refine aw_region ?_
  refine al_op (op_move rfl) rfl (by simp) ?_
  refine al_op (op_cut_from Tryd.underlying9 rfl (.of rfl (show _ = ((1 : Nat) : Int) from by omega)) (by first | omega | (simp; omega))) rfl (by simp) ?_
  first
    | refine al_callp into50 rfl rfl rfl ((c_quoted _ (by first | assumption | omega | (simp; done) | (simp; omega) | decide)) _) (by simp) ?_
    | refine al_callp into50 rfl rfl rfl (acp_lent (lend_cons (by first | exact lend_same | exact .leaf _ _ (.vnil _) | exact .leaf _ _ (.nil _) | exact lend_whole rfl (by first | rfl | (simp; done) | (simp; omega)) (clo_map (fun _ => rfl))) lend_nil) (c_quoted _ (by first | assumption | omega | (simp; done) | (simp; omega) | decide)) rfl) (by simp) ?_
  refine al_op (op_move rfl) rfl (by simp) ?_
  refine al_op (op_extract rfl rfl rfl) rfl (by simp) ?_
  refine al_op (op_extract rfl rfl rfl) rfl (by simp) ?_
  refine al_op (op_assign rfl) rfl (by simp) ?_
  refine al_op (op_assign rfl) rfl (by simp) ?_
  refine al_nil ?_
  refine aw_seq ?_
  refine aw_seq ?_
  have hq5 := cutQ_len (s := s.drop 1) (n := 1000000000) (by simp; omega)
  refine aw_region ?_
  refine al_op (op_move rfl) rfl (by simp) ?_
  first
    | refine al_callp into41 rfl rfl rfl ((c_parse _ (by first | assumption | omega | (simp; done) | (simp; omega) | decide)) _) (by simp) ?_
    | refine al_callp into41 rfl rfl rfl (ac_told (re_cons (by first | exact .leaf _ _ (.same _) | exact .leaf _ _ (.vnil _) | exact .leaf _ _ (.nil _)) re_nil) ((c_parse _ (by first | assumption | omega | (simp; done) | (simp; omega) | decide)) _)) (by simp) ?_
  refine al_op (op_move rfl) rfl (by simp) ?_
  refine al_op (op_extract rfl rfl rfl) rfl (by simp) ?_
  refine al_op (op_extract rfl rfl rfl) rfl (by simp) ?_
  refine al_op (op_assign rfl) rfl (by simp) ?_
  refine al_op (op_assign rfl) rfl (by simp) ?_
  refine al_nil ?_
  refine aw_seq ?_
  have hq5 := cutQ_len (s := s.drop 1) (n := 1000000000) (by simp; omega)
  refine aw_region ?_
  refine al_op (op_move rfl) rfl (by simp) ?_
  refine al_op (op_not rfl) rfl (by simp) ?_
  refine al_op (op_move rfl) rfl (by simp) ?_
  apply al_or 3 49 52 rfl
  ·intro h2; have gh2 := h2
   try simp only [nrm] at h2
   refine al_take (op_move rfl) rfl rfl rfl rfl (by simp) ?_
   refine al_take (op_neq rfl rfl) rfl rfl rfl rfl (by simp) ?_
   first
     | refine al_op (op_pick rfl rfl) rfl (by simp) ?_
     | refine al_op (op_or rfl rfl rfl) rfl (by simp) ?_
   refine al_nil ⟨rfl, rfl, rfl, keep_of ?_⟩
   repeat (first | exact subx_refl | exact subx_known rfl gh2 subx_refl | refine subx_put rfl ?_)
  ·intro h2; have gh2 := h2
   try simp only [nrm] at h2
   refine al_pass rfl rfl rfl rfl (by simp) ?_
   refine al_pass rfl rfl rfl rfl (by simp) ?_
   first
     | refine al_op (op_pick rfl rfl) rfl (by simp) ?_
     | refine al_op (op_or rfl rfl rfl) rfl (by simp) ?_
   refine al_nil ⟨rfl, rfl, rfl, keep_of ?_⟩
   repeat (first | exact subx_refl | exact subx_known rfl gh2 subx_refl | refine subx_put rfl ?_)
  refine al_nil ?_
  refine aw_cond rfl (fun h3 => ?_) (fun h3 => ?_)
  ·have gh3 := h3
   try simp only [nrm] at h3
   refine aw_seq ?_
   refine aw_region ?_
   first
     | refine al_op (op_load_rptr Tryd.underlying28 info28 rfl rfl) rfl (by simp) ?_
     | refine al_op (op_load_map Tryd.underlying28 info28 rfl rfl (by omega) rfl) rfl (by simp) ?_
     | refine al_op (op_load_ptr Tryd.underlying28 info28 rfl rfl rfl rfl) rfl (by simp) ?_
   first
     | refine al_op (op_store_ptr info28 rfl rfl rfl rfl rfl rfl (by first | rfl | exact live_one rfl | (repeat (first | exact all_live_nil | refine all_live_clo rfl ?_ | refine all_live_slice rfl ?_ | refine all_live_map rfl ?_ | refine all_live_ptr rfl ?_))) (by decide)) rfl (by simp) ?_
     | refine al_op (op_store_ptr info28 rfl rfl rfl rfl rfl rfl (by first | rfl | exact live_one rfl | (repeat (first | exact all_live_nil | refine all_live_clo rfl ?_ | refine all_live_slice rfl ?_ | refine all_live_map rfl ?_ | refine all_live_ptr rfl ?_))) (Nat.le_of_ble_eq_true rfl)) rfl (by simp) ?_
   refine al_op (op_assign rfl) rfl (by simp) ?_
   refine al_nil ?_
   refine aw_ret ?_
   refine ⟨_, res_cell_tmp rfl Tryd.underlying28 info28 rfl rfl rfl rfl rfl rfl rfl, ?_⟩
   exact ⟨(by rw [tokCells, tok_novec gh1 gh3]; rfl), rfl⟩
  ·have gh3 := h3
   try simp only [nrm] at h3
   refine aw_skip ?_
   refine aw_seq ?_
   refine aw_region ?_
   refine al_op (op_move rfl) rfl (by simp) ?_
   refine al_op (op_build_struct Tryd.underlying28 info28 rfl place28 rfl (by first | rfl | (repeat (first | exact parts_nil | refine parts_cons rfl (by repeat (first | exact all_live_nil | refine all_live_clo rfl ?_ | refine all_live_slice rfl ?_ | refine all_live_map rfl ?_ | refine all_live_ptr rfl ?_)) ?_))) rfl) rfl (by simp) ?_
   refine al_op (op_move rfl) rfl (by simp) ?_
   refine al_op (op_slen_str (ts := #[]) Tryd.underlying9 rfl) rfl (by simp) ?_
   refine al_op (op_add rfl rfl (by first | exact wrap_i64 (by omega) (by omega))) rfl (by simp) ?_
   first
     | refine al_op (op_store_ptr info28 rfl rfl rfl rfl rfl rfl (by first | rfl | exact live_one rfl | (repeat (first | exact all_live_nil | refine all_live_clo rfl ?_ | refine all_live_slice rfl ?_ | refine all_live_map rfl ?_ | refine all_live_ptr rfl ?_))) (by decide)) rfl (by simp) ?_
     | refine al_op (op_store_ptr info28 rfl rfl rfl rfl rfl rfl (by first | rfl | exact live_one rfl | (repeat (first | exact all_live_nil | refine all_live_clo rfl ?_ | refine all_live_slice rfl ?_ | refine all_live_map rfl ?_ | refine all_live_ptr rfl ?_))) (Nat.le_of_ble_eq_true rfl)) rfl (by simp) ?_
   refine al_op (op_assign rfl) rfl (by simp) ?_
   refine al_nil ?_
   refine aw_ret ?_
   refine ⟨_, res_cell_tmp rfl Tryd.underlying28 info28 rfl rfl rfl rfl rfl rfl rfl, ?_⟩
   exact ⟨(by rw [tokCells, tok_vec gh1 gh3]; rfl), rfl⟩
 ·have gh1 := h1
  try simp only [nrm] at h1
  refine aw_seq ?_
  refine aw_region ?_
  refine al_op (op_move rfl) rfl (by simp) ?_
  first
    | refine al_callp into21 rfl rfl rfl ((c_letter _) _) (by simp) ?_
    | refine al_callp into21 rfl rfl rfl (acp_lent (lend_cons (by first | exact lend_same | exact .leaf _ _ (.vnil _) | exact .leaf _ _ (.nil _) | exact lend_whole rfl (by first | rfl | (simp; done) | (simp; omega)) (clo_map (fun _ => rfl))) lend_nil) (c_letter _) rfl) (by simp) ?_
  refine al_op (op_assign rfl) rfl (by simp) ?_
  refine al_nil ?_
  refine aw_cond rfl (fun h4 => ?_) (fun h4 => ?_)
  ·have gh4 := h4
   try simp only [nrm] at h4
   refine aw_seq ?_
   refine aw_region ?_
   refine al_op (op_move rfl) rfl (by simp) ?_
   first
     | refine al_callp into51 rfl rfl rfl ((c_runpart _ (by first | assumption | omega | (simp; omega))) _) (by simp) ?_
     | refine al_callp into51 rfl rfl rfl (acp_lent (lend_cons (by first | exact lend_same | exact .leaf _ _ (.vnil _) | exact .leaf _ _ (.nil _) | exact lend_whole rfl (by first | rfl | (simp; done) | (simp; omega)) (clo_map (fun _ => rfl))) (lend_cons (by first | exact lend_same | exact .leaf _ _ (.vnil _) | exact .leaf _ _ (.nil _) | exact lend_whole rfl (by first | rfl | (simp; done) | (simp; omega)) (clo_map (fun _ => rfl))) lend_nil)) (c_runpart _ (by first | assumption | omega | (simp; omega))) rfl) (by simp) ?_
   refine al_op (op_assign rfl) rfl (by simp) ?_
   refine al_nil ?_
   refine aw_block ?_
   refine aw_seq ?_
   have hw5 := takeWhile_len isPartC s
   refine aw_region ?_
   refine al_op (op_move rfl) rfl (by simp) ?_
   first
     | refine al_callp into12 rfl rfl rfl ((c_isWord _ (by first | assumption | omega | (simp; done) | (simp; omega) | decide)) _) (by simp) ?_
     | refine al_callp into12 rfl rfl rfl (acp_lent (lend_cons (by first | exact lend_same | exact .leaf _ _ (.vnil _) | exact .leaf _ _ (.nil _) | exact lend_whole rfl (by first | rfl | (simp; done) | (simp; omega)) (clo_map (fun _ => rfl))) lend_nil) (c_isWord _ (by first | assumption | omega | (simp; done) | (simp; omega) | decide)) rfl) (by simp) ?_
   refine al_op (op_assign rfl) rfl (by simp) ?_
   refine al_nil ?_
   refine aw_cond rfl (fun h5 => ?_) (fun h5 => ?_)
   ·have gh5 := h5
    try simp only [nrm] at h5
    refine aw_seq ?_
    refine aw_region ?_
    refine al_op (op_move rfl) rfl (by simp) ?_
    refine al_op (op_build_struct Tryd.underlying28 info28 rfl place28 rfl (by first | rfl | (repeat (first | exact parts_nil | refine parts_cons rfl (by repeat (first | exact all_live_nil | refine all_live_clo rfl ?_ | refine all_live_slice rfl ?_ | refine all_live_map rfl ?_ | refine all_live_ptr rfl ?_)) ?_))) rfl) rfl (by simp) ?_
    refine al_op (op_move rfl) rfl (by simp) ?_
    refine al_op (op_slen_str (ts := #[]) Tryd.underlying9 rfl) rfl (by simp) ?_
    first
      | refine al_op (op_store_ptr info28 rfl rfl rfl rfl rfl rfl (by first | rfl | exact live_one rfl | (repeat (first | exact all_live_nil | refine all_live_clo rfl ?_ | refine all_live_slice rfl ?_ | refine all_live_map rfl ?_ | refine all_live_ptr rfl ?_))) (by decide)) rfl (by simp) ?_
      | refine al_op (op_store_ptr info28 rfl rfl rfl rfl rfl rfl (by first | rfl | exact live_one rfl | (repeat (first | exact all_live_nil | refine all_live_clo rfl ?_ | refine all_live_slice rfl ?_ | refine all_live_map rfl ?_ | refine all_live_ptr rfl ?_))) (Nat.le_of_ble_eq_true rfl)) rfl (by simp) ?_
    refine al_op (op_assign rfl) rfl (by simp) ?_
    refine al_nil ?_
    refine aw_ret ?_
    refine ⟨_, res_cell_tmp rfl Tryd.underlying28 info28 rfl rfl rfl rfl rfl rfl rfl, ?_⟩
    exact ⟨(by rw [tokCells, tok_word gh1 gh4 gh5]; rfl), rfl⟩
   ·have gh5 := h5
    try simp only [nrm] at h5
    refine aw_seq ?_
    refine aw_region ?_
    refine al_op (op_move rfl) rfl (by simp) ?_
    first
      | refine al_callp into11 rfl rfl rfl ((c_isName _ (by first | assumption | omega | (simp; done) | (simp; omega) | decide)) _) (by simp) ?_
      | refine al_callp into11 rfl rfl rfl (acp_lent (lend_cons (by first | exact lend_same | exact .leaf _ _ (.vnil _) | exact .leaf _ _ (.nil _) | exact lend_whole rfl (by first | rfl | (simp; done) | (simp; omega)) (clo_map (fun _ => rfl))) lend_nil) (c_isName _ (by first | assumption | omega | (simp; done) | (simp; omega) | decide)) rfl) (by simp) ?_
    refine al_op (op_assign rfl) rfl (by simp) ?_
    refine al_nil ?_
    refine aw_cond rfl (fun h6 => ?_) (fun h6 => ?_)
    ·have gh6 := h6
     try simp only [nrm] at h6
     refine aw_seq ?_
     refine aw_region ?_
     refine al_op (op_move rfl) rfl (by simp) ?_
     refine al_op (op_build_struct Tryd.underlying28 info28 rfl place28 rfl (by first | rfl | (repeat (first | exact parts_nil | refine parts_cons rfl (by repeat (first | exact all_live_nil | refine all_live_clo rfl ?_ | refine all_live_slice rfl ?_ | refine all_live_map rfl ?_ | refine all_live_ptr rfl ?_)) ?_))) rfl) rfl (by simp) ?_
     refine al_op (op_move rfl) rfl (by simp) ?_
     refine al_op (op_slen_str (ts := #[]) Tryd.underlying9 rfl) rfl (by simp) ?_
     first
       | refine al_op (op_store_ptr info28 rfl rfl rfl rfl rfl rfl (by first | rfl | exact live_one rfl | (repeat (first | exact all_live_nil | refine all_live_clo rfl ?_ | refine all_live_slice rfl ?_ | refine all_live_map rfl ?_ | refine all_live_ptr rfl ?_))) (by decide)) rfl (by simp) ?_
       | refine al_op (op_store_ptr info28 rfl rfl rfl rfl rfl rfl (by first | rfl | exact live_one rfl | (repeat (first | exact all_live_nil | refine all_live_clo rfl ?_ | refine all_live_slice rfl ?_ | refine all_live_map rfl ?_ | refine all_live_ptr rfl ?_))) (Nat.le_of_ble_eq_true rfl)) rfl (by simp) ?_
     refine al_op (op_assign rfl) rfl (by simp) ?_
     refine al_nil ?_
     refine aw_ret ?_
     refine ⟨_, res_cell_tmp rfl Tryd.underlying28 info28 rfl rfl rfl rfl rfl rfl rfl, ?_⟩
     exact ⟨(by rw [tokCells, tok_name gh1 gh4 gh5 gh6]; rfl), rfl⟩
    ·have gh6 := h6
     try simp only [nrm] at h6
     refine aw_skip ?_
     refine aw_seq ?_
     refine aw_region ?_
     first
       | refine al_op (op_load_rptr Tryd.underlying28 info28 rfl rfl) rfl (by simp) ?_
       | refine al_op (op_load_map Tryd.underlying28 info28 rfl rfl (by omega) rfl) rfl (by simp) ?_
       | refine al_op (op_load_ptr Tryd.underlying28 info28 rfl rfl rfl rfl) rfl (by simp) ?_
     first
       | refine al_op (op_store_ptr info28 rfl rfl rfl rfl rfl rfl (by first | rfl | exact live_one rfl | (repeat (first | exact all_live_nil | refine all_live_clo rfl ?_ | refine all_live_slice rfl ?_ | refine all_live_map rfl ?_ | refine all_live_ptr rfl ?_))) (by decide)) rfl (by simp) ?_
       | refine al_op (op_store_ptr info28 rfl rfl rfl rfl rfl rfl (by first | rfl | exact live_one rfl | (repeat (first | exact all_live_nil | refine all_live_clo rfl ?_ | refine all_live_slice rfl ?_ | refine all_live_map rfl ?_ | refine all_live_ptr rfl ?_))) (Nat.le_of_ble_eq_true rfl)) rfl (by simp) ?_
     refine al_op (op_assign rfl) rfl (by simp) ?_
     refine al_nil ?_
     refine aw_ret ?_
     refine ⟨_, res_cell_tmp rfl Tryd.underlying28 info28 rfl rfl rfl rfl rfl rfl rfl, ?_⟩
     exact ⟨(by rw [tokCells, tok_noname gh1 gh4 gh5 gh6]; rfl), rfl⟩
  ·have gh4 := h4
   try simp only [nrm] at h4
   refine aw_seq ?_
   refine aw_region ?_
   refine al_op (op_move rfl) rfl (by simp) ?_
   first
     | refine al_callp into37 rfl rfl rfl ((c_digit _) _) (by simp) ?_
     | refine al_callp into37 rfl rfl rfl (acp_lent (lend_cons (by first | exact lend_same | exact .leaf _ _ (.vnil _) | exact .leaf _ _ (.nil _) | exact lend_whole rfl (by first | rfl | (simp; done) | (simp; omega)) (clo_map (fun _ => rfl))) lend_nil) (c_digit _) rfl) (by simp) ?_
   refine al_op (op_assign rfl) rfl (by simp) ?_
   refine al_nil ?_
   refine aw_cond rfl (fun h7 => ?_) (fun h7 => ?_)
   ·have gh7 := h7
    try simp only [nrm] at h7
    refine aw_seq ?_
    refine aw_region ?_
    refine al_op (op_move rfl) rfl (by simp) ?_
    first
      | refine al_callp into51 rfl rfl rfl ((c_runpart _ (by first | assumption | omega | (simp; omega))) _) (by simp) ?_
      | refine al_callp into51 rfl rfl rfl (acp_lent (lend_cons (by first | exact lend_same | exact .leaf _ _ (.vnil _) | exact .leaf _ _ (.nil _) | exact lend_whole rfl (by first | rfl | (simp; done) | (simp; omega)) (clo_map (fun _ => rfl))) (lend_cons (by first | exact lend_same | exact .leaf _ _ (.vnil _) | exact .leaf _ _ (.nil _) | exact lend_whole rfl (by first | rfl | (simp; done) | (simp; omega)) (clo_map (fun _ => rfl))) lend_nil)) (c_runpart _ (by first | assumption | omega | (simp; omega))) rfl) (by simp) ?_
    refine al_op (op_assign rfl) rfl (by simp) ?_
    refine al_nil ?_
    refine aw_seq ?_
    have hw5 := takeWhile_len isPartC s
    refine aw_region ?_
    refine al_op (op_move rfl) rfl (by simp) ?_
    first
      | refine al_callp into52 rfl rfl rfl ((c_integer _ (by first | assumption | omega | (simp; done) | (simp; omega) | decide)) _) (by simp) ?_
      | refine al_callp into52 rfl rfl rfl (acp_lent (lend_cons (by first | exact lend_same | exact .leaf _ _ (.vnil _) | exact .leaf _ _ (.nil _) | exact lend_whole rfl (by first | rfl | (simp; done) | (simp; omega)) (clo_map (fun _ => rfl))) lend_nil) (c_integer _ (by first | assumption | omega | (simp; done) | (simp; omega) | decide)) rfl) (by simp) ?_
    refine al_op (op_move rfl) rfl (by simp) ?_
    refine al_op (op_extract rfl rfl rfl) rfl (by simp) ?_
    refine al_op (op_extract rfl rfl rfl) rfl (by simp) ?_
    refine al_op (op_assign rfl) rfl (by simp) ?_
    refine al_op (op_assign rfl) rfl (by simp) ?_
    refine al_nil ?_
    refine aw_seq ?_
    refine aw_region ?_
    refine al_op (op_move rfl) rfl (by simp) ?_
    refine al_op (op_move rfl) rfl (by simp) ?_
    apply al_and 5 89 94 rfl
    ·intro h8; have gh8 := h8
     try simp only [nrm] at h8
     refine al_take (op_move rfl) rfl rfl rfl rfl (by simp) ?_
     first
       | refine al_callp_take into51 rfl rfl rfl rfl rfl rfl ((c_rundigit _ (by first | assumption | omega | (simp; omega))) _) (by simp) ?_
       | refine al_callp_take into51 rfl rfl rfl rfl rfl rfl (acp_lent (lend_cons (by first | exact lend_same | exact .leaf _ _ (.vnil _) | exact .leaf _ _ (.nil _) | exact lend_whole rfl (by first | rfl | (simp; done) | (simp; omega)) (clo_map (fun _ => rfl))) (lend_cons (by first | exact lend_same | exact .leaf _ _ (.vnil _) | exact .leaf _ _ (.nil _) | exact lend_whole rfl (by first | rfl | (simp; done) | (simp; omega)) (clo_map (fun _ => rfl))) lend_nil)) (c_rundigit _ (by first | assumption | omega | (simp; omega))) rfl) (by simp) ?_
     refine al_take (op_move rfl) rfl rfl rfl rfl (by simp) ?_
     refine al_take (op_seql_str rfl rfl) rfl rfl rfl rfl (by simp) ?_
     first
       | refine al_op (op_pick rfl rfl) rfl (by simp) ?_
       | refine al_op (op_and rfl rfl rfl) rfl (by simp) ?_
     refine al_nil ⟨rfl, rfl, rfl, keep_of ?_⟩
     repeat (first | exact subx_refl | exact subx_known rfl gh8 subx_refl | refine subx_put rfl ?_)
    ·intro h8; have gh8 := h8
     try simp only [nrm] at h8
     refine al_pass rfl rfl rfl rfl (by simp) ?_
     refine al_pass rfl rfl rfl rfl (by simp) ?_
     refine al_pass rfl rfl rfl rfl (by simp) ?_
     refine al_pass rfl rfl rfl rfl (by simp) ?_
     first
       | refine al_op (op_pick rfl rfl) rfl (by simp) ?_
       | refine al_op (op_and rfl rfl rfl) rfl (by simp) ?_
     refine al_nil ⟨rfl, rfl, rfl, keep_of ?_⟩
     repeat (first | exact subx_refl | exact subx_known rfl gh8 subx_refl | refine subx_put rfl ?_)
    refine al_nil ?_
    refine aw_cond rfl (fun h9 => ?_) (fun h9 => ?_)
    ·have gh9 := h9
     try simp only [nrm] at h9
     refine aw_seq ?_
     refine aw_region ?_
     refine al_op (op_move rfl) rfl (by simp) ?_
     refine al_op (op_build_struct Tryd.underlying28 info28 rfl place28 rfl (by first | rfl | (repeat (first | exact parts_nil | refine parts_cons rfl (by repeat (first | exact all_live_nil | refine all_live_clo rfl ?_ | refine all_live_slice rfl ?_ | refine all_live_map rfl ?_ | refine all_live_ptr rfl ?_)) ?_))) rfl) rfl (by simp) ?_
     refine al_op (op_move rfl) rfl (by simp) ?_
     refine al_op (op_slen_str (ts := #[]) Tryd.underlying9 rfl) rfl (by simp) ?_
     first
       | refine al_op (op_store_ptr info28 rfl rfl rfl rfl rfl rfl (by first | rfl | exact live_one rfl | (repeat (first | exact all_live_nil | refine all_live_clo rfl ?_ | refine all_live_slice rfl ?_ | refine all_live_map rfl ?_ | refine all_live_ptr rfl ?_))) (by decide)) rfl (by simp) ?_
       | refine al_op (op_store_ptr info28 rfl rfl rfl rfl rfl rfl (by first | rfl | exact live_one rfl | (repeat (first | exact all_live_nil | refine all_live_clo rfl ?_ | refine all_live_slice rfl ?_ | refine all_live_map rfl ?_ | refine all_live_ptr rfl ?_))) (Nat.le_of_ble_eq_true rfl)) rfl (by simp) ?_
     refine al_op (op_assign rfl) rfl (by simp) ?_
     refine al_nil ?_
     refine aw_ret ?_
     refine ⟨_, res_cell_tmp rfl Tryd.underlying28 info28 rfl rfl rfl rfl rfl rfl rfl, ?_⟩
     exact ⟨(by rw [tokCells, tok_int gh1 gh4 gh7 gh9]; rfl), rfl⟩
    ·have gh9 := h9
     try simp only [nrm] at h9
     refine aw_skip ?_
     refine aw_seq ?_
     refine aw_region ?_
     first
       | refine al_op (op_load_rptr Tryd.underlying28 info28 rfl rfl) rfl (by simp) ?_
       | refine al_op (op_load_map Tryd.underlying28 info28 rfl rfl (by omega) rfl) rfl (by simp) ?_
       | refine al_op (op_load_ptr Tryd.underlying28 info28 rfl rfl rfl rfl) rfl (by simp) ?_
     first
       | refine al_op (op_store_ptr info28 rfl rfl rfl rfl rfl rfl (by first | rfl | exact live_one rfl | (repeat (first | exact all_live_nil | refine all_live_clo rfl ?_ | refine all_live_slice rfl ?_ | refine all_live_map rfl ?_ | refine all_live_ptr rfl ?_))) (by decide)) rfl (by simp) ?_
       | refine al_op (op_store_ptr info28 rfl rfl rfl rfl rfl rfl (by first | rfl | exact live_one rfl | (repeat (first | exact all_live_nil | refine all_live_clo rfl ?_ | refine all_live_slice rfl ?_ | refine all_live_map rfl ?_ | refine all_live_ptr rfl ?_))) (Nat.le_of_ble_eq_true rfl)) rfl (by simp) ?_
     refine al_op (op_assign rfl) rfl (by simp) ?_
     refine al_nil ?_
     refine aw_ret ?_
     refine ⟨_, res_cell_tmp rfl Tryd.underlying28 info28 rfl rfl rfl rfl rfl rfl rfl, ?_⟩
     exact ⟨(by rw [tokCells, tok_noint gh1 gh4 gh7 gh9]; rfl), rfl⟩
   ·have gh7 := h7
    try simp only [nrm] at h7
    refine aw_seq ?_
    refine aw_region ?_
    refine al_op (op_move rfl) rfl (by simp) ?_
    refine al_op (op_eql rfl rfl) rfl (by simp) ?_
    refine al_op (op_assign rfl) rfl (by simp) ?_
    refine al_nil ?_
    refine aw_cond rfl (fun h10 => ?_) (fun h10 => ?_)
    ·have gh10 := h10
     try simp only [nrm] at h10
     refine aw_seq ?_
     refine aw_region ?_
     refine al_op (op_move rfl) rfl (by simp) ?_
     refine al_op (op_slen_str (ts := #[]) Tryd.underlying9 rfl) rfl (by simp) ?_
     refine al_op (op_gtr rfl rfl) rfl (by simp) ?_
     refine al_op (op_move rfl) rfl (by simp) ?_
     apply al_and 5 105 110 rfl
     ·intro h11; have gh11 := h11
      try simp only [nrm] at h11
      refine al_take (op_move rfl) rfl rfl rfl rfl (by simp) ?_
      refine al_take (op_sidx_str Tryd.underlying9 rfl rfl (by first | (with_reducible exact Int.toNat_natCast _) | rfl) (by omega) (by first | omega | (simp; omega))) rfl rfl rfl rfl (by simp) ?_
      refine al_take (op_move rfl) rfl rfl rfl rfl (by simp) ?_
      refine al_take (op_eql rfl rfl) rfl rfl rfl rfl (by simp) ?_
      first
        | refine al_op (op_pick rfl rfl) rfl (by simp) ?_
        | refine al_op (op_and rfl rfl rfl) rfl (by simp) ?_
      refine al_nil ⟨rfl, rfl, rfl, keep_of ?_⟩
      repeat (first | exact subx_refl | exact subx_known rfl gh11 subx_refl | refine subx_put rfl ?_)
     ·intro h11; have gh11 := h11
      try simp only [nrm] at h11
      refine al_pass rfl rfl rfl rfl (by simp) ?_
      refine al_pass rfl rfl rfl rfl (by simp) ?_
      refine al_pass rfl rfl rfl rfl (by simp) ?_
      refine al_pass rfl rfl rfl rfl (by simp) ?_
      first
        | refine al_op (op_pick rfl rfl) rfl (by simp) ?_
        | refine al_op (op_and rfl rfl rfl) rfl (by simp) ?_
      refine al_nil ⟨rfl, rfl, rfl, keep_of ?_⟩
      repeat (first | exact subx_refl | exact subx_known rfl gh11 subx_refl | refine subx_put rfl ?_)
     refine al_op (op_move rfl) rfl (by simp) ?_
     apply al_and 5 111 116 rfl
     ·intro h12; have gh12 := h12
      try simp only [nrm] at h12
      refine al_take (op_move rfl) rfl rfl rfl rfl (by simp) ?_
      refine al_take (op_sidx_str Tryd.underlying9 rfl rfl (by first | (with_reducible exact Int.toNat_natCast _) | rfl) (by omega) (by first | omega | (simp; omega))) rfl rfl rfl rfl (by simp) ?_
      first
        | refine al_callp_take into48 rfl rfl rfl rfl rfl rfl ((q_indexByte _ _) _) (by simp) ?_
        | refine al_callp_take into48 rfl rfl rfl rfl rfl rfl (acp_lent (lend_cons (by first | exact lend_same | exact .leaf _ _ (.vnil _) | exact .leaf _ _ (.nil _) | exact lend_whole rfl (by first | rfl | (simp; done) | (simp; omega)) (clo_map (fun _ => rfl))) (lend_cons (by first | exact lend_same | exact .leaf _ _ (.vnil _) | exact .leaf _ _ (.nil _) | exact lend_whole rfl (by first | rfl | (simp; done) | (simp; omega)) (clo_map (fun _ => rfl))) lend_nil)) (q_indexByte _ _) rfl) (by simp) ?_
      refine al_take (op_geq rfl rfl) rfl rfl rfl rfl (by simp) ?_
      first
        | refine al_op (op_pick rfl rfl) rfl (by simp) ?_
        | refine al_op (op_and rfl rfl rfl) rfl (by simp) ?_
      refine al_nil ⟨rfl, rfl, rfl, keep_of ?_⟩
      repeat (first | exact subx_refl | exact subx_known rfl gh12 subx_refl | refine subx_put rfl ?_)
     ·intro h12; have gh12 := h12
      try simp only [nrm] at h12
      refine al_pass rfl rfl rfl rfl (by simp) ?_
      refine al_pass rfl rfl rfl rfl (by simp) ?_
      refine al_pass rfl rfl rfl rfl (by simp) ?_
      refine al_pass rfl rfl rfl rfl (by simp) ?_
      first
        | refine al_op (op_pick rfl rfl) rfl (by simp) ?_
        | refine al_op (op_and rfl rfl rfl) rfl (by simp) ?_
      refine al_nil ⟨rfl, rfl, rfl, keep_of ?_⟩
      repeat (first | exact subx_refl | exact subx_known rfl gh12 subx_refl | refine subx_put rfl ?_)
     refine al_nil ?_
     refine aw_cond rfl (fun h13 => ?_) (fun h13 => ?_)
     ·have gh13 := h13
      try simp only [nrm] at h13
      refine aw_seq ?_
      refine aw_region ?_
      refine al_op (op_move rfl) rfl (by simp) ?_
      refine al_op (op_cut_str Tryd.underlying9 rfl (.of rfl (show _ = ((1 : Nat) : Int) from by omega)) (.of rfl (show _ = ((2 : Nat) : Int) from by omega)) (by omega) (by first | omega | (simp; omega))) rfl (by simp) ?_
      refine al_op (op_build_struct Tryd.underlying28 info28 rfl place28 rfl (by first | rfl | (repeat (first | exact parts_nil | refine parts_cons rfl (by repeat (first | exact all_live_nil | refine all_live_clo rfl ?_ | refine all_live_slice rfl ?_ | refine all_live_map rfl ?_ | refine all_live_ptr rfl ?_)) ?_))) rfl) rfl (by simp) ?_
      first
        | refine al_op (op_store_ptr info28 rfl rfl rfl rfl rfl rfl (by first | rfl | exact live_one rfl | (repeat (first | exact all_live_nil | refine all_live_clo rfl ?_ | refine all_live_slice rfl ?_ | refine all_live_map rfl ?_ | refine all_live_ptr rfl ?_))) (by decide)) rfl (by simp) ?_
        | refine al_op (op_store_ptr info28 rfl rfl rfl rfl rfl rfl (by first | rfl | exact live_one rfl | (repeat (first | exact all_live_nil | refine all_live_clo rfl ?_ | refine all_live_slice rfl ?_ | refine all_live_map rfl ?_ | refine all_live_ptr rfl ?_))) (Nat.le_of_ble_eq_true rfl)) rfl (by simp) ?_
      refine al_op (op_assign rfl) rfl (by simp) ?_
      refine al_nil ?_
      refine aw_ret ?_
      refine ⟨_, res_cell_tmp rfl Tryd.underlying28 info28 rfl rfl rfl rfl rfl rfl rfl, ?_⟩
      exact ⟨(by rw [tokCells, tok_bit gh1 gh4 gh7 gh10 gh13]; rfl), rfl⟩
     ·have gh13 := h13
      try simp only [nrm] at h13
      refine aw_skip ?_
      refine aw_seq ?_
      refine aw_region ?_
      first
        | refine al_op (op_load_rptr Tryd.underlying28 info28 rfl rfl) rfl (by simp) ?_
        | refine al_op (op_load_map Tryd.underlying28 info28 rfl rfl (by omega) rfl) rfl (by simp) ?_
        | refine al_op (op_load_ptr Tryd.underlying28 info28 rfl rfl rfl rfl) rfl (by simp) ?_
      first
        | refine al_op (op_store_ptr info28 rfl rfl rfl rfl rfl rfl (by first | rfl | exact live_one rfl | (repeat (first | exact all_live_nil | refine all_live_clo rfl ?_ | refine all_live_slice rfl ?_ | refine all_live_map rfl ?_ | refine all_live_ptr rfl ?_))) (by decide)) rfl (by simp) ?_
        | refine al_op (op_store_ptr info28 rfl rfl rfl rfl rfl rfl (by first | rfl | exact live_one rfl | (repeat (first | exact all_live_nil | refine all_live_clo rfl ?_ | refine all_live_slice rfl ?_ | refine all_live_map rfl ?_ | refine all_live_ptr rfl ?_))) (Nat.le_of_ble_eq_true rfl)) rfl (by simp) ?_
      refine al_op (op_assign rfl) rfl (by simp) ?_
      refine al_nil ?_
      refine aw_ret ?_
      refine ⟨_, res_cell_tmp rfl Tryd.underlying28 info28 rfl rfl rfl rfl rfl rfl rfl, ?_⟩
      exact ⟨(by rw [tokCells, tok_nobit gh1 gh4 gh7 gh10 gh13]; rfl), rfl⟩
    ·have gh10 := h10
     try simp only [nrm] at h10
     refine aw_seq ?_
     refine aw_region ?_
     refine al_op (op_move rfl) rfl (by simp) ?_
     refine al_op (op_eql rfl rfl) rfl (by simp) ?_
     refine al_op (op_assign rfl) rfl (by simp) ?_
     refine al_nil ?_
     refine aw_cond rfl (fun h14 => ?_) (fun h14 => ?_)
     ·have gh14 := h14
      try simp only [nrm] at h14
      refine aw_seq ?_
      refine aw_region ?_
      refine al_op (op_move rfl) rfl (by simp) ?_
      first
        | refine al_callp into50 rfl rfl rfl ((c_quoted _ (by first | assumption | omega | (simp; done) | (simp; omega) | decide)) _) (by simp) ?_
        | refine al_callp into50 rfl rfl rfl (acp_lent (lend_cons (by first | exact lend_same | exact .leaf _ _ (.vnil _) | exact .leaf _ _ (.nil _) | exact lend_whole rfl (by first | rfl | (simp; done) | (simp; omega)) (clo_map (fun _ => rfl))) lend_nil) (c_quoted _ (by first | assumption | omega | (simp; done) | (simp; omega) | decide)) rfl) (by simp) ?_
      refine al_op (op_move rfl) rfl (by simp) ?_
      refine al_op (op_extract rfl rfl rfl) rfl (by simp) ?_
      refine al_op (op_extract rfl rfl rfl) rfl (by simp) ?_
      refine al_op (op_assign rfl) rfl (by simp) ?_
      refine al_op (op_assign rfl) rfl (by simp) ?_
      refine al_nil ?_
      refine aw_seq ?_
      have hq5 := cutQ_len (s := s) hs
      refine aw_region ?_
      refine al_op (op_move rfl) rfl (by simp) ?_
      refine al_op (op_move rfl) rfl (by simp) ?_
      apply al_and 3 129 132 rfl
      ·intro h15; have gh15 := h15
       try simp only [nrm] at h15
       refine al_take (op_move rfl) rfl rfl rfl rfl (by simp) ?_
       first
         | refine al_callp_take into42 rfl rfl rfl rfl rfl rfl ((c_isText _ (by first | assumption | omega | (simp; done) | (simp; omega) | decide)) _) (by simp) ?_
         | refine al_callp_take into42 rfl rfl rfl rfl rfl rfl (acp_lent (lend_cons (by first | exact lend_same | exact .leaf _ _ (.vnil _) | exact .leaf _ _ (.nil _) | exact lend_whole rfl (by first | rfl | (simp; done) | (simp; omega)) (clo_map (fun _ => rfl))) lend_nil) (c_isText _ (by first | assumption | omega | (simp; done) | (simp; omega) | decide)) rfl) (by simp) ?_
       first
         | refine al_op (op_pick rfl rfl) rfl (by simp) ?_
         | refine al_op (op_and rfl rfl rfl) rfl (by simp) ?_
       refine al_nil ⟨rfl, rfl, rfl, keep_of ?_⟩
       repeat (first | exact subx_refl | exact subx_known rfl gh15 subx_refl | refine subx_put rfl ?_)
      ·intro h15; have gh15 := h15
       try simp only [nrm] at h15
       refine al_pass rfl rfl rfl rfl (by simp) ?_
       refine al_pass rfl rfl rfl rfl (by simp) ?_
       first
         | refine al_op (op_pick rfl rfl) rfl (by simp) ?_
         | refine al_op (op_and rfl rfl rfl) rfl (by simp) ?_
       refine al_nil ⟨rfl, rfl, rfl, keep_of ?_⟩
       repeat (first | exact subx_refl | exact subx_known rfl gh15 subx_refl | refine subx_put rfl ?_)
      refine al_nil ?_
      refine aw_cond rfl (fun h16 => ?_) (fun h16 => ?_)
      ·have gh16 := h16
       try simp only [nrm] at h16
       refine aw_seq ?_
       refine aw_region ?_
       refine al_op (op_move rfl) rfl (by simp) ?_
       refine al_op (op_build_struct Tryd.underlying28 info28 rfl place28 rfl (by first | rfl | (repeat (first | exact parts_nil | refine parts_cons rfl (by repeat (first | exact all_live_nil | refine all_live_clo rfl ?_ | refine all_live_slice rfl ?_ | refine all_live_map rfl ?_ | refine all_live_ptr rfl ?_)) ?_))) rfl) rfl (by simp) ?_
       refine al_op (op_move rfl) rfl (by simp) ?_
       refine al_op (op_slen_str (ts := #[]) Tryd.underlying9 rfl) rfl (by simp) ?_
       refine al_op (op_add rfl rfl (by first | exact wrap_i64 (by omega) (by omega))) rfl (by simp) ?_
       first
         | refine al_op (op_store_ptr info28 rfl rfl rfl rfl rfl rfl (by first | rfl | exact live_one rfl | (repeat (first | exact all_live_nil | refine all_live_clo rfl ?_ | refine all_live_slice rfl ?_ | refine all_live_map rfl ?_ | refine all_live_ptr rfl ?_))) (by decide)) rfl (by simp) ?_
         | refine al_op (op_store_ptr info28 rfl rfl rfl rfl rfl rfl (by first | rfl | exact live_one rfl | (repeat (first | exact all_live_nil | refine all_live_clo rfl ?_ | refine all_live_slice rfl ?_ | refine all_live_map rfl ?_ | refine all_live_ptr rfl ?_))) (Nat.le_of_ble_eq_true rfl)) rfl (by simp) ?_
       refine al_op (op_assign rfl) rfl (by simp) ?_
       refine al_nil ?_
       refine aw_ret ?_
       refine ⟨_, res_cell_tmp rfl Tryd.underlying28 info28 rfl rfl rfl rfl rfl rfl rfl, ?_⟩
       exact ⟨(by rw [tokCells, tok_text gh1 gh4 gh7 gh10 gh14 gh16]; rfl), rfl⟩
      ·have gh16 := h16
       try simp only [nrm] at h16
       refine aw_skip ?_
       refine aw_seq ?_
       refine aw_region ?_
       first
         | refine al_op (op_load_rptr Tryd.underlying28 info28 rfl rfl) rfl (by simp) ?_
         | refine al_op (op_load_map Tryd.underlying28 info28 rfl rfl (by omega) rfl) rfl (by simp) ?_
         | refine al_op (op_load_ptr Tryd.underlying28 info28 rfl rfl rfl rfl) rfl (by simp) ?_
       first
         | refine al_op (op_store_ptr info28 rfl rfl rfl rfl rfl rfl (by first | rfl | exact live_one rfl | (repeat (first | exact all_live_nil | refine all_live_clo rfl ?_ | refine all_live_slice rfl ?_ | refine all_live_map rfl ?_ | refine all_live_ptr rfl ?_))) (by decide)) rfl (by simp) ?_
         | refine al_op (op_store_ptr info28 rfl rfl rfl rfl rfl rfl (by first | rfl | exact live_one rfl | (repeat (first | exact all_live_nil | refine all_live_clo rfl ?_ | refine all_live_slice rfl ?_ | refine all_live_map rfl ?_ | refine all_live_ptr rfl ?_))) (Nat.le_of_ble_eq_true rfl)) rfl (by simp) ?_
       refine al_op (op_assign rfl) rfl (by simp) ?_
       refine al_nil ?_
       refine aw_ret ?_
       refine ⟨_, res_cell_tmp rfl Tryd.underlying28 info28 rfl rfl rfl rfl rfl rfl rfl, ?_⟩
       exact ⟨(by rw [tokCells, tok_notext gh1 gh4 gh7 gh10 gh14 gh16]; rfl), rfl⟩
     ·have gh14 := h14
      try simp only [nrm] at h14
      refine aw_seq ?_
      refine aw_region ?_
      first
        | refine al_callp into44 rfl rfl rfl ((q_fields ) _) (by simp) ?_
        | refine al_callp into44 rfl rfl rfl (ac_told (re_cons (by first | exact .leaf _ _ (.same _) | exact .leaf _ _ (.vnil _) | exact .leaf _ _ (.nil _)) re_nil) ((q_fields ) _)) (by simp) ?_
      first
        | refine al_op (op_len_map Tryd.underlying41 rfl) rfl (by simp) ?_
        | refine al_op (op_len_slice Tryd.underlying41 rfl rfl) rfl (by simp) ?_
        | refine al_op (op_len_list Tryd.underlying41 rfl) rfl (by simp) ?_
        | refine al_op (op_len_v Tryd.underlying41 rfl) rfl (by simp) ?_
        | refine al_op (op_len_nil Tryd.underlying41 rfl) rfl (by simp) ?_
      refine al_op (op_move rfl) rfl (by simp) ?_
      refine al_nil ?_
      refine aw_block ?_
      refine aw_forT (ι := Nat) [3, 21] [] (fun i => signsL.length - i) (fun i => i ≤ signsL.length ∧ ∀ k, k < i → (signsL.getD k default).isPrefixOf s = false) (fun i => ([(21, .v (.int .i64 (i)))] : Env)) (fun i s => s) (0) ?_ ?_ ?_ (fun i hinv => ?_)
      ·exact ⟨Nat.zero_le _, fun k hk => absurd hk (Nat.not_lt_zero k)⟩
      ·refine sub_cons (get_as rfl ?_) ?_; rotate_left; exact sub_nil
       all_goals (first | rfl | simp)
      ·rfl
      have hi := hinv.1
      refine aw_seq ?_
      refine aw_region ?_
      refine al_op (op_lss rfl rfl) rfl (by simp) ?_
      refine al_nil ?_
      refine aw_seq ?_
      refine aw_cond rfl (fun h17 => ?_) (fun h17 => ?_)
      ·have gh17 := h17
       try simp only [nrm] at h17
       refine aw_skip ?_
       refine aw_seq ?_
       refine aw_block ?_
       refine aw_seq ?_
       refine aw_region ?_
       first
         | refine al_op (op_index_map default Tryd.underlying41 info9 rfl rfl rfl (by first | (with_reducible exact Int.toNat_natCast _) | rfl) (by omega) (by omega)) rfl (by simp) ?_
         | refine al_op (op_index_slice Tryd.underlying41 info9 rfl rfl rfl rfl (by omega) (by omega)) rfl (by simp) ?_
         | refine al_op (op_index_list Tryd.underlying41 info9 rfl rfl rfl (by decide) rfl) rfl (by simp) ?_
       first
         | refine al_op (op_load_rptr Tryd.underlying9 info9 rfl rfl) rfl (by simp) ?_
         | refine al_op (op_load_map Tryd.underlying9 info9 rfl rfl (by omega) rfl) rfl (by simp) ?_
         | refine al_op (op_load_ptr Tryd.underlying9 info9 rfl rfl rfl rfl) rfl (by simp) ?_
       refine al_op (op_assign rfl) rfl (by simp) ?_
       refine al_nil ?_
       refine aw_seq ?_
       refine aw_region ?_
       refine al_op (op_move rfl) rfl (by simp) ?_
       refine al_op (op_move rfl) rfl (by simp) ?_
       first
         | refine al_callp into49 rfl rfl rfl ((q_hasPrefix _ _) _) (by simp) ?_
         | refine al_callp into49 rfl rfl rfl (acp_lent (lend_cons (by first | exact lend_same | exact .leaf _ _ (.vnil _) | exact .leaf _ _ (.nil _) | exact lend_whole rfl (by first | rfl | (simp; done) | (simp; omega)) (clo_map (fun _ => rfl))) (lend_cons (by first | exact lend_same | exact .leaf _ _ (.vnil _) | exact .leaf _ _ (.nil _) | exact lend_whole rfl (by first | rfl | (simp; done) | (simp; omega)) (clo_map (fun _ => rfl))) lend_nil)) (q_hasPrefix _ _) rfl) (by simp) ?_
       refine al_nil ?_
       refine aw_cond rfl (fun h18 => ?_) (fun h18 => ?_)
       ·have gh18 := h18
        try simp only [nrm] at h18
        refine aw_seq ?_
        refine aw_region ?_
        refine al_op (op_move rfl) rfl (by simp) ?_
        refine al_op (op_build_struct Tryd.underlying28 info28 rfl place28 rfl (by first | rfl | (repeat (first | exact parts_nil | refine parts_cons rfl (by repeat (first | exact all_live_nil | refine all_live_clo rfl ?_ | refine all_live_slice rfl ?_ | refine all_live_map rfl ?_ | refine all_live_ptr rfl ?_)) ?_))) rfl) rfl (by simp) ?_
        refine al_op (op_move rfl) rfl (by simp) ?_
        refine al_op (op_slen_str (ts := #[]) Tryd.underlying9 rfl) rfl (by simp) ?_
        first
          | refine al_op (op_store_ptr info28 rfl rfl rfl rfl rfl rfl (by first | rfl | exact live_one rfl | (repeat (first | exact all_live_nil | refine all_live_clo rfl ?_ | refine all_live_slice rfl ?_ | refine all_live_map rfl ?_ | refine all_live_ptr rfl ?_))) (by decide)) rfl (by simp) ?_
          | refine al_op (op_store_ptr info28 rfl rfl rfl rfl rfl rfl (by first | rfl | exact live_one rfl | (repeat (first | exact all_live_nil | refine all_live_clo rfl ?_ | refine all_live_slice rfl ?_ | refine all_live_map rfl ?_ | refine all_live_ptr rfl ?_))) (Nat.le_of_ble_eq_true rfl)) rfl (by simp) ?_
        refine al_op (op_assign rfl) rfl (by simp) ?_
        refine al_nil ?_
        refine aw_ret ?_
        refine ⟨_, res_cell_tmp rfl Tryd.underlying28 info28 rfl rfl rfl rfl rfl rfl rfl, ?_⟩
        exact ⟨(by rw [tokCells, (tok_last gh1 gh4 gh7 gh10 gh14), find_step (p := fun x => x.isPrefixOf s) (by omega) hinv.2 gh18]; rfl), rfl⟩
       ·have gh18 := h18
        try simp only [nrm] at h18
        refine aw_skip ?_
        refine aw_region ?_
        refine al_op (op_add rfl rfl (by first | exact wrap_i64 (by omega) (by omega))) rfl (by simp) ?_
        refine al_op (op_move rfl) rfl (by simp) ?_
        refine al_nil ?_
        refine ⟨i + 1, ?_, ?_, ?_, ?_, ?_⟩
        ·omega
        ·exact ⟨by omega, find_more (p := fun x => x.isPrefixOf s) (l := signsL) hinv.2 gh18⟩
        ·refine sub_cons (get_as rfl ?_) ?_; rotate_left; exact sub_nil
         all_goals (first | rfl | simp)
        ·repeat (first | exact subx_refl | exact subx_del | refine subx_put rfl ?_)
        ·rfl
      ·have gh17 := h17
       try simp only [nrm] at h17
       refine aw_exit ?_
       obtain rfl : i = signsL.length := by omega
       have hall := hinv.2
       refine aw_seq ?_
       refine aw_region ?_
       first
         | refine al_op (op_load_rptr Tryd.underlying28 info28 rfl rfl) rfl (by simp) ?_
         | refine al_op (op_load_map Tryd.underlying28 info28 rfl rfl (by omega) rfl) rfl (by simp) ?_
         | refine al_op (op_load_ptr Tryd.underlying28 info28 rfl rfl rfl rfl) rfl (by simp) ?_
       first
         | refine al_op (op_store_ptr info28 rfl rfl rfl rfl rfl rfl (by first | rfl | exact live_one rfl | (repeat (first | exact all_live_nil | refine all_live_clo rfl ?_ | refine all_live_slice rfl ?_ | refine all_live_map rfl ?_ | refine all_live_ptr rfl ?_))) (by decide)) rfl (by simp) ?_
         | refine al_op (op_store_ptr info28 rfl rfl rfl rfl rfl rfl (by first | rfl | exact live_one rfl | (repeat (first | exact all_live_nil | refine all_live_clo rfl ?_ | refine all_live_slice rfl ?_ | refine all_live_map rfl ?_ | refine all_live_ptr rfl ?_))) (Nat.le_of_ble_eq_true rfl)) rfl (by simp) ?_
       refine al_op (op_assign rfl) rfl (by simp) ?_
       refine al_nil ?_
       refine aw_ret ?_
       refine ⟨_, res_cell_tmp rfl Tryd.underlying28 info28 rfl rfl rfl rfl rfl rfl rfl, ?_⟩
       exact ⟨(by rw [tokCells, (tok_last gh1 gh4 gh7 gh10 gh14), find_none (p := fun x => x.isPrefixOf s) hall]; rfl), rfl⟩
theorem c_token (s : Bs) (hs : s.length ≤ 1000000000) (hpos : 0 < s.length) : ACp Tryd.prog 33 [.v (.string (str (s)))] (.tuple [.agg (tokCells s), .v (.int .i64 (((tokA s).2.2.2 : Nat) : Int))]) :=
  acp_of rfl (ac_mono (ac_keep (fun _ => false) (q_token s hs hpos)) (by rintro x σ1 ⟨σ2, ⟨rfl, e⟩, rfl⟩; exact ⟨rfl, e⟩))
end Go.Proofs.YtbojpddejdmamaaDoor
