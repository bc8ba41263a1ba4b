/- Printed walks (gen.py, gates_ann.py): part 213. -/
import Derived.Test.YtnnklpmgncbgnaaCWide
import Derived.Test.YtnnklpmgncbgnaaW07
import Derived.Test.YtnnklpmgncbgnaaW201
import Derived.Test.YtnnklpmgncbgnaaFacts
set_option linter.unusedVariables false
set_option linter.unusedSimpArgs false
set_option maxRecDepth 20000
set_option maxHeartbeats 40000000
namespace Go.Proofs.Ytnnklpmgncbgnaa
open Go

theorem c_spread (b : Int) (h0 : 0 ≤ b) (hb : b ≤ 255) : ACp Try.prog 44 [.v (.int .u8 (b))] (.v (.int .u64 ((maskOf b : Nat) : Int))) := by
 refine acp_of rfl ?_
 refine ac_enter 7 Try.func44 rfl rfl (by simp) ?_
 refine aw_seq ?_
 refine aw_region ?_
 refine al_op (op_assign rfl) rfl (by simp) ?_
 refine al_nil ?_
 refine aw_seq ?_
 refine aw_region ?_
 refine al_op (op_move rfl) rfl (by simp) ?_
 refine al_op (op_bitand rfl rfl (and_one8 h0 hb)) rfl (by simp) ?_
 refine al_op (op_conv Try.underlying41 Try.underlying35 rfl (wrap_u64 (by omega) (by omega))) rfl (by simp) ?_
 refine al_op (op_neg rfl (mask_neg b)) rfl (by simp) ?_
 refine al_op (op_assign rfl) rfl (by simp) ?_
 refine al_nil ?_
 refine aw_freeze (fun _ => false) (fsub_cons (t := 2) rfl (.leaf _ _ (.same _)) fsub_nil) ?_
 refine aw_ret ?_
 refine ⟨_, res_1 rfl rfl, ?_, rfl⟩
 first | rfl | simp_all

theorem c_wof (v : List Nat) (lit : Int) (h0 : 0 ≤ lit) (hm : lit ≤ 4611686018427387904) (hl : (lit / 2).toNat < v.length) (hv : W64 v) : ACp Try.prog 46 [.list 1 (v.map encU), .v (.int .i64 (lit))] (.v (.int .u64 ((wOf v lit : Nat) : Int))) := by
 refine acp_of rfl ?_
 have hx := hv _ (getD_mem (v := v) (i := (lit / 2).toNat) (by omega))
 refine ac_enter 15 Try.func46 rfl rfl (by simp) ?_
 refine aw_seq ?_
 refine aw_region ?_
 refine al_op (op_assign rfl) rfl (by simp) ?_
 refine al_nil ?_
 refine aw_seq ?_
 refine aw_region ?_
 refine al_op (op_move rfl) rfl (by simp) ?_
 refine al_op (op_move rfl) rfl (by simp) ?_
 refine al_op (op_quo rfl rfl (by omega) (quo_nn (by omega) (by omega) (by omega))) rfl (by simp) ?_
 first
   | refine al_op (op_index_map default Try.underlying80 info35 rfl rfl rfl (by first | (with_reducible exact Int.toNat_natCast _) | rfl) (by omega) (by omega)) rfl (by simp) ?_
   | refine al_op (op_index_slice Try.underlying80 info35 rfl rfl rfl rfl (by omega) (by omega)) rfl (by simp) ?_
   | refine al_op (op_index_list Try.underlying80 info35 rfl rfl rfl (by decide) rfl) rfl (by simp) ?_
 first
   | refine al_op (op_load_rptr Try.underlying35 info35 rfl rfl) rfl (by simp) ?_
   | refine al_op (op_load_map Try.underlying35 info35 rfl rfl (by omega) rfl) rfl (by simp) ?_
   | refine al_op (op_load_ptr Try.underlying35 info35 rfl rfl rfl rfl) rfl (by simp) ?_
 refine al_op (op_move rfl) rfl (by simp) ?_
 refine al_op (op_bitand rfl rfl (and_one _)) rfl (by simp) ?_
 refine al_op (op_conv Try.underlying3 Try.underlying35 rfl (wrap_u64 (by omega) (by omega))) rfl (by simp) ?_
 refine al_op (op_neg rfl (mask_neg lit)) rfl (by simp) ?_
 refine al_op (op_bitxor rfl rfl (u64_xor hx (maskOf_lt lit))) rfl (by simp) ?_
 refine al_op (op_assign rfl) rfl (by simp) ?_
 refine al_nil ?_
 refine aw_freeze (fun _ => false) (fsub_cons (t := 4) rfl (.leaf _ _ (.same _)) fsub_nil) ?_
 refine aw_ret ?_
 refine ⟨_, res_1 rfl rfl, ?_, rfl⟩
 first | rfl | (rw [wOf])

theorem q_clock (n : Net) (hn : n.Small) (ins st : List Nat) (hw : Wide n ins st) : AC Try.prog 45 [encN n, .list 1 (ins.map encU), .list 1 (st.map encU)] ([]) (fun r σ' => ∃ id ver, r = .ret (.slice id ver 0 ((n.wideTo ins st n.gates.length).map encU).length) ∧ σ'.get id = some (ver, .row 1 ((n.wideTo ins st n.gates.length).map encU))) := by
 obtain ⟨hv, il, sl, i64, s64⟩ := hw
 obtain ⟨f1, f2, f3, f4, f5, f6, f7⟩ := Net.valid_facts hv
 refine ac_enter 51 Try.func45 rfl rfl (by simp) ?_
 refine aw_seq ?_
 refine aw_region ?_
 (refine al_opR (op_box 3 rfl rfl (by first | rfl | exact live_one rfl | (repeat (first | exact all_live_nil | refine all_live_clo rfl ?_ | refine all_live_slice rfl ?_ | refine all_live_map rfl ?_ | refine all_live_ptr rfl ?_)))) rfl (by simp) ?_; rintro _ _ ⟨ver3, rfl, rfl⟩)
 refine al_op (op_assign rfl) rfl (by simp) ?_
 refine al_nil ?_
 refine aw_seq ?_
 refine aw_region ?_
 refine al_op (op_move rfl) rfl (by simp) ?_
 first
   | refine al_op (op_len_map Try.underlying34 rfl) rfl (by simp) ?_
   | refine al_op (op_len_slice Try.underlying34 rfl rfl) rfl (by simp) ?_
   | refine al_op (op_len_list Try.underlying34 rfl) rfl (by simp) ?_
   | refine al_op (op_len_v Try.underlying34 rfl) rfl (by simp) ?_
   | refine al_op (op_len_nil Try.underlying34 rfl) rfl (by simp) ?_
 refine al_op (op_add rfl rfl (by first | exact wrap_i64 (by omega) (by omega))) rfl (by simp) ?_
 refine al_op (op_move rfl) rfl (by simp) ?_
 first
   | refine al_op (op_len_map Try.underlying34 rfl) rfl (by simp) ?_
   | refine al_op (op_len_slice Try.underlying34 rfl rfl) rfl (by simp) ?_
   | refine al_op (op_len_list Try.underlying34 rfl) rfl (by simp) ?_
   | refine al_op (op_len_v Try.underlying34 rfl) rfl (by simp) ?_
   | refine al_op (op_len_nil Try.underlying34 rfl) rfl (by simp) ?_
 refine al_op (op_add rfl rfl (by first | exact wrap_i64 (by omega) (by omega))) rfl (by simp) ?_
 first
   | refine al_op (op_field_rptr Try.underlying27 rfl info24 (by decide) rfl rfl) rfl (by simp) ?_
   | refine al_op (op_field_ptr Try.underlying27 rfl info24 (by decide) rfl rfl rfl) rfl (by simp) ?_
 first
   | refine al_op (op_load_rptr Try.underlying24 info24 rfl rfl) rfl (by simp) ?_
   | refine al_op (op_load_map Try.underlying24 info24 rfl rfl (by omega) rfl) rfl (by simp) ?_
   | refine al_op (op_load_ptr Try.underlying24 info24 rfl rfl rfl rfl) rfl (by simp) ?_
 first
   | refine al_op (op_len_map Try.underlying24 rfl) rfl (by simp) ?_
   | refine al_op (op_len_slice Try.underlying24 rfl rfl) rfl (by simp) ?_
   | refine al_op (op_len_list Try.underlying24 rfl) rfl (by simp) ?_
   | refine al_op (op_len_v Try.underlying24 rfl) rfl (by simp) ?_
   | refine al_op (op_len_nil Try.underlying24 rfl) rfl (by simp) ?_
 refine al_op (op_add rfl rfl (by first | exact wrap_i64 (by omega) (by omega))) rfl (by simp) ?_
 (refine al_opR (op_make0 (f := encU) 20 Try.underlying80 info35 rfl rfl (by decide) rfl rfl rfl (by omega) (by show (8 : Int) * _ ≤ _; omega) (by omega)) rfl (by simp) ?_; rintro _ _ ⟨ver20, rfl, rfl⟩)
 refine al_op (op_assign rfl) rfl (by simp) ?_
 refine al_nil ?_
 refine aw_seq ?_
 refine aw_region ?_
 refine al_op (op_move rfl) rfl (by simp) ?_
 refine al_op (op_buildSlice Try.underlying80 info35 rfl rfl (by decide) rfl (by decide) rfl (by first | rfl | (repeat (first | exact parts_nil | refine parts_cons rfl (by repeat (first | exact all_live_nil | refine all_live_clo rfl ?_ | refine all_live_slice rfl ?_ | refine all_live_map rfl ?_ | refine all_live_ptr rfl ?_)) ?_))) rfl rfl rfl) rfl (by simp) ?_
 first
   | (refine al_opR (op_append_one 0 Try.underlying80 Try.underlying80 rfl info35 rfl rfl (by decide) rfl rfl rfl (by first | rfl | simp) rfl rfl (by first | omega | (simp; done) | (simp; omega)) (by show _ * 8 ≤ _; first | omega | (simp; done) | (simp; omega))) rfl (by simp) ?_; rintro _ _ ⟨ver23, rfl, rfl⟩)
   | (refine al_opR (op_append_map Try.underlying80 Try.underlying80 rfl info35 rfl rfl (by decide) rfl rfl rfl (by first | rfl | simp) rfl (by first | exact .list _ | exact .vnil | exact .nil | exact .row _ _ _ _ rfl (by first | rfl | simp)) rfl (by first | omega | (simp; done) | (simp; omega)) (by show _ * 8 ≤ _; first | omega | (simp; done) | (simp; omega))) rfl (by simp) ?_; rintro _ _ ⟨ver23, rfl, rfl⟩)
 refine al_op (op_assign rfl) rfl (by simp) ?_
 refine al_nil ?_
 refine aw_seq ?_
 refine aw_region ?_
 refine al_op (op_move rfl) rfl (by simp) ?_
 refine al_op (op_move rfl) rfl (by simp) ?_
 (refine al_opR (op_append_map Try.underlying80 Try.underlying34 rfl info35 rfl rfl (by decide) rfl rfl rfl (by first | rfl | simp) rfl (by first | exact .list _ | exact .vnil | exact .nil | exact .row _ _ _ _ rfl (by first | rfl | simp)) rfl (by first | omega | (simp; done) | (simp; omega)) (by show _ * 8 ≤ _; first | omega | (simp; done) | (simp; omega))) rfl (by simp) ?_; rintro _ _ ⟨ver26, rfl, rfl⟩)
 refine al_op (op_assign rfl) rfl (by simp) ?_
 refine al_nil ?_
 refine aw_seq ?_
 refine aw_region ?_
 refine al_op (op_move rfl) rfl (by simp) ?_
 refine al_op (op_move rfl) rfl (by simp) ?_
 (refine al_opR (op_append_map Try.underlying80 Try.underlying34 rfl info35 rfl rfl (by decide) rfl rfl rfl (by first | rfl | simp) rfl (by first | exact .list _ | exact .vnil | exact .nil | exact .row _ _ _ _ rfl (by first | rfl | simp)) rfl (by first | omega | (simp; done) | (simp; omega)) (by show _ * 8 ≤ _; first | omega | (simp; done) | (simp; omega))) rfl (by simp) ?_; rintro _ _ ⟨ver29, rfl, rfl⟩)
 refine al_op (op_assign rfl) rfl (by simp) ?_
 refine al_nil ?_
 refine aw_seq ?_
 refine aw_seq ?_
 refine aw_region ?_
 first
   | refine al_op (op_field_rptr Try.underlying27 rfl info24 (by decide) rfl rfl) rfl (by simp) ?_
   | refine al_op (op_field_ptr Try.underlying27 rfl info24 (by decide) rfl rfl rfl) rfl (by simp) ?_
 first
   | refine al_op (op_load_rptr Try.underlying24 info24 rfl rfl) rfl (by simp) ?_
   | refine al_op (op_load_map Try.underlying24 info24 rfl rfl (by omega) rfl) rfl (by simp) ?_
   | refine al_op (op_load_ptr Try.underlying24 info24 rfl rfl rfl rfl) rfl (by simp) ?_
 first
   | refine al_op (op_len_map Try.underlying24 rfl) rfl (by simp) ?_
   | refine al_op (op_len_slice Try.underlying24 rfl rfl) rfl (by simp) ?_
   | refine al_op (op_len_list Try.underlying24 rfl) rfl (by simp) ?_
   | refine al_op (op_len_v Try.underlying24 rfl) rfl (by simp) ?_
   | refine al_op (op_len_nil Try.underlying24 rfl) rfl (by simp) ?_
 refine al_op (op_move rfl) rfl (by simp) ?_
 refine al_nil ?_
 refine aw_block ?_
 refine aw_for2T (α := Nat) (β := Nat) [7, 33] [9] (fun i ver => n.gates.length - i) (fun i ver => i ≤ n.gates.length) (fun i ver => ([(7, .slice 20 ver 0 (n.wideTo ins st i).length), (33, .v (.int .i64 (i)))] : Env)) (fun i ver s => s.put 20 ver (.row 1 ((n.wideTo ins st i).map encU))) (0) (ver29) ?_ ?_ ?_ (fun i ver hinv => ?_)
 ·exact Nat.zero_le _
 ·refine sub_cons (get_as rfl ?_) ?_; rotate_left; refine sub_cons (get_as rfl ?_) ?_; rotate_left; exact sub_nil
  all_goals (first | rfl | (simp; done))
 ·rfl
 have hlen := n.wideTo_length ins st i
 refine aw_seq ?_
 refine aw_region ?_
 refine al_op (op_lss rfl rfl) rfl (by simp) ?_
 refine al_nil ?_
 refine aw_seq ?_
 refine aw_cond rfl (fun h1 => ?_) (fun h1 => ?_)
 ·have gh1 := h1
  try simp only [nrm] at h1
  refine aw_skip ?_
  refine aw_seq ?_
  refine aw_block ?_
  refine aw_seq ?_
  refine aw_region ?_
  first
    | refine al_op (op_index_map default Try.underlying24 info88 rfl rfl rfl (by first | (with_reducible exact Int.toNat_natCast _) | rfl) (by omega) (by omega)) rfl (by simp) ?_
    | refine al_op (op_index_slice Try.underlying24 info88 rfl rfl rfl rfl (by omega) (by omega)) rfl (by simp) ?_
    | refine al_op (op_index_list Try.underlying24 info88 rfl rfl rfl (by decide) rfl) rfl (by simp) ?_
  first
    | refine al_op (op_load_rptr Try.underlying88 info88 rfl rfl) rfl (by simp) ?_
    | refine al_op (op_load_map Try.underlying88 info88 rfl rfl (by omega) rfl) rfl (by simp) ?_
    | refine al_op (op_load_ptr Try.underlying88 info88 rfl rfl rfl rfl) rfl (by simp) ?_
  (refine al_opR (op_alloc 9 info88 rfl rfl) rfl (by simp) ?_; rintro _ _ ⟨ver9, rfl, rfl⟩)
  first
    | refine al_op (op_store_ptr info88 rfl rfl rfl rfl rfl rfl (by first | rfl | exact live_one rfl | (repeat (first | exact all_live_nil | refine all_live_clo rfl ?_ | refine all_live_slice rfl ?_ | refine all_live_map rfl ?_ | refine all_live_ptr rfl ?_))) (by decide)) rfl (by simp) ?_
    | refine al_op (op_store_ptr info88 rfl rfl rfl rfl rfl rfl (by first | rfl | exact live_one rfl | (repeat (first | exact all_live_nil | refine all_live_clo rfl ?_ | refine all_live_slice rfl ?_ | refine all_live_map rfl ?_ | refine all_live_ptr rfl ?_))) (Nat.le_of_ble_eq_true rfl)) rfl (by simp) ?_
  refine al_nil ?_
  have hg := f5 i (by omega)
  have hw64 := n.wideTo_64 i64 s64 i
  have ha := wOf_lt hw64 (n.gates.getD i default).1
  have hb := wOf_lt hw64 (n.gates.getD i default).2
  refine aw_any (Checked.mixed Try.checked) ?_
  apply aany_seg (p := 0) (q := 11) (by kernel_rfl) rfl (by decide)
  ·
   apply ql_plain rfl (op_move rfl)
   apply ql_plain rfl (op_move rfl)
   first
     | apply ql_plain rfl (op_index_arptr Try.underlying88 info3 rfl rfl rfl (by decide) (by decide))
     | apply ql_plain rfl (op_index_aptr Try.underlying88 info3 rfl rfl rfl rfl (by decide) (by decide))
   first
     | apply ql_plain rfl (op_load_rptr Try.underlying3 info3 rfl rfl)
     | apply ql_plain rfl (op_load_map Try.underlying3 info3 rfl rfl (by omega) rfl)
     | apply ql_plain rfl (op_load_ptr Try.underlying3 info3 rfl rfl rfl rfl)
   first
     | apply ql_call into46 rfl rfl rfl ((c_wof _ _ (by omega) (by omega) (by omega) (by assumption)) _)
     | apply ql_call into46 rfl rfl rfl (acp_lent (lend_cons (by first | exact lend_same | exact .leaf _ _ (.vnil _) | exact .leaf _ _ (.nil _) | exact lend_whole rfl (by first | rfl | (simp; done) | (simp; omega)) (clo_map (fun _ => rfl)) | exact lend_netg (by first | exact .same _ | exact lendL_vnil | exact lendL_whole rfl (by first | rfl | (simp; done) | (simp; omega)) (clo_map (fun _ => rfl))) (by first | exact .same _ | exact lendL_vnil | exact lendL_whole rfl (by first | rfl | (simp; done) | (simp; omega)) (clo_map (fun _ => rfl))) (by first | exact .same _ | exact lendL_vnil | exact lendL_whole rfl (by first | rfl | (simp; done) | (simp; omega)) (clo_map (fun _ => rfl))) (by first | exact .same _ | exact lendL_vnil | exact lendL_whole rfl (by first | rfl | (simp; done) | (simp; omega)) (clo_map (fun _ => rfl)))) (lend_cons (by first | exact lend_same | exact .leaf _ _ (.vnil _) | exact .leaf _ _ (.nil _) | exact lend_whole rfl (by first | rfl | (simp; done) | (simp; omega)) (clo_map (fun _ => rfl)) | exact lend_netg (by first | exact .same _ | exact lendL_vnil | exact lendL_whole rfl (by first | rfl | (simp; done) | (simp; omega)) (clo_map (fun _ => rfl))) (by first | exact .same _ | exact lendL_vnil | exact lendL_whole rfl (by first | rfl | (simp; done) | (simp; omega)) (clo_map (fun _ => rfl))) (by first | exact .same _ | exact lendL_vnil | exact lendL_whole rfl (by first | rfl | (simp; done) | (simp; omega)) (clo_map (fun _ => rfl))) (by first | exact .same _ | exact lendL_vnil | exact lendL_whole rfl (by first | rfl | (simp; done) | (simp; omega)) (clo_map (fun _ => rfl)))) lend_nil)) (c_wof _ _ (by omega) (by omega) (by omega) (by assumption)) rfl)
   apply ql_plain rfl (op_move rfl)
   first
     | apply ql_plain rfl (op_index_arptr Try.underlying88 info3 rfl rfl rfl (by decide) (by decide))
     | apply ql_plain rfl (op_index_aptr Try.underlying88 info3 rfl rfl rfl rfl (by decide) (by decide))
   first
     | apply ql_plain rfl (op_load_rptr Try.underlying3 info3 rfl rfl)
     | apply ql_plain rfl (op_load_map Try.underlying3 info3 rfl rfl (by omega) rfl)
     | apply ql_plain rfl (op_load_ptr Try.underlying3 info3 rfl rfl rfl rfl)
   first
     | apply ql_call into46 rfl rfl rfl ((c_wof _ _ (by omega) (by omega) (by omega) (by assumption)) _)
     | apply ql_call into46 rfl rfl rfl (acp_lent (lend_cons (by first | exact lend_same | exact .leaf _ _ (.vnil _) | exact .leaf _ _ (.nil _) | exact lend_whole rfl (by first | rfl | (simp; done) | (simp; omega)) (clo_map (fun _ => rfl)) | exact lend_netg (by first | exact .same _ | exact lendL_vnil | exact lendL_whole rfl (by first | rfl | (simp; done) | (simp; omega)) (clo_map (fun _ => rfl))) (by first | exact .same _ | exact lendL_vnil | exact lendL_whole rfl (by first | rfl | (simp; done) | (simp; omega)) (clo_map (fun _ => rfl))) (by first | exact .same _ | exact lendL_vnil | exact lendL_whole rfl (by first | rfl | (simp; done) | (simp; omega)) (clo_map (fun _ => rfl))) (by first | exact .same _ | exact lendL_vnil | exact lendL_whole rfl (by first | rfl | (simp; done) | (simp; omega)) (clo_map (fun _ => rfl)))) (lend_cons (by first | exact lend_same | exact .leaf _ _ (.vnil _) | exact .leaf _ _ (.nil _) | exact lend_whole rfl (by first | rfl | (simp; done) | (simp; omega)) (clo_map (fun _ => rfl)) | exact lend_netg (by first | exact .same _ | exact lendL_vnil | exact lendL_whole rfl (by first | rfl | (simp; done) | (simp; omega)) (clo_map (fun _ => rfl))) (by first | exact .same _ | exact lendL_vnil | exact lendL_whole rfl (by first | rfl | (simp; done) | (simp; omega)) (clo_map (fun _ => rfl))) (by first | exact .same _ | exact lendL_vnil | exact lendL_whole rfl (by first | rfl | (simp; done) | (simp; omega)) (clo_map (fun _ => rfl))) (by first | exact .same _ | exact lendL_vnil | exact lendL_whole rfl (by first | rfl | (simp; done) | (simp; omega)) (clo_map (fun _ => rfl)))) lend_nil)) (c_wof _ _ (by omega) (by omega) (by omega) (by assumption)) rfl)
   apply ql_plain rfl (op_bitand rfl rfl (u64_and ha hb))
   apply ql_plain rfl (op_buildSlice Try.underlying80 info35 rfl rfl (by decide) rfl (by decide) rfl (by first | rfl | (repeat (first | exact parts_nil | refine parts_cons rfl (by repeat (first | exact all_live_nil | refine all_live_clo rfl ?_ | refine all_live_slice rfl ?_ | refine all_live_map rfl ?_ | refine all_live_ptr rfl ?_)) ?_))) rfl rfl rfl)
   exact ql_nil
  ·simp
  first
    | (refine aany_opR (by kernel_rfl) rfl rfl (op_append_one (wOf (n.wideTo ins st i) (n.gates.getD i default).1 &&& wOf (n.wideTo ins st i) (n.gates.getD i default).2) Try.underlying80 Try.underlying80 rfl info35 rfl rfl (by decide) rfl rfl rfl (by first | rfl | simp) rfl rfl (by first | omega | (simp; done) | (simp; omega)) (by show _ * 8 ≤ _; first | omega | (simp; done) | (simp; omega))) (by simp) ?_; rintro _ _ ⟨ver48, rfl, rfl⟩)
    | (refine aany_opR (by kernel_rfl) rfl rfl (op_append_map Try.underlying80 Try.underlying80 rfl info35 rfl rfl (by decide) rfl rfl rfl (by first | rfl | simp) rfl (by first | exact .list _ | exact .vnil | exact .nil | exact .row _ _ _ _ rfl (by first | rfl | simp)) rfl (by first | omega | (simp; done) | (simp; omega)) (by show _ * 8 ≤ _; first | omega | (simp; done) | (simp; omega))) (by simp) ?_; rintro _ _ ⟨ver48, rfl, rfl⟩)
  apply aany_seg (p := 12) (q := 13) (by kernel_rfl) rfl (by decide)
  ·
   apply ql_plain rfl (op_assign rfl)
   exact ql_nil
  ·simp
  refine aany_end rfl (by kernel_rfl) ?_
  refine aw_region ?_
  refine al_op (op_add rfl rfl (by first | exact wrap_i64 (by omega) (by omega))) rfl (by simp) ?_
  refine al_op (op_move rfl) rfl (by simp) ?_
  refine al_nil ?_
  refine ⟨i + 1, ver48, ?_, ?_, ?_, ?_, ?_⟩
  ·omega
  ·omega
  ·refine sub_cons (get_as rfl ?_) ?_; rotate_left; refine sub_cons (get_as rfl ?_) ?_; rotate_left; exact sub_nil
   all_goals (first | rfl | (simp; done))
  ·repeat (first | exact subx_refl | exact subx_del | refine subx_put rfl ?_)
  ·rfl
 ·have gh1 := h1
  try simp only [nrm] at h1
  refine aw_exit ?_
  obtain rfl : i = n.gates.length := by omega
  refine aw_seq ?_
  refine aw_region ?_
  refine al_op (op_move rfl) rfl (by simp) ?_
  refine al_op (op_assign rfl) rfl (by simp) ?_
  refine al_nil ?_
  refine aw_ret ?_
  refine ⟨_, res_1 rfl rfl, ?_⟩
  exact ⟨20, ver, by rw [List.length_map], rfl⟩
theorem n_clock (n : Net) (hn : n.Small) (ins st : List Nat) (hw : Wide n ins st) : ACn Try.prog 45 [encN n, .list 1 (ins.map encU), .list 1 (st.map encU)] (.list 1 ((n.wideTo ins st n.gates.length).map encU)) := acn_of (q_clock n hn ins st hw) (sca_map (fun _ => rfl))

theorem q_many1 (v0 : Nat) (n : Net) (hn : n.Small) (l : List Nat) (hl : l.length ≤ 140737488355328) : AC Try.prog 43 [.list 1 (l.map encU), .ptr 0 v0 0 0] ([(0, v0, .row 4 [[.list 1 (n.ins.map encS), .list 3 (n.regs.map encR), .list 2 (n.gates.map encG), .list 2 (n.outs.map encP)]])]) (fun r σ' => r = .ret (.v (.bool (((l.length : Int) != n.ins.length)))) ∧ σ' = [(0, v0, .row 4 [[.list 1 (n.ins.map encS), .list 3 (n.regs.map encR), .list 2 (n.gates.map encG), .list 2 (n.outs.map encP)]])]) := by
 have z1 := hn.insL
 refine ac_enter 10 Try.func43 rfl rfl (by simp) ?_
 refine aw_seq ?_
 refine aw_region ?_
 refine al_op (op_assign rfl) rfl (by simp) ?_
 refine al_nil ?_
 refine aw_seq ?_
 refine aw_region ?_
 refine al_op (op_move rfl) rfl (by simp) ?_
 first
   | refine al_op (op_len_map Try.underlying34 rfl) rfl (by simp) ?_
   | refine al_op (op_len_slice Try.underlying34 rfl rfl) rfl (by simp) ?_
   | refine al_op (op_len_list Try.underlying34 rfl) rfl (by simp) ?_
   | refine al_op (op_len_v Try.underlying34 rfl) rfl (by simp) ?_
   | refine al_op (op_len_nil Try.underlying34 rfl) rfl (by simp) ?_
 first
   | refine al_op (op_field_rptr Try.underlying27 rfl info22 (by decide) rfl rfl) rfl (by simp) ?_
   | refine al_op (op_field_ptr Try.underlying27 rfl info22 (by decide) rfl rfl rfl) rfl (by simp) ?_
 first
   | refine al_op (op_load_rptr Try.underlying22 info22 rfl rfl) rfl (by simp) ?_
   | refine al_op (op_load_map Try.underlying22 info22 rfl rfl (by omega) rfl) rfl (by simp) ?_
   | refine al_op (op_load_ptr Try.underlying22 info22 rfl rfl rfl rfl) rfl (by simp) ?_
 first
   | refine al_op (op_len_map Try.underlying22 rfl) rfl (by simp) ?_
   | refine al_op (op_len_slice Try.underlying22 rfl rfl) rfl (by simp) ?_
   | refine al_op (op_len_list Try.underlying22 rfl) rfl (by simp) ?_
   | refine al_op (op_len_v Try.underlying22 rfl) rfl (by simp) ?_
   | refine al_op (op_len_nil Try.underlying22 rfl) rfl (by simp) ?_
 refine al_op (op_neq rfl rfl) rfl (by simp) ?_
 refine al_op (op_assign rfl) rfl (by simp) ?_
 refine al_nil ?_
 refine aw_ret ?_
 refine ⟨_, res_1 rfl rfl, ?_⟩
 exact ⟨rfl, rfl⟩

theorem q_ixw (v0 : Nat) (n : Net) (hn : n.Small) (ins : List (List Nat)) (hi : InsU ins) : AC Try.prog 75 [.list 1 (ins.map encLU), .fn 43 [.ptr 0 v0 0 0]] ([(0, v0, .row 4 [[.list 1 (n.ins.map encS), .list 3 (n.regs.map encR), .list 2 (n.gates.map encG), .list 2 (n.outs.map encP)]])]) (fun r σ' => r = .ret (.v (.int .i64 (firstLen n ins))) ∧ σ' = [(0, v0, .row 4 [[.list 1 (n.ins.map encS), .list 3 (n.regs.map encR), .list 2 (n.gates.map encG), .list 2 (n.outs.map encP)]])]) := by
 have z0 := hi.len
 refine ac_enter 19 Try.func75 rfl rfl (by simp) ?_
 refine aw_seq ?_
 refine aw_region ?_
 refine al_op (op_assign rfl) rfl (by simp) ?_
 refine al_nil ?_
 refine aw_seq ?_
 refine aw_seq ?_
 refine aw_region ?_
 refine al_op (op_move rfl) rfl (by simp) ?_
 first
   | refine al_op (op_len_map Try.underlying28 rfl) rfl (by simp) ?_
   | refine al_op (op_len_slice Try.underlying28 rfl rfl) rfl (by simp) ?_
   | refine al_op (op_len_list Try.underlying28 rfl) rfl (by simp) ?_
   | refine al_op (op_len_v Try.underlying28 rfl) rfl (by simp) ?_
   | refine al_op (op_len_nil Try.underlying28 rfl) rfl (by simp) ?_
 refine al_op (op_move rfl) rfl (by simp) ?_
 refine al_nil ?_
 refine aw_block ?_
 refine aw_forT (ι := Nat) [4, 8] [] (fun i => ins.length - i) (fun i => i ≤ ins.length ∧ firstTo (lenBad n ins) i = none) (fun i => ([(8, .v (.int .i64 (i)))] : Env)) (fun i s => s) (0) ?_ ?_ ?_ (fun i hinv => ?_)
 ·exact ⟨Nat.zero_le _, rfl⟩
 ·refine sub_cons (get_as rfl ?_) ?_; rotate_left; exact sub_nil
  all_goals (first | rfl | simp)
 ·rfl
 have hii := hinv.1
 refine aw_seq ?_
 refine aw_region ?_
 refine al_op (op_lss rfl rfl) rfl (by simp) ?_
 refine al_nil ?_
 refine aw_seq ?_
 refine aw_cond rfl (fun h1 => ?_) (fun h1 => ?_)
 ·have gh1 := h1
  try simp only [nrm] at h1
  refine aw_skip ?_
  refine aw_seq ?_
  refine aw_block ?_
  refine aw_seq ?_
  refine aw_region ?_
  refine al_op (op_move rfl) rfl (by simp) ?_
  refine al_op (op_assign rfl) rfl (by simp) ?_
  refine al_nil ?_
  refine aw_seq ?_
  refine aw_region ?_
  refine al_op (op_move rfl) rfl (by simp) ?_
  refine al_op (op_move rfl) rfl (by simp) ?_
  refine al_op (op_move rfl) rfl (by simp) ?_
  first
    | refine al_op (op_index_map default Try.underlying28 info34 rfl rfl rfl (by first | (with_reducible exact Int.toNat_natCast _) | rfl) (by omega) (by omega)) rfl (by simp) ?_
    | refine al_op (op_index_slice Try.underlying28 info34 rfl rfl rfl rfl (by omega) (by omega)) rfl (by simp) ?_
    | refine al_op (op_index_list Try.underlying28 info34 rfl rfl rfl (by decide) rfl) rfl (by simp) ?_
  first
    | refine al_op (op_load_rptr Try.underlying34 info34 rfl rfl) rfl (by simp) ?_
    | refine al_op (op_load_map Try.underlying34 info34 rfl rfl (by omega) rfl) rfl (by simp) ?_
    | refine al_op (op_load_ptr Try.underlying34 info34 rfl rfl rfl rfl) rfl (by simp) ?_
  refine al_callp into43 rfl rfl rfl (q_many1 v0 n hn (ins.getD i default) (hi.at i).1) (by simp) ?_
  refine al_nil ?_
  refine aw_cond rfl (fun h2 => ?_) (fun h2 => ?_)
  ·have gh2 := h2
   try simp only [nrm] at h2
   refine aw_seq ?_
   refine aw_region ?_
   refine al_op (op_move rfl) rfl (by simp) ?_
   refine al_op (op_assign rfl) rfl (by simp) ?_
   refine al_nil ?_
   refine aw_ret ?_
   refine ⟨_, res_1 rfl rfl, ?_⟩
   rw [firstLen, firstTo_some (by omega) hinv.2 gh2]; exact ⟨rfl, rfl⟩
  ·have gh2 := h2
   try simp only [nrm] at h2
   refine aw_skip ?_
   refine aw_region ?_
   refine al_op (op_add rfl rfl (by first | exact wrap_i64 (by omega) (by omega))) rfl (by simp) ?_
   refine al_op (op_move rfl) rfl (by simp) ?_
   refine al_nil ?_
   refine ⟨i + 1, ?_, ?_, ?_, ?_, ?_⟩
   ·omega
   ·exact ⟨by omega, firstTo_succ hinv.2 gh2⟩
   ·refine sub_cons (get_as rfl ?_) ?_; rotate_left; exact sub_nil
    all_goals (first | rfl | simp)
   ·repeat (first | exact subx_refl | exact subx_del | refine subx_put rfl ?_)
   ·rfl
 ·have gh1 := h1
  try simp only [nrm] at h1
  refine aw_exit ?_
  obtain rfl : i = ins.length := by omega
  refine aw_seq ?_
  refine aw_region ?_
  refine al_op (op_assign rfl) rfl (by simp) ?_
  refine al_nil ?_
  refine aw_ret ?_
  refine ⟨_, res_1 rfl rfl, ?_⟩
  rw [firstLen, hinv.2]; exact ⟨rfl, rfl⟩

theorem q_cfw (v0 : Nat) (n : Net) (hn : n.Small) (ins : List (List Nat)) (hi : InsU ins) : AC Try.prog 42 [.list 1 (ins.map encLU), .fn 43 [.ptr 0 v0 0 0]] ([(0, v0, .row 4 [[.list 1 (n.ins.map encS), .list 3 (n.regs.map encR), .list 2 (n.gates.map encG), .list 2 (n.outs.map encP)]])]) (fun r σ' => r = .ret (.v (.bool (decide (firstLen n ins ≥ 0)))) ∧ σ' = [(0, v0, .row 4 [[.list 1 (n.ins.map encS), .list 3 (n.regs.map encR), .list 2 (n.gates.map encG), .list 2 (n.outs.map encP)]])]) := by
 refine ac_enter 9 Try.func42 rfl rfl (by simp) ?_
 refine aw_seq ?_
 refine aw_region ?_
 refine al_op (op_assign rfl) rfl (by simp) ?_
 refine al_nil ?_
 refine aw_seq ?_
 refine aw_region ?_
 refine al_op (op_move rfl) rfl (by simp) ?_
 refine al_op (op_move rfl) rfl (by simp) ?_
 refine al_callp into75 rfl rfl rfl (q_ixw v0 n hn ins hi) (by simp) ?_
 refine al_op (op_geq rfl rfl) rfl (by simp) ?_
 refine al_op (op_assign rfl) rfl (by simp) ?_
 refine al_nil ?_
 refine aw_ret ?_
 refine ⟨_, res_1 rfl rfl, ?_⟩
 exact ⟨rfl, rfl⟩
theorem cfw_at {σ : Store} (c v0 : Nat) (n : Net) (hn : n.Small) (ins : List (List Nat)) (hi : InsU ins) (ht : tabOK [c] = true) (hb : σ.below 1000 = true) (h1 : σ.get c = some (v0, .row 4 [[.list 1 (n.ins.map encS), .list 3 (n.regs.map encR), .list 2 (n.gates.map encG), .list 2 (n.outs.map encP)]])) :
    AC Try.prog 42 [.list 1 (ins.map encLU), .fn 43 [.ptr c v0 0 0]] σ (fun r σ' => r = .ret (.v (.bool (decide (firstLen n ins ≥ 0)))) ∧ σ' = σ) := by
  have hm2 : Store.match (tab [c]) σ [(0, v0, .row 4 [[.list 1 (n.ins.map encS), .list 3 (n.regs.map encR), .list 2 (n.gates.map encG), .list 2 (n.outs.map encP)]])] := ⟨h1, trivial⟩
  have hf : Store.free [c] [(0, v0, .row 4 [[.list 1 (n.ins.map encS), .list 3 (n.regs.map encR), .list 2 (n.gates.map encG), .list 2 (n.outs.map encP)]])] σ = true := by simp [Store.free, Store.get, List.range_succ]
  exact ac_ro [c] ht (q_cfw v0 n hn ins hi) hm2 hf hb

theorem c_Many (n : Net) (hn : n.Small) (ins : List (List Nat)) (hi : InsU ins) : ACp Try.prog 14 [encN n, .list 1 (ins.map encLU)] (.tuple [.list 1 ((n.many ins).1.map encLU), .v (.int .i64 ((n.many ins).2))]) := by
 refine acp_of rfl ?_
 have z0 := hi.len
 have z2 := hn.regsL
 have z3 := hn.outsL
 refine ac_enter 97 Try.func14 rfl rfl (by simp) ?_
 refine aw_seq ?_
 refine aw_region ?_
 (refine al_opR (op_box 2 rfl rfl (by first | rfl | exact live_one rfl | (repeat (first | exact all_live_nil | refine all_live_clo rfl ?_ | refine all_live_slice rfl ?_ | refine all_live_map rfl ?_ | refine all_live_ptr rfl ?_)))) rfl (by simp) ?_; rintro _ _ ⟨ver2, rfl, rfl⟩)
 refine al_op (op_assign rfl) rfl (by simp) ?_
 refine al_op (op_assign rfl) rfl (by simp) ?_
 refine al_nil ?_
 refine aw_seq ?_
 refine aw_seq ?_
 refine aw_region ?_
 first
   | refine al_op (op_load_rptr Try.underlying27 info27 rfl rfl) rfl (by simp) ?_
   | refine al_op (op_load_map Try.underlying27 info27 rfl rfl (by omega) rfl) rfl (by simp) ?_
   | refine al_op (op_load_ptr Try.underlying27 info27 rfl rfl rfl rfl) rfl (by simp) ?_
 first
   | refine al_callp into40 rfl rfl rfl ((c_valid _ (by assumption)) _) (by simp) ?_
   | refine al_callp into40 rfl rfl rfl (acp_lent (lend_cons (by first | exact lend_same | exact .leaf _ _ (.vnil _) | exact .leaf _ _ (.nil _) | exact lend_whole rfl (by first | rfl | (simp; done) | (simp; omega)) (clo_map (fun _ => rfl)) | exact lend_netg (by first | exact .same _ | exact lendL_vnil | exact lendL_whole rfl (by first | rfl | (simp; done) | (simp; omega)) (clo_map (fun _ => rfl))) (by first | exact .same _ | exact lendL_vnil | exact lendL_whole rfl (by first | rfl | (simp; done) | (simp; omega)) (clo_map (fun _ => rfl))) (by first | exact .same _ | exact lendL_vnil | exact lendL_whole rfl (by first | rfl | (simp; done) | (simp; omega)) (clo_map (fun _ => rfl))) (by first | exact .same _ | exact lendL_vnil | exact lendL_whole rfl (by first | rfl | (simp; done) | (simp; omega)) (clo_map (fun _ => rfl)))) lend_nil) (c_valid _ (by assumption)) rfl) (by simp) ?_
 refine al_op (op_not rfl) rfl (by simp) ?_
 refine al_op (op_move rfl) rfl (by simp) ?_
 apply al_or 4 21 25 rfl
 ·intro h1; have gh1 := h1
  try simp only [nrm] at h1
  first
    | refine al_take (op_load_rptr Try.underlying27 info27 rfl rfl) rfl rfl rfl rfl (by simp) ?_
    | refine al_take (op_load_map Try.underlying27 info27 rfl rfl (by omega) rfl) rfl rfl rfl rfl (by simp) ?_
    | refine al_take (op_load_ptr Try.underlying27 info27 rfl rfl rfl rfl) rfl rfl rfl rfl (by simp) ?_
  first
    | refine al_callp_take into41 rfl rfl rfl rfl rfl rfl ((c_known _ (by assumption)) _) (by simp) ?_
    | refine al_callp_take into41 rfl rfl rfl rfl rfl rfl (acp_lent (lend_cons (by first | exact lend_same | exact .leaf _ _ (.vnil _) | exact .leaf _ _ (.nil _) | exact lend_whole rfl (by first | rfl | (simp; done) | (simp; omega)) (clo_map (fun _ => rfl)) | exact lend_netg (by first | exact .same _ | exact lendL_vnil | exact lendL_whole rfl (by first | rfl | (simp; done) | (simp; omega)) (clo_map (fun _ => rfl))) (by first | exact .same _ | exact lendL_vnil | exact lendL_whole rfl (by first | rfl | (simp; done) | (simp; omega)) (clo_map (fun _ => rfl))) (by first | exact .same _ | exact lendL_vnil | exact lendL_whole rfl (by first | rfl | (simp; done) | (simp; omega)) (clo_map (fun _ => rfl))) (by first | exact .same _ | exact lendL_vnil | exact lendL_whole rfl (by first | rfl | (simp; done) | (simp; omega)) (clo_map (fun _ => rfl)))) lend_nil) (c_known _ (by assumption)) rfl) (by simp) ?_
  refine al_take (op_not rfl) rfl rfl rfl rfl (by simp) ?_
  first
    | refine al_op (op_pick rfl rfl) rfl (by simp) ?_
    | refine al_op (op_or rfl rfl rfl) rfl (by simp) ?_
  refine al_nil ⟨rfl, rfl, rfl, keep_of ?_⟩
  repeat (first | exact subx_refl | exact subx_known rfl gh1 subx_refl | refine subx_put rfl ?_)
 ·intro h1; have gh1 := h1
  try simp only [nrm] at h1
  refine al_pass rfl rfl rfl rfl (by simp) ?_
  refine al_pass rfl rfl rfl rfl (by simp) ?_
  refine al_pass rfl rfl rfl rfl (by simp) ?_
  first
    | refine al_op (op_pick rfl rfl) rfl (by simp) ?_
    | refine al_op (op_or rfl rfl rfl) rfl (by simp) ?_
  refine al_nil ⟨rfl, rfl, rfl, keep_of ?_⟩
  repeat (first | exact subx_refl | exact subx_known rfl gh1 subx_refl | refine subx_put rfl ?_)
 refine al_op (op_move rfl) rfl (by simp) ?_
 apply al_or 4 26 30 rfl
 ·intro h2; have gh2 := h2
  try simp only [nrm] at h2
  refine al_take (op_move rfl) rfl rfl rfl rfl (by simp) ?_
  first
    | refine al_take (op_len_map Try.underlying28 rfl) rfl rfl rfl rfl (by simp) ?_
    | refine al_take (op_len_slice Try.underlying28 rfl rfl) rfl rfl rfl rfl (by simp) ?_
    | refine al_take (op_len_list Try.underlying28 rfl) rfl rfl rfl rfl (by simp) ?_
    | refine al_take (op_len_v Try.underlying28 rfl) rfl rfl rfl rfl (by simp) ?_
    | refine al_take (op_len_nil Try.underlying28 rfl) rfl rfl rfl rfl (by simp) ?_
  refine al_take (op_gtr rfl rfl) rfl rfl rfl rfl (by simp) ?_
  first
    | refine al_op (op_pick rfl rfl) rfl (by simp) ?_
    | refine al_op (op_or rfl rfl rfl) rfl (by simp) ?_
  refine al_nil ⟨rfl, rfl, rfl, keep_of ?_⟩
  repeat (first | exact subx_refl | exact subx_known rfl gh2 subx_refl | refine subx_put rfl ?_)
 ·intro h2; have gh2 := h2
  try simp only [nrm] at h2
  refine al_pass rfl rfl rfl rfl (by simp) ?_
  refine al_pass rfl rfl rfl rfl (by simp) ?_
  refine al_pass rfl rfl rfl rfl (by simp) ?_
  first
    | refine al_op (op_pick rfl rfl) rfl (by simp) ?_
    | refine al_op (op_or rfl rfl rfl) rfl (by simp) ?_
  refine al_nil ⟨rfl, rfl, rfl, keep_of ?_⟩
  repeat (first | exact subx_refl | exact subx_known rfl gh2 subx_refl | refine subx_put rfl ?_)
 refine al_op (op_move rfl) rfl (by simp) ?_
 apply al_or 4 31 35 rfl
 ·intro h3; have gh3 := h3
  try simp only [nrm] at h3
  refine al_take (op_move rfl) rfl rfl rfl rfl (by simp) ?_
  refine al_take (op_closure rfl rfl) rfl rfl rfl rfl (by simp) ?_
  refine al_callp_take into42 rfl rfl rfl rfl rfl rfl (cfw_at 2 ver2 n hn ins hi rfl rfl rfl) (by simp) ?_
  first
    | refine al_op (op_pick rfl rfl) rfl (by simp) ?_
    | refine al_op (op_or rfl rfl rfl) rfl (by simp) ?_
  refine al_nil ⟨rfl, rfl, rfl, keep_of ?_⟩
  repeat (first | exact subx_refl | exact subx_known rfl gh3 subx_refl | refine subx_put rfl ?_)
 ·intro h3; have gh3 := h3
  try simp only [nrm] at h3
  refine al_pass rfl rfl rfl rfl (by simp) ?_
  refine al_pass rfl rfl rfl rfl (by simp) ?_
  refine al_pass rfl rfl rfl rfl (by simp) ?_
  first
    | refine al_op (op_pick rfl rfl) rfl (by simp) ?_
    | refine al_op (op_or rfl rfl rfl) rfl (by simp) ?_
  refine al_nil ⟨rfl, rfl, rfl, keep_of ?_⟩
  repeat (first | exact subx_refl | exact subx_known rfl gh3 subx_refl | refine subx_put rfl ?_)
 refine al_nil ?_
 refine aw_cond rfl (fun h4 => ?_) (fun h4 => ?_)
 ·have gh4 := h4
  try simp only [nrm] at h4
  refine aw_seq ?_
  refine aw_region ?_
  refine al_op (op_assign rfl) rfl (by simp) ?_
  refine al_op (op_assign rfl) rfl (by simp) ?_
  refine al_nil ?_
  refine aw_freeze (fun _ => false) (fsub_cons (t := 4) rfl (by first | exact .leaf _ _ (frz_whole rfl rfl (by first | rfl | (simp; done) | (simp; omega)) (clo_map (fun _ => rfl))) | exact .leaf _ _ (.vnil 1) | exact .leaf _ _ (.nil 1) | exact .leaf _ _ (.same _)) (fsub_cons (t := 5) rfl (.leaf _ _ (.same _)) fsub_nil)) ?_
  refine aw_ret ?_
  refine ⟨_, res_2 rfl rfl rfl rfl rfl, ?_, rfl⟩
  rw [Net.many, if_neg (by rw [manyOK_or] at gh4; simpa using gh4)] <;> rfl
 ·have gh4 := h4
  try simp only [nrm] at h4
  have hok : n.manyOK ins = true := by rw [manyOK_or] at gh4; simpa using gh4
  obtain ⟨hv, hkn, hlen, hlens⟩ := Net.manyOK_facts hok
  obtain ⟨f1, f2, f3, f4, f5, f6, f7⟩ := Net.valid_facts hv
  refine aw_skip ?_
  refine aw_seq ?_
  refine aw_region ?_
  refine al_op (op_assign rfl) rfl (by simp) ?_
  refine al_nil ?_
  refine aw_seq ?_
  refine aw_seq ?_
  refine aw_region ?_
  first
    | refine al_op (op_field_rptr Try.underlying27 rfl info23 (by decide) rfl rfl) rfl (by simp) ?_
    | refine al_op (op_field_ptr Try.underlying27 rfl info23 (by decide) rfl rfl rfl) rfl (by simp) ?_
  first
    | refine al_op (op_load_rptr Try.underlying23 info23 rfl rfl) rfl (by simp) ?_
    | refine al_op (op_load_map Try.underlying23 info23 rfl rfl (by omega) rfl) rfl (by simp) ?_
    | refine al_op (op_load_ptr Try.underlying23 info23 rfl rfl rfl rfl) rfl (by simp) ?_
  first
    | refine al_op (op_len_map Try.underlying23 rfl) rfl (by simp) ?_
    | refine al_op (op_len_slice Try.underlying23 rfl rfl) rfl (by simp) ?_
    | refine al_op (op_len_list Try.underlying23 rfl) rfl (by simp) ?_
    | refine al_op (op_len_v Try.underlying23 rfl) rfl (by simp) ?_
    | refine al_op (op_len_nil Try.underlying23 rfl) rfl (by simp) ?_
  refine al_op (op_move rfl) rfl (by simp) ?_
  refine al_nil ?_
  refine aw_block ?_
  apply aw_only
  ·
   (first | apply sub_cons (t := 1) rfl | skip)
   (first | apply sub_cons (t := 2) rfl | skip)
   (first | apply sub_cons (t := 4) rfl | skip)
   (first | apply sub_cons (t := 5) rfl | skip)
   (first | apply sub_cons (t := 6) rfl | skip)
   (first | apply sub_cons (t := 37) rfl | skip)
   (first | apply sub_cons (t := 38) rfl | skip)
   (first | apply sub_cons (t := 39) rfl | skip)
   exact sub_nil
  refine aw_own_map encU 6 1 6 rfl rfl (fun ver6 => ?_)
  refine aw_for2T (α := Nat) (β := Nat) [6, 39] [8] (fun i ver => n.regs.length - i) (fun i ver => i ≤ n.regs.length) (fun i ver => ([(6, .slice 6 ver 0 ((n.regs.take i).map spreadR).length), (39, .v (.int .i64 (i)))] : Env)) (fun i ver s => s.put 6 ver (.row 1 (((n.regs.take i).map spreadR).map encU))) (0) (ver6) ?_ ?_ ?_ (fun i ver hinv => ?_)
  ·exact Nat.zero_le _
  ·refine sub_cons (get_as rfl ?_) ?_; rotate_left; refine sub_cons (get_as rfl ?_) ?_; rotate_left; exact sub_nil
   all_goals (first | rfl | (simp; done) | (simp only [take_succ_getD n.regs i (by omega), List.map_append, List.map_cons, List.map_nil] <;> rfl))
  ·rfl
  refine aw_seq ?_
  refine aw_region ?_
  refine al_op (op_lss rfl rfl) rfl (by simp) ?_
  refine al_nil ?_
  refine aw_seq ?_
  refine aw_cond rfl (fun h5 => ?_) (fun h5 => ?_)
  ·have gh5 := h5
   try simp only [nrm] at h5
   refine aw_skip ?_
   refine aw_seq ?_
   refine aw_block ?_
   refine aw_seq ?_
   refine aw_region ?_
   first
     | refine al_op (op_index_map default Try.underlying23 info62 rfl rfl rfl (by first | (with_reducible exact Int.toNat_natCast _) | rfl) (by omega) (by omega)) rfl (by simp) ?_
     | refine al_op (op_index_slice Try.underlying23 info62 rfl rfl rfl rfl (by omega) (by omega)) rfl (by simp) ?_
     | refine al_op (op_index_list Try.underlying23 info62 rfl rfl rfl (by decide) rfl) rfl (by simp) ?_
   first
     | refine al_op (op_load_rptr Try.underlying62 info62 rfl rfl) rfl (by simp) ?_
     | refine al_op (op_load_map Try.underlying62 info62 rfl rfl (by omega) rfl) rfl (by simp) ?_
     | refine al_op (op_load_ptr Try.underlying62 info62 rfl rfl rfl rfl) rfl (by simp) ?_
   (refine al_opR (op_alloc 8 info62 rfl rfl) rfl (by simp) ?_; rintro _ _ ⟨ver8, rfl, rfl⟩)
   first
     | refine al_op (op_store_ptr info62 rfl rfl rfl rfl rfl rfl (by first | rfl | exact live_one rfl | (repeat (first | exact all_live_nil | refine all_live_clo rfl ?_ | refine all_live_slice rfl ?_ | refine all_live_map rfl ?_ | refine all_live_ptr rfl ?_))) (by decide)) rfl (by simp) ?_
     | refine al_op (op_store_ptr info62 rfl rfl rfl rfl rfl rfl (by first | rfl | exact live_one rfl | (repeat (first | exact all_live_nil | refine all_live_clo rfl ?_ | refine all_live_slice rfl ?_ | refine all_live_map rfl ?_ | refine all_live_ptr rfl ?_))) (Nat.le_of_ble_eq_true rfl)) rfl (by simp) ?_
   refine al_nil ?_
   have hbr := hn.bytes _ (getD_mem (v := n.regs) (i := i) (by omega))
   refine aw_region ?_
   refine al_op (op_move rfl) rfl (by simp) ?_
   first
     | refine al_op (op_field_rptr Try.underlying62 rfl info41 (by decide) rfl rfl) rfl (by simp) ?_
     | refine al_op (op_field_ptr Try.underlying62 rfl info41 (by decide) rfl rfl rfl) rfl (by simp) ?_
   first
     | refine al_op (op_load_rptr Try.underlying41 info41 rfl rfl) rfl (by simp) ?_
     | refine al_op (op_load_map Try.underlying41 info41 rfl rfl (by omega) rfl) rfl (by simp) ?_
     | refine al_op (op_load_ptr Try.underlying41 info41 rfl rfl rfl rfl) rfl (by simp) ?_
   first
     | refine al_callp into44 rfl rfl rfl ((c_spread _ (by omega) (by omega)) _) (by simp) ?_
     | refine al_callp into44 rfl rfl rfl (acp_lent (lend_cons (by first | exact lend_same | exact .leaf _ _ (.vnil _) | exact .leaf _ _ (.nil _) | exact lend_whole rfl (by first | rfl | (simp; done) | (simp; omega)) (clo_map (fun _ => rfl)) | exact lend_netg (by first | exact .same _ | exact lendL_vnil | exact lendL_whole rfl (by first | rfl | (simp; done) | (simp; omega)) (clo_map (fun _ => rfl))) (by first | exact .same _ | exact lendL_vnil | exact lendL_whole rfl (by first | rfl | (simp; done) | (simp; omega)) (clo_map (fun _ => rfl))) (by first | exact .same _ | exact lendL_vnil | exact lendL_whole rfl (by first | rfl | (simp; done) | (simp; omega)) (clo_map (fun _ => rfl))) (by first | exact .same _ | exact lendL_vnil | exact lendL_whole rfl (by first | rfl | (simp; done) | (simp; omega)) (clo_map (fun _ => rfl)))) lend_nil) (c_spread _ (by omega) (by omega)) rfl) (by simp) ?_
   refine al_op (op_buildSlice Try.underlying34 info35 rfl rfl (by decide) rfl (by decide) rfl (by first | rfl | (repeat (first | exact parts_nil | refine parts_cons rfl (by repeat (first | exact all_live_nil | refine all_live_clo rfl ?_ | refine all_live_slice rfl ?_ | refine all_live_map rfl ?_ | refine all_live_ptr rfl ?_)) ?_))) rfl rfl rfl) rfl (by simp) ?_
   first
     | (refine al_opR (op_append_one (spreadR (n.regs.getD i default)) Try.underlying34 Try.underlying34 rfl info35 rfl rfl (by decide) rfl rfl rfl (by first | rfl | simp) rfl rfl (by first | omega | (simp; done) | (simp; omega)) (by show _ * 8 ≤ _; first | omega | (simp; done) | (simp; omega))) rfl (by simp) ?_; rintro _ _ ⟨ver48, rfl, rfl⟩)
     | (refine al_opR (op_append_map Try.underlying34 Try.underlying34 rfl info35 rfl rfl (by decide) rfl rfl rfl (by first | rfl | simp) rfl (by first | exact .list _ | exact .vnil | exact .nil | exact .row _ _ _ _ rfl (by first | rfl | simp)) rfl (by first | omega | (simp; done) | (simp; omega)) (by show _ * 8 ≤ _; first | omega | (simp; done) | (simp; omega))) rfl (by simp) ?_; rintro _ _ ⟨ver48, rfl, rfl⟩)
   refine al_op (op_assign rfl) rfl (by simp) ?_
   refine al_nil ?_
   refine aw_region ?_
   refine al_op (op_add rfl rfl (by first | exact wrap_i64 (by omega) (by omega))) rfl (by simp) ?_
   refine al_op (op_move rfl) rfl (by simp) ?_
   refine al_nil ?_
   refine ⟨i + 1, ver48, ?_, ?_, ?_, ?_, ?_⟩
   ·omega
   ·omega
   ·refine sub_cons (get_as rfl ?_) ?_; rotate_left; refine sub_cons (get_as rfl ?_) ?_; rotate_left; exact sub_nil
    all_goals (first | rfl | (simp; done) | (simp only [take_succ_getD n.regs i (by omega), List.map_append, List.map_cons, List.map_nil] <;> rfl))
   ·repeat (first | exact subx_refl | exact subx_del | refine subx_put rfl ?_)
   ·(simp only [take_succ_getD n.regs i (by omega), List.map_append, List.map_cons, List.map_nil] <;> rfl)
  ·have gh5 := h5
   try simp only [nrm] at h5
   refine aw_exit ?_
   obtain rfl : i = n.regs.length := by omega
   refine aw_as 6 (.slice 6 ver 0 (n.wst ins 0).length) rfl (by rw [List.take_length]; rfl) ?_
   refine aw_st (σ2 := ([(2, ver2, .row 4 [[.list 1 (n.ins.map encS), .list 3 (n.regs.map encR), .list 2 (n.gates.map encG), .list 2 (n.outs.map encP)]]), (6, ver, .row 1 ((n.wst ins 0).map encU))] : Store)) (by rw [List.take_length]; rfl) ?_
   refine aw_seq ?_
   refine aw_region ?_
   refine al_op (op_assign rfl) rfl (by simp) ?_
   refine al_nil ?_
   refine aw_seq ?_
   refine aw_seq ?_
   refine aw_region ?_
   refine al_op (op_move rfl) rfl (by simp) ?_
   first
     | refine al_op (op_len_map Try.underlying28 rfl) rfl (by simp) ?_
     | refine al_op (op_len_slice Try.underlying28 rfl rfl) rfl (by simp) ?_
     | refine al_op (op_len_list Try.underlying28 rfl) rfl (by simp) ?_
     | refine al_op (op_len_v Try.underlying28 rfl) rfl (by simp) ?_
     | refine al_op (op_len_nil Try.underlying28 rfl) rfl (by simp) ?_
   refine al_op (op_move rfl) rfl (by simp) ?_
   refine al_nil ?_
   refine aw_block ?_
   apply aw_only
   ·
    (first | apply sub_cons (t := 2) rfl | skip)
    (first | apply sub_cons (t := 4) rfl | skip)
    (first | apply sub_cons (t := 5) rfl | skip)
    (first | apply sub_cons (t := 6) rfl | skip)
    (first | apply sub_cons (t := 9) rfl | skip)
    (first | apply sub_cons (t := 50) rfl | skip)
    (first | apply sub_cons (t := 51) rfl | skip)
    (first | apply sub_cons (t := 52) rfl | skip)
    exact sub_nil
   refine aw_own_map encLU 9 1 9 rfl rfl (fun ver9 => ?_)
   refine aw_for3T (α := Nat) (β := Nat) (γ := Nat) [6, 9, 52] [15, 17] (fun i ver v9 => ins.length - i) (fun i ver v9 => i ≤ ins.length) (fun i ver v9 => ([(6, .slice 6 ver 0 (n.wst ins i).length), (9, .slice 9 v9 0 (n.wouts ins i).length), (52, .v (.int .i64 (i)))] : Env)) (fun i ver v9 st => ([(2, ver2, .row 4 [[.list 1 (n.ins.map encS), .list 3 (n.regs.map encR), .list 2 (n.gates.map encG), .list 2 (n.outs.map encP)]]), (6, ver, .row 1 ((n.wst ins i).map encU)), (9, v9, .row 1 ((n.wouts ins i).map encLU))] : Store)) (0) (ver) (ver9) ?_ ?_ ?_ (fun i ver v9 hinv => ?_)
   ·exact Nat.zero_le _
   ·refine sub_cons (get_as rfl ?_) ?_; rotate_left; refine sub_cons (get_as rfl ?_) ?_; rotate_left; refine sub_cons (get_as rfl ?_) ?_; rotate_left; exact sub_nil
    all_goals (first | rfl | (simp; done) | (rw [n.wouts_succ] <;> rfl) | (rw [n.wst_length, n.wst_length]))
   ·rfl
   have hsl0 := n.wst_length ins i
   have hol := n.wouts_length ins i
   refine aw_seq ?_
   refine aw_region ?_
   refine al_op (op_lss rfl rfl) rfl (by simp) ?_
   refine al_nil ?_
   refine aw_seq ?_
   refine aw_cond rfl (fun h6 => ?_) (fun h6 => ?_)
   ·have gh6 := h6
    try simp only [nrm] at h6
    refine aw_skip ?_
    refine aw_seq ?_
    refine aw_block ?_
    refine aw_seq ?_
    refine aw_region ?_
    first
      | refine al_op (op_index_map default Try.underlying28 info34 rfl rfl rfl (by first | (with_reducible exact Int.toNat_natCast _) | rfl) (by omega) (by omega)) rfl (by simp) ?_
      | refine al_op (op_index_slice Try.underlying28 info34 rfl rfl rfl rfl (by omega) (by omega)) rfl (by simp) ?_
      | refine al_op (op_index_list Try.underlying28 info34 rfl rfl rfl (by decide) rfl) rfl (by simp) ?_
    first
      | refine al_op (op_load_rptr Try.underlying34 info34 rfl rfl) rfl (by simp) ?_
      | refine al_op (op_load_map Try.underlying34 info34 rfl rfl (by omega) rfl) rfl (by simp) ?_
      | refine al_op (op_load_ptr Try.underlying34 info34 rfl rfl rfl rfl) rfl (by simp) ?_
    refine al_op (op_assign rfl) rfl (by simp) ?_
    refine al_nil ?_
    refine aw_seq ?_
    have hwd := Net.wide_at hi hok i (by omega)
    refine aw_region ?_
    first
      | refine al_op (op_load_rptr Try.underlying27 info27 rfl rfl) rfl (by simp) ?_
      | refine al_op (op_load_map Try.underlying27 info27 rfl rfl (by omega) rfl) rfl (by simp) ?_
      | refine al_op (op_load_ptr Try.underlying27 info27 rfl rfl rfl rfl) rfl (by simp) ?_
    refine al_op (op_move rfl) rfl (by simp) ?_
    refine al_op (op_move rfl) rfl (by simp) ?_
    refine al_callp into45 rfl rfl rfl (acn_lend (lend_cons (by first | exact lend_same | exact .leaf _ _ (.vnil _) | exact .leaf _ _ (.nil _) | exact lend_whole rfl (by first | rfl | (simp; done) | (simp; omega)) (clo_map (fun _ => rfl)) | exact lend_netg (by first | exact .same _ | exact lendL_vnil | exact lendL_whole rfl (by first | rfl | (simp; done) | (simp; omega)) (clo_map (fun _ => rfl))) (by first | exact .same _ | exact lendL_vnil | exact lendL_whole rfl (by first | rfl | (simp; done) | (simp; omega)) (clo_map (fun _ => rfl))) (by first | exact .same _ | exact lendL_vnil | exact lendL_whole rfl (by first | rfl | (simp; done) | (simp; omega)) (clo_map (fun _ => rfl))) (by first | exact .same _ | exact lendL_vnil | exact lendL_whole rfl (by first | rfl | (simp; done) | (simp; omega)) (clo_map (fun _ => rfl)))) (lend_cons (by first | exact lend_same | exact .leaf _ _ (.vnil _) | exact .leaf _ _ (.nil _) | exact lend_whole rfl (by first | rfl | (simp; done) | (simp; omega)) (clo_map (fun _ => rfl)) | exact lend_netg (by first | exact .same _ | exact lendL_vnil | exact lendL_whole rfl (by first | rfl | (simp; done) | (simp; omega)) (clo_map (fun _ => rfl))) (by first | exact .same _ | exact lendL_vnil | exact lendL_whole rfl (by first | rfl | (simp; done) | (simp; omega)) (clo_map (fun _ => rfl))) (by first | exact .same _ | exact lendL_vnil | exact lendL_whole rfl (by first | rfl | (simp; done) | (simp; omega)) (clo_map (fun _ => rfl))) (by first | exact .same _ | exact lendL_vnil | exact lendL_whole rfl (by first | rfl | (simp; done) | (simp; omega)) (clo_map (fun _ => rfl)))) (lend_cons (by first | exact lend_same | exact .leaf _ _ (.vnil _) | exact .leaf _ _ (.nil _) | exact lend_whole rfl (by first | rfl | (simp; done) | (simp; omega)) (clo_map (fun _ => rfl)) | exact lend_netg (by first | exact .same _ | exact lendL_vnil | exact lendL_whole rfl (by first | rfl | (simp; done) | (simp; omega)) (clo_map (fun _ => rfl))) (by first | exact .same _ | exact lendL_vnil | exact lendL_whole rfl (by first | rfl | (simp; done) | (simp; omega)) (clo_map (fun _ => rfl))) (by first | exact .same _ | exact lendL_vnil | exact lendL_whole rfl (by first | rfl | (simp; done) | (simp; omega)) (clo_map (fun _ => rfl))) (by first | exact .same _ | exact lendL_vnil | exact lendL_whole rfl (by first | rfl | (simp; done) | (simp; omega)) (clo_map (fun _ => rfl)))) lend_nil))) (n_clock _ (by assumption) _ _ (by assumption))) (by simp) ?_
    refine al_op (op_assign rfl) rfl (by simp) ?_
    refine al_nil ?_
    refine aw_seq ?_
    refine aw_region ?_
    refine al_op (op_assign rfl) rfl (by simp) ?_
    refine al_nil ?_
    refine aw_seq ?_
    refine aw_seq ?_
    refine aw_as 12 (.list 1 ((n.wv ins i).map encU)) rfl rfl ?_
    have hwl := n.wideTo_length (ins.getD i default) (n.wst ins i) n.gates.length
    have hwl2 : (n.wv ins i).length = 1 + (ins.getD i default).length + (n.wst ins i).length + n.gates.length := hwl
    have hw64 : W64 (n.wv ins i) := n.wideTo_64 hwd.i64 hwd.s64 _
    have hil := hwd.il
    have hsl := hwd.sl
    refine aw_region ?_
    first
      | refine al_op (op_field_rptr Try.underlying27 rfl info25 (by decide) rfl rfl) rfl (by simp) ?_
      | refine al_op (op_field_ptr Try.underlying27 rfl info25 (by decide) rfl rfl rfl) rfl (by simp) ?_
    first
      | refine al_op (op_load_rptr Try.underlying25 info25 rfl rfl) rfl (by simp) ?_
      | refine al_op (op_load_map Try.underlying25 info25 rfl rfl (by omega) rfl) rfl (by simp) ?_
      | refine al_op (op_load_ptr Try.underlying25 info25 rfl rfl rfl rfl) rfl (by simp) ?_
    first
      | refine al_op (op_len_map Try.underlying25 rfl) rfl (by simp) ?_
      | refine al_op (op_len_slice Try.underlying25 rfl rfl) rfl (by simp) ?_
      | refine al_op (op_len_list Try.underlying25 rfl) rfl (by simp) ?_
      | refine al_op (op_len_v Try.underlying25 rfl) rfl (by simp) ?_
      | refine al_op (op_len_nil Try.underlying25 rfl) rfl (by simp) ?_
    refine al_op (op_move rfl) rfl (by simp) ?_
    refine al_nil ?_
    refine aw_block ?_
    refine aw_own_map encU 13 1 13 rfl rfl (fun ver13 => ?_)
    refine aw_for2T (α := Nat) (β := Nat) [13, 15, 63, 64, 65, 66, 67, 68, 69, 70, 71, 72, 73, 74] [15] (fun j vj => n.outs.length - j) (fun j vj => j ≤ n.outs.length) (fun j vj => ([(13, .slice 13 vj 0 ((n.outs.take j).map (outW (n.wv ins i))).length), (63, .v (.int .i64 (j)))] : Env)) (fun j vj st => st.put 13 vj (.row 1 (((n.outs.take j).map (outW (n.wv ins i))).map encU))) (0) (ver13) ?_ ?_ ?_ (fun j vj hinv => ?_)
    ·exact Nat.zero_le _
    ·refine sub_cons (get_as rfl ?_) ?_; rotate_left; refine sub_cons (get_as rfl ?_) ?_; rotate_left; exact sub_nil
     all_goals (first | rfl | (simp; done) | (simp only [take_succ_getD n.outs j (by omega), List.map_append, List.map_cons, List.map_nil] <;> rfl))
    ·rfl
    refine aw_seq ?_
    refine aw_region ?_
    refine al_op (op_lss rfl rfl) rfl (by simp) ?_
    refine al_nil ?_
    refine aw_seq ?_
    refine aw_cond rfl (fun h7 => ?_) (fun h7 => ?_)
    ·have gh7 := h7
     try simp only [nrm] at h7
     refine aw_skip ?_
     refine aw_seq ?_
     refine aw_block ?_
     refine aw_seq ?_
     refine aw_region ?_
     first
       | refine al_op (op_index_map default Try.underlying25 info83 rfl rfl rfl (by first | (with_reducible exact Int.toNat_natCast _) | rfl) (by omega) (by omega)) rfl (by simp) ?_
       | refine al_op (op_index_slice Try.underlying25 info83 rfl rfl rfl rfl (by omega) (by omega)) rfl (by simp) ?_
       | refine al_op (op_index_list Try.underlying25 info83 rfl rfl rfl (by decide) rfl) rfl (by simp) ?_
     first
       | refine al_op (op_load_rptr Try.underlying83 info83 rfl rfl) rfl (by simp) ?_
       | refine al_op (op_load_map Try.underlying83 info83 rfl rfl (by omega) rfl) rfl (by simp) ?_
       | refine al_op (op_load_ptr Try.underlying83 info83 rfl rfl rfl rfl) rfl (by simp) ?_
     (refine al_opR (op_alloc 15 info83 rfl rfl) rfl (by simp) ?_; rintro _ _ ⟨ver15, rfl, rfl⟩)
     first
       | refine al_op (op_store_ptr info83 rfl rfl rfl rfl rfl rfl (by first | rfl | exact live_one rfl | (repeat (first | exact all_live_nil | refine all_live_clo rfl ?_ | refine all_live_slice rfl ?_ | refine all_live_map rfl ?_ | refine all_live_ptr rfl ?_))) (by decide)) rfl (by simp) ?_
       | refine al_op (op_store_ptr info83 rfl rfl rfl rfl rfl rfl (by first | rfl | exact live_one rfl | (repeat (first | exact all_live_nil | refine all_live_clo rfl ?_ | refine all_live_slice rfl ?_ | refine all_live_map rfl ?_ | refine all_live_ptr rfl ?_))) (Nat.le_of_ble_eq_true rfl)) rfl (by simp) ?_
     refine al_nil ?_
     have hf7 := f7 j (by omega)
     refine aw_region ?_
     refine al_op (op_move rfl) rfl (by simp) ?_
     refine al_op (op_move rfl) rfl (by simp) ?_
     first
       | refine al_op (op_field_rptr Try.underlying83 rfl info3 (by decide) rfl rfl) rfl (by simp) ?_
       | refine al_op (op_field_ptr Try.underlying83 rfl info3 (by decide) rfl rfl rfl) rfl (by simp) ?_
     first
       | refine al_op (op_load_rptr Try.underlying3 info3 rfl rfl) rfl (by simp) ?_
       | refine al_op (op_load_map Try.underlying3 info3 rfl rfl (by omega) rfl) rfl (by simp) ?_
       | refine al_op (op_load_ptr Try.underlying3 info3 rfl rfl rfl rfl) rfl (by simp) ?_
     first
       | refine al_callp into46 rfl rfl rfl ((c_wof _ _ (by omega) (by omega) (by omega) (by assumption)) _) (by simp) ?_
       | refine al_callp into46 rfl rfl rfl (acp_lent (lend_cons (by first | exact lend_same | exact .leaf _ _ (.vnil _) | exact .leaf _ _ (.nil _) | exact lend_whole rfl (by first | rfl | (simp; done) | (simp; omega)) (clo_map (fun _ => rfl)) | exact lend_netg (by first | exact .same _ | exact lendL_vnil | exact lendL_whole rfl (by first | rfl | (simp; done) | (simp; omega)) (clo_map (fun _ => rfl))) (by first | exact .same _ | exact lendL_vnil | exact lendL_whole rfl (by first | rfl | (simp; done) | (simp; omega)) (clo_map (fun _ => rfl))) (by first | exact .same _ | exact lendL_vnil | exact lendL_whole rfl (by first | rfl | (simp; done) | (simp; omega)) (clo_map (fun _ => rfl))) (by first | exact .same _ | exact lendL_vnil | exact lendL_whole rfl (by first | rfl | (simp; done) | (simp; omega)) (clo_map (fun _ => rfl)))) (lend_cons (by first | exact lend_same | exact .leaf _ _ (.vnil _) | exact .leaf _ _ (.nil _) | exact lend_whole rfl (by first | rfl | (simp; done) | (simp; omega)) (clo_map (fun _ => rfl)) | exact lend_netg (by first | exact .same _ | exact lendL_vnil | exact lendL_whole rfl (by first | rfl | (simp; done) | (simp; omega)) (clo_map (fun _ => rfl))) (by first | exact .same _ | exact lendL_vnil | exact lendL_whole rfl (by first | rfl | (simp; done) | (simp; omega)) (clo_map (fun _ => rfl))) (by first | exact .same _ | exact lendL_vnil | exact lendL_whole rfl (by first | rfl | (simp; done) | (simp; omega)) (clo_map (fun _ => rfl))) (by first | exact .same _ | exact lendL_vnil | exact lendL_whole rfl (by first | rfl | (simp; done) | (simp; omega)) (clo_map (fun _ => rfl)))) lend_nil)) (c_wof _ _ (by omega) (by omega) (by omega) (by assumption)) rfl) (by simp) ?_
     refine al_op (op_buildSlice Try.underlying34 info35 rfl rfl (by decide) rfl (by decide) rfl (by first | rfl | (repeat (first | exact parts_nil | refine parts_cons rfl (by repeat (first | exact all_live_nil | refine all_live_clo rfl ?_ | refine all_live_slice rfl ?_ | refine all_live_map rfl ?_ | refine all_live_ptr rfl ?_)) ?_))) rfl rfl rfl) rfl (by simp) ?_
     first
       | (refine al_opR (op_append_one (outW (n.wv ins i) (n.outs.getD j default)) Try.underlying34 Try.underlying34 rfl info35 rfl rfl (by decide) rfl rfl rfl (by first | rfl | simp) rfl rfl (by first | omega | (simp; done) | (simp; omega)) (by show _ * 8 ≤ _; first | omega | (simp; done) | (simp; omega))) rfl (by simp) ?_; rintro _ _ ⟨ver73, rfl, rfl⟩)
       | (refine al_opR (op_append_map Try.underlying34 Try.underlying34 rfl info35 rfl rfl (by decide) rfl rfl rfl (by first | rfl | simp) rfl (by first | exact .list _ | exact .vnil | exact .nil | exact .row _ _ _ _ rfl (by first | rfl | simp)) rfl (by first | omega | (simp; done) | (simp; omega)) (by show _ * 8 ≤ _; first | omega | (simp; done) | (simp; omega))) rfl (by simp) ?_; rintro _ _ ⟨ver73, rfl, rfl⟩)
     refine al_op (op_assign rfl) rfl (by simp) ?_
     refine al_nil ?_
     refine aw_region ?_
     refine al_op (op_add rfl rfl (by first | exact wrap_i64 (by omega) (by omega))) rfl (by simp) ?_
     refine al_op (op_move rfl) rfl (by simp) ?_
     refine al_nil ?_
     refine ⟨j + 1, ver73, ?_, ?_, ?_, ?_, ?_⟩
     ·omega
     ·omega
     ·refine sub_cons (get_as rfl ?_) ?_; rotate_left; refine sub_cons (get_as rfl ?_) ?_; rotate_left; exact sub_nil
      all_goals (first | rfl | (simp; done) | (simp only [take_succ_getD n.outs j (by omega), List.map_append, List.map_cons, List.map_nil] <;> rfl))
     ·repeat (first | exact subx_refl | exact subx_del | refine subx_put rfl ?_)
     ·(simp only [take_succ_getD n.outs j (by omega), List.map_append, List.map_cons, List.map_nil] <;> rfl)
    ·have gh7 := h7
     try simp only [nrm] at h7
     refine aw_exit ?_
     obtain rfl : j = n.outs.length := by omega
     refine aw_seq ?_
     refine aw_freeze (fun i => !(Nat.beq i 13)) (fsub_cons (t := 13) rfl (.leaf _ _ (frz_whole rfl rfl (by simp) (clo_map (fun _ => rfl)))) fsub_same) ?_
     refine aw_as 13 (.list 1 ((n.outs.map (outW (n.wv ins i))).map encU)) rfl (by rw [List.take_length]) ?_
     refine aw_region ?_
     refine al_op (op_move rfl) rfl (by simp) ?_
     refine al_op (op_move rfl) rfl (by simp) ?_
     refine al_op (op_buildSlice Try.underlying28 info34 rfl rfl (by decide) rfl (by decide) rfl (by first | rfl | (repeat (first | exact parts_nil | refine parts_cons rfl (by repeat (first | exact all_live_nil | refine all_live_clo rfl ?_ | refine all_live_slice rfl ?_ | refine all_live_map rfl ?_ | refine all_live_ptr rfl ?_)) ?_))) rfl rfl rfl) rfl (by simp) ?_
     first
       | (refine al_opR (op_append_one (n.outs.map (outW (n.wv ins i))) Try.underlying28 Try.underlying28 rfl info34 rfl rfl (by decide) rfl rfl rfl (by first | rfl | simp) rfl rfl (by first | omega | (simp; done) | (simp; omega)) (by show _ * 24 ≤ _; first | omega | (simp; done) | (simp; omega))) rfl (by simp) ?_; rintro _ _ ⟨ver78, rfl, rfl⟩)
       | (refine al_opR (op_append_map Try.underlying28 Try.underlying28 rfl info34 rfl rfl (by decide) rfl rfl rfl (by first | rfl | simp) rfl (by first | exact .list _ | exact .vnil | exact .nil | exact .row _ _ _ _ rfl (by first | rfl | simp)) rfl (by first | omega | (simp; done) | (simp; omega)) (by show _ * 24 ≤ _; first | omega | (simp; done) | (simp; omega))) rfl (by simp) ?_; rintro _ _ ⟨ver78, rfl, rfl⟩)
     refine al_op (op_assign rfl) rfl (by simp) ?_
     refine al_nil ?_
     refine aw_seq ?_
     refine aw_region ?_
     first
       | refine al_op (op_field_rptr Try.underlying27 rfl info23 (by decide) rfl rfl) rfl (by simp) ?_
       | refine al_op (op_field_ptr Try.underlying27 rfl info23 (by decide) rfl rfl rfl) rfl (by simp) ?_
     first
       | refine al_op (op_load_rptr Try.underlying23 info23 rfl rfl) rfl (by simp) ?_
       | refine al_op (op_load_map Try.underlying23 info23 rfl rfl (by omega) rfl) rfl (by simp) ?_
       | refine al_op (op_load_ptr Try.underlying23 info23 rfl rfl rfl rfl) rfl (by simp) ?_
     first
       | refine al_op (op_len_map Try.underlying23 rfl) rfl (by simp) ?_
       | refine al_op (op_len_slice Try.underlying23 rfl rfl) rfl (by simp) ?_
       | refine al_op (op_len_list Try.underlying23 rfl) rfl (by simp) ?_
       | refine al_op (op_len_v Try.underlying23 rfl) rfl (by simp) ?_
       | refine al_op (op_len_nil Try.underlying23 rfl) rfl (by simp) ?_
     refine al_op (op_move rfl) rfl (by simp) ?_
     refine al_nil ?_
     refine aw_block ?_
     refine aw_forT (ι := Nat) [16, 17, 82, 83, 84, 85, 86, 87, 88, 89, 90, 91, 92, 93, 94] [17] (fun j => n.regs.length - j) (fun j => j ≤ n.regs.length) (fun j => ([(82, .v (.int .i64 (j)))] : Env)) (fun j st => st.put 6 ver (.row 1 ((mixTo (n.wst ins (i + 1)) (n.wst ins i) j).map encU))) (0) ?_ ?_ ?_ (fun j hinv => ?_)
     ·exact Nat.zero_le _
     ·refine sub_cons (get_as rfl ?_) ?_; rotate_left; exact sub_nil
      all_goals (first | rfl | simp)
     ·(rw [mixTo_zero] <;> rfl)
     have hme : (n.wst ins (i + 1)).length = (n.wst ins i).length := by rw [n.wst_length, n.wst_length]
     have hml := mixTo_length hme j
     refine aw_seq ?_
     refine aw_region ?_
     refine al_op (op_lss rfl rfl) rfl (by simp) ?_
     refine al_nil ?_
     refine aw_seq ?_
     refine aw_cond rfl (fun h8 => ?_) (fun h8 => ?_)
     ·have gh8 := h8
      try simp only [nrm] at h8
      refine aw_skip ?_
      refine aw_seq ?_
      refine aw_block ?_
      refine aw_seq ?_
      refine aw_region ?_
      refine al_op (op_move rfl) rfl (by simp) ?_
      first
        | refine al_op (op_index_map default Try.underlying23 info62 rfl rfl rfl (by first | (with_reducible exact Int.toNat_natCast _) | rfl) (by omega) (by omega)) rfl (by simp) ?_
        | refine al_op (op_index_slice Try.underlying23 info62 rfl rfl rfl rfl (by omega) (by omega)) rfl (by simp) ?_
        | refine al_op (op_index_list Try.underlying23 info62 rfl rfl rfl (by decide) rfl) rfl (by simp) ?_
      first
        | refine al_op (op_load_rptr Try.underlying62 info62 rfl rfl) rfl (by simp) ?_
        | refine al_op (op_load_map Try.underlying62 info62 rfl rfl (by omega) rfl) rfl (by simp) ?_
        | refine al_op (op_load_ptr Try.underlying62 info62 rfl rfl rfl rfl) rfl (by simp) ?_
      (refine al_opR (op_alloc 17 info62 rfl rfl) rfl (by simp) ?_; rintro _ _ ⟨ver17, rfl, rfl⟩)
      refine al_op (op_assign rfl) rfl (by simp) ?_
      first
        | refine al_op (op_store_ptr info62 rfl rfl rfl rfl rfl rfl (by first | rfl | exact live_one rfl | (repeat (first | exact all_live_nil | refine all_live_clo rfl ?_ | refine all_live_slice rfl ?_ | refine all_live_map rfl ?_ | refine all_live_ptr rfl ?_))) (by decide)) rfl (by simp) ?_
        | refine al_op (op_store_ptr info62 rfl rfl rfl rfl rfl rfl (by first | rfl | exact live_one rfl | (repeat (first | exact all_live_nil | refine all_live_clo rfl ?_ | refine all_live_slice rfl ?_ | refine all_live_map rfl ?_ | refine all_live_ptr rfl ?_))) (Nat.le_of_ble_eq_true rfl)) rfl (by simp) ?_
      refine al_nil ?_
      have hf6 := f6 j (by omega)
      refine aw_region ?_
      refine al_op (op_move rfl) rfl (by simp) ?_
      refine al_op (op_move rfl) rfl (by simp) ?_
      refine al_op (op_move rfl) rfl (by simp) ?_
      first
        | refine al_op (op_field_rptr Try.underlying62 rfl info3 (by decide) rfl rfl) rfl (by simp) ?_
        | refine al_op (op_field_ptr Try.underlying62 rfl info3 (by decide) rfl rfl rfl) rfl (by simp) ?_
      first
        | refine al_op (op_load_rptr Try.underlying3 info3 rfl rfl) rfl (by simp) ?_
        | refine al_op (op_load_map Try.underlying3 info3 rfl rfl (by omega) rfl) rfl (by simp) ?_
        | refine al_op (op_load_ptr Try.underlying3 info3 rfl rfl rfl rfl) rfl (by simp) ?_
      first
        | refine al_callp into46 rfl rfl rfl ((c_wof _ _ (by omega) (by omega) (by omega) (by assumption)) _) (by simp) ?_
        | refine al_callp into46 rfl rfl rfl (acp_lent (lend_cons (by first | exact lend_same | exact .leaf _ _ (.vnil _) | exact .leaf _ _ (.nil _) | exact lend_whole rfl (by first | rfl | (simp; done) | (simp; omega)) (clo_map (fun _ => rfl)) | exact lend_netg (by first | exact .same _ | exact lendL_vnil | exact lendL_whole rfl (by first | rfl | (simp; done) | (simp; omega)) (clo_map (fun _ => rfl))) (by first | exact .same _ | exact lendL_vnil | exact lendL_whole rfl (by first | rfl | (simp; done) | (simp; omega)) (clo_map (fun _ => rfl))) (by first | exact .same _ | exact lendL_vnil | exact lendL_whole rfl (by first | rfl | (simp; done) | (simp; omega)) (clo_map (fun _ => rfl))) (by first | exact .same _ | exact lendL_vnil | exact lendL_whole rfl (by first | rfl | (simp; done) | (simp; omega)) (clo_map (fun _ => rfl)))) (lend_cons (by first | exact lend_same | exact .leaf _ _ (.vnil _) | exact .leaf _ _ (.nil _) | exact lend_whole rfl (by first | rfl | (simp; done) | (simp; omega)) (clo_map (fun _ => rfl)) | exact lend_netg (by first | exact .same _ | exact lendL_vnil | exact lendL_whole rfl (by first | rfl | (simp; done) | (simp; omega)) (clo_map (fun _ => rfl))) (by first | exact .same _ | exact lendL_vnil | exact lendL_whole rfl (by first | rfl | (simp; done) | (simp; omega)) (clo_map (fun _ => rfl))) (by first | exact .same _ | exact lendL_vnil | exact lendL_whole rfl (by first | rfl | (simp; done) | (simp; omega)) (clo_map (fun _ => rfl))) (by first | exact .same _ | exact lendL_vnil | exact lendL_whole rfl (by first | rfl | (simp; done) | (simp; omega)) (clo_map (fun _ => rfl)))) lend_nil)) (c_wof _ _ (by omega) (by omega) (by omega) (by assumption)) rfl) (by simp) ?_
      first
        | refine al_op (op_index_map default Try.underlying34 info35 rfl rfl rfl (by first | (with_reducible exact Int.toNat_natCast _) | rfl) (by omega) (by omega)) rfl (by simp) ?_
        | refine al_op (op_index_slice Try.underlying34 info35 rfl rfl rfl rfl (by omega) (by omega)) rfl (by simp) ?_
        | refine al_op (op_index_list Try.underlying34 info35 rfl rfl rfl (by decide) rfl) rfl (by simp) ?_
      refine al_op (op_store_map (nextW (n.wv ins i) (n.regs.getD j default)) info35 rfl rfl rfl (by omega) rfl rfl rfl (Nat.le_of_ble_eq_true rfl) rfl) rfl (by simp) ?_
      refine al_nil ?_
      refine aw_region ?_
      refine al_op (op_add rfl rfl (by first | exact wrap_i64 (by omega) (by omega))) rfl (by simp) ?_
      refine al_op (op_move rfl) rfl (by simp) ?_
      refine al_nil ?_
      refine ⟨j + 1, ?_, ?_, ?_, ?_, ?_⟩
      ·omega
      ·omega
      ·refine sub_cons (get_as rfl ?_) ?_; rotate_left; exact sub_nil
       all_goals (first | rfl | simp)
      ·repeat (first | exact subx_refl | exact subx_del | refine subx_put rfl ?_)
      ·(rw [n.mix_next ins i j (by omega)] <;> rfl)
     ·have gh8 := h8
      try simp only [nrm] at h8
      refine aw_exit ?_
      obtain rfl : j = n.regs.length := by omega
      have hme : (n.wst ins (i + 1)).length = (n.wst ins i).length := by rw [n.wst_length, n.wst_length]
      have hmx : mixTo (n.wst ins (i + 1)) (n.wst ins i) n.regs.length = (n.wst ins (i + 1)) := by have := mixTo_all hme; rwa [n.wst_length] at this
      refine aw_st (σ2 := ([(2, ver2, .row 4 [[.list 1 (n.ins.map encS), .list 3 (n.regs.map encR), .list 2 (n.gates.map encG), .list 2 (n.outs.map encP)]]), (6, ver, .row 1 ((n.wst ins (i + 1)).map encU)), (9, ver78, .row 1 ((n.wouts ins i ++ [n.outs.map (outW (n.wv ins i))]).map encLU))] : Store)) (by rw [hmx]; rfl) ?_
      refine aw_region ?_
      refine al_op (op_add rfl rfl (by first | exact wrap_i64 (by omega) (by omega))) rfl (by simp) ?_
      refine al_op (op_move rfl) rfl (by simp) ?_
      refine al_nil ?_
      refine ⟨i + 1, ver, ver78, ?_, ?_, ?_, ?_, ?_⟩
      ·omega
      ·omega
      ·refine sub_cons (get_as rfl ?_) ?_; rotate_left; refine sub_cons (get_as rfl ?_) ?_; rotate_left; refine sub_cons (get_as rfl ?_) ?_; rotate_left; exact sub_nil
       all_goals (first | rfl | (simp; done) | (rw [n.wouts_succ] <;> rfl) | (rw [n.wst_length, n.wst_length]))
      ·repeat (first | exact subx_refl | exact subx_del | refine subx_put rfl ?_)
      ·(rw [n.wouts_succ] <;> rfl)
   ·have gh6 := h6
    try simp only [nrm] at h6
    refine aw_exit ?_
    obtain rfl : i = ins.length := by omega
    have hol := n.wouts_length ins ins.length
    refine aw_seq ?_
    refine aw_region ?_
    refine al_op (op_move rfl) rfl (by simp) ?_
    refine al_op (op_assign rfl) rfl (by simp) ?_
    refine al_op (op_assign rfl) rfl (by simp) ?_
    refine al_nil ?_
    refine aw_freeze (fun _ => false) (fsub_cons (t := 4) rfl (by first | exact .leaf _ _ (frz_whole rfl rfl (by first | rfl | (simp; done) | (simp; omega)) (clo_map (fun _ => rfl))) | exact .leaf _ _ (.vnil 1) | exact .leaf _ _ (.nil 1) | exact .leaf _ _ (.same _)) (fsub_cons (t := 5) rfl (.leaf _ _ (.same _)) fsub_nil)) ?_
    refine aw_ret ?_
    refine ⟨_, res_2 rfl rfl rfl rfl rfl, ?_, rfl⟩
    rw [Net.many, if_pos hok] <;> rfl
end Go.Proofs.Ytnnklpmgncbgnaa
