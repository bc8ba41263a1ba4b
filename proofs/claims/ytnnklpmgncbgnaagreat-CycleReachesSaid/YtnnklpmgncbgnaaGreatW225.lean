/- Printed walks (gen.py, gates_ann.py): part 225. -/
import Derived.Test.YtnnklpmgncbgnaaGreatCWide
import Derived.Test.YtnnklpmgncbgnaaGreatW07
import Derived.Test.YtnnklpmgncbgnaaGreatW207
import Derived.Test.YtnnklpmgncbgnaaGreatCNum
import Derived.Test.YtnnklpmgncbgnaaGreatCSearch
import Derived.Test.YtnnklpmgncbgnaaGreatCReach
import Derived.Test.YtnnklpmgncbgnaaGreatCSort
import Derived.Test.YtnnklpmgncbgnaaGreatCWay
import Derived.Test.YtnnklpmgncbgnaaGreatCRound
import Derived.Test.YtnnklpmgncbgnaaGreatCAwake
import Derived.Test.YtnnklpmgncbgnaaGreatCLaw
import Derived.Test.YtnnklpmgncbgnaaGreatEngY
import Derived.Test.YtnnklpmgncbgnaaGreatFacts
set_option linter.unusedVariables false
set_option linter.unusedSimpArgs false
set_option maxRecDepth 20000
set_option maxHeartbeats 40000000
namespace Go.Proofs.YtnnklpmgncbgnaaGreat
open Go

theorem c_spread (b : Int) (h0 : 0 ≤ b) (hb : b ≤ 255) : ACp Tryz.prog 44 [.v (.int .u8 (b))] (.v (.int .u64 ((maskOf b : Nat) : Int))) := by
 refine acp_of rfl ?_
 refine ac_enter 7 Tryz.func44 rfl rfl (by simp) ?_
 refine aw_seq ?_
 refine aw_region ?_
 refine al_op (op_assign rfl) rfl (by simp) ?_
 refine al_nil ?_
 refine aw_seq ?_
 refine aw_region ?_
 refine al_op (op_move rfl) rfl (by simp) ?_
 refine al_op (op_bitand rfl rfl (and_one8 h0 hb)) rfl (by simp) ?_
 refine al_op (op_conv Tryz.underlying44 Tryz.underlying50 rfl (wrap_u64 (by omega) (by omega))) rfl (by simp) ?_
 refine al_op (op_neg rfl (mask_neg b)) rfl (by simp) ?_
 refine al_op (op_assign rfl) rfl (by simp) ?_
 refine al_nil ?_
 refine aw_freeze (fun _ => false) (fsub_cons (t := 2) rfl (.leaf _ _ (.same _)) fsub_nil) ?_
 refine aw_ret ?_
 refine ⟨_, res_1 rfl rfl, ?_, rfl⟩
 first | rfl | simp_all

theorem c_wof (v : List Nat) (lit : Int) (h0 : 0 ≤ lit) (hm : lit ≤ 4611686018427387904) (hl : (lit / 2).toNat < v.length) (hv : W64 v) : ACp Tryz.prog 46 [.list 1 (v.map encU), .v (.int .i64 (lit))] (.v (.int .u64 ((wOf v lit : Nat) : Int))) := by
 refine acp_of rfl ?_
 have hx := hv _ (getD_mem (v := v) (i := (lit / 2).toNat) (by omega))
 refine ac_enter 15 Tryz.func46 rfl rfl (by simp) ?_
 refine aw_seq ?_
 refine aw_region ?_
 refine al_op (op_assign rfl) rfl (by simp) ?_
 refine al_nil ?_
 refine aw_seq ?_
 refine aw_region ?_
 refine al_op (op_move rfl) rfl (by simp) ?_
 refine al_op (op_move rfl) rfl (by simp) ?_
 refine al_op (op_quo rfl rfl (by omega) (quo_nn (by omega) (by omega) (by omega))) rfl (by simp) ?_
 first
   | refine al_op (op_index_map default Tryz.underlying86 info50 rfl rfl rfl (by first | (with_reducible exact Int.toNat_natCast _) | rfl) (by omega) (by omega)) rfl (by simp) ?_
   | refine al_op (op_index_slice Tryz.underlying86 info50 rfl rfl rfl rfl (by omega) (by omega)) rfl (by simp) ?_
   | refine al_op (op_index_list Tryz.underlying86 info50 rfl rfl rfl (by decide) rfl) rfl (by simp) ?_
 first
   | refine al_op (op_load_rptr Tryz.underlying50 info50 rfl rfl) rfl (by simp) ?_
   | refine al_op (op_load_map Tryz.underlying50 info50 rfl rfl (by omega) rfl) rfl (by simp) ?_
   | refine al_op (op_load_ptr Tryz.underlying50 info50 rfl rfl rfl rfl) rfl (by simp) ?_
 refine al_op (op_move rfl) rfl (by simp) ?_
 refine al_op (op_bitand rfl rfl (and_one _)) rfl (by simp) ?_
 refine al_op (op_conv Tryz.underlying3 Tryz.underlying50 rfl (wrap_u64 (by omega) (by omega))) rfl (by simp) ?_
 refine al_op (op_neg rfl (mask_neg lit)) rfl (by simp) ?_
 refine al_op (op_bitxor rfl rfl (u64_xor hx (maskOf_lt lit))) rfl (by simp) ?_
 refine al_op (op_assign rfl) rfl (by simp) ?_
 refine al_nil ?_
 refine aw_freeze (fun _ => false) (fsub_cons (t := 4) rfl (.leaf _ _ (.same _)) fsub_nil) ?_
 refine aw_ret ?_
 refine ⟨_, res_1 rfl rfl, ?_, rfl⟩
 first | rfl | (rw [wOf])

theorem q_clock (n : Net) (hn : n.Small) (ins st : List Nat) (hw : Wide n ins st) : AC Tryz.prog 45 [encN n, .list 1 (ins.map encU), .list 1 (st.map encU)] ([]) (fun r σ' => ∃ id ver, r = .ret (.slice id ver 0 ((n.wideTo ins st n.gates.length).map encU).length) ∧ σ'.get id = some (ver, .row 1 ((n.wideTo ins st n.gates.length).map encU))) := by
 obtain ⟨hv, il, sl, i64, s64⟩ := hw
 obtain ⟨f1, f2, f3, f4, f5, f6, f7⟩ := Net.valid_facts hv
 refine ac_enter 51 Tryz.func45 rfl rfl (by simp) ?_
 refine aw_seq ?_
 refine aw_region ?_
 (refine al_opR (op_box 3 rfl rfl (by first | rfl | exact live_one rfl | (repeat (first | exact all_live_nil | refine all_live_clo rfl ?_ | refine all_live_slice rfl ?_ | refine all_live_map rfl ?_ | refine all_live_ptr rfl ?_)))) rfl (by simp) ?_; rintro _ _ ⟨ver3, rfl, rfl⟩)
 refine al_op (op_assign rfl) rfl (by simp) ?_
 refine al_nil ?_
 refine aw_seq ?_
 refine aw_region ?_
 refine al_op (op_move rfl) rfl (by simp) ?_
 first
   | refine al_op (op_len_map Tryz.underlying51 rfl) rfl (by simp) ?_
   | refine al_op (op_len_slice Tryz.underlying51 rfl rfl) rfl (by simp) ?_
   | refine al_op (op_len_list Tryz.underlying51 rfl) rfl (by simp) ?_
   | refine al_op (op_len_v Tryz.underlying51 rfl) rfl (by simp) ?_
   | refine al_op (op_len_nil Tryz.underlying51 rfl) rfl (by simp) ?_
 refine al_op (op_add rfl rfl (by first | exact wrap_i64 (by omega) (by omega))) rfl (by simp) ?_
 refine al_op (op_move rfl) rfl (by simp) ?_
 first
   | refine al_op (op_len_map Tryz.underlying51 rfl) rfl (by simp) ?_
   | refine al_op (op_len_slice Tryz.underlying51 rfl rfl) rfl (by simp) ?_
   | refine al_op (op_len_list Tryz.underlying51 rfl) rfl (by simp) ?_
   | refine al_op (op_len_v Tryz.underlying51 rfl) rfl (by simp) ?_
   | refine al_op (op_len_nil Tryz.underlying51 rfl) rfl (by simp) ?_
 refine al_op (op_add rfl rfl (by first | exact wrap_i64 (by omega) (by omega))) rfl (by simp) ?_
 first
   | refine al_op (op_field_rptr Tryz.underlying27 rfl info24 (by decide) rfl rfl) rfl (by simp) ?_
   | refine al_op (op_field_ptr Tryz.underlying27 rfl info24 (by decide) rfl rfl rfl) rfl (by simp) ?_
 first
   | refine al_op (op_load_rptr Tryz.underlying24 info24 rfl rfl) rfl (by simp) ?_
   | refine al_op (op_load_map Tryz.underlying24 info24 rfl rfl (by omega) rfl) rfl (by simp) ?_
   | refine al_op (op_load_ptr Tryz.underlying24 info24 rfl rfl rfl rfl) rfl (by simp) ?_
 first
   | refine al_op (op_len_map Tryz.underlying24 rfl) rfl (by simp) ?_
   | refine al_op (op_len_slice Tryz.underlying24 rfl rfl) rfl (by simp) ?_
   | refine al_op (op_len_list Tryz.underlying24 rfl) rfl (by simp) ?_
   | refine al_op (op_len_v Tryz.underlying24 rfl) rfl (by simp) ?_
   | refine al_op (op_len_nil Tryz.underlying24 rfl) rfl (by simp) ?_
 refine al_op (op_add rfl rfl (by first | exact wrap_i64 (by omega) (by omega))) rfl (by simp) ?_
 (refine al_opR (op_make0 (f := encU) 20 Tryz.underlying86 info50 rfl rfl (by decide) rfl rfl rfl (by omega) (by show (8 : Int) * _ ≤ _; omega) (by omega)) rfl (by simp) ?_; rintro _ _ ⟨ver20, rfl, rfl⟩)
 refine al_op (op_assign rfl) rfl (by simp) ?_
 refine al_nil ?_
 refine aw_seq ?_
 refine aw_region ?_
 refine al_op (op_move rfl) rfl (by simp) ?_
 refine al_op (op_buildSlice Tryz.underlying86 info50 rfl rfl (by decide) rfl (by decide) rfl (by first | rfl | (repeat (first | exact parts_nil | refine parts_cons rfl (by repeat (first | exact all_live_nil | refine all_live_clo rfl ?_ | refine all_live_slice rfl ?_ | refine all_live_map rfl ?_ | refine all_live_ptr rfl ?_)) ?_))) rfl rfl rfl) rfl (by simp) ?_
 first
   | (refine al_opR (op_append_one 0 Tryz.underlying86 Tryz.underlying86 rfl info50 rfl rfl (by decide) rfl rfl rfl (by first | rfl | simp) rfl rfl (by first | omega | (simp; done) | (simp; omega)) (by show _ * 8 ≤ _; first | omega | (simp; done) | (simp; omega))) rfl (by simp) ?_; rintro _ _ ⟨ver23, rfl, rfl⟩)
   | (refine al_opR (op_append_map Tryz.underlying86 Tryz.underlying86 rfl info50 rfl rfl (by decide) rfl rfl rfl (by first | rfl | simp) rfl (by first | exact .list _ | exact .vnil | exact .nil | exact .row _ _ _ _ rfl (by first | rfl | simp)) rfl (by first | omega | (simp; done) | (simp; omega)) (by show _ * 8 ≤ _; first | omega | (simp; done) | (simp; omega))) rfl (by simp) ?_; rintro _ _ ⟨ver23, rfl, rfl⟩)
 refine al_op (op_assign rfl) rfl (by simp) ?_
 refine al_nil ?_
 refine aw_seq ?_
 refine aw_region ?_
 refine al_op (op_move rfl) rfl (by simp) ?_
 refine al_op (op_move rfl) rfl (by simp) ?_
 (refine al_opR (op_append_map Tryz.underlying86 Tryz.underlying51 rfl info50 rfl rfl (by decide) rfl rfl rfl (by first | rfl | simp) rfl (by first | exact .list _ | exact .vnil | exact .nil | exact .row _ _ _ _ rfl (by first | rfl | simp)) rfl (by first | omega | (simp; done) | (simp; omega)) (by show _ * 8 ≤ _; first | omega | (simp; done) | (simp; omega))) rfl (by simp) ?_; rintro _ _ ⟨ver26, rfl, rfl⟩)
 refine al_op (op_assign rfl) rfl (by simp) ?_
 refine al_nil ?_
 refine aw_seq ?_
 refine aw_region ?_
 refine al_op (op_move rfl) rfl (by simp) ?_
 refine al_op (op_move rfl) rfl (by simp) ?_
 (refine al_opR (op_append_map Tryz.underlying86 Tryz.underlying51 rfl info50 rfl rfl (by decide) rfl rfl rfl (by first | rfl | simp) rfl (by first | exact .list _ | exact .vnil | exact .nil | exact .row _ _ _ _ rfl (by first | rfl | simp)) rfl (by first | omega | (simp; done) | (simp; omega)) (by show _ * 8 ≤ _; first | omega | (simp; done) | (simp; omega))) rfl (by simp) ?_; rintro _ _ ⟨ver29, rfl, rfl⟩)
 refine al_op (op_assign rfl) rfl (by simp) ?_
 refine al_nil ?_
 refine aw_seq ?_
 refine aw_seq ?_
 refine aw_region ?_
 first
   | refine al_op (op_field_rptr Tryz.underlying27 rfl info24 (by decide) rfl rfl) rfl (by simp) ?_
   | refine al_op (op_field_ptr Tryz.underlying27 rfl info24 (by decide) rfl rfl rfl) rfl (by simp) ?_
 first
   | refine al_op (op_load_rptr Tryz.underlying24 info24 rfl rfl) rfl (by simp) ?_
   | refine al_op (op_load_map Tryz.underlying24 info24 rfl rfl (by omega) rfl) rfl (by simp) ?_
   | refine al_op (op_load_ptr Tryz.underlying24 info24 rfl rfl rfl rfl) rfl (by simp) ?_
 first
   | refine al_op (op_len_map Tryz.underlying24 rfl) rfl (by simp) ?_
   | refine al_op (op_len_slice Tryz.underlying24 rfl rfl) rfl (by simp) ?_
   | refine al_op (op_len_list Tryz.underlying24 rfl) rfl (by simp) ?_
   | refine al_op (op_len_v Tryz.underlying24 rfl) rfl (by simp) ?_
   | refine al_op (op_len_nil Tryz.underlying24 rfl) rfl (by simp) ?_
 refine al_op (op_move rfl) rfl (by simp) ?_
 refine al_nil ?_
 refine aw_block ?_
 refine aw_for2T (α := Nat) (β := Nat) [7, 33] [9] (fun i ver => n.gates.length - i) (fun i ver => i ≤ n.gates.length) (fun i ver => ([(7, .slice 20 ver 0 (n.wideTo ins st i).length), (33, .v (.int .i64 (i)))] : Env)) (fun i ver s => s.put 20 ver (.row 1 ((n.wideTo ins st i).map encU))) (0) (ver29) ?_ ?_ ?_ (fun i ver hinv => ?_)
 ·exact Nat.zero_le _
 ·refine sub_cons (get_as rfl ?_) ?_; rotate_left; refine sub_cons (get_as rfl ?_) ?_; rotate_left; exact sub_nil
  all_goals (first | rfl | (simp; done))
 ·rfl
 have hlen := n.wideTo_length ins st i
 refine aw_seq ?_
 refine aw_region ?_
 refine al_op (op_lss rfl rfl) rfl (by simp) ?_
 refine al_nil ?_
 refine aw_seq ?_
 refine aw_cond rfl (fun h1 => ?_) (fun h1 => ?_)
 ·have gh1 := h1
  try simp only [nrm] at h1
  refine aw_skip ?_
  refine aw_seq ?_
  refine aw_block ?_
  refine aw_seq ?_
  refine aw_region ?_
  first
    | refine al_op (op_index_map default Tryz.underlying24 info80 rfl rfl rfl (by first | (with_reducible exact Int.toNat_natCast _) | rfl) (by omega) (by omega)) rfl (by simp) ?_
    | refine al_op (op_index_slice Tryz.underlying24 info80 rfl rfl rfl rfl (by omega) (by omega)) rfl (by simp) ?_
    | refine al_op (op_index_list Tryz.underlying24 info80 rfl rfl rfl (by decide) rfl) rfl (by simp) ?_
  first
    | refine al_op (op_load_rptr Tryz.underlying80 info80 rfl rfl) rfl (by simp) ?_
    | refine al_op (op_load_map Tryz.underlying80 info80 rfl rfl (by omega) rfl) rfl (by simp) ?_
    | refine al_op (op_load_ptr Tryz.underlying80 info80 rfl rfl rfl rfl) rfl (by simp) ?_
  (refine al_opR (op_alloc 9 info80 rfl rfl) rfl (by simp) ?_; rintro _ _ ⟨ver9, rfl, rfl⟩)
  first
    | refine al_op (op_store_ptr info80 rfl rfl rfl rfl rfl rfl (by first | rfl | exact live_one rfl | (repeat (first | exact all_live_nil | refine all_live_clo rfl ?_ | refine all_live_slice rfl ?_ | refine all_live_map rfl ?_ | refine all_live_ptr rfl ?_))) (by decide)) rfl (by simp) ?_
    | refine al_op (op_store_ptr info80 rfl rfl rfl rfl rfl rfl (by first | rfl | exact live_one rfl | (repeat (first | exact all_live_nil | refine all_live_clo rfl ?_ | refine all_live_slice rfl ?_ | refine all_live_map rfl ?_ | refine all_live_ptr rfl ?_))) (Nat.le_of_ble_eq_true rfl)) rfl (by simp) ?_
  refine al_nil ?_
  have hg := f5 i (by omega)
  have hw64 := n.wideTo_64 i64 s64 i
  have ha := wOf_lt hw64 (n.gates.getD i default).1
  have hb := wOf_lt hw64 (n.gates.getD i default).2
  refine aw_any (Checked.mixed Tryz.checked) ?_
  apply aany_seg (p := 0) (q := 11) (by kernel_rfl) rfl (by decide)
  ·
   apply ql_plain rfl (op_move rfl)
   apply ql_plain rfl (op_move rfl)
   first
     | apply ql_plain rfl (op_index_arptr Tryz.underlying80 info3 rfl rfl rfl (by decide) (by decide))
     | apply ql_plain rfl (op_index_aptr Tryz.underlying80 info3 rfl rfl rfl rfl (by decide) (by decide))
   first
     | apply ql_plain rfl (op_load_rptr Tryz.underlying3 info3 rfl rfl)
     | apply ql_plain rfl (op_load_map Tryz.underlying3 info3 rfl rfl (by omega) rfl)
     | apply ql_plain rfl (op_load_ptr Tryz.underlying3 info3 rfl rfl rfl rfl)
   first
     | apply ql_call into46 rfl rfl rfl ((c_wof _ _ (by omega) (by omega) (by omega) (by assumption)) _)
     | apply ql_call into46 rfl rfl rfl (acp_lent (lend_cons (by first | exact lend_same | exact .leaf _ _ (.vnil _) | exact .leaf _ _ (.nil _) | exact lend_whole rfl (by first | rfl | (simp; done) | (simp; omega)) (clo_map (fun _ => rfl)) | exact lend_netg (by first | exact .same _ | exact lendL_vnil | exact lendL_whole rfl (by first | rfl | (simp; done) | (simp; omega)) (clo_map (fun _ => rfl))) (by first | exact .same _ | exact lendL_vnil | exact lendL_whole rfl (by first | rfl | (simp; done) | (simp; omega)) (clo_map (fun _ => rfl))) (by first | exact .same _ | exact lendL_vnil | exact lendL_whole rfl (by first | rfl | (simp; done) | (simp; omega)) (clo_map (fun _ => rfl))) (by first | exact .same _ | exact lendL_vnil | exact lendL_whole rfl (by first | rfl | (simp; done) | (simp; omega)) (clo_map (fun _ => rfl)))) (lend_cons (by first | exact lend_same | exact .leaf _ _ (.vnil _) | exact .leaf _ _ (.nil _) | exact lend_whole rfl (by first | rfl | (simp; done) | (simp; omega)) (clo_map (fun _ => rfl)) | exact lend_netg (by first | exact .same _ | exact lendL_vnil | exact lendL_whole rfl (by first | rfl | (simp; done) | (simp; omega)) (clo_map (fun _ => rfl))) (by first | exact .same _ | exact lendL_vnil | exact lendL_whole rfl (by first | rfl | (simp; done) | (simp; omega)) (clo_map (fun _ => rfl))) (by first | exact .same _ | exact lendL_vnil | exact lendL_whole rfl (by first | rfl | (simp; done) | (simp; omega)) (clo_map (fun _ => rfl))) (by first | exact .same _ | exact lendL_vnil | exact lendL_whole rfl (by first | rfl | (simp; done) | (simp; omega)) (clo_map (fun _ => rfl)))) lend_nil)) (c_wof _ _ (by omega) (by omega) (by omega) (by assumption)) rfl)
   apply ql_plain rfl (op_move rfl)
   first
     | apply ql_plain rfl (op_index_arptr Tryz.underlying80 info3 rfl rfl rfl (by decide) (by decide))
     | apply ql_plain rfl (op_index_aptr Tryz.underlying80 info3 rfl rfl rfl rfl (by decide) (by decide))
   first
     | apply ql_plain rfl (op_load_rptr Tryz.underlying3 info3 rfl rfl)
     | apply ql_plain rfl (op_load_map Tryz.underlying3 info3 rfl rfl (by omega) rfl)
     | apply ql_plain rfl (op_load_ptr Tryz.underlying3 info3 rfl rfl rfl rfl)
   first
     | apply ql_call into46 rfl rfl rfl ((c_wof _ _ (by omega) (by omega) (by omega) (by assumption)) _)
     | apply ql_call into46 rfl rfl rfl (acp_lent (lend_cons (by first | exact lend_same | exact .leaf _ _ (.vnil _) | exact .leaf _ _ (.nil _) | exact lend_whole rfl (by first | rfl | (simp; done) | (simp; omega)) (clo_map (fun _ => rfl)) | exact lend_netg (by first | exact .same _ | exact lendL_vnil | exact lendL_whole rfl (by first | rfl | (simp; done) | (simp; omega)) (clo_map (fun _ => rfl))) (by first | exact .same _ | exact lendL_vnil | exact lendL_whole rfl (by first | rfl | (simp; done) | (simp; omega)) (clo_map (fun _ => rfl))) (by first | exact .same _ | exact lendL_vnil | exact lendL_whole rfl (by first | rfl | (simp; done) | (simp; omega)) (clo_map (fun _ => rfl))) (by first | exact .same _ | exact lendL_vnil | exact lendL_whole rfl (by first | rfl | (simp; done) | (simp; omega)) (clo_map (fun _ => rfl)))) (lend_cons (by first | exact lend_same | exact .leaf _ _ (.vnil _) | exact .leaf _ _ (.nil _) | exact lend_whole rfl (by first | rfl | (simp; done) | (simp; omega)) (clo_map (fun _ => rfl)) | exact lend_netg (by first | exact .same _ | exact lendL_vnil | exact lendL_whole rfl (by first | rfl | (simp; done) | (simp; omega)) (clo_map (fun _ => rfl))) (by first | exact .same _ | exact lendL_vnil | exact lendL_whole rfl (by first | rfl | (simp; done) | (simp; omega)) (clo_map (fun _ => rfl))) (by first | exact .same _ | exact lendL_vnil | exact lendL_whole rfl (by first | rfl | (simp; done) | (simp; omega)) (clo_map (fun _ => rfl))) (by first | exact .same _ | exact lendL_vnil | exact lendL_whole rfl (by first | rfl | (simp; done) | (simp; omega)) (clo_map (fun _ => rfl)))) lend_nil)) (c_wof _ _ (by omega) (by omega) (by omega) (by assumption)) rfl)
   apply ql_plain rfl (op_bitand rfl rfl (u64_and ha hb))
   apply ql_plain rfl (op_buildSlice Tryz.underlying86 info50 rfl rfl (by decide) rfl (by decide) rfl (by first | rfl | (repeat (first | exact parts_nil | refine parts_cons rfl (by repeat (first | exact all_live_nil | refine all_live_clo rfl ?_ | refine all_live_slice rfl ?_ | refine all_live_map rfl ?_ | refine all_live_ptr rfl ?_)) ?_))) rfl rfl rfl)
   exact ql_nil
  ·simp
  first
    | (refine aany_opR (by kernel_rfl) rfl rfl (op_append_one (wOf (n.wideTo ins st i) (n.gates.getD i default).1 &&& wOf (n.wideTo ins st i) (n.gates.getD i default).2) Tryz.underlying86 Tryz.underlying86 rfl info50 rfl rfl (by decide) rfl rfl rfl (by first | rfl | simp) rfl rfl (by first | omega | (simp; done) | (simp; omega)) (by show _ * 8 ≤ _; first | omega | (simp; done) | (simp; omega))) (by simp) ?_; rintro _ _ ⟨ver48, rfl, rfl⟩)
    | (refine aany_opR (by kernel_rfl) rfl rfl (op_append_map Tryz.underlying86 Tryz.underlying86 rfl info50 rfl rfl (by decide) rfl rfl rfl (by first | rfl | simp) rfl (by first | exact .list _ | exact .vnil | exact .nil | exact .row _ _ _ _ rfl (by first | rfl | simp)) rfl (by first | omega | (simp; done) | (simp; omega)) (by show _ * 8 ≤ _; first | omega | (simp; done) | (simp; omega))) (by simp) ?_; rintro _ _ ⟨ver48, rfl, rfl⟩)
  apply aany_seg (p := 12) (q := 13) (by kernel_rfl) rfl (by decide)
  ·
   apply ql_plain rfl (op_assign rfl)
   exact ql_nil
  ·simp
  refine aany_end rfl (by kernel_rfl) ?_
  refine aw_region ?_
  refine al_op (op_add rfl rfl (by first | exact wrap_i64 (by omega) (by omega))) rfl (by simp) ?_
  refine al_op (op_move rfl) rfl (by simp) ?_
  refine al_nil ?_
  refine ⟨i + 1, ver48, ?_, ?_, ?_, ?_, ?_⟩
  ·omega
  ·omega
  ·refine sub_cons (get_as rfl ?_) ?_; rotate_left; refine sub_cons (get_as rfl ?_) ?_; rotate_left; exact sub_nil
   all_goals (first | rfl | (simp; done))
  ·repeat (first | exact subx_refl | exact subx_del | refine subx_put rfl ?_)
  ·rfl
 ·have gh1 := h1
  try simp only [nrm] at h1
  refine aw_exit ?_
  obtain rfl : i = n.gates.length := by omega
  refine aw_seq ?_
  refine aw_region ?_
  refine al_op (op_move rfl) rfl (by simp) ?_
  refine al_op (op_assign rfl) rfl (by simp) ?_
  refine al_nil ?_
  refine aw_ret ?_
  refine ⟨_, res_1 rfl rfl, ?_⟩
  exact ⟨20, ver, by rw [List.length_map], rfl⟩
theorem n_clock (n : Net) (hn : n.Small) (ins st : List Nat) (hw : Wide n ins st) : ACn Tryz.prog 45 [encN n, .list 1 (ins.map encU), .list 1 (st.map encU)] (.list 1 ((n.wideTo ins st n.gates.length).map encU)) := acn_of (q_clock n hn ins st hw) (sca_map (fun _ => rfl))

theorem q_many1 (v0 : Nat) (n : Net) (hn : n.Small) (l : List Nat) (hl : l.length ≤ 140737488355328) : AC Tryz.prog 43 [.list 1 (l.map encU), .ptr 0 v0 0 0] ([(0, v0, .row 4 [[.list 1 (n.ins.map encS), .list 3 (n.regs.map encR), .list 2 (n.gates.map encG), .list 2 (n.outs.map encP)]])]) (fun r σ' => r = .ret (.v (.bool (((l.length : Int) != n.ins.length)))) ∧ σ' = [(0, v0, .row 4 [[.list 1 (n.ins.map encS), .list 3 (n.regs.map encR), .list 2 (n.gates.map encG), .list 2 (n.outs.map encP)]])]) := by
 have z1 := hn.insL
 refine ac_enter 10 Tryz.func43 rfl rfl (by simp) ?_
 refine aw_seq ?_
 refine aw_region ?_
 refine al_op (op_assign rfl) rfl (by simp) ?_
 refine al_nil ?_
 refine aw_seq ?_
 refine aw_region ?_
 refine al_op (op_move rfl) rfl (by simp) ?_
 first
   | refine al_op (op_len_map Tryz.underlying51 rfl) rfl (by simp) ?_
   | refine al_op (op_len_slice Tryz.underlying51 rfl rfl) rfl (by simp) ?_
   | refine al_op (op_len_list Tryz.underlying51 rfl) rfl (by simp) ?_
   | refine al_op (op_len_v Tryz.underlying51 rfl) rfl (by simp) ?_
   | refine al_op (op_len_nil Tryz.underlying51 rfl) rfl (by simp) ?_
 first
   | refine al_op (op_field_rptr Tryz.underlying27 rfl info22 (by decide) rfl rfl) rfl (by simp) ?_
   | refine al_op (op_field_ptr Tryz.underlying27 rfl info22 (by decide) rfl rfl rfl) rfl (by simp) ?_
 first
   | refine al_op (op_load_rptr Tryz.underlying22 info22 rfl rfl) rfl (by simp) ?_
   | refine al_op (op_load_map Tryz.underlying22 info22 rfl rfl (by omega) rfl) rfl (by simp) ?_
   | refine al_op (op_load_ptr Tryz.underlying22 info22 rfl rfl rfl rfl) rfl (by simp) ?_
 first
   | refine al_op (op_len_map Tryz.underlying22 rfl) rfl (by simp) ?_
   | refine al_op (op_len_slice Tryz.underlying22 rfl rfl) rfl (by simp) ?_
   | refine al_op (op_len_list Tryz.underlying22 rfl) rfl (by simp) ?_
   | refine al_op (op_len_v Tryz.underlying22 rfl) rfl (by simp) ?_
   | refine al_op (op_len_nil Tryz.underlying22 rfl) rfl (by simp) ?_
 refine al_op (op_neq rfl rfl) rfl (by simp) ?_
 refine al_op (op_assign rfl) rfl (by simp) ?_
 refine al_nil ?_
 refine aw_ret ?_
 refine ⟨_, res_1 rfl rfl, ?_⟩
 exact ⟨rfl, rfl⟩

theorem q_ixw (v0 : Nat) (n : Net) (hn : n.Small) (ins : List (List Nat)) (hi : InsU ins) : AC Tryz.prog 71 [.list 1 (ins.map encLU), .fn 43 [.ptr 0 v0 0 0]] ([(0, v0, .row 4 [[.list 1 (n.ins.map encS), .list 3 (n.regs.map encR), .list 2 (n.gates.map encG), .list 2 (n.outs.map encP)]])]) (fun r σ' => r = .ret (.v (.int .i64 (firstLen n ins))) ∧ σ' = [(0, v0, .row 4 [[.list 1 (n.ins.map encS), .list 3 (n.regs.map encR), .list 2 (n.gates.map encG), .list 2 (n.outs.map encP)]])]) := by
 have z0 := hi.len
 refine ac_enter 19 Tryz.func71 rfl rfl (by simp) ?_
 refine aw_seq ?_
 refine aw_region ?_
 refine al_op (op_assign rfl) rfl (by simp) ?_
 refine al_nil ?_
 refine aw_seq ?_
 refine aw_seq ?_
 refine aw_region ?_
 refine al_op (op_move rfl) rfl (by simp) ?_
 first
   | refine al_op (op_len_map Tryz.underlying47 rfl) rfl (by simp) ?_
   | refine al_op (op_len_slice Tryz.underlying47 rfl rfl) rfl (by simp) ?_
   | refine al_op (op_len_list Tryz.underlying47 rfl) rfl (by simp) ?_
   | refine al_op (op_len_v Tryz.underlying47 rfl) rfl (by simp) ?_
   | refine al_op (op_len_nil Tryz.underlying47 rfl) rfl (by simp) ?_
 refine al_op (op_move rfl) rfl (by simp) ?_
 refine al_nil ?_
 refine aw_block ?_
 refine aw_forT (ι := Nat) [4, 8] [] (fun i => ins.length - i) (fun i => i ≤ ins.length ∧ firstTo (lenBad n ins) i = none) (fun i => ([(8, .v (.int .i64 (i)))] : Env)) (fun i s => s) (0) ?_ ?_ ?_ (fun i hinv => ?_)
 ·exact ⟨Nat.zero_le _, rfl⟩
 ·refine sub_cons (get_as rfl ?_) ?_; rotate_left; exact sub_nil
  all_goals (first | rfl | simp)
 ·rfl
 have hii := hinv.1
 refine aw_seq ?_
 refine aw_region ?_
 refine al_op (op_lss rfl rfl) rfl (by simp) ?_
 refine al_nil ?_
 refine aw_seq ?_
 refine aw_cond rfl (fun h1 => ?_) (fun h1 => ?_)
 ·have gh1 := h1
  try simp only [nrm] at h1
  refine aw_skip ?_
  refine aw_seq ?_
  refine aw_block ?_
  refine aw_seq ?_
  refine aw_region ?_
  refine al_op (op_move rfl) rfl (by simp) ?_
  refine al_op (op_assign rfl) rfl (by simp) ?_
  refine al_nil ?_
  refine aw_seq ?_
  refine aw_region ?_
  refine al_op (op_move rfl) rfl (by simp) ?_
  refine al_op (op_move rfl) rfl (by simp) ?_
  refine al_op (op_move rfl) rfl (by simp) ?_
  first
    | refine al_op (op_index_map default Tryz.underlying47 info51 rfl rfl rfl (by first | (with_reducible exact Int.toNat_natCast _) | rfl) (by omega) (by omega)) rfl (by simp) ?_
    | refine al_op (op_index_slice Tryz.underlying47 info51 rfl rfl rfl rfl (by omega) (by omega)) rfl (by simp) ?_
    | refine al_op (op_index_list Tryz.underlying47 info51 rfl rfl rfl (by decide) rfl) rfl (by simp) ?_
  first
    | refine al_op (op_load_rptr Tryz.underlying51 info51 rfl rfl) rfl (by simp) ?_
    | refine al_op (op_load_map Tryz.underlying51 info51 rfl rfl (by omega) rfl) rfl (by simp) ?_
    | refine al_op (op_load_ptr Tryz.underlying51 info51 rfl rfl rfl rfl) rfl (by simp) ?_
  refine al_callp into43 rfl rfl rfl (q_many1 v0 n hn (ins.getD i default) (hi.at i).1) (by simp) ?_
  refine al_nil ?_
  refine aw_cond rfl (fun h2 => ?_) (fun h2 => ?_)
  ·have gh2 := h2
   try simp only [nrm] at h2
   refine aw_seq ?_
   refine aw_region ?_
   refine al_op (op_move rfl) rfl (by simp) ?_
   refine al_op (op_assign rfl) rfl (by simp) ?_
   refine al_nil ?_
   refine aw_ret ?_
   refine ⟨_, res_1 rfl rfl, ?_⟩
   rw [firstLen, firstTo_some (by omega) hinv.2 gh2]; exact ⟨rfl, rfl⟩
  ·have gh2 := h2
   try simp only [nrm] at h2
   refine aw_skip ?_
   refine aw_region ?_
   refine al_op (op_add rfl rfl (by first | exact wrap_i64 (by omega) (by omega))) rfl (by simp) ?_
   refine al_op (op_move rfl) rfl (by simp) ?_
   refine al_nil ?_
   refine ⟨i + 1, ?_, ?_, ?_, ?_, ?_⟩
   ·omega
   ·exact ⟨by omega, firstTo_succ hinv.2 gh2⟩
   ·refine sub_cons (get_as rfl ?_) ?_; rotate_left; exact sub_nil
    all_goals (first | rfl | simp)
   ·repeat (first | exact subx_refl | exact subx_del | refine subx_put rfl ?_)
   ·rfl
 ·have gh1 := h1
  try simp only [nrm] at h1
  refine aw_exit ?_
  obtain rfl : i = ins.length := by omega
  refine aw_seq ?_
  refine aw_region ?_
  refine al_op (op_assign rfl) rfl (by simp) ?_
  refine al_nil ?_
  refine aw_ret ?_
  refine ⟨_, res_1 rfl rfl, ?_⟩
  rw [firstLen, hinv.2]; exact ⟨rfl, rfl⟩

theorem q_cfw (v0 : Nat) (n : Net) (hn : n.Small) (ins : List (List Nat)) (hi : InsU ins) : AC Tryz.prog 42 [.list 1 (ins.map encLU), .fn 43 [.ptr 0 v0 0 0]] ([(0, v0, .row 4 [[.list 1 (n.ins.map encS), .list 3 (n.regs.map encR), .list 2 (n.gates.map encG), .list 2 (n.outs.map encP)]])]) (fun r σ' => r = .ret (.v (.bool (decide (firstLen n ins ≥ 0)))) ∧ σ' = [(0, v0, .row 4 [[.list 1 (n.ins.map encS), .list 3 (n.regs.map encR), .list 2 (n.gates.map encG), .list 2 (n.outs.map encP)]])]) := by
 refine ac_enter 9 Tryz.func42 rfl rfl (by simp) ?_
 refine aw_seq ?_
 refine aw_region ?_
 refine al_op (op_assign rfl) rfl (by simp) ?_
 refine al_nil ?_
 refine aw_seq ?_
 refine aw_region ?_
 refine al_op (op_move rfl) rfl (by simp) ?_
 refine al_op (op_move rfl) rfl (by simp) ?_
 refine al_callp into71 rfl rfl rfl (q_ixw v0 n hn ins hi) (by simp) ?_
 refine al_op (op_geq rfl rfl) rfl (by simp) ?_
 refine al_op (op_assign rfl) rfl (by simp) ?_
 refine al_nil ?_
 refine aw_ret ?_
 refine ⟨_, res_1 rfl rfl, ?_⟩
 exact ⟨rfl, rfl⟩
theorem cfw_at {σ : Store} (c v0 : Nat) (n : Net) (hn : n.Small) (ins : List (List Nat)) (hi : InsU ins) (ht : tabOK [c] = true) (hb : σ.below 1000 = true) (h1 : σ.get c = some (v0, .row 4 [[.list 1 (n.ins.map encS), .list 3 (n.regs.map encR), .list 2 (n.gates.map encG), .list 2 (n.outs.map encP)]])) :
    AC Tryz.prog 42 [.list 1 (ins.map encLU), .fn 43 [.ptr c v0 0 0]] σ (fun r σ' => r = .ret (.v (.bool (decide (firstLen n ins ≥ 0)))) ∧ σ' = σ) := by
  have hm2 : Store.match (tab [c]) σ [(0, v0, .row 4 [[.list 1 (n.ins.map encS), .list 3 (n.regs.map encR), .list 2 (n.gates.map encG), .list 2 (n.outs.map encP)]])] := ⟨h1, trivial⟩
  have hf : Store.free [c] [(0, v0, .row 4 [[.list 1 (n.ins.map encS), .list 3 (n.regs.map encR), .list 2 (n.gates.map encG), .list 2 (n.outs.map encP)]])] σ = true := by simp [Store.free, Store.get, List.range_succ]
  exact ac_ro [c] ht (q_cfw v0 n hn ins hi) hm2 hf hb

theorem c_Many (n : Net) (hn : n.Small) (ins : List (List Nat)) (hi : InsU ins) : ACp Tryz.prog 18 [encN n, .list 1 (ins.map encLU)] (.tuple [.list 1 ((n.many ins).1.map encLU), .v (.int .i64 ((n.many ins).2))]) := by
 refine acp_of rfl ?_
 have z0 := hi.len
 have z2 := hn.regsL
 have z3 := hn.outsL
 refine ac_enter 97 Tryz.func18 rfl rfl (by simp) ?_
 refine aw_seq ?_
 refine aw_region ?_
 (refine al_opR (op_box 2 rfl rfl (by first | rfl | exact live_one rfl | (repeat (first | exact all_live_nil | refine all_live_clo rfl ?_ | refine all_live_slice rfl ?_ | refine all_live_map rfl ?_ | refine all_live_ptr rfl ?_)))) rfl (by simp) ?_; rintro _ _ ⟨ver2, rfl, rfl⟩)
 refine al_op (op_assign rfl) rfl (by simp) ?_
 refine al_op (op_assign rfl) rfl (by simp) ?_
 refine al_nil ?_
 refine aw_seq ?_
 refine aw_seq ?_
 refine aw_region ?_
 first
   | refine al_op (op_load_rptr Tryz.underlying27 info27 rfl rfl) rfl (by simp) ?_
   | refine al_op (op_load_map Tryz.underlying27 info27 rfl rfl (by omega) rfl) rfl (by simp) ?_
   | refine al_op (op_load_ptr Tryz.underlying27 info27 rfl rfl rfl rfl) rfl (by simp) ?_
 first
   | refine al_callp into32 rfl rfl rfl ((c_valid _ (by assumption)) _) (by simp) ?_
   | refine al_callp into32 rfl rfl rfl (acp_lent (lend_cons (by first | exact lend_same | exact .leaf _ _ (.vnil _) | exact .leaf _ _ (.nil _) | exact lend_whole rfl (by first | rfl | (simp; done) | (simp; omega)) (clo_map (fun _ => rfl)) | exact lend_netg (by first | exact .same _ | exact lendL_vnil | exact lendL_whole rfl (by first | rfl | (simp; done) | (simp; omega)) (clo_map (fun _ => rfl))) (by first | exact .same _ | exact lendL_vnil | exact lendL_whole rfl (by first | rfl | (simp; done) | (simp; omega)) (clo_map (fun _ => rfl))) (by first | exact .same _ | exact lendL_vnil | exact lendL_whole rfl (by first | rfl | (simp; done) | (simp; omega)) (clo_map (fun _ => rfl))) (by first | exact .same _ | exact lendL_vnil | exact lendL_whole rfl (by first | rfl | (simp; done) | (simp; omega)) (clo_map (fun _ => rfl)))) lend_nil) (c_valid _ (by assumption)) rfl) (by simp) ?_
 refine al_op (op_not rfl) rfl (by simp) ?_
 refine al_op (op_move rfl) rfl (by simp) ?_
 apply al_or 4 21 25 rfl
 ·intro h1; have gh1 := h1
  try simp only [nrm] at h1
  first
    | refine al_take (op_load_rptr Tryz.underlying27 info27 rfl rfl) rfl rfl rfl rfl (by simp) ?_
    | refine al_take (op_load_map Tryz.underlying27 info27 rfl rfl (by omega) rfl) rfl rfl rfl rfl (by simp) ?_
    | refine al_take (op_load_ptr Tryz.underlying27 info27 rfl rfl rfl rfl) rfl rfl rfl rfl (by simp) ?_
  first
    | refine al_callp_take into41 rfl rfl rfl rfl rfl rfl ((c_known _ (by assumption)) _) (by simp) ?_
    | refine al_callp_take into41 rfl rfl rfl rfl rfl rfl (acp_lent (lend_cons (by first | exact lend_same | exact .leaf _ _ (.vnil _) | exact .leaf _ _ (.nil _) | exact lend_whole rfl (by first | rfl | (simp; done) | (simp; omega)) (clo_map (fun _ => rfl)) | exact lend_netg (by first | exact .same _ | exact lendL_vnil | exact lendL_whole rfl (by first | rfl | (simp; done) | (simp; omega)) (clo_map (fun _ => rfl))) (by first | exact .same _ | exact lendL_vnil | exact lendL_whole rfl (by first | rfl | (simp; done) | (simp; omega)) (clo_map (fun _ => rfl))) (by first | exact .same _ | exact lendL_vnil | exact lendL_whole rfl (by first | rfl | (simp; done) | (simp; omega)) (clo_map (fun _ => rfl))) (by first | exact .same _ | exact lendL_vnil | exact lendL_whole rfl (by first | rfl | (simp; done) | (simp; omega)) (clo_map (fun _ => rfl)))) lend_nil) (c_known _ (by assumption)) rfl) (by simp) ?_
  refine al_take (op_not rfl) rfl rfl rfl rfl (by simp) ?_
  first
    | refine al_op (op_pick rfl rfl) rfl (by simp) ?_
    | refine al_op (op_or rfl rfl rfl) rfl (by simp) ?_
  refine al_nil ⟨rfl, rfl, rfl, keep_of ?_⟩
  repeat (first | exact subx_refl | exact subx_known rfl gh1 subx_refl | refine subx_put rfl ?_)
 ·intro h1; have gh1 := h1
  try simp only [nrm] at h1
  refine al_pass rfl rfl rfl rfl (by simp) ?_
  refine al_pass rfl rfl rfl rfl (by simp) ?_
  refine al_pass rfl rfl rfl rfl (by simp) ?_
  first
    | refine al_op (op_pick rfl rfl) rfl (by simp) ?_
    | refine al_op (op_or rfl rfl rfl) rfl (by simp) ?_
  refine al_nil ⟨rfl, rfl, rfl, keep_of ?_⟩
  repeat (first | exact subx_refl | exact subx_known rfl gh1 subx_refl | refine subx_put rfl ?_)
 refine al_op (op_move rfl) rfl (by simp) ?_
 apply al_or 4 26 30 rfl
 ·intro h2; have gh2 := h2
  try simp only [nrm] at h2
  refine al_take (op_move rfl) rfl rfl rfl rfl (by simp) ?_
  first
    | refine al_take (op_len_map Tryz.underlying47 rfl) rfl rfl rfl rfl (by simp) ?_
    | refine al_take (op_len_slice Tryz.underlying47 rfl rfl) rfl rfl rfl rfl (by simp) ?_
    | refine al_take (op_len_list Tryz.underlying47 rfl) rfl rfl rfl rfl (by simp) ?_
    | refine al_take (op_len_v Tryz.underlying47 rfl) rfl rfl rfl rfl (by simp) ?_
    | refine al_take (op_len_nil Tryz.underlying47 rfl) rfl rfl rfl rfl (by simp) ?_
  refine al_take (op_gtr rfl rfl) rfl rfl rfl rfl (by simp) ?_
  first
    | refine al_op (op_pick rfl rfl) rfl (by simp) ?_
    | refine al_op (op_or rfl rfl rfl) rfl (by simp) ?_
  refine al_nil ⟨rfl, rfl, rfl, keep_of ?_⟩
  repeat (first | exact subx_refl | exact subx_known rfl gh2 subx_refl | refine subx_put rfl ?_)
 ·intro h2; have gh2 := h2
  try simp only [nrm] at h2
  refine al_pass rfl rfl rfl rfl (by simp) ?_
  refine al_pass rfl rfl rfl rfl (by simp) ?_
  refine al_pass rfl rfl rfl rfl (by simp) ?_
  first
    | refine al_op (op_pick rfl rfl) rfl (by simp) ?_
    | refine al_op (op_or rfl rfl rfl) rfl (by simp) ?_
  refine al_nil ⟨rfl, rfl, rfl, keep_of ?_⟩
  repeat (first | exact subx_refl | exact subx_known rfl gh2 subx_refl | refine subx_put rfl ?_)
 refine al_op (op_move rfl) rfl (by simp) ?_
 apply al_or 4 31 35 rfl
 ·intro h3; have gh3 := h3
  try simp only [nrm] at h3
  refine al_take (op_move rfl) rfl rfl rfl rfl (by simp) ?_
  refine al_take (op_closure rfl rfl) rfl rfl rfl rfl (by simp) ?_
  refine al_callp_take into42 rfl rfl rfl rfl rfl rfl (cfw_at 2 ver2 n hn ins hi rfl rfl rfl) (by simp) ?_
  first
    | refine al_op (op_pick rfl rfl) rfl (by simp) ?_
    | refine al_op (op_or rfl rfl rfl) rfl (by simp) ?_
  refine al_nil ⟨rfl, rfl, rfl, keep_of ?_⟩
  repeat (first | exact subx_refl | exact subx_known rfl gh3 subx_refl | refine subx_put rfl ?_)
 ·intro h3; have gh3 := h3
  try simp only [nrm] at h3
  refine al_pass rfl rfl rfl rfl (by simp) ?_
  refine al_pass rfl rfl rfl rfl (by simp) ?_
  refine al_pass rfl rfl rfl rfl (by simp) ?_
  first
    | refine al_op (op_pick rfl rfl) rfl (by simp) ?_
    | refine al_op (op_or rfl rfl rfl) rfl (by simp) ?_
  refine al_nil ⟨rfl, rfl, rfl, keep_of ?_⟩
  repeat (first | exact subx_refl | exact subx_known rfl gh3 subx_refl | refine subx_put rfl ?_)
 refine al_nil ?_
 refine aw_cond rfl (fun h4 => ?_) (fun h4 => ?_)
 ·have gh4 := h4
  try simp only [nrm] at h4
  refine aw_seq ?_
  refine aw_region ?_
  refine al_op (op_assign rfl) rfl (by simp) ?_
  refine al_op (op_assign rfl) rfl (by simp) ?_
  refine al_nil ?_
  refine aw_freeze (fun _ => false) (fsub_cons (t := 4) rfl (by first | exact .leaf _ _ (frz_whole rfl rfl (by first | rfl | (simp; done) | (simp; omega)) (clo_map (fun _ => rfl))) | exact .leaf _ _ (.vnil 1) | exact .leaf _ _ (.nil 1) | exact .leaf _ _ (.same _)) (fsub_cons (t := 5) rfl (.leaf _ _ (.same _)) fsub_nil)) ?_
  refine aw_ret ?_
  refine ⟨_, res_2 rfl rfl rfl rfl rfl, ?_, rfl⟩
  rw [Net.many, if_neg (by rw [manyOK_or] at gh4; simpa using gh4)] <;> rfl
 ·have gh4 := h4
  try simp only [nrm] at h4
  have hok : n.manyOK ins = true := by rw [manyOK_or] at gh4; simpa using gh4
  obtain ⟨hv, hkn, hlen, hlens⟩ := Net.manyOK_facts hok
  obtain ⟨f1, f2, f3, f4, f5, f6, f7⟩ := Net.valid_facts hv
  refine aw_skip ?_
  refine aw_seq ?_
  refine aw_region ?_
  refine al_op (op_assign rfl) rfl (by simp) ?_
  refine al_nil ?_
  refine aw_seq ?_
  refine aw_seq ?_
  refine aw_region ?_
  first
    | refine al_op (op_field_rptr Tryz.underlying27 rfl info23 (by decide) rfl rfl) rfl (by simp) ?_
    | refine al_op (op_field_ptr Tryz.underlying27 rfl info23 (by decide) rfl rfl rfl) rfl (by simp) ?_
  first
    | refine al_op (op_load_rptr Tryz.underlying23 info23 rfl rfl) rfl (by simp) ?_
    | refine al_op (op_load_map Tryz.underlying23 info23 rfl rfl (by omega) rfl) rfl (by simp) ?_
    | refine al_op (op_load_ptr Tryz.underlying23 info23 rfl rfl rfl rfl) rfl (by simp) ?_
  first
    | refine al_op (op_len_map Tryz.underlying23 rfl) rfl (by simp) ?_
    | refine al_op (op_len_slice Tryz.underlying23 rfl rfl) rfl (by simp) ?_
    | refine al_op (op_len_list Tryz.underlying23 rfl) rfl (by simp) ?_
    | refine al_op (op_len_v Tryz.underlying23 rfl) rfl (by simp) ?_
    | refine al_op (op_len_nil Tryz.underlying23 rfl) rfl (by simp) ?_
  refine al_op (op_move rfl) rfl (by simp) ?_
  refine al_nil ?_
  refine aw_block ?_
  apply aw_only
  ·
   (first | apply sub_cons (t := 1) rfl | skip)
   (first | apply sub_cons (t := 2) rfl | skip)
   (first | apply sub_cons (t := 4) rfl | skip)
   (first | apply sub_cons (t := 5) rfl | skip)
   (first | apply sub_cons (t := 6) rfl | skip)
   (first | apply sub_cons (t := 37) rfl | skip)
   (first | apply sub_cons (t := 38) rfl | skip)
   (first | apply sub_cons (t := 39) rfl | skip)
   exact sub_nil
  refine aw_own_map encU 6 1 6 rfl rfl (fun ver6 => ?_)
  refine aw_for2T (α := Nat) (β := Nat) [6, 39] [8] (fun i ver => n.regs.length - i) (fun i ver => i ≤ n.regs.length) (fun i ver => ([(6, .slice 6 ver 0 ((n.regs.take i).map spreadR).length), (39, .v (.int .i64 (i)))] : Env)) (fun i ver s => s.put 6 ver (.row 1 (((n.regs.take i).map spreadR).map encU))) (0) (ver6) ?_ ?_ ?_ (fun i ver hinv => ?_)
  ·exact Nat.zero_le _
  ·refine sub_cons (get_as rfl ?_) ?_; rotate_left; refine sub_cons (get_as rfl ?_) ?_; rotate_left; exact sub_nil
   all_goals (first | rfl | (simp; done) | (simp only [take_succ_getD n.regs i (by omega), List.map_append, List.map_cons, List.map_nil] <;> rfl))
  ·rfl
  refine aw_seq ?_
  refine aw_region ?_
  refine al_op (op_lss rfl rfl) rfl (by simp) ?_
  refine al_nil ?_
  refine aw_seq ?_
  refine aw_cond rfl (fun h5 => ?_) (fun h5 => ?_)
  ·have gh5 := h5
   try simp only [nrm] at h5
   refine aw_skip ?_
   refine aw_seq ?_
   refine aw_block ?_
   refine aw_seq ?_
   refine aw_region ?_
   first
     | refine al_op (op_index_map default Tryz.underlying23 info77 rfl rfl rfl (by first | (with_reducible exact Int.toNat_natCast _) | rfl) (by omega) (by omega)) rfl (by simp) ?_
     | refine al_op (op_index_slice Tryz.underlying23 info77 rfl rfl rfl rfl (by omega) (by omega)) rfl (by simp) ?_
     | refine al_op (op_index_list Tryz.underlying23 info77 rfl rfl rfl (by decide) rfl) rfl (by simp) ?_
   first
     | refine al_op (op_load_rptr Tryz.underlying77 info77 rfl rfl) rfl (by simp) ?_
     | refine al_op (op_load_map Tryz.underlying77 info77 rfl rfl (by omega) rfl) rfl (by simp) ?_
     | refine al_op (op_load_ptr Tryz.underlying77 info77 rfl rfl rfl rfl) rfl (by simp) ?_
   (refine al_opR (op_alloc 8 info77 rfl rfl) rfl (by simp) ?_; rintro _ _ ⟨ver8, rfl, rfl⟩)
   first
     | refine al_op (op_store_ptr info77 rfl rfl rfl rfl rfl rfl (by first | rfl | exact live_one rfl | (repeat (first | exact all_live_nil | refine all_live_clo rfl ?_ | refine all_live_slice rfl ?_ | refine all_live_map rfl ?_ | refine all_live_ptr rfl ?_))) (by decide)) rfl (by simp) ?_
     | refine al_op (op_store_ptr info77 rfl rfl rfl rfl rfl rfl (by first | rfl | exact live_one rfl | (repeat (first | exact all_live_nil | refine all_live_clo rfl ?_ | refine all_live_slice rfl ?_ | refine all_live_map rfl ?_ | refine all_live_ptr rfl ?_))) (Nat.le_of_ble_eq_true rfl)) rfl (by simp) ?_
   refine al_nil ?_
   have hbr := hn.bytes _ (getD_mem (v := n.regs) (i := i) (by omega))
   refine aw_region ?_
   refine al_op (op_move rfl) rfl (by simp) ?_
   first
     | refine al_op (op_field_rptr Tryz.underlying77 rfl info44 (by decide) rfl rfl) rfl (by simp) ?_
     | refine al_op (op_field_ptr Tryz.underlying77 rfl info44 (by decide) rfl rfl rfl) rfl (by simp) ?_
   first
     | refine al_op (op_load_rptr Tryz.underlying44 info44 rfl rfl) rfl (by simp) ?_
     | refine al_op (op_load_map Tryz.underlying44 info44 rfl rfl (by omega) rfl) rfl (by simp) ?_
     | refine al_op (op_load_ptr Tryz.underlying44 info44 rfl rfl rfl rfl) rfl (by simp) ?_
   first
     | refine al_callp into44 rfl rfl rfl ((c_spread _ (by omega) (by omega)) _) (by simp) ?_
     | refine al_callp into44 rfl rfl rfl (acp_lent (lend_cons (by first | exact lend_same | exact .leaf _ _ (.vnil _) | exact .leaf _ _ (.nil _) | exact lend_whole rfl (by first | rfl | (simp; done) | (simp; omega)) (clo_map (fun _ => rfl)) | exact lend_netg (by first | exact .same _ | exact lendL_vnil | exact lendL_whole rfl (by first | rfl | (simp; done) | (simp; omega)) (clo_map (fun _ => rfl))) (by first | exact .same _ | exact lendL_vnil | exact lendL_whole rfl (by first | rfl | (simp; done) | (simp; omega)) (clo_map (fun _ => rfl))) (by first | exact .same _ | exact lendL_vnil | exact lendL_whole rfl (by first | rfl | (simp; done) | (simp; omega)) (clo_map (fun _ => rfl))) (by first | exact .same _ | exact lendL_vnil | exact lendL_whole rfl (by first | rfl | (simp; done) | (simp; omega)) (clo_map (fun _ => rfl)))) lend_nil) (c_spread _ (by omega) (by omega)) rfl) (by simp) ?_
   refine al_op (op_buildSlice Tryz.underlying51 info50 rfl rfl (by decide) rfl (by decide) rfl (by first | rfl | (repeat (first | exact parts_nil | refine parts_cons rfl (by repeat (first | exact all_live_nil | refine all_live_clo rfl ?_ | refine all_live_slice rfl ?_ | refine all_live_map rfl ?_ | refine all_live_ptr rfl ?_)) ?_))) rfl rfl rfl) rfl (by simp) ?_
   first
     | (refine al_opR (op_append_one (spreadR (n.regs.getD i default)) Tryz.underlying51 Tryz.underlying51 rfl info50 rfl rfl (by decide) rfl rfl rfl (by first | rfl | simp) rfl rfl (by first | omega | (simp; done) | (simp; omega)) (by show _ * 8 ≤ _; first | omega | (simp; done) | (simp; omega))) rfl (by simp) ?_; rintro _ _ ⟨ver48, rfl, rfl⟩)
     | (refine al_opR (op_append_map Tryz.underlying51 Tryz.underlying51 rfl info50 rfl rfl (by decide) rfl rfl rfl (by first | rfl | simp) rfl (by first | exact .list _ | exact .vnil | exact .nil | exact .row _ _ _ _ rfl (by first | rfl | simp)) rfl (by first | omega | (simp; done) | (simp; omega)) (by show _ * 8 ≤ _; first | omega | (simp; done) | (simp; omega))) rfl (by simp) ?_; rintro _ _ ⟨ver48, rfl, rfl⟩)
   refine al_op (op_assign rfl) rfl (by simp) ?_
   refine al_nil ?_
   refine aw_region ?_
   refine al_op (op_add rfl rfl (by first | exact wrap_i64 (by omega) (by omega))) rfl (by simp) ?_
   refine al_op (op_move rfl) rfl (by simp) ?_
   refine al_nil ?_
   refine ⟨i + 1, ver48, ?_, ?_, ?_, ?_, ?_⟩
   ·omega
   ·omega
   ·refine sub_cons (get_as rfl ?_) ?_; rotate_left; refine sub_cons (get_as rfl ?_) ?_; rotate_left; exact sub_nil
    all_goals (first | rfl | (simp; done) | (simp only [take_succ_getD n.regs i (by omega), List.map_append, List.map_cons, List.map_nil] <;> rfl))
   ·repeat (first | exact subx_refl | exact subx_del | refine subx_put rfl ?_)
   ·(simp only [take_succ_getD n.regs i (by omega), List.map_append, List.map_cons, List.map_nil] <;> rfl)
  ·have gh5 := h5
   try simp only [nrm] at h5
   refine aw_exit ?_
   obtain rfl : i = n.regs.length := by omega
   refine aw_as 6 (.slice 6 ver 0 (n.wst ins 0).length) rfl (by rw [List.take_length]; rfl) ?_
   refine aw_st (σ2 := ([(2, ver2, .row 4 [[.list 1 (n.ins.map encS), .list 3 (n.regs.map encR), .list 2 (n.gates.map encG), .list 2 (n.outs.map encP)]]), (6, ver, .row 1 ((n.wst ins 0).map encU))] : Store)) (by rw [List.take_length]; rfl) ?_
   refine aw_seq ?_
   refine aw_region ?_
   refine al_op (op_assign rfl) rfl (by simp) ?_
   refine al_nil ?_
   refine aw_seq ?_
   refine aw_seq ?_
   refine aw_region ?_
   refine al_op (op_move rfl) rfl (by simp) ?_
   first
     | refine al_op (op_len_map Tryz.underlying47 rfl) rfl (by simp) ?_
     | refine al_op (op_len_slice Tryz.underlying47 rfl rfl) rfl (by simp) ?_
     | refine al_op (op_len_list Tryz.underlying47 rfl) rfl (by simp) ?_
     | refine al_op (op_len_v Tryz.underlying47 rfl) rfl (by simp) ?_
     | refine al_op (op_len_nil Tryz.underlying47 rfl) rfl (by simp) ?_
   refine al_op (op_move rfl) rfl (by simp) ?_
   refine al_nil ?_
   refine aw_block ?_
   apply aw_only
   ·
    (first | apply sub_cons (t := 2) rfl | skip)
    (first | apply sub_cons (t := 4) rfl | skip)
    (first | apply sub_cons (t := 5) rfl | skip)
    (first | apply sub_cons (t := 6) rfl | skip)
    (first | apply sub_cons (t := 9) rfl | skip)
    (first | apply sub_cons (t := 50) rfl | skip)
    (first | apply sub_cons (t := 51) rfl | skip)
    (first | apply sub_cons (t := 52) rfl | skip)
    exact sub_nil
   refine aw_own_map encLU 9 1 9 rfl rfl (fun ver9 => ?_)
   refine aw_for3T (α := Nat) (β := Nat) (γ := Nat) [6, 9, 52] [15, 17] (fun i ver v9 => ins.length - i) (fun i ver v9 => i ≤ ins.length) (fun i ver v9 => ([(6, .slice 6 ver 0 (n.wst ins i).length), (9, .slice 9 v9 0 (n.wouts ins i).length), (52, .v (.int .i64 (i)))] : Env)) (fun i ver v9 st => ([(2, ver2, .row 4 [[.list 1 (n.ins.map encS), .list 3 (n.regs.map encR), .list 2 (n.gates.map encG), .list 2 (n.outs.map encP)]]), (6, ver, .row 1 ((n.wst ins i).map encU)), (9, v9, .row 1 ((n.wouts ins i).map encLU))] : Store)) (0) (ver) (ver9) ?_ ?_ ?_ (fun i ver v9 hinv => ?_)
   ·exact Nat.zero_le _
   ·refine sub_cons (get_as rfl ?_) ?_; rotate_left; refine sub_cons (get_as rfl ?_) ?_; rotate_left; refine sub_cons (get_as rfl ?_) ?_; rotate_left; exact sub_nil
    all_goals (first | rfl | (simp; done) | (rw [n.wouts_succ] <;> rfl) | (rw [n.wst_length, n.wst_length]))
   ·rfl
   have hsl0 := n.wst_length ins i
   have hol := n.wouts_length ins i
   refine aw_seq ?_
   refine aw_region ?_
   refine al_op (op_lss rfl rfl) rfl (by simp) ?_
   refine al_nil ?_
   refine aw_seq ?_
   refine aw_cond rfl (fun h6 => ?_) (fun h6 => ?_)
   ·have gh6 := h6
    try simp only [nrm] at h6
    refine aw_skip ?_
    refine aw_seq ?_
    refine aw_block ?_
    refine aw_seq ?_
    refine aw_region ?_
    first
      | refine al_op (op_index_map default Tryz.underlying47 info51 rfl rfl rfl (by first | (with_reducible exact Int.toNat_natCast _) | rfl) (by omega) (by omega)) rfl (by simp) ?_
      | refine al_op (op_index_slice Tryz.underlying47 info51 rfl rfl rfl rfl (by omega) (by omega)) rfl (by simp) ?_
      | refine al_op (op_index_list Tryz.underlying47 info51 rfl rfl rfl (by decide) rfl) rfl (by simp) ?_
    first
      | refine al_op (op_load_rptr Tryz.underlying51 info51 rfl rfl) rfl (by simp) ?_
      | refine al_op (op_load_map Tryz.underlying51 info51 rfl rfl (by omega) rfl) rfl (by simp) ?_
      | refine al_op (op_load_ptr Tryz.underlying51 info51 rfl rfl rfl rfl) rfl (by simp) ?_
    refine al_op (op_assign rfl) rfl (by simp) ?_
    refine al_nil ?_
    refine aw_seq ?_
    have hwd := Net.wide_at hi hok i (by omega)
    refine aw_region ?_
    first
      | refine al_op (op_load_rptr Tryz.underlying27 info27 rfl rfl) rfl (by simp) ?_
      | refine al_op (op_load_map Tryz.underlying27 info27 rfl rfl (by omega) rfl) rfl (by simp) ?_
      | refine al_op (op_load_ptr Tryz.underlying27 info27 rfl rfl rfl rfl) rfl (by simp) ?_
    refine al_op (op_move rfl) rfl (by simp) ?_
    refine al_op (op_move rfl) rfl (by simp) ?_
    refine al_callp into45 rfl rfl rfl (acn_lend (lend_cons (by first | exact lend_same | exact .leaf _ _ (.vnil _) | exact .leaf _ _ (.nil _) | exact lend_whole rfl (by first | rfl | (simp; done) | (simp; omega)) (clo_map (fun _ => rfl)) | exact lend_netg (by first | exact .same _ | exact lendL_vnil | exact lendL_whole rfl (by first | rfl | (simp; done) | (simp; omega)) (clo_map (fun _ => rfl))) (by first | exact .same _ | exact lendL_vnil | exact lendL_whole rfl (by first | rfl | (simp; done) | (simp; omega)) (clo_map (fun _ => rfl))) (by first | exact .same _ | exact lendL_vnil | exact lendL_whole rfl (by first | rfl | (simp; done) | (simp; omega)) (clo_map (fun _ => rfl))) (by first | exact .same _ | exact lendL_vnil | exact lendL_whole rfl (by first | rfl | (simp; done) | (simp; omega)) (clo_map (fun _ => rfl)))) (lend_cons (by first | exact lend_same | exact .leaf _ _ (.vnil _) | exact .leaf _ _ (.nil _) | exact lend_whole rfl (by first | rfl | (simp; done) | (simp; omega)) (clo_map (fun _ => rfl)) | exact lend_netg (by first | exact .same _ | exact lendL_vnil | exact lendL_whole rfl (by first | rfl | (simp; done) | (simp; omega)) (clo_map (fun _ => rfl))) (by first | exact .same _ | exact lendL_vnil | exact lendL_whole rfl (by first | rfl | (simp; done) | (simp; omega)) (clo_map (fun _ => rfl))) (by first | exact .same _ | exact lendL_vnil | exact lendL_whole rfl (by first | rfl | (simp; done) | (simp; omega)) (clo_map (fun _ => rfl))) (by first | exact .same _ | exact lendL_vnil | exact lendL_whole rfl (by first | rfl | (simp; done) | (simp; omega)) (clo_map (fun _ => rfl)))) (lend_cons (by first | exact lend_same | exact .leaf _ _ (.vnil _) | exact .leaf _ _ (.nil _) | exact lend_whole rfl (by first | rfl | (simp; done) | (simp; omega)) (clo_map (fun _ => rfl)) | exact lend_netg (by first | exact .same _ | exact lendL_vnil | exact lendL_whole rfl (by first | rfl | (simp; done) | (simp; omega)) (clo_map (fun _ => rfl))) (by first | exact .same _ | exact lendL_vnil | exact lendL_whole rfl (by first | rfl | (simp; done) | (simp; omega)) (clo_map (fun _ => rfl))) (by first | exact .same _ | exact lendL_vnil | exact lendL_whole rfl (by first | rfl | (simp; done) | (simp; omega)) (clo_map (fun _ => rfl))) (by first | exact .same _ | exact lendL_vnil | exact lendL_whole rfl (by first | rfl | (simp; done) | (simp; omega)) (clo_map (fun _ => rfl)))) lend_nil))) (n_clock _ (by assumption) _ _ (by assumption))) (by simp) ?_
    refine al_op (op_assign rfl) rfl (by simp) ?_
    refine al_nil ?_
    refine aw_seq ?_
    refine aw_region ?_
    refine al_op (op_assign rfl) rfl (by simp) ?_
    refine al_nil ?_
    refine aw_seq ?_
    refine aw_seq ?_
    refine aw_as 12 (.list 1 ((n.wv ins i).map encU)) rfl rfl ?_
    have hwl := n.wideTo_length (ins.getD i default) (n.wst ins i) n.gates.length
    have hwl2 : (n.wv ins i).length = 1 + (ins.getD i default).length + (n.wst ins i).length + n.gates.length := hwl
    have hw64 : W64 (n.wv ins i) := n.wideTo_64 hwd.i64 hwd.s64 _
    have hil := hwd.il
    have hsl := hwd.sl
    refine aw_region ?_
    first
      | refine al_op (op_field_rptr Tryz.underlying27 rfl info25 (by decide) rfl rfl) rfl (by simp) ?_
      | refine al_op (op_field_ptr Tryz.underlying27 rfl info25 (by decide) rfl rfl rfl) rfl (by simp) ?_
    first
      | refine al_op (op_load_rptr Tryz.underlying25 info25 rfl rfl) rfl (by simp) ?_
      | refine al_op (op_load_map Tryz.underlying25 info25 rfl rfl (by omega) rfl) rfl (by simp) ?_
      | refine al_op (op_load_ptr Tryz.underlying25 info25 rfl rfl rfl rfl) rfl (by simp) ?_
    first
      | refine al_op (op_len_map Tryz.underlying25 rfl) rfl (by simp) ?_
      | refine al_op (op_len_slice Tryz.underlying25 rfl rfl) rfl (by simp) ?_
      | refine al_op (op_len_list Tryz.underlying25 rfl) rfl (by simp) ?_
      | refine al_op (op_len_v Tryz.underlying25 rfl) rfl (by simp) ?_
      | refine al_op (op_len_nil Tryz.underlying25 rfl) rfl (by simp) ?_
    refine al_op (op_move rfl) rfl (by simp) ?_
    refine al_nil ?_
    refine aw_block ?_
    refine aw_own_map encU 13 1 13 rfl rfl (fun ver13 => ?_)
    refine aw_for2T (α := Nat) (β := Nat) [13, 15, 63, 64, 65, 66, 67, 68, 69, 70, 71, 72, 73, 74] [15] (fun j vj => n.outs.length - j) (fun j vj => j ≤ n.outs.length) (fun j vj => ([(13, .slice 13 vj 0 ((n.outs.take j).map (outW (n.wv ins i))).length), (63, .v (.int .i64 (j)))] : Env)) (fun j vj st => st.put 13 vj (.row 1 (((n.outs.take j).map (outW (n.wv ins i))).map encU))) (0) (ver13) ?_ ?_ ?_ (fun j vj hinv => ?_)
    ·exact Nat.zero_le _
    ·refine sub_cons (get_as rfl ?_) ?_; rotate_left; refine sub_cons (get_as rfl ?_) ?_; rotate_left; exact sub_nil
     all_goals (first | rfl | (simp; done) | (simp only [take_succ_getD n.outs j (by omega), List.map_append, List.map_cons, List.map_nil] <;> rfl))
    ·rfl
    refine aw_seq ?_
    refine aw_region ?_
    refine al_op (op_lss rfl rfl) rfl (by simp) ?_
    refine al_nil ?_
    refine aw_seq ?_
    refine aw_cond rfl (fun h7 => ?_) (fun h7 => ?_)
    ·have gh7 := h7
     try simp only [nrm] at h7
     refine aw_skip ?_
     refine aw_seq ?_
     refine aw_block ?_
     refine aw_seq ?_
     refine aw_region ?_
     first
       | refine al_op (op_index_map default Tryz.underlying25 info82 rfl rfl rfl (by first | (with_reducible exact Int.toNat_natCast _) | rfl) (by omega) (by omega)) rfl (by simp) ?_
       | refine al_op (op_index_slice Tryz.underlying25 info82 rfl rfl rfl rfl (by omega) (by omega)) rfl (by simp) ?_
       | refine al_op (op_index_list Tryz.underlying25 info82 rfl rfl rfl (by decide) rfl) rfl (by simp) ?_
     first
       | refine al_op (op_load_rptr Tryz.underlying82 info82 rfl rfl) rfl (by simp) ?_
       | refine al_op (op_load_map Tryz.underlying82 info82 rfl rfl (by omega) rfl) rfl (by simp) ?_
       | refine al_op (op_load_ptr Tryz.underlying82 info82 rfl rfl rfl rfl) rfl (by simp) ?_
     (refine al_opR (op_alloc 15 info82 rfl rfl) rfl (by simp) ?_; rintro _ _ ⟨ver15, rfl, rfl⟩)
     first
       | refine al_op (op_store_ptr info82 rfl rfl rfl rfl rfl rfl (by first | rfl | exact live_one rfl | (repeat (first | exact all_live_nil | refine all_live_clo rfl ?_ | refine all_live_slice rfl ?_ | refine all_live_map rfl ?_ | refine all_live_ptr rfl ?_))) (by decide)) rfl (by simp) ?_
       | refine al_op (op_store_ptr info82 rfl rfl rfl rfl rfl rfl (by first | rfl | exact live_one rfl | (repeat (first | exact all_live_nil | refine all_live_clo rfl ?_ | refine all_live_slice rfl ?_ | refine all_live_map rfl ?_ | refine all_live_ptr rfl ?_))) (Nat.le_of_ble_eq_true rfl)) rfl (by simp) ?_
     refine al_nil ?_
     have hf7 := f7 j (by omega)
     refine aw_region ?_
     refine al_op (op_move rfl) rfl (by simp) ?_
     refine al_op (op_move rfl) rfl (by simp) ?_
     first
       | refine al_op (op_field_rptr Tryz.underlying82 rfl info3 (by decide) rfl rfl) rfl (by simp) ?_
       | refine al_op (op_field_ptr Tryz.underlying82 rfl info3 (by decide) rfl rfl rfl) rfl (by simp) ?_
     first
       | refine al_op (op_load_rptr Tryz.underlying3 info3 rfl rfl) rfl (by simp) ?_
       | refine al_op (op_load_map Tryz.underlying3 info3 rfl rfl (by omega) rfl) rfl (by simp) ?_
       | refine al_op (op_load_ptr Tryz.underlying3 info3 rfl rfl rfl rfl) rfl (by simp) ?_
     first
       | refine al_callp into46 rfl rfl rfl ((c_wof _ _ (by omega) (by omega) (by omega) (by assumption)) _) (by simp) ?_
       | refine al_callp into46 rfl rfl rfl (acp_lent (lend_cons (by first | exact lend_same | exact .leaf _ _ (.vnil _) | exact .leaf _ _ (.nil _) | exact lend_whole rfl (by first | rfl | (simp; done) | (simp; omega)) (clo_map (fun _ => rfl)) | exact lend_netg (by first | exact .same _ | exact lendL_vnil | exact lendL_whole rfl (by first | rfl | (simp; done) | (simp; omega)) (clo_map (fun _ => rfl))) (by first | exact .same _ | exact lendL_vnil | exact lendL_whole rfl (by first | rfl | (simp; done) | (simp; omega)) (clo_map (fun _ => rfl))) (by first | exact .same _ | exact lendL_vnil | exact lendL_whole rfl (by first | rfl | (simp; done) | (simp; omega)) (clo_map (fun _ => rfl))) (by first | exact .same _ | exact lendL_vnil | exact lendL_whole rfl (by first | rfl | (simp; done) | (simp; omega)) (clo_map (fun _ => rfl)))) (lend_cons (by first | exact lend_same | exact .leaf _ _ (.vnil _) | exact .leaf _ _ (.nil _) | exact lend_whole rfl (by first | rfl | (simp; done) | (simp; omega)) (clo_map (fun _ => rfl)) | exact lend_netg (by first | exact .same _ | exact lendL_vnil | exact lendL_whole rfl (by first | rfl | (simp; done) | (simp; omega)) (clo_map (fun _ => rfl))) (by first | exact .same _ | exact lendL_vnil | exact lendL_whole rfl (by first | rfl | (simp; done) | (simp; omega)) (clo_map (fun _ => rfl))) (by first | exact .same _ | exact lendL_vnil | exact lendL_whole rfl (by first | rfl | (simp; done) | (simp; omega)) (clo_map (fun _ => rfl))) (by first | exact .same _ | exact lendL_vnil | exact lendL_whole rfl (by first | rfl | (simp; done) | (simp; omega)) (clo_map (fun _ => rfl)))) lend_nil)) (c_wof _ _ (by omega) (by omega) (by omega) (by assumption)) rfl) (by simp) ?_
     refine al_op (op_buildSlice Tryz.underlying51 info50 rfl rfl (by decide) rfl (by decide) rfl (by first | rfl | (repeat (first | exact parts_nil | refine parts_cons rfl (by repeat (first | exact all_live_nil | refine all_live_clo rfl ?_ | refine all_live_slice rfl ?_ | refine all_live_map rfl ?_ | refine all_live_ptr rfl ?_)) ?_))) rfl rfl rfl) rfl (by simp) ?_
     first
       | (refine al_opR (op_append_one (outW (n.wv ins i) (n.outs.getD j default)) Tryz.underlying51 Tryz.underlying51 rfl info50 rfl rfl (by decide) rfl rfl rfl (by first | rfl | simp) rfl rfl (by first | omega | (simp; done) | (simp; omega)) (by show _ * 8 ≤ _; first | omega | (simp; done) | (simp; omega))) rfl (by simp) ?_; rintro _ _ ⟨ver73, rfl, rfl⟩)
       | (refine al_opR (op_append_map Tryz.underlying51 Tryz.underlying51 rfl info50 rfl rfl (by decide) rfl rfl rfl (by first | rfl | simp) rfl (by first | exact .list _ | exact .vnil | exact .nil | exact .row _ _ _ _ rfl (by first | rfl | simp)) rfl (by first | omega | (simp; done) | (simp; omega)) (by show _ * 8 ≤ _; first | omega | (simp; done) | (simp; omega))) rfl (by simp) ?_; rintro _ _ ⟨ver73, rfl, rfl⟩)
     refine al_op (op_assign rfl) rfl (by simp) ?_
     refine al_nil ?_
     refine aw_region ?_
     refine al_op (op_add rfl rfl (by first | exact wrap_i64 (by omega) (by omega))) rfl (by simp) ?_
     refine al_op (op_move rfl) rfl (by simp) ?_
     refine al_nil ?_
     refine ⟨j + 1, ver73, ?_, ?_, ?_, ?_, ?_⟩
     ·omega
     ·omega
     ·refine sub_cons (get_as rfl ?_) ?_; rotate_left; refine sub_cons (get_as rfl ?_) ?_; rotate_left; exact sub_nil
      all_goals (first | rfl | (simp; done) | (simp only [take_succ_getD n.outs j (by omega), List.map_append, List.map_cons, List.map_nil] <;> rfl))
     ·repeat (first | exact subx_refl | exact subx_del | refine subx_put rfl ?_)
     ·(simp only [take_succ_getD n.outs j (by omega), List.map_append, List.map_cons, List.map_nil] <;> rfl)
    ·have gh7 := h7
     try simp only [nrm] at h7
     refine aw_exit ?_
     obtain rfl : j = n.outs.length := by omega
     refine aw_seq ?_
     refine aw_freeze (fun i => !(Nat.beq i 13)) (fsub_cons (t := 13) rfl (.leaf _ _ (frz_whole rfl rfl (by simp) (clo_map (fun _ => rfl)))) fsub_same) ?_
     refine aw_as 13 (.list 1 ((n.outs.map (outW (n.wv ins i))).map encU)) rfl (by rw [List.take_length]) ?_
     refine aw_region ?_
     refine al_op (op_move rfl) rfl (by simp) ?_
     refine al_op (op_move rfl) rfl (by simp) ?_
     refine al_op (op_buildSlice Tryz.underlying47 info51 rfl rfl (by decide) rfl (by decide) rfl (by first | rfl | (repeat (first | exact parts_nil | refine parts_cons rfl (by repeat (first | exact all_live_nil | refine all_live_clo rfl ?_ | refine all_live_slice rfl ?_ | refine all_live_map rfl ?_ | refine all_live_ptr rfl ?_)) ?_))) rfl rfl rfl) rfl (by simp) ?_
     first
       | (refine al_opR (op_append_one (n.outs.map (outW (n.wv ins i))) Tryz.underlying47 Tryz.underlying47 rfl info51 rfl rfl (by decide) rfl rfl rfl (by first | rfl | simp) rfl rfl (by first | omega | (simp; done) | (simp; omega)) (by show _ * 24 ≤ _; first | omega | (simp; done) | (simp; omega))) rfl (by simp) ?_; rintro _ _ ⟨ver78, rfl, rfl⟩)
       | (refine al_opR (op_append_map Tryz.underlying47 Tryz.underlying47 rfl info51 rfl rfl (by decide) rfl rfl rfl (by first | rfl | simp) rfl (by first | exact .list _ | exact .vnil | exact .nil | exact .row _ _ _ _ rfl (by first | rfl | simp)) rfl (by first | omega | (simp; done) | (simp; omega)) (by show _ * 24 ≤ _; first | omega | (simp; done) | (simp; omega))) rfl (by simp) ?_; rintro _ _ ⟨ver78, rfl, rfl⟩)
     refine al_op (op_assign rfl) rfl (by simp) ?_
     refine al_nil ?_
     refine aw_seq ?_
     refine aw_region ?_
     first
       | refine al_op (op_field_rptr Tryz.underlying27 rfl info23 (by decide) rfl rfl) rfl (by simp) ?_
       | refine al_op (op_field_ptr Tryz.underlying27 rfl info23 (by decide) rfl rfl rfl) rfl (by simp) ?_
     first
       | refine al_op (op_load_rptr Tryz.underlying23 info23 rfl rfl) rfl (by simp) ?_
       | refine al_op (op_load_map Tryz.underlying23 info23 rfl rfl (by omega) rfl) rfl (by simp) ?_
       | refine al_op (op_load_ptr Tryz.underlying23 info23 rfl rfl rfl rfl) rfl (by simp) ?_
     first
       | refine al_op (op_len_map Tryz.underlying23 rfl) rfl (by simp) ?_
       | refine al_op (op_len_slice Tryz.underlying23 rfl rfl) rfl (by simp) ?_
       | refine al_op (op_len_list Tryz.underlying23 rfl) rfl (by simp) ?_
       | refine al_op (op_len_v Tryz.underlying23 rfl) rfl (by simp) ?_
       | refine al_op (op_len_nil Tryz.underlying23 rfl) rfl (by simp) ?_
     refine al_op (op_move rfl) rfl (by simp) ?_
     refine al_nil ?_
     refine aw_block ?_
     refine aw_forT (ι := Nat) [16, 17, 82, 83, 84, 85, 86, 87, 88, 89, 90, 91, 92, 93, 94] [17] (fun j => n.regs.length - j) (fun j => j ≤ n.regs.length) (fun j => ([(82, .v (.int .i64 (j)))] : Env)) (fun j st => st.put 6 ver (.row 1 ((mixTo (n.wst ins (i + 1)) (n.wst ins i) j).map encU))) (0) ?_ ?_ ?_ (fun j hinv => ?_)
     ·exact Nat.zero_le _
     ·refine sub_cons (get_as rfl ?_) ?_; rotate_left; exact sub_nil
      all_goals (first | rfl | simp)
     ·(rw [mixTo_zero] <;> rfl)
     have hme : (n.wst ins (i + 1)).length = (n.wst ins i).length := by rw [n.wst_length, n.wst_length]
     have hml := mixTo_length hme j
     refine aw_seq ?_
     refine aw_region ?_
     refine al_op (op_lss rfl rfl) rfl (by simp) ?_
     refine al_nil ?_
     refine aw_seq ?_
     refine aw_cond rfl (fun h8 => ?_) (fun h8 => ?_)
     ·have gh8 := h8
      try simp only [nrm] at h8
      refine aw_skip ?_
      refine aw_seq ?_
      refine aw_block ?_
      refine aw_seq ?_
      refine aw_region ?_
      refine al_op (op_move rfl) rfl (by simp) ?_
      first
        | refine al_op (op_index_map default Tryz.underlying23 info77 rfl rfl rfl (by first | (with_reducible exact Int.toNat_natCast _) | rfl) (by omega) (by omega)) rfl (by simp) ?_
        | refine al_op (op_index_slice Tryz.underlying23 info77 rfl rfl rfl rfl (by omega) (by omega)) rfl (by simp) ?_
        | refine al_op (op_index_list Tryz.underlying23 info77 rfl rfl rfl (by decide) rfl) rfl (by simp) ?_
      first
        | refine al_op (op_load_rptr Tryz.underlying77 info77 rfl rfl) rfl (by simp) ?_
        | refine al_op (op_load_map Tryz.underlying77 info77 rfl rfl (by omega) rfl) rfl (by simp) ?_
        | refine al_op (op_load_ptr Tryz.underlying77 info77 rfl rfl rfl rfl) rfl (by simp) ?_
      (refine al_opR (op_alloc 17 info77 rfl rfl) rfl (by simp) ?_; rintro _ _ ⟨ver17, rfl, rfl⟩)
      refine al_op (op_assign rfl) rfl (by simp) ?_
      first
        | refine al_op (op_store_ptr info77 rfl rfl rfl rfl rfl rfl (by first | rfl | exact live_one rfl | (repeat (first | exact all_live_nil | refine all_live_clo rfl ?_ | refine all_live_slice rfl ?_ | refine all_live_map rfl ?_ | refine all_live_ptr rfl ?_))) (by decide)) rfl (by simp) ?_
        | refine al_op (op_store_ptr info77 rfl rfl rfl rfl rfl rfl (by first | rfl | exact live_one rfl | (repeat (first | exact all_live_nil | refine all_live_clo rfl ?_ | refine all_live_slice rfl ?_ | refine all_live_map rfl ?_ | refine all_live_ptr rfl ?_))) (Nat.le_of_ble_eq_true rfl)) rfl (by simp) ?_
      refine al_nil ?_
      have hf6 := f6 j (by omega)
      refine aw_region ?_
      refine al_op (op_move rfl) rfl (by simp) ?_
      refine al_op (op_move rfl) rfl (by simp) ?_
      refine al_op (op_move rfl) rfl (by simp) ?_
      first
        | refine al_op (op_field_rptr Tryz.underlying77 rfl info3 (by decide) rfl rfl) rfl (by simp) ?_
        | refine al_op (op_field_ptr Tryz.underlying77 rfl info3 (by decide) rfl rfl rfl) rfl (by simp) ?_
      first
        | refine al_op (op_load_rptr Tryz.underlying3 info3 rfl rfl) rfl (by simp) ?_
        | refine al_op (op_load_map Tryz.underlying3 info3 rfl rfl (by omega) rfl) rfl (by simp) ?_
        | refine al_op (op_load_ptr Tryz.underlying3 info3 rfl rfl rfl rfl) rfl (by simp) ?_
      first
        | refine al_callp into46 rfl rfl rfl ((c_wof _ _ (by omega) (by omega) (by omega) (by assumption)) _) (by simp) ?_
        | refine al_callp into46 rfl rfl rfl (acp_lent (lend_cons (by first | exact lend_same | exact .leaf _ _ (.vnil _) | exact .leaf _ _ (.nil _) | exact lend_whole rfl (by first | rfl | (simp; done) | (simp; omega)) (clo_map (fun _ => rfl)) | exact lend_netg (by first | exact .same _ | exact lendL_vnil | exact lendL_whole rfl (by first | rfl | (simp; done) | (simp; omega)) (clo_map (fun _ => rfl))) (by first | exact .same _ | exact lendL_vnil | exact lendL_whole rfl (by first | rfl | (simp; done) | (simp; omega)) (clo_map (fun _ => rfl))) (by first | exact .same _ | exact lendL_vnil | exact lendL_whole rfl (by first | rfl | (simp; done) | (simp; omega)) (clo_map (fun _ => rfl))) (by first | exact .same _ | exact lendL_vnil | exact lendL_whole rfl (by first | rfl | (simp; done) | (simp; omega)) (clo_map (fun _ => rfl)))) (lend_cons (by first | exact lend_same | exact .leaf _ _ (.vnil _) | exact .leaf _ _ (.nil _) | exact lend_whole rfl (by first | rfl | (simp; done) | (simp; omega)) (clo_map (fun _ => rfl)) | exact lend_netg (by first | exact .same _ | exact lendL_vnil | exact lendL_whole rfl (by first | rfl | (simp; done) | (simp; omega)) (clo_map (fun _ => rfl))) (by first | exact .same _ | exact lendL_vnil | exact lendL_whole rfl (by first | rfl | (simp; done) | (simp; omega)) (clo_map (fun _ => rfl))) (by first | exact .same _ | exact lendL_vnil | exact lendL_whole rfl (by first | rfl | (simp; done) | (simp; omega)) (clo_map (fun _ => rfl))) (by first | exact .same _ | exact lendL_vnil | exact lendL_whole rfl (by first | rfl | (simp; done) | (simp; omega)) (clo_map (fun _ => rfl)))) lend_nil)) (c_wof _ _ (by omega) (by omega) (by omega) (by assumption)) rfl) (by simp) ?_
      first
        | refine al_op (op_index_map default Tryz.underlying51 info50 rfl rfl rfl (by first | (with_reducible exact Int.toNat_natCast _) | rfl) (by omega) (by omega)) rfl (by simp) ?_
        | refine al_op (op_index_slice Tryz.underlying51 info50 rfl rfl rfl rfl (by omega) (by omega)) rfl (by simp) ?_
        | refine al_op (op_index_list Tryz.underlying51 info50 rfl rfl rfl (by decide) rfl) rfl (by simp) ?_
      refine al_op (op_store_map (nextW (n.wv ins i) (n.regs.getD j default)) info50 rfl rfl rfl (by omega) rfl rfl rfl (Nat.le_of_ble_eq_true rfl) rfl) rfl (by simp) ?_
      refine al_nil ?_
      refine aw_region ?_
      refine al_op (op_add rfl rfl (by first | exact wrap_i64 (by omega) (by omega))) rfl (by simp) ?_
      refine al_op (op_move rfl) rfl (by simp) ?_
      refine al_nil ?_
      refine ⟨j + 1, ?_, ?_, ?_, ?_, ?_⟩
      ·omega
      ·omega
      ·refine sub_cons (get_as rfl ?_) ?_; rotate_left; exact sub_nil
       all_goals (first | rfl | simp)
      ·repeat (first | exact subx_refl | exact subx_del | refine subx_put rfl ?_)
      ·(rw [n.mix_next ins i j (by omega)] <;> rfl)
     ·have gh8 := h8
      try simp only [nrm] at h8
      refine aw_exit ?_
      obtain rfl : j = n.regs.length := by omega
      have hme : (n.wst ins (i + 1)).length = (n.wst ins i).length := by rw [n.wst_length, n.wst_length]
      have hmx : mixTo (n.wst ins (i + 1)) (n.wst ins i) n.regs.length = (n.wst ins (i + 1)) := by have := mixTo_all hme; rwa [n.wst_length] at this
      refine aw_st (σ2 := ([(2, ver2, .row 4 [[.list 1 (n.ins.map encS), .list 3 (n.regs.map encR), .list 2 (n.gates.map encG), .list 2 (n.outs.map encP)]]), (6, ver, .row 1 ((n.wst ins (i + 1)).map encU)), (9, ver78, .row 1 ((n.wouts ins i ++ [n.outs.map (outW (n.wv ins i))]).map encLU))] : Store)) (by rw [hmx]; rfl) ?_
      refine aw_region ?_
      refine al_op (op_add rfl rfl (by first | exact wrap_i64 (by omega) (by omega))) rfl (by simp) ?_
      refine al_op (op_move rfl) rfl (by simp) ?_
      refine al_nil ?_
      refine ⟨i + 1, ver, ver78, ?_, ?_, ?_, ?_, ?_⟩
      ·omega
      ·omega
      ·refine sub_cons (get_as rfl ?_) ?_; rotate_left; refine sub_cons (get_as rfl ?_) ?_; rotate_left; refine sub_cons (get_as rfl ?_) ?_; rotate_left; exact sub_nil
       all_goals (first | rfl | (simp; done) | (rw [n.wouts_succ] <;> rfl) | (rw [n.wst_length, n.wst_length]))
      ·repeat (first | exact subx_refl | exact subx_del | refine subx_put rfl ?_)
      ·(rw [n.wouts_succ] <;> rfl)
   ·have gh6 := h6
    try simp only [nrm] at h6
    refine aw_exit ?_
    obtain rfl : i = ins.length := by omega
    have hol := n.wouts_length ins ins.length
    refine aw_seq ?_
    refine aw_region ?_
    refine al_op (op_move rfl) rfl (by simp) ?_
    refine al_op (op_assign rfl) rfl (by simp) ?_
    refine al_op (op_assign rfl) rfl (by simp) ?_
    refine al_nil ?_
    refine aw_freeze (fun _ => false) (fsub_cons (t := 4) rfl (by first | exact .leaf _ _ (frz_whole rfl rfl (by first | rfl | (simp; done) | (simp; omega)) (clo_map (fun _ => rfl))) | exact .leaf _ _ (.vnil 1) | exact .leaf _ _ (.nil 1) | exact .leaf _ _ (.same _)) (fsub_cons (t := 5) rfl (.leaf _ _ (.same _)) fsub_nil)) ?_
    refine aw_ret ?_
    refine ⟨_, res_2 rfl rfl rfl rfl rfl, ?_, rfl⟩
    rw [Net.many, if_pos hok] <;> rfl

theorem c_number (l : List Int) (hb : Bit01 l) (hl : l.length ≤ 40) : ACp Tryz.prog 37 [.list 1 (l.map encB)] (.v (.int .i64 ((num l : Nat) : Int))) := by
 refine acp_of rfl ?_
 refine ac_enter 21 Tryz.func37 rfl rfl (by simp) ?_
 refine aw_seq ?_
 refine aw_region ?_
 refine al_op (op_assign rfl) rfl (by simp) ?_
 refine al_nil ?_
 refine aw_seq ?_
 refine aw_region ?_
 refine al_op (op_assign rfl) rfl (by simp) ?_
 refine al_nil ?_
 refine aw_seq ?_
 refine aw_seq ?_
 refine aw_region ?_
 refine al_op (op_move rfl) rfl (by simp) ?_
 first
   | refine al_op (op_len_map Tryz.underlying28 rfl) rfl (by simp) ?_
   | refine al_op (op_len_slice Tryz.underlying28 rfl rfl) rfl (by simp) ?_
   | refine al_op (op_len_list Tryz.underlying28 rfl) rfl (by simp) ?_
   | refine al_op (op_len_v Tryz.underlying28 rfl) rfl (by simp) ?_
   | refine al_op (op_len_nil Tryz.underlying28 rfl) rfl (by simp) ?_
 refine al_op (op_move rfl) rfl (by simp) ?_
 refine al_nil ?_
 refine aw_block ?_
 refine aw_forT (ι := Nat) [3, 8] [] (fun i => l.length - i) (fun i => i ≤ l.length) (fun i => ([(3, .v (.int .i64 ((numTo l i : Nat) : Int))), (8, .v (.int .i64 (i)))] : Env)) (fun i s => s) (0) ?_ ?_ ?_ (fun i hinv => ?_)
 ·exact Nat.zero_le _
 ·refine sub_cons (get_as rfl ?_) ?_; rotate_left; refine sub_cons (get_as rfl ?_) ?_; rotate_left; exact sub_nil
  all_goals (first | rfl | simp)
 ·rfl
 refine aw_seq ?_
 refine aw_region ?_
 refine al_op (op_lss rfl rfl) rfl (by simp) ?_
 refine al_nil ?_
 refine aw_seq ?_
 refine aw_cond rfl (fun h1 => ?_) (fun h1 => ?_)
 ·have gh1 := h1
  try simp only [nrm] at h1
  refine aw_skip ?_
  refine aw_seq ?_
  refine aw_block ?_
  refine aw_seq ?_
  refine aw_region ?_
  refine al_op (op_move rfl) rfl (by simp) ?_
  first
    | refine al_op (op_index_map default Tryz.underlying28 info44 rfl rfl rfl (by first | (with_reducible exact Int.toNat_natCast _) | rfl) (by omega) (by omega)) rfl (by simp) ?_
    | refine al_op (op_index_slice Tryz.underlying28 info44 rfl rfl rfl rfl (by omega) (by omega)) rfl (by simp) ?_
    | refine al_op (op_index_list Tryz.underlying28 info44 rfl rfl rfl (by decide) rfl) rfl (by simp) ?_
  first
    | refine al_op (op_load_rptr Tryz.underlying44 info44 rfl rfl) rfl (by simp) ?_
    | refine al_op (op_load_map Tryz.underlying44 info44 rfl rfl (by omega) rfl) rfl (by simp) ?_
    | refine al_op (op_load_ptr Tryz.underlying44 info44 rfl rfl rfl rfl) rfl (by simp) ?_
  refine al_op (op_assign rfl) rfl (by simp) ?_
  refine al_op (op_assign rfl) rfl (by simp) ?_
  refine al_nil ?_
  obtain ⟨g1, g2, g3⟩ := bit01_get hb i
  have ha := lt62 (numTo_lt hb i) (by omega)
  have hb2 := lt62 (shl_lt (i := i) g1) (by omega)
  refine aw_region ?_
  refine al_op (op_move rfl) rfl (by simp) ?_
  refine al_op (op_move rfl) rfl (by simp) ?_
  refine al_op (op_conv Tryz.underlying44 Tryz.underlying3 rfl (conv_nat (by omega) (by omega))) rfl (by simp) ?_
  refine al_op (op_move rfl) rfl (by simp) ?_
  refine al_op (op_shl rfl rfl (by omega) (shl_i64 (by omega) (by omega))) rfl (by simp) ?_
  refine al_op (op_bitor rfl rfl (i64_or ha hb2)) rfl (by simp) ?_
  refine al_op (op_assign rfl) rfl (by simp) ?_
  refine al_nil ?_
  refine aw_region ?_
  refine al_op (op_add rfl rfl (by first | exact wrap_i64 (by omega) (by omega))) rfl (by simp) ?_
  refine al_op (op_move rfl) rfl (by simp) ?_
  refine al_nil ?_
  refine ⟨i + 1, ?_, ?_, ?_, ?_, ?_⟩
  ·omega
  ·omega
  ·refine sub_cons (get_as rfl ?_) ?_; rotate_left; refine sub_cons (get_as rfl ?_) ?_; rotate_left; exact sub_nil
   all_goals (first | rfl | simp)
  ·repeat (first | exact subx_refl | exact subx_del | refine subx_put rfl ?_)
  ·rfl
 ·have gh1 := h1
  try simp only [nrm] at h1
  refine aw_exit ?_
  obtain rfl : i = l.length := by omega
  refine aw_seq ?_
  refine aw_region ?_
  refine al_op (op_move rfl) rfl (by simp) ?_
  refine al_op (op_assign rfl) rfl (by simp) ?_
  refine al_nil ?_
  refine aw_freeze (fun _ => false) (fsub_cons (t := 2) rfl (.leaf _ _ (.same _)) fsub_nil) ?_
  refine aw_ret ?_
  refine ⟨_, res_1 rfl rfl, ?_, rfl⟩
  rfl

theorem c_bits (x : Int) (m : Nat) (h0 : 0 ≤ x) (h1 : x ≤ 4611686018427387904) (hm : m ≤ 60) : ACp Tryz.prog 27 [.v (.int .i64 (x)), .v (.int .i64 ((m : Int)))] (.list 1 ((bitsI x m).map encB)) := by
 refine acp_of rfl ?_
 have hrl : (List.replicate (m : Int).toNat (0 : Int)).length = m := by simp
 refine ac_enter 24 Tryz.func27 rfl rfl (by simp) ?_
 refine aw_seq ?_
 refine aw_region ?_
 refine al_op (op_assign rfl) rfl (by simp) ?_
 refine al_nil ?_
 refine aw_seq ?_
 refine aw_region ?_
 refine al_op (op_move rfl) rfl (by simp) ?_
 (refine al_opR (op_makeN (f := encB) 8 (0 : Int) Tryz.underlying28 info44 rfl rfl (by decide) rfl rfl rfl rfl (by omega) (by show (1 : Int) * _ ≤ _; omega) (by omega)) rfl (by simp) ?_; rintro _ _ ⟨ver8, rfl, rfl⟩)
 refine al_op (op_assign rfl) rfl (by simp) ?_
 refine al_nil ?_
 refine aw_seq ?_
 refine aw_seq ?_
 refine aw_region ?_
 refine al_op (op_move rfl) rfl (by simp) ?_
 first
   | refine al_op (op_len_map Tryz.underlying28 rfl) rfl (by simp) ?_
   | refine al_op (op_len_slice Tryz.underlying28 rfl rfl) rfl (by simp) ?_
   | refine al_op (op_len_list Tryz.underlying28 rfl) rfl (by simp) ?_
   | refine al_op (op_len_v Tryz.underlying28 rfl) rfl (by simp) ?_
   | refine al_op (op_len_nil Tryz.underlying28 rfl) rfl (by simp) ?_
 refine al_op (op_move rfl) rfl (by simp) ?_
 refine al_nil ?_
 refine aw_block ?_
 refine aw_forT (ι := Nat) [11] [] (fun j => m - j) (fun j => j ≤ m) (fun j => ([(11, .v (.int .i64 (j)))] : Env)) (fun j st => st.put 8 ver8 (.row 1 ((mixTo (bitsI x m) (List.replicate m 0) j).map encB))) (0) ?_ ?_ ?_ (fun j hinv => ?_)
 ·exact Nat.zero_le _
 ·refine sub_cons (get_as rfl ?_) ?_; rotate_left; exact sub_nil
  all_goals (first | rfl | simp)
 ·(rw [mixTo_zero] <;> rfl)
 refine aw_seq ?_
 refine aw_region ?_
 refine al_op (op_lss rfl rfl) rfl (by simp) ?_
 refine al_nil ?_
 refine aw_seq ?_
 refine aw_cond rfl (fun h1 => ?_) (fun h1 => ?_)
 ·have gh1 := h1
  try simp only [nrm] at h1
  refine aw_skip ?_
  refine aw_seq ?_
  refine aw_block ?_
  refine aw_seq ?_
  refine aw_region ?_
  refine al_op (op_move rfl) rfl (by simp) ?_
  refine al_op (op_assign rfl) rfl (by simp) ?_
  refine al_nil ?_
  have hml : (mixTo (bitsI x m) (List.replicate m 0) j).length = m := by rw [mixTo_length (by simp [bitsI])]; simp
  refine aw_region ?_
  refine al_op (op_move rfl) rfl (by simp) ?_
  refine al_op (op_move rfl) rfl (by simp) ?_
  refine al_op (op_move rfl) rfl (by simp) ?_
  refine al_op (op_move rfl) rfl (by simp) ?_
  refine al_op (op_shr rfl rfl (by omega) (shr_i64 (by omega))) rfl (by simp) ?_
  refine al_op (op_bitand rfl rfl (and_one _)) rfl (by simp) ?_
  refine al_op (op_conv Tryz.underlying3 Tryz.underlying44 rfl (bit_u8 x j)) rfl (by simp) ?_
  first
    | refine al_op (op_index_map default Tryz.underlying28 info44 rfl rfl rfl (by first | (with_reducible exact Int.toNat_natCast _) | rfl) (by omega) (by omega)) rfl (by simp) ?_
    | refine al_op (op_index_slice Tryz.underlying28 info44 rfl rfl rfl rfl (by omega) (by omega)) rfl (by simp) ?_
    | refine al_op (op_index_list Tryz.underlying28 info44 rfl rfl rfl (by decide) rfl) rfl (by simp) ?_
  refine al_op (op_store_map (bitI x j) info44 rfl rfl rfl (by omega) rfl rfl rfl (Nat.le_of_ble_eq_true rfl) rfl) rfl (by simp) ?_
  refine al_nil ?_
  refine aw_region ?_
  refine al_op (op_add rfl rfl (by first | exact wrap_i64 (by omega) (by omega))) rfl (by simp) ?_
  refine al_op (op_move rfl) rfl (by simp) ?_
  refine al_nil ?_
  refine ⟨j + 1, ?_, ?_, ?_, ?_, ?_⟩
  ·omega
  ·omega
  ·refine sub_cons (get_as rfl ?_) ?_; rotate_left; exact sub_nil
   all_goals (first | rfl | simp)
  ·repeat (first | exact subx_refl | exact subx_del | refine subx_put rfl ?_)
  ·(rw [bits_next x m j (by omega)] <;> rfl)
 ·have gh1 := h1
  try simp only [nrm] at h1
  refine aw_exit ?_
  obtain rfl : j = m := by omega
  have hml : (mixTo (bitsI x j) (List.replicate j 0) j).length = j := by rw [mixTo_length (by simp [bitsI])]; simp
  have hmx := bits_mix x j
  refine aw_seq ?_
  refine aw_region ?_
  refine al_op (op_move rfl) rfl (by simp) ?_
  refine al_op (op_assign rfl) rfl (by simp) ?_
  refine al_nil ?_
  refine aw_freeze (fun _ => false) (fsub_cons (t := 4) rfl (by first | exact .leaf _ _ (frz_whole rfl rfl (by first | rfl | (simp; done) | (simp; omega)) (clo_map (fun _ => rfl))) | exact .leaf _ _ (.vnil 1) | exact .leaf _ _ (.nil 1) | exact .leaf _ _ (.same _)) fsub_nil) ?_
  refine aw_ret ?_
  refine ⟨_, res_1 rfl rfl, ?_, rfl⟩
  first | rfl | (rw [hmx])

theorem n_nexts (n : Net) (hn : n.Small) (hg : n.Go) (s : Int) (h0 : 0 ≤ s) (h1 : s ≤ 4096) : ACp Tryz.prog 47 [encN n, .v (.int .i64 (s))] (.list 1 ((n.nexts s n.many2).map encK)) := by
 refine acp_of rfl ?_
 obtain ⟨hv, hil, hrl⟩ := hg
 obtain ⟨f1, f2, f3, f4, f5, f6, f7⟩ := Net.valid_facts hv
 have hT := Net.many2_le hil
 have hr1 : (List.replicate (n.regs.length : Int).toNat (0 : Nat)).length = n.regs.length := by simp
 have hr2 : (List.replicate (n.ins.length : Int).toNat (0 : Nat)).length = n.ins.length := by simp
 have hTe : (1 <<< n.ins.length : Nat) = n.many2 := rfl
 have z1 := hn.insL
 have z2 := hn.regsL
 refine ac_enter 114 Tryz.func47 rfl rfl (by simp) ?_
 refine aw_seq ?_
 refine aw_region ?_
 (refine al_opR (op_box 2 rfl rfl (by first | rfl | exact live_one rfl | (repeat (first | exact all_live_nil | refine all_live_clo rfl ?_ | refine all_live_slice rfl ?_ | refine all_live_map rfl ?_ | refine all_live_ptr rfl ?_)))) rfl (by simp) ?_; rintro _ _ ⟨ver2, rfl, rfl⟩)
 refine al_op (op_assign rfl) rfl (by simp) ?_
 refine al_nil ?_
 refine aw_seq ?_
 refine aw_region ?_
 refine al_op (op_assign rfl) rfl (by simp) ?_
 refine al_nil ?_
 refine aw_seq ?_
 refine aw_region ?_
 first
   | refine al_op (op_field_rptr Tryz.underlying27 rfl info23 (by decide) rfl rfl) rfl (by simp) ?_
   | refine al_op (op_field_ptr Tryz.underlying27 rfl info23 (by decide) rfl rfl rfl) rfl (by simp) ?_
 first
   | refine al_op (op_load_rptr Tryz.underlying23 info23 rfl rfl) rfl (by simp) ?_
   | refine al_op (op_load_map Tryz.underlying23 info23 rfl rfl (by omega) rfl) rfl (by simp) ?_
   | refine al_op (op_load_ptr Tryz.underlying23 info23 rfl rfl rfl rfl) rfl (by simp) ?_
 first
   | refine al_op (op_len_map Tryz.underlying23 rfl) rfl (by simp) ?_
   | refine al_op (op_len_slice Tryz.underlying23 rfl rfl) rfl (by simp) ?_
   | refine al_op (op_len_list Tryz.underlying23 rfl) rfl (by simp) ?_
   | refine al_op (op_len_v Tryz.underlying23 rfl) rfl (by simp) ?_
   | refine al_op (op_len_nil Tryz.underlying23 rfl) rfl (by simp) ?_
 (refine al_opR (op_makeN (f := encU) 20 (0 : Nat) Tryz.underlying51 info50 rfl rfl (by decide) rfl rfl rfl rfl (by omega) (by show (8 : Int) * _ ≤ _; omega) (by omega)) rfl (by simp) ?_; rintro _ _ ⟨ver20, rfl, rfl⟩)
 refine al_op (op_assign rfl) rfl (by simp) ?_
 refine al_nil ?_
 refine aw_seq ?_
 refine aw_seq ?_
 refine aw_region ?_
 refine al_op (op_move rfl) rfl (by simp) ?_
 first
   | refine al_op (op_len_map Tryz.underlying51 rfl) rfl (by simp) ?_
   | refine al_op (op_len_slice Tryz.underlying51 rfl rfl) rfl (by simp) ?_
   | refine al_op (op_len_list Tryz.underlying51 rfl) rfl (by simp) ?_
   | refine al_op (op_len_v Tryz.underlying51 rfl) rfl (by simp) ?_
   | refine al_op (op_len_nil Tryz.underlying51 rfl) rfl (by simp) ?_
 refine al_op (op_move rfl) rfl (by simp) ?_
 refine al_nil ?_
 refine aw_block ?_
 apply aw_only
 ·
  (first | apply sub_cons (t := 1) rfl | skip)
  (first | apply sub_cons (t := 2) rfl | skip)
  (first | apply sub_cons (t := 4) rfl | skip)
  (first | apply sub_cons (t := 5) rfl | skip)
  (first | apply sub_cons (t := 6) rfl | skip)
  (first | apply sub_cons (t := 22) rfl | skip)
  (first | apply sub_cons (t := 23) rfl | skip)
  exact sub_nil
 refine aw_forT (ι := Nat) [23] [] (fun j => n.regs.length - j) (fun j => j ≤ n.regs.length) (fun j => ([(23, .v (.int .i64 (j)))] : Env)) (fun j st => st.put 20 ver20 (.row 1 ((mixTo (n.fromN s) (List.replicate n.regs.length 0) j).map encU))) (0) ?_ ?_ ?_ (fun j hinv => ?_)
 ·exact Nat.zero_le _
 ·refine sub_cons (get_as rfl ?_) ?_; rotate_left; exact sub_nil
  all_goals (first | rfl | simp)
 ·(rw [mixTo_zero] <;> rfl)
 refine aw_seq ?_
 refine aw_region ?_
 refine al_op (op_lss rfl rfl) rfl (by simp) ?_
 refine al_nil ?_
 refine aw_seq ?_
 refine aw_cond rfl (fun h1 => ?_) (fun h1 => ?_)
 ·have gh1 := h1
  try simp only [nrm] at h1
  refine aw_skip ?_
  refine aw_seq ?_
  refine aw_block ?_
  refine aw_seq ?_
  refine aw_region ?_
  refine al_op (op_move rfl) rfl (by simp) ?_
  refine al_op (op_assign rfl) rfl (by simp) ?_
  refine al_nil ?_
  have hml : (mixTo (n.fromN s) (List.replicate n.regs.length 0) j).length = n.regs.length := by rw [mixTo_length (by simp [Net.fromN])]; simp
  have hbr := bitI_range s j
  refine aw_region ?_
  refine al_op (op_move rfl) rfl (by simp) ?_
  refine al_op (op_move rfl) rfl (by simp) ?_
  refine al_op (op_move rfl) rfl (by simp) ?_
  refine al_op (op_move rfl) rfl (by simp) ?_
  refine al_op (op_shr rfl rfl (by omega) (shr_i64 (by omega))) rfl (by simp) ?_
  refine al_op (op_bitand rfl rfl (and_one _)) rfl (by simp) ?_
  refine al_op (op_conv Tryz.underlying3 Tryz.underlying44 rfl (bit_u8 s j)) rfl (by simp) ?_
  first
    | refine al_callp into44 rfl rfl rfl ((c_spread _ (by omega) (by omega)) _) (by simp) ?_
    | refine al_callp into44 rfl rfl rfl (acp_lent (lend_cons (by first | exact lend_same | exact .leaf _ _ (.vnil _) | exact .leaf _ _ (.nil _) | exact lend_whole rfl (by first | rfl | (simp; done) | (simp; omega)) (clo_map (fun _ => rfl)) | exact lend_netg (by first | exact .same _ | exact lendL_vnil | exact lendL_whole rfl (by first | rfl | (simp; done) | (simp; omega)) (clo_map (fun _ => rfl))) (by first | exact .same _ | exact lendL_vnil | exact lendL_whole rfl (by first | rfl | (simp; done) | (simp; omega)) (clo_map (fun _ => rfl))) (by first | exact .same _ | exact lendL_vnil | exact lendL_whole rfl (by first | rfl | (simp; done) | (simp; omega)) (clo_map (fun _ => rfl))) (by first | exact .same _ | exact lendL_vnil | exact lendL_whole rfl (by first | rfl | (simp; done) | (simp; omega)) (clo_map (fun _ => rfl)))) lend_nil) (c_spread _ (by omega) (by omega)) rfl) (by simp) ?_
  first
    | refine al_op (op_index_map default Tryz.underlying51 info50 rfl rfl rfl (by first | (with_reducible exact Int.toNat_natCast _) | rfl) (by omega) (by omega)) rfl (by simp) ?_
    | refine al_op (op_index_slice Tryz.underlying51 info50 rfl rfl rfl rfl (by omega) (by omega)) rfl (by simp) ?_
    | refine al_op (op_index_list Tryz.underlying51 info50 rfl rfl rfl (by decide) rfl) rfl (by simp) ?_
  refine al_op (op_store_map (maskOf (bitI s j)) info50 rfl rfl rfl (by omega) rfl rfl rfl (Nat.le_of_ble_eq_true rfl) rfl) rfl (by simp) ?_
  refine al_nil ?_
  refine aw_region ?_
  refine al_op (op_add rfl rfl (by first | exact wrap_i64 (by omega) (by omega))) rfl (by simp) ?_
  refine al_op (op_move rfl) rfl (by simp) ?_
  refine al_nil ?_
  refine ⟨j + 1, ?_, ?_, ?_, ?_, ?_⟩
  ·omega
  ·omega
  ·refine sub_cons (get_as rfl ?_) ?_; rotate_left; exact sub_nil
   all_goals (first | rfl | simp)
  ·repeat (first | exact subx_refl | exact subx_del | refine subx_put rfl ?_)
  ·(rw [n.from_next s j (by omega)] <;> rfl)
 ·have gh1 := h1
  try simp only [nrm] at h1
  refine aw_exit ?_
  obtain rfl : j = n.regs.length := by omega
  have hmx := n.from_mix s
  refine aw_st (σ2 := ([(2, ver2, .row 4 [[.list 1 (n.ins.map encS), .list 3 (n.regs.map encR), .list 2 (n.gates.map encG), .list 2 (n.outs.map encP)]]), (20, ver20, .row 1 ((n.fromN s).map encU))] : Store)) (by rw [hmx]; rfl) ?_
  have hfl := n.fromN_length s
  refine aw_seq ?_
  refine aw_seq ?_
  refine aw_region ?_
  refine al_op (op_assign rfl) rfl (by simp) ?_
  refine al_nil ?_
  refine aw_block ?_
  apply aw_only
  ·
   (first | apply sub_cons (t := 2) rfl | skip)
   (first | apply sub_cons (t := 4) rfl | skip)
   (first | apply sub_cons (t := 5) rfl | skip)
   (first | apply sub_cons (t := 6) rfl | skip)
   (first | apply sub_cons (t := 8) rfl | skip)
   exact sub_nil
  refine aw_own_map encK 5 1 5 rfl rfl (fun ver5 => ?_)
  refine aw_for2T (α := Nat) (β := Nat) [5, 8] [16, 47] (fun b v5 => n.many2 - 64 * b) (fun b v5 => 64 * b ≤ n.many2 + 64) (fun b v5 => ([(5, .slice 5 v5 0 (n.nexts s (min (64 * b) n.many2)).length), (8, .v (.int .i64 (((64 * b : Nat) : Int))))] : Env)) (fun b v5 st => st.put 5 v5 (.row 1 ((n.nexts s (min (64 * b) n.many2)).map encK))) (0) (ver5) ?_ ?_ ?_ (fun b v5 hinv => ?_)
  ·omega
  ·refine sub_cons (get_as rfl ?_) ?_; rotate_left; refine sub_cons (get_as rfl ?_) ?_; rotate_left; exact sub_nil
   all_goals (first | rfl | (simp [Net.nexts]; done))
  ·(simp only [Nat.mul_zero, Nat.zero_min] <;> rfl)
  refine aw_seq ?_
  refine aw_seq ?_
  refine aw_region ?_
  refine al_op (op_move rfl) rfl (by simp) ?_
  first
    | refine al_op (op_field_rptr Tryz.underlying27 rfl info22 (by decide) rfl rfl) rfl (by simp) ?_
    | refine al_op (op_field_ptr Tryz.underlying27 rfl info22 (by decide) rfl rfl rfl) rfl (by simp) ?_
  first
    | refine al_op (op_load_rptr Tryz.underlying22 info22 rfl rfl) rfl (by simp) ?_
    | refine al_op (op_load_map Tryz.underlying22 info22 rfl rfl (by omega) rfl) rfl (by simp) ?_
    | refine al_op (op_load_ptr Tryz.underlying22 info22 rfl rfl rfl rfl) rfl (by simp) ?_
  first
    | refine al_op (op_len_map Tryz.underlying22 rfl) rfl (by simp) ?_
    | refine al_op (op_len_slice Tryz.underlying22 rfl rfl) rfl (by simp) ?_
    | refine al_op (op_len_list Tryz.underlying22 rfl) rfl (by simp) ?_
    | refine al_op (op_len_v Tryz.underlying22 rfl) rfl (by simp) ?_
    | refine al_op (op_len_nil Tryz.underlying22 rfl) rfl (by simp) ?_
  refine al_op (op_shl (a := ((1 : Nat) : Int)) rfl rfl (by omega) (shl_i64 (by decide) (by omega))) rfl (by simp) ?_
  refine al_op (op_lss rfl rfl) rfl (by simp) ?_
  refine al_nil ?_
  refine aw_cond rfl (fun h2 => ?_) (fun h2 => ?_)
  ·have gh2 := h2
   try simp only [nrm] at h2
   refine aw_skip ?_
   refine aw_seq ?_
   refine aw_block ?_
   refine aw_seq ?_
   refine aw_region ?_
   first
     | refine al_op (op_field_rptr Tryz.underlying27 rfl info22 (by decide) rfl rfl) rfl (by simp) ?_
     | refine al_op (op_field_ptr Tryz.underlying27 rfl info22 (by decide) rfl rfl rfl) rfl (by simp) ?_
   first
     | refine al_op (op_load_rptr Tryz.underlying22 info22 rfl rfl) rfl (by simp) ?_
     | refine al_op (op_load_map Tryz.underlying22 info22 rfl rfl (by omega) rfl) rfl (by simp) ?_
     | refine al_op (op_load_ptr Tryz.underlying22 info22 rfl rfl rfl rfl) rfl (by simp) ?_
   first
     | refine al_op (op_len_map Tryz.underlying22 rfl) rfl (by simp) ?_
     | refine al_op (op_len_slice Tryz.underlying22 rfl rfl) rfl (by simp) ?_
     | refine al_op (op_len_list Tryz.underlying22 rfl) rfl (by simp) ?_
     | refine al_op (op_len_v Tryz.underlying22 rfl) rfl (by simp) ?_
     | refine al_op (op_len_nil Tryz.underlying22 rfl) rfl (by simp) ?_
   (refine al_opR (op_makeN (f := encU) 47 (0 : Nat) Tryz.underlying51 info50 rfl rfl (by decide) rfl rfl rfl rfl (by omega) (by show (8 : Int) * _ ≤ _; omega) (by omega)) rfl (by simp) ?_; rintro _ _ ⟨ver47, rfl, rfl⟩)
   refine al_op (op_assign rfl) rfl (by simp) ?_
   refine al_nil ?_
   refine aw_seq ?_
   refine aw_seq ?_
   refine aw_region ?_
   refine al_op (op_move rfl) rfl (by simp) ?_
   refine al_nil ?_
   refine aw_block ?_
   refine aw_forT (ι := Nat) [10, 11, 48, 49, 50, 51, 52, 53, 54, 55, 56, 57, 58, 59, 60, 61, 62, 63, 64, 65, 66, 67, 68, 69, 70, 71, 72] [] (fun k => 64 - k) (fun k => k ≤ 64) (fun k => ([(48, .v (.int .i64 (k)))] : Env)) (fun k st => st.put 47 ver47 (.row 1 ((n.lanes (64 * b) k).map encU))) (0) ?_ ?_ ?_ (fun k hinv => ?_)
   ·exact Nat.zero_le _
   ·refine sub_cons (get_as rfl ?_) ?_; rotate_left; exact sub_nil
    all_goals (first | rfl | simp)
   ·(rw [n.lanes_zero] <;> rfl)
   have hll0 := n.lanes_length (64 * b) k
   refine aw_seq ?_
   refine aw_region ?_
   refine al_op (op_lss rfl rfl) rfl (by simp) ?_
   refine al_nil ?_
   refine aw_seq ?_
   refine aw_cond rfl (fun h3 => ?_) (fun h3 => ?_)
   ·have gh3 := h3
    try simp only [nrm] at h3
    refine aw_skip ?_
    refine aw_seq ?_
    refine aw_block ?_
    refine aw_seq ?_
    refine aw_region ?_
    refine al_op (op_move rfl) rfl (by simp) ?_
    refine al_op (op_assign rfl) rfl (by simp) ?_
    refine al_nil ?_
    refine aw_seq ?_
    refine aw_region ?_
    refine al_op (op_move rfl) rfl (by simp) ?_
    first
      | refine al_op (op_len_map Tryz.underlying51 rfl) rfl (by simp) ?_
      | refine al_op (op_len_slice Tryz.underlying51 rfl rfl) rfl (by simp) ?_
      | refine al_op (op_len_list Tryz.underlying51 rfl) rfl (by simp) ?_
      | refine al_op (op_len_v Tryz.underlying51 rfl) rfl (by simp) ?_
      | refine al_op (op_len_nil Tryz.underlying51 rfl) rfl (by simp) ?_
    refine al_op (op_move rfl) rfl (by simp) ?_
    refine al_nil ?_
    refine aw_block ?_
    refine aw_forT (ι := Nat) [11, 53, 54, 55, 56, 57, 58, 59, 60, 61, 62, 63, 64, 65, 66, 67, 68, 69, 70, 71] [] (fun i => n.ins.length - i) (fun i => i ≤ n.ins.length) (fun i => ([(53, .v (.int .i64 (i)))] : Env)) (fun i st => st.put 47 ver47 (.row 1 ((mixTo (n.lanes (64 * b) (k + 1)) (n.lanes (64 * b) k) i).map encU))) (0) ?_ ?_ ?_ (fun i hinv => ?_)
    ·exact Nat.zero_le _
    ·refine sub_cons (get_as rfl ?_) ?_; rotate_left; exact sub_nil
     all_goals (first | rfl | simp)
    ·(rw [mixTo_zero] <;> rfl)
    refine aw_seq ?_
    refine aw_region ?_
    refine al_op (op_lss rfl rfl) rfl (by simp) ?_
    refine al_nil ?_
    refine aw_seq ?_
    refine aw_cond rfl (fun h4 => ?_) (fun h4 => ?_)
    ·have gh4 := h4
     try simp only [nrm] at h4
     refine aw_skip ?_
     refine aw_seq ?_
     refine aw_block ?_
     refine aw_seq ?_
     refine aw_region ?_
     refine al_op (op_move rfl) rfl (by simp) ?_
     refine al_op (op_assign rfl) rfl (by simp) ?_
     refine al_nil ?_
     have hll : (n.lanes (64 * b) (k + 1)).length = (n.lanes (64 * b) k).length := by rw [n.lanes_length, n.lanes_length]
     have hml : (mixTo (n.lanes (64 * b) (k + 1)) (n.lanes (64 * b) k) i).length = n.ins.length := by rw [mixTo_length hll, n.lanes_length]
     have hm64 := mixTo_64 (n.lanes_64 (64 * b) (k + 1) (by omega)) (n.lanes_64 (64 * b) k (by omega)) i
     have ha := w64_get hm64 (0 + (i : Int).toNat)
     have hbr := bitI_range (((64 * b : Nat) : Int) + (k : Int)) i
     have hb2 : (bitI (((64 * b : Nat) : Int) + (k : Int)) i).toNat <<< k < 2 ^ 64 := Nat.lt_of_lt_of_le (shl_lt (by omega)) (pow_le_of (by omega))
     refine aw_any (Checked.mixed Tryz.checked) ?_
     apply aany_seg (p := 0) (q := 15) (by kernel_rfl) rfl (by decide)
     ·
      apply ql_plain rfl (op_move rfl)
      apply ql_plain rfl (op_move rfl)
      first
        | apply ql_plain rfl (op_index_map default Tryz.underlying51 info50 rfl rfl rfl (by first | (with_reducible exact Int.toNat_natCast _) | rfl) (by omega) (by omega))
        | apply ql_plain rfl (op_index_slice Tryz.underlying51 info50 rfl rfl rfl rfl (by omega) (by omega))
        | apply ql_plain rfl (op_index_list Tryz.underlying51 info50 rfl rfl rfl (by decide) rfl)
      first
        | apply ql_plain rfl (op_load_rptr Tryz.underlying50 info50 rfl rfl)
        | apply ql_plain rfl (op_load_map Tryz.underlying50 info50 rfl rfl (by omega) rfl)
        | apply ql_plain rfl (op_load_ptr Tryz.underlying50 info50 rfl rfl rfl rfl)
      apply ql_plain rfl (op_move rfl)
      apply ql_plain rfl (op_move rfl)
      apply ql_plain rfl (op_add rfl rfl (by first | exact wrap_i64 (by omega) (by omega)))
      apply ql_plain rfl (op_move rfl)
      apply ql_plain rfl (op_shr rfl rfl (by omega) (shr_i64 (by omega)))
      apply ql_plain rfl (op_bitand rfl rfl (and_one _))
      apply ql_plain rfl (op_conv Tryz.underlying3 Tryz.underlying50 rfl (bit_u64 _ i))
      apply ql_plain rfl (op_move rfl)
      apply ql_plain rfl (op_shl rfl rfl (by omega) (shl_u64 (by omega) (by omega)))
      apply ql_plain rfl (op_bitor rfl rfl (u64_or ha hb2))
      first
        | apply ql_plain rfl (op_index_map default Tryz.underlying51 info50 rfl rfl rfl (by first | (with_reducible exact Int.toNat_natCast _) | rfl) (by omega) (by omega))
        | apply ql_plain rfl (op_index_slice Tryz.underlying51 info50 rfl rfl rfl rfl (by omega) (by omega))
        | apply ql_plain rfl (op_index_list Tryz.underlying51 info50 rfl rfl rfl (by decide) rfl)
      exact ql_nil
     ·simp
     refine aany_op (by kernel_rfl) rfl rfl (op_store_map ((mixTo (n.lanes (64 * b) (k + 1)) (n.lanes (64 * b) k) i).getD (0 + (i : Int).toNat) default ||| ((bitI (((64 * b : Nat) : Int) + (k : Int)) i).toNat <<< k)) info50 rfl rfl rfl (by omega) rfl rfl rfl (Nat.le_of_ble_eq_true rfl) rfl) (by simp) ?_
     refine aany_end rfl (by kernel_rfl) ?_
     refine aw_region ?_
     refine al_op (op_add rfl rfl (by first | exact wrap_i64 (by omega) (by omega))) rfl (by simp) ?_
     refine al_op (op_move rfl) rfl (by simp) ?_
     refine al_nil ?_
     refine ⟨i + 1, ?_, ?_, ?_, ?_, ?_⟩
     ·omega
     ·omega
     ·refine sub_cons (get_as rfl ?_) ?_; rotate_left; exact sub_nil
      all_goals (first | rfl | simp)
     ·repeat (first | exact subx_refl | exact subx_del | refine subx_put rfl ?_)
     ·(rw [n.lane_next (64 * b) k i (by omega)] <;> rfl)
    ·have gh4 := h4
     try simp only [nrm] at h4
     refine aw_exit ?_
     obtain rfl : i = n.ins.length := by omega
     have hmx := n.lane_mix (64 * b) k
     refine aw_region ?_
     refine al_op (op_add rfl rfl (by first | exact wrap_i64 (by omega) (by omega))) rfl (by simp) ?_
     refine al_op (op_move rfl) rfl (by simp) ?_
     refine al_nil ?_
     refine ⟨k + 1, ?_, ?_, ?_, ?_, ?_⟩
     ·omega
     ·omega
     ·refine sub_cons (get_as rfl ?_) ?_; rotate_left; exact sub_nil
      all_goals (first | rfl | simp)
     ·repeat (first | exact subx_refl | exact subx_del | refine subx_put rfl ?_)
     ·(rw [hmx] <;> rfl)
   ·have gh3 := h3
    try simp only [nrm] at h3
    refine aw_exit ?_
    obtain rfl : k = 64 := by omega
    have hll0 := n.lanes_length (64 * b) 64
    refine aw_seq ?_
    have hwd : Wide n (n.lanes (64 * b) 64) (n.fromN s) := ⟨hv, n.lanes_length _ _, n.fromN_length s, n.lanes_64 _ _ (by omega), n.fromN_64 s⟩
    refine aw_region ?_
    first
      | refine al_op (op_load_rptr Tryz.underlying27 info27 rfl rfl) rfl (by simp) ?_
      | refine al_op (op_load_map Tryz.underlying27 info27 rfl rfl (by omega) rfl) rfl (by simp) ?_
      | refine al_op (op_load_ptr Tryz.underlying27 info27 rfl rfl rfl rfl) rfl (by simp) ?_
    refine al_op (op_move rfl) rfl (by simp) ?_
    refine al_op (op_move rfl) rfl (by simp) ?_
    refine al_callp into45 rfl rfl rfl (acn_lend (lend_cons (by first | exact lend_same | exact .leaf _ _ (.vnil _) | exact .leaf _ _ (.nil _) | exact lend_whole rfl (by first | rfl | (simp; done) | (simp; omega)) (clo_map (fun _ => rfl)) | exact lend_netg (by first | exact .same _ | exact lendL_vnil | exact lendL_whole rfl (by first | rfl | (simp; done) | (simp; omega)) (clo_map (fun _ => rfl))) (by first | exact .same _ | exact lendL_vnil | exact lendL_whole rfl (by first | rfl | (simp; done) | (simp; omega)) (clo_map (fun _ => rfl))) (by first | exact .same _ | exact lendL_vnil | exact lendL_whole rfl (by first | rfl | (simp; done) | (simp; omega)) (clo_map (fun _ => rfl))) (by first | exact .same _ | exact lendL_vnil | exact lendL_whole rfl (by first | rfl | (simp; done) | (simp; omega)) (clo_map (fun _ => rfl)))) (lend_cons (by first | exact lend_same | exact .leaf _ _ (.vnil _) | exact .leaf _ _ (.nil _) | exact lend_whole rfl (by first | rfl | (simp; done) | (simp; omega)) (clo_map (fun _ => rfl)) | exact lend_netg (by first | exact .same _ | exact lendL_vnil | exact lendL_whole rfl (by first | rfl | (simp; done) | (simp; omega)) (clo_map (fun _ => rfl))) (by first | exact .same _ | exact lendL_vnil | exact lendL_whole rfl (by first | rfl | (simp; done) | (simp; omega)) (clo_map (fun _ => rfl))) (by first | exact .same _ | exact lendL_vnil | exact lendL_whole rfl (by first | rfl | (simp; done) | (simp; omega)) (clo_map (fun _ => rfl))) (by first | exact .same _ | exact lendL_vnil | exact lendL_whole rfl (by first | rfl | (simp; done) | (simp; omega)) (clo_map (fun _ => rfl)))) (lend_cons (by first | exact lend_same | exact .leaf _ _ (.vnil _) | exact .leaf _ _ (.nil _) | exact lend_whole rfl (by first | rfl | (simp; done) | (simp; omega)) (clo_map (fun _ => rfl)) | exact lend_netg (by first | exact .same _ | exact lendL_vnil | exact lendL_whole rfl (by first | rfl | (simp; done) | (simp; omega)) (clo_map (fun _ => rfl))) (by first | exact .same _ | exact lendL_vnil | exact lendL_whole rfl (by first | rfl | (simp; done) | (simp; omega)) (clo_map (fun _ => rfl))) (by first | exact .same _ | exact lendL_vnil | exact lendL_whole rfl (by first | rfl | (simp; done) | (simp; omega)) (clo_map (fun _ => rfl))) (by first | exact .same _ | exact lendL_vnil | exact lendL_whole rfl (by first | rfl | (simp; done) | (simp; omega)) (clo_map (fun _ => rfl)))) lend_nil))) (n_clock _ (by assumption) _ _ (by assumption))) (by simp) ?_
    refine al_op (op_assign rfl) rfl (by simp) ?_
    refine al_nil ?_
    refine aw_seq ?_
    refine aw_as 12 (.list 1 ((n.wvN s (64 * b)).map encU)) rfl rfl ?_
    have hwl : (n.wvN s (64 * b)).length = 1 + (n.lanes (64 * b) 64).length + (n.fromN s).length + n.gates.length := n.wideTo_length _ _ _
    rw [n.lanes_length, n.fromN_length] at hwl
    have hw64 : W64 (n.wvN s (64 * b)) := n.wideTo_64 hwd.i64 hwd.s64 _
    refine aw_region ?_
    first
      | refine al_op (op_field_rptr Tryz.underlying27 rfl info22 (by decide) rfl rfl) rfl (by simp) ?_
      | refine al_op (op_field_ptr Tryz.underlying27 rfl info22 (by decide) rfl rfl rfl) rfl (by simp) ?_
    first
      | refine al_op (op_load_rptr Tryz.underlying22 info22 rfl rfl) rfl (by simp) ?_
      | refine al_op (op_load_map Tryz.underlying22 info22 rfl rfl (by omega) rfl) rfl (by simp) ?_
      | refine al_op (op_load_ptr Tryz.underlying22 info22 rfl rfl rfl rfl) rfl (by simp) ?_
    first
      | refine al_op (op_len_map Tryz.underlying22 rfl) rfl (by simp) ?_
      | refine al_op (op_len_slice Tryz.underlying22 rfl rfl) rfl (by simp) ?_
      | refine al_op (op_len_list Tryz.underlying22 rfl) rfl (by simp) ?_
      | refine al_op (op_len_v Tryz.underlying22 rfl) rfl (by simp) ?_
      | refine al_op (op_len_nil Tryz.underlying22 rfl) rfl (by simp) ?_
    refine al_op (op_shl (a := ((1 : Nat) : Int)) rfl rfl (by omega) (shl_i64 (by decide) (by omega))) rfl (by simp) ?_
    refine al_op (op_move rfl) rfl (by simp) ?_
    refine al_op (op_sub rfl rfl (by first | exact wrap_i64 (by omega) (by omega))) rfl (by simp) ?_
    refine al_op (op_min rfl rfl) rfl (by simp) ?_
    refine al_op (op_move rfl) rfl (by simp) ?_
    refine al_nil ?_
    refine aw_block ?_
    have hbm : min (64 * b) n.many2 = 64 * b := by omega
    refine aw_for2T (α := Nat) (β := Nat) [5, 13, 14, 15, 16, 84, 85, 86, 87, 88, 89, 90, 91, 92, 93, 94, 95, 96, 97, 98, 99, 100, 101, 102, 103, 104, 105, 106, 107, 108, 109, 110, 111, 112] [16] (fun k v => 64 - k) (fun k v => (k : Int) ≤ min 64 ((n.many2 : Int) - ((64 * b : Nat) : Int))) (fun k v => ([(5, .slice 5 v 0 (n.nexts s (64 * b + k)).length), (84, .v (.int .i64 (k)))] : Env)) (fun k v st => st.put 5 v (.row 1 ((n.nexts s (64 * b + k)).map encK))) (0) (v5) ?_ ?_ ?_ (fun k v hinv => ?_)
    ·omega
    ·refine sub_cons (get_as rfl ?_) ?_; rotate_left; refine sub_cons (get_as rfl ?_) ?_; rotate_left; exact sub_nil
     all_goals (first | rfl | (rw [hbm]; rfl))
    ·(rw [hbm] <;> rfl)
    have hnl := n.nexts_length s (64 * b + k)
    refine aw_seq ?_
    refine aw_region ?_
    refine al_op (op_lss rfl rfl) rfl (by simp) ?_
    refine al_nil ?_
    refine aw_seq ?_
    refine aw_cond rfl (fun h5 => ?_) (fun h5 => ?_)
    ·have gh5 := h5
     try simp only [nrm] at h5
     refine aw_skip ?_
     refine aw_seq ?_
     refine aw_block ?_
     refine aw_seq ?_
     refine aw_region ?_
     refine al_op (op_move rfl) rfl (by simp) ?_
     refine al_op (op_assign rfl) rfl (by simp) ?_
     refine al_nil ?_
     refine aw_seq ?_
     refine aw_region ?_
     refine al_op (op_assign rfl) rfl (by simp) ?_
     refine al_nil ?_
     refine aw_seq ?_
     refine aw_seq ?_
     refine aw_region ?_
     first
       | refine al_op (op_field_rptr Tryz.underlying27 rfl info23 (by decide) rfl rfl) rfl (by simp) ?_
       | refine al_op (op_field_ptr Tryz.underlying27 rfl info23 (by decide) rfl rfl rfl) rfl (by simp) ?_
     first
       | refine al_op (op_load_rptr Tryz.underlying23 info23 rfl rfl) rfl (by simp) ?_
       | refine al_op (op_load_map Tryz.underlying23 info23 rfl rfl (by omega) rfl) rfl (by simp) ?_
       | refine al_op (op_load_ptr Tryz.underlying23 info23 rfl rfl rfl rfl) rfl (by simp) ?_
     first
       | refine al_op (op_len_map Tryz.underlying23 rfl) rfl (by simp) ?_
       | refine al_op (op_len_slice Tryz.underlying23 rfl rfl) rfl (by simp) ?_
       | refine al_op (op_len_list Tryz.underlying23 rfl) rfl (by simp) ?_
       | refine al_op (op_len_v Tryz.underlying23 rfl) rfl (by simp) ?_
       | refine al_op (op_len_nil Tryz.underlying23 rfl) rfl (by simp) ?_
     refine al_op (op_move rfl) rfl (by simp) ?_
     refine al_nil ?_
     refine aw_block ?_
     refine aw_forT (ι := Nat) [14, 15, 16, 90, 91, 92, 93, 94, 95, 96, 97, 98, 99, 100, 101, 102, 103, 104, 105, 106, 107] [16] (fun i => n.regs.length - i) (fun i => i ≤ n.regs.length) (fun i => ([(14, .v (.int .i64 ((n.toTo (n.wvN s (64 * b)) k i : Nat) : Int))), (90, .v (.int .i64 (i)))] : Env)) (fun i s => s) (0) ?_ ?_ ?_ (fun i hinv => ?_)
     ·exact Nat.zero_le _
     ·refine sub_cons (get_as rfl ?_) ?_; rotate_left; refine sub_cons (get_as rfl ?_) ?_; rotate_left; exact sub_nil
      all_goals (first | rfl | simp)
     ·rfl
     refine aw_seq ?_
     refine aw_region ?_
     refine al_op (op_lss rfl rfl) rfl (by simp) ?_
     refine al_nil ?_
     refine aw_seq ?_
     refine aw_cond rfl (fun h6 => ?_) (fun h6 => ?_)
     ·have gh6 := h6
      try simp only [nrm] at h6
      refine aw_skip ?_
      refine aw_seq ?_
      refine aw_block ?_
      refine aw_seq ?_
      refine aw_region ?_
      refine al_op (op_move rfl) rfl (by simp) ?_
      first
        | refine al_op (op_index_map default Tryz.underlying23 info77 rfl rfl rfl (by first | (with_reducible exact Int.toNat_natCast _) | rfl) (by omega) (by omega)) rfl (by simp) ?_
        | refine al_op (op_index_slice Tryz.underlying23 info77 rfl rfl rfl rfl (by omega) (by omega)) rfl (by simp) ?_
        | refine al_op (op_index_list Tryz.underlying23 info77 rfl rfl rfl (by decide) rfl) rfl (by simp) ?_
      first
        | refine al_op (op_load_rptr Tryz.underlying77 info77 rfl rfl) rfl (by simp) ?_
        | refine al_op (op_load_map Tryz.underlying77 info77 rfl rfl (by omega) rfl) rfl (by simp) ?_
        | refine al_op (op_load_ptr Tryz.underlying77 info77 rfl rfl rfl rfl) rfl (by simp) ?_
      (refine al_opR (op_alloc 16 info77 rfl rfl) rfl (by simp) ?_; rintro _ _ ⟨ver16, rfl, rfl⟩)
      refine al_op (op_assign rfl) rfl (by simp) ?_
      first
        | refine al_op (op_store_ptr info77 rfl rfl rfl rfl rfl rfl (by first | rfl | exact live_one rfl | (repeat (first | exact all_live_nil | refine all_live_clo rfl ?_ | refine all_live_slice rfl ?_ | refine all_live_map rfl ?_ | refine all_live_ptr rfl ?_))) (by decide)) rfl (by simp) ?_
        | refine al_op (op_store_ptr info77 rfl rfl rfl rfl rfl rfl (by first | rfl | exact live_one rfl | (repeat (first | exact all_live_nil | refine all_live_clo rfl ?_ | refine all_live_slice rfl ?_ | refine all_live_map rfl ?_ | refine all_live_ptr rfl ?_))) (Nat.le_of_ble_eq_true rfl)) rfl (by simp) ?_
      refine al_nil ?_
      have hf6 := f6 i (by omega)
      have hx64 : nextW (n.wvN s (64 * b)) (n.regs.getD i default) < 2 ^ 64 := wOf_lt hw64 _
      have hx2 : nextW (n.wvN s (64 * b)) (n.regs.getD i default) >>> k < 2 ^ 64 := Nat.lt_of_le_of_lt (Nat.shiftRight_le _ _) hx64
      have ha := lt62 (n.toTo_lt (n.wvN s (64 * b)) k i) (by omega)
      have hb2 := lt62 (shl_lt (b := nextW (n.wvN s (64 * b)) (n.regs.getD i default) >>> k % 2) (i := i) (by omega)) (by omega)
      refine aw_region ?_
      refine al_op (op_move rfl) rfl (by simp) ?_
      refine al_op (op_move rfl) rfl (by simp) ?_
      first
        | refine al_op (op_field_rptr Tryz.underlying77 rfl info3 (by decide) rfl rfl) rfl (by simp) ?_
        | refine al_op (op_field_ptr Tryz.underlying77 rfl info3 (by decide) rfl rfl rfl) rfl (by simp) ?_
      first
        | refine al_op (op_load_rptr Tryz.underlying3 info3 rfl rfl) rfl (by simp) ?_
        | refine al_op (op_load_map Tryz.underlying3 info3 rfl rfl (by omega) rfl) rfl (by simp) ?_
        | refine al_op (op_load_ptr Tryz.underlying3 info3 rfl rfl rfl rfl) rfl (by simp) ?_
      first
        | refine al_callp into46 rfl rfl rfl ((c_wof _ _ (by omega) (by omega) (by omega) (by assumption)) _) (by simp) ?_
        | refine al_callp into46 rfl rfl rfl (acp_lent (lend_cons (by first | exact lend_same | exact .leaf _ _ (.vnil _) | exact .leaf _ _ (.nil _) | exact lend_whole rfl (by first | rfl | (simp; done) | (simp; omega)) (clo_map (fun _ => rfl)) | exact lend_netg (by first | exact .same _ | exact lendL_vnil | exact lendL_whole rfl (by first | rfl | (simp; done) | (simp; omega)) (clo_map (fun _ => rfl))) (by first | exact .same _ | exact lendL_vnil | exact lendL_whole rfl (by first | rfl | (simp; done) | (simp; omega)) (clo_map (fun _ => rfl))) (by first | exact .same _ | exact lendL_vnil | exact lendL_whole rfl (by first | rfl | (simp; done) | (simp; omega)) (clo_map (fun _ => rfl))) (by first | exact .same _ | exact lendL_vnil | exact lendL_whole rfl (by first | rfl | (simp; done) | (simp; omega)) (clo_map (fun _ => rfl)))) (lend_cons (by first | exact lend_same | exact .leaf _ _ (.vnil _) | exact .leaf _ _ (.nil _) | exact lend_whole rfl (by first | rfl | (simp; done) | (simp; omega)) (clo_map (fun _ => rfl)) | exact lend_netg (by first | exact .same _ | exact lendL_vnil | exact lendL_whole rfl (by first | rfl | (simp; done) | (simp; omega)) (clo_map (fun _ => rfl))) (by first | exact .same _ | exact lendL_vnil | exact lendL_whole rfl (by first | rfl | (simp; done) | (simp; omega)) (clo_map (fun _ => rfl))) (by first | exact .same _ | exact lendL_vnil | exact lendL_whole rfl (by first | rfl | (simp; done) | (simp; omega)) (clo_map (fun _ => rfl))) (by first | exact .same _ | exact lendL_vnil | exact lendL_whole rfl (by first | rfl | (simp; done) | (simp; omega)) (clo_map (fun _ => rfl)))) lend_nil)) (c_wof _ _ (by omega) (by omega) (by omega) (by assumption)) rfl) (by simp) ?_
      refine al_op (op_move rfl) rfl (by simp) ?_
      refine al_op (op_shr (a := ((nextW (n.wvN s (64 * b)) (n.regs.getD i default) : Nat) : Int)) rfl rfl (by omega) (shr_u64 (by omega))) rfl (by simp) ?_
      refine al_op (op_bitand rfl rfl (u64_and1 hx2)) rfl (by simp) ?_
      refine al_op (op_conv Tryz.underlying50 Tryz.underlying3 rfl (wrap_i64 (by omega) (by omega))) rfl (by simp) ?_
      refine al_op (op_move rfl) rfl (by simp) ?_
      refine al_op (op_shl rfl rfl (by omega) (shl_i64 (by omega) (by omega))) rfl (by simp) ?_
      refine al_op (op_bitor rfl rfl (i64_or ha hb2)) rfl (by simp) ?_
      refine al_op (op_assign rfl) rfl (by simp) ?_
      refine al_nil ?_
      refine aw_region ?_
      refine al_op (op_add rfl rfl (by first | exact wrap_i64 (by omega) (by omega))) rfl (by simp) ?_
      refine al_op (op_move rfl) rfl (by simp) ?_
      refine al_nil ?_
      refine ⟨i + 1, ?_, ?_, ?_, ?_, ?_⟩
      ·omega
      ·omega
      ·refine sub_cons (get_as rfl ?_) ?_; rotate_left; refine sub_cons (get_as rfl ?_) ?_; rotate_left; exact sub_nil
       all_goals (first | rfl | simp)
      ·repeat (first | exact subx_refl | exact subx_del | refine subx_put rfl ?_)
      ·rfl
     ·have gh6 := h6
      try simp only [nrm] at h6
      refine aw_exit ?_
      obtain rfl : i = n.regs.length := by omega
      refine aw_region ?_
      refine al_op (op_move rfl) rfl (by simp) ?_
      refine al_op (op_move rfl) rfl (by simp) ?_
      refine al_op (op_buildSlice Tryz.underlying31 info3 rfl rfl (by decide) rfl (by decide) rfl (by first | rfl | (repeat (first | exact parts_nil | refine parts_cons rfl (by repeat (first | exact all_live_nil | refine all_live_clo rfl ?_ | refine all_live_slice rfl ?_ | refine all_live_map rfl ?_ | refine all_live_ptr rfl ?_)) ?_))) rfl rfl rfl) rfl (by simp) ?_
      first
        | (refine al_opR (op_append_one (n.toTo (n.wvN s (64 * b)) k n.regs.length) Tryz.underlying31 Tryz.underlying31 rfl info3 rfl rfl (by decide) rfl rfl rfl (by first | rfl | simp) rfl rfl (by first | omega | (simp; done) | (simp; omega)) (by show _ * 8 ≤ _; first | omega | (simp; done) | (simp; omega))) rfl (by simp) ?_; rintro _ _ ⟨ver111, rfl, rfl⟩)
        | (refine al_opR (op_append_map Tryz.underlying31 Tryz.underlying31 rfl info3 rfl rfl (by decide) rfl rfl rfl (by first | rfl | simp) rfl (by first | exact .list _ | exact .vnil | exact .nil | exact .row _ _ _ _ rfl (by first | rfl | simp)) rfl (by first | omega | (simp; done) | (simp; omega)) (by show _ * 8 ≤ _; first | omega | (simp; done) | (simp; omega))) rfl (by simp) ?_; rintro _ _ ⟨ver111, rfl, rfl⟩)
      refine al_op (op_assign rfl) rfl (by simp) ?_
      refine al_nil ?_
      refine aw_region ?_
      refine al_op (op_add rfl rfl (by first | exact wrap_i64 (by omega) (by omega))) rfl (by simp) ?_
      refine al_op (op_move rfl) rfl (by simp) ?_
      refine al_nil ?_
      refine ⟨k + 1, ver111, ?_, ?_, ?_, ?_, ?_⟩
      ·omega
      ·omega
      ·refine sub_cons (get_as rfl ?_) ?_; rotate_left; refine sub_cons (get_as rfl ?_) ?_; rotate_left; exact sub_nil
       all_goals (first | rfl | (rw [n.nexts_succ s b k (by omega)] <;> rfl) | simp)
      ·repeat (first | exact subx_refl | exact subx_del | refine subx_put rfl ?_)
      ·(rw [n.nexts_succ s b k (by omega)] <;> rfl)
    ·have gh5 := h5
     try simp only [nrm] at h5
     refine aw_exit ?_
     have hke : min (64 * (b + 1)) n.many2 = 64 * b + k := by omega
     refine aw_region ?_
     refine al_op (op_move rfl) rfl (by simp) ?_
     refine al_op (op_add rfl rfl (by first | exact wrap_i64 (by omega) (by omega))) rfl (by simp) ?_
     refine al_op (op_assign rfl) rfl (by simp) ?_
     refine al_nil ?_
     refine ⟨b + 1, v, ?_, ?_, ?_, ?_, ?_⟩
     ·omega
     ·omega
     ·refine sub_cons (get_as rfl ?_) ?_; rotate_left; refine sub_cons (get_as rfl ?_) ?_; rotate_left; exact sub_nil
      all_goals (first | rfl | (rw [hke]; done) | (rw [hke]; rfl) | (congr 2; omega))
     ·repeat (first | exact subx_refl | exact subx_del | refine subx_put rfl ?_)
     ·(rw [hke] <;> rfl)
  ·have gh2 := h2
   try simp only [nrm] at h2
   refine aw_exit ?_
   have hbe : min (64 * b) n.many2 = n.many2 := by omega
   refine aw_seq ?_
   refine aw_region ?_
   refine al_op (op_move rfl) rfl (by simp) ?_
   refine al_op (op_assign rfl) rfl (by simp) ?_
   refine al_nil ?_
   refine aw_freeze (fun _ => false) (fsub_cons (t := 4) rfl (by first | exact .leaf _ _ (frz_whole rfl rfl (by first | rfl | (simp; done) | (simp; omega)) (clo_map (fun _ => rfl))) | exact .leaf _ _ (.vnil 1) | exact .leaf _ _ (.nil 1) | exact .leaf _ _ (.same _)) fsub_nil) ?_
   refine aw_ret ?_
   refine ⟨_, res_1 rfl rfl, ?_, rfl⟩
   first | rfl | (rw [hbe])

theorem q_search (n : Net) (hr : n.Ready) : AC Tryz.prog 22 [encN n] ([]) (fun r σ' => ∃ ver, r = .ret (.map 0 ver) ∧ σ'.keep (fun i => Nat.beq i 0) = [(0, ver, .map (kEnts stG n.bfs))]) := by
 have hn := hr.small
 have hgo := hr.go
 obtain ⟨hb01, hb0⟩ := hr.begin
 have hil := hr.i
 have hrl := hr.r
 have hfl : n.firsts.length ≤ 40 := by simp only [Net.firsts, List.length_map]; omega
 have hst := Net.states_le hrl
 have hT := Net.many2_le hil
 refine ac_enter 56 Tryz.func22 rfl rfl (by simp) ?_
 refine aw_seq ?_
 refine aw_region ?_
 (refine al_opR (op_box 21 rfl rfl (by first | rfl | exact live_one rfl | (repeat (first | exact all_live_nil | refine all_live_clo rfl ?_ | refine all_live_slice rfl ?_ | refine all_live_map rfl ?_ | refine all_live_ptr rfl ?_)))) rfl (by simp) ?_; rintro _ _ ⟨ver1, rfl, rfl⟩)
 refine al_op (op_assign rfl) rfl (by simp) ?_
 refine al_nil ?_
 refine aw_seq ?_
 refine aw_region ?_
 first
   | refine al_op (op_load_rptr Tryz.underlying27 info27 rfl rfl) rfl (by simp) ?_
   | refine al_op (op_load_map Tryz.underlying27 info27 rfl rfl (by omega) rfl) rfl (by simp) ?_
   | refine al_op (op_load_ptr Tryz.underlying27 info27 rfl rfl rfl rfl) rfl (by simp) ?_
 first
   | refine al_callp into36 rfl rfl rfl ((c_first _ (by assumption)) _) (by simp) ?_
   | refine al_callp into36 rfl rfl rfl (ac_told (re_cons (by first | exact .leaf _ _ (.same _) | exact .leaf _ _ (.vnil _) | exact .leaf _ _ (.nil _)) re_nil) ((c_first _ (by assumption)) _)) (by simp) ?_
 first
   | refine al_callp into37 rfl rfl rfl ((c_number _ (by assumption) (by omega)) _) (by simp) ?_
   | refine al_callp into37 rfl rfl rfl (acp_lent (lend_cons (by first | exact lend_same | exact .leaf _ _ (.vnil _) | exact .leaf _ _ (.nil _) | exact lend_whole rfl (by first | rfl | (simp; done) | (simp; omega)) (clo_map (fun _ => rfl)) | exact lend_netg (by first | exact .same _ | exact lendL_vnil | exact lendL_whole rfl (by first | rfl | (simp; done) | (simp; omega)) (clo_map (fun _ => rfl))) (by first | exact .same _ | exact lendL_vnil | exact lendL_whole rfl (by first | rfl | (simp; done) | (simp; omega)) (clo_map (fun _ => rfl))) (by first | exact .same _ | exact lendL_vnil | exact lendL_whole rfl (by first | rfl | (simp; done) | (simp; omega)) (clo_map (fun _ => rfl))) (by first | exact .same _ | exact lendL_vnil | exact lendL_whole rfl (by first | rfl | (simp; done) | (simp; omega)) (clo_map (fun _ => rfl)))) lend_nil) (c_number _ (by assumption) (by omega)) rfl) (by simp) ?_
 refine al_op (op_assign rfl) rfl (by simp) ?_
 refine al_nil ?_
 refine aw_seq ?_
 refine aw_region ?_
 (refine al_opR (op_makeMap 0 Tryz.underlying56 (.inl rfl)) rfl (by simp) ?_; rintro _ _ ⟨ver13, rfl, rfl⟩)
 refine al_op (op_move rfl) rfl (by simp) ?_
 refine al_op (op_build_struct Tryz.underlying61 info61 rfl place61 rfl (by first | rfl | (repeat (first | exact parts_nil | refine parts_cons rfl (by repeat (first | exact all_live_nil | refine all_live_clo rfl ?_ | refine all_live_slice rfl ?_ | refine all_live_map rfl ?_ | refine all_live_ptr rfl ?_)) ?_))) rfl) rfl (by simp) ?_
 refine al_op (op_insert_k (num n.firsts) ((-1 : Int), (0 : Int)) (g := stG) Tryz.underlying56 Tryz.underlying3 rfl rfl rfl rfl rfl rfl rfl) rfl (by simp) ?_
 refine al_op (op_move rfl) rfl (by simp) ?_
 refine al_op (op_assign rfl) rfl (by simp) ?_
 refine al_nil ?_
 refine aw_seq ?_
 refine aw_seq ?_
 refine aw_region ?_
 refine al_op (op_move rfl) rfl (by simp) ?_
 (refine al_opR (op_list_own encK [num n.firsts] 38 Tryz.underlying31 info3 rfl rfl (by decide) rfl (by decide) rfl (by first | rfl | (repeat (first | exact parts_nil | refine parts_cons rfl (by repeat (first | exact all_live_nil | refine all_live_clo rfl ?_ | refine all_live_slice rfl ?_ | refine all_live_map rfl ?_ | refine all_live_ptr rfl ?_)) ?_))) rfl rfl (by first | rfl | (repeat (first | exact parts_nil | refine parts_cons rfl (by repeat (first | exact all_live_nil | refine all_live_clo rfl ?_ | refine all_live_slice rfl ?_ | refine all_live_map rfl ?_ | refine all_live_ptr rfl ?_)) ?_))) rfl rfl) rfl (by simp) ?_; rintro _ _ ⟨ver18, rfl, rfl⟩)
 refine al_op (op_assign rfl) rfl (by simp) ?_
 refine al_nil ?_
 refine aw_block ?_
 apply aw_only
 ·
  (first | apply sub_cons (t := 1) rfl | skip)
  (first | apply sub_cons (t := 2) rfl | skip)
  (first | apply sub_cons (t := 4) rfl | skip)
  (first | apply sub_cons (t := 5) rfl | skip)
  exact sub_nil
 refine aw_for3T (α := Nat) (β := Nat) (γ := List Nat) [5] [28] (fun k ver pre => meas n (n.bfsN k)) (fun k ver pre => BK n k) (fun k ver pre => ([(5, .slice 38 ver pre.length (n.bfsN k).2.length)] : Env)) (fun k ver pre st => ([(21, ver1, .row 4 [[.list 1 (n.ins.map encS), .list 3 (n.regs.map encR), .list 2 (n.gates.map encG), .list 2 (n.outs.map encP)]]), (0, ver13, .map (kEnts stG (n.bfsN k).1)), (38, ver, .row 1 ((pre ++ (n.bfsN k).2).map encK))] : Store)) (0) (ver18) ([]) ?_ ?_ ?_ (fun k ver pre hinv => ?_)
 ·exact bk_zero hb0
 ·refine sub_cons (get_as rfl ?_) ?_; rotate_left; exact sub_nil
  all_goals (rfl)
 ·rfl
 refine aw_seq ?_
 refine aw_seq ?_
 refine aw_region ?_
 refine al_op (op_move rfl) rfl (by simp) ?_
 first
   | refine al_op (op_len_map Tryz.underlying31 rfl) rfl (by simp) ?_
   | refine al_op (op_len_slice Tryz.underlying31 rfl rfl) rfl (by simp) ?_
   | refine al_op (op_len_list Tryz.underlying31 rfl) rfl (by simp) ?_
   | refine al_op (op_len_v Tryz.underlying31 rfl) rfl (by simp) ?_
   | refine al_op (op_len_nil Tryz.underlying31 rfl) rfl (by simp) ?_
 refine al_op (op_gtr rfl rfl) rfl (by simp) ?_
 refine al_nil ?_
 refine aw_cond rfl (fun h1 => ?_) (fun h1 => ?_)
 ·have gh1 := h1
  try simp only [nrm] at h1
  refine aw_skip ?_
  refine aw_seq ?_
  refine aw_block ?_
  refine aw_seq ?_
  have hbk : BK n k := hinv
  have hbk2 : k + meas n (n.bfsN k) ≤ 2 * n.states := hinv
  have hq : (n.bfsN k).2 ≠ [] := List.ne_nil_of_length_pos (by omega)
  have hs3 : (pre ++ (n.bfsN k).2).length = _ := List.length_append
  have hbi := Net.bfs_inv hb0 k
  have hs0 : (pre ++ (n.bfsN k).2).getD (pre.length + (0 : Int).toNat) default = (headQ (n.bfsN k)) := getD_pre
  have hs1 : (headQ (n.bfsN k)) < n.states := hbi.q _ (getD_mem (List.length_pos_iff.2 hq))
  have hs2 : (pre ++ (n.bfsN k).2).getD (pre.length + (0 : Int).toNat) default ≤ 4096 := by omega
  refine aw_any (Checked.mixed Tryz.checked) ?_
  apply aany_seg (p := 0) (q := 7) (by kernel_rfl) rfl (by decide)
  ·
   first
     | apply ql_plain rfl (op_load_rptr Tryz.underlying27 info27 rfl rfl)
     | apply ql_plain rfl (op_load_map Tryz.underlying27 info27 rfl rfl (by omega) rfl)
     | apply ql_plain rfl (op_load_ptr Tryz.underlying27 info27 rfl rfl rfl rfl)
   apply ql_plain rfl (op_move rfl)
   first
     | apply ql_plain rfl (op_index_map default Tryz.underlying31 info3 rfl rfl rfl (by first | (with_reducible exact Int.toNat_natCast _) | rfl) (by omega) (by omega))
     | apply ql_plain rfl (op_index_slice Tryz.underlying31 info3 rfl rfl rfl rfl (by omega) (by omega))
     | apply ql_plain rfl (op_index_list Tryz.underlying31 info3 rfl rfl rfl (by decide) rfl)
   first
     | apply ql_plain rfl (op_load_rptr Tryz.underlying3 info3 rfl rfl)
     | apply ql_plain rfl (op_load_map Tryz.underlying3 info3 rfl rfl (by omega) rfl)
     | apply ql_plain rfl (op_load_ptr Tryz.underlying3 info3 rfl rfl rfl rfl)
   first
     | apply ql_call into47 rfl rfl rfl ((n_nexts _ (by assumption) (by assumption) _ (by omega) (by omega)) _)
     | apply ql_call into47 rfl rfl rfl (ac_told (re_cons (by first | exact .leaf _ _ (.same _) | exact .leaf _ _ (.vnil _) | exact .leaf _ _ (.nil _)) (re_cons (by first | exact .leaf _ _ (.same _) | exact .leaf _ _ (.vnil _) | exact .leaf _ _ (.nil _)) re_nil)) ((n_nexts _ (by assumption) (by assumption) _ (by omega) (by omega)) _))
   first
     | apply ql_plain rfl (op_len_map Tryz.underlying31 rfl)
     | apply ql_plain rfl (op_len_slice Tryz.underlying31 rfl rfl)
     | apply ql_plain rfl (op_len_list Tryz.underlying31 rfl)
     | apply ql_plain rfl (op_len_v Tryz.underlying31 rfl)
     | apply ql_plain rfl (op_len_nil Tryz.underlying31 rfl)
   apply ql_plain rfl (op_move rfl)
   exact ql_nil
  ·simp
  refine aany_end rfl (by kernel_rfl) ?_
  refine aw_block ?_
  refine aw_as 28 (.list 1 ((n.nexts (((headQ (n.bfsN k)) : Nat) : Int) n.many2).map encK)) rfl (by rw [hs0]) ?_
  have hnl := n.nexts_length (((headQ (n.bfsN k)) : Nat) : Int) n.many2
  have hnl2 := n.nexts_length (((pre ++ (n.bfsN k).2).getD (pre.length + (0 : Int).toNat) default : Nat) : Int) n.many2
  refine aw_for3T (α := Nat) (β := Nat) (γ := List Nat) [5, 6, 7, 8, 9, 30, 31, 32, 33, 34, 35, 36, 37, 38, 39, 40, 41, 42, 43, 44, 45, 46, 47, 48, 49, 50, 51, 52, 53, 54] [28] (fun i v p => n.many2 - i) (fun i v p => i ≤ n.many2) (fun i v p => ([(5, .slice 38 v p.length (n.visitTo (headQ (n.bfsN k)) (n.bfsN k) i).2.length), (30, .v (.int .i64 (i)))] : Env)) (fun i v p st => ([(21, ver1, .row 4 [[.list 1 (n.ins.map encS), .list 3 (n.regs.map encR), .list 2 (n.gates.map encG), .list 2 (n.outs.map encP)]]), (0, ver13, .map (kEnts stG (n.visitTo (headQ (n.bfsN k)) (n.bfsN k) i).1)), (38, v, .row 1 ((p ++ (n.visitTo (headQ (n.bfsN k)) (n.bfsN k) i).2).map encK))] : Store)) (0) (ver) (pre) ?_ ?_ ?_ (fun i v p hinv => ?_)
  ·exact Nat.zero_le _
  ·refine sub_cons (get_as rfl ?_) ?_; rotate_left; refine sub_cons (get_as rfl ?_) ?_; rotate_left; exact sub_nil
   all_goals (rfl)
  ·rfl
  refine aw_seq ?_
  refine aw_region ?_
  refine al_op (op_lss rfl rfl) rfl (by simp) ?_
  refine al_nil ?_
  refine aw_seq ?_
  refine aw_cond rfl (fun h2 => ?_) (fun h2 => ?_)
  ·have gh2 := h2
   try simp only [nrm] at h2
   refine aw_skip ?_
   refine aw_seq ?_
   refine aw_block ?_
   refine aw_seq ?_
   refine aw_region ?_
   refine al_op (op_move rfl) rfl (by simp) ?_
   first
     | refine al_op (op_index_map default Tryz.underlying31 info3 rfl rfl rfl (by first | (with_reducible exact Int.toNat_natCast _) | rfl) (by omega) (by omega)) rfl (by simp) ?_
     | refine al_op (op_index_slice Tryz.underlying31 info3 rfl rfl rfl rfl (by omega) (by omega)) rfl (by simp) ?_
     | refine al_op (op_index_list Tryz.underlying31 info3 rfl rfl rfl (by decide) rfl) rfl (by simp) ?_
   first
     | refine al_op (op_load_rptr Tryz.underlying3 info3 rfl rfl) rfl (by simp) ?_
     | refine al_op (op_load_map Tryz.underlying3 info3 rfl rfl (by omega) rfl) rfl (by simp) ?_
     | refine al_op (op_load_ptr Tryz.underlying3 info3 rfl rfl rfl rfl) rfl (by simp) ?_
   refine al_op (op_assign rfl) rfl (by simp) ?_
   refine al_op (op_assign rfl) rfl (by simp) ?_
   refine al_nil ?_
   refine aw_seq ?_
   refine aw_as 7 (.v (.int .i64 (((n.nextNum (((headQ (n.bfsN k)) : Nat) : Int) i) : Nat) : Int))) rfl (by rw [nexts_get n _ i (by omega)]) ?_
   have hvh := visitTo_head (n := n) (s := (headQ (n.bfsN k))) hq i
   have hh1 : (p ++ (n.visitTo (headQ (n.bfsN k)) (n.bfsN k) i).2).getD (p.length + (0 : Int).toNat) default = (headQ (n.bfsN k)) := getD_pre.trans hvh.1
   have hh2 := hvh.2
   have hh3 : (p ++ (n.visitTo (headQ (n.bfsN k)) (n.bfsN k) i).2).length = _ := List.length_append
   have hvb := (hbi.visitTo (headQ (n.bfsN k)) i).1.len
   have hvm := (hbi.visitTo (headQ (n.bfsN k)) i).2
   have hvl : (n.visitTo (headQ (n.bfsN k)) (n.bfsN k) i).2.length ≤ meas n (n.visitTo (headQ (n.bfsN k)) (n.bfsN k) i) := Nat.le_add_left _ _
   refine aw_region ?_
   refine al_op (op_move rfl) rfl (by simp) ?_
   refine al_op (op_move rfl) rfl (by simp) ?_
   refine al_op (op_lookup_st (n.nextNum (((headQ (n.bfsN k)) : Nat) : Int) i) Tryz.underlying56 Tryz.underlying3 info61 rfl rfl rfl rfl rfl) rfl (by simp) ?_
   refine al_op (op_move rfl) rfl (by simp) ?_
   refine al_op (op_extract rfl rfl rfl) rfl (by simp) ?_
   refine al_op (op_extract rfl rfl rfl) rfl (by simp) ?_
   (refine al_opR (op_alloc 28 info61 rfl rfl) rfl (by simp) ?_; rintro _ _ ⟨ver8, rfl, rfl⟩)
   first
     | refine al_op (op_store_ptr info61 rfl rfl rfl rfl rfl rfl (by first | rfl | exact live_one rfl | (repeat (first | exact all_live_nil | refine all_live_clo rfl ?_ | refine all_live_slice rfl ?_ | refine all_live_map rfl ?_ | refine all_live_ptr rfl ?_))) (by decide)) rfl (by simp) ?_
     | refine al_op (op_store_ptr info61 rfl rfl rfl rfl rfl rfl (by first | rfl | exact live_one rfl | (repeat (first | exact all_live_nil | refine all_live_clo rfl ?_ | refine all_live_slice rfl ?_ | refine all_live_map rfl ?_ | refine all_live_ptr rfl ?_))) (Nat.le_of_ble_eq_true rfl)) rfl (by simp) ?_
   refine al_op (op_assign rfl) rfl (by simp) ?_
   refine al_nil ?_
   refine aw_seq ?_
   refine aw_region ?_
   refine al_op (op_move rfl) rfl (by simp) ?_
   refine al_op (op_not rfl) rfl (by simp) ?_
   refine al_nil ?_
   refine aw_cond rfl (fun h3 => ?_) (fun h3 => ?_)
   ·have gh3 := h3
    try simp only [nrm] at h3
    refine aw_seq ?_
    have hnew0 : (kFind (n.nextNum (((headQ (n.bfsN k)) : Nat) : Int) i) (n.visitTo (headQ (n.bfsN k)) (n.bfsN k) i).1).isSome = false := by assumption
    have hnew : kFind (n.nextNum (((headQ (n.bfsN k)) : Nat) : Int) i) (n.visitTo (headQ (n.bfsN k)) (n.bfsN k) i).1 = none := by simpa using hnew0
    refine aw_region ?_
    refine al_op (op_move rfl) rfl (by simp) ?_
    refine al_op (op_move rfl) rfl (by simp) ?_
    refine al_op (op_move rfl) rfl (by simp) ?_
    first
      | refine al_op (op_index_map default Tryz.underlying31 info3 rfl rfl rfl (by first | (with_reducible exact Int.toNat_natCast _) | rfl) (by omega) (by omega)) rfl (by simp) ?_
      | refine al_op (op_index_slice Tryz.underlying31 info3 rfl rfl rfl rfl (by omega) (by omega)) rfl (by simp) ?_
      | refine al_op (op_index_list Tryz.underlying31 info3 rfl rfl rfl (by decide) rfl) rfl (by simp) ?_
    first
      | refine al_op (op_load_rptr Tryz.underlying3 info3 rfl rfl) rfl (by simp) ?_
      | refine al_op (op_load_map Tryz.underlying3 info3 rfl rfl (by omega) rfl) rfl (by simp) ?_
      | refine al_op (op_load_ptr Tryz.underlying3 info3 rfl rfl rfl rfl) rfl (by simp) ?_
    refine al_op (op_move rfl) rfl (by simp) ?_
    refine al_op (op_build_struct Tryz.underlying61 info61 rfl place61 rfl (by first | rfl | (repeat (first | exact parts_nil | refine parts_cons rfl (by repeat (first | exact all_live_nil | refine all_live_clo rfl ?_ | refine all_live_slice rfl ?_ | refine all_live_map rfl ?_ | refine all_live_ptr rfl ?_)) ?_))) rfl) rfl (by simp) ?_
    refine al_op (op_update_k (n.nextNum (((headQ (n.bfsN k)) : Nat) : Int) i) ((((headQ (n.bfsN k)) : Nat) : Int), (i : Int)) (g := stG) Tryz.underlying56 Tryz.underlying3 rfl rfl rfl rfl rfl (by rw [hh1]; rfl) rfl hnew) rfl (by simp) ?_
    refine al_nil ?_
    refine aw_region ?_
    refine al_op (op_move rfl) rfl (by simp) ?_
    refine al_op (op_move rfl) rfl (by simp) ?_
    refine al_op (op_buildSlice Tryz.underlying31 info3 rfl rfl (by decide) rfl (by decide) rfl (by first | rfl | (repeat (first | exact parts_nil | refine parts_cons rfl (by repeat (first | exact all_live_nil | refine all_live_clo rfl ?_ | refine all_live_slice rfl ?_ | refine all_live_map rfl ?_ | refine all_live_ptr rfl ?_)) ?_))) rfl rfl rfl) rfl (by simp) ?_
    (refine al_opR (op_append_q (pre := p) (q := (n.visitTo (headQ (n.bfsN k)) (n.bfsN k) i).2) (f := encK) (n.nextNum (((headQ (n.bfsN k)) : Nat) : Int) i) Tryz.underlying31 Tryz.underlying31 rfl info3 rfl rfl (by decide) rfl rfl rfl rfl rfl hh2 rfl (.list _) rfl (by omega) (by show _ * 8 ≤ _; omega)) rfl (by simp) ?_; rintro _ _ ⟨ver53, pre53, rfl, rfl⟩)
    refine al_op (op_assign rfl) rfl (by simp) ?_
    refine al_nil ?_
    refine aw_region ?_
    refine al_op (op_add rfl rfl (by first | exact wrap_i64 (by omega) (by omega))) rfl (by simp) ?_
    refine al_op (op_move rfl) rfl (by simp) ?_
    refine al_nil ?_
    refine ⟨i + 1, ver53, pre53, ?_, ?_, ?_, ?_, ?_⟩
    ·omega
    ·omega
    ·refine sub_cons (get_as rfl ?_) ?_; rotate_left; refine sub_cons (get_as rfl ?_) ?_; rotate_left; exact sub_nil
     all_goals (first | rfl | (rw [visitTo_new (by assumption)]; done) | (rw [visitTo_old (by assumption)]; done) | (rw [visitTo_new (by assumption)]; rfl) | (rw [visitTo_old (by assumption)]; rfl) | simp)
    ·repeat (first | exact subx_refl | exact subx_del | refine subx_put rfl ?_)
    ·first | (rw [visitTo_new (by assumption)] <;> rfl) | (rw [visitTo_old (by assumption)] <;> rfl)
   ·have gh3 := h3
    try simp only [nrm] at h3
    refine aw_skip ?_
    refine aw_region ?_
    refine al_op (op_add rfl rfl (by first | exact wrap_i64 (by omega) (by omega))) rfl (by simp) ?_
    refine al_op (op_move rfl) rfl (by simp) ?_
    refine al_nil ?_
    refine ⟨i + 1, v, p, ?_, ?_, ?_, ?_, ?_⟩
    ·omega
    ·omega
    ·refine sub_cons (get_as rfl ?_) ?_; rotate_left; refine sub_cons (get_as rfl ?_) ?_; rotate_left; exact sub_nil
     all_goals (first | rfl | (rw [visitTo_new (by assumption)]; done) | (rw [visitTo_old (by assumption)]; done) | (rw [visitTo_new (by assumption)]; rfl) | (rw [visitTo_old (by assumption)]; rfl) | simp)
    ·repeat (first | exact subx_refl | exact subx_del | refine subx_put rfl ?_)
    ·first | (rw [visitTo_new (by assumption)] <;> rfl) | (rw [visitTo_old (by assumption)] <;> rfl)
  ·have gh2 := h2
   try simp only [nrm] at h2
   refine aw_exit ?_
   obtain rfl : i = n.many2 := by omega
   have hvh := visitTo_head (n := n) (s := (headQ (n.bfsN k))) hq n.many2
   have hcut := head_drop hvh
   refine aw_region ?_
   refine al_op (op_move rfl) rfl (by simp) ?_
   refine al_op (op_cut_slice (l := 1) (h := (n.visitTo (headQ (n.bfsN k)) (n.bfsN k) n.many2).2.length) Tryz.underlying31 info3 rfl rfl rfl (OptI.of rfl rfl) OptI.none (by omega) (by omega)) rfl (by simp) ?_
   refine al_op (op_assign rfl) rfl (by simp) ?_
   refine al_nil ?_
   refine ⟨k + 1, v, p ++ [(headQ (n.bfsN k))], ?_, ?_, ?_, ?_, ?_⟩
   ·(have := (hbi.bstep hq).2; show meas n (n.bstep (n.bfsN k)) < meas n (n.bfsN k); omega)
   ·exact bk_succ hb0 hbk hq
   ·refine sub_cons (get_as rfl ?_) ?_; rotate_left; exact sub_nil
    all_goals (first | rfl | (rw [Net.bfsN_succ hq]; simp; done))
   ·repeat (first | exact subx_refl | exact subx_del | refine subx_put rfl ?_)
   ·(rw [Net.bfsN_succ hq]; show _ = ([(21, ver1, .row 4 [[.list 1 (n.ins.map encS), .list 3 (n.regs.map encR), .list 2 (n.gates.map encG), .list 2 (n.outs.map encP)]]), (0, ver13, .map (kEnts stG (n.visitTo (headQ (n.bfsN k)) (n.bfsN k) n.many2).1)), (38, v, .row 1 (((p ++ [(headQ (n.bfsN k))]) ++ (n.visitTo (headQ (n.bfsN k)) (n.bfsN k) n.many2).2.drop 1).map encK))] : Store); rw [List.append_assoc, List.singleton_append, ← hcut]; rfl)
 ·have gh1 := h1
  try simp only [nrm] at h1
  refine aw_exit ?_
  have hq0 : (n.bfsN k).2 = [] := by apply List.eq_nil_of_length_eq_zero; omega
  have hkb : k ≤ 2 * n.states := by unfold BK at hinv; omega
  have hend := Net.bfs_end hq0 hkb
  refine aw_seq ?_
  refine aw_region ?_
  refine al_op (op_move rfl) rfl (by simp) ?_
  refine al_op (op_assign rfl) rfl (by simp) ?_
  refine al_nil ?_
  refine aw_ret ?_
  refine ⟨_, res_1 rfl rfl, ?_⟩
  exact ⟨ver13, rfl, by rw [← hend]; rfl⟩
theorem kEnts_rn {ρ : Nat → Nat} (m : Met) : (AObj.map (kEnts stG m)).rn ρ = .map (kEnts stG m) := by
  show AObj.map ((kEnts stG m).map fun e => (e.1, e.2.rnA ρ)) = _
  unfold kEnts
  rw [List.map_map]
  congr 1
theorem search_at {σ : Store} (m : Nat) (n : Net) (hr : n.Ready) (ht : tabOK [m] = true) (hb : σ.below 1000 = true) (hf : Store.free [m] [] σ = true) : AC Tryz.prog 22 [encN n] σ (fun x σ' => ∃ ver, x = .ret (.map m ver) ∧ σ' = σ.put m ver (.map (kEnts stG n.bfs))) := by
  have hc : AC Tryz.prog 22 [encN n] [] (fun x σ' => ∃ ver, x = .ret (.map 0 ver) ∧ σ' = [(0, ver, .map (kEnts stG n.bfs))]) := ac_mono (ac_keep (fun i => Nat.beq i 0) (q_search n hr)) (by rintro x σ' ⟨σ2, ⟨ver, rfl, hk⟩, rfl⟩; exact ⟨ver, rfl, hk⟩)
  have := ac_at (σ := σ) [m] ht hc trivial hf hb (by rintro r σ' _ j _; rfl)
  refine ac_mono this ?_
  rintro x σ' ⟨_, _, ⟨ver, rfl, rfl⟩, rfl, rfl⟩
  refine ⟨ver, rfl, ?_⟩
  simp only [Store.putAll, kEnts_rn]
  rfl

theorem c_fit4 (n : Net) (hn : n.Small) : ACp Tryz.prog 21 [encN n] (.v (.int .i64 (n.fitE))) := by
 refine acp_of rfl ?_
 refine ac_enter 11 Tryz.func21 rfl rfl (by simp) ?_
 refine aw_seq ?_
 refine aw_region ?_
 (refine al_opR (op_box 1 rfl rfl (by first | rfl | exact live_one rfl | (repeat (first | exact all_live_nil | refine all_live_clo rfl ?_ | refine all_live_slice rfl ?_ | refine all_live_map rfl ?_ | refine all_live_ptr rfl ?_)))) rfl (by simp) ?_; rintro _ _ ⟨ver1, rfl, rfl⟩)
 refine al_op (op_assign rfl) rfl (by simp) ?_
 refine al_nil ?_
 refine aw_seq ?_
 refine aw_block ?_
 refine aw_seq ?_
 refine aw_region ?_
 first
   | refine al_op (op_load_rptr Tryz.underlying27 info27 rfl rfl) rfl (by simp) ?_
   | refine al_op (op_load_map Tryz.underlying27 info27 rfl rfl (by omega) rfl) rfl (by simp) ?_
   | refine al_op (op_load_ptr Tryz.underlying27 info27 rfl rfl rfl rfl) rfl (by simp) ?_
 first
   | refine al_callp into32 rfl rfl rfl ((c_valid _ (by assumption)) _) (by simp) ?_
   | refine al_callp into32 rfl rfl rfl (acp_lent (lend_cons (by first | exact lend_same | exact .leaf _ _ (.vnil _) | exact .leaf _ _ (.nil _) | exact lend_whole rfl (by first | rfl | (simp; done) | (simp; omega)) (clo_map (fun _ => rfl)) | exact lend_netg (by first | exact .same _ | exact lendL_vnil | exact lendL_whole rfl (by first | rfl | (simp; done) | (simp; omega)) (clo_map (fun _ => rfl))) (by first | exact .same _ | exact lendL_vnil | exact lendL_whole rfl (by first | rfl | (simp; done) | (simp; omega)) (clo_map (fun _ => rfl))) (by first | exact .same _ | exact lendL_vnil | exact lendL_whole rfl (by first | rfl | (simp; done) | (simp; omega)) (clo_map (fun _ => rfl))) (by first | exact .same _ | exact lendL_vnil | exact lendL_whole rfl (by first | rfl | (simp; done) | (simp; omega)) (clo_map (fun _ => rfl)))) lend_nil) (c_valid _ (by assumption)) rfl) (by simp) ?_
 refine al_op (op_not rfl) rfl (by simp) ?_
 refine al_op (op_assign rfl) rfl (by simp) ?_
 refine al_nil ?_
 refine aw_cond rfl (fun h1 => ?_) (fun h1 => ?_)
 ·have gh1 := h1
  try simp only [nrm] at h1
  refine aw_seq ?_
  refine aw_region ?_
  refine al_op (op_assign rfl) rfl (by simp) ?_
  refine al_nil ?_
  refine aw_freeze (fun _ => false) (fsub_cons (t := 2) rfl (.leaf _ _ (.same _)) fsub_nil) ?_
  refine aw_ret ?_
  refine ⟨_, res_1 rfl rfl, ?_, rfl⟩
  rw [Net.fitE, if_neg (by simpa using gh1)]
 ·have gh1 := h1
  try simp only [nrm] at h1
  refine aw_seq ?_
  refine aw_region ?_
  first
    | refine al_op (op_load_rptr Tryz.underlying27 info27 rfl rfl) rfl (by simp) ?_
    | refine al_op (op_load_map Tryz.underlying27 info27 rfl rfl (by omega) rfl) rfl (by simp) ?_
    | refine al_op (op_load_ptr Tryz.underlying27 info27 rfl rfl rfl rfl) rfl (by simp) ?_
  first
    | refine al_callp into35 rfl rfl rfl ((c_small _ (by assumption)) _) (by simp) ?_
    | refine al_callp into35 rfl rfl rfl (acp_lent (lend_cons (by first | exact lend_same | exact .leaf _ _ (.vnil _) | exact .leaf _ _ (.nil _) | exact lend_whole rfl (by first | rfl | (simp; done) | (simp; omega)) (clo_map (fun _ => rfl)) | exact lend_netg (by first | exact .same _ | exact lendL_vnil | exact lendL_whole rfl (by first | rfl | (simp; done) | (simp; omega)) (clo_map (fun _ => rfl))) (by first | exact .same _ | exact lendL_vnil | exact lendL_whole rfl (by first | rfl | (simp; done) | (simp; omega)) (clo_map (fun _ => rfl))) (by first | exact .same _ | exact lendL_vnil | exact lendL_whole rfl (by first | rfl | (simp; done) | (simp; omega)) (clo_map (fun _ => rfl))) (by first | exact .same _ | exact lendL_vnil | exact lendL_whole rfl (by first | rfl | (simp; done) | (simp; omega)) (clo_map (fun _ => rfl)))) lend_nil) (c_small _ (by assumption)) rfl) (by simp) ?_
  refine al_op (op_not rfl) rfl (by simp) ?_
  refine al_op (op_assign rfl) rfl (by simp) ?_
  refine al_nil ?_
  refine aw_cond rfl (fun h2 => ?_) (fun h2 => ?_)
  ·have gh2 := h2
   try simp only [nrm] at h2
   refine aw_seq ?_
   refine aw_region ?_
   refine al_op (op_assign rfl) rfl (by simp) ?_
   refine al_nil ?_
   refine aw_freeze (fun _ => false) (fsub_cons (t := 2) rfl (.leaf _ _ (.same _)) fsub_nil) ?_
   refine aw_ret ?_
   refine ⟨_, res_1 rfl rfl, ?_, rfl⟩
   rw [Net.fitE, if_pos (by simpa using gh1), if_neg (by simpa using gh2)]
  ·have gh2 := h2
   try simp only [nrm] at h2
   refine aw_skip ?_
   refine aw_seq ?_
   refine aw_region ?_
   refine al_op (op_assign rfl) rfl (by simp) ?_
   refine al_nil ?_
   refine aw_freeze (fun _ => false) (fsub_cons (t := 2) rfl (.leaf _ _ (.same _)) fsub_nil) ?_
   refine aw_ret ?_
   refine ⟨_, res_1 rfl rfl, ?_, rfl⟩
   rw [Net.fitE, if_pos (by simpa using gh1), if_pos (by simpa using gh2)]

theorem c_Reach (n : Net) (hn : n.Small) : ACp Tryz.prog 6 [encN n] (.tuple [.list 1 (n.reach.1.map encI), .v (.int .i64 (n.reach.2))]) := by
 refine acp_of rfl ?_
 refine ac_enter 26 Tryz.func6 rfl rfl (by simp) ?_
 refine aw_seq ?_
 refine aw_region ?_
 (refine al_opR (op_box 1 rfl rfl (by first | rfl | exact live_one rfl | (repeat (first | exact all_live_nil | refine all_live_clo rfl ?_ | refine all_live_slice rfl ?_ | refine all_live_map rfl ?_ | refine all_live_ptr rfl ?_)))) rfl (by simp) ?_; rintro _ _ ⟨ver1, rfl, rfl⟩)
 refine al_op (op_assign rfl) rfl (by simp) ?_
 refine al_op (op_assign rfl) rfl (by simp) ?_
 refine al_nil ?_
 refine aw_seq ?_
 refine aw_seq ?_
 refine aw_region ?_
 first
   | refine al_op (op_load_rptr Tryz.underlying27 info27 rfl rfl) rfl (by simp) ?_
   | refine al_op (op_load_map Tryz.underlying27 info27 rfl rfl (by omega) rfl) rfl (by simp) ?_
   | refine al_op (op_load_ptr Tryz.underlying27 info27 rfl rfl rfl rfl) rfl (by simp) ?_
 first
   | refine al_callp into21 rfl rfl rfl ((c_fit4 _ (by assumption)) _) (by simp) ?_
   | refine al_callp into21 rfl rfl rfl (acp_lent (lend_cons (by first | exact lend_same | exact .leaf _ _ (.vnil _) | exact .leaf _ _ (.nil _) | exact lend_whole rfl (by first | rfl | (simp; done) | (simp; omega)) (clo_map (fun _ => rfl)) | exact lend_netg (by first | exact .same _ | exact lendL_vnil | exact lendL_whole rfl (by first | rfl | (simp; done) | (simp; omega)) (clo_map (fun _ => rfl))) (by first | exact .same _ | exact lendL_vnil | exact lendL_whole rfl (by first | rfl | (simp; done) | (simp; omega)) (clo_map (fun _ => rfl))) (by first | exact .same _ | exact lendL_vnil | exact lendL_whole rfl (by first | rfl | (simp; done) | (simp; omega)) (clo_map (fun _ => rfl))) (by first | exact .same _ | exact lendL_vnil | exact lendL_whole rfl (by first | rfl | (simp; done) | (simp; omega)) (clo_map (fun _ => rfl)))) lend_nil) (c_fit4 _ (by assumption)) rfl) (by simp) ?_
 refine al_op (op_assign rfl) rfl (by simp) ?_
 refine al_nil ?_
 refine aw_seq ?_
 refine aw_region ?_
 refine al_op (op_move rfl) rfl (by simp) ?_
 refine al_op (op_neq rfl rfl) rfl (by simp) ?_
 refine al_nil ?_
 refine aw_cond rfl (fun h1 => ?_) (fun h1 => ?_)
 ·have gh1 := h1
  try simp only [nrm] at h1
  refine aw_seq ?_
  refine aw_region ?_
  refine al_op (op_move rfl) rfl (by simp) ?_
  refine al_op (op_assign rfl) rfl (by simp) ?_
  refine al_op (op_assign rfl) rfl (by simp) ?_
  refine al_nil ?_
  refine aw_freeze (fun _ => false) (fsub_cons (t := 2) rfl (by first | exact .leaf _ _ (frz_whole rfl rfl (by first | rfl | (simp; done) | (simp; omega)) (clo_map (fun _ => rfl))) | exact .leaf _ _ (.vnil 1) | exact .leaf _ _ (.nil 1) | exact .leaf _ _ (.same _)) (fsub_cons (t := 3) rfl (.leaf _ _ (.same _)) fsub_nil)) ?_
  refine aw_ret ?_
  refine ⟨_, res_2 rfl rfl rfl rfl rfl, ?_, rfl⟩
  rw [Net.reach, if_neg (by simpa using gh1)] <;> rfl
 ·have gh1 := h1
  try simp only [nrm] at h1
  have hfe : n.fitE = 0 := by simpa using gh1
  have hrd := Net.fit_ready hn hfe
  obtain ⟨hbp, hbl⟩ := Net.bfs_pos hrd
  have hsl := Net.states_le hrd.r
  have hkl := keysV_length n
  refine aw_skip ?_
  refine aw_seq ?_
  refine aw_region ?_
  refine al_op (op_assign rfl) rfl (by simp) ?_
  refine al_nil ?_
  refine aw_seq ?_
  refine aw_seq ?_
  refine aw_region ?_
  first
    | refine al_op (op_load_rptr Tryz.underlying27 info27 rfl rfl) rfl (by simp) ?_
    | refine al_op (op_load_map Tryz.underlying27 info27 rfl rfl (by omega) rfl) rfl (by simp) ?_
    | refine al_op (op_load_ptr Tryz.underlying27 info27 rfl rfl rfl rfl) rfl (by simp) ?_
  (refine al_call into22 rfl rfl rfl (search_at 13 n hrd rfl rfl rfl) (by simp) ?_; rintro _ _ ⟨ver13, rfl, rfl⟩)
  (refine al_opR (op_range 14 Tryz.underlying56 rfl rfl) rfl (by simp) ?_; rintro _ _ ⟨ver14, rfl, rfl⟩)
  refine al_nil ?_
  refine aw_block ?_
  refine aw_own_map encI 5 1 5 rfl rfl (fun ver5 => ?_)
  refine aw_for2T (α := List Nat) (β := Nat) [5] [] (fun seen ver => n.bfs.length - seen.length) (fun seen ver => seen.Nodup ∧ ∀ i ∈ seen, i < n.bfs.length) (fun seen ver => ([(5, .slice 5 ver 0 (seen.map (keyAt n)).length)] : Env)) (fun seen ver st => ([(1, ver1, .row 4 [[.list 1 (n.ins.map encS), .list 3 (n.regs.map encR), .list 2 (n.gates.map encG), .list 2 (n.outs.map encP)]]), (14, ver14, .iter (keysV n) seen), (5, ver, .row 1 ((seen.map (keyAt n)).map encI))] : Store)) ([]) (ver5) ?_ ?_ ?_ (fun seen ver hinv => ?_)
  ·exact ⟨List.nodup_nil, by simp⟩
  ·refine sub_cons (get_as rfl ?_) ?_; rotate_left; exact sub_nil
   all_goals (first | rfl | (rw [List.map_append]; rfl) | simp)
  ·rfl
  have hsn : seen.length ≤ n.bfs.length := nodup_lt _ _ hinv.1 hinv.2
  refine aw_seq ?_
  refine aw_region ?_
  (refine al_opR (op_next2 rfl rfl) rfl (by simp) ?_; rintro _ _ ⟨b15, rest15, more15, rfl, rfl, hf15, ht15⟩)
  refine al_op (op_extract rfl rfl rfl) rfl (by simp) ?_
  refine al_nil ?_
  refine aw_seq ?_
  refine aw_cond rfl (fun h2 => ?_) (fun h2 => ?_)
  ·have gh2 := h2
   try simp only [nrm] at h2
   refine aw_skip ?_
   refine aw_block ?_
   refine aw_seq ?_
   obtain ⟨i15, k15, rfl, hni, hki⟩ := ht15 (by assumption)
   obtain ⟨hib, rfl⟩ := keysV_get hki
   refine aw_region ?_
   (refine al_opR (op_entry rfl rfl hki) rfl (by simp) ?_; rintro _ _ ⟨y17, rfl, rfl⟩)
   refine al_op (op_extract rfl rfl rfl) rfl (by simp) ?_
   refine al_op (op_assign rfl) rfl (by simp) ?_
   refine al_nil ?_
   refine aw_region ?_
   refine al_op (op_move rfl) rfl (by simp) ?_
   refine al_op (op_move rfl) rfl (by simp) ?_
   refine al_op (op_buildSlice Tryz.underlying31 info3 rfl rfl (by decide) rfl (by decide) rfl (by first | rfl | (repeat (first | exact parts_nil | refine parts_cons rfl (by repeat (first | exact all_live_nil | refine all_live_clo rfl ?_ | refine all_live_slice rfl ?_ | refine all_live_map rfl ?_ | refine all_live_ptr rfl ?_)) ?_))) rfl rfl rfl) rfl (by simp) ?_
   first
     | (refine al_opR (op_append_one (keyAt n i15) Tryz.underlying31 Tryz.underlying31 rfl info3 rfl rfl (by decide) rfl rfl rfl (by first | rfl | simp) rfl rfl (by first | omega | (simp; done) | (simp; omega)) (by show _ * 8 ≤ _; first | omega | (simp; done) | (simp; omega))) rfl (by simp) ?_; rintro _ _ ⟨ver22, rfl, rfl⟩)
     | (refine al_opR (op_append_map Tryz.underlying31 Tryz.underlying31 rfl info3 rfl rfl (by decide) rfl rfl rfl (by first | rfl | simp) rfl (by first | exact .list _ | exact .vnil | exact .nil | exact .row _ _ _ _ rfl (by first | rfl | simp)) rfl (by first | omega | (simp; done) | (simp; omega)) (by show _ * 8 ≤ _; first | omega | (simp; done) | (simp; omega))) rfl (by simp) ?_; rintro _ _ ⟨ver22, rfl, rfl⟩)
   refine al_op (op_assign rfl) rfl (by simp) ?_
   refine al_nil ?_
   refine ⟨seen ++ [i15], ver22, ?_, ?_, ?_, ?_, ?_⟩
   ·(have h9 := nodup_lt n.bfs.length (seen ++ [i15]) (by rw [List.nodup_append]; exact ⟨hinv.1, by simp, fun a ha b hb e => by simp at hb; subst hb e; exact hni ha⟩) (by intro i hi; rcases List.mem_append.1 hi with h | h; exact hinv.2 i h; simp at h; omega); rw [List.length_append, List.length_singleton] at *; omega)
   ·exact ⟨by rw [List.nodup_append]; exact ⟨hinv.1, by simp, fun a ha b hb e => by simp at hb; subst hb e; exact hni ha⟩, fun i hi => by rcases List.mem_append.1 hi with h | h; exact hinv.2 i h; simp at h; omega⟩
   ·refine sub_cons (get_as rfl ?_) ?_; rotate_left; exact sub_nil
    all_goals (first | rfl | (rw [List.map_append]; rfl) | simp)
   ·repeat (first | exact subx_refl | exact subx_del | refine subx_put rfl ?_)
   ·(have h9 : (seen ++ [i15]).map (keyAt n) = seen.map (keyAt n) ++ [keyAt n i15] := List.map_append; rw [h9] <;> rfl)
  ·have gh2 := h2
   try simp only [nrm] at h2
   refine aw_exit ?_
   refine aw_seq ?_
   obtain ⟨rfl, hall⟩ := hf15 (by assumption)
   have hsm : seen.length ≤ n.bfs.length := by have := (nodup_perm hinv.1 hinv.2 (fun i hi => hall i (by omega))).length_eq; rw [List.length_range] at this; omega
   have hsm2 : seen.length = n.bfs.length := by have := (nodup_perm hinv.1 hinv.2 (fun i hi => hall i (by omega))).length_eq; rw [List.length_range] at this; omega
   have hml : (seen.map (keyAt n)).length = seen.length := List.length_map _
   have hso := sortI_length (seen.map (keyAt n))
   have hso2 : (sortI (seen.map (keyAt n))).length = seen.length := by omega
   refine aw_region ?_
   refine al_op (op_move rfl) rfl (by simp) ?_
   (refine al_call into23 rfl rfl rfl (sort_at 5 ver (seen.map (keyAt n)) (by omega) (by omega) rfl rfl rfl) (by simp) ?_; rintro _ _ ⟨rfl, rfl⟩)
   refine al_nil ?_
   refine aw_seq ?_
   refine aw_region ?_
   refine al_op (op_move rfl) rfl (by simp) ?_
   refine al_op (op_assign rfl) rfl (by simp) ?_
   refine al_op (op_assign rfl) rfl (by simp) ?_
   refine al_nil ?_
   refine aw_freeze (fun _ => false) (fsub_cons (t := 2) rfl (by first | exact .leaf _ _ (frz_whole rfl rfl (by first | rfl | (simp; done) | (simp; omega)) (clo_map (fun _ => rfl))) | exact .leaf _ _ (.vnil 1) | exact .leaf _ _ (.nil 1) | exact .leaf _ _ (.same _)) (fsub_cons (t := 3) rfl (.leaf _ _ (.same _)) fsub_nil)) ?_
   refine aw_ret ?_
   refine ⟨_, res_2 rfl rfl rfl rfl rfl, ?_, rfl⟩
   rw [Net.reach, if_pos hfe, ← reach_keys hinv.1 hinv.2 hall] <;> rfl

theorem q_rev (v0 : Nat) (l : List (List Int)) (hl : l.length ≤ 100000) : AC Tryz.prog 28 [.slice 0 v0 0 l.length] ([(0, v0, .row 1 (l.map encL))]) (fun r σ' => r = .ret (.tuple []) ∧ σ' = [(0, v0, .row 1 (l.reverse.map encL))]) := by
 refine ac_enter 28 Tryz.func28 rfl rfl (by simp) ?_
 refine aw_seq ?_
 refine aw_region ?_
 refine al_op (op_move rfl) rfl (by simp) ?_
 first
   | refine al_op (op_len_map Tryz.underlying35 rfl) rfl (by simp) ?_
   | refine al_op (op_len_slice Tryz.underlying35 rfl rfl) rfl (by simp) ?_
   | refine al_op (op_len_list Tryz.underlying35 rfl) rfl (by simp) ?_
   | refine al_op (op_len_v Tryz.underlying35 rfl) rfl (by simp) ?_
   | refine al_op (op_len_nil Tryz.underlying35 rfl) rfl (by simp) ?_
 refine al_op (op_sub rfl rfl (by first | exact wrap_i64 (by omega) (by omega))) rfl (by simp) ?_
 refine al_op (op_assign rfl) rfl (by simp) ?_
 refine al_op (op_assign rfl) rfl (by simp) ?_
 refine al_nil ?_
 refine aw_block ?_
 refine aw_for2T (α := Nat) (β := List (List Int)) [2, 3] [] (fun i cur => l.length - i) (fun i cur => RevInv l cur i ∧ i ≤ l.length) (fun i cur => ([(2, .v (.int .i64 (i))), (3, .v (.int .i64 ((l.length : Int) - 1 - (i : Int))))] : Env)) (fun i cur st => ([(0, v0, .row 1 (cur.map encL))] : Store)) (0) (l) ?_ ?_ ?_ (fun i cur hinv => ?_)
 ·exact ⟨rev_zero l, Nat.zero_le _⟩
 ·refine sub_cons (get_as rfl ?_) ?_; rotate_left; refine sub_cons (get_as rfl ?_) ?_; rotate_left; exact sub_nil
  all_goals (first | rfl | (simp; done) | (congr 2; omega))
 ·rfl
 refine aw_seq ?_
 refine aw_seq ?_
 refine aw_region ?_
 refine al_op (op_move rfl) rfl (by simp) ?_
 refine al_op (op_move rfl) rfl (by simp) ?_
 refine al_op (op_lss rfl rfl) rfl (by simp) ?_
 refine al_nil ?_
 refine aw_cond rfl (fun h1 => ?_) (fun h1 => ?_)
 ·have gh1 := h1
  try simp only [nrm] at h1
  refine aw_skip ?_
  refine aw_seq ?_
  refine aw_block ?_
  have hcl := hinv.1.1
  have hsl : (cur.set (0 + (i : Int).toNat) (cur.getD (0 + ((l.length : Int) - 1 - (i : Int)).toNat) default)).length = cur.length := List.length_set
  refine aw_plan [0, 1, 2, 3, 4, 5, 6, 7, 8, 9, 10, 11, 12, 13, 14, 15] (Checked.mixed Tryz.checked) (by kernel_rfl) ?_
  refine afl_float rfl rfl (opk_of (op_move rfl)) (by simp) ?_
  refine afl_float rfl rfl (opk_of (op_move rfl)) (by simp) ?_
  refine afl_float rfl rfl (opk_of (op_move rfl)) (by simp) ?_
  refine afl_float rfl rfl (opk_of (op_move rfl)) (by simp) ?_
  refine afl_float rfl rfl (opk_of (op_move rfl)) (by simp) ?_
  refine afl_float rfl rfl (opk_of (op_move rfl)) (by simp) ?_
  first
    | refine afl_float rfl rfl (opk_of (op_index_map default Tryz.underlying35 info28 rfl rfl rfl (by first | (with_reducible exact Int.toNat_natCast _) | rfl) (by omega) (by omega))) (by simp) ?_
    | refine afl_float rfl rfl (opk_of (op_index_slice Tryz.underlying35 info28 rfl rfl rfl rfl (by omega) (by omega))) (by simp) ?_
    | refine afl_float rfl rfl (opk_of (op_index_list Tryz.underlying35 info28 rfl rfl rfl (by decide) rfl)) (by simp) ?_
  first
    | refine afl_float rfl rfl (opk_of (op_load_rptr Tryz.underlying28 info28 rfl rfl)) (by simp) ?_
    | refine afl_float rfl rfl (opk_of (op_load_map Tryz.underlying28 info28 rfl rfl (by omega) rfl)) (by simp) ?_
    | refine afl_float rfl rfl (opk_of (op_load_ptr Tryz.underlying28 info28 rfl rfl rfl rfl)) (by simp) ?_
  refine afl_float rfl rfl (opk_of (op_move rfl)) (by simp) ?_
  refine afl_float rfl rfl (opk_of (op_move rfl)) (by simp) ?_
  first
    | refine afl_float rfl rfl (opk_of (op_index_map default Tryz.underlying35 info28 rfl rfl rfl (by first | (with_reducible exact Int.toNat_natCast _) | rfl) (by omega) (by omega))) (by simp) ?_
    | refine afl_float rfl rfl (opk_of (op_index_slice Tryz.underlying35 info28 rfl rfl rfl rfl (by omega) (by omega))) (by simp) ?_
    | refine afl_float rfl rfl (opk_of (op_index_list Tryz.underlying35 info28 rfl rfl rfl (by decide) rfl)) (by simp) ?_
  first
    | refine afl_float rfl rfl (opk_of (op_load_rptr Tryz.underlying28 info28 rfl rfl)) (by simp) ?_
    | refine afl_float rfl rfl (opk_of (op_load_map Tryz.underlying28 info28 rfl rfl (by omega) rfl)) (by simp) ?_
    | refine afl_float rfl rfl (opk_of (op_load_ptr Tryz.underlying28 info28 rfl rfl rfl rfl)) (by simp) ?_
  first
    | refine afl_float rfl rfl (opk_of (op_index_map default Tryz.underlying35 info28 rfl rfl rfl (by first | (with_reducible exact Int.toNat_natCast _) | rfl) (by omega) (by omega))) (by simp) ?_
    | refine afl_float rfl rfl (opk_of (op_index_slice Tryz.underlying35 info28 rfl rfl rfl rfl (by omega) (by omega))) (by simp) ?_
    | refine afl_float rfl rfl (opk_of (op_index_list Tryz.underlying35 info28 rfl rfl rfl (by decide) rfl)) (by simp) ?_
  (refine afl_eff rfl rfl (by kernel_rfl) (op_store_map (cur.getD (0 + ((l.length : Int) - 1 - (i : Int)).toNat) default) info28 rfl rfl rfl (by omega) rfl rfl rfl (Nat.le_of_ble_eq_true rfl) rfl) (by simp) ?_ ?_)
  ·
   refine loose_anc 12 rfl (by kernel_rfl) ?_
   refine loose_anc 11 rfl (by kernel_rfl) ?_
   refine loose_anc 10 rfl (by kernel_rfl) ?_
   refine loose_anc 9 rfl (by kernel_rfl) ?_
   refine loose_anc 8 rfl (by kernel_rfl) ?_
   refine loose_anc 7 rfl (by kernel_rfl) ?_
   refine loose_anc 6 rfl (by kernel_rfl) ?_
   refine loose_anc 5 rfl (by kernel_rfl) ?_
   refine loose_anc 4 rfl (by kernel_rfl) ?_
   refine loose_k rfl (opk_of (op_move rfl)) ?_
   refine loose_k rfl (opk_of (op_move rfl)) ?_
   refine loose_anc 1 rfl (by kernel_rfl) ?_
   refine loose_anc 0 rfl (by kernel_rfl) ?_
   exact loose_nil
  first
    | refine afl_float rfl rfl (opk_of (op_index_map default Tryz.underlying35 info28 rfl rfl rfl (by first | (with_reducible exact Int.toNat_natCast _) | rfl) (by omega) (by omega))) (by simp) ?_
    | refine afl_float rfl rfl (opk_of (op_index_slice Tryz.underlying35 info28 rfl rfl rfl rfl (by omega) (by omega))) (by simp) ?_
    | refine afl_float rfl rfl (opk_of (op_index_list Tryz.underlying35 info28 rfl rfl rfl (by decide) rfl)) (by simp) ?_
  (refine afl_eff rfl rfl (by kernel_rfl) (op_store_map (cur.getD (0 + (i : Int).toNat) default) info28 rfl rfl rfl (by omega) rfl rfl rfl (Nat.le_of_ble_eq_true rfl) rfl) (by simp) ?_ ?_)
  ·
   refine loose_anc 14 rfl (by kernel_rfl) ?_
   refine loose_fix rfl ?_
   refine loose_anc 12 rfl (by kernel_rfl) ?_
   refine loose_anc 11 rfl (by kernel_rfl) ?_
   refine loose_anc 10 rfl (by kernel_rfl) ?_
   refine loose_anc 9 rfl (by kernel_rfl) ?_
   refine loose_anc 8 rfl (by kernel_rfl) ?_
   refine loose_anc 7 rfl (by kernel_rfl) ?_
   refine loose_anc 6 rfl (by kernel_rfl) ?_
   refine loose_anc 5 rfl (by kernel_rfl) ?_
   refine loose_anc 4 rfl (by kernel_rfl) ?_
   refine loose_anc 3 rfl (by kernel_rfl) ?_
   refine loose_anc 2 rfl (by kernel_rfl) ?_
   refine loose_anc 1 rfl (by kernel_rfl) ?_
   refine loose_anc 0 rfl (by kernel_rfl) ?_
   exact loose_nil
  refine afl_end ?_
  refine aw_region ?_
  refine al_op (op_move rfl) rfl (by simp) ?_
  refine al_op (op_add rfl rfl (by first | exact wrap_i64 (by omega) (by omega))) rfl (by simp) ?_
  refine al_op (op_move rfl) rfl (by simp) ?_
  refine al_op (op_sub rfl rfl (by first | exact wrap_i64 (by omega) (by omega))) rfl (by simp) ?_
  refine al_op (op_assign rfl) rfl (by simp) ?_
  refine al_op (op_assign rfl) rfl (by simp) ?_
  refine al_nil ?_
  refine ⟨i + 1, revNext l cur i, ?_, ?_, ?_, ?_, ?_⟩
  ·omega
  ·exact ⟨rev_next hinv.1 (by omega), by omega⟩
  ·refine sub_cons (get_as rfl ?_) ?_; rotate_left; refine sub_cons (get_as rfl ?_) ?_; rotate_left; exact sub_nil
   all_goals (first | rfl | (simp; done) | (congr 2; omega))
  ·repeat (first | exact subx_refl | exact subx_del | refine subx_put rfl ?_)
  ·rfl
 ·have gh1 := h1
  try simp only [nrm] at h1
  refine aw_exit ?_
  obtain rfl := rev_end hinv.1 (by omega)
  refine ⟨_, res_0 rfl, ?_⟩
  exact ⟨rfl, rfl⟩
theorem rev_at {σ : Store} (i v0 : Nat) (l : List (List Int)) (hl : l.length ≤ 100000) (ht : tabOK [i] = true) (hb : σ.below 1000 = true) (h1 : σ.get i = some (v0, .row 1 (l.map encL))) :
    AC Tryz.prog 28 [.slice i v0 0 l.length] σ (fun r σ' => r = .ret (.tuple []) ∧ σ' = σ.put i v0 (.row 1 (l.reverse.map encL))) := by
  have e1 : ∀ l : List (List Int), (AObj.row 1 (l.map encL)).rn (tab [i]) = .row 1 (l.map encL) := fun l => by show AObj.row 1 _ = _; rw [rn_rows (fun _ => rfl)]
  have hm : Store.match (tab [i]) σ [(0, v0, .row 1 (l.map encL))] := ⟨by rw [e1]; exact h1, trivial⟩
  have hf : Store.free [i] [(0, v0, .row 1 (l.map encL))] σ = true := by simp [Store.free, Store.get, List.range_succ]
  have := ac_at [i] ht (q_rev v0 l hl) hm hf hb (by
    rintro x σ' ⟨rfl, rfl⟩ j h
    simp only [Store.get] at h ⊢
    revert h
    cases Nat.beq 0 j <;> simp)
  refine ac_mono this ?_
  rintro x σ' ⟨_, _, ⟨rfl, rfl⟩, rfl, rfl⟩
  refine ⟨rfl, ?_⟩
  simp only [Store.putAll, e1]
  rfl

theorem c_Way (n : Net) (hn : n.Small) (x : Int) : ACp Tryz.prog 8 [encN n, .v (.int .i64 (x))] (.tuple [.list 1 ((n.way x).1.map encL), .v (.int .i64 ((n.way x).2))]) := by
 refine acp_of rfl ?_
 refine ac_enter 55 Tryz.func8 rfl rfl (by simp) ?_
 refine aw_seq ?_
 refine aw_region ?_
 (refine al_opR (op_box 2 rfl rfl (by first | rfl | exact live_one rfl | (repeat (first | exact all_live_nil | refine all_live_clo rfl ?_ | refine all_live_slice rfl ?_ | refine all_live_map rfl ?_ | refine all_live_ptr rfl ?_)))) rfl (by simp) ?_; rintro _ _ ⟨ver2, rfl, rfl⟩)
 refine al_op (op_assign rfl) rfl (by simp) ?_
 refine al_op (op_assign rfl) rfl (by simp) ?_
 refine al_nil ?_
 refine aw_seq ?_
 refine aw_seq ?_
 refine aw_region ?_
 first
   | refine al_op (op_load_rptr Tryz.underlying27 info27 rfl rfl) rfl (by simp) ?_
   | refine al_op (op_load_map Tryz.underlying27 info27 rfl rfl (by omega) rfl) rfl (by simp) ?_
   | refine al_op (op_load_ptr Tryz.underlying27 info27 rfl rfl rfl rfl) rfl (by simp) ?_
 first
   | refine al_callp into21 rfl rfl rfl ((c_fit4 _ (by assumption)) _) (by simp) ?_
   | refine al_callp into21 rfl rfl rfl (acp_lent (lend_cons (by first | exact lend_same | exact .leaf _ _ (.vnil _) | exact .leaf _ _ (.nil _) | exact lend_whole rfl (by first | rfl | (simp; done) | (simp; omega)) (clo_map (fun _ => rfl)) | exact lend_netg (by first | exact .same _ | exact lendL_vnil | exact lendL_whole rfl (by first | rfl | (simp; done) | (simp; omega)) (clo_map (fun _ => rfl))) (by first | exact .same _ | exact lendL_vnil | exact lendL_whole rfl (by first | rfl | (simp; done) | (simp; omega)) (clo_map (fun _ => rfl))) (by first | exact .same _ | exact lendL_vnil | exact lendL_whole rfl (by first | rfl | (simp; done) | (simp; omega)) (clo_map (fun _ => rfl))) (by first | exact .same _ | exact lendL_vnil | exact lendL_whole rfl (by first | rfl | (simp; done) | (simp; omega)) (clo_map (fun _ => rfl)))) lend_nil) (c_fit4 _ (by assumption)) rfl) (by simp) ?_
 refine al_op (op_assign rfl) rfl (by simp) ?_
 refine al_nil ?_
 refine aw_seq ?_
 refine aw_region ?_
 refine al_op (op_move rfl) rfl (by simp) ?_
 refine al_op (op_neq rfl rfl) rfl (by simp) ?_
 refine al_nil ?_
 refine aw_cond rfl (fun h1 => ?_) (fun h1 => ?_)
 ·have gh1 := h1
  try simp only [nrm] at h1
  refine aw_seq ?_
  refine aw_region ?_
  refine al_op (op_move rfl) rfl (by simp) ?_
  refine al_op (op_assign rfl) rfl (by simp) ?_
  refine al_op (op_assign rfl) rfl (by simp) ?_
  refine al_nil ?_
  refine aw_freeze (fun _ => false) (fsub_cons (t := 4) rfl (by first | exact .leaf _ _ (frz_whole rfl rfl (by first | rfl | (simp; done) | (simp; omega)) (clo_map (fun _ => rfl))) | exact .leaf _ _ (.vnil 1) | exact .leaf _ _ (.nil 1) | exact .leaf _ _ (.same _)) (fsub_cons (t := 5) rfl (.leaf _ _ (.same _)) fsub_nil)) ?_
  refine aw_ret ?_
  refine ⟨_, res_2 rfl rfl rfl rfl rfl, ?_, rfl⟩
  rw [Net.way, if_neg (by simpa using gh1)] <;> rfl
 ·have gh1 := h1
  try simp only [nrm] at h1
  have hfe : n.fitE = 0 := by simpa using gh1
  have hrd := Net.fit_ready hn hfe
  obtain ⟨hbp, hbl⟩ := Net.bfs_pos hrd
  have hsl := Net.states_le hrd.r
  have hrl := hrd.r
  have hil := hrd.i
  have hse : ((1 <<< n.regs.length : Nat) : Int) = (n.states : Int) := rfl
  refine aw_skip ?_
  refine aw_seq ?_
  refine aw_seq ?_
  refine aw_region ?_
  refine al_op (op_move rfl) rfl (by simp) ?_
  refine al_op (op_lss rfl rfl) rfl (by simp) ?_
  refine al_op (op_move rfl) rfl (by simp) ?_
  apply al_or 7 18 25 rfl
  ·intro h2; have gh2 := h2
   try simp only [nrm] at h2
   refine al_take (op_move rfl) rfl rfl rfl rfl (by simp) ?_
   first
     | refine al_take (op_field_rptr Tryz.underlying27 rfl info23 (by decide) rfl rfl) rfl rfl rfl rfl (by simp) ?_
     | refine al_take (op_field_ptr Tryz.underlying27 rfl info23 (by decide) rfl rfl rfl) rfl rfl rfl rfl (by simp) ?_
   first
     | refine al_take (op_load_rptr Tryz.underlying23 info23 rfl rfl) rfl rfl rfl rfl (by simp) ?_
     | refine al_take (op_load_map Tryz.underlying23 info23 rfl rfl (by omega) rfl) rfl rfl rfl rfl (by simp) ?_
     | refine al_take (op_load_ptr Tryz.underlying23 info23 rfl rfl rfl rfl) rfl rfl rfl rfl (by simp) ?_
   first
     | refine al_take (op_len_map Tryz.underlying23 rfl) rfl rfl rfl rfl (by simp) ?_
     | refine al_take (op_len_slice Tryz.underlying23 rfl rfl) rfl rfl rfl rfl (by simp) ?_
     | refine al_take (op_len_list Tryz.underlying23 rfl) rfl rfl rfl rfl (by simp) ?_
     | refine al_take (op_len_v Tryz.underlying23 rfl) rfl rfl rfl rfl (by simp) ?_
     | refine al_take (op_len_nil Tryz.underlying23 rfl) rfl rfl rfl rfl (by simp) ?_
   refine al_take (op_shl (a := ((1 : Nat) : Int)) rfl rfl (by omega) (shl_i64 (by decide) (by omega))) rfl rfl rfl rfl (by simp) ?_
   refine al_take (op_geq rfl rfl) rfl rfl rfl rfl (by simp) ?_
   first
     | refine al_op (op_pick rfl rfl) rfl (by simp) ?_
     | refine al_op (op_or rfl rfl rfl) rfl (by simp) ?_
   refine al_nil ⟨rfl, rfl, rfl, keep_of ?_⟩
   repeat (first | exact subx_refl | exact subx_known rfl gh2 subx_refl | refine subx_put rfl ?_)
  ·intro h2; have gh2 := h2
   try simp only [nrm] at h2
   refine al_pass rfl rfl rfl rfl (by simp) ?_
   refine al_pass rfl rfl rfl rfl (by simp) ?_
   refine al_pass rfl rfl rfl rfl (by simp) ?_
   refine al_pass rfl rfl rfl rfl (by simp) ?_
   refine al_pass rfl rfl rfl rfl (by simp) ?_
   refine al_pass rfl rfl rfl rfl (by simp) ?_
   first
     | refine al_op (op_pick rfl rfl) rfl (by simp) ?_
     | refine al_op (op_or rfl rfl rfl) rfl (by simp) ?_
   refine al_nil ⟨rfl, rfl, rfl, keep_of ?_⟩
   repeat (first | exact subx_refl | exact subx_known rfl gh2 subx_refl | refine subx_put rfl ?_)
  refine al_nil ?_
  refine aw_cond rfl (fun h3 => ?_) (fun h3 => ?_)
  ·have gh3 := h3
   try simp only [nrm] at h3
   refine aw_seq ?_
   refine aw_region ?_
   refine al_op (op_assign rfl) rfl (by simp) ?_
   refine al_op (op_assign rfl) rfl (by simp) ?_
   refine al_nil ?_
   refine aw_freeze (fun _ => false) (fsub_cons (t := 4) rfl (by first | exact .leaf _ _ (frz_whole rfl rfl (by first | rfl | (simp; done) | (simp; omega)) (clo_map (fun _ => rfl))) | exact .leaf _ _ (.vnil 1) | exact .leaf _ _ (.nil 1) | exact .leaf _ _ (.same _)) (fsub_cons (t := 5) rfl (.leaf _ _ (.same _)) fsub_nil)) ?_
   refine aw_ret ?_
   refine ⟨_, res_2 rfl rfl rfl rfl rfl, ?_, rfl⟩
   rw [Net.way, if_pos hfe, if_pos (by simp at *; omega)] <;> rfl
  ·have gh3 := h3
   try simp only [nrm] at h3
   refine aw_skip ?_
   refine aw_seq ?_
   refine aw_region ?_
   first
     | refine al_op (op_load_rptr Tryz.underlying27 info27 rfl rfl) rfl (by simp) ?_
     | refine al_op (op_load_map Tryz.underlying27 info27 rfl rfl (by omega) rfl) rfl (by simp) ?_
     | refine al_op (op_load_ptr Tryz.underlying27 info27 rfl rfl rfl rfl) rfl (by simp) ?_
   (refine al_call into22 rfl rfl rfl (search_at 27 n hrd rfl rfl rfl) (by simp) ?_; rintro _ _ ⟨ver27, rfl, rfl⟩)
   refine al_op (op_assign rfl) rfl (by simp) ?_
   refine al_nil ?_
   refine aw_seq ?_
   have hx0 : 0 ≤ x := by simp at *; omega
   have hx1 : ¬ (x < 0 ∨ (n.states : Int) ≤ x) := by simp at *; omega
   refine aw_region ?_
   refine al_op (op_move rfl) rfl (by simp) ?_
   refine al_op (op_move rfl) rfl (by simp) ?_
   refine al_op (op_lookup_st x.toNat Tryz.underlying56 Tryz.underlying3 info61 rfl rfl rfl rfl (key_nat hx0)) rfl (by simp) ?_
   refine al_op (op_move rfl) rfl (by simp) ?_
   refine al_op (op_extract rfl rfl rfl) rfl (by simp) ?_
   refine al_op (op_extract rfl rfl rfl) rfl (by simp) ?_
   (refine al_opR (op_alloc 8 info61 rfl rfl) rfl (by simp) ?_; rintro _ _ ⟨ver8, rfl, rfl⟩)
   first
     | refine al_op (op_store_ptr info61 rfl rfl rfl rfl rfl rfl (by first | rfl | exact live_one rfl | (repeat (first | exact all_live_nil | refine all_live_clo rfl ?_ | refine all_live_slice rfl ?_ | refine all_live_map rfl ?_ | refine all_live_ptr rfl ?_))) (by decide)) rfl (by simp) ?_
     | refine al_op (op_store_ptr info61 rfl rfl rfl rfl rfl rfl (by first | rfl | exact live_one rfl | (repeat (first | exact all_live_nil | refine all_live_clo rfl ?_ | refine all_live_slice rfl ?_ | refine all_live_map rfl ?_ | refine all_live_ptr rfl ?_))) (Nat.le_of_ble_eq_true rfl)) rfl (by simp) ?_
   refine al_op (op_assign rfl) rfl (by simp) ?_
   refine al_nil ?_
   refine aw_seq ?_
   refine aw_seq ?_
   refine aw_region ?_
   refine al_op (op_move rfl) rfl (by simp) ?_
   refine al_op (op_not rfl) rfl (by simp) ?_
   refine al_nil ?_
   refine aw_cond rfl (fun h4 => ?_) (fun h4 => ?_)
   ·have gh4 := h4
    try simp only [nrm] at h4
    refine aw_seq ?_
    refine aw_region ?_
    refine al_op (op_assign rfl) rfl (by simp) ?_
    refine al_op (op_assign rfl) rfl (by simp) ?_
    refine al_nil ?_
    refine aw_freeze (fun _ => false) (fsub_cons (t := 4) rfl (by first | exact .leaf _ _ (frz_whole rfl rfl (by first | rfl | (simp; done) | (simp; omega)) (clo_map (fun _ => rfl))) | exact .leaf _ _ (.vnil 1) | exact .leaf _ _ (.nil 1) | exact .leaf _ _ (.same _)) (fsub_cons (t := 5) rfl (.leaf _ _ (.same _)) fsub_nil)) ?_
    refine aw_ret ?_
    refine ⟨_, res_2 rfl rfl rfl rfl rfl, ?_, rfl⟩
    rw [Net.way, if_pos hfe, if_neg hx1, if_neg (by simp at *; assumption)] <;> rfl
   ·have gh4 := h4
    try simp only [nrm] at h4
    refine aw_skip ?_
    refine aw_seq ?_
    obtain ⟨b0, hb0⟩ := Option.isSome_iff_exists.1 (show (kFind x.toNat n.bfs).isSome = true by assumption)
    obtain ⟨hp1, hp2⟩ := kFind_pos (Net.bfs_inv hrd.begin.2 (2 * n.states)).nodup hb0
    have hp1 : (posOf n.bfs x.toNat) < n.bfs.length := hp1
    have hst : (kFind x.toNat n.bfs).getD (0, 0) = (n.bfs.getD (posOf n.bfs x.toNat) default).2 := by rw [hb0]; exact hp2.symm
    refine aw_st (σ2 := ([(2, ver2, .row 4 [[.list 1 (n.ins.map encS), .list 3 (n.regs.map encR), .list 2 (n.gates.map encG), .list 2 (n.outs.map encP)]]), (27, ver27, .map (kEnts stG n.bfs)), (8, ver8, .row 2 [[.v (.int .i64 (n.bfs.getD (posOf n.bfs x.toNat) default).2.1), .v (.int .i64 (n.bfs.getD (posOf n.bfs x.toNat) default).2.2)]])] : Store)) (by rw [← hst]; rfl) ?_
    refine aw_region ?_
    refine al_op (op_assign rfl) rfl (by simp) ?_
    refine al_nil ?_
    refine aw_seq ?_
    refine aw_block ?_
    apply aw_only
    ·
     (first | apply sub_cons (t := 2) rfl | skip)
     (first | apply sub_cons (t := 4) rfl | skip)
     (first | apply sub_cons (t := 5) rfl | skip)
     (first | apply sub_cons (t := 7) rfl | skip)
     (first | apply sub_cons (t := 8) rfl | skip)
     (first | apply sub_cons (t := 10) rfl | skip)
     exact sub_nil
    refine aw_own_map encL 10 1 10 rfl rfl (fun ver10 => ?_)
    refine aw_for3T (α := Nat) (β := List (List Int)) (γ := Nat) [10] [] (fun p out ver => p) (fun p out ver => p < n.bfs.length ∧ out ++ n.wayP p = n.wayP (posOf n.bfs x.toNat) ∧ out.length + p ≤ (posOf n.bfs x.toNat)) (fun p out ver => ([(10, .slice 10 ver 0 out.length)] : Env)) (fun p out ver st => ([(2, ver2, .row 4 [[.list 1 (n.ins.map encS), .list 3 (n.regs.map encR), .list 2 (n.gates.map encG), .list 2 (n.outs.map encP)]]), (27, ver27, .map (kEnts stG n.bfs)), (8, ver8, .row 2 [[.v (.int .i64 (n.bfs.getD p default).2.1), .v (.int .i64 (n.bfs.getD p default).2.2)]]), (10, ver, .row 1 (out.map encL))] : Store)) ((posOf n.bfs x.toNat)) ([]) (ver10) ?_ ?_ ?_ (fun p out ver hinv => ?_)
    ·exact ⟨hp1, rfl, by simp⟩
    ·refine sub_cons (get_as rfl ?_) ?_; rotate_left; exact sub_nil
     all_goals (first | rfl | simp)
    ·rfl
    refine aw_seq ?_
    refine aw_seq ?_
    refine aw_region ?_
    first
      | refine al_op (op_field_rptr Tryz.underlying61 rfl info3 (by decide) rfl rfl) rfl (by simp) ?_
      | refine al_op (op_field_ptr Tryz.underlying61 rfl info3 (by decide) rfl rfl rfl) rfl (by simp) ?_
    first
      | refine al_op (op_load_rptr Tryz.underlying3 info3 rfl rfl) rfl (by simp) ?_
      | refine al_op (op_load_map Tryz.underlying3 info3 rfl rfl (by omega) rfl) rfl (by simp) ?_
      | refine al_op (op_load_ptr Tryz.underlying3 info3 rfl rfl rfl rfl) rfl (by simp) ?_
    refine al_op (op_geq rfl rfl) rfl (by simp) ?_
    refine al_nil ?_
    refine aw_cond rfl (fun h5 => ?_) (fun h5 => ?_)
    ·have gh5 := h5
     try simp only [nrm] at h5
     refine aw_skip ?_
     refine aw_seq ?_
     refine aw_block ?_
     have hei := (Net.tree hrd).ins _ (getD_mem (v := n.bfs) (i := p) hinv.1)
     obtain ⟨hta, htb⟩ := Net.tree_at hrd hinv.1 (by omega)
     have hws := Net.wayP_step hrd hinv.1 (by omega)
     have hkf : (kFind (n.bfs.getD p default).2.1.toNat n.bfs).getD (0, 0) = (n.bfs.getD (posOf n.bfs (n.bfs.getD p default).2.1.toNat) default).2 := by rw [htb]; rfl
     refine aw_region ?_
     refine al_op (op_move rfl) rfl (by simp) ?_
     first
       | refine al_op (op_field_rptr Tryz.underlying61 rfl info3 (by decide) rfl rfl) rfl (by simp) ?_
       | refine al_op (op_field_ptr Tryz.underlying61 rfl info3 (by decide) rfl rfl rfl) rfl (by simp) ?_
     first
       | refine al_op (op_load_rptr Tryz.underlying3 info3 rfl rfl) rfl (by simp) ?_
       | refine al_op (op_load_map Tryz.underlying3 info3 rfl rfl (by omega) rfl) rfl (by simp) ?_
       | refine al_op (op_load_ptr Tryz.underlying3 info3 rfl rfl rfl rfl) rfl (by simp) ?_
     first
       | refine al_op (op_field_rptr Tryz.underlying27 rfl info22 (by decide) rfl rfl) rfl (by simp) ?_
       | refine al_op (op_field_ptr Tryz.underlying27 rfl info22 (by decide) rfl rfl rfl) rfl (by simp) ?_
     first
       | refine al_op (op_load_rptr Tryz.underlying22 info22 rfl rfl) rfl (by simp) ?_
       | refine al_op (op_load_map Tryz.underlying22 info22 rfl rfl (by omega) rfl) rfl (by simp) ?_
       | refine al_op (op_load_ptr Tryz.underlying22 info22 rfl rfl rfl rfl) rfl (by simp) ?_
     first
       | refine al_op (op_len_map Tryz.underlying22 rfl) rfl (by simp) ?_
       | refine al_op (op_len_slice Tryz.underlying22 rfl rfl) rfl (by simp) ?_
       | refine al_op (op_len_list Tryz.underlying22 rfl) rfl (by simp) ?_
       | refine al_op (op_len_v Tryz.underlying22 rfl) rfl (by simp) ?_
       | refine al_op (op_len_nil Tryz.underlying22 rfl) rfl (by simp) ?_
     first
       | refine al_callp into27 rfl rfl rfl ((c_bits _ _ (by omega) (by omega) (by omega)) _) (by simp) ?_
       | refine al_callp into27 rfl rfl rfl (ac_told (re_cons (by first | exact .leaf _ _ (.same _) | exact .leaf _ _ (.vnil _) | exact .leaf _ _ (.nil _)) (re_cons (by first | exact .leaf _ _ (.same _) | exact .leaf _ _ (.vnil _) | exact .leaf _ _ (.nil _)) re_nil)) ((c_bits _ _ (by omega) (by omega) (by omega)) _)) (by simp) ?_
     refine al_op (op_buildSlice Tryz.underlying35 info28 rfl rfl (by decide) rfl (by decide) rfl (by first | rfl | (repeat (first | exact parts_nil | refine parts_cons rfl (by repeat (first | exact all_live_nil | refine all_live_clo rfl ?_ | refine all_live_slice rfl ?_ | refine all_live_map rfl ?_ | refine all_live_ptr rfl ?_)) ?_))) rfl rfl rfl) rfl (by simp) ?_
     first
       | (refine al_opR (op_append_one (bitsI (n.bfs.getD p default).2.2 n.ins.length) Tryz.underlying35 Tryz.underlying35 rfl info28 rfl rfl (by decide) rfl rfl rfl (by first | rfl | simp) rfl rfl (by first | omega | (simp; done) | (simp; omega)) (by show _ * 24 ≤ _; first | omega | (simp; done) | (simp; omega))) rfl (by simp) ?_; rintro _ _ ⟨ver51, rfl, rfl⟩)
       | (refine al_opR (op_append_map Tryz.underlying35 Tryz.underlying35 rfl info28 rfl rfl (by decide) rfl rfl rfl (by first | rfl | simp) rfl (by first | exact .list _ | exact .vnil | exact .nil | exact .row _ _ _ _ rfl (by first | rfl | simp)) rfl (by first | omega | (simp; done) | (simp; omega)) (by show _ * 24 ≤ _; first | omega | (simp; done) | (simp; omega))) rfl (by simp) ?_; rintro _ _ ⟨ver51, rfl, rfl⟩)
     refine al_op (op_assign rfl) rfl (by simp) ?_
     refine al_nil ?_
     refine aw_region ?_
     refine al_op (op_move rfl) rfl (by simp) ?_
     first
       | refine al_op (op_field_rptr Tryz.underlying61 rfl info3 (by decide) rfl rfl) rfl (by simp) ?_
       | refine al_op (op_field_ptr Tryz.underlying61 rfl info3 (by decide) rfl rfl rfl) rfl (by simp) ?_
     first
       | refine al_op (op_load_rptr Tryz.underlying3 info3 rfl rfl) rfl (by simp) ?_
       | refine al_op (op_load_map Tryz.underlying3 info3 rfl rfl (by omega) rfl) rfl (by simp) ?_
       | refine al_op (op_load_ptr Tryz.underlying3 info3 rfl rfl rfl rfl) rfl (by simp) ?_
     refine al_op (op_lookup_st1 (n.bfs.getD p default).2.1.toNat Tryz.underlying56 Tryz.underlying3 info61 rfl rfl rfl rfl (key_nat (by omega))) rfl (by simp) ?_
     first
       | refine al_op (op_store_ptr info61 rfl rfl rfl rfl rfl rfl (by first | rfl | exact live_one rfl | (repeat (first | exact all_live_nil | refine all_live_clo rfl ?_ | refine all_live_slice rfl ?_ | refine all_live_map rfl ?_ | refine all_live_ptr rfl ?_))) (by decide)) rfl (by simp) ?_
       | refine al_op (op_store_ptr info61 rfl rfl rfl rfl rfl rfl (by first | rfl | exact live_one rfl | (repeat (first | exact all_live_nil | refine all_live_clo rfl ?_ | refine all_live_slice rfl ?_ | refine all_live_map rfl ?_ | refine all_live_ptr rfl ?_))) (Nat.le_of_ble_eq_true rfl)) rfl (by simp) ?_
     refine al_nil ?_
     refine ⟨(posOf n.bfs (n.bfs.getD p default).2.1.toNat), out ++ [bitsI (n.bfs.getD p default).2.2 n.ins.length], ver51, ?_, ?_, ?_, ?_, ?_⟩
     ·exact hta
     ·exact ⟨by omega, by rw [List.append_assoc, ← hinv.2.1, hws]; rfl, by rw [List.length_append, List.length_singleton]; omega⟩
     ·refine sub_cons (get_as rfl ?_) ?_; rotate_left; exact sub_nil
      all_goals (first | rfl | simp)
     ·repeat (first | exact subx_refl | exact subx_del | refine subx_put rfl ?_)
     ·(rw [← hkf] <;> rfl)
    ·have gh5 := h5
     try simp only [nrm] at h5
     refine aw_exit ?_
     have hwe := Net.wayP_end (n := n) (p := p) (by omega)
     have hoe : out = n.wayP (posOf n.bfs x.toNat) := by rw [← hinv.2.1, hwe, List.append_nil]
     refine aw_seq ?_
     refine aw_region ?_
     refine al_op (op_move rfl) rfl (by simp) ?_
     (refine al_call into28 rfl rfl rfl (rev_at 10 ver out (by omega) rfl rfl rfl) (by simp) ?_; rintro _ _ ⟨rfl, rfl⟩)
     refine al_nil ?_
     refine aw_seq ?_
     refine aw_region ?_
     refine al_op (op_move rfl) rfl (by simp) ?_
     refine al_op (op_assign rfl) rfl (by simp) ?_
     refine al_op (op_assign rfl) rfl (by simp) ?_
     refine al_nil ?_
     refine aw_freeze (fun _ => false) (fsub_cons (t := 4) rfl (by first | exact .leaf _ _ (frz_whole rfl rfl (by first | rfl | (simp; done) | (simp; omega)) (clo_map (fun _ => rfl))) | exact .leaf _ _ (.vnil 1) | exact .leaf _ _ (.nil 1) | exact .leaf _ _ (.same _)) (fsub_cons (t := 5) rfl (.leaf _ _ (.same _)) fsub_nil)) ?_
     refine aw_ret ?_
     refine ⟨_, res_2 rfl rfl rfl rfl rfl, ?_, rfl⟩
     rw [Net.way, if_pos hfe, if_neg hx1, if_pos (by rw [hb0]; rfl), ← hoe] <;> rfl

theorem c_Round (n : Net) (hn : n.Small) (ins : List Int) (hb : Bytes ins) : ACp Tryz.prog 10 [encN n, .list 1 (ins.map encB)] (.tuple [.v (.int .i64 ((n.round ins).1)), .v (.int .i64 ((n.round ins).2.1)), .v (.int .i64 ((n.round ins).2.2))]) := by
 refine acp_of rfl ?_
 obtain ⟨b1, b2⟩ := hb
 have z1 := hn.insL
 have z2 := hn.regsL
 refine ac_enter 62 Tryz.func10 rfl rfl (by simp) ?_
 refine aw_seq ?_
 refine aw_region ?_
 (refine al_opR (op_box 2 rfl rfl (by first | rfl | exact live_one rfl | (repeat (first | exact all_live_nil | refine all_live_clo rfl ?_ | refine all_live_slice rfl ?_ | refine all_live_map rfl ?_ | refine all_live_ptr rfl ?_)))) rfl (by simp) ?_; rintro _ _ ⟨ver2, rfl, rfl⟩)
 refine al_op (op_assign rfl) rfl (by simp) ?_
 refine al_op (op_assign rfl) rfl (by simp) ?_
 refine al_op (op_assign rfl) rfl (by simp) ?_
 refine al_nil ?_
 refine aw_seq ?_
 refine aw_seq ?_
 refine aw_region ?_
 first
   | refine al_op (op_load_rptr Tryz.underlying27 info27 rfl rfl) rfl (by simp) ?_
   | refine al_op (op_load_map Tryz.underlying27 info27 rfl rfl (by omega) rfl) rfl (by simp) ?_
   | refine al_op (op_load_ptr Tryz.underlying27 info27 rfl rfl rfl rfl) rfl (by simp) ?_
 first
   | refine al_callp into32 rfl rfl rfl ((c_valid _ (by assumption)) _) (by simp) ?_
   | refine al_callp into32 rfl rfl rfl (acp_lent (lend_cons (by first | exact lend_same | exact .leaf _ _ (.vnil _) | exact .leaf _ _ (.nil _) | exact lend_whole rfl (by first | rfl | (simp; done) | (simp; omega)) (clo_map (fun _ => rfl)) | exact lend_netg (by first | exact .same _ | exact lendL_vnil | exact lendL_whole rfl (by first | rfl | (simp; done) | (simp; omega)) (clo_map (fun _ => rfl))) (by first | exact .same _ | exact lendL_vnil | exact lendL_whole rfl (by first | rfl | (simp; done) | (simp; omega)) (clo_map (fun _ => rfl))) (by first | exact .same _ | exact lendL_vnil | exact lendL_whole rfl (by first | rfl | (simp; done) | (simp; omega)) (clo_map (fun _ => rfl))) (by first | exact .same _ | exact lendL_vnil | exact lendL_whole rfl (by first | rfl | (simp; done) | (simp; omega)) (clo_map (fun _ => rfl)))) lend_nil) (c_valid _ (by assumption)) rfl) (by simp) ?_
 refine al_op (op_not rfl) rfl (by simp) ?_
 refine al_op (op_move rfl) rfl (by simp) ?_
 apply al_or 7 15 22 rfl
 ·intro h1; have gh1 := h1
  try simp only [nrm] at h1
  refine al_take (op_move rfl) rfl rfl rfl rfl (by simp) ?_
  first
    | refine al_take (op_len_map Tryz.underlying28 rfl) rfl rfl rfl rfl (by simp) ?_
    | refine al_take (op_len_slice Tryz.underlying28 rfl rfl) rfl rfl rfl rfl (by simp) ?_
    | refine al_take (op_len_list Tryz.underlying28 rfl) rfl rfl rfl rfl (by simp) ?_
    | refine al_take (op_len_v Tryz.underlying28 rfl) rfl rfl rfl rfl (by simp) ?_
    | refine al_take (op_len_nil Tryz.underlying28 rfl) rfl rfl rfl rfl (by simp) ?_
  first
    | refine al_take (op_field_rptr Tryz.underlying27 rfl info22 (by decide) rfl rfl) rfl rfl rfl rfl (by simp) ?_
    | refine al_take (op_field_ptr Tryz.underlying27 rfl info22 (by decide) rfl rfl rfl) rfl rfl rfl rfl (by simp) ?_
  first
    | refine al_take (op_load_rptr Tryz.underlying22 info22 rfl rfl) rfl rfl rfl rfl (by simp) ?_
    | refine al_take (op_load_map Tryz.underlying22 info22 rfl rfl (by omega) rfl) rfl rfl rfl rfl (by simp) ?_
    | refine al_take (op_load_ptr Tryz.underlying22 info22 rfl rfl rfl rfl) rfl rfl rfl rfl (by simp) ?_
  first
    | refine al_take (op_len_map Tryz.underlying22 rfl) rfl rfl rfl rfl (by simp) ?_
    | refine al_take (op_len_slice Tryz.underlying22 rfl rfl) rfl rfl rfl rfl (by simp) ?_
    | refine al_take (op_len_list Tryz.underlying22 rfl) rfl rfl rfl rfl (by simp) ?_
    | refine al_take (op_len_v Tryz.underlying22 rfl) rfl rfl rfl rfl (by simp) ?_
    | refine al_take (op_len_nil Tryz.underlying22 rfl) rfl rfl rfl rfl (by simp) ?_
  refine al_take (op_neq rfl rfl) rfl rfl rfl rfl (by simp) ?_
  first
    | refine al_op (op_pick rfl rfl) rfl (by simp) ?_
    | refine al_op (op_or rfl rfl rfl) rfl (by simp) ?_
  refine al_nil ⟨rfl, rfl, rfl, keep_of ?_⟩
  repeat (first | exact subx_refl | exact subx_known rfl gh1 subx_refl | refine subx_put rfl ?_)
 ·intro h1; have gh1 := h1
  try simp only [nrm] at h1
  refine al_pass rfl rfl rfl rfl (by simp) ?_
  refine al_pass rfl rfl rfl rfl (by simp) ?_
  refine al_pass rfl rfl rfl rfl (by simp) ?_
  refine al_pass rfl rfl rfl rfl (by simp) ?_
  refine al_pass rfl rfl rfl rfl (by simp) ?_
  refine al_pass rfl rfl rfl rfl (by simp) ?_
  first
    | refine al_op (op_pick rfl rfl) rfl (by simp) ?_
    | refine al_op (op_or rfl rfl rfl) rfl (by simp) ?_
  refine al_nil ⟨rfl, rfl, rfl, keep_of ?_⟩
  repeat (first | exact subx_refl | exact subx_known rfl gh1 subx_refl | refine subx_put rfl ?_)
 refine al_op (op_move rfl) rfl (by simp) ?_
 apply al_or 3 23 26 rfl
 ·intro h2; have gh2 := h2
  try simp only [nrm] at h2
  refine al_take (op_move rfl) rfl rfl rfl rfl (by simp) ?_
  first
    | refine al_callp_take into33 rfl rfl rfl rfl rfl rfl ((c_cfo1 _ (by assumption)) _) (by simp) ?_
    | refine al_callp_take into33 rfl rfl rfl rfl rfl rfl (acp_lent (lend_cons (by first | exact lend_same | exact .leaf _ _ (.vnil _) | exact .leaf _ _ (.nil _) | exact lend_whole rfl (by first | rfl | (simp; done) | (simp; omega)) (clo_map (fun _ => rfl)) | exact lend_netg (by first | exact .same _ | exact lendL_vnil | exact lendL_whole rfl (by first | rfl | (simp; done) | (simp; omega)) (clo_map (fun _ => rfl))) (by first | exact .same _ | exact lendL_vnil | exact lendL_whole rfl (by first | rfl | (simp; done) | (simp; omega)) (clo_map (fun _ => rfl))) (by first | exact .same _ | exact lendL_vnil | exact lendL_whole rfl (by first | rfl | (simp; done) | (simp; omega)) (clo_map (fun _ => rfl))) (by first | exact .same _ | exact lendL_vnil | exact lendL_whole rfl (by first | rfl | (simp; done) | (simp; omega)) (clo_map (fun _ => rfl)))) (lend_cons (by first | exact lend_same | exact .leaf _ _ (.vnil _) | exact .leaf _ _ (.nil _) | exact lend_whole rfl (by first | rfl | (simp; done) | (simp; omega)) (clo_map (fun _ => rfl)) | exact lend_netg (by first | exact .same _ | exact lendL_vnil | exact lendL_whole rfl (by first | rfl | (simp; done) | (simp; omega)) (clo_map (fun _ => rfl))) (by first | exact .same _ | exact lendL_vnil | exact lendL_whole rfl (by first | rfl | (simp; done) | (simp; omega)) (clo_map (fun _ => rfl))) (by first | exact .same _ | exact lendL_vnil | exact lendL_whole rfl (by first | rfl | (simp; done) | (simp; omega)) (clo_map (fun _ => rfl))) (by first | exact .same _ | exact lendL_vnil | exact lendL_whole rfl (by first | rfl | (simp; done) | (simp; omega)) (clo_map (fun _ => rfl)))) lend_nil)) (c_cfo1 _ (by assumption)) rfl) (by simp) ?_
  first
    | refine al_op (op_pick rfl rfl) rfl (by simp) ?_
    | refine al_op (op_or rfl rfl rfl) rfl (by simp) ?_
  refine al_nil ⟨rfl, rfl, rfl, keep_of ?_⟩
  repeat (first | exact subx_refl | exact subx_known rfl gh2 subx_refl | refine subx_put rfl ?_)
 ·intro h2; have gh2 := h2
  try simp only [nrm] at h2
  refine al_pass rfl rfl rfl rfl (by simp) ?_
  refine al_pass rfl rfl rfl rfl (by simp) ?_
  first
    | refine al_op (op_pick rfl rfl) rfl (by simp) ?_
    | refine al_op (op_or rfl rfl rfl) rfl (by simp) ?_
  refine al_nil ⟨rfl, rfl, rfl, keep_of ?_⟩
  repeat (first | exact subx_refl | exact subx_known rfl gh2 subx_refl | refine subx_put rfl ?_)
 refine al_nil ?_
 refine aw_cond rfl (fun h3 => ?_) (fun h3 => ?_)
 ·have gh3 := h3
  try simp only [nrm] at h3
  refine aw_seq ?_
  refine aw_region ?_
  refine al_op (op_assign rfl) rfl (by simp) ?_
  refine al_op (op_assign rfl) rfl (by simp) ?_
  refine al_op (op_assign rfl) rfl (by simp) ?_
  refine al_nil ?_
  refine aw_freeze (fun _ => false) (fsub_cons (t := 4) rfl (.leaf _ _ (.same _)) (fsub_cons (t := 5) rfl (.leaf _ _ (.same _)) (fsub_cons (t := 6) rfl (.leaf _ _ (.same _)) fsub_nil))) ?_
  refine aw_ret ?_
  refine ⟨_, res_3 rfl rfl rfl rfl rfl rfl rfl, ?_, rfl⟩
  rw [Net.round, if_neg (by rw [roundOK_or] at gh3; simpa using gh3)]
 ·have gh3 := h3
  try simp only [nrm] at h3
  have hro : n.roundOK ins = true := by rw [roundOK_or] at gh3; simpa using gh3
  obtain ⟨hv, hl1, hi01⟩ := Net.roundOK_facts b2 hro
  refine aw_skip ?_
  refine aw_seq ?_
  refine aw_seq ?_
  refine aw_region ?_
  first
    | refine al_op (op_load_rptr Tryz.underlying27 info27 rfl rfl) rfl (by simp) ?_
    | refine al_op (op_load_map Tryz.underlying27 info27 rfl rfl (by omega) rfl) rfl (by simp) ?_
    | refine al_op (op_load_ptr Tryz.underlying27 info27 rfl rfl rfl rfl) rfl (by simp) ?_
  first
    | refine al_callp into35 rfl rfl rfl ((c_small _ (by assumption)) _) (by simp) ?_
    | refine al_callp into35 rfl rfl rfl (acp_lent (lend_cons (by first | exact lend_same | exact .leaf _ _ (.vnil _) | exact .leaf _ _ (.nil _) | exact lend_whole rfl (by first | rfl | (simp; done) | (simp; omega)) (clo_map (fun _ => rfl)) | exact lend_netg (by first | exact .same _ | exact lendL_vnil | exact lendL_whole rfl (by first | rfl | (simp; done) | (simp; omega)) (clo_map (fun _ => rfl))) (by first | exact .same _ | exact lendL_vnil | exact lendL_whole rfl (by first | rfl | (simp; done) | (simp; omega)) (clo_map (fun _ => rfl))) (by first | exact .same _ | exact lendL_vnil | exact lendL_whole rfl (by first | rfl | (simp; done) | (simp; omega)) (clo_map (fun _ => rfl))) (by first | exact .same _ | exact lendL_vnil | exact lendL_whole rfl (by first | rfl | (simp; done) | (simp; omega)) (clo_map (fun _ => rfl)))) lend_nil) (c_small _ (by assumption)) rfl) (by simp) ?_
  refine al_op (op_not rfl) rfl (by simp) ?_
  refine al_nil ?_
  refine aw_cond rfl (fun h4 => ?_) (fun h4 => ?_)
  ·have gh4 := h4
   try simp only [nrm] at h4
   refine aw_seq ?_
   refine aw_region ?_
   refine al_op (op_assign rfl) rfl (by simp) ?_
   refine al_op (op_assign rfl) rfl (by simp) ?_
   refine al_op (op_assign rfl) rfl (by simp) ?_
   refine al_nil ?_
   refine aw_freeze (fun _ => false) (fsub_cons (t := 4) rfl (.leaf _ _ (.same _)) (fsub_cons (t := 5) rfl (.leaf _ _ (.same _)) (fsub_cons (t := 6) rfl (.leaf _ _ (.same _)) fsub_nil))) ?_
   refine aw_ret ?_
   refine ⟨_, res_3 rfl rfl rfl rfl rfl rfl rfl, ?_, rfl⟩
   rw [Net.round, if_pos hro, if_neg (by simp at *; assumption)]
  ·have gh4 := h4
   try simp only [nrm] at h4
   refine aw_skip ?_
   refine aw_seq ?_
   have hsm : n.small = true := by assumption
   have hfe : n.fitE = 0 := by rw [Net.fitE, if_pos hv, if_pos hsm]
   have hrd := Net.fit_ready hn hfe
   have hrl := hrd.r
   have hsl := Net.states_le hrl
   refine aw_region ?_
   (refine al_opR (op_makeMap 30 Tryz.underlying71 (.inl rfl)) rfl (by simp) ?_; rintro _ _ ⟨ver30, rfl, rfl⟩)
   refine al_op (op_assign rfl) rfl (by simp) ?_
   refine al_nil ?_
   refine aw_seq ?_
   refine aw_region ?_
   first
     | refine al_op (op_load_rptr Tryz.underlying27 info27 rfl rfl) rfl (by simp) ?_
     | refine al_op (op_load_map Tryz.underlying27 info27 rfl rfl (by omega) rfl) rfl (by simp) ?_
     | refine al_op (op_load_ptr Tryz.underlying27 info27 rfl rfl rfl rfl) rfl (by simp) ?_
   first
     | refine al_callp into36 rfl rfl rfl ((c_first _ (by assumption)) _) (by simp) ?_
     | refine al_callp into36 rfl rfl rfl (ac_told (re_cons (by first | exact .leaf _ _ (.same _) | exact .leaf _ _ (.vnil _) | exact .leaf _ _ (.nil _)) re_nil) ((c_first _ (by assumption)) _)) (by simp) ?_
   refine al_op (op_assign rfl) rfl (by simp) ?_
   refine al_nil ?_
   refine aw_seq ?_
   refine aw_region ?_
   refine al_op (op_assign rfl) rfl (by simp) ?_
   refine al_nil ?_
   refine aw_block ?_
   apply aw_only
   ·
    (first | apply sub_cons (t := 1) rfl | skip)
    (first | apply sub_cons (t := 2) rfl | skip)
    (first | apply sub_cons (t := 4) rfl | skip)
    (first | apply sub_cons (t := 5) rfl | skip)
    (first | apply sub_cons (t := 6) rfl | skip)
    (first | apply sub_cons (t := 7) rfl | skip)
    (first | apply sub_cons (t := 8) rfl | skip)
    (first | apply sub_cons (t := 9) rfl | skip)
    exact sub_nil
   refine aw_forT (ι := Nat) [4, 5, 6, 8, 9] [] (fun k => n.states + 1 - k) (fun k => firstTo (n.rhit ins) k = Option.none) (fun k => ([(8, .list 1 ((n.rst ins k).map encB)), (9, .v (.int .i64 (k)))] : Env)) (fun k st => ([(2, ver2, .row 4 [[.list 1 (n.ins.map encS), .list 3 (n.regs.map encR), .list 2 (n.gates.map encG), .list 2 (n.outs.map encP)]]), (30, ver30, .map (kEnts gN (n.rents ins k)))] : Store)) (0) ?_ ?_ ?_ (fun k hinv => ?_)
   ·rfl
   ·refine sub_cons (get_as rfl ?_) ?_; rotate_left; refine sub_cons (get_as rfl ?_) ?_; rotate_left; exact sub_nil
    all_goals (first | rfl | simp)
   ·rfl
   refine aw_seq ?_
   refine aw_block ?_
   refine aw_seq ?_
   refine aw_seq ?_
   have hra := Net.rat hrd hl1 hi01 k
   have hr01 := hra.b
   have hrlen := hra.l
   have hke := Net.round_le hrd hl1 hi01 hinv
   have hal := Net.rents_le n ins k (n.rnum ins k)
   refine aw_region ?_
   refine al_op (op_move rfl) rfl (by simp) ?_
   refine al_op (op_move rfl) rfl (by simp) ?_
   first
     | refine al_callp into37 rfl rfl rfl ((c_number _ (by assumption) (by omega)) _) (by simp) ?_
     | refine al_callp into37 rfl rfl rfl (acp_lent (lend_cons (by first | exact lend_same | exact .leaf _ _ (.vnil _) | exact .leaf _ _ (.nil _) | exact lend_whole rfl (by first | rfl | (simp; done) | (simp; omega)) (clo_map (fun _ => rfl)) | exact lend_netg (by first | exact .same _ | exact lendL_vnil | exact lendL_whole rfl (by first | rfl | (simp; done) | (simp; omega)) (clo_map (fun _ => rfl))) (by first | exact .same _ | exact lendL_vnil | exact lendL_whole rfl (by first | rfl | (simp; done) | (simp; omega)) (clo_map (fun _ => rfl))) (by first | exact .same _ | exact lendL_vnil | exact lendL_whole rfl (by first | rfl | (simp; done) | (simp; omega)) (clo_map (fun _ => rfl))) (by first | exact .same _ | exact lendL_vnil | exact lendL_whole rfl (by first | rfl | (simp; done) | (simp; omega)) (clo_map (fun _ => rfl)))) lend_nil) (c_number _ (by assumption) (by omega)) rfl) (by simp) ?_
   refine al_op (op_lookup_ki (n.rnum ins k) Tryz.underlying71 Tryz.underlying3 info3 rfl rfl rfl rfl rfl) rfl (by simp) ?_
   refine al_op (op_move rfl) rfl (by simp) ?_
   refine al_op (op_extract rfl rfl rfl) rfl (by simp) ?_
   refine al_op (op_extract rfl rfl rfl) rfl (by simp) ?_
   refine al_op (op_assign rfl) rfl (by simp) ?_
   refine al_op (op_assign rfl) rfl (by simp) ?_
   refine al_nil ?_
   refine aw_seq ?_
   refine aw_region ?_
   refine al_op (op_move rfl) rfl (by simp) ?_
   refine al_nil ?_
   refine aw_cond rfl (fun h5 => ?_) (fun h5 => ?_)
   ·have gh5 := h5
    try simp only [nrm] at h5
    refine aw_seq ?_
    refine aw_region ?_
    refine al_op (op_move rfl) rfl (by simp) ?_
    refine al_op (op_move rfl) rfl (by simp) ?_
    refine al_op (op_move rfl) rfl (by simp) ?_
    refine al_op (op_sub rfl rfl (by first | exact wrap_i64 (by omega) (by omega))) rfl (by simp) ?_
    refine al_op (op_assign rfl) rfl (by simp) ?_
    refine al_op (op_assign rfl) rfl (by simp) ?_
    refine al_op (op_assign rfl) rfl (by simp) ?_
    refine al_nil ?_
    refine aw_freeze (fun _ => false) (fsub_cons (t := 4) rfl (.leaf _ _ (.same _)) (fsub_cons (t := 5) rfl (.leaf _ _ (.same _)) (fsub_cons (t := 6) rfl (.leaf _ _ (.same _)) fsub_nil))) ?_
    refine aw_ret ?_
    refine ⟨_, res_3 rfl rfl rfl rfl rfl rfl rfl, ?_, rfl⟩
    have hrk := Net.round_hit hrd hl1 hi01 hinv (by assumption)
    rw [Net.round, if_pos hro, if_pos hsm, Net.roundA, hrk]
   ·have gh5 := h5
    try simp only [nrm] at h5
    refine aw_skip ?_
    refine aw_seq ?_
    have hnew0 : (kFind (n.rnum ins k) (n.rents ins k)).isSome = false := by assumption
    have hnew : kFind (n.rnum ins k) (n.rents ins k) = none := by simpa using hnew0
    have hbad : n.bad ins (n.rst ins k) = false := Net.not_bad_of hv (bit01_ok hl1 hi01) (bit01_ok hra.l hra.b)
    have q3 := bit_bytes (bit01_bit hra.b)
    obtain ⟨e1, e2, e3, e4, e5⟩ := Net.eval_facts b2 q3 hbad
    have q5 : (n.rst ins k).length ≤ 140737488355328 := by omega
    refine aw_region ?_
    refine al_op (op_move rfl) rfl (by simp) ?_
    refine al_op (op_move rfl) rfl (by simp) ?_
    first
      | refine al_callp into37 rfl rfl rfl ((c_number _ (by assumption) (by omega)) _) (by simp) ?_
      | refine al_callp into37 rfl rfl rfl (acp_lent (lend_cons (by first | exact lend_same | exact .leaf _ _ (.vnil _) | exact .leaf _ _ (.nil _) | exact lend_whole rfl (by first | rfl | (simp; done) | (simp; omega)) (clo_map (fun _ => rfl)) | exact lend_netg (by first | exact .same _ | exact lendL_vnil | exact lendL_whole rfl (by first | rfl | (simp; done) | (simp; omega)) (clo_map (fun _ => rfl))) (by first | exact .same _ | exact lendL_vnil | exact lendL_whole rfl (by first | rfl | (simp; done) | (simp; omega)) (clo_map (fun _ => rfl))) (by first | exact .same _ | exact lendL_vnil | exact lendL_whole rfl (by first | rfl | (simp; done) | (simp; omega)) (clo_map (fun _ => rfl))) (by first | exact .same _ | exact lendL_vnil | exact lendL_whole rfl (by first | rfl | (simp; done) | (simp; omega)) (clo_map (fun _ => rfl)))) lend_nil) (c_number _ (by assumption) (by omega)) rfl) (by simp) ?_
    refine al_op (op_move rfl) rfl (by simp) ?_
    refine al_op (op_update_k (n.rnum ins k) k (g := gN) Tryz.underlying71 Tryz.underlying3 rfl rfl rfl rfl rfl rfl rfl hnew) rfl (by simp) ?_
    refine al_nil ?_
    refine aw_seq ?_
    refine aw_region ?_
    first
      | refine al_op (op_load_rptr Tryz.underlying27 info27 rfl rfl) rfl (by simp) ?_
      | refine al_op (op_load_map Tryz.underlying27 info27 rfl rfl (by omega) rfl) rfl (by simp) ?_
      | refine al_op (op_load_ptr Tryz.underlying27 info27 rfl rfl rfl rfl) rfl (by simp) ?_
    refine al_op (op_move rfl) rfl (by simp) ?_
    refine al_op (op_move rfl) rfl (by simp) ?_
    first
      | refine al_callp into38 rfl rfl rfl ((c_eval _ (by assumption) _ _ (by assumption) (by assumption) (by assumption) (by assumption)) _) (by simp) ?_
      | refine al_callp into38 rfl rfl rfl (ac_told (re_cons (by first | exact .leaf _ _ (.same _) | exact .leaf _ _ (.vnil _) | exact .leaf _ _ (.nil _)) (re_cons (by first | exact .leaf _ _ (.same _) | exact .leaf _ _ (.vnil _) | exact .leaf _ _ (.nil _)) (re_cons (by first | exact .leaf _ _ (.same _) | exact .leaf _ _ (.vnil _) | exact .leaf _ _ (.nil _)) re_nil))) ((c_eval _ (by assumption) _ _ (by assumption) (by assumption) (by assumption) (by assumption)) _)) (by simp) ?_
    refine al_op (op_move rfl) rfl (by simp) ?_
    refine al_op (op_extract rfl rfl rfl) rfl (by simp) ?_
    refine al_op (op_extract rfl rfl rfl) rfl (by simp) ?_
    refine al_op (op_extract rfl rfl rfl) rfl (by simp) ?_
    refine al_op (op_assign rfl) rfl (by simp) ?_
    refine al_op (op_assign rfl) rfl (by simp) ?_
    refine al_nil ?_
    refine aw_seq ?_
    refine aw_region ?_
    refine al_op (op_move rfl) rfl (by simp) ?_
    refine al_op (op_neq rfl rfl) rfl (by simp) ?_
    refine al_nil ?_
    refine aw_cond rfl (fun h6 => ?_) (fun h6 => ?_)
    ·have gh6 := h6
     try simp only [nrm] at h6
     rw [bne_iff_ne] at gh6; exact (gh6 e1).elim
    ·have gh6 := h6
     try simp only [nrm] at h6
     refine aw_skip ?_
     refine aw_region ?_
     refine al_op (op_move rfl) rfl (by simp) ?_
     refine al_op (op_add rfl rfl (by first | exact wrap_i64 (by omega) (by omega))) rfl (by simp) ?_
     refine al_op (op_assign rfl) rfl (by simp) ?_
     refine al_nil ?_
     refine ⟨k + 1, ?_, ?_, ?_, ?_, ?_⟩
     ·(have := Net.round_le hrd hl1 hi01 hinv; omega)
     ·exact firstTo_succ hinv hnew0
     ·refine sub_cons (get_as rfl ?_) ?_; rotate_left; refine sub_cons (get_as rfl ?_) ?_; rotate_left; exact sub_nil
      all_goals (first | rfl | simp)
     ·repeat (first | exact subx_refl | exact subx_del | refine subx_put rfl ?_)
     ·(rw [n.rents_succ] <;> rfl)

theorem q_toggle  : AC Tryz.prog 17 [] ([]) (fun r σ' => r = .ret (encN toggleN) ∧ σ'.keep (fun _ => false) = []) := by
 refine ac_enter 11 Tryz.func17 rfl rfl (by simp) ?_
 refine aw_seq ?_
 refine aw_region ?_
 (refine al_opR (op_alloc 0 info27 rfl rfl) rfl (by simp) ?_; rintro _ _ ⟨ver0, rfl, rfl⟩)
 refine al_nil ?_
 refine aw_seq ?_
 refine aw_region ?_
 refine al_op (op_list encS [sA] Tryz.underlying22 info9 rfl rfl (by decide) rfl (by decide) rfl (by first | rfl | (repeat (first | exact parts_nil | refine parts_cons rfl (by repeat (first | exact all_live_nil | refine all_live_clo rfl ?_ | refine all_live_slice rfl ?_ | refine all_live_map rfl ?_ | refine all_live_ptr rfl ?_)) ?_))) rfl rfl rfl rfl) rfl (by simp) ?_
 refine al_op (op_build_struct Tryz.underlying77 info77 rfl place77 rfl (by first | rfl | (repeat (first | exact parts_nil | refine parts_cons rfl (by repeat (first | exact all_live_nil | refine all_live_clo rfl ?_ | refine all_live_slice rfl ?_ | refine all_live_map rfl ?_ | refine all_live_ptr rfl ?_)) ?_))) rfl) rfl (by simp) ?_
 refine al_op (op_list encR [(sQ, 0, 11)] Tryz.underlying23 info77 rfl rfl (by decide) rfl (by decide) rfl (by first | rfl | (repeat (first | exact parts_nil | refine parts_cons rfl (by repeat (first | exact all_live_nil | refine all_live_clo rfl ?_ | refine all_live_slice rfl ?_ | refine all_live_map rfl ?_ | refine all_live_ptr rfl ?_)) ?_))) rfl rfl rfl rfl) rfl (by simp) ?_
 refine al_op (op_build_array Tryz.underlying80 info80 rfl info3 rfl (by first | rfl | (repeat (first | exact parts_nil | refine parts_cons rfl (by repeat (first | exact all_live_nil | refine all_live_clo rfl ?_ | refine all_live_slice rfl ?_ | refine all_live_map rfl ?_ | refine all_live_ptr rfl ?_)) ?_))) rfl) rfl (by simp) ?_
 refine al_op (op_build_array Tryz.underlying80 info80 rfl info3 rfl (by first | rfl | (repeat (first | exact parts_nil | refine parts_cons rfl (by repeat (first | exact all_live_nil | refine all_live_clo rfl ?_ | refine all_live_slice rfl ?_ | refine all_live_map rfl ?_ | refine all_live_ptr rfl ?_)) ?_))) rfl) rfl (by simp) ?_
 refine al_op (op_build_array Tryz.underlying80 info80 rfl info3 rfl (by first | rfl | (repeat (first | exact parts_nil | refine parts_cons rfl (by repeat (first | exact all_live_nil | refine all_live_clo rfl ?_ | refine all_live_slice rfl ?_ | refine all_live_map rfl ?_ | refine all_live_ptr rfl ?_)) ?_))) rfl) rfl (by simp) ?_
 refine al_op (op_list encG [(2, 5), (3, 4), (7, 9)] Tryz.underlying24 info80 rfl rfl (by decide) rfl (by decide) rfl (by first | rfl | (repeat (first | exact parts_nil | refine parts_cons rfl (by repeat (first | exact all_live_nil | refine all_live_clo rfl ?_ | refine all_live_slice rfl ?_ | refine all_live_map rfl ?_ | refine all_live_ptr rfl ?_)) ?_))) rfl rfl rfl rfl) rfl (by simp) ?_
 refine al_op (op_build_struct Tryz.underlying82 info82 rfl place82 rfl (by first | rfl | (repeat (first | exact parts_nil | refine parts_cons rfl (by repeat (first | exact all_live_nil | refine all_live_clo rfl ?_ | refine all_live_slice rfl ?_ | refine all_live_map rfl ?_ | refine all_live_ptr rfl ?_)) ?_))) rfl) rfl (by simp) ?_
 refine al_op (op_list encP [(sQ, 4)] Tryz.underlying25 info82 rfl rfl (by decide) rfl (by decide) rfl (by first | rfl | (repeat (first | exact parts_nil | refine parts_cons rfl (by repeat (first | exact all_live_nil | refine all_live_clo rfl ?_ | refine all_live_slice rfl ?_ | refine all_live_map rfl ?_ | refine all_live_ptr rfl ?_)) ?_))) rfl rfl rfl rfl) rfl (by simp) ?_
 refine al_op (op_build_struct Tryz.underlying27 info27 rfl place27 rfl (by first | rfl | (repeat (first | exact parts_nil | refine parts_cons rfl (by repeat (first | exact all_live_nil | refine all_live_clo rfl ?_ | refine all_live_slice rfl ?_ | refine all_live_map rfl ?_ | refine all_live_ptr rfl ?_)) ?_))) rfl) rfl (by simp) ?_
 first
   | refine al_op (op_store_ptr info27 rfl rfl rfl rfl rfl rfl (by first | rfl | exact live_one rfl | (repeat (first | exact all_live_nil | refine all_live_clo rfl ?_ | refine all_live_slice rfl ?_ | refine all_live_map rfl ?_ | refine all_live_ptr rfl ?_))) (by decide)) rfl (by simp) ?_
   | refine al_op (op_store_ptr info27 rfl rfl rfl rfl rfl rfl (by first | rfl | exact live_one rfl | (repeat (first | exact all_live_nil | refine all_live_clo rfl ?_ | refine all_live_slice rfl ?_ | refine all_live_map rfl ?_ | refine all_live_ptr rfl ?_))) (Nat.le_of_ble_eq_true rfl)) rfl (by simp) ?_
 refine al_nil ?_
 refine aw_ret ?_
 refine ⟨_, res_cell rfl Tryz.underlying27 info27 rfl rfl rfl rfl, ?_⟩
 exact ⟨rfl, rfl⟩
theorem l_toggle : ACp Tryz.prog 17 [] (encN toggleN) :=
  acp_of rfl (ac_mono (ac_keep (fun _ => false) q_toggle) (by rintro x σ1 ⟨σ2, ⟨rfl, e⟩, rfl⟩; exact ⟨rfl, e⟩))

theorem l_awake4  : ACp Tryz.prog 5 [] (.v (.bool (true))) := by
 refine acp_of rfl ?_
 refine ac_enter 146 Tryz.func5 rfl rfl (by simp) ?_
 refine aw_seq ?_
 refine aw_region ?_
 refine al_op (op_assign rfl) rfl (by simp) ?_
 refine al_nil ?_
 refine aw_seq ?_
 refine aw_region ?_
 refine al_op (op_list encB ([1] : List Int) Tryz.underlying28 info44 rfl rfl (by decide) rfl (by decide) rfl (by first | rfl | (repeat (first | exact parts_nil | refine parts_cons rfl (by repeat (first | exact all_live_nil | refine all_live_clo rfl ?_ | refine all_live_slice rfl ?_ | refine all_live_map rfl ?_ | refine all_live_ptr rfl ?_)) ?_))) rfl rfl rfl rfl) rfl (by simp) ?_
 refine al_op (op_list encB ([0] : List Int) Tryz.underlying28 info44 rfl rfl (by decide) rfl (by decide) rfl (by first | rfl | (repeat (first | exact parts_nil | refine parts_cons rfl (by repeat (first | exact all_live_nil | refine all_live_clo rfl ?_ | refine all_live_slice rfl ?_ | refine all_live_map rfl ?_ | refine all_live_ptr rfl ?_)) ?_))) rfl rfl rfl rfl) rfl (by simp) ?_
 refine al_op (op_assign rfl) rfl (by simp) ?_
 refine al_op (op_assign rfl) rfl (by simp) ?_
 refine al_nil ?_
 refine aw_seq ?_
 refine aw_region ?_
 first
   | refine al_callp into17 rfl rfl rfl ((l_toggle ) _) (by simp) ?_
   | refine al_callp into17 rfl rfl rfl (ac_told re_nil ((l_toggle ) _)) (by simp) ?_
 refine al_op (op_move rfl) rfl (by simp) ?_
 refine al_op (op_move rfl) rfl (by simp) ?_
 refine al_op (op_move rfl) rfl (by simp) ?_
 refine al_op (op_list encL ([[1], [1], [0]] : List (List Int)) Tryz.underlying35 info28 rfl rfl (by decide) rfl (by decide) rfl (by first | rfl | (repeat (first | exact parts_nil | refine parts_cons rfl (by repeat (first | exact all_live_nil | refine all_live_clo rfl ?_ | refine all_live_slice rfl ?_ | refine all_live_map rfl ?_ | refine all_live_ptr rfl ?_)) ?_))) rfl rfl rfl rfl) rfl (by simp) ?_
 refine al_callp into16 rfl rfl rfl (c_Run toggleN toggle_small [[1], [1], [0]] ins110 _) (by simp) ?_
 refine al_op (op_move rfl) rfl (by simp) ?_
 refine al_op (op_extract rfl rfl rfl) rfl (by simp) ?_
 refine al_op (op_extract rfl rfl rfl) rfl (by simp) ?_
 refine al_op (op_assign rfl) rfl (by simp) ?_
 refine al_op (op_assign rfl) rfl (by simp) ?_
 refine al_nil ?_
 refine aw_seq ?_
 refine aw_as 3 (.list 1 (([[0], [1], [0]] : List (List Int)).map encL)) rfl (by rw [run110]) ?_
 refine aw_as 4 (.v (.int .i64 (0))) rfl (by rw [run110]) ?_
 refine aw_region ?_
 first
   | refine al_callp into17 rfl rfl rfl ((l_toggle ) _) (by simp) ?_
   | refine al_callp into17 rfl rfl rfl (ac_told re_nil ((l_toggle ) _)) (by simp) ?_
 refine al_callp into6 rfl rfl rfl (c_Reach toggleN toggle_small _) (by simp) ?_
 refine al_op (op_move rfl) rfl (by simp) ?_
 refine al_op (op_extract rfl rfl rfl) rfl (by simp) ?_
 refine al_op (op_extract rfl rfl rfl) rfl (by simp) ?_
 refine al_op (op_assign rfl) rfl (by simp) ?_
 refine al_op (op_assign rfl) rfl (by simp) ?_
 refine al_nil ?_
 refine aw_seq ?_
 refine aw_as 5 (.list 1 (([0, 1] : List Int).map encI)) rfl (by rw [toggle_reach]) ?_
 refine aw_as 6 (.v (.int .i64 (0))) rfl (by rw [toggle_reach]) ?_
 refine aw_region ?_
 first
   | refine al_callp into17 rfl rfl rfl ((l_toggle ) _) (by simp) ?_
   | refine al_callp into17 rfl rfl rfl (ac_told re_nil ((l_toggle ) _)) (by simp) ?_
 refine al_callp into8 rfl rfl rfl (c_Way toggleN toggle_small 1 _) (by simp) ?_
 refine al_op (op_move rfl) rfl (by simp) ?_
 refine al_op (op_extract rfl rfl rfl) rfl (by simp) ?_
 refine al_op (op_extract rfl rfl rfl) rfl (by simp) ?_
 refine al_op (op_assign rfl) rfl (by simp) ?_
 refine al_op (op_assign rfl) rfl (by simp) ?_
 refine al_nil ?_
 refine aw_seq ?_
 refine aw_as 7 (.list 1 (([[1]] : List (List Int)).map encL)) rfl (by rw [toggle_way]) ?_
 refine aw_as 8 (.v (.int .i64 (0))) rfl (by rw [toggle_way]) ?_
 refine aw_region ?_
 first
   | refine al_callp into17 rfl rfl rfl ((l_toggle ) _) (by simp) ?_
   | refine al_callp into17 rfl rfl rfl (ac_told re_nil ((l_toggle ) _)) (by simp) ?_
 refine al_op (op_move rfl) rfl (by simp) ?_
 refine al_callp into10 rfl rfl rfl (c_Round toggleN toggle_small [1] bytes1 _) (by simp) ?_
 refine al_op (op_move rfl) rfl (by simp) ?_
 refine al_op (op_extract rfl rfl rfl) rfl (by simp) ?_
 refine al_op (op_extract rfl rfl rfl) rfl (by simp) ?_
 refine al_op (op_extract rfl rfl rfl) rfl (by simp) ?_
 refine al_op (op_assign rfl) rfl (by simp) ?_
 refine al_op (op_assign rfl) rfl (by simp) ?_
 refine al_op (op_assign rfl) rfl (by simp) ?_
 refine al_nil ?_
 refine aw_seq ?_
 refine aw_as 9 (.v (.int .i64 (0))) rfl (by rw [toggle_round]) ?_
 refine aw_as 10 (.v (.int .i64 (2))) rfl (by rw [toggle_round]) ?_
 refine aw_as 11 (.v (.int .i64 (0))) rfl (by rw [toggle_round]) ?_
 refine aw_region ?_
 first
   | refine al_callp into17 rfl rfl rfl ((l_toggle ) _) (by simp) ?_
   | refine al_callp into17 rfl rfl rfl (ac_told re_nil ((l_toggle ) _)) (by simp) ?_
 refine al_op (op_list encU ([3] : List Nat) Tryz.underlying51 info50 rfl rfl (by decide) rfl (by decide) rfl (by first | rfl | (repeat (first | exact parts_nil | refine parts_cons rfl (by repeat (first | exact all_live_nil | refine all_live_clo rfl ?_ | refine all_live_slice rfl ?_ | refine all_live_map rfl ?_ | refine all_live_ptr rfl ?_)) ?_))) rfl rfl rfl rfl) rfl (by simp) ?_
 refine al_op (op_list encU ([1] : List Nat) Tryz.underlying51 info50 rfl rfl (by decide) rfl (by decide) rfl (by first | rfl | (repeat (first | exact parts_nil | refine parts_cons rfl (by repeat (first | exact all_live_nil | refine all_live_clo rfl ?_ | refine all_live_slice rfl ?_ | refine all_live_map rfl ?_ | refine all_live_ptr rfl ?_)) ?_))) rfl rfl rfl rfl) rfl (by simp) ?_
 refine al_op (op_list encLU ([[3], [1]] : List (List Nat)) Tryz.underlying47 info51 rfl rfl (by decide) rfl (by decide) rfl (by first | rfl | (repeat (first | exact parts_nil | refine parts_cons rfl (by repeat (first | exact all_live_nil | refine all_live_clo rfl ?_ | refine all_live_slice rfl ?_ | refine all_live_map rfl ?_ | refine all_live_ptr rfl ?_)) ?_))) rfl rfl rfl rfl) rfl (by simp) ?_
 refine al_callp into18 rfl rfl rfl (c_Many toggleN toggle_small [[3], [1]] insu31 _) (by simp) ?_
 refine al_op (op_move rfl) rfl (by simp) ?_
 refine al_op (op_extract rfl rfl rfl) rfl (by simp) ?_
 refine al_op (op_extract rfl rfl rfl) rfl (by simp) ?_
 refine al_op (op_assign rfl) rfl (by simp) ?_
 refine al_op (op_assign rfl) rfl (by simp) ?_
 refine al_nil ?_
 refine aw_seq ?_
 refine aw_as 12 (.list 1 (([[0], [3]] : List (List Nat)).map encLU)) rfl (by rw [toggle_many]) ?_
 refine aw_as 13 (.v (.int .i64 (0))) rfl (by rw [toggle_many]) ?_
 refine aw_region ?_
 first
   | refine al_callp into17 rfl rfl rfl ((l_toggle ) _) (by simp) ?_
   | refine al_callp into17 rfl rfl rfl (ac_told re_nil ((l_toggle ) _)) (by simp) ?_
 refine al_op (op_list encB ([] : List Int) Tryz.underlying28 info44 rfl rfl (by decide) rfl (by decide) rfl (by first | rfl | (repeat (first | exact parts_nil | refine parts_cons rfl (by repeat (first | exact all_live_nil | refine all_live_clo rfl ?_ | refine all_live_slice rfl ?_ | refine all_live_map rfl ?_ | refine all_live_ptr rfl ?_)) ?_))) rfl rfl rfl rfl) rfl (by simp) ?_
 refine al_op (op_list encL ([[]] : List (List Int)) Tryz.underlying35 info28 rfl rfl (by decide) rfl (by decide) rfl (by first | rfl | (repeat (first | exact parts_nil | refine parts_cons rfl (by repeat (first | exact all_live_nil | refine all_live_clo rfl ?_ | refine all_live_slice rfl ?_ | refine all_live_map rfl ?_ | refine all_live_ptr rfl ?_)) ?_))) rfl rfl rfl rfl) rfl (by simp) ?_
 refine al_callp into16 rfl rfl rfl (c_Run toggleN toggle_small [[]] ins_e _) (by simp) ?_
 refine al_op (op_move rfl) rfl (by simp) ?_
 refine al_op (op_extract rfl rfl rfl) rfl (by simp) ?_
 refine al_op (op_extract rfl rfl rfl) rfl (by simp) ?_
 refine al_op (op_assign rfl) rfl (by simp) ?_
 refine al_op (op_assign rfl) rfl (by simp) ?_
 refine al_nil ?_
 refine aw_seq ?_
 refine aw_as 15 (.v (.int .i64 (2))) rfl (by rw [run_e]) ?_
 refine aw_region ?_
 first
   | refine al_callp into17 rfl rfl rfl ((l_toggle ) _) (by simp) ?_
   | refine al_callp into17 rfl rfl rfl (ac_told re_nil ((l_toggle ) _)) (by simp) ?_
 refine al_op (op_move rfl) rfl (by simp) ?_
 refine al_op (op_list encL ([[1]] : List (List Int)) Tryz.underlying35 info28 rfl rfl (by decide) rfl (by decide) rfl (by first | rfl | (repeat (first | exact parts_nil | refine parts_cons rfl (by repeat (first | exact all_live_nil | refine all_live_clo rfl ?_ | refine all_live_slice rfl ?_ | refine all_live_map rfl ?_ | refine all_live_ptr rfl ?_)) ?_))) rfl rfl rfl rfl) rfl (by simp) ?_
 refine al_callp into19 rfl rfl rfl (c_Last toggleN toggle_small [[1]] ins1 _) (by simp) ?_
 refine al_op (op_move rfl) rfl (by simp) ?_
 refine al_op (op_extract rfl rfl rfl) rfl (by simp) ?_
 refine al_op (op_extract rfl rfl rfl) rfl (by simp) ?_
 refine al_op (op_assign rfl) rfl (by simp) ?_
 refine al_op (op_assign rfl) rfl (by simp) ?_
 refine al_nil ?_
 refine aw_seq ?_
 refine aw_as 16 (.list 1 (([1] : List Int).map encB)) rfl (by rw [run1]) ?_
 refine aw_as 17 (.v (.int .i64 (0))) rfl (by rw [run1]) ?_
 refine aw_region ?_
 refine al_op (op_move rfl) rfl (by simp) ?_
 refine al_op (op_eql rfl rfl) rfl (by simp) ?_
 refine al_op (op_move rfl) rfl (by simp) ?_
 apply al_and 7 70 77 rfl
 ·intro h1; have gh1 := h1
  try simp only [nrm] at h1
  refine al_take (op_move rfl) rfl rfl rfl rfl (by simp) ?_
  refine al_take (op_move rfl) rfl rfl rfl rfl (by simp) ?_
  refine al_take (op_move rfl) rfl rfl rfl rfl (by simp) ?_
  refine al_take (op_move rfl) rfl rfl rfl rfl (by simp) ?_
  refine al_take (op_list encL ([[0], [1], [0]] : List (List Int)) Tryz.underlying35 info28 rfl rfl (by decide) rfl (by decide) rfl (by first | rfl | (repeat (first | exact parts_nil | refine parts_cons rfl (by repeat (first | exact all_live_nil | refine all_live_clo rfl ?_ | refine all_live_slice rfl ?_ | refine all_live_map rfl ?_ | refine all_live_ptr rfl ?_)) ?_))) rfl rfl rfl rfl) rfl rfl rfl rfl (by simp) ?_
  refine al_callp_take into13 rfl rfl rfl rfl rfl rfl (l_all [[0], [1], [0]] [[0], [1], [0]] ins010 ins010 _) (by simp) ?_
  first
    | refine al_op (op_pick rfl rfl) rfl (by simp) ?_
    | refine al_op (op_and rfl rfl rfl) rfl (by simp) ?_
  refine al_nil ⟨rfl, rfl, rfl, keep_of ?_⟩
  repeat (first | exact subx_refl | exact subx_known rfl gh1 subx_refl | refine subx_put rfl ?_)
 ·intro h1; have gh1 := h1
  try simp only [nrm] at h1
  refine al_pass rfl rfl rfl rfl (by simp) ?_
  refine al_pass rfl rfl rfl rfl (by simp) ?_
  refine al_pass rfl rfl rfl rfl (by simp) ?_
  refine al_pass rfl rfl rfl rfl (by simp) ?_
  refine al_pass rfl rfl rfl rfl (by simp) ?_
  refine al_pass rfl rfl rfl rfl (by simp) ?_
  first
    | refine al_op (op_pick rfl rfl) rfl (by simp) ?_
    | refine al_op (op_and rfl rfl rfl) rfl (by simp) ?_
  refine al_nil ⟨rfl, rfl, rfl, keep_of ?_⟩
  repeat (first | exact subx_refl | exact subx_known rfl gh1 subx_refl | refine subx_put rfl ?_)
 refine al_op (op_move rfl) rfl (by simp) ?_
 apply al_and 3 78 81 rfl
 ·intro h2; have gh2 := h2
  try simp only [nrm] at h2
  refine al_take (op_move rfl) rfl rfl rfl rfl (by simp) ?_
  refine al_take (op_eql rfl rfl) rfl rfl rfl rfl (by simp) ?_
  first
    | refine al_op (op_pick rfl rfl) rfl (by simp) ?_
    | refine al_op (op_and rfl rfl rfl) rfl (by simp) ?_
  refine al_nil ⟨rfl, rfl, rfl, keep_of ?_⟩
  repeat (first | exact subx_refl | exact subx_known rfl gh2 subx_refl | refine subx_put rfl ?_)
 ·intro h2; have gh2 := h2
  try simp only [nrm] at h2
  refine al_pass rfl rfl rfl rfl (by simp) ?_
  refine al_pass rfl rfl rfl rfl (by simp) ?_
  first
    | refine al_op (op_pick rfl rfl) rfl (by simp) ?_
    | refine al_op (op_and rfl rfl rfl) rfl (by simp) ?_
  refine al_nil ⟨rfl, rfl, rfl, keep_of ?_⟩
  repeat (first | exact subx_refl | exact subx_known rfl gh2 subx_refl | refine subx_put rfl ?_)
 refine al_op (op_move rfl) rfl (by simp) ?_
 apply al_and 4 82 86 rfl
 ·intro h3; have gh3 := h3
  try simp only [nrm] at h3
  refine al_take (op_move rfl) rfl rfl rfl rfl (by simp) ?_
  first
    | refine al_take (op_len_map Tryz.underlying31 rfl) rfl rfl rfl rfl (by simp) ?_
    | refine al_take (op_len_slice Tryz.underlying31 rfl rfl) rfl rfl rfl rfl (by simp) ?_
    | refine al_take (op_len_list Tryz.underlying31 rfl) rfl rfl rfl rfl (by simp) ?_
    | refine al_take (op_len_v Tryz.underlying31 rfl) rfl rfl rfl rfl (by simp) ?_
    | refine al_take (op_len_nil Tryz.underlying31 rfl) rfl rfl rfl rfl (by simp) ?_
  refine al_take (op_eql rfl rfl) rfl rfl rfl rfl (by simp) ?_
  first
    | refine al_op (op_pick rfl rfl) rfl (by simp) ?_
    | refine al_op (op_and rfl rfl rfl) rfl (by simp) ?_
  refine al_nil ⟨rfl, rfl, rfl, keep_of ?_⟩
  repeat (first | exact subx_refl | exact subx_known rfl gh3 subx_refl | refine subx_put rfl ?_)
 ·intro h3; have gh3 := h3
  try simp only [nrm] at h3
  refine al_pass rfl rfl rfl rfl (by simp) ?_
  refine al_pass rfl rfl rfl rfl (by simp) ?_
  refine al_pass rfl rfl rfl rfl (by simp) ?_
  first
    | refine al_op (op_pick rfl rfl) rfl (by simp) ?_
    | refine al_op (op_and rfl rfl rfl) rfl (by simp) ?_
  refine al_nil ⟨rfl, rfl, rfl, keep_of ?_⟩
  repeat (first | exact subx_refl | exact subx_known rfl gh3 subx_refl | refine subx_put rfl ?_)
 refine al_op (op_move rfl) rfl (by simp) ?_
 apply al_and 3 87 90 rfl
 ·intro h4; have gh4 := h4
  try simp only [nrm] at h4
  refine al_take (op_move rfl) rfl rfl rfl rfl (by simp) ?_
  refine al_take (op_eql rfl rfl) rfl rfl rfl rfl (by simp) ?_
  first
    | refine al_op (op_pick rfl rfl) rfl (by simp) ?_
    | refine al_op (op_and rfl rfl rfl) rfl (by simp) ?_
  refine al_nil ⟨rfl, rfl, rfl, keep_of ?_⟩
  repeat (first | exact subx_refl | exact subx_known rfl gh4 subx_refl | refine subx_put rfl ?_)
 ·intro h4; have gh4 := h4
  try simp only [nrm] at h4
  refine al_pass rfl rfl rfl rfl (by simp) ?_
  refine al_pass rfl rfl rfl rfl (by simp) ?_
  first
    | refine al_op (op_pick rfl rfl) rfl (by simp) ?_
    | refine al_op (op_and rfl rfl rfl) rfl (by simp) ?_
  refine al_nil ⟨rfl, rfl, rfl, keep_of ?_⟩
  repeat (first | exact subx_refl | exact subx_known rfl gh4 subx_refl | refine subx_put rfl ?_)
 refine al_op (op_move rfl) rfl (by simp) ?_
 apply al_and 5 91 96 rfl
 ·intro h5; have gh5 := h5
  try simp only [nrm] at h5
  refine al_take (op_move rfl) rfl rfl rfl rfl (by simp) ?_
  refine al_take (op_move rfl) rfl rfl rfl rfl (by simp) ?_
  refine al_take (op_list encL ([[1]] : List (List Int)) Tryz.underlying35 info28 rfl rfl (by decide) rfl (by decide) rfl (by first | rfl | (repeat (first | exact parts_nil | refine parts_cons rfl (by repeat (first | exact all_live_nil | refine all_live_clo rfl ?_ | refine all_live_slice rfl ?_ | refine all_live_map rfl ?_ | refine all_live_ptr rfl ?_)) ?_))) rfl rfl rfl rfl) rfl rfl rfl rfl (by simp) ?_
  refine al_callp_take into13 rfl rfl rfl rfl rfl rfl (l_all [[1]] [[1]] ins1 ins1 _) (by simp) ?_
  first
    | refine al_op (op_pick rfl rfl) rfl (by simp) ?_
    | refine al_op (op_and rfl rfl rfl) rfl (by simp) ?_
  refine al_nil ⟨rfl, rfl, rfl, keep_of ?_⟩
  repeat (first | exact subx_refl | exact subx_known rfl gh5 subx_refl | refine subx_put rfl ?_)
 ·intro h5; have gh5 := h5
  try simp only [nrm] at h5
  refine al_pass rfl rfl rfl rfl (by simp) ?_
  refine al_pass rfl rfl rfl rfl (by simp) ?_
  refine al_pass rfl rfl rfl rfl (by simp) ?_
  refine al_pass rfl rfl rfl rfl (by simp) ?_
  first
    | refine al_op (op_pick rfl rfl) rfl (by simp) ?_
    | refine al_op (op_and rfl rfl rfl) rfl (by simp) ?_
  refine al_nil ⟨rfl, rfl, rfl, keep_of ?_⟩
  repeat (first | exact subx_refl | exact subx_known rfl gh5 subx_refl | refine subx_put rfl ?_)
 refine al_op (op_move rfl) rfl (by simp) ?_
 apply al_and 3 97 100 rfl
 ·intro h6; have gh6 := h6
  try simp only [nrm] at h6
  refine al_take (op_move rfl) rfl rfl rfl rfl (by simp) ?_
  refine al_take (op_eql rfl rfl) rfl rfl rfl rfl (by simp) ?_
  first
    | refine al_op (op_pick rfl rfl) rfl (by simp) ?_
    | refine al_op (op_and rfl rfl rfl) rfl (by simp) ?_
  refine al_nil ⟨rfl, rfl, rfl, keep_of ?_⟩
  repeat (first | exact subx_refl | exact subx_known rfl gh6 subx_refl | refine subx_put rfl ?_)
 ·intro h6; have gh6 := h6
  try simp only [nrm] at h6
  refine al_pass rfl rfl rfl rfl (by simp) ?_
  refine al_pass rfl rfl rfl rfl (by simp) ?_
  first
    | refine al_op (op_pick rfl rfl) rfl (by simp) ?_
    | refine al_op (op_and rfl rfl rfl) rfl (by simp) ?_
  refine al_nil ⟨rfl, rfl, rfl, keep_of ?_⟩
  repeat (first | exact subx_refl | exact subx_known rfl gh6 subx_refl | refine subx_put rfl ?_)
 refine al_op (op_move rfl) rfl (by simp) ?_
 apply al_and 3 101 104 rfl
 ·intro h7; have gh7 := h7
  try simp only [nrm] at h7
  refine al_take (op_move rfl) rfl rfl rfl rfl (by simp) ?_
  refine al_take (op_eql rfl rfl) rfl rfl rfl rfl (by simp) ?_
  first
    | refine al_op (op_pick rfl rfl) rfl (by simp) ?_
    | refine al_op (op_and rfl rfl rfl) rfl (by simp) ?_
  refine al_nil ⟨rfl, rfl, rfl, keep_of ?_⟩
  repeat (first | exact subx_refl | exact subx_known rfl gh7 subx_refl | refine subx_put rfl ?_)
 ·intro h7; have gh7 := h7
  try simp only [nrm] at h7
  refine al_pass rfl rfl rfl rfl (by simp) ?_
  refine al_pass rfl rfl rfl rfl (by simp) ?_
  first
    | refine al_op (op_pick rfl rfl) rfl (by simp) ?_
    | refine al_op (op_and rfl rfl rfl) rfl (by simp) ?_
  refine al_nil ⟨rfl, rfl, rfl, keep_of ?_⟩
  repeat (first | exact subx_refl | exact subx_known rfl gh7 subx_refl | refine subx_put rfl ?_)
 refine al_op (op_move rfl) rfl (by simp) ?_
 apply al_and 3 105 108 rfl
 ·intro h8; have gh8 := h8
  try simp only [nrm] at h8
  refine al_take (op_move rfl) rfl rfl rfl rfl (by simp) ?_
  refine al_take (op_eql rfl rfl) rfl rfl rfl rfl (by simp) ?_
  first
    | refine al_op (op_pick rfl rfl) rfl (by simp) ?_
    | refine al_op (op_and rfl rfl rfl) rfl (by simp) ?_
  refine al_nil ⟨rfl, rfl, rfl, keep_of ?_⟩
  repeat (first | exact subx_refl | exact subx_known rfl gh8 subx_refl | refine subx_put rfl ?_)
 ·intro h8; have gh8 := h8
  try simp only [nrm] at h8
  refine al_pass rfl rfl rfl rfl (by simp) ?_
  refine al_pass rfl rfl rfl rfl (by simp) ?_
  first
    | refine al_op (op_pick rfl rfl) rfl (by simp) ?_
    | refine al_op (op_and rfl rfl rfl) rfl (by simp) ?_
  refine al_nil ⟨rfl, rfl, rfl, keep_of ?_⟩
  repeat (first | exact subx_refl | exact subx_known rfl gh8 subx_refl | refine subx_put rfl ?_)
 refine al_op (op_move rfl) rfl (by simp) ?_
 apply al_and 3 109 112 rfl
 ·intro h9; have gh9 := h9
  try simp only [nrm] at h9
  refine al_take (op_move rfl) rfl rfl rfl rfl (by simp) ?_
  refine al_take (op_eql rfl rfl) rfl rfl rfl rfl (by simp) ?_
  first
    | refine al_op (op_pick rfl rfl) rfl (by simp) ?_
    | refine al_op (op_and rfl rfl rfl) rfl (by simp) ?_
  refine al_nil ⟨rfl, rfl, rfl, keep_of ?_⟩
  repeat (first | exact subx_refl | exact subx_known rfl gh9 subx_refl | refine subx_put rfl ?_)
 ·intro h9; have gh9 := h9
  try simp only [nrm] at h9
  refine al_pass rfl rfl rfl rfl (by simp) ?_
  refine al_pass rfl rfl rfl rfl (by simp) ?_
  first
    | refine al_op (op_pick rfl rfl) rfl (by simp) ?_
    | refine al_op (op_and rfl rfl rfl) rfl (by simp) ?_
  refine al_nil ⟨rfl, rfl, rfl, keep_of ?_⟩
  repeat (first | exact subx_refl | exact subx_known rfl gh9 subx_refl | refine subx_put rfl ?_)
 refine al_op (op_move rfl) rfl (by simp) ?_
 apply al_and 4 113 117 rfl
 ·intro h10; have gh10 := h10
  try simp only [nrm] at h10
  refine al_take (op_move rfl) rfl rfl rfl rfl (by simp) ?_
  first
    | refine al_take (op_len_map Tryz.underlying47 rfl) rfl rfl rfl rfl (by simp) ?_
    | refine al_take (op_len_slice Tryz.underlying47 rfl rfl) rfl rfl rfl rfl (by simp) ?_
    | refine al_take (op_len_list Tryz.underlying47 rfl) rfl rfl rfl rfl (by simp) ?_
    | refine al_take (op_len_v Tryz.underlying47 rfl) rfl rfl rfl rfl (by simp) ?_
    | refine al_take (op_len_nil Tryz.underlying47 rfl) rfl rfl rfl rfl (by simp) ?_
  refine al_take (op_eql rfl rfl) rfl rfl rfl rfl (by simp) ?_
  first
    | refine al_op (op_pick rfl rfl) rfl (by simp) ?_
    | refine al_op (op_and rfl rfl rfl) rfl (by simp) ?_
  refine al_nil ⟨rfl, rfl, rfl, keep_of ?_⟩
  repeat (first | exact subx_refl | exact subx_known rfl gh10 subx_refl | refine subx_put rfl ?_)
 ·intro h10; have gh10 := h10
  try simp only [nrm] at h10
  refine al_pass rfl rfl rfl rfl (by simp) ?_
  refine al_pass rfl rfl rfl rfl (by simp) ?_
  refine al_pass rfl rfl rfl rfl (by simp) ?_
  first
    | refine al_op (op_pick rfl rfl) rfl (by simp) ?_
    | refine al_op (op_and rfl rfl rfl) rfl (by simp) ?_
  refine al_nil ⟨rfl, rfl, rfl, keep_of ?_⟩
  repeat (first | exact subx_refl | exact subx_known rfl gh10 subx_refl | refine subx_put rfl ?_)
 refine al_op (op_move rfl) rfl (by simp) ?_
 apply al_and 6 118 124 rfl
 ·intro h11; have gh11 := h11
  try simp only [nrm] at h11
  refine al_take (op_move rfl) rfl rfl rfl rfl (by simp) ?_
  first
    | refine al_take (op_index_map default Tryz.underlying47 info51 rfl rfl rfl (by first | (with_reducible exact Int.toNat_natCast _) | rfl) (by omega) (by omega)) rfl rfl rfl rfl (by simp) ?_
    | refine al_take (op_index_slice Tryz.underlying47 info51 rfl rfl rfl rfl (by omega) (by omega)) rfl rfl rfl rfl (by simp) ?_
    | refine al_take (op_index_list Tryz.underlying47 info51 rfl rfl rfl (by decide) rfl) rfl rfl rfl rfl (by simp) ?_
  first
    | refine al_take (op_load_rptr Tryz.underlying51 info51 rfl rfl) rfl rfl rfl rfl (by simp) ?_
    | refine al_take (op_load_map Tryz.underlying51 info51 rfl rfl (by omega) rfl) rfl rfl rfl rfl (by simp) ?_
    | refine al_take (op_load_ptr Tryz.underlying51 info51 rfl rfl rfl rfl) rfl rfl rfl rfl (by simp) ?_
  first
    | refine al_take (op_len_map Tryz.underlying51 rfl) rfl rfl rfl rfl (by simp) ?_
    | refine al_take (op_len_slice Tryz.underlying51 rfl rfl) rfl rfl rfl rfl (by simp) ?_
    | refine al_take (op_len_list Tryz.underlying51 rfl) rfl rfl rfl rfl (by simp) ?_
    | refine al_take (op_len_v Tryz.underlying51 rfl) rfl rfl rfl rfl (by simp) ?_
    | refine al_take (op_len_nil Tryz.underlying51 rfl) rfl rfl rfl rfl (by simp) ?_
  refine al_take (op_eql rfl rfl) rfl rfl rfl rfl (by simp) ?_
  first
    | refine al_op (op_pick rfl rfl) rfl (by simp) ?_
    | refine al_op (op_and rfl rfl rfl) rfl (by simp) ?_
  refine al_nil ⟨rfl, rfl, rfl, keep_of ?_⟩
  repeat (first | exact subx_refl | exact subx_known rfl gh11 subx_refl | refine subx_put rfl ?_)
 ·intro h11; have gh11 := h11
  try simp only [nrm] at h11
  refine al_pass rfl rfl rfl rfl (by simp) ?_
  refine al_pass rfl rfl rfl rfl (by simp) ?_
  refine al_pass rfl rfl rfl rfl (by simp) ?_
  refine al_pass rfl rfl rfl rfl (by simp) ?_
  refine al_pass rfl rfl rfl rfl (by simp) ?_
  first
    | refine al_op (op_pick rfl rfl) rfl (by simp) ?_
    | refine al_op (op_and rfl rfl rfl) rfl (by simp) ?_
  refine al_nil ⟨rfl, rfl, rfl, keep_of ?_⟩
  repeat (first | exact subx_refl | exact subx_known rfl gh11 subx_refl | refine subx_put rfl ?_)
 refine al_op (op_move rfl) rfl (by simp) ?_
 apply al_and 7 125 132 rfl
 ·intro h12; have gh12 := h12
  try simp only [nrm] at h12
  refine al_take (op_move rfl) rfl rfl rfl rfl (by simp) ?_
  first
    | refine al_take (op_index_map default Tryz.underlying47 info51 rfl rfl rfl (by first | (with_reducible exact Int.toNat_natCast _) | rfl) (by omega) (by omega)) rfl rfl rfl rfl (by simp) ?_
    | refine al_take (op_index_slice Tryz.underlying47 info51 rfl rfl rfl rfl (by omega) (by omega)) rfl rfl rfl rfl (by simp) ?_
    | refine al_take (op_index_list Tryz.underlying47 info51 rfl rfl rfl (by decide) rfl) rfl rfl rfl rfl (by simp) ?_
  first
    | refine al_take (op_load_rptr Tryz.underlying51 info51 rfl rfl) rfl rfl rfl rfl (by simp) ?_
    | refine al_take (op_load_map Tryz.underlying51 info51 rfl rfl (by omega) rfl) rfl rfl rfl rfl (by simp) ?_
    | refine al_take (op_load_ptr Tryz.underlying51 info51 rfl rfl rfl rfl) rfl rfl rfl rfl (by simp) ?_
  first
    | refine al_take (op_index_map default Tryz.underlying51 info50 rfl rfl rfl (by first | (with_reducible exact Int.toNat_natCast _) | rfl) (by omega) (by omega)) rfl rfl rfl rfl (by simp) ?_
    | refine al_take (op_index_slice Tryz.underlying51 info50 rfl rfl rfl rfl (by omega) (by omega)) rfl rfl rfl rfl (by simp) ?_
    | refine al_take (op_index_list Tryz.underlying51 info50 rfl rfl rfl (by decide) rfl) rfl rfl rfl rfl (by simp) ?_
  first
    | refine al_take (op_load_rptr Tryz.underlying50 info50 rfl rfl) rfl rfl rfl rfl (by simp) ?_
    | refine al_take (op_load_map Tryz.underlying50 info50 rfl rfl (by omega) rfl) rfl rfl rfl rfl (by simp) ?_
    | refine al_take (op_load_ptr Tryz.underlying50 info50 rfl rfl rfl rfl) rfl rfl rfl rfl (by simp) ?_
  refine al_take (op_eql rfl rfl) rfl rfl rfl rfl (by simp) ?_
  first
    | refine al_op (op_pick rfl rfl) rfl (by simp) ?_
    | refine al_op (op_and rfl rfl rfl) rfl (by simp) ?_
  refine al_nil ⟨rfl, rfl, rfl, keep_of ?_⟩
  repeat (first | exact subx_refl | exact subx_known rfl gh12 subx_refl | refine subx_put rfl ?_)
 ·intro h12; have gh12 := h12
  try simp only [nrm] at h12
  refine al_pass rfl rfl rfl rfl (by simp) ?_
  refine al_pass rfl rfl rfl rfl (by simp) ?_
  refine al_pass rfl rfl rfl rfl (by simp) ?_
  refine al_pass rfl rfl rfl rfl (by simp) ?_
  refine al_pass rfl rfl rfl rfl (by simp) ?_
  refine al_pass rfl rfl rfl rfl (by simp) ?_
  first
    | refine al_op (op_pick rfl rfl) rfl (by simp) ?_
    | refine al_op (op_and rfl rfl rfl) rfl (by simp) ?_
  refine al_nil ⟨rfl, rfl, rfl, keep_of ?_⟩
  repeat (first | exact subx_refl | exact subx_known rfl gh12 subx_refl | refine subx_put rfl ?_)
 refine al_op (op_move rfl) rfl (by simp) ?_
 apply al_and 3 133 136 rfl
 ·intro h13; have gh13 := h13
  try simp only [nrm] at h13
  refine al_take (op_move rfl) rfl rfl rfl rfl (by simp) ?_
  refine al_take (op_eql rfl rfl) rfl rfl rfl rfl (by simp) ?_
  first
    | refine al_op (op_pick rfl rfl) rfl (by simp) ?_
    | refine al_op (op_and rfl rfl rfl) rfl (by simp) ?_
  refine al_nil ⟨rfl, rfl, rfl, keep_of ?_⟩
  repeat (first | exact subx_refl | exact subx_known rfl gh13 subx_refl | refine subx_put rfl ?_)
 ·intro h13; have gh13 := h13
  try simp only [nrm] at h13
  refine al_pass rfl rfl rfl rfl (by simp) ?_
  refine al_pass rfl rfl rfl rfl (by simp) ?_
  first
    | refine al_op (op_pick rfl rfl) rfl (by simp) ?_
    | refine al_op (op_and rfl rfl rfl) rfl (by simp) ?_
  refine al_nil ⟨rfl, rfl, rfl, keep_of ?_⟩
  repeat (first | exact subx_refl | exact subx_known rfl gh13 subx_refl | refine subx_put rfl ?_)
 refine al_op (op_move rfl) rfl (by simp) ?_
 apply al_and 3 137 140 rfl
 ·intro h14; have gh14 := h14
  try simp only [nrm] at h14
  refine al_take (op_move rfl) rfl rfl rfl rfl (by simp) ?_
  refine al_take (op_eql rfl rfl) rfl rfl rfl rfl (by simp) ?_
  first
    | refine al_op (op_pick rfl rfl) rfl (by simp) ?_
    | refine al_op (op_and rfl rfl rfl) rfl (by simp) ?_
  refine al_nil ⟨rfl, rfl, rfl, keep_of ?_⟩
  repeat (first | exact subx_refl | exact subx_known rfl gh14 subx_refl | refine subx_put rfl ?_)
 ·intro h14; have gh14 := h14
  try simp only [nrm] at h14
  refine al_pass rfl rfl rfl rfl (by simp) ?_
  refine al_pass rfl rfl rfl rfl (by simp) ?_
  first
    | refine al_op (op_pick rfl rfl) rfl (by simp) ?_
    | refine al_op (op_and rfl rfl rfl) rfl (by simp) ?_
  refine al_nil ⟨rfl, rfl, rfl, keep_of ?_⟩
  repeat (first | exact subx_refl | exact subx_known rfl gh14 subx_refl | refine subx_put rfl ?_)
 refine al_op (op_move rfl) rfl (by simp) ?_
 apply al_and 4 141 145 rfl
 ·intro h15; have gh15 := h15
  try simp only [nrm] at h15
  refine al_take (op_move rfl) rfl rfl rfl rfl (by simp) ?_
  refine al_take (op_move rfl) rfl rfl rfl rfl (by simp) ?_
  refine al_callp_take into20 rfl rfl rfl rfl rfl rfl (r_SameBits [1] [1] (by decide) _) (by simp) ?_
  first
    | refine al_op (op_pick rfl rfl) rfl (by simp) ?_
    | refine al_op (op_and rfl rfl rfl) rfl (by simp) ?_
  refine al_nil ⟨rfl, rfl, rfl, keep_of ?_⟩
  repeat (first | exact subx_refl | exact subx_known rfl gh15 subx_refl | refine subx_put rfl ?_)
 ·intro h15; have gh15 := h15
  try simp only [nrm] at h15
  refine al_pass rfl rfl rfl rfl (by simp) ?_
  refine al_pass rfl rfl rfl rfl (by simp) ?_
  refine al_pass rfl rfl rfl rfl (by simp) ?_
  first
    | refine al_op (op_pick rfl rfl) rfl (by simp) ?_
    | refine al_op (op_and rfl rfl rfl) rfl (by simp) ?_
  refine al_nil ⟨rfl, rfl, rfl, keep_of ?_⟩
  repeat (first | exact subx_refl | exact subx_known rfl gh15 subx_refl | refine subx_put rfl ?_)
 refine al_op (op_assign rfl) rfl (by simp) ?_
 refine al_nil ?_
 refine aw_freeze (fun _ => false) (fsub_cons (t := 0) rfl (.leaf _ _ (.same _)) fsub_nil) ?_
 refine aw_ret ?_
 refine ⟨_, res_1 rfl rfl, ?_, rfl⟩
 first | rfl | decide

theorem l_few (n : Net) (hn : n.Small) (c : List (List Int)) (hc : Ins c) : ACp Tryz.prog 14 [encN n, .list 1 (c.map encL)] (.v (.bool (n.few c))) := by
 refine acp_of rfl ?_
 obtain ⟨i1, i2⟩ := hc
 have hc : Ins c := ⟨i1, i2⟩
 have z1 := hn.insL
 have z2 := hn.regsL
 have z3 := hn.outsL
 have z4 := hn.gatesL
 refine ac_enter 43 Tryz.func14 rfl rfl (by simp) ?_
 refine aw_seq ?_
 refine aw_region ?_
 (refine al_opR (op_box 2 rfl rfl (by first | rfl | exact live_one rfl | (repeat (first | exact all_live_nil | refine all_live_clo rfl ?_ | refine all_live_slice rfl ?_ | refine all_live_map rfl ?_ | refine all_live_ptr rfl ?_)))) rfl (by simp) ?_; rintro _ _ ⟨ver2, rfl, rfl⟩)
 refine al_op (op_assign rfl) rfl (by simp) ?_
 refine al_nil ?_
 refine aw_seq ?_
 refine aw_seq ?_
 refine aw_region ?_
 first
   | refine al_op (op_field_rptr Tryz.underlying27 rfl info22 (by decide) rfl rfl) rfl (by simp) ?_
   | refine al_op (op_field_ptr Tryz.underlying27 rfl info22 (by decide) rfl rfl rfl) rfl (by simp) ?_
 first
   | refine al_op (op_load_rptr Tryz.underlying22 info22 rfl rfl) rfl (by simp) ?_
   | refine al_op (op_load_map Tryz.underlying22 info22 rfl rfl (by omega) rfl) rfl (by simp) ?_
   | refine al_op (op_load_ptr Tryz.underlying22 info22 rfl rfl rfl rfl) rfl (by simp) ?_
 first
   | refine al_op (op_len_map Tryz.underlying22 rfl) rfl (by simp) ?_
   | refine al_op (op_len_slice Tryz.underlying22 rfl rfl) rfl (by simp) ?_
   | refine al_op (op_len_list Tryz.underlying22 rfl) rfl (by simp) ?_
   | refine al_op (op_len_v Tryz.underlying22 rfl) rfl (by simp) ?_
   | refine al_op (op_len_nil Tryz.underlying22 rfl) rfl (by simp) ?_
 first
   | refine al_op (op_field_rptr Tryz.underlying27 rfl info23 (by decide) rfl rfl) rfl (by simp) ?_
   | refine al_op (op_field_ptr Tryz.underlying27 rfl info23 (by decide) rfl rfl rfl) rfl (by simp) ?_
 first
   | refine al_op (op_load_rptr Tryz.underlying23 info23 rfl rfl) rfl (by simp) ?_
   | refine al_op (op_load_map Tryz.underlying23 info23 rfl rfl (by omega) rfl) rfl (by simp) ?_
   | refine al_op (op_load_ptr Tryz.underlying23 info23 rfl rfl rfl rfl) rfl (by simp) ?_
 first
   | refine al_op (op_len_map Tryz.underlying23 rfl) rfl (by simp) ?_
   | refine al_op (op_len_slice Tryz.underlying23 rfl rfl) rfl (by simp) ?_
   | refine al_op (op_len_list Tryz.underlying23 rfl) rfl (by simp) ?_
   | refine al_op (op_len_v Tryz.underlying23 rfl) rfl (by simp) ?_
   | refine al_op (op_len_nil Tryz.underlying23 rfl) rfl (by simp) ?_
 refine al_op (op_add rfl rfl (by first | exact wrap_i64 (by omega) (by omega))) rfl (by simp) ?_
 first
   | refine al_op (op_field_rptr Tryz.underlying27 rfl info25 (by decide) rfl rfl) rfl (by simp) ?_
   | refine al_op (op_field_ptr Tryz.underlying27 rfl info25 (by decide) rfl rfl rfl) rfl (by simp) ?_
 first
   | refine al_op (op_load_rptr Tryz.underlying25 info25 rfl rfl) rfl (by simp) ?_
   | refine al_op (op_load_map Tryz.underlying25 info25 rfl rfl (by omega) rfl) rfl (by simp) ?_
   | refine al_op (op_load_ptr Tryz.underlying25 info25 rfl rfl rfl rfl) rfl (by simp) ?_
 first
   | refine al_op (op_len_map Tryz.underlying25 rfl) rfl (by simp) ?_
   | refine al_op (op_len_slice Tryz.underlying25 rfl rfl) rfl (by simp) ?_
   | refine al_op (op_len_list Tryz.underlying25 rfl) rfl (by simp) ?_
   | refine al_op (op_len_v Tryz.underlying25 rfl) rfl (by simp) ?_
   | refine al_op (op_len_nil Tryz.underlying25 rfl) rfl (by simp) ?_
 refine al_op (op_add rfl rfl (by first | exact wrap_i64 (by omega) (by omega))) rfl (by simp) ?_
 refine al_op (op_gtr rfl rfl) rfl (by simp) ?_
 refine al_op (op_move rfl) rfl (by simp) ?_
 apply al_or 5 19 24 rfl
 ·intro h1; have gh1 := h1
  try simp only [nrm] at h1
  first
    | refine al_take (op_field_rptr Tryz.underlying27 rfl info24 (by decide) rfl rfl) rfl rfl rfl rfl (by simp) ?_
    | refine al_take (op_field_ptr Tryz.underlying27 rfl info24 (by decide) rfl rfl rfl) rfl rfl rfl rfl (by simp) ?_
  first
    | refine al_take (op_load_rptr Tryz.underlying24 info24 rfl rfl) rfl rfl rfl rfl (by simp) ?_
    | refine al_take (op_load_map Tryz.underlying24 info24 rfl rfl (by omega) rfl) rfl rfl rfl rfl (by simp) ?_
    | refine al_take (op_load_ptr Tryz.underlying24 info24 rfl rfl rfl rfl) rfl rfl rfl rfl (by simp) ?_
  first
    | refine al_take (op_len_map Tryz.underlying24 rfl) rfl rfl rfl rfl (by simp) ?_
    | refine al_take (op_len_slice Tryz.underlying24 rfl rfl) rfl rfl rfl rfl (by simp) ?_
    | refine al_take (op_len_list Tryz.underlying24 rfl) rfl rfl rfl rfl (by simp) ?_
    | refine al_take (op_len_v Tryz.underlying24 rfl) rfl rfl rfl rfl (by simp) ?_
    | refine al_take (op_len_nil Tryz.underlying24 rfl) rfl rfl rfl rfl (by simp) ?_
  refine al_take (op_gtr rfl rfl) rfl rfl rfl rfl (by simp) ?_
  first
    | refine al_op (op_pick rfl rfl) rfl (by simp) ?_
    | refine al_op (op_or rfl rfl rfl) rfl (by simp) ?_
  refine al_nil ⟨rfl, rfl, rfl, keep_of ?_⟩
  repeat (first | exact subx_refl | exact subx_known rfl gh1 subx_refl | refine subx_put rfl ?_)
 ·intro h1; have gh1 := h1
  try simp only [nrm] at h1
  refine al_pass rfl rfl rfl rfl (by simp) ?_
  refine al_pass rfl rfl rfl rfl (by simp) ?_
  refine al_pass rfl rfl rfl rfl (by simp) ?_
  refine al_pass rfl rfl rfl rfl (by simp) ?_
  first
    | refine al_op (op_pick rfl rfl) rfl (by simp) ?_
    | refine al_op (op_or rfl rfl rfl) rfl (by simp) ?_
  refine al_nil ⟨rfl, rfl, rfl, keep_of ?_⟩
  repeat (first | exact subx_refl | exact subx_known rfl gh1 subx_refl | refine subx_put rfl ?_)
 refine al_nil ?_
 refine aw_cond rfl (fun h2 => ?_) (fun h2 => ?_)
 ·have gh2 := h2
  try simp only [nrm] at h2
  refine aw_seq ?_
  refine aw_region ?_
  refine al_op (op_assign rfl) rfl (by simp) ?_
  refine al_nil ?_
  refine aw_freeze (fun _ => false) (fsub_cons (t := 4) rfl (.leaf _ _ (.same _)) fsub_nil) ?_
  refine aw_ret ?_
  refine ⟨_, res_1 rfl rfl, ?_, rfl⟩
  rw [Net.few_head (by simpa [Net.fewHead] using gh2)]
 ·have gh2 := h2
  try simp only [nrm] at h2
  refine aw_skip ?_
  refine aw_seq ?_
  refine aw_seq ?_
  refine aw_region ?_
  refine al_op (op_move rfl) rfl (by simp) ?_
  first
    | refine al_op (op_len_map Tryz.underlying35 rfl) rfl (by simp) ?_
    | refine al_op (op_len_slice Tryz.underlying35 rfl rfl) rfl (by simp) ?_
    | refine al_op (op_len_list Tryz.underlying35 rfl) rfl (by simp) ?_
    | refine al_op (op_len_v Tryz.underlying35 rfl) rfl (by simp) ?_
    | refine al_op (op_len_nil Tryz.underlying35 rfl) rfl (by simp) ?_
  refine al_op (op_move rfl) rfl (by simp) ?_
  refine al_nil ?_
  refine aw_block ?_
  refine aw_forT (ι := Nat) [4, 27] [] (fun i => c.length - i) (fun i => i ≤ c.length ∧ allTo (fewAt c) i = true) (fun i => ([(27, .v (.int .i64 (i)))] : Env)) (fun i s => s) (0) ?_ ?_ ?_ (fun i hinv => ?_)
  ·exact ⟨Nat.zero_le _, rfl⟩
  ·refine sub_cons (get_as rfl ?_) ?_; rotate_left; exact sub_nil
   all_goals (first | rfl | simp)
  ·rfl
  have hii := hinv.1
  refine aw_seq ?_
  refine aw_region ?_
  refine al_op (op_lss rfl rfl) rfl (by simp) ?_
  refine al_nil ?_
  refine aw_seq ?_
  refine aw_cond rfl (fun h3 => ?_) (fun h3 => ?_)
  ·have gh3 := h3
   try simp only [nrm] at h3
   refine aw_skip ?_
   refine aw_seq ?_
   refine aw_block ?_
   refine aw_seq ?_
   refine aw_region ?_
   first
     | refine al_op (op_index_map default Tryz.underlying35 info28 rfl rfl rfl (by first | (with_reducible exact Int.toNat_natCast _) | rfl) (by omega) (by omega)) rfl (by simp) ?_
     | refine al_op (op_index_slice Tryz.underlying35 info28 rfl rfl rfl rfl (by omega) (by omega)) rfl (by simp) ?_
     | refine al_op (op_index_list Tryz.underlying35 info28 rfl rfl rfl (by decide) rfl) rfl (by simp) ?_
   first
     | refine al_op (op_load_rptr Tryz.underlying28 info28 rfl rfl) rfl (by simp) ?_
     | refine al_op (op_load_map Tryz.underlying28 info28 rfl rfl (by omega) rfl) rfl (by simp) ?_
     | refine al_op (op_load_ptr Tryz.underlying28 info28 rfl rfl rfl rfl) rfl (by simp) ?_
   refine al_op (op_assign rfl) rfl (by simp) ?_
   refine al_nil ?_
   refine aw_seq ?_
   have q1 := (hc.at i).len
   refine aw_region ?_
   refine al_op (op_move rfl) rfl (by simp) ?_
   first
     | refine al_op (op_len_map Tryz.underlying28 rfl) rfl (by simp) ?_
     | refine al_op (op_len_slice Tryz.underlying28 rfl rfl) rfl (by simp) ?_
     | refine al_op (op_len_list Tryz.underlying28 rfl) rfl (by simp) ?_
     | refine al_op (op_len_v Tryz.underlying28 rfl) rfl (by simp) ?_
     | refine al_op (op_len_nil Tryz.underlying28 rfl) rfl (by simp) ?_
   refine al_op (op_gtr rfl rfl) rfl (by simp) ?_
   refine al_nil ?_
   refine aw_cond rfl (fun h4 => ?_) (fun h4 => ?_)
   ·have gh4 := h4
    try simp only [nrm] at h4
    refine aw_seq ?_
    refine aw_region ?_
    refine al_op (op_assign rfl) rfl (by simp) ?_
    refine al_nil ?_
    refine aw_freeze (fun _ => false) (fsub_cons (t := 4) rfl (.leaf _ _ (.same _)) fsub_nil) ?_
    refine aw_ret ?_
    refine ⟨_, res_1 rfl rfl, ?_, rfl⟩
    rw [Net.few_at i (by omega) (by simpa [fewAt] using gh4)]
   ·have gh4 := h4
    try simp only [nrm] at h4
    refine aw_skip ?_
    refine aw_region ?_
    refine al_op (op_add rfl rfl (by first | exact wrap_i64 (by omega) (by omega))) rfl (by simp) ?_
    refine al_op (op_move rfl) rfl (by simp) ?_
    refine al_nil ?_
    refine ⟨i + 1, ?_, ?_, ?_, ?_, ?_⟩
    ·omega
    ·exact ⟨by omega, allTo_succ hinv.2 (by simpa [fewAt] using gh4)⟩
    ·refine sub_cons (get_as rfl ?_) ?_; rotate_left; exact sub_nil
     all_goals (first | rfl | simp)
    ·repeat (first | exact subx_refl | exact subx_del | refine subx_put rfl ?_)
    ·rfl
  ·have gh3 := h3
   try simp only [nrm] at h3
   refine aw_exit ?_
   obtain rfl : i = c.length := by omega
   have hall := hinv.2
   refine aw_seq ?_
   refine aw_region ?_
   refine al_op (op_move rfl) rfl (by simp) ?_
   first
     | refine al_op (op_len_map Tryz.underlying35 rfl) rfl (by simp) ?_
     | refine al_op (op_len_slice Tryz.underlying35 rfl rfl) rfl (by simp) ?_
     | refine al_op (op_len_list Tryz.underlying35 rfl) rfl (by simp) ?_
     | refine al_op (op_len_v Tryz.underlying35 rfl) rfl (by simp) ?_
     | refine al_op (op_len_nil Tryz.underlying35 rfl) rfl (by simp) ?_
   refine al_op (op_leq rfl rfl) rfl (by simp) ?_
   refine al_op (op_move rfl) rfl (by simp) ?_
   apply al_or 4 38 42 rfl
   ·intro h5; have gh5 := h5
    try simp only [nrm] at h5
    refine al_take (op_move rfl) rfl rfl rfl rfl (by simp) ?_
    first
      | refine al_take (op_len_map Tryz.underlying35 rfl) rfl rfl rfl rfl (by simp) ?_
      | refine al_take (op_len_slice Tryz.underlying35 rfl rfl) rfl rfl rfl rfl (by simp) ?_
      | refine al_take (op_len_list Tryz.underlying35 rfl) rfl rfl rfl rfl (by simp) ?_
      | refine al_take (op_len_v Tryz.underlying35 rfl) rfl rfl rfl rfl (by simp) ?_
      | refine al_take (op_len_nil Tryz.underlying35 rfl) rfl rfl rfl rfl (by simp) ?_
    refine al_take (op_gtr rfl rfl) rfl rfl rfl rfl (by simp) ?_
    first
      | refine al_op (op_pick rfl rfl) rfl (by simp) ?_
      | refine al_op (op_or rfl rfl rfl) rfl (by simp) ?_
    refine al_nil ⟨rfl, rfl, rfl, keep_of ?_⟩
    repeat (first | exact subx_refl | exact subx_known rfl gh5 subx_refl | refine subx_put rfl ?_)
   ·intro h5; have gh5 := h5
    try simp only [nrm] at h5
    refine al_pass rfl rfl rfl rfl (by simp) ?_
    refine al_pass rfl rfl rfl rfl (by simp) ?_
    refine al_pass rfl rfl rfl rfl (by simp) ?_
    first
      | refine al_op (op_pick rfl rfl) rfl (by simp) ?_
      | refine al_op (op_or rfl rfl rfl) rfl (by simp) ?_
    refine al_nil ⟨rfl, rfl, rfl, keep_of ?_⟩
    repeat (first | exact subx_refl | exact subx_known rfl gh5 subx_refl | refine subx_put rfl ?_)
   refine al_op (op_assign rfl) rfl (by simp) ?_
   refine al_nil ?_
   refine aw_freeze (fun _ => false) (fsub_cons (t := 4) rfl (.leaf _ _ (.same _)) fsub_nil) ?_
   refine aw_ret ?_
   refine ⟨_, res_1 rfl rfl, ?_, rfl⟩
   rw [Net.few_ok (by simpa [Net.fewHead] using gh2) hall]
end Go.Proofs.YtnnklpmgncbgnaaGreat
