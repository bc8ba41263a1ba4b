/- Printed walks (gen.py, gates_ann.py): part 225. -/
import Derived.Test.YtnnklpmgncbgnaaCWay
import Derived.Test.YtnnklpmgncbgnaaW217
import Derived.Test.YtnnklpmgncbgnaaCRound
import Derived.Test.YtnnklpmgncbgnaaW207
import Derived.Test.YtnnklpmgncbgnaaCAwake
import Derived.Test.YtnnklpmgncbgnaaCLaw
import Derived.Test.YtnnklpmgncbgnaaEngY
import Derived.Test.YtnnklpmgncbgnaaFacts
set_option linter.unusedVariables false
set_option linter.unusedSimpArgs false
set_option maxRecDepth 20000
set_option maxHeartbeats 40000000
namespace Go.Proofs.Ytnnklpmgncbgnaa
open Go

theorem q_rev (v0 : Nat) (l : List (List Int)) (hl : l.length ≤ 100000) : AC Try.prog 58 [.slice 0 v0 0 l.length] ([(0, v0, .row 1 (l.map encL))]) (fun r σ' => r = .ret (.tuple []) ∧ σ' = [(0, v0, .row 1 (l.reverse.map encL))]) := by
 refine ac_enter 28 Try.func58 rfl rfl (by simp) ?_
 refine aw_seq ?_
 refine aw_region ?_
 refine al_op (op_move rfl) rfl (by simp) ?_
 first
   | refine al_op (op_len_map Try.underlying39 rfl) rfl (by simp) ?_
   | refine al_op (op_len_slice Try.underlying39 rfl rfl) rfl (by simp) ?_
   | refine al_op (op_len_list Try.underlying39 rfl) rfl (by simp) ?_
   | refine al_op (op_len_v Try.underlying39 rfl) rfl (by simp) ?_
   | refine al_op (op_len_nil Try.underlying39 rfl) rfl (by simp) ?_
 refine al_op (op_sub rfl rfl (by first | exact wrap_i64 (by omega) (by omega))) rfl (by simp) ?_
 refine al_op (op_assign rfl) rfl (by simp) ?_
 refine al_op (op_assign rfl) rfl (by simp) ?_
 refine al_nil ?_
 refine aw_block ?_
 refine aw_for2T (α := Nat) (β := List (List Int)) [2, 3] [] (fun i cur => l.length - i) (fun i cur => RevInv l cur i ∧ i ≤ l.length) (fun i cur => ([(2, .v (.int .i64 (i))), (3, .v (.int .i64 ((l.length : Int) - 1 - (i : Int))))] : Env)) (fun i cur st => ([(0, v0, .row 1 (cur.map encL))] : Store)) (0) (l) ?_ ?_ ?_ (fun i cur hinv => ?_)
 ·exact ⟨rev_zero l, Nat.zero_le _⟩
 ·refine sub_cons (get_as rfl ?_) ?_; rotate_left; refine sub_cons (get_as rfl ?_) ?_; rotate_left; exact sub_nil
  all_goals (first | rfl | (simp; done) | (congr 2; omega))
 ·rfl
 refine aw_seq ?_
 refine aw_seq ?_
 refine aw_region ?_
 refine al_op (op_move rfl) rfl (by simp) ?_
 refine al_op (op_move rfl) rfl (by simp) ?_
 refine al_op (op_lss rfl rfl) rfl (by simp) ?_
 refine al_nil ?_
 refine aw_cond rfl (fun h1 => ?_) (fun h1 => ?_)
 ·have gh1 := h1
  try simp only [nrm] at h1
  refine aw_skip ?_
  refine aw_seq ?_
  refine aw_block ?_
  have hcl := hinv.1.1
  have hsl : (cur.set (0 + (i : Int).toNat) (cur.getD (0 + ((l.length : Int) - 1 - (i : Int)).toNat) default)).length = cur.length := List.length_set
  refine aw_plan [0, 1, 2, 3, 4, 5, 6, 7, 8, 9, 10, 11, 12, 13, 14, 15] (Checked.mixed Try.checked) (by kernel_rfl) ?_
  refine afl_float rfl rfl (opk_of (op_move rfl)) (by simp) ?_
  refine afl_float rfl rfl (opk_of (op_move rfl)) (by simp) ?_
  refine afl_float rfl rfl (opk_of (op_move rfl)) (by simp) ?_
  refine afl_float rfl rfl (opk_of (op_move rfl)) (by simp) ?_
  refine afl_float rfl rfl (opk_of (op_move rfl)) (by simp) ?_
  refine afl_float rfl rfl (opk_of (op_move rfl)) (by simp) ?_
  first
    | refine afl_float rfl rfl (opk_of (op_index_map default Try.underlying39 info40 rfl rfl rfl (by first | (with_reducible exact Int.toNat_natCast _) | rfl) (by omega) (by omega))) (by simp) ?_
    | refine afl_float rfl rfl (opk_of (op_index_slice Try.underlying39 info40 rfl rfl rfl rfl (by omega) (by omega))) (by simp) ?_
    | refine afl_float rfl rfl (opk_of (op_index_list Try.underlying39 info40 rfl rfl rfl (by decide) rfl)) (by simp) ?_
  first
    | refine afl_float rfl rfl (opk_of (op_load_rptr Try.underlying40 info40 rfl rfl)) (by simp) ?_
    | refine afl_float rfl rfl (opk_of (op_load_map Try.underlying40 info40 rfl rfl (by omega) rfl)) (by simp) ?_
    | refine afl_float rfl rfl (opk_of (op_load_ptr Try.underlying40 info40 rfl rfl rfl rfl)) (by simp) ?_
  refine afl_float rfl rfl (opk_of (op_move rfl)) (by simp) ?_
  refine afl_float rfl rfl (opk_of (op_move rfl)) (by simp) ?_
  first
    | refine afl_float rfl rfl (opk_of (op_index_map default Try.underlying39 info40 rfl rfl rfl (by first | (with_reducible exact Int.toNat_natCast _) | rfl) (by omega) (by omega))) (by simp) ?_
    | refine afl_float rfl rfl (opk_of (op_index_slice Try.underlying39 info40 rfl rfl rfl rfl (by omega) (by omega))) (by simp) ?_
    | refine afl_float rfl rfl (opk_of (op_index_list Try.underlying39 info40 rfl rfl rfl (by decide) rfl)) (by simp) ?_
  first
    | refine afl_float rfl rfl (opk_of (op_load_rptr Try.underlying40 info40 rfl rfl)) (by simp) ?_
    | refine afl_float rfl rfl (opk_of (op_load_map Try.underlying40 info40 rfl rfl (by omega) rfl)) (by simp) ?_
    | refine afl_float rfl rfl (opk_of (op_load_ptr Try.underlying40 info40 rfl rfl rfl rfl)) (by simp) ?_
  first
    | refine afl_float rfl rfl (opk_of (op_index_map default Try.underlying39 info40 rfl rfl rfl (by first | (with_reducible exact Int.toNat_natCast _) | rfl) (by omega) (by omega))) (by simp) ?_
    | refine afl_float rfl rfl (opk_of (op_index_slice Try.underlying39 info40 rfl rfl rfl rfl (by omega) (by omega))) (by simp) ?_
    | refine afl_float rfl rfl (opk_of (op_index_list Try.underlying39 info40 rfl rfl rfl (by decide) rfl)) (by simp) ?_
  (refine afl_eff rfl rfl (by kernel_rfl) (op_store_map (cur.getD (0 + ((l.length : Int) - 1 - (i : Int)).toNat) default) info40 rfl rfl rfl (by omega) rfl rfl rfl (Nat.le_of_ble_eq_true rfl) rfl) (by simp) ?_ ?_)
  ·
   refine loose_anc 12 rfl (by kernel_rfl) ?_
   refine loose_anc 11 rfl (by kernel_rfl) ?_
   refine loose_anc 10 rfl (by kernel_rfl) ?_
   refine loose_anc 9 rfl (by kernel_rfl) ?_
   refine loose_anc 8 rfl (by kernel_rfl) ?_
   refine loose_anc 7 rfl (by kernel_rfl) ?_
   refine loose_anc 6 rfl (by kernel_rfl) ?_
   refine loose_anc 5 rfl (by kernel_rfl) ?_
   refine loose_anc 4 rfl (by kernel_rfl) ?_
   refine loose_k rfl (opk_of (op_move rfl)) ?_
   refine loose_k rfl (opk_of (op_move rfl)) ?_
   refine loose_anc 1 rfl (by kernel_rfl) ?_
   refine loose_anc 0 rfl (by kernel_rfl) ?_
   exact loose_nil
  first
    | refine afl_float rfl rfl (opk_of (op_index_map default Try.underlying39 info40 rfl rfl rfl (by first | (with_reducible exact Int.toNat_natCast _) | rfl) (by omega) (by omega))) (by simp) ?_
    | refine afl_float rfl rfl (opk_of (op_index_slice Try.underlying39 info40 rfl rfl rfl rfl (by omega) (by omega))) (by simp) ?_
    | refine afl_float rfl rfl (opk_of (op_index_list Try.underlying39 info40 rfl rfl rfl (by decide) rfl)) (by simp) ?_
  (refine afl_eff rfl rfl (by kernel_rfl) (op_store_map (cur.getD (0 + (i : Int).toNat) default) info40 rfl rfl rfl (by omega) rfl rfl rfl (Nat.le_of_ble_eq_true rfl) rfl) (by simp) ?_ ?_)
  ·
   refine loose_anc 14 rfl (by kernel_rfl) ?_
   refine loose_fix rfl ?_
   refine loose_anc 12 rfl (by kernel_rfl) ?_
   refine loose_anc 11 rfl (by kernel_rfl) ?_
   refine loose_anc 10 rfl (by kernel_rfl) ?_
   refine loose_anc 9 rfl (by kernel_rfl) ?_
   refine loose_anc 8 rfl (by kernel_rfl) ?_
   refine loose_anc 7 rfl (by kernel_rfl) ?_
   refine loose_anc 6 rfl (by kernel_rfl) ?_
   refine loose_anc 5 rfl (by kernel_rfl) ?_
   refine loose_anc 4 rfl (by kernel_rfl) ?_
   refine loose_anc 3 rfl (by kernel_rfl) ?_
   refine loose_anc 2 rfl (by kernel_rfl) ?_
   refine loose_anc 1 rfl (by kernel_rfl) ?_
   refine loose_anc 0 rfl (by kernel_rfl) ?_
   exact loose_nil
  refine afl_end ?_
  refine aw_region ?_
  refine al_op (op_move rfl) rfl (by simp) ?_
  refine al_op (op_add rfl rfl (by first | exact wrap_i64 (by omega) (by omega))) rfl (by simp) ?_
  refine al_op (op_move rfl) rfl (by simp) ?_
  refine al_op (op_sub rfl rfl (by first | exact wrap_i64 (by omega) (by omega))) rfl (by simp) ?_
  refine al_op (op_assign rfl) rfl (by simp) ?_
  refine al_op (op_assign rfl) rfl (by simp) ?_
  refine al_nil ?_
  refine ⟨i + 1, revNext l cur i, ?_, ?_, ?_, ?_, ?_⟩
  ·omega
  ·exact ⟨rev_next hinv.1 (by omega), by omega⟩
  ·refine sub_cons (get_as rfl ?_) ?_; rotate_left; refine sub_cons (get_as rfl ?_) ?_; rotate_left; exact sub_nil
   all_goals (first | rfl | (simp; done) | (congr 2; omega))
  ·repeat (first | exact subx_refl | exact subx_del | refine subx_put rfl ?_)
  ·rfl
 ·have gh1 := h1
  try simp only [nrm] at h1
  refine aw_exit ?_
  obtain rfl := rev_end hinv.1 (by omega)
  refine ⟨_, res_0 rfl, ?_⟩
  exact ⟨rfl, rfl⟩
theorem rev_at {σ : Store} (i v0 : Nat) (l : List (List Int)) (hl : l.length ≤ 100000) (ht : tabOK [i] = true) (hb : σ.below 1000 = true) (h1 : σ.get i = some (v0, .row 1 (l.map encL))) :
    AC Try.prog 58 [.slice i v0 0 l.length] σ (fun r σ' => r = .ret (.tuple []) ∧ σ' = σ.put i v0 (.row 1 (l.reverse.map encL))) := by
  have e1 : ∀ l : List (List Int), (AObj.row 1 (l.map encL)).rn (tab [i]) = .row 1 (l.map encL) := fun l => by show AObj.row 1 _ = _; rw [rn_rows (fun _ => rfl)]
  have hm : Store.match (tab [i]) σ [(0, v0, .row 1 (l.map encL))] := ⟨by rw [e1]; exact h1, trivial⟩
  have hf : Store.free [i] [(0, v0, .row 1 (l.map encL))] σ = true := by simp [Store.free, Store.get, List.range_succ]
  have := ac_at [i] ht (q_rev v0 l hl) hm hf hb (by
    rintro x σ' ⟨rfl, rfl⟩ j h
    simp only [Store.get] at h ⊢
    revert h
    cases Nat.beq 0 j <;> simp)
  refine ac_mono this ?_
  rintro x σ' ⟨_, _, ⟨rfl, rfl⟩, rfl, rfl⟩
  refine ⟨rfl, ?_⟩
  simp only [Store.putAll, e1]
  rfl

theorem c_Way (n : Net) (hn : n.Small) (x : Int) : ACp Try.prog 23 [encN n, .v (.int .i64 (x))] (.tuple [.list 1 ((n.way x).1.map encL), .v (.int .i64 ((n.way x).2))]) := by
 refine acp_of rfl ?_
 refine ac_enter 55 Try.func23 rfl rfl (by simp) ?_
 refine aw_seq ?_
 refine aw_region ?_
 (refine al_opR (op_box 2 rfl rfl (by first | rfl | exact live_one rfl | (repeat (first | exact all_live_nil | refine all_live_clo rfl ?_ | refine all_live_slice rfl ?_ | refine all_live_map rfl ?_ | refine all_live_ptr rfl ?_)))) rfl (by simp) ?_; rintro _ _ ⟨ver2, rfl, rfl⟩)
 refine al_op (op_assign rfl) rfl (by simp) ?_
 refine al_op (op_assign rfl) rfl (by simp) ?_
 refine al_nil ?_
 refine aw_seq ?_
 refine aw_seq ?_
 refine aw_region ?_
 first
   | refine al_op (op_load_rptr Try.underlying27 info27 rfl rfl) rfl (by simp) ?_
   | refine al_op (op_load_map Try.underlying27 info27 rfl rfl (by omega) rfl) rfl (by simp) ?_
   | refine al_op (op_load_ptr Try.underlying27 info27 rfl rfl rfl rfl) rfl (by simp) ?_
 first
   | refine al_callp into54 rfl rfl rfl ((c_fit4 _ (by assumption)) _) (by simp) ?_
   | refine al_callp into54 rfl rfl rfl (acp_lent (lend_cons (by first | exact lend_same | exact .leaf _ _ (.vnil _) | exact .leaf _ _ (.nil _) | exact lend_whole rfl (by first | rfl | (simp; done) | (simp; omega)) (clo_map (fun _ => rfl)) | exact lend_netg (by first | exact .same _ | exact lendL_vnil | exact lendL_whole rfl (by first | rfl | (simp; done) | (simp; omega)) (clo_map (fun _ => rfl))) (by first | exact .same _ | exact lendL_vnil | exact lendL_whole rfl (by first | rfl | (simp; done) | (simp; omega)) (clo_map (fun _ => rfl))) (by first | exact .same _ | exact lendL_vnil | exact lendL_whole rfl (by first | rfl | (simp; done) | (simp; omega)) (clo_map (fun _ => rfl))) (by first | exact .same _ | exact lendL_vnil | exact lendL_whole rfl (by first | rfl | (simp; done) | (simp; omega)) (clo_map (fun _ => rfl)))) lend_nil) (c_fit4 _ (by assumption)) rfl) (by simp) ?_
 refine al_op (op_assign rfl) rfl (by simp) ?_
 refine al_nil ?_
 refine aw_seq ?_
 refine aw_region ?_
 refine al_op (op_move rfl) rfl (by simp) ?_
 refine al_op (op_neq rfl rfl) rfl (by simp) ?_
 refine al_nil ?_
 refine aw_cond rfl (fun h1 => ?_) (fun h1 => ?_)
 ·have gh1 := h1
  try simp only [nrm] at h1
  refine aw_seq ?_
  refine aw_region ?_
  refine al_op (op_move rfl) rfl (by simp) ?_
  refine al_op (op_assign rfl) rfl (by simp) ?_
  refine al_op (op_assign rfl) rfl (by simp) ?_
  refine al_nil ?_
  refine aw_freeze (fun _ => false) (fsub_cons (t := 4) rfl (by first | exact .leaf _ _ (frz_whole rfl rfl (by first | rfl | (simp; done) | (simp; omega)) (clo_map (fun _ => rfl))) | exact .leaf _ _ (.vnil 1) | exact .leaf _ _ (.nil 1) | exact .leaf _ _ (.same _)) (fsub_cons (t := 5) rfl (.leaf _ _ (.same _)) fsub_nil)) ?_
  refine aw_ret ?_
  refine ⟨_, res_2 rfl rfl rfl rfl rfl, ?_, rfl⟩
  rw [Net.way, if_neg (by simpa using gh1)] <;> rfl
 ·have gh1 := h1
  try simp only [nrm] at h1
  have hfe : n.fitE = 0 := by simpa using gh1
  have hrd := Net.fit_ready hn hfe
  obtain ⟨hbp, hbl⟩ := Net.bfs_pos hrd
  have hsl := Net.states_le hrd.r
  have hrl := hrd.r
  have hil := hrd.i
  have hse : ((1 <<< n.regs.length : Nat) : Int) = (n.states : Int) := rfl
  refine aw_skip ?_
  refine aw_seq ?_
  refine aw_seq ?_
  refine aw_region ?_
  refine al_op (op_move rfl) rfl (by simp) ?_
  refine al_op (op_lss rfl rfl) rfl (by simp) ?_
  refine al_op (op_move rfl) rfl (by simp) ?_
  apply al_or 7 18 25 rfl
  ·intro h2; have gh2 := h2
   try simp only [nrm] at h2
   refine al_take (op_move rfl) rfl rfl rfl rfl (by simp) ?_
   first
     | refine al_take (op_field_rptr Try.underlying27 rfl info23 (by decide) rfl rfl) rfl rfl rfl rfl (by simp) ?_
     | refine al_take (op_field_ptr Try.underlying27 rfl info23 (by decide) rfl rfl rfl) rfl rfl rfl rfl (by simp) ?_
   first
     | refine al_take (op_load_rptr Try.underlying23 info23 rfl rfl) rfl rfl rfl rfl (by simp) ?_
     | refine al_take (op_load_map Try.underlying23 info23 rfl rfl (by omega) rfl) rfl rfl rfl rfl (by simp) ?_
     | refine al_take (op_load_ptr Try.underlying23 info23 rfl rfl rfl rfl) rfl rfl rfl rfl (by simp) ?_
   first
     | refine al_take (op_len_map Try.underlying23 rfl) rfl rfl rfl rfl (by simp) ?_
     | refine al_take (op_len_slice Try.underlying23 rfl rfl) rfl rfl rfl rfl (by simp) ?_
     | refine al_take (op_len_list Try.underlying23 rfl) rfl rfl rfl rfl (by simp) ?_
     | refine al_take (op_len_v Try.underlying23 rfl) rfl rfl rfl rfl (by simp) ?_
     | refine al_take (op_len_nil Try.underlying23 rfl) rfl rfl rfl rfl (by simp) ?_
   refine al_take (op_shl (a := ((1 : Nat) : Int)) rfl rfl (by omega) (shl_i64 (by decide) (by omega))) rfl rfl rfl rfl (by simp) ?_
   refine al_take (op_geq rfl rfl) rfl rfl rfl rfl (by simp) ?_
   first
     | refine al_op (op_pick rfl rfl) rfl (by simp) ?_
     | refine al_op (op_or rfl rfl rfl) rfl (by simp) ?_
   refine al_nil ⟨rfl, rfl, rfl, keep_of ?_⟩
   repeat (first | exact subx_refl | exact subx_known rfl gh2 subx_refl | refine subx_put rfl ?_)
  ·intro h2; have gh2 := h2
   try simp only [nrm] at h2
   refine al_pass rfl rfl rfl rfl (by simp) ?_
   refine al_pass rfl rfl rfl rfl (by simp) ?_
   refine al_pass rfl rfl rfl rfl (by simp) ?_
   refine al_pass rfl rfl rfl rfl (by simp) ?_
   refine al_pass rfl rfl rfl rfl (by simp) ?_
   refine al_pass rfl rfl rfl rfl (by simp) ?_
   first
     | refine al_op (op_pick rfl rfl) rfl (by simp) ?_
     | refine al_op (op_or rfl rfl rfl) rfl (by simp) ?_
   refine al_nil ⟨rfl, rfl, rfl, keep_of ?_⟩
   repeat (first | exact subx_refl | exact subx_known rfl gh2 subx_refl | refine subx_put rfl ?_)
  refine al_nil ?_
  refine aw_cond rfl (fun h3 => ?_) (fun h3 => ?_)
  ·have gh3 := h3
   try simp only [nrm] at h3
   refine aw_seq ?_
   refine aw_region ?_
   refine al_op (op_assign rfl) rfl (by simp) ?_
   refine al_op (op_assign rfl) rfl (by simp) ?_
   refine al_nil ?_
   refine aw_freeze (fun _ => false) (fsub_cons (t := 4) rfl (by first | exact .leaf _ _ (frz_whole rfl rfl (by first | rfl | (simp; done) | (simp; omega)) (clo_map (fun _ => rfl))) | exact .leaf _ _ (.vnil 1) | exact .leaf _ _ (.nil 1) | exact .leaf _ _ (.same _)) (fsub_cons (t := 5) rfl (.leaf _ _ (.same _)) fsub_nil)) ?_
   refine aw_ret ?_
   refine ⟨_, res_2 rfl rfl rfl rfl rfl, ?_, rfl⟩
   rw [Net.way, if_pos hfe, if_pos (by simp at *; omega)] <;> rfl
  ·have gh3 := h3
   try simp only [nrm] at h3
   refine aw_skip ?_
   refine aw_seq ?_
   refine aw_region ?_
   first
     | refine al_op (op_load_rptr Try.underlying27 info27 rfl rfl) rfl (by simp) ?_
     | refine al_op (op_load_map Try.underlying27 info27 rfl rfl (by omega) rfl) rfl (by simp) ?_
     | refine al_op (op_load_ptr Try.underlying27 info27 rfl rfl rfl rfl) rfl (by simp) ?_
   (refine al_call into55 rfl rfl rfl (search_at 27 n hrd rfl rfl rfl) (by simp) ?_; rintro _ _ ⟨ver27, rfl, rfl⟩)
   refine al_op (op_assign rfl) rfl (by simp) ?_
   refine al_nil ?_
   refine aw_seq ?_
   have hx0 : 0 ≤ x := by simp at *; omega
   have hx1 : ¬ (x < 0 ∨ (n.states : Int) ≤ x) := by simp at *; omega
   refine aw_region ?_
   refine al_op (op_move rfl) rfl (by simp) ?_
   refine al_op (op_move rfl) rfl (by simp) ?_
   refine al_op (op_lookup_st x.toNat Try.underlying94 Try.underlying3 info98 rfl rfl rfl rfl (key_nat hx0)) rfl (by simp) ?_
   refine al_op (op_move rfl) rfl (by simp) ?_
   refine al_op (op_extract rfl rfl rfl) rfl (by simp) ?_
   refine al_op (op_extract rfl rfl rfl) rfl (by simp) ?_
   (refine al_opR (op_alloc 8 info98 rfl rfl) rfl (by simp) ?_; rintro _ _ ⟨ver8, rfl, rfl⟩)
   first
     | refine al_op (op_store_ptr info98 rfl rfl rfl rfl rfl rfl (by first | rfl | exact live_one rfl | (repeat (first | exact all_live_nil | refine all_live_clo rfl ?_ | refine all_live_slice rfl ?_ | refine all_live_map rfl ?_ | refine all_live_ptr rfl ?_))) (by decide)) rfl (by simp) ?_
     | refine al_op (op_store_ptr info98 rfl rfl rfl rfl rfl rfl (by first | rfl | exact live_one rfl | (repeat (first | exact all_live_nil | refine all_live_clo rfl ?_ | refine all_live_slice rfl ?_ | refine all_live_map rfl ?_ | refine all_live_ptr rfl ?_))) (Nat.le_of_ble_eq_true rfl)) rfl (by simp) ?_
   refine al_op (op_assign rfl) rfl (by simp) ?_
   refine al_nil ?_
   refine aw_seq ?_
   refine aw_seq ?_
   refine aw_region ?_
   refine al_op (op_move rfl) rfl (by simp) ?_
   refine al_op (op_not rfl) rfl (by simp) ?_
   refine al_nil ?_
   refine aw_cond rfl (fun h4 => ?_) (fun h4 => ?_)
   ·have gh4 := h4
    try simp only [nrm] at h4
    refine aw_seq ?_
    refine aw_region ?_
    refine al_op (op_assign rfl) rfl (by simp) ?_
    refine al_op (op_assign rfl) rfl (by simp) ?_
    refine al_nil ?_
    refine aw_freeze (fun _ => false) (fsub_cons (t := 4) rfl (by first | exact .leaf _ _ (frz_whole rfl rfl (by first | rfl | (simp; done) | (simp; omega)) (clo_map (fun _ => rfl))) | exact .leaf _ _ (.vnil 1) | exact .leaf _ _ (.nil 1) | exact .leaf _ _ (.same _)) (fsub_cons (t := 5) rfl (.leaf _ _ (.same _)) fsub_nil)) ?_
    refine aw_ret ?_
    refine ⟨_, res_2 rfl rfl rfl rfl rfl, ?_, rfl⟩
    rw [Net.way, if_pos hfe, if_neg hx1, if_neg (by simp at *; assumption)] <;> rfl
   ·have gh4 := h4
    try simp only [nrm] at h4
    refine aw_skip ?_
    refine aw_seq ?_
    obtain ⟨b0, hb0⟩ := Option.isSome_iff_exists.1 (show (kFind x.toNat n.bfs).isSome = true by assumption)
    obtain ⟨hp1, hp2⟩ := kFind_pos (Net.bfs_inv hrd.begin.2 (2 * n.states)).nodup hb0
    have hp1 : (posOf n.bfs x.toNat) < n.bfs.length := hp1
    have hst : (kFind x.toNat n.bfs).getD (0, 0) = (n.bfs.getD (posOf n.bfs x.toNat) default).2 := by rw [hb0]; exact hp2.symm
    refine aw_st (σ2 := ([(2, ver2, .row 4 [[.list 1 (n.ins.map encS), .list 3 (n.regs.map encR), .list 2 (n.gates.map encG), .list 2 (n.outs.map encP)]]), (27, ver27, .map (kEnts stG n.bfs)), (8, ver8, .row 2 [[.v (.int .i64 (n.bfs.getD (posOf n.bfs x.toNat) default).2.1), .v (.int .i64 (n.bfs.getD (posOf n.bfs x.toNat) default).2.2)]])] : Store)) (by rw [← hst]; rfl) ?_
    refine aw_region ?_
    refine al_op (op_assign rfl) rfl (by simp) ?_
    refine al_nil ?_
    refine aw_seq ?_
    refine aw_block ?_
    apply aw_only
    ·
     (first | apply sub_cons (t := 2) rfl | skip)
     (first | apply sub_cons (t := 4) rfl | skip)
     (first | apply sub_cons (t := 5) rfl | skip)
     (first | apply sub_cons (t := 7) rfl | skip)
     (first | apply sub_cons (t := 8) rfl | skip)
     (first | apply sub_cons (t := 10) rfl | skip)
     exact sub_nil
    refine aw_own_map encL 10 1 10 rfl rfl (fun ver10 => ?_)
    refine aw_for3T (α := Nat) (β := List (List Int)) (γ := Nat) [10] [] (fun p out ver => p) (fun p out ver => p < n.bfs.length ∧ out ++ n.wayP p = n.wayP (posOf n.bfs x.toNat) ∧ out.length + p ≤ (posOf n.bfs x.toNat)) (fun p out ver => ([(10, .slice 10 ver 0 out.length)] : Env)) (fun p out ver st => ([(2, ver2, .row 4 [[.list 1 (n.ins.map encS), .list 3 (n.regs.map encR), .list 2 (n.gates.map encG), .list 2 (n.outs.map encP)]]), (27, ver27, .map (kEnts stG n.bfs)), (8, ver8, .row 2 [[.v (.int .i64 (n.bfs.getD p default).2.1), .v (.int .i64 (n.bfs.getD p default).2.2)]]), (10, ver, .row 1 (out.map encL))] : Store)) ((posOf n.bfs x.toNat)) ([]) (ver10) ?_ ?_ ?_ (fun p out ver hinv => ?_)
    ·exact ⟨hp1, rfl, by simp⟩
    ·refine sub_cons (get_as rfl ?_) ?_; rotate_left; exact sub_nil
     all_goals (first | rfl | simp)
    ·rfl
    refine aw_seq ?_
    refine aw_seq ?_
    refine aw_region ?_
    first
      | refine al_op (op_field_rptr Try.underlying98 rfl info3 (by decide) rfl rfl) rfl (by simp) ?_
      | refine al_op (op_field_ptr Try.underlying98 rfl info3 (by decide) rfl rfl rfl) rfl (by simp) ?_
    first
      | refine al_op (op_load_rptr Try.underlying3 info3 rfl rfl) rfl (by simp) ?_
      | refine al_op (op_load_map Try.underlying3 info3 rfl rfl (by omega) rfl) rfl (by simp) ?_
      | refine al_op (op_load_ptr Try.underlying3 info3 rfl rfl rfl rfl) rfl (by simp) ?_
    refine al_op (op_geq rfl rfl) rfl (by simp) ?_
    refine al_nil ?_
    refine aw_cond rfl (fun h5 => ?_) (fun h5 => ?_)
    ·have gh5 := h5
     try simp only [nrm] at h5
     refine aw_skip ?_
     refine aw_seq ?_
     refine aw_block ?_
     have hei := (Net.tree hrd).ins _ (getD_mem (v := n.bfs) (i := p) hinv.1)
     obtain ⟨hta, htb⟩ := Net.tree_at hrd hinv.1 (by omega)
     have hws := Net.wayP_step hrd hinv.1 (by omega)
     have hkf : (kFind (n.bfs.getD p default).2.1.toNat n.bfs).getD (0, 0) = (n.bfs.getD (posOf n.bfs (n.bfs.getD p default).2.1.toNat) default).2 := by rw [htb]; rfl
     refine aw_region ?_
     refine al_op (op_move rfl) rfl (by simp) ?_
     first
       | refine al_op (op_field_rptr Try.underlying98 rfl info3 (by decide) rfl rfl) rfl (by simp) ?_
       | refine al_op (op_field_ptr Try.underlying98 rfl info3 (by decide) rfl rfl rfl) rfl (by simp) ?_
     first
       | refine al_op (op_load_rptr Try.underlying3 info3 rfl rfl) rfl (by simp) ?_
       | refine al_op (op_load_map Try.underlying3 info3 rfl rfl (by omega) rfl) rfl (by simp) ?_
       | refine al_op (op_load_ptr Try.underlying3 info3 rfl rfl rfl rfl) rfl (by simp) ?_
     first
       | refine al_op (op_field_rptr Try.underlying27 rfl info22 (by decide) rfl rfl) rfl (by simp) ?_
       | refine al_op (op_field_ptr Try.underlying27 rfl info22 (by decide) rfl rfl rfl) rfl (by simp) ?_
     first
       | refine al_op (op_load_rptr Try.underlying22 info22 rfl rfl) rfl (by simp) ?_
       | refine al_op (op_load_map Try.underlying22 info22 rfl rfl (by omega) rfl) rfl (by simp) ?_
       | refine al_op (op_load_ptr Try.underlying22 info22 rfl rfl rfl rfl) rfl (by simp) ?_
     first
       | refine al_op (op_len_map Try.underlying22 rfl) rfl (by simp) ?_
       | refine al_op (op_len_slice Try.underlying22 rfl rfl) rfl (by simp) ?_
       | refine al_op (op_len_list Try.underlying22 rfl) rfl (by simp) ?_
       | refine al_op (op_len_v Try.underlying22 rfl) rfl (by simp) ?_
       | refine al_op (op_len_nil Try.underlying22 rfl) rfl (by simp) ?_
     first
       | refine al_callp into57 rfl rfl rfl ((c_bits _ _ (by omega) (by omega) (by omega)) _) (by simp) ?_
       | refine al_callp into57 rfl rfl rfl (ac_told (re_cons (by first | exact .leaf _ _ (.same _) | exact .leaf _ _ (.vnil _) | exact .leaf _ _ (.nil _)) (re_cons (by first | exact .leaf _ _ (.same _) | exact .leaf _ _ (.vnil _) | exact .leaf _ _ (.nil _)) re_nil)) ((c_bits _ _ (by omega) (by omega) (by omega)) _)) (by simp) ?_
     refine al_op (op_buildSlice Try.underlying39 info40 rfl rfl (by decide) rfl (by decide) rfl (by first | rfl | (repeat (first | exact parts_nil | refine parts_cons rfl (by repeat (first | exact all_live_nil | refine all_live_clo rfl ?_ | refine all_live_slice rfl ?_ | refine all_live_map rfl ?_ | refine all_live_ptr rfl ?_)) ?_))) rfl rfl rfl) rfl (by simp) ?_
     first
       | (refine al_opR (op_append_one (bitsI (n.bfs.getD p default).2.2 n.ins.length) Try.underlying39 Try.underlying39 rfl info40 rfl rfl (by decide) rfl rfl rfl (by first | rfl | simp) rfl rfl (by first | omega | (simp; done) | (simp; omega)) (by show _ * 24 ≤ _; first | omega | (simp; done) | (simp; omega))) rfl (by simp) ?_; rintro _ _ ⟨ver51, rfl, rfl⟩)
       | (refine al_opR (op_append_map Try.underlying39 Try.underlying39 rfl info40 rfl rfl (by decide) rfl rfl rfl (by first | rfl | simp) rfl (by first | exact .list _ | exact .vnil | exact .nil | exact .row _ _ _ _ rfl (by first | rfl | simp)) rfl (by first | omega | (simp; done) | (simp; omega)) (by show _ * 24 ≤ _; first | omega | (simp; done) | (simp; omega))) rfl (by simp) ?_; rintro _ _ ⟨ver51, rfl, rfl⟩)
     refine al_op (op_assign rfl) rfl (by simp) ?_
     refine al_nil ?_
     refine aw_region ?_
     refine al_op (op_move rfl) rfl (by simp) ?_
     first
       | refine al_op (op_field_rptr Try.underlying98 rfl info3 (by decide) rfl rfl) rfl (by simp) ?_
       | refine al_op (op_field_ptr Try.underlying98 rfl info3 (by decide) rfl rfl rfl) rfl (by simp) ?_
     first
       | refine al_op (op_load_rptr Try.underlying3 info3 rfl rfl) rfl (by simp) ?_
       | refine al_op (op_load_map Try.underlying3 info3 rfl rfl (by omega) rfl) rfl (by simp) ?_
       | refine al_op (op_load_ptr Try.underlying3 info3 rfl rfl rfl rfl) rfl (by simp) ?_
     refine al_op (op_lookup_st1 (n.bfs.getD p default).2.1.toNat Try.underlying94 Try.underlying3 info98 rfl rfl rfl rfl (key_nat (by omega))) rfl (by simp) ?_
     first
       | refine al_op (op_store_ptr info98 rfl rfl rfl rfl rfl rfl (by first | rfl | exact live_one rfl | (repeat (first | exact all_live_nil | refine all_live_clo rfl ?_ | refine all_live_slice rfl ?_ | refine all_live_map rfl ?_ | refine all_live_ptr rfl ?_))) (by decide)) rfl (by simp) ?_
       | refine al_op (op_store_ptr info98 rfl rfl rfl rfl rfl rfl (by first | rfl | exact live_one rfl | (repeat (first | exact all_live_nil | refine all_live_clo rfl ?_ | refine all_live_slice rfl ?_ | refine all_live_map rfl ?_ | refine all_live_ptr rfl ?_))) (Nat.le_of_ble_eq_true rfl)) rfl (by simp) ?_
     refine al_nil ?_
     refine ⟨(posOf n.bfs (n.bfs.getD p default).2.1.toNat), out ++ [bitsI (n.bfs.getD p default).2.2 n.ins.length], ver51, ?_, ?_, ?_, ?_, ?_⟩
     ·exact hta
     ·exact ⟨by omega, by rw [List.append_assoc, ← hinv.2.1, hws]; rfl, by rw [List.length_append, List.length_singleton]; omega⟩
     ·refine sub_cons (get_as rfl ?_) ?_; rotate_left; exact sub_nil
      all_goals (first | rfl | simp)
     ·repeat (first | exact subx_refl | exact subx_del | refine subx_put rfl ?_)
     ·(rw [← hkf] <;> rfl)
    ·have gh5 := h5
     try simp only [nrm] at h5
     refine aw_exit ?_
     have hwe := Net.wayP_end (n := n) (p := p) (by omega)
     have hoe : out = n.wayP (posOf n.bfs x.toNat) := by rw [← hinv.2.1, hwe, List.append_nil]
     refine aw_seq ?_
     refine aw_region ?_
     refine al_op (op_move rfl) rfl (by simp) ?_
     (refine al_call into58 rfl rfl rfl (rev_at 10 ver out (by omega) rfl rfl rfl) (by simp) ?_; rintro _ _ ⟨rfl, rfl⟩)
     refine al_nil ?_
     refine aw_seq ?_
     refine aw_region ?_
     refine al_op (op_move rfl) rfl (by simp) ?_
     refine al_op (op_assign rfl) rfl (by simp) ?_
     refine al_op (op_assign rfl) rfl (by simp) ?_
     refine al_nil ?_
     refine aw_freeze (fun _ => false) (fsub_cons (t := 4) rfl (by first | exact .leaf _ _ (frz_whole rfl rfl (by first | rfl | (simp; done) | (simp; omega)) (clo_map (fun _ => rfl))) | exact .leaf _ _ (.vnil 1) | exact .leaf _ _ (.nil 1) | exact .leaf _ _ (.same _)) (fsub_cons (t := 5) rfl (.leaf _ _ (.same _)) fsub_nil)) ?_
     refine aw_ret ?_
     refine ⟨_, res_2 rfl rfl rfl rfl rfl, ?_, rfl⟩
     rw [Net.way, if_pos hfe, if_neg hx1, if_pos (by rw [hb0]; rfl), ← hoe] <;> rfl

theorem c_Round (n : Net) (hn : n.Small) (ins : List Int) (hb : Bytes ins) : ACp Try.prog 32 [encN n, .list 1 (ins.map encB)] (.tuple [.v (.int .i64 ((n.round ins).1)), .v (.int .i64 ((n.round ins).2.1)), .v (.int .i64 ((n.round ins).2.2))]) := by
 refine acp_of rfl ?_
 obtain ⟨b1, b2⟩ := hb
 have z1 := hn.insL
 have z2 := hn.regsL
 refine ac_enter 62 Try.func32 rfl rfl (by simp) ?_
 refine aw_seq ?_
 refine aw_region ?_
 (refine al_opR (op_box 2 rfl rfl (by first | rfl | exact live_one rfl | (repeat (first | exact all_live_nil | refine all_live_clo rfl ?_ | refine all_live_slice rfl ?_ | refine all_live_map rfl ?_ | refine all_live_ptr rfl ?_)))) rfl (by simp) ?_; rintro _ _ ⟨ver2, rfl, rfl⟩)
 refine al_op (op_assign rfl) rfl (by simp) ?_
 refine al_op (op_assign rfl) rfl (by simp) ?_
 refine al_op (op_assign rfl) rfl (by simp) ?_
 refine al_nil ?_
 refine aw_seq ?_
 refine aw_seq ?_
 refine aw_region ?_
 first
   | refine al_op (op_load_rptr Try.underlying27 info27 rfl rfl) rfl (by simp) ?_
   | refine al_op (op_load_map Try.underlying27 info27 rfl rfl (by omega) rfl) rfl (by simp) ?_
   | refine al_op (op_load_ptr Try.underlying27 info27 rfl rfl rfl rfl) rfl (by simp) ?_
 first
   | refine al_callp into40 rfl rfl rfl ((c_valid _ (by assumption)) _) (by simp) ?_
   | refine al_callp into40 rfl rfl rfl (acp_lent (lend_cons (by first | exact lend_same | exact .leaf _ _ (.vnil _) | exact .leaf _ _ (.nil _) | exact lend_whole rfl (by first | rfl | (simp; done) | (simp; omega)) (clo_map (fun _ => rfl)) | exact lend_netg (by first | exact .same _ | exact lendL_vnil | exact lendL_whole rfl (by first | rfl | (simp; done) | (simp; omega)) (clo_map (fun _ => rfl))) (by first | exact .same _ | exact lendL_vnil | exact lendL_whole rfl (by first | rfl | (simp; done) | (simp; omega)) (clo_map (fun _ => rfl))) (by first | exact .same _ | exact lendL_vnil | exact lendL_whole rfl (by first | rfl | (simp; done) | (simp; omega)) (clo_map (fun _ => rfl))) (by first | exact .same _ | exact lendL_vnil | exact lendL_whole rfl (by first | rfl | (simp; done) | (simp; omega)) (clo_map (fun _ => rfl)))) lend_nil) (c_valid _ (by assumption)) rfl) (by simp) ?_
 refine al_op (op_not rfl) rfl (by simp) ?_
 refine al_op (op_move rfl) rfl (by simp) ?_
 apply al_or 7 15 22 rfl
 ·intro h1; have gh1 := h1
  try simp only [nrm] at h1
  refine al_take (op_move rfl) rfl rfl rfl rfl (by simp) ?_
  first
    | refine al_take (op_len_map Try.underlying40 rfl) rfl rfl rfl rfl (by simp) ?_
    | refine al_take (op_len_slice Try.underlying40 rfl rfl) rfl rfl rfl rfl (by simp) ?_
    | refine al_take (op_len_list Try.underlying40 rfl) rfl rfl rfl rfl (by simp) ?_
    | refine al_take (op_len_v Try.underlying40 rfl) rfl rfl rfl rfl (by simp) ?_
    | refine al_take (op_len_nil Try.underlying40 rfl) rfl rfl rfl rfl (by simp) ?_
  first
    | refine al_take (op_field_rptr Try.underlying27 rfl info22 (by decide) rfl rfl) rfl rfl rfl rfl (by simp) ?_
    | refine al_take (op_field_ptr Try.underlying27 rfl info22 (by decide) rfl rfl rfl) rfl rfl rfl rfl (by simp) ?_
  first
    | refine al_take (op_load_rptr Try.underlying22 info22 rfl rfl) rfl rfl rfl rfl (by simp) ?_
    | refine al_take (op_load_map Try.underlying22 info22 rfl rfl (by omega) rfl) rfl rfl rfl rfl (by simp) ?_
    | refine al_take (op_load_ptr Try.underlying22 info22 rfl rfl rfl rfl) rfl rfl rfl rfl (by simp) ?_
  first
    | refine al_take (op_len_map Try.underlying22 rfl) rfl rfl rfl rfl (by simp) ?_
    | refine al_take (op_len_slice Try.underlying22 rfl rfl) rfl rfl rfl rfl (by simp) ?_
    | refine al_take (op_len_list Try.underlying22 rfl) rfl rfl rfl rfl (by simp) ?_
    | refine al_take (op_len_v Try.underlying22 rfl) rfl rfl rfl rfl (by simp) ?_
    | refine al_take (op_len_nil Try.underlying22 rfl) rfl rfl rfl rfl (by simp) ?_
  refine al_take (op_neq rfl rfl) rfl rfl rfl rfl (by simp) ?_
  first
    | refine al_op (op_pick rfl rfl) rfl (by simp) ?_
    | refine al_op (op_or rfl rfl rfl) rfl (by simp) ?_
  refine al_nil ⟨rfl, rfl, rfl, keep_of ?_⟩
  repeat (first | exact subx_refl | exact subx_known rfl gh1 subx_refl | refine subx_put rfl ?_)
 ·intro h1; have gh1 := h1
  try simp only [nrm] at h1
  refine al_pass rfl rfl rfl rfl (by simp) ?_
  refine al_pass rfl rfl rfl rfl (by simp) ?_
  refine al_pass rfl rfl rfl rfl (by simp) ?_
  refine al_pass rfl rfl rfl rfl (by simp) ?_
  refine al_pass rfl rfl rfl rfl (by simp) ?_
  refine al_pass rfl rfl rfl rfl (by simp) ?_
  first
    | refine al_op (op_pick rfl rfl) rfl (by simp) ?_
    | refine al_op (op_or rfl rfl rfl) rfl (by simp) ?_
  refine al_nil ⟨rfl, rfl, rfl, keep_of ?_⟩
  repeat (first | exact subx_refl | exact subx_known rfl gh1 subx_refl | refine subx_put rfl ?_)
 refine al_op (op_move rfl) rfl (by simp) ?_
 apply al_or 3 23 26 rfl
 ·intro h2; have gh2 := h2
  try simp only [nrm] at h2
  refine al_take (op_move rfl) rfl rfl rfl rfl (by simp) ?_
  first
    | refine al_callp_take into61 rfl rfl rfl rfl rfl rfl ((c_cfo1 _ (by assumption)) _) (by simp) ?_
    | refine al_callp_take into61 rfl rfl rfl rfl rfl rfl (acp_lent (lend_cons (by first | exact lend_same | exact .leaf _ _ (.vnil _) | exact .leaf _ _ (.nil _) | exact lend_whole rfl (by first | rfl | (simp; done) | (simp; omega)) (clo_map (fun _ => rfl)) | exact lend_netg (by first | exact .same _ | exact lendL_vnil | exact lendL_whole rfl (by first | rfl | (simp; done) | (simp; omega)) (clo_map (fun _ => rfl))) (by first | exact .same _ | exact lendL_vnil | exact lendL_whole rfl (by first | rfl | (simp; done) | (simp; omega)) (clo_map (fun _ => rfl))) (by first | exact .same _ | exact lendL_vnil | exact lendL_whole rfl (by first | rfl | (simp; done) | (simp; omega)) (clo_map (fun _ => rfl))) (by first | exact .same _ | exact lendL_vnil | exact lendL_whole rfl (by first | rfl | (simp; done) | (simp; omega)) (clo_map (fun _ => rfl)))) (lend_cons (by first | exact lend_same | exact .leaf _ _ (.vnil _) | exact .leaf _ _ (.nil _) | exact lend_whole rfl (by first | rfl | (simp; done) | (simp; omega)) (clo_map (fun _ => rfl)) | exact lend_netg (by first | exact .same _ | exact lendL_vnil | exact lendL_whole rfl (by first | rfl | (simp; done) | (simp; omega)) (clo_map (fun _ => rfl))) (by first | exact .same _ | exact lendL_vnil | exact lendL_whole rfl (by first | rfl | (simp; done) | (simp; omega)) (clo_map (fun _ => rfl))) (by first | exact .same _ | exact lendL_vnil | exact lendL_whole rfl (by first | rfl | (simp; done) | (simp; omega)) (clo_map (fun _ => rfl))) (by first | exact .same _ | exact lendL_vnil | exact lendL_whole rfl (by first | rfl | (simp; done) | (simp; omega)) (clo_map (fun _ => rfl)))) lend_nil)) (c_cfo1 _ (by assumption)) rfl) (by simp) ?_
  first
    | refine al_op (op_pick rfl rfl) rfl (by simp) ?_
    | refine al_op (op_or rfl rfl rfl) rfl (by simp) ?_
  refine al_nil ⟨rfl, rfl, rfl, keep_of ?_⟩
  repeat (first | exact subx_refl | exact subx_known rfl gh2 subx_refl | refine subx_put rfl ?_)
 ·intro h2; have gh2 := h2
  try simp only [nrm] at h2
  refine al_pass rfl rfl rfl rfl (by simp) ?_
  refine al_pass rfl rfl rfl rfl (by simp) ?_
  first
    | refine al_op (op_pick rfl rfl) rfl (by simp) ?_
    | refine al_op (op_or rfl rfl rfl) rfl (by simp) ?_
  refine al_nil ⟨rfl, rfl, rfl, keep_of ?_⟩
  repeat (first | exact subx_refl | exact subx_known rfl gh2 subx_refl | refine subx_put rfl ?_)
 refine al_nil ?_
 refine aw_cond rfl (fun h3 => ?_) (fun h3 => ?_)
 ·have gh3 := h3
  try simp only [nrm] at h3
  refine aw_seq ?_
  refine aw_region ?_
  refine al_op (op_assign rfl) rfl (by simp) ?_
  refine al_op (op_assign rfl) rfl (by simp) ?_
  refine al_op (op_assign rfl) rfl (by simp) ?_
  refine al_nil ?_
  refine aw_freeze (fun _ => false) (fsub_cons (t := 4) rfl (.leaf _ _ (.same _)) (fsub_cons (t := 5) rfl (.leaf _ _ (.same _)) (fsub_cons (t := 6) rfl (.leaf _ _ (.same _)) fsub_nil))) ?_
  refine aw_ret ?_
  refine ⟨_, res_3 rfl rfl rfl rfl rfl rfl rfl, ?_, rfl⟩
  rw [Net.round, if_neg (by rw [roundOK_or] at gh3; simpa using gh3)]
 ·have gh3 := h3
  try simp only [nrm] at h3
  have hro : n.roundOK ins = true := by rw [roundOK_or] at gh3; simpa using gh3
  obtain ⟨hv, hl1, hi01⟩ := Net.roundOK_facts b2 hro
  refine aw_skip ?_
  refine aw_seq ?_
  refine aw_seq ?_
  refine aw_region ?_
  first
    | refine al_op (op_load_rptr Try.underlying27 info27 rfl rfl) rfl (by simp) ?_
    | refine al_op (op_load_map Try.underlying27 info27 rfl rfl (by omega) rfl) rfl (by simp) ?_
    | refine al_op (op_load_ptr Try.underlying27 info27 rfl rfl rfl rfl) rfl (by simp) ?_
  first
    | refine al_callp into63 rfl rfl rfl ((c_small _ (by assumption)) _) (by simp) ?_
    | refine al_callp into63 rfl rfl rfl (acp_lent (lend_cons (by first | exact lend_same | exact .leaf _ _ (.vnil _) | exact .leaf _ _ (.nil _) | exact lend_whole rfl (by first | rfl | (simp; done) | (simp; omega)) (clo_map (fun _ => rfl)) | exact lend_netg (by first | exact .same _ | exact lendL_vnil | exact lendL_whole rfl (by first | rfl | (simp; done) | (simp; omega)) (clo_map (fun _ => rfl))) (by first | exact .same _ | exact lendL_vnil | exact lendL_whole rfl (by first | rfl | (simp; done) | (simp; omega)) (clo_map (fun _ => rfl))) (by first | exact .same _ | exact lendL_vnil | exact lendL_whole rfl (by first | rfl | (simp; done) | (simp; omega)) (clo_map (fun _ => rfl))) (by first | exact .same _ | exact lendL_vnil | exact lendL_whole rfl (by first | rfl | (simp; done) | (simp; omega)) (clo_map (fun _ => rfl)))) lend_nil) (c_small _ (by assumption)) rfl) (by simp) ?_
  refine al_op (op_not rfl) rfl (by simp) ?_
  refine al_nil ?_
  refine aw_cond rfl (fun h4 => ?_) (fun h4 => ?_)
  ·have gh4 := h4
   try simp only [nrm] at h4
   refine aw_seq ?_
   refine aw_region ?_
   refine al_op (op_assign rfl) rfl (by simp) ?_
   refine al_op (op_assign rfl) rfl (by simp) ?_
   refine al_op (op_assign rfl) rfl (by simp) ?_
   refine al_nil ?_
   refine aw_freeze (fun _ => false) (fsub_cons (t := 4) rfl (.leaf _ _ (.same _)) (fsub_cons (t := 5) rfl (.leaf _ _ (.same _)) (fsub_cons (t := 6) rfl (.leaf _ _ (.same _)) fsub_nil))) ?_
   refine aw_ret ?_
   refine ⟨_, res_3 rfl rfl rfl rfl rfl rfl rfl, ?_, rfl⟩
   rw [Net.round, if_pos hro, if_neg (by simp at *; assumption)]
  ·have gh4 := h4
   try simp only [nrm] at h4
   refine aw_skip ?_
   refine aw_seq ?_
   have hsm : n.small = true := by assumption
   have hfe : n.fitE = 0 := by rw [Net.fitE, if_pos hv, if_pos hsm]
   have hrd := Net.fit_ready hn hfe
   have hrl := hrd.r
   have hsl := Net.states_le hrl
   refine aw_region ?_
   (refine al_opR (op_makeMap 30 Try.underlying104 (.inl rfl)) rfl (by simp) ?_; rintro _ _ ⟨ver30, rfl, rfl⟩)
   refine al_op (op_assign rfl) rfl (by simp) ?_
   refine al_nil ?_
   refine aw_seq ?_
   refine aw_region ?_
   first
     | refine al_op (op_load_rptr Try.underlying27 info27 rfl rfl) rfl (by simp) ?_
     | refine al_op (op_load_map Try.underlying27 info27 rfl rfl (by omega) rfl) rfl (by simp) ?_
     | refine al_op (op_load_ptr Try.underlying27 info27 rfl rfl rfl rfl) rfl (by simp) ?_
   first
     | refine al_callp into53 rfl rfl rfl ((c_first _ (by assumption)) _) (by simp) ?_
     | refine al_callp into53 rfl rfl rfl (ac_told (re_cons (by first | exact .leaf _ _ (.same _) | exact .leaf _ _ (.vnil _) | exact .leaf _ _ (.nil _)) re_nil) ((c_first _ (by assumption)) _)) (by simp) ?_
   refine al_op (op_assign rfl) rfl (by simp) ?_
   refine al_nil ?_
   refine aw_seq ?_
   refine aw_region ?_
   refine al_op (op_assign rfl) rfl (by simp) ?_
   refine al_nil ?_
   refine aw_block ?_
   apply aw_only
   ·
    (first | apply sub_cons (t := 1) rfl | skip)
    (first | apply sub_cons (t := 2) rfl | skip)
    (first | apply sub_cons (t := 4) rfl | skip)
    (first | apply sub_cons (t := 5) rfl | skip)
    (first | apply sub_cons (t := 6) rfl | skip)
    (first | apply sub_cons (t := 7) rfl | skip)
    (first | apply sub_cons (t := 8) rfl | skip)
    (first | apply sub_cons (t := 9) rfl | skip)
    exact sub_nil
   refine aw_forT (ι := Nat) [4, 5, 6, 8, 9] [] (fun k => n.states + 1 - k) (fun k => firstTo (n.rhit ins) k = Option.none) (fun k => ([(8, .list 1 ((n.rst ins k).map encB)), (9, .v (.int .i64 (k)))] : Env)) (fun k st => ([(2, ver2, .row 4 [[.list 1 (n.ins.map encS), .list 3 (n.regs.map encR), .list 2 (n.gates.map encG), .list 2 (n.outs.map encP)]]), (30, ver30, .map (kEnts gN (n.rents ins k)))] : Store)) (0) ?_ ?_ ?_ (fun k hinv => ?_)
   ·rfl
   ·refine sub_cons (get_as rfl ?_) ?_; rotate_left; refine sub_cons (get_as rfl ?_) ?_; rotate_left; exact sub_nil
    all_goals (first | rfl | simp)
   ·rfl
   refine aw_seq ?_
   refine aw_block ?_
   refine aw_seq ?_
   refine aw_seq ?_
   have hra := Net.rat hrd hl1 hi01 k
   have hr01 := hra.b
   have hrlen := hra.l
   have hke := Net.round_le hrd hl1 hi01 hinv
   have hal := Net.rents_le n ins k (n.rnum ins k)
   refine aw_region ?_
   refine al_op (op_move rfl) rfl (by simp) ?_
   refine al_op (op_move rfl) rfl (by simp) ?_
   first
     | refine al_callp into64 rfl rfl rfl ((c_number _ (by assumption) (by omega)) _) (by simp) ?_
     | refine al_callp into64 rfl rfl rfl (acp_lent (lend_cons (by first | exact lend_same | exact .leaf _ _ (.vnil _) | exact .leaf _ _ (.nil _) | exact lend_whole rfl (by first | rfl | (simp; done) | (simp; omega)) (clo_map (fun _ => rfl)) | exact lend_netg (by first | exact .same _ | exact lendL_vnil | exact lendL_whole rfl (by first | rfl | (simp; done) | (simp; omega)) (clo_map (fun _ => rfl))) (by first | exact .same _ | exact lendL_vnil | exact lendL_whole rfl (by first | rfl | (simp; done) | (simp; omega)) (clo_map (fun _ => rfl))) (by first | exact .same _ | exact lendL_vnil | exact lendL_whole rfl (by first | rfl | (simp; done) | (simp; omega)) (clo_map (fun _ => rfl))) (by first | exact .same _ | exact lendL_vnil | exact lendL_whole rfl (by first | rfl | (simp; done) | (simp; omega)) (clo_map (fun _ => rfl)))) lend_nil) (c_number _ (by assumption) (by omega)) rfl) (by simp) ?_
   refine al_op (op_lookup_ki (n.rnum ins k) Try.underlying104 Try.underlying3 info3 rfl rfl rfl rfl rfl) rfl (by simp) ?_
   refine al_op (op_move rfl) rfl (by simp) ?_
   refine al_op (op_extract rfl rfl rfl) rfl (by simp) ?_
   refine al_op (op_extract rfl rfl rfl) rfl (by simp) ?_
   refine al_op (op_assign rfl) rfl (by simp) ?_
   refine al_op (op_assign rfl) rfl (by simp) ?_
   refine al_nil ?_
   refine aw_seq ?_
   refine aw_region ?_
   refine al_op (op_move rfl) rfl (by simp) ?_
   refine al_nil ?_
   refine aw_cond rfl (fun h5 => ?_) (fun h5 => ?_)
   ·have gh5 := h5
    try simp only [nrm] at h5
    refine aw_seq ?_
    refine aw_region ?_
    refine al_op (op_move rfl) rfl (by simp) ?_
    refine al_op (op_move rfl) rfl (by simp) ?_
    refine al_op (op_move rfl) rfl (by simp) ?_
    refine al_op (op_sub rfl rfl (by first | exact wrap_i64 (by omega) (by omega))) rfl (by simp) ?_
    refine al_op (op_assign rfl) rfl (by simp) ?_
    refine al_op (op_assign rfl) rfl (by simp) ?_
    refine al_op (op_assign rfl) rfl (by simp) ?_
    refine al_nil ?_
    refine aw_freeze (fun _ => false) (fsub_cons (t := 4) rfl (.leaf _ _ (.same _)) (fsub_cons (t := 5) rfl (.leaf _ _ (.same _)) (fsub_cons (t := 6) rfl (.leaf _ _ (.same _)) fsub_nil))) ?_
    refine aw_ret ?_
    refine ⟨_, res_3 rfl rfl rfl rfl rfl rfl rfl, ?_, rfl⟩
    have hrk := Net.round_hit hrd hl1 hi01 hinv (by assumption)
    rw [Net.round, if_pos hro, if_pos hsm, Net.roundA, hrk]
   ·have gh5 := h5
    try simp only [nrm] at h5
    refine aw_skip ?_
    refine aw_seq ?_
    have hnew0 : (kFind (n.rnum ins k) (n.rents ins k)).isSome = false := by assumption
    have hnew : kFind (n.rnum ins k) (n.rents ins k) = none := by simpa using hnew0
    have hbad : n.bad ins (n.rst ins k) = false := Net.not_bad_of hv (bit01_ok hl1 hi01) (bit01_ok hra.l hra.b)
    have q3 := bit_bytes (bit01_bit hra.b)
    obtain ⟨e1, e2, e3, e4, e5⟩ := Net.eval_facts b2 q3 hbad
    have q5 : (n.rst ins k).length ≤ 140737488355328 := by omega
    refine aw_region ?_
    refine al_op (op_move rfl) rfl (by simp) ?_
    refine al_op (op_move rfl) rfl (by simp) ?_
    first
      | refine al_callp into64 rfl rfl rfl ((c_number _ (by assumption) (by omega)) _) (by simp) ?_
      | refine al_callp into64 rfl rfl rfl (acp_lent (lend_cons (by first | exact lend_same | exact .leaf _ _ (.vnil _) | exact .leaf _ _ (.nil _) | exact lend_whole rfl (by first | rfl | (simp; done) | (simp; omega)) (clo_map (fun _ => rfl)) | exact lend_netg (by first | exact .same _ | exact lendL_vnil | exact lendL_whole rfl (by first | rfl | (simp; done) | (simp; omega)) (clo_map (fun _ => rfl))) (by first | exact .same _ | exact lendL_vnil | exact lendL_whole rfl (by first | rfl | (simp; done) | (simp; omega)) (clo_map (fun _ => rfl))) (by first | exact .same _ | exact lendL_vnil | exact lendL_whole rfl (by first | rfl | (simp; done) | (simp; omega)) (clo_map (fun _ => rfl))) (by first | exact .same _ | exact lendL_vnil | exact lendL_whole rfl (by first | rfl | (simp; done) | (simp; omega)) (clo_map (fun _ => rfl)))) lend_nil) (c_number _ (by assumption) (by omega)) rfl) (by simp) ?_
    refine al_op (op_move rfl) rfl (by simp) ?_
    refine al_op (op_update_k (n.rnum ins k) k (g := gN) Try.underlying104 Try.underlying3 rfl rfl rfl rfl rfl rfl rfl hnew) rfl (by simp) ?_
    refine al_nil ?_
    refine aw_seq ?_
    refine aw_region ?_
    first
      | refine al_op (op_load_rptr Try.underlying27 info27 rfl rfl) rfl (by simp) ?_
      | refine al_op (op_load_map Try.underlying27 info27 rfl rfl (by omega) rfl) rfl (by simp) ?_
      | refine al_op (op_load_ptr Try.underlying27 info27 rfl rfl rfl rfl) rfl (by simp) ?_
    refine al_op (op_move rfl) rfl (by simp) ?_
    refine al_op (op_move rfl) rfl (by simp) ?_
    first
      | refine al_callp into65 rfl rfl rfl ((c_eval _ (by assumption) _ _ (by assumption) (by assumption) (by assumption) (by assumption)) _) (by simp) ?_
      | refine al_callp into65 rfl rfl rfl (ac_told (re_cons (by first | exact .leaf _ _ (.same _) | exact .leaf _ _ (.vnil _) | exact .leaf _ _ (.nil _)) (re_cons (by first | exact .leaf _ _ (.same _) | exact .leaf _ _ (.vnil _) | exact .leaf _ _ (.nil _)) (re_cons (by first | exact .leaf _ _ (.same _) | exact .leaf _ _ (.vnil _) | exact .leaf _ _ (.nil _)) re_nil))) ((c_eval _ (by assumption) _ _ (by assumption) (by assumption) (by assumption) (by assumption)) _)) (by simp) ?_
    refine al_op (op_move rfl) rfl (by simp) ?_
    refine al_op (op_extract rfl rfl rfl) rfl (by simp) ?_
    refine al_op (op_extract rfl rfl rfl) rfl (by simp) ?_
    refine al_op (op_extract rfl rfl rfl) rfl (by simp) ?_
    refine al_op (op_assign rfl) rfl (by simp) ?_
    refine al_op (op_assign rfl) rfl (by simp) ?_
    refine al_nil ?_
    refine aw_seq ?_
    refine aw_region ?_
    refine al_op (op_move rfl) rfl (by simp) ?_
    refine al_op (op_neq rfl rfl) rfl (by simp) ?_
    refine al_nil ?_
    refine aw_cond rfl (fun h6 => ?_) (fun h6 => ?_)
    ·have gh6 := h6
     try simp only [nrm] at h6
     rw [bne_iff_ne] at gh6; exact (gh6 e1).elim
    ·have gh6 := h6
     try simp only [nrm] at h6
     refine aw_skip ?_
     refine aw_region ?_
     refine al_op (op_move rfl) rfl (by simp) ?_
     refine al_op (op_add rfl rfl (by first | exact wrap_i64 (by omega) (by omega))) rfl (by simp) ?_
     refine al_op (op_assign rfl) rfl (by simp) ?_
     refine al_nil ?_
     refine ⟨k + 1, ?_, ?_, ?_, ?_, ?_⟩
     ·(have := Net.round_le hrd hl1 hi01 hinv; omega)
     ·exact firstTo_succ hinv hnew0
     ·refine sub_cons (get_as rfl ?_) ?_; rotate_left; refine sub_cons (get_as rfl ?_) ?_; rotate_left; exact sub_nil
      all_goals (first | rfl | simp)
     ·repeat (first | exact subx_refl | exact subx_del | refine subx_put rfl ?_)
     ·(rw [n.rents_succ] <;> rfl)

theorem q_toggle  : AC Try.prog 39 [] ([]) (fun r σ' => r = .ret (encN toggleN) ∧ σ'.keep (fun _ => false) = []) := by
 refine ac_enter 11 Try.func39 rfl rfl (by simp) ?_
 refine aw_seq ?_
 refine aw_region ?_
 (refine al_opR (op_alloc 0 info27 rfl rfl) rfl (by simp) ?_; rintro _ _ ⟨ver0, rfl, rfl⟩)
 refine al_nil ?_
 refine aw_seq ?_
 refine aw_region ?_
 refine al_op (op_list encS [sA] Try.underlying22 info9 rfl rfl (by decide) rfl (by decide) rfl (by first | rfl | (repeat (first | exact parts_nil | refine parts_cons rfl (by repeat (first | exact all_live_nil | refine all_live_clo rfl ?_ | refine all_live_slice rfl ?_ | refine all_live_map rfl ?_ | refine all_live_ptr rfl ?_)) ?_))) rfl rfl rfl rfl) rfl (by simp) ?_
 refine al_op (op_build_struct Try.underlying62 info62 rfl place62 rfl (by first | rfl | (repeat (first | exact parts_nil | refine parts_cons rfl (by repeat (first | exact all_live_nil | refine all_live_clo rfl ?_ | refine all_live_slice rfl ?_ | refine all_live_map rfl ?_ | refine all_live_ptr rfl ?_)) ?_))) rfl) rfl (by simp) ?_
 refine al_op (op_list encR [(sQ, 0, 11)] Try.underlying23 info62 rfl rfl (by decide) rfl (by decide) rfl (by first | rfl | (repeat (first | exact parts_nil | refine parts_cons rfl (by repeat (first | exact all_live_nil | refine all_live_clo rfl ?_ | refine all_live_slice rfl ?_ | refine all_live_map rfl ?_ | refine all_live_ptr rfl ?_)) ?_))) rfl rfl rfl rfl) rfl (by simp) ?_
 refine al_op (op_build_array Try.underlying88 info88 rfl info3 rfl (by first | rfl | (repeat (first | exact parts_nil | refine parts_cons rfl (by repeat (first | exact all_live_nil | refine all_live_clo rfl ?_ | refine all_live_slice rfl ?_ | refine all_live_map rfl ?_ | refine all_live_ptr rfl ?_)) ?_))) rfl) rfl (by simp) ?_
 refine al_op (op_build_array Try.underlying88 info88 rfl info3 rfl (by first | rfl | (repeat (first | exact parts_nil | refine parts_cons rfl (by repeat (first | exact all_live_nil | refine all_live_clo rfl ?_ | refine all_live_slice rfl ?_ | refine all_live_map rfl ?_ | refine all_live_ptr rfl ?_)) ?_))) rfl) rfl (by simp) ?_
 refine al_op (op_build_array Try.underlying88 info88 rfl info3 rfl (by first | rfl | (repeat (first | exact parts_nil | refine parts_cons rfl (by repeat (first | exact all_live_nil | refine all_live_clo rfl ?_ | refine all_live_slice rfl ?_ | refine all_live_map rfl ?_ | refine all_live_ptr rfl ?_)) ?_))) rfl) rfl (by simp) ?_
 refine al_op (op_list encG [(2, 5), (3, 4), (7, 9)] Try.underlying24 info88 rfl rfl (by decide) rfl (by decide) rfl (by first | rfl | (repeat (first | exact parts_nil | refine parts_cons rfl (by repeat (first | exact all_live_nil | refine all_live_clo rfl ?_ | refine all_live_slice rfl ?_ | refine all_live_map rfl ?_ | refine all_live_ptr rfl ?_)) ?_))) rfl rfl rfl rfl) rfl (by simp) ?_
 refine al_op (op_build_struct Try.underlying83 info83 rfl place83 rfl (by first | rfl | (repeat (first | exact parts_nil | refine parts_cons rfl (by repeat (first | exact all_live_nil | refine all_live_clo rfl ?_ | refine all_live_slice rfl ?_ | refine all_live_map rfl ?_ | refine all_live_ptr rfl ?_)) ?_))) rfl) rfl (by simp) ?_
 refine al_op (op_list encP [(sQ, 4)] Try.underlying25 info83 rfl rfl (by decide) rfl (by decide) rfl (by first | rfl | (repeat (first | exact parts_nil | refine parts_cons rfl (by repeat (first | exact all_live_nil | refine all_live_clo rfl ?_ | refine all_live_slice rfl ?_ | refine all_live_map rfl ?_ | refine all_live_ptr rfl ?_)) ?_))) rfl rfl rfl rfl) rfl (by simp) ?_
 refine al_op (op_build_struct Try.underlying27 info27 rfl place27 rfl (by first | rfl | (repeat (first | exact parts_nil | refine parts_cons rfl (by repeat (first | exact all_live_nil | refine all_live_clo rfl ?_ | refine all_live_slice rfl ?_ | refine all_live_map rfl ?_ | refine all_live_ptr rfl ?_)) ?_))) rfl) rfl (by simp) ?_
 first
   | refine al_op (op_store_ptr info27 rfl rfl rfl rfl rfl rfl (by first | rfl | exact live_one rfl | (repeat (first | exact all_live_nil | refine all_live_clo rfl ?_ | refine all_live_slice rfl ?_ | refine all_live_map rfl ?_ | refine all_live_ptr rfl ?_))) (by decide)) rfl (by simp) ?_
   | refine al_op (op_store_ptr info27 rfl rfl rfl rfl rfl rfl (by first | rfl | exact live_one rfl | (repeat (first | exact all_live_nil | refine all_live_clo rfl ?_ | refine all_live_slice rfl ?_ | refine all_live_map rfl ?_ | refine all_live_ptr rfl ?_))) (Nat.le_of_ble_eq_true rfl)) rfl (by simp) ?_
 refine al_nil ?_
 refine aw_ret ?_
 refine ⟨_, res_cell rfl Try.underlying27 info27 rfl rfl rfl rfl, ?_⟩
 exact ⟨rfl, rfl⟩
theorem l_toggle : ACp Try.prog 39 [] (encN toggleN) :=
  acp_of rfl (ac_mono (ac_keep (fun _ => false) q_toggle) (by rintro x σ1 ⟨σ2, ⟨rfl, e⟩, rfl⟩; exact ⟨rfl, e⟩))

theorem l_awake4  : ACp Try.prog 13 [] (.v (.bool (true))) := by
 refine acp_of rfl ?_
 refine ac_enter 146 Try.func13 rfl rfl (by simp) ?_
 refine aw_seq ?_
 refine aw_region ?_
 refine al_op (op_assign rfl) rfl (by simp) ?_
 refine al_nil ?_
 refine aw_seq ?_
 refine aw_region ?_
 refine al_op (op_list encB ([1] : List Int) Try.underlying40 info41 rfl rfl (by decide) rfl (by decide) rfl (by first | rfl | (repeat (first | exact parts_nil | refine parts_cons rfl (by repeat (first | exact all_live_nil | refine all_live_clo rfl ?_ | refine all_live_slice rfl ?_ | refine all_live_map rfl ?_ | refine all_live_ptr rfl ?_)) ?_))) rfl rfl rfl rfl) rfl (by simp) ?_
 refine al_op (op_list encB ([0] : List Int) Try.underlying40 info41 rfl rfl (by decide) rfl (by decide) rfl (by first | rfl | (repeat (first | exact parts_nil | refine parts_cons rfl (by repeat (first | exact all_live_nil | refine all_live_clo rfl ?_ | refine all_live_slice rfl ?_ | refine all_live_map rfl ?_ | refine all_live_ptr rfl ?_)) ?_))) rfl rfl rfl rfl) rfl (by simp) ?_
 refine al_op (op_assign rfl) rfl (by simp) ?_
 refine al_op (op_assign rfl) rfl (by simp) ?_
 refine al_nil ?_
 refine aw_seq ?_
 refine aw_region ?_
 first
   | refine al_callp into39 rfl rfl rfl ((l_toggle ) _) (by simp) ?_
   | refine al_callp into39 rfl rfl rfl (ac_told re_nil ((l_toggle ) _)) (by simp) ?_
 refine al_op (op_move rfl) rfl (by simp) ?_
 refine al_op (op_move rfl) rfl (by simp) ?_
 refine al_op (op_move rfl) rfl (by simp) ?_
 refine al_op (op_list encL ([[1], [1], [0]] : List (List Int)) Try.underlying39 info40 rfl rfl (by decide) rfl (by decide) rfl (by first | rfl | (repeat (first | exact parts_nil | refine parts_cons rfl (by repeat (first | exact all_live_nil | refine all_live_clo rfl ?_ | refine all_live_slice rfl ?_ | refine all_live_map rfl ?_ | refine all_live_ptr rfl ?_)) ?_))) rfl rfl rfl rfl) rfl (by simp) ?_
 refine al_callp into18 rfl rfl rfl (c_Run toggleN toggle_small [[1], [1], [0]] ins110 _) (by simp) ?_
 refine al_op (op_move rfl) rfl (by simp) ?_
 refine al_op (op_extract rfl rfl rfl) rfl (by simp) ?_
 refine al_op (op_extract rfl rfl rfl) rfl (by simp) ?_
 refine al_op (op_assign rfl) rfl (by simp) ?_
 refine al_op (op_assign rfl) rfl (by simp) ?_
 refine al_nil ?_
 refine aw_seq ?_
 refine aw_as 3 (.list 1 (([[0], [1], [0]] : List (List Int)).map encL)) rfl (by rw [run110]) ?_
 refine aw_as 4 (.v (.int .i64 (0))) rfl (by rw [run110]) ?_
 refine aw_region ?_
 first
   | refine al_callp into39 rfl rfl rfl ((l_toggle ) _) (by simp) ?_
   | refine al_callp into39 rfl rfl rfl (ac_told re_nil ((l_toggle ) _)) (by simp) ?_
 refine al_callp into20 rfl rfl rfl (c_Reach toggleN toggle_small _) (by simp) ?_
 refine al_op (op_move rfl) rfl (by simp) ?_
 refine al_op (op_extract rfl rfl rfl) rfl (by simp) ?_
 refine al_op (op_extract rfl rfl rfl) rfl (by simp) ?_
 refine al_op (op_assign rfl) rfl (by simp) ?_
 refine al_op (op_assign rfl) rfl (by simp) ?_
 refine al_nil ?_
 refine aw_seq ?_
 refine aw_as 5 (.list 1 (([0, 1] : List Int).map encI)) rfl (by rw [toggle_reach]) ?_
 refine aw_as 6 (.v (.int .i64 (0))) rfl (by rw [toggle_reach]) ?_
 refine aw_region ?_
 first
   | refine al_callp into39 rfl rfl rfl ((l_toggle ) _) (by simp) ?_
   | refine al_callp into39 rfl rfl rfl (ac_told re_nil ((l_toggle ) _)) (by simp) ?_
 refine al_callp into23 rfl rfl rfl (c_Way toggleN toggle_small 1 _) (by simp) ?_
 refine al_op (op_move rfl) rfl (by simp) ?_
 refine al_op (op_extract rfl rfl rfl) rfl (by simp) ?_
 refine al_op (op_extract rfl rfl rfl) rfl (by simp) ?_
 refine al_op (op_assign rfl) rfl (by simp) ?_
 refine al_op (op_assign rfl) rfl (by simp) ?_
 refine al_nil ?_
 refine aw_seq ?_
 refine aw_as 7 (.list 1 (([[1]] : List (List Int)).map encL)) rfl (by rw [toggle_way]) ?_
 refine aw_as 8 (.v (.int .i64 (0))) rfl (by rw [toggle_way]) ?_
 refine aw_region ?_
 first
   | refine al_callp into39 rfl rfl rfl ((l_toggle ) _) (by simp) ?_
   | refine al_callp into39 rfl rfl rfl (ac_told re_nil ((l_toggle ) _)) (by simp) ?_
 refine al_op (op_move rfl) rfl (by simp) ?_
 refine al_callp into32 rfl rfl rfl (c_Round toggleN toggle_small [1] bytes1 _) (by simp) ?_
 refine al_op (op_move rfl) rfl (by simp) ?_
 refine al_op (op_extract rfl rfl rfl) rfl (by simp) ?_
 refine al_op (op_extract rfl rfl rfl) rfl (by simp) ?_
 refine al_op (op_extract rfl rfl rfl) rfl (by simp) ?_
 refine al_op (op_assign rfl) rfl (by simp) ?_
 refine al_op (op_assign rfl) rfl (by simp) ?_
 refine al_op (op_assign rfl) rfl (by simp) ?_
 refine al_nil ?_
 refine aw_seq ?_
 refine aw_as 9 (.v (.int .i64 (0))) rfl (by rw [toggle_round]) ?_
 refine aw_as 10 (.v (.int .i64 (2))) rfl (by rw [toggle_round]) ?_
 refine aw_as 11 (.v (.int .i64 (0))) rfl (by rw [toggle_round]) ?_
 refine aw_region ?_
 first
   | refine al_callp into39 rfl rfl rfl ((l_toggle ) _) (by simp) ?_
   | refine al_callp into39 rfl rfl rfl (ac_told re_nil ((l_toggle ) _)) (by simp) ?_
 refine al_op (op_list encU ([3] : List Nat) Try.underlying34 info35 rfl rfl (by decide) rfl (by decide) rfl (by first | rfl | (repeat (first | exact parts_nil | refine parts_cons rfl (by repeat (first | exact all_live_nil | refine all_live_clo rfl ?_ | refine all_live_slice rfl ?_ | refine all_live_map rfl ?_ | refine all_live_ptr rfl ?_)) ?_))) rfl rfl rfl rfl) rfl (by simp) ?_
 refine al_op (op_list encU ([1] : List Nat) Try.underlying34 info35 rfl rfl (by decide) rfl (by decide) rfl (by first | rfl | (repeat (first | exact parts_nil | refine parts_cons rfl (by repeat (first | exact all_live_nil | refine all_live_clo rfl ?_ | refine all_live_slice rfl ?_ | refine all_live_map rfl ?_ | refine all_live_ptr rfl ?_)) ?_))) rfl rfl rfl rfl) rfl (by simp) ?_
 refine al_op (op_list encLU ([[3], [1]] : List (List Nat)) Try.underlying28 info34 rfl rfl (by decide) rfl (by decide) rfl (by first | rfl | (repeat (first | exact parts_nil | refine parts_cons rfl (by repeat (first | exact all_live_nil | refine all_live_clo rfl ?_ | refine all_live_slice rfl ?_ | refine all_live_map rfl ?_ | refine all_live_ptr rfl ?_)) ?_))) rfl rfl rfl rfl) rfl (by simp) ?_
 refine al_callp into14 rfl rfl rfl (c_Many toggleN toggle_small [[3], [1]] insu31 _) (by simp) ?_
 refine al_op (op_move rfl) rfl (by simp) ?_
 refine al_op (op_extract rfl rfl rfl) rfl (by simp) ?_
 refine al_op (op_extract rfl rfl rfl) rfl (by simp) ?_
 refine al_op (op_assign rfl) rfl (by simp) ?_
 refine al_op (op_assign rfl) rfl (by simp) ?_
 refine al_nil ?_
 refine aw_seq ?_
 refine aw_as 12 (.list 1 (([[0], [3]] : List (List Nat)).map encLU)) rfl (by rw [toggle_many]) ?_
 refine aw_as 13 (.v (.int .i64 (0))) rfl (by rw [toggle_many]) ?_
 refine aw_region ?_
 first
   | refine al_callp into39 rfl rfl rfl ((l_toggle ) _) (by simp) ?_
   | refine al_callp into39 rfl rfl rfl (ac_told re_nil ((l_toggle ) _)) (by simp) ?_
 refine al_op (op_list encB ([] : List Int) Try.underlying40 info41 rfl rfl (by decide) rfl (by decide) rfl (by first | rfl | (repeat (first | exact parts_nil | refine parts_cons rfl (by repeat (first | exact all_live_nil | refine all_live_clo rfl ?_ | refine all_live_slice rfl ?_ | refine all_live_map rfl ?_ | refine all_live_ptr rfl ?_)) ?_))) rfl rfl rfl rfl) rfl (by simp) ?_
 refine al_op (op_list encL ([[]] : List (List Int)) Try.underlying39 info40 rfl rfl (by decide) rfl (by decide) rfl (by first | rfl | (repeat (first | exact parts_nil | refine parts_cons rfl (by repeat (first | exact all_live_nil | refine all_live_clo rfl ?_ | refine all_live_slice rfl ?_ | refine all_live_map rfl ?_ | refine all_live_ptr rfl ?_)) ?_))) rfl rfl rfl rfl) rfl (by simp) ?_
 refine al_callp into18 rfl rfl rfl (c_Run toggleN toggle_small [[]] ins_e _) (by simp) ?_
 refine al_op (op_move rfl) rfl (by simp) ?_
 refine al_op (op_extract rfl rfl rfl) rfl (by simp) ?_
 refine al_op (op_extract rfl rfl rfl) rfl (by simp) ?_
 refine al_op (op_assign rfl) rfl (by simp) ?_
 refine al_op (op_assign rfl) rfl (by simp) ?_
 refine al_nil ?_
 refine aw_seq ?_
 refine aw_as 15 (.v (.int .i64 (2))) rfl (by rw [run_e]) ?_
 refine aw_region ?_
 first
   | refine al_callp into39 rfl rfl rfl ((l_toggle ) _) (by simp) ?_
   | refine al_callp into39 rfl rfl rfl (ac_told re_nil ((l_toggle ) _)) (by simp) ?_
 refine al_op (op_move rfl) rfl (by simp) ?_
 refine al_op (op_list encL ([[1]] : List (List Int)) Try.underlying39 info40 rfl rfl (by decide) rfl (by decide) rfl (by first | rfl | (repeat (first | exact parts_nil | refine parts_cons rfl (by repeat (first | exact all_live_nil | refine all_live_clo rfl ?_ | refine all_live_slice rfl ?_ | refine all_live_map rfl ?_ | refine all_live_ptr rfl ?_)) ?_))) rfl rfl rfl rfl) rfl (by simp) ?_
 refine al_callp into24 rfl rfl rfl (c_Last toggleN toggle_small [[1]] ins1 _) (by simp) ?_
 refine al_op (op_move rfl) rfl (by simp) ?_
 refine al_op (op_extract rfl rfl rfl) rfl (by simp) ?_
 refine al_op (op_extract rfl rfl rfl) rfl (by simp) ?_
 refine al_op (op_assign rfl) rfl (by simp) ?_
 refine al_op (op_assign rfl) rfl (by simp) ?_
 refine al_nil ?_
 refine aw_seq ?_
 refine aw_as 16 (.list 1 (([1] : List Int).map encB)) rfl (by rw [run1]) ?_
 refine aw_as 17 (.v (.int .i64 (0))) rfl (by rw [run1]) ?_
 refine aw_region ?_
 refine al_op (op_move rfl) rfl (by simp) ?_
 refine al_op (op_eql rfl rfl) rfl (by simp) ?_
 refine al_op (op_move rfl) rfl (by simp) ?_
 apply al_and 7 70 77 rfl
 ·intro h1; have gh1 := h1
  try simp only [nrm] at h1
  refine al_take (op_move rfl) rfl rfl rfl rfl (by simp) ?_
  refine al_take (op_move rfl) rfl rfl rfl rfl (by simp) ?_
  refine al_take (op_move rfl) rfl rfl rfl rfl (by simp) ?_
  refine al_take (op_move rfl) rfl rfl rfl rfl (by simp) ?_
  refine al_take (op_list encL ([[0], [1], [0]] : List (List Int)) Try.underlying39 info40 rfl rfl (by decide) rfl (by decide) rfl (by first | rfl | (repeat (first | exact parts_nil | refine parts_cons rfl (by repeat (first | exact all_live_nil | refine all_live_clo rfl ?_ | refine all_live_slice rfl ?_ | refine all_live_map rfl ?_ | refine all_live_ptr rfl ?_)) ?_))) rfl rfl rfl rfl) rfl rfl rfl rfl (by simp) ?_
  refine al_callp_take into30 rfl rfl rfl rfl rfl rfl (l_all [[0], [1], [0]] [[0], [1], [0]] ins010 ins010 _) (by simp) ?_
  first
    | refine al_op (op_pick rfl rfl) rfl (by simp) ?_
    | refine al_op (op_and rfl rfl rfl) rfl (by simp) ?_
  refine al_nil ⟨rfl, rfl, rfl, keep_of ?_⟩
  repeat (first | exact subx_refl | exact subx_known rfl gh1 subx_refl | refine subx_put rfl ?_)
 ·intro h1; have gh1 := h1
  try simp only [nrm] at h1
  refine al_pass rfl rfl rfl rfl (by simp) ?_
  refine al_pass rfl rfl rfl rfl (by simp) ?_
  refine al_pass rfl rfl rfl rfl (by simp) ?_
  refine al_pass rfl rfl rfl rfl (by simp) ?_
  refine al_pass rfl rfl rfl rfl (by simp) ?_
  refine al_pass rfl rfl rfl rfl (by simp) ?_
  first
    | refine al_op (op_pick rfl rfl) rfl (by simp) ?_
    | refine al_op (op_and rfl rfl rfl) rfl (by simp) ?_
  refine al_nil ⟨rfl, rfl, rfl, keep_of ?_⟩
  repeat (first | exact subx_refl | exact subx_known rfl gh1 subx_refl | refine subx_put rfl ?_)
 refine al_op (op_move rfl) rfl (by simp) ?_
 apply al_and 3 78 81 rfl
 ·intro h2; have gh2 := h2
  try simp only [nrm] at h2
  refine al_take (op_move rfl) rfl rfl rfl rfl (by simp) ?_
  refine al_take (op_eql rfl rfl) rfl rfl rfl rfl (by simp) ?_
  first
    | refine al_op (op_pick rfl rfl) rfl (by simp) ?_
    | refine al_op (op_and rfl rfl rfl) rfl (by simp) ?_
  refine al_nil ⟨rfl, rfl, rfl, keep_of ?_⟩
  repeat (first | exact subx_refl | exact subx_known rfl gh2 subx_refl | refine subx_put rfl ?_)
 ·intro h2; have gh2 := h2
  try simp only [nrm] at h2
  refine al_pass rfl rfl rfl rfl (by simp) ?_
  refine al_pass rfl rfl rfl rfl (by simp) ?_
  first
    | refine al_op (op_pick rfl rfl) rfl (by simp) ?_
    | refine al_op (op_and rfl rfl rfl) rfl (by simp) ?_
  refine al_nil ⟨rfl, rfl, rfl, keep_of ?_⟩
  repeat (first | exact subx_refl | exact subx_known rfl gh2 subx_refl | refine subx_put rfl ?_)
 refine al_op (op_move rfl) rfl (by simp) ?_
 apply al_and 4 82 86 rfl
 ·intro h3; have gh3 := h3
  try simp only [nrm] at h3
  refine al_take (op_move rfl) rfl rfl rfl rfl (by simp) ?_
  first
    | refine al_take (op_len_map Try.underlying45 rfl) rfl rfl rfl rfl (by simp) ?_
    | refine al_take (op_len_slice Try.underlying45 rfl rfl) rfl rfl rfl rfl (by simp) ?_
    | refine al_take (op_len_list Try.underlying45 rfl) rfl rfl rfl rfl (by simp) ?_
    | refine al_take (op_len_v Try.underlying45 rfl) rfl rfl rfl rfl (by simp) ?_
    | refine al_take (op_len_nil Try.underlying45 rfl) rfl rfl rfl rfl (by simp) ?_
  refine al_take (op_eql rfl rfl) rfl rfl rfl rfl (by simp) ?_
  first
    | refine al_op (op_pick rfl rfl) rfl (by simp) ?_
    | refine al_op (op_and rfl rfl rfl) rfl (by simp) ?_
  refine al_nil ⟨rfl, rfl, rfl, keep_of ?_⟩
  repeat (first | exact subx_refl | exact subx_known rfl gh3 subx_refl | refine subx_put rfl ?_)
 ·intro h3; have gh3 := h3
  try simp only [nrm] at h3
  refine al_pass rfl rfl rfl rfl (by simp) ?_
  refine al_pass rfl rfl rfl rfl (by simp) ?_
  refine al_pass rfl rfl rfl rfl (by simp) ?_
  first
    | refine al_op (op_pick rfl rfl) rfl (by simp) ?_
    | refine al_op (op_and rfl rfl rfl) rfl (by simp) ?_
  refine al_nil ⟨rfl, rfl, rfl, keep_of ?_⟩
  repeat (first | exact subx_refl | exact subx_known rfl gh3 subx_refl | refine subx_put rfl ?_)
 refine al_op (op_move rfl) rfl (by simp) ?_
 apply al_and 3 87 90 rfl
 ·intro h4; have gh4 := h4
  try simp only [nrm] at h4
  refine al_take (op_move rfl) rfl rfl rfl rfl (by simp) ?_
  refine al_take (op_eql rfl rfl) rfl rfl rfl rfl (by simp) ?_
  first
    | refine al_op (op_pick rfl rfl) rfl (by simp) ?_
    | refine al_op (op_and rfl rfl rfl) rfl (by simp) ?_
  refine al_nil ⟨rfl, rfl, rfl, keep_of ?_⟩
  repeat (first | exact subx_refl | exact subx_known rfl gh4 subx_refl | refine subx_put rfl ?_)
 ·intro h4; have gh4 := h4
  try simp only [nrm] at h4
  refine al_pass rfl rfl rfl rfl (by simp) ?_
  refine al_pass rfl rfl rfl rfl (by simp) ?_
  first
    | refine al_op (op_pick rfl rfl) rfl (by simp) ?_
    | refine al_op (op_and rfl rfl rfl) rfl (by simp) ?_
  refine al_nil ⟨rfl, rfl, rfl, keep_of ?_⟩
  repeat (first | exact subx_refl | exact subx_known rfl gh4 subx_refl | refine subx_put rfl ?_)
 refine al_op (op_move rfl) rfl (by simp) ?_
 apply al_and 5 91 96 rfl
 ·intro h5; have gh5 := h5
  try simp only [nrm] at h5
  refine al_take (op_move rfl) rfl rfl rfl rfl (by simp) ?_
  refine al_take (op_move rfl) rfl rfl rfl rfl (by simp) ?_
  refine al_take (op_list encL ([[1]] : List (List Int)) Try.underlying39 info40 rfl rfl (by decide) rfl (by decide) rfl (by first | rfl | (repeat (first | exact parts_nil | refine parts_cons rfl (by repeat (first | exact all_live_nil | refine all_live_clo rfl ?_ | refine all_live_slice rfl ?_ | refine all_live_map rfl ?_ | refine all_live_ptr rfl ?_)) ?_))) rfl rfl rfl rfl) rfl rfl rfl rfl (by simp) ?_
  refine al_callp_take into30 rfl rfl rfl rfl rfl rfl (l_all [[1]] [[1]] ins1 ins1 _) (by simp) ?_
  first
    | refine al_op (op_pick rfl rfl) rfl (by simp) ?_
    | refine al_op (op_and rfl rfl rfl) rfl (by simp) ?_
  refine al_nil ⟨rfl, rfl, rfl, keep_of ?_⟩
  repeat (first | exact subx_refl | exact subx_known rfl gh5 subx_refl | refine subx_put rfl ?_)
 ·intro h5; have gh5 := h5
  try simp only [nrm] at h5
  refine al_pass rfl rfl rfl rfl (by simp) ?_
  refine al_pass rfl rfl rfl rfl (by simp) ?_
  refine al_pass rfl rfl rfl rfl (by simp) ?_
  refine al_pass rfl rfl rfl rfl (by simp) ?_
  first
    | refine al_op (op_pick rfl rfl) rfl (by simp) ?_
    | refine al_op (op_and rfl rfl rfl) rfl (by simp) ?_
  refine al_nil ⟨rfl, rfl, rfl, keep_of ?_⟩
  repeat (first | exact subx_refl | exact subx_known rfl gh5 subx_refl | refine subx_put rfl ?_)
 refine al_op (op_move rfl) rfl (by simp) ?_
 apply al_and 3 97 100 rfl
 ·intro h6; have gh6 := h6
  try simp only [nrm] at h6
  refine al_take (op_move rfl) rfl rfl rfl rfl (by simp) ?_
  refine al_take (op_eql rfl rfl) rfl rfl rfl rfl (by simp) ?_
  first
    | refine al_op (op_pick rfl rfl) rfl (by simp) ?_
    | refine al_op (op_and rfl rfl rfl) rfl (by simp) ?_
  refine al_nil ⟨rfl, rfl, rfl, keep_of ?_⟩
  repeat (first | exact subx_refl | exact subx_known rfl gh6 subx_refl | refine subx_put rfl ?_)
 ·intro h6; have gh6 := h6
  try simp only [nrm] at h6
  refine al_pass rfl rfl rfl rfl (by simp) ?_
  refine al_pass rfl rfl rfl rfl (by simp) ?_
  first
    | refine al_op (op_pick rfl rfl) rfl (by simp) ?_
    | refine al_op (op_and rfl rfl rfl) rfl (by simp) ?_
  refine al_nil ⟨rfl, rfl, rfl, keep_of ?_⟩
  repeat (first | exact subx_refl | exact subx_known rfl gh6 subx_refl | refine subx_put rfl ?_)
 refine al_op (op_move rfl) rfl (by simp) ?_
 apply al_and 3 101 104 rfl
 ·intro h7; have gh7 := h7
  try simp only [nrm] at h7
  refine al_take (op_move rfl) rfl rfl rfl rfl (by simp) ?_
  refine al_take (op_eql rfl rfl) rfl rfl rfl rfl (by simp) ?_
  first
    | refine al_op (op_pick rfl rfl) rfl (by simp) ?_
    | refine al_op (op_and rfl rfl rfl) rfl (by simp) ?_
  refine al_nil ⟨rfl, rfl, rfl, keep_of ?_⟩
  repeat (first | exact subx_refl | exact subx_known rfl gh7 subx_refl | refine subx_put rfl ?_)
 ·intro h7; have gh7 := h7
  try simp only [nrm] at h7
  refine al_pass rfl rfl rfl rfl (by simp) ?_
  refine al_pass rfl rfl rfl rfl (by simp) ?_
  first
    | refine al_op (op_pick rfl rfl) rfl (by simp) ?_
    | refine al_op (op_and rfl rfl rfl) rfl (by simp) ?_
  refine al_nil ⟨rfl, rfl, rfl, keep_of ?_⟩
  repeat (first | exact subx_refl | exact subx_known rfl gh7 subx_refl | refine subx_put rfl ?_)
 refine al_op (op_move rfl) rfl (by simp) ?_
 apply al_and 3 105 108 rfl
 ·intro h8; have gh8 := h8
  try simp only [nrm] at h8
  refine al_take (op_move rfl) rfl rfl rfl rfl (by simp) ?_
  refine al_take (op_eql rfl rfl) rfl rfl rfl rfl (by simp) ?_
  first
    | refine al_op (op_pick rfl rfl) rfl (by simp) ?_
    | refine al_op (op_and rfl rfl rfl) rfl (by simp) ?_
  refine al_nil ⟨rfl, rfl, rfl, keep_of ?_⟩
  repeat (first | exact subx_refl | exact subx_known rfl gh8 subx_refl | refine subx_put rfl ?_)
 ·intro h8; have gh8 := h8
  try simp only [nrm] at h8
  refine al_pass rfl rfl rfl rfl (by simp) ?_
  refine al_pass rfl rfl rfl rfl (by simp) ?_
  first
    | refine al_op (op_pick rfl rfl) rfl (by simp) ?_
    | refine al_op (op_and rfl rfl rfl) rfl (by simp) ?_
  refine al_nil ⟨rfl, rfl, rfl, keep_of ?_⟩
  repeat (first | exact subx_refl | exact subx_known rfl gh8 subx_refl | refine subx_put rfl ?_)
 refine al_op (op_move rfl) rfl (by simp) ?_
 apply al_and 3 109 112 rfl
 ·intro h9; have gh9 := h9
  try simp only [nrm] at h9
  refine al_take (op_move rfl) rfl rfl rfl rfl (by simp) ?_
  refine al_take (op_eql rfl rfl) rfl rfl rfl rfl (by simp) ?_
  first
    | refine al_op (op_pick rfl rfl) rfl (by simp) ?_
    | refine al_op (op_and rfl rfl rfl) rfl (by simp) ?_
  refine al_nil ⟨rfl, rfl, rfl, keep_of ?_⟩
  repeat (first | exact subx_refl | exact subx_known rfl gh9 subx_refl | refine subx_put rfl ?_)
 ·intro h9; have gh9 := h9
  try simp only [nrm] at h9
  refine al_pass rfl rfl rfl rfl (by simp) ?_
  refine al_pass rfl rfl rfl rfl (by simp) ?_
  first
    | refine al_op (op_pick rfl rfl) rfl (by simp) ?_
    | refine al_op (op_and rfl rfl rfl) rfl (by simp) ?_
  refine al_nil ⟨rfl, rfl, rfl, keep_of ?_⟩
  repeat (first | exact subx_refl | exact subx_known rfl gh9 subx_refl | refine subx_put rfl ?_)
 refine al_op (op_move rfl) rfl (by simp) ?_
 apply al_and 4 113 117 rfl
 ·intro h10; have gh10 := h10
  try simp only [nrm] at h10
  refine al_take (op_move rfl) rfl rfl rfl rfl (by simp) ?_
  first
    | refine al_take (op_len_map Try.underlying28 rfl) rfl rfl rfl rfl (by simp) ?_
    | refine al_take (op_len_slice Try.underlying28 rfl rfl) rfl rfl rfl rfl (by simp) ?_
    | refine al_take (op_len_list Try.underlying28 rfl) rfl rfl rfl rfl (by simp) ?_
    | refine al_take (op_len_v Try.underlying28 rfl) rfl rfl rfl rfl (by simp) ?_
    | refine al_take (op_len_nil Try.underlying28 rfl) rfl rfl rfl rfl (by simp) ?_
  refine al_take (op_eql rfl rfl) rfl rfl rfl rfl (by simp) ?_
  first
    | refine al_op (op_pick rfl rfl) rfl (by simp) ?_
    | refine al_op (op_and rfl rfl rfl) rfl (by simp) ?_
  refine al_nil ⟨rfl, rfl, rfl, keep_of ?_⟩
  repeat (first | exact subx_refl | exact subx_known rfl gh10 subx_refl | refine subx_put rfl ?_)
 ·intro h10; have gh10 := h10
  try simp only [nrm] at h10
  refine al_pass rfl rfl rfl rfl (by simp) ?_
  refine al_pass rfl rfl rfl rfl (by simp) ?_
  refine al_pass rfl rfl rfl rfl (by simp) ?_
  first
    | refine al_op (op_pick rfl rfl) rfl (by simp) ?_
    | refine al_op (op_and rfl rfl rfl) rfl (by simp) ?_
  refine al_nil ⟨rfl, rfl, rfl, keep_of ?_⟩
  repeat (first | exact subx_refl | exact subx_known rfl gh10 subx_refl | refine subx_put rfl ?_)
 refine al_op (op_move rfl) rfl (by simp) ?_
 apply al_and 6 118 124 rfl
 ·intro h11; have gh11 := h11
  try simp only [nrm] at h11
  refine al_take (op_move rfl) rfl rfl rfl rfl (by simp) ?_
  first
    | refine al_take (op_index_map default Try.underlying28 info34 rfl rfl rfl (by first | (with_reducible exact Int.toNat_natCast _) | rfl) (by omega) (by omega)) rfl rfl rfl rfl (by simp) ?_
    | refine al_take (op_index_slice Try.underlying28 info34 rfl rfl rfl rfl (by omega) (by omega)) rfl rfl rfl rfl (by simp) ?_
    | refine al_take (op_index_list Try.underlying28 info34 rfl rfl rfl (by decide) rfl) rfl rfl rfl rfl (by simp) ?_
  first
    | refine al_take (op_load_rptr Try.underlying34 info34 rfl rfl) rfl rfl rfl rfl (by simp) ?_
    | refine al_take (op_load_map Try.underlying34 info34 rfl rfl (by omega) rfl) rfl rfl rfl rfl (by simp) ?_
    | refine al_take (op_load_ptr Try.underlying34 info34 rfl rfl rfl rfl) rfl rfl rfl rfl (by simp) ?_
  first
    | refine al_take (op_len_map Try.underlying34 rfl) rfl rfl rfl rfl (by simp) ?_
    | refine al_take (op_len_slice Try.underlying34 rfl rfl) rfl rfl rfl rfl (by simp) ?_
    | refine al_take (op_len_list Try.underlying34 rfl) rfl rfl rfl rfl (by simp) ?_
    | refine al_take (op_len_v Try.underlying34 rfl) rfl rfl rfl rfl (by simp) ?_
    | refine al_take (op_len_nil Try.underlying34 rfl) rfl rfl rfl rfl (by simp) ?_
  refine al_take (op_eql rfl rfl) rfl rfl rfl rfl (by simp) ?_
  first
    | refine al_op (op_pick rfl rfl) rfl (by simp) ?_
    | refine al_op (op_and rfl rfl rfl) rfl (by simp) ?_
  refine al_nil ⟨rfl, rfl, rfl, keep_of ?_⟩
  repeat (first | exact subx_refl | exact subx_known rfl gh11 subx_refl | refine subx_put rfl ?_)
 ·intro h11; have gh11 := h11
  try simp only [nrm] at h11
  refine al_pass rfl rfl rfl rfl (by simp) ?_
  refine al_pass rfl rfl rfl rfl (by simp) ?_
  refine al_pass rfl rfl rfl rfl (by simp) ?_
  refine al_pass rfl rfl rfl rfl (by simp) ?_
  refine al_pass rfl rfl rfl rfl (by simp) ?_
  first
    | refine al_op (op_pick rfl rfl) rfl (by simp) ?_
    | refine al_op (op_and rfl rfl rfl) rfl (by simp) ?_
  refine al_nil ⟨rfl, rfl, rfl, keep_of ?_⟩
  repeat (first | exact subx_refl | exact subx_known rfl gh11 subx_refl | refine subx_put rfl ?_)
 refine al_op (op_move rfl) rfl (by simp) ?_
 apply al_and 7 125 132 rfl
 ·intro h12; have gh12 := h12
  try simp only [nrm] at h12
  refine al_take (op_move rfl) rfl rfl rfl rfl (by simp) ?_
  first
    | refine al_take (op_index_map default Try.underlying28 info34 rfl rfl rfl (by first | (with_reducible exact Int.toNat_natCast _) | rfl) (by omega) (by omega)) rfl rfl rfl rfl (by simp) ?_
    | refine al_take (op_index_slice Try.underlying28 info34 rfl rfl rfl rfl (by omega) (by omega)) rfl rfl rfl rfl (by simp) ?_
    | refine al_take (op_index_list Try.underlying28 info34 rfl rfl rfl (by decide) rfl) rfl rfl rfl rfl (by simp) ?_
  first
    | refine al_take (op_load_rptr Try.underlying34 info34 rfl rfl) rfl rfl rfl rfl (by simp) ?_
    | refine al_take (op_load_map Try.underlying34 info34 rfl rfl (by omega) rfl) rfl rfl rfl rfl (by simp) ?_
    | refine al_take (op_load_ptr Try.underlying34 info34 rfl rfl rfl rfl) rfl rfl rfl rfl (by simp) ?_
  first
    | refine al_take (op_index_map default Try.underlying34 info35 rfl rfl rfl (by first | (with_reducible exact Int.toNat_natCast _) | rfl) (by omega) (by omega)) rfl rfl rfl rfl (by simp) ?_
    | refine al_take (op_index_slice Try.underlying34 info35 rfl rfl rfl rfl (by omega) (by omega)) rfl rfl rfl rfl (by simp) ?_
    | refine al_take (op_index_list Try.underlying34 info35 rfl rfl rfl (by decide) rfl) rfl rfl rfl rfl (by simp) ?_
  first
    | refine al_take (op_load_rptr Try.underlying35 info35 rfl rfl) rfl rfl rfl rfl (by simp) ?_
    | refine al_take (op_load_map Try.underlying35 info35 rfl rfl (by omega) rfl) rfl rfl rfl rfl (by simp) ?_
    | refine al_take (op_load_ptr Try.underlying35 info35 rfl rfl rfl rfl) rfl rfl rfl rfl (by simp) ?_
  refine al_take (op_eql rfl rfl) rfl rfl rfl rfl (by simp) ?_
  first
    | refine al_op (op_pick rfl rfl) rfl (by simp) ?_
    | refine al_op (op_and rfl rfl rfl) rfl (by simp) ?_
  refine al_nil ⟨rfl, rfl, rfl, keep_of ?_⟩
  repeat (first | exact subx_refl | exact subx_known rfl gh12 subx_refl | refine subx_put rfl ?_)
 ·intro h12; have gh12 := h12
  try simp only [nrm] at h12
  refine al_pass rfl rfl rfl rfl (by simp) ?_
  refine al_pass rfl rfl rfl rfl (by simp) ?_
  refine al_pass rfl rfl rfl rfl (by simp) ?_
  refine al_pass rfl rfl rfl rfl (by simp) ?_
  refine al_pass rfl rfl rfl rfl (by simp) ?_
  refine al_pass rfl rfl rfl rfl (by simp) ?_
  first
    | refine al_op (op_pick rfl rfl) rfl (by simp) ?_
    | refine al_op (op_and rfl rfl rfl) rfl (by simp) ?_
  refine al_nil ⟨rfl, rfl, rfl, keep_of ?_⟩
  repeat (first | exact subx_refl | exact subx_known rfl gh12 subx_refl | refine subx_put rfl ?_)
 refine al_op (op_move rfl) rfl (by simp) ?_
 apply al_and 3 133 136 rfl
 ·intro h13; have gh13 := h13
  try simp only [nrm] at h13
  refine al_take (op_move rfl) rfl rfl rfl rfl (by simp) ?_
  refine al_take (op_eql rfl rfl) rfl rfl rfl rfl (by simp) ?_
  first
    | refine al_op (op_pick rfl rfl) rfl (by simp) ?_
    | refine al_op (op_and rfl rfl rfl) rfl (by simp) ?_
  refine al_nil ⟨rfl, rfl, rfl, keep_of ?_⟩
  repeat (first | exact subx_refl | exact subx_known rfl gh13 subx_refl | refine subx_put rfl ?_)
 ·intro h13; have gh13 := h13
  try simp only [nrm] at h13
  refine al_pass rfl rfl rfl rfl (by simp) ?_
  refine al_pass rfl rfl rfl rfl (by simp) ?_
  first
    | refine al_op (op_pick rfl rfl) rfl (by simp) ?_
    | refine al_op (op_and rfl rfl rfl) rfl (by simp) ?_
  refine al_nil ⟨rfl, rfl, rfl, keep_of ?_⟩
  repeat (first | exact subx_refl | exact subx_known rfl gh13 subx_refl | refine subx_put rfl ?_)
 refine al_op (op_move rfl) rfl (by simp) ?_
 apply al_and 3 137 140 rfl
 ·intro h14; have gh14 := h14
  try simp only [nrm] at h14
  refine al_take (op_move rfl) rfl rfl rfl rfl (by simp) ?_
  refine al_take (op_eql rfl rfl) rfl rfl rfl rfl (by simp) ?_
  first
    | refine al_op (op_pick rfl rfl) rfl (by simp) ?_
    | refine al_op (op_and rfl rfl rfl) rfl (by simp) ?_
  refine al_nil ⟨rfl, rfl, rfl, keep_of ?_⟩
  repeat (first | exact subx_refl | exact subx_known rfl gh14 subx_refl | refine subx_put rfl ?_)
 ·intro h14; have gh14 := h14
  try simp only [nrm] at h14
  refine al_pass rfl rfl rfl rfl (by simp) ?_
  refine al_pass rfl rfl rfl rfl (by simp) ?_
  first
    | refine al_op (op_pick rfl rfl) rfl (by simp) ?_
    | refine al_op (op_and rfl rfl rfl) rfl (by simp) ?_
  refine al_nil ⟨rfl, rfl, rfl, keep_of ?_⟩
  repeat (first | exact subx_refl | exact subx_known rfl gh14 subx_refl | refine subx_put rfl ?_)
 refine al_op (op_move rfl) rfl (by simp) ?_
 apply al_and 4 141 145 rfl
 ·intro h15; have gh15 := h15
  try simp only [nrm] at h15
  refine al_take (op_move rfl) rfl rfl rfl rfl (by simp) ?_
  refine al_take (op_move rfl) rfl rfl rfl rfl (by simp) ?_
  refine al_callp_take into33 rfl rfl rfl rfl rfl rfl (r_SameBits [1] [1] (by decide) _) (by simp) ?_
  first
    | refine al_op (op_pick rfl rfl) rfl (by simp) ?_
    | refine al_op (op_and rfl rfl rfl) rfl (by simp) ?_
  refine al_nil ⟨rfl, rfl, rfl, keep_of ?_⟩
  repeat (first | exact subx_refl | exact subx_known rfl gh15 subx_refl | refine subx_put rfl ?_)
 ·intro h15; have gh15 := h15
  try simp only [nrm] at h15
  refine al_pass rfl rfl rfl rfl (by simp) ?_
  refine al_pass rfl rfl rfl rfl (by simp) ?_
  refine al_pass rfl rfl rfl rfl (by simp) ?_
  first
    | refine al_op (op_pick rfl rfl) rfl (by simp) ?_
    | refine al_op (op_and rfl rfl rfl) rfl (by simp) ?_
  refine al_nil ⟨rfl, rfl, rfl, keep_of ?_⟩
  repeat (first | exact subx_refl | exact subx_known rfl gh15 subx_refl | refine subx_put rfl ?_)
 refine al_op (op_assign rfl) rfl (by simp) ?_
 refine al_nil ?_
 refine aw_freeze (fun _ => false) (fsub_cons (t := 0) rfl (.leaf _ _ (.same _)) fsub_nil) ?_
 refine aw_ret ?_
 refine ⟨_, res_1 rfl rfl, ?_, rfl⟩
 first | rfl | decide

theorem l_few (n : Net) (hn : n.Small) (c : List (List Int)) (hc : Ins c) : ACp Try.prog 12 [encN n, .list 1 (c.map encL)] (.v (.bool (n.few c))) := by
 refine acp_of rfl ?_
 obtain ⟨i1, i2⟩ := hc
 have hc : Ins c := ⟨i1, i2⟩
 have z1 := hn.insL
 have z2 := hn.regsL
 have z3 := hn.outsL
 have z4 := hn.gatesL
 refine ac_enter 43 Try.func12 rfl rfl (by simp) ?_
 refine aw_seq ?_
 refine aw_region ?_
 (refine al_opR (op_box 2 rfl rfl (by first | rfl | exact live_one rfl | (repeat (first | exact all_live_nil | refine all_live_clo rfl ?_ | refine all_live_slice rfl ?_ | refine all_live_map rfl ?_ | refine all_live_ptr rfl ?_)))) rfl (by simp) ?_; rintro _ _ ⟨ver2, rfl, rfl⟩)
 refine al_op (op_assign rfl) rfl (by simp) ?_
 refine al_nil ?_
 refine aw_seq ?_
 refine aw_seq ?_
 refine aw_region ?_
 first
   | refine al_op (op_field_rptr Try.underlying27 rfl info22 (by decide) rfl rfl) rfl (by simp) ?_
   | refine al_op (op_field_ptr Try.underlying27 rfl info22 (by decide) rfl rfl rfl) rfl (by simp) ?_
 first
   | refine al_op (op_load_rptr Try.underlying22 info22 rfl rfl) rfl (by simp) ?_
   | refine al_op (op_load_map Try.underlying22 info22 rfl rfl (by omega) rfl) rfl (by simp) ?_
   | refine al_op (op_load_ptr Try.underlying22 info22 rfl rfl rfl rfl) rfl (by simp) ?_
 first
   | refine al_op (op_len_map Try.underlying22 rfl) rfl (by simp) ?_
   | refine al_op (op_len_slice Try.underlying22 rfl rfl) rfl (by simp) ?_
   | refine al_op (op_len_list Try.underlying22 rfl) rfl (by simp) ?_
   | refine al_op (op_len_v Try.underlying22 rfl) rfl (by simp) ?_
   | refine al_op (op_len_nil Try.underlying22 rfl) rfl (by simp) ?_
 first
   | refine al_op (op_field_rptr Try.underlying27 rfl info23 (by decide) rfl rfl) rfl (by simp) ?_
   | refine al_op (op_field_ptr Try.underlying27 rfl info23 (by decide) rfl rfl rfl) rfl (by simp) ?_
 first
   | refine al_op (op_load_rptr Try.underlying23 info23 rfl rfl) rfl (by simp) ?_
   | refine al_op (op_load_map Try.underlying23 info23 rfl rfl (by omega) rfl) rfl (by simp) ?_
   | refine al_op (op_load_ptr Try.underlying23 info23 rfl rfl rfl rfl) rfl (by simp) ?_
 first
   | refine al_op (op_len_map Try.underlying23 rfl) rfl (by simp) ?_
   | refine al_op (op_len_slice Try.underlying23 rfl rfl) rfl (by simp) ?_
   | refine al_op (op_len_list Try.underlying23 rfl) rfl (by simp) ?_
   | refine al_op (op_len_v Try.underlying23 rfl) rfl (by simp) ?_
   | refine al_op (op_len_nil Try.underlying23 rfl) rfl (by simp) ?_
 refine al_op (op_add rfl rfl (by first | exact wrap_i64 (by omega) (by omega))) rfl (by simp) ?_
 first
   | refine al_op (op_field_rptr Try.underlying27 rfl info25 (by decide) rfl rfl) rfl (by simp) ?_
   | refine al_op (op_field_ptr Try.underlying27 rfl info25 (by decide) rfl rfl rfl) rfl (by simp) ?_
 first
   | refine al_op (op_load_rptr Try.underlying25 info25 rfl rfl) rfl (by simp) ?_
   | refine al_op (op_load_map Try.underlying25 info25 rfl rfl (by omega) rfl) rfl (by simp) ?_
   | refine al_op (op_load_ptr Try.underlying25 info25 rfl rfl rfl rfl) rfl (by simp) ?_
 first
   | refine al_op (op_len_map Try.underlying25 rfl) rfl (by simp) ?_
   | refine al_op (op_len_slice Try.underlying25 rfl rfl) rfl (by simp) ?_
   | refine al_op (op_len_list Try.underlying25 rfl) rfl (by simp) ?_
   | refine al_op (op_len_v Try.underlying25 rfl) rfl (by simp) ?_
   | refine al_op (op_len_nil Try.underlying25 rfl) rfl (by simp) ?_
 refine al_op (op_add rfl rfl (by first | exact wrap_i64 (by omega) (by omega))) rfl (by simp) ?_
 refine al_op (op_gtr rfl rfl) rfl (by simp) ?_
 refine al_op (op_move rfl) rfl (by simp) ?_
 apply al_or 5 19 24 rfl
 ·intro h1; have gh1 := h1
  try simp only [nrm] at h1
  first
    | refine al_take (op_field_rptr Try.underlying27 rfl info24 (by decide) rfl rfl) rfl rfl rfl rfl (by simp) ?_
    | refine al_take (op_field_ptr Try.underlying27 rfl info24 (by decide) rfl rfl rfl) rfl rfl rfl rfl (by simp) ?_
  first
    | refine al_take (op_load_rptr Try.underlying24 info24 rfl rfl) rfl rfl rfl rfl (by simp) ?_
    | refine al_take (op_load_map Try.underlying24 info24 rfl rfl (by omega) rfl) rfl rfl rfl rfl (by simp) ?_
    | refine al_take (op_load_ptr Try.underlying24 info24 rfl rfl rfl rfl) rfl rfl rfl rfl (by simp) ?_
  first
    | refine al_take (op_len_map Try.underlying24 rfl) rfl rfl rfl rfl (by simp) ?_
    | refine al_take (op_len_slice Try.underlying24 rfl rfl) rfl rfl rfl rfl (by simp) ?_
    | refine al_take (op_len_list Try.underlying24 rfl) rfl rfl rfl rfl (by simp) ?_
    | refine al_take (op_len_v Try.underlying24 rfl) rfl rfl rfl rfl (by simp) ?_
    | refine al_take (op_len_nil Try.underlying24 rfl) rfl rfl rfl rfl (by simp) ?_
  refine al_take (op_gtr rfl rfl) rfl rfl rfl rfl (by simp) ?_
  first
    | refine al_op (op_pick rfl rfl) rfl (by simp) ?_
    | refine al_op (op_or rfl rfl rfl) rfl (by simp) ?_
  refine al_nil ⟨rfl, rfl, rfl, keep_of ?_⟩
  repeat (first | exact subx_refl | exact subx_known rfl gh1 subx_refl | refine subx_put rfl ?_)
 ·intro h1; have gh1 := h1
  try simp only [nrm] at h1
  refine al_pass rfl rfl rfl rfl (by simp) ?_
  refine al_pass rfl rfl rfl rfl (by simp) ?_
  refine al_pass rfl rfl rfl rfl (by simp) ?_
  refine al_pass rfl rfl rfl rfl (by simp) ?_
  first
    | refine al_op (op_pick rfl rfl) rfl (by simp) ?_
    | refine al_op (op_or rfl rfl rfl) rfl (by simp) ?_
  refine al_nil ⟨rfl, rfl, rfl, keep_of ?_⟩
  repeat (first | exact subx_refl | exact subx_known rfl gh1 subx_refl | refine subx_put rfl ?_)
 refine al_nil ?_
 refine aw_cond rfl (fun h2 => ?_) (fun h2 => ?_)
 ·have gh2 := h2
  try simp only [nrm] at h2
  refine aw_seq ?_
  refine aw_region ?_
  refine al_op (op_assign rfl) rfl (by simp) ?_
  refine al_nil ?_
  refine aw_freeze (fun _ => false) (fsub_cons (t := 4) rfl (.leaf _ _ (.same _)) fsub_nil) ?_
  refine aw_ret ?_
  refine ⟨_, res_1 rfl rfl, ?_, rfl⟩
  rw [Net.few_head (by simpa [Net.fewHead] using gh2)]
 ·have gh2 := h2
  try simp only [nrm] at h2
  refine aw_skip ?_
  refine aw_seq ?_
  refine aw_seq ?_
  refine aw_region ?_
  refine al_op (op_move rfl) rfl (by simp) ?_
  first
    | refine al_op (op_len_map Try.underlying39 rfl) rfl (by simp) ?_
    | refine al_op (op_len_slice Try.underlying39 rfl rfl) rfl (by simp) ?_
    | refine al_op (op_len_list Try.underlying39 rfl) rfl (by simp) ?_
    | refine al_op (op_len_v Try.underlying39 rfl) rfl (by simp) ?_
    | refine al_op (op_len_nil Try.underlying39 rfl) rfl (by simp) ?_
  refine al_op (op_move rfl) rfl (by simp) ?_
  refine al_nil ?_
  refine aw_block ?_
  refine aw_forT (ι := Nat) [4, 27] [] (fun i => c.length - i) (fun i => i ≤ c.length ∧ allTo (fewAt c) i = true) (fun i => ([(27, .v (.int .i64 (i)))] : Env)) (fun i s => s) (0) ?_ ?_ ?_ (fun i hinv => ?_)
  ·exact ⟨Nat.zero_le _, rfl⟩
  ·refine sub_cons (get_as rfl ?_) ?_; rotate_left; exact sub_nil
   all_goals (first | rfl | simp)
  ·rfl
  have hii := hinv.1
  refine aw_seq ?_
  refine aw_region ?_
  refine al_op (op_lss rfl rfl) rfl (by simp) ?_
  refine al_nil ?_
  refine aw_seq ?_
  refine aw_cond rfl (fun h3 => ?_) (fun h3 => ?_)
  ·have gh3 := h3
   try simp only [nrm] at h3
   refine aw_skip ?_
   refine aw_seq ?_
   refine aw_block ?_
   refine aw_seq ?_
   refine aw_region ?_
   first
     | refine al_op (op_index_map default Try.underlying39 info40 rfl rfl rfl (by first | (with_reducible exact Int.toNat_natCast _) | rfl) (by omega) (by omega)) rfl (by simp) ?_
     | refine al_op (op_index_slice Try.underlying39 info40 rfl rfl rfl rfl (by omega) (by omega)) rfl (by simp) ?_
     | refine al_op (op_index_list Try.underlying39 info40 rfl rfl rfl (by decide) rfl) rfl (by simp) ?_
   first
     | refine al_op (op_load_rptr Try.underlying40 info40 rfl rfl) rfl (by simp) ?_
     | refine al_op (op_load_map Try.underlying40 info40 rfl rfl (by omega) rfl) rfl (by simp) ?_
     | refine al_op (op_load_ptr Try.underlying40 info40 rfl rfl rfl rfl) rfl (by simp) ?_
   refine al_op (op_assign rfl) rfl (by simp) ?_
   refine al_nil ?_
   refine aw_seq ?_
   have q1 := (hc.at i).len
   refine aw_region ?_
   refine al_op (op_move rfl) rfl (by simp) ?_
   first
     | refine al_op (op_len_map Try.underlying40 rfl) rfl (by simp) ?_
     | refine al_op (op_len_slice Try.underlying40 rfl rfl) rfl (by simp) ?_
     | refine al_op (op_len_list Try.underlying40 rfl) rfl (by simp) ?_
     | refine al_op (op_len_v Try.underlying40 rfl) rfl (by simp) ?_
     | refine al_op (op_len_nil Try.underlying40 rfl) rfl (by simp) ?_
   refine al_op (op_gtr rfl rfl) rfl (by simp) ?_
   refine al_nil ?_
   refine aw_cond rfl (fun h4 => ?_) (fun h4 => ?_)
   ·have gh4 := h4
    try simp only [nrm] at h4
    refine aw_seq ?_
    refine aw_region ?_
    refine al_op (op_assign rfl) rfl (by simp) ?_
    refine al_nil ?_
    refine aw_freeze (fun _ => false) (fsub_cons (t := 4) rfl (.leaf _ _ (.same _)) fsub_nil) ?_
    refine aw_ret ?_
    refine ⟨_, res_1 rfl rfl, ?_, rfl⟩
    rw [Net.few_at i (by omega) (by simpa [fewAt] using gh4)]
   ·have gh4 := h4
    try simp only [nrm] at h4
    refine aw_skip ?_
    refine aw_region ?_
    refine al_op (op_add rfl rfl (by first | exact wrap_i64 (by omega) (by omega))) rfl (by simp) ?_
    refine al_op (op_move rfl) rfl (by simp) ?_
    refine al_nil ?_
    refine ⟨i + 1, ?_, ?_, ?_, ?_, ?_⟩
    ·omega
    ·exact ⟨by omega, allTo_succ hinv.2 (by simpa [fewAt] using gh4)⟩
    ·refine sub_cons (get_as rfl ?_) ?_; rotate_left; exact sub_nil
     all_goals (first | rfl | simp)
    ·repeat (first | exact subx_refl | exact subx_del | refine subx_put rfl ?_)
    ·rfl
  ·have gh3 := h3
   try simp only [nrm] at h3
   refine aw_exit ?_
   obtain rfl : i = c.length := by omega
   have hall := hinv.2
   refine aw_seq ?_
   refine aw_region ?_
   refine al_op (op_move rfl) rfl (by simp) ?_
   first
     | refine al_op (op_len_map Try.underlying39 rfl) rfl (by simp) ?_
     | refine al_op (op_len_slice Try.underlying39 rfl rfl) rfl (by simp) ?_
     | refine al_op (op_len_list Try.underlying39 rfl) rfl (by simp) ?_
     | refine al_op (op_len_v Try.underlying39 rfl) rfl (by simp) ?_
     | refine al_op (op_len_nil Try.underlying39 rfl) rfl (by simp) ?_
   refine al_op (op_leq rfl rfl) rfl (by simp) ?_
   refine al_op (op_move rfl) rfl (by simp) ?_
   apply al_or 4 38 42 rfl
   ·intro h5; have gh5 := h5
    try simp only [nrm] at h5
    refine al_take (op_move rfl) rfl rfl rfl rfl (by simp) ?_
    first
      | refine al_take (op_len_map Try.underlying39 rfl) rfl rfl rfl rfl (by simp) ?_
      | refine al_take (op_len_slice Try.underlying39 rfl rfl) rfl rfl rfl rfl (by simp) ?_
      | refine al_take (op_len_list Try.underlying39 rfl) rfl rfl rfl rfl (by simp) ?_
      | refine al_take (op_len_v Try.underlying39 rfl) rfl rfl rfl rfl (by simp) ?_
      | refine al_take (op_len_nil Try.underlying39 rfl) rfl rfl rfl rfl (by simp) ?_
    refine al_take (op_gtr rfl rfl) rfl rfl rfl rfl (by simp) ?_
    first
      | refine al_op (op_pick rfl rfl) rfl (by simp) ?_
      | refine al_op (op_or rfl rfl rfl) rfl (by simp) ?_
    refine al_nil ⟨rfl, rfl, rfl, keep_of ?_⟩
    repeat (first | exact subx_refl | exact subx_known rfl gh5 subx_refl | refine subx_put rfl ?_)
   ·intro h5; have gh5 := h5
    try simp only [nrm] at h5
    refine al_pass rfl rfl rfl rfl (by simp) ?_
    refine al_pass rfl rfl rfl rfl (by simp) ?_
    refine al_pass rfl rfl rfl rfl (by simp) ?_
    first
      | refine al_op (op_pick rfl rfl) rfl (by simp) ?_
      | refine al_op (op_or rfl rfl rfl) rfl (by simp) ?_
    refine al_nil ⟨rfl, rfl, rfl, keep_of ?_⟩
    repeat (first | exact subx_refl | exact subx_known rfl gh5 subx_refl | refine subx_put rfl ?_)
   refine al_op (op_assign rfl) rfl (by simp) ?_
   refine al_nil ?_
   refine aw_freeze (fun _ => false) (fsub_cons (t := 4) rfl (.leaf _ _ (.same _)) fsub_nil) ?_
   refine aw_ret ?_
   refine ⟨_, res_1 rfl rfl, ?_, rfl⟩
   rw [Net.few_ok (by simpa [Net.fewHead] using gh2) hall]

theorem l_drawn (f : List Int) (hf : OKB8 f) (m t : Nat) (d : Bool) (hm : m ≤ 1000) (ht : t ≤ 1000) : ACp Try.prog 31 [.list 1 (f.map encB), .v (.int .i64 ((m : Int))), .v (.int .i64 ((t : Int))), .v (.bool (d))] (.list 1 ((drawn f m t d).map encB)) := by
 refine acp_of rfl ?_
 obtain ⟨f1, f2⟩ := hf
 have hf : OKB8 f := ⟨f1, f2⟩
 refine ac_enter 50 Try.func31 rfl rfl (by simp) ?_
 refine aw_seq ?_
 refine aw_region ?_
 refine al_op (op_assign rfl) rfl (by simp) ?_
 refine al_nil ?_
 refine aw_seq ?_
 refine aw_region ?_
 refine al_op (op_assign rfl) rfl (by simp) ?_
 refine al_nil ?_
 refine aw_seq ?_
 refine aw_seq ?_
 refine aw_region ?_
 refine al_op (op_assign rfl) rfl (by simp) ?_
 refine al_nil ?_
 refine aw_block ?_
 refine aw_own_map encB 9 1 9 rfl rfl (fun ver9 => ?_)
 refine aw_for2T (α := Nat) (β := Nat) [9, 10] [] (fun i ver => m - i) (fun i ver => i ≤ m) (fun i ver => ([(9, .slice 9 ver 0 (drawnTo f m t d i).length), (10, .v (.int .i64 (i)))] : Env)) (fun i ver s => s.put 9 ver (.row 1 ((drawnTo f m t d i).map encB))) (0) (ver9) ?_ ?_ ?_ (fun i ver hinv => ?_)
 ·exact Nat.zero_le _
 ·refine sub_cons (get_as rfl ?_) ?_; rotate_left; refine sub_cons (get_as rfl ?_) ?_; rotate_left; exact sub_nil
  all_goals (first | rfl | (simp; done) | (rw [drawnTo_succ] <;> rfl))
 ·rfl
 have hlen := drawnTo_length f m t d i
 refine aw_seq ?_
 refine aw_seq ?_
 refine aw_region ?_
 refine al_op (op_move rfl) rfl (by simp) ?_
 refine al_op (op_move rfl) rfl (by simp) ?_
 refine al_op (op_lss rfl rfl) rfl (by simp) ?_
 refine al_nil ?_
 refine aw_cond rfl (fun h1 => ?_) (fun h1 => ?_)
 ·have gh1 := h1
  try simp only [nrm] at h1
  refine aw_skip ?_
  refine aw_seq ?_
  refine aw_block ?_
  refine aw_seq ?_
  refine aw_region ?_
  refine al_op (op_assign rfl) rfl (by simp) ?_
  refine al_nil ?_
  refine aw_seq ?_
  refine aw_seq ?_
  refine aw_region ?_
  refine al_op (op_move rfl) rfl (by simp) ?_
  first
    | refine al_op (op_len_map Try.underlying57 rfl) rfl (by simp) ?_
    | refine al_op (op_len_slice Try.underlying57 rfl rfl) rfl (by simp) ?_
    | refine al_op (op_len_list Try.underlying57 rfl) rfl (by simp) ?_
    | refine al_op (op_len_v Try.underlying57 rfl) rfl (by simp) ?_
    | refine al_op (op_len_nil Try.underlying57 rfl) rfl (by simp) ?_
  refine al_op (op_gtr rfl rfl) rfl (by simp) ?_
  refine al_nil ?_
  refine aw_cond rfl (fun h2 => ?_) (fun h2 => ?_)
  ·have gh2 := h2
   try simp only [nrm] at h2
   obtain ⟨w1, w2, w3, w4, w5, w6, w7⟩ := draw_at hf (show f.length > 0 by omega) hm ht (show i < m by omega)
   refine aw_seq ?_
   refine aw_region ?_
   refine al_op (op_move rfl) rfl (by simp) ?_
   refine al_op (op_move rfl) rfl (by simp) ?_
   refine al_op (op_move rfl) rfl (by simp) ?_
   refine al_op (op_move rfl) rfl (by simp) ?_
   refine al_op (op_mul rfl rfl (by first | exact wrap_i64 (by omega) (by omega))) rfl (by simp) ?_
   refine al_op (op_add rfl rfl (by first | exact wrap_i64 (by omega) (by omega))) rfl (by simp) ?_
   refine al_op (op_move rfl) rfl (by simp) ?_
   first
     | refine al_op (op_len_map Try.underlying57 rfl) rfl (by simp) ?_
     | refine al_op (op_len_slice Try.underlying57 rfl rfl) rfl (by simp) ?_
     | refine al_op (op_len_list Try.underlying57 rfl) rfl (by simp) ?_
     | refine al_op (op_len_v Try.underlying57 rfl) rfl (by simp) ?_
     | refine al_op (op_len_nil Try.underlying57 rfl) rfl (by simp) ?_
   first
     | refine al_op (op_rem rfl rfl (by omega) (rem_nn (by omega))) rfl (by simp) ?_
     | refine al_op (op_rem rfl rfl (by omega) rfl) rfl (by simp) ?_
   first
     | refine al_op (op_index_map default Try.underlying57 info5 rfl rfl rfl (by first | (with_reducible exact Int.toNat_natCast _) | rfl) (by omega) (by omega)) rfl (by simp) ?_
     | refine al_op (op_index_slice Try.underlying57 info5 rfl rfl rfl rfl (by omega) (by omega)) rfl (by simp) ?_
     | refine al_op (op_index_list Try.underlying57 info5 rfl rfl rfl (by decide) rfl) rfl (by simp) ?_
   first
     | refine al_op (op_load_rptr Try.underlying5 info5 rfl rfl) rfl (by simp) ?_
     | refine al_op (op_load_map Try.underlying5 info5 rfl rfl (by omega) rfl) rfl (by simp) ?_
     | refine al_op (op_load_ptr Try.underlying5 info5 rfl rfl rfl rfl) rfl (by simp) ?_
   refine al_op (op_conv Try.underlying5 Try.underlying3 rfl (wrap_i64 (by omega) (by omega))) rfl (by simp) ?_
   refine al_op (op_move rfl) rfl (by simp) ?_
   refine al_op (op_quo rfl rfl (by omega) (quo_nn (by omega) (by omega) (by omega))) rfl (by simp) ?_
   refine al_op (op_add rfl rfl (by first | exact wrap_i64 (by omega) (by omega))) rfl (by simp) ?_
   refine al_op (op_assign rfl) rfl (by simp) ?_
   refine al_nil ?_
   refine aw_seq ?_
   refine aw_region ?_
   refine al_op (op_move rfl) rfl (by simp) ?_
   first
     | refine al_op (op_rem rfl rfl (by omega) (rem_nn (by omega))) rfl (by simp) ?_
     | refine al_op (op_rem rfl rfl (by omega) rfl) rfl (by simp) ?_
   refine al_op (op_conv Try.underlying3 Try.underlying41 rfl (wrap_u8 (by omega) (by omega))) rfl (by simp) ?_
   refine al_op (op_assign rfl) rfl (by simp) ?_
   refine al_nil ?_
   refine aw_seq ?_
   refine aw_region ?_
   refine al_op (op_move rfl) rfl (by simp) ?_
   refine al_op (op_move rfl) rfl (by simp) ?_
   apply al_and 4 40 44 rfl
   ·intro h3; have gh3 := h3
    try simp only [nrm] at h3
    refine al_take (op_move rfl) rfl rfl rfl rfl (by simp) ?_
    first
      | refine al_take (op_rem rfl rfl (by omega) (rem_nn (by omega))) rfl rfl rfl rfl (by simp) ?_
      | refine al_take (op_rem rfl rfl (by omega) rfl) rfl rfl rfl rfl (by simp) ?_
    refine al_take (op_eql rfl rfl) rfl rfl rfl rfl (by simp) ?_
    first
      | refine al_op (op_pick rfl rfl) rfl (by simp) ?_
      | refine al_op (op_and rfl rfl rfl) rfl (by simp) ?_
    refine al_nil ⟨rfl, rfl, rfl, keep_of ?_⟩
    repeat (first | exact subx_refl | exact subx_known rfl gh3 subx_refl | refine subx_put rfl ?_)
   ·intro h3; have gh3 := h3
    try simp only [nrm] at h3
    refine al_pass rfl rfl rfl rfl (by simp) ?_
    refine al_pass rfl rfl rfl rfl (by simp) ?_
    refine al_pass rfl rfl rfl rfl (by simp) ?_
    first
      | refine al_op (op_pick rfl rfl) rfl (by simp) ?_
      | refine al_op (op_and rfl rfl rfl) rfl (by simp) ?_
    refine al_nil ⟨rfl, rfl, rfl, keep_of ?_⟩
    repeat (first | exact subx_refl | exact subx_known rfl gh3 subx_refl | refine subx_put rfl ?_)
   refine al_nil ?_
   refine aw_cond rfl (fun h4 => ?_) (fun h4 => ?_)
   ·have gh4 := h4
    try simp only [nrm] at h4
    refine aw_region ?_
    refine al_op (op_assign rfl) rfl (by simp) ?_
    refine al_nil ?_
    refine aw_as 11 (.v (.int .u8 (drawV f m t d i))) rfl (by first | rw [drawV_nil (by omega)] | rw [drawV_two (by omega) gh4] | rw [drawV_bit (by omega) gh4] <;> rfl) ?_
    refine aw_region ?_
    refine al_op (op_move rfl) rfl (by simp) ?_
    refine al_op (op_move rfl) rfl (by simp) ?_
    refine al_op (op_buildSlice Try.underlying40 info41 rfl rfl (by decide) rfl (by decide) rfl (by first | rfl | (repeat (first | exact parts_nil | refine parts_cons rfl (by repeat (first | exact all_live_nil | refine all_live_clo rfl ?_ | refine all_live_slice rfl ?_ | refine all_live_map rfl ?_ | refine all_live_ptr rfl ?_)) ?_))) rfl rfl rfl) rfl (by simp) ?_
    first
      | (refine al_opR (op_append_one _ Try.underlying40 Try.underlying40 rfl info41 rfl rfl (by decide) rfl rfl rfl (by first | rfl | simp) rfl rfl (by first | omega | (simp; done) | (simp; omega)) (by show _ * 1 ≤ _; first | omega | (simp; done) | (simp; omega))) rfl (by simp) ?_; rintro _ _ ⟨ver48, rfl, rfl⟩)
      | (refine al_opR (op_append_map Try.underlying40 Try.underlying40 rfl info41 rfl rfl (by decide) rfl rfl rfl (by first | rfl | simp) rfl (by first | exact .list _ | exact .vnil | exact .nil | exact .row _ _ _ _ rfl (by first | rfl | simp)) rfl (by first | omega | (simp; done) | (simp; omega)) (by show _ * 1 ≤ _; first | omega | (simp; done) | (simp; omega))) rfl (by simp) ?_; rintro _ _ ⟨ver48, rfl, rfl⟩)
    refine al_op (op_assign rfl) rfl (by simp) ?_
    refine al_nil ?_
    refine aw_region ?_
    refine al_op (op_move rfl) rfl (by simp) ?_
    refine al_op (op_add rfl rfl (by first | exact wrap_i64 (by omega) (by omega))) rfl (by simp) ?_
    refine al_op (op_assign rfl) rfl (by simp) ?_
    refine al_nil ?_
    refine ⟨i + 1, ver48, ?_, ?_, ?_, ?_, ?_⟩
    ·omega
    ·omega
    ·refine sub_cons (get_as rfl ?_) ?_; rotate_left; refine sub_cons (get_as rfl ?_) ?_; rotate_left; exact sub_nil
     all_goals (first | rfl | (simp; done) | (rw [drawnTo_succ] <;> rfl))
    ·repeat (first | exact subx_refl | exact subx_del | refine subx_put rfl ?_)
    ·(rw [drawnTo_succ] <;> rfl)
   ·have gh4 := h4
    try simp only [nrm] at h4
    refine aw_skip ?_
    refine aw_as 11 (.v (.int .u8 (drawV f m t d i))) rfl (by first | rw [drawV_nil (by omega)] | rw [drawV_two (by omega) gh4] | rw [drawV_bit (by omega) gh4] <;> rfl) ?_
    refine aw_region ?_
    refine al_op (op_move rfl) rfl (by simp) ?_
    refine al_op (op_move rfl) rfl (by simp) ?_
    refine al_op (op_buildSlice Try.underlying40 info41 rfl rfl (by decide) rfl (by decide) rfl (by first | rfl | (repeat (first | exact parts_nil | refine parts_cons rfl (by repeat (first | exact all_live_nil | refine all_live_clo rfl ?_ | refine all_live_slice rfl ?_ | refine all_live_map rfl ?_ | refine all_live_ptr rfl ?_)) ?_))) rfl rfl rfl) rfl (by simp) ?_
    first
      | (refine al_opR (op_append_one _ Try.underlying40 Try.underlying40 rfl info41 rfl rfl (by decide) rfl rfl rfl (by first | rfl | simp) rfl rfl (by first | omega | (simp; done) | (simp; omega)) (by show _ * 1 ≤ _; first | omega | (simp; done) | (simp; omega))) rfl (by simp) ?_; rintro _ _ ⟨ver48, rfl, rfl⟩)
      | (refine al_opR (op_append_map Try.underlying40 Try.underlying40 rfl info41 rfl rfl (by decide) rfl rfl rfl (by first | rfl | simp) rfl (by first | exact .list _ | exact .vnil | exact .nil | exact .row _ _ _ _ rfl (by first | rfl | simp)) rfl (by first | omega | (simp; done) | (simp; omega)) (by show _ * 1 ≤ _; first | omega | (simp; done) | (simp; omega))) rfl (by simp) ?_; rintro _ _ ⟨ver48, rfl, rfl⟩)
    refine al_op (op_assign rfl) rfl (by simp) ?_
    refine al_nil ?_
    refine aw_region ?_
    refine al_op (op_move rfl) rfl (by simp) ?_
    refine al_op (op_add rfl rfl (by first | exact wrap_i64 (by omega) (by omega))) rfl (by simp) ?_
    refine al_op (op_assign rfl) rfl (by simp) ?_
    refine al_nil ?_
    refine ⟨i + 1, ver48, ?_, ?_, ?_, ?_, ?_⟩
    ·omega
    ·omega
    ·refine sub_cons (get_as rfl ?_) ?_; rotate_left; refine sub_cons (get_as rfl ?_) ?_; rotate_left; exact sub_nil
     all_goals (first | rfl | (simp; done) | (rw [drawnTo_succ] <;> rfl))
    ·repeat (first | exact subx_refl | exact subx_del | refine subx_put rfl ?_)
    ·(rw [drawnTo_succ] <;> rfl)
  ·have gh2 := h2
   try simp only [nrm] at h2
   refine aw_skip ?_
   refine aw_as 11 (.v (.int .u8 (drawV f m t d i))) rfl (by first | rw [drawV_nil (by omega)] | rw [drawV_two (by omega) gh4] | rw [drawV_bit (by omega) gh4] <;> rfl) ?_
   refine aw_region ?_
   refine al_op (op_move rfl) rfl (by simp) ?_
   refine al_op (op_move rfl) rfl (by simp) ?_
   refine al_op (op_buildSlice Try.underlying40 info41 rfl rfl (by decide) rfl (by decide) rfl (by first | rfl | (repeat (first | exact parts_nil | refine parts_cons rfl (by repeat (first | exact all_live_nil | refine all_live_clo rfl ?_ | refine all_live_slice rfl ?_ | refine all_live_map rfl ?_ | refine all_live_ptr rfl ?_)) ?_))) rfl rfl rfl) rfl (by simp) ?_
   first
     | (refine al_opR (op_append_one _ Try.underlying40 Try.underlying40 rfl info41 rfl rfl (by decide) rfl rfl rfl (by first | rfl | simp) rfl rfl (by first | omega | (simp; done) | (simp; omega)) (by show _ * 1 ≤ _; first | omega | (simp; done) | (simp; omega))) rfl (by simp) ?_; rintro _ _ ⟨ver48, rfl, rfl⟩)
     | (refine al_opR (op_append_map Try.underlying40 Try.underlying40 rfl info41 rfl rfl (by decide) rfl rfl rfl (by first | rfl | simp) rfl (by first | exact .list _ | exact .vnil | exact .nil | exact .row _ _ _ _ rfl (by first | rfl | simp)) rfl (by first | omega | (simp; done) | (simp; omega)) (by show _ * 1 ≤ _; first | omega | (simp; done) | (simp; omega))) rfl (by simp) ?_; rintro _ _ ⟨ver48, rfl, rfl⟩)
   refine al_op (op_assign rfl) rfl (by simp) ?_
   refine al_nil ?_
   refine aw_region ?_
   refine al_op (op_move rfl) rfl (by simp) ?_
   refine al_op (op_add rfl rfl (by first | exact wrap_i64 (by omega) (by omega))) rfl (by simp) ?_
   refine al_op (op_assign rfl) rfl (by simp) ?_
   refine al_nil ?_
   refine ⟨i + 1, ver48, ?_, ?_, ?_, ?_, ?_⟩
   ·omega
   ·omega
   ·refine sub_cons (get_as rfl ?_) ?_; rotate_left; refine sub_cons (get_as rfl ?_) ?_; rotate_left; exact sub_nil
    all_goals (first | rfl | (simp; done) | (rw [drawnTo_succ] <;> rfl))
   ·repeat (first | exact subx_refl | exact subx_del | refine subx_put rfl ?_)
   ·(rw [drawnTo_succ] <;> rfl)
 ·have gh1 := h1
  try simp only [nrm] at h1
  refine aw_exit ?_
  obtain rfl : i = m := by omega
  refine aw_seq ?_
  refine aw_region ?_
  refine al_op (op_move rfl) rfl (by simp) ?_
  refine al_op (op_assign rfl) rfl (by simp) ?_
  refine al_nil ?_
  refine aw_freeze (fun _ => false) (fsub_cons (t := 8) rfl (by first | exact .leaf _ _ (frz_whole rfl rfl (by first | rfl | (simp; done) | (simp; omega)) (clo_map (fun _ => rfl))) | exact .leaf _ _ (.vnil 1) | exact .leaf _ _ (.nil 1) | exact .leaf _ _ (.same _)) fsub_nil) ?_
  refine aw_ret ?_
  refine ⟨_, res_1 rfl rfl, ?_, rfl⟩
  rfl

theorem l_clocks (n : Net) (hn : n.Small) (hil : n.ins.length ≤ 1000) (f : List Int) (hf : OKB8 f) (m : Int) (d : Bool) (hm0 : 0 ≤ m) (hm : m ≤ 1000) : ACp Try.prog 27 [encN n, .list 1 (f.map encB), .v (.int .i64 (m)), .v (.bool (d))] (.list 1 ((n.clocks f m d).map encL)) := by
 refine acp_of rfl ?_
 refine ac_enter 27 Try.func27 rfl rfl (by simp) ?_
 refine aw_seq ?_
 refine aw_region ?_
 (refine al_opR (op_box 4 rfl rfl (by first | rfl | exact live_one rfl | (repeat (first | exact all_live_nil | refine all_live_clo rfl ?_ | refine all_live_slice rfl ?_ | refine all_live_map rfl ?_ | refine all_live_ptr rfl ?_)))) rfl (by simp) ?_; rintro _ _ ⟨ver4, rfl, rfl⟩)
 refine al_op (op_assign rfl) rfl (by simp) ?_
 refine al_nil ?_
 refine aw_seq ?_
 refine aw_region ?_
 refine al_op (op_assign rfl) rfl (by simp) ?_
 refine al_nil ?_
 refine aw_seq ?_
 refine aw_seq ?_
 refine aw_region ?_
 refine al_op (op_assign rfl) rfl (by simp) ?_
 refine al_nil ?_
 refine aw_block ?_
 refine aw_own_map encL 9 1 9 rfl rfl (fun ver9 => ?_)
 refine aw_for2T (α := Nat) (β := Nat) [9, 10] [] (fun i ver => m.toNat - i) (fun i ver => i ≤ m.toNat) (fun i ver => ([(9, .slice 9 ver 0 (n.clocksTo f d i).length), (10, .v (.int .i64 (i)))] : Env)) (fun i ver s => s.put 9 ver (.row 1 ((n.clocksTo f d i).map encL))) (0) (ver9) ?_ ?_ ?_ (fun i ver hinv => ?_)
 ·exact Nat.zero_le _
 ·refine sub_cons (get_as rfl ?_) ?_; rotate_left; refine sub_cons (get_as rfl ?_) ?_; rotate_left; exact sub_nil
  all_goals (first | rfl | (simp; done) | (rw [n.clocksTo_succ] <;> rfl))
 ·rfl
 have hlen := n.clocksTo_length f d i
 refine aw_seq ?_
 refine aw_seq ?_
 refine aw_region ?_
 refine al_op (op_move rfl) rfl (by simp) ?_
 refine al_op (op_move rfl) rfl (by simp) ?_
 refine al_op (op_lss rfl rfl) rfl (by simp) ?_
 refine al_nil ?_
 refine aw_cond rfl (fun h1 => ?_) (fun h1 => ?_)
 ·have gh1 := h1
  try simp only [nrm] at h1
  refine aw_skip ?_
  refine aw_seq ?_
  refine aw_block ?_
  refine aw_region ?_
  refine al_op (op_move rfl) rfl (by simp) ?_
  refine al_op (op_move rfl) rfl (by simp) ?_
  first
    | refine al_op (op_field_rptr Try.underlying27 rfl info22 (by decide) rfl rfl) rfl (by simp) ?_
    | refine al_op (op_field_ptr Try.underlying27 rfl info22 (by decide) rfl rfl rfl) rfl (by simp) ?_
  first
    | refine al_op (op_load_rptr Try.underlying22 info22 rfl rfl) rfl (by simp) ?_
    | refine al_op (op_load_map Try.underlying22 info22 rfl rfl (by omega) rfl) rfl (by simp) ?_
    | refine al_op (op_load_ptr Try.underlying22 info22 rfl rfl rfl rfl) rfl (by simp) ?_
  first
    | refine al_op (op_len_map Try.underlying22 rfl) rfl (by simp) ?_
    | refine al_op (op_len_slice Try.underlying22 rfl rfl) rfl (by simp) ?_
    | refine al_op (op_len_list Try.underlying22 rfl) rfl (by simp) ?_
    | refine al_op (op_len_v Try.underlying22 rfl) rfl (by simp) ?_
    | refine al_op (op_len_nil Try.underlying22 rfl) rfl (by simp) ?_
  refine al_op (op_move rfl) rfl (by simp) ?_
  refine al_op (op_move rfl) rfl (by simp) ?_
  first
    | refine al_callp into31 rfl rfl rfl ((l_drawn _ (by assumption) _ _ _ (by omega) (by omega)) _) (by simp) ?_
    | refine al_callp into31 rfl rfl rfl (ac_told (re_cons (by first | exact .leaf _ _ (.same _) | exact .leaf _ _ (.vnil _) | exact .leaf _ _ (.nil _)) (re_cons (by first | exact .leaf _ _ (.same _) | exact .leaf _ _ (.vnil _) | exact .leaf _ _ (.nil _)) (re_cons (by first | exact .leaf _ _ (.same _) | exact .leaf _ _ (.vnil _) | exact .leaf _ _ (.nil _)) (re_cons (by first | exact .leaf _ _ (.same _) | exact .leaf _ _ (.vnil _) | exact .leaf _ _ (.nil _)) re_nil)))) ((l_drawn _ (by assumption) _ _ _ (by omega) (by omega)) _)) (by simp) ?_
  refine al_op (op_buildSlice Try.underlying39 info40 rfl rfl (by decide) rfl (by decide) rfl (by first | rfl | (repeat (first | exact parts_nil | refine parts_cons rfl (by repeat (first | exact all_live_nil | refine all_live_clo rfl ?_ | refine all_live_slice rfl ?_ | refine all_live_map rfl ?_ | refine all_live_ptr rfl ?_)) ?_))) rfl rfl rfl) rfl (by simp) ?_
  first
    | (refine al_opR (op_append_one (drawn f n.ins.length i d) Try.underlying39 Try.underlying39 rfl info40 rfl rfl (by decide) rfl rfl rfl (by first | rfl | simp) rfl rfl (by first | omega | (simp; done) | (simp; omega)) (by show _ * 24 ≤ _; first | omega | (simp; done) | (simp; omega))) rfl (by simp) ?_; rintro _ _ ⟨ver25, rfl, rfl⟩)
    | (refine al_opR (op_append_map Try.underlying39 Try.underlying39 rfl info40 rfl rfl (by decide) rfl rfl rfl (by first | rfl | simp) rfl (by first | exact .list _ | exact .vnil | exact .nil | exact .row _ _ _ _ rfl (by first | rfl | simp)) rfl (by first | omega | (simp; done) | (simp; omega)) (by show _ * 24 ≤ _; first | omega | (simp; done) | (simp; omega))) rfl (by simp) ?_; rintro _ _ ⟨ver25, rfl, rfl⟩)
  refine al_op (op_assign rfl) rfl (by simp) ?_
  refine al_nil ?_
  refine aw_region ?_
  refine al_op (op_move rfl) rfl (by simp) ?_
  refine al_op (op_add rfl rfl (by first | exact wrap_i64 (by omega) (by omega))) rfl (by simp) ?_
  refine al_op (op_assign rfl) rfl (by simp) ?_
  refine al_nil ?_
  refine ⟨i + 1, ver25, ?_, ?_, ?_, ?_, ?_⟩
  ·omega
  ·omega
  ·refine sub_cons (get_as rfl ?_) ?_; rotate_left; refine sub_cons (get_as rfl ?_) ?_; rotate_left; exact sub_nil
   all_goals (first | rfl | (simp; done) | (rw [n.clocksTo_succ] <;> rfl))
  ·repeat (first | exact subx_refl | exact subx_del | refine subx_put rfl ?_)
  ·(rw [n.clocksTo_succ] <;> rfl)
 ·have gh1 := h1
  try simp only [nrm] at h1
  refine aw_exit ?_
  obtain rfl : i = m.toNat := by omega
  refine aw_seq ?_
  refine aw_region ?_
  refine al_op (op_move rfl) rfl (by simp) ?_
  refine al_op (op_assign rfl) rfl (by simp) ?_
  refine al_nil ?_
  refine aw_freeze (fun _ => false) (fsub_cons (t := 8) rfl (by first | exact .leaf _ _ (frz_whole rfl rfl (by first | rfl | (simp; done) | (simp; omega)) (clo_map (fun _ => rfl))) | exact .leaf _ _ (.vnil 1) | exact .leaf _ _ (.nil 1) | exact .leaf _ _ (.same _)) fsub_nil) ?_
  refine aw_ret ?_
  refine ⟨_, res_1 rfl rfl, ?_, rfl⟩
  rfl
end Go.Proofs.Ytnnklpmgncbgnaa
