/- Printed walks (gen.py, gates_ann.py): part 241. -/
import Derived.Test.YtnnklpmgncbgnaaW225
import Derived.Test.YtnnklpmgncbgnaaCLawR
import Derived.Test.YtnnklpmgncbgnaaCLane
import Derived.Test.YtnnklpmgncbgnaaCMany
import Derived.Test.YtnnklpmgncbgnaaFacts
set_option linter.unusedVariables false
set_option linter.unusedSimpArgs false
set_option maxRecDepth 20000
set_option maxHeartbeats 40000000
namespace Go.Proofs.Ytnnklpmgncbgnaa
open Go

theorem r_Known4 (n : Net) (hn : n.Small) : ACp Try.prog 17 [encN n] (.v (.bool (n.known4))) := by
 refine acp_of rfl ?_
 have z2 := hn.regsL
 refine ac_enter 21 Try.func17 rfl rfl (by simp) ?_
 refine aw_seq ?_
 refine aw_region ?_
 (refine al_opR (op_box 1 rfl rfl (by first | rfl | exact live_one rfl | (repeat (first | exact all_live_nil | refine all_live_clo rfl ?_ | refine all_live_slice rfl ?_ | refine all_live_map rfl ?_ | refine all_live_ptr rfl ?_)))) rfl (by simp) ?_; rintro _ _ ⟨ver1, rfl, rfl⟩)
 refine al_op (op_assign rfl) rfl (by simp) ?_
 refine al_nil ?_
 refine aw_seq ?_
 refine aw_seq ?_
 refine aw_region ?_
 first
   | refine al_op (op_field_rptr Try.underlying27 rfl info23 (by decide) rfl rfl) rfl (by simp) ?_
   | refine al_op (op_field_ptr Try.underlying27 rfl info23 (by decide) rfl rfl rfl) rfl (by simp) ?_
 first
   | refine al_op (op_load_rptr Try.underlying23 info23 rfl rfl) rfl (by simp) ?_
   | refine al_op (op_load_map Try.underlying23 info23 rfl rfl (by omega) rfl) rfl (by simp) ?_
   | refine al_op (op_load_ptr Try.underlying23 info23 rfl rfl rfl rfl) rfl (by simp) ?_
 first
   | refine al_op (op_len_map Try.underlying23 rfl) rfl (by simp) ?_
   | refine al_op (op_len_slice Try.underlying23 rfl rfl) rfl (by simp) ?_
   | refine al_op (op_len_list Try.underlying23 rfl) rfl (by simp) ?_
   | refine al_op (op_len_v Try.underlying23 rfl) rfl (by simp) ?_
   | refine al_op (op_len_nil Try.underlying23 rfl) rfl (by simp) ?_
 refine al_op (op_move rfl) rfl (by simp) ?_
 refine al_nil ?_
 refine aw_block ?_
 refine aw_forT (ι := Nat) [2, 8] [4] (fun i => n.regs.length - i) (fun i => i ≤ n.regs.length ∧ allTo (known4At n) i = true) (fun i => ([(8, .v (.int .i64 (i)))] : Env)) (fun i s => s) (0) ?_ ?_ ?_ (fun i hinv => ?_)
 ·exact ⟨Nat.zero_le _, rfl⟩
 ·refine sub_cons (get_as rfl ?_) ?_; rotate_left; exact sub_nil
  all_goals (first | rfl | simp)
 ·rfl
 have hii := hinv.1
 refine aw_seq ?_
 refine aw_region ?_
 refine al_op (op_lss rfl rfl) rfl (by simp) ?_
 refine al_nil ?_
 refine aw_seq ?_
 refine aw_cond rfl (fun h1 => ?_) (fun h1 => ?_)
 ·have gh1 := h1
  try simp only [nrm] at h1
  refine aw_skip ?_
  refine aw_seq ?_
  refine aw_block ?_
  refine aw_seq ?_
  refine aw_region ?_
  first
    | refine al_op (op_index_map default Try.underlying23 info62 rfl rfl rfl (by first | (with_reducible exact Int.toNat_natCast _) | rfl) (by omega) (by omega)) rfl (by simp) ?_
    | refine al_op (op_index_slice Try.underlying23 info62 rfl rfl rfl rfl (by omega) (by omega)) rfl (by simp) ?_
    | refine al_op (op_index_list Try.underlying23 info62 rfl rfl rfl (by decide) rfl) rfl (by simp) ?_
  first
    | refine al_op (op_load_rptr Try.underlying62 info62 rfl rfl) rfl (by simp) ?_
    | refine al_op (op_load_map Try.underlying62 info62 rfl rfl (by omega) rfl) rfl (by simp) ?_
    | refine al_op (op_load_ptr Try.underlying62 info62 rfl rfl rfl rfl) rfl (by simp) ?_
  (refine al_opR (op_alloc 4 info62 rfl rfl) rfl (by simp) ?_; rintro _ _ ⟨ver4, rfl, rfl⟩)
  first
    | refine al_op (op_store_ptr info62 rfl rfl rfl rfl rfl rfl (by first | rfl | exact live_one rfl | (repeat (first | exact all_live_nil | refine all_live_clo rfl ?_ | refine all_live_slice rfl ?_ | refine all_live_map rfl ?_ | refine all_live_ptr rfl ?_))) (by decide)) rfl (by simp) ?_
    | refine al_op (op_store_ptr info62 rfl rfl rfl rfl rfl rfl (by first | rfl | exact live_one rfl | (repeat (first | exact all_live_nil | refine all_live_clo rfl ?_ | refine all_live_slice rfl ?_ | refine all_live_map rfl ?_ | refine all_live_ptr rfl ?_))) (Nat.le_of_ble_eq_true rfl)) rfl (by simp) ?_
  refine al_nil ?_
  refine aw_seq ?_
  refine aw_region ?_
  first
    | refine al_op (op_field_rptr Try.underlying62 rfl info41 (by decide) rfl rfl) rfl (by simp) ?_
    | refine al_op (op_field_ptr Try.underlying62 rfl info41 (by decide) rfl rfl rfl) rfl (by simp) ?_
  first
    | refine al_op (op_load_rptr Try.underlying41 info41 rfl rfl) rfl (by simp) ?_
    | refine al_op (op_load_map Try.underlying41 info41 rfl rfl (by omega) rfl) rfl (by simp) ?_
    | refine al_op (op_load_ptr Try.underlying41 info41 rfl rfl rfl rfl) rfl (by simp) ?_
  refine al_op (op_neq rfl rfl) rfl (by simp) ?_
  refine al_op (op_move rfl) rfl (by simp) ?_
  apply al_and 4 15 19 rfl
  ·intro h2; have gh2 := h2
   try simp only [nrm] at h2
   first
     | refine al_take (op_field_rptr Try.underlying62 rfl info41 (by decide) rfl rfl) rfl rfl rfl rfl (by simp) ?_
     | refine al_take (op_field_ptr Try.underlying62 rfl info41 (by decide) rfl rfl rfl) rfl rfl rfl rfl (by simp) ?_
   first
     | refine al_take (op_load_rptr Try.underlying41 info41 rfl rfl) rfl rfl rfl rfl (by simp) ?_
     | refine al_take (op_load_map Try.underlying41 info41 rfl rfl (by omega) rfl) rfl rfl rfl rfl (by simp) ?_
     | refine al_take (op_load_ptr Try.underlying41 info41 rfl rfl rfl rfl) rfl rfl rfl rfl (by simp) ?_
   refine al_take (op_neq rfl rfl) rfl rfl rfl rfl (by simp) ?_
   first
     | refine al_op (op_pick rfl rfl) rfl (by simp) ?_
     | refine al_op (op_and rfl rfl rfl) rfl (by simp) ?_
   refine al_nil ⟨rfl, rfl, rfl, keep_of ?_⟩
   repeat (first | exact subx_refl | exact subx_known rfl gh2 subx_refl | refine subx_put rfl ?_)
  ·intro h2; have gh2 := h2
   try simp only [nrm] at h2
   refine al_pass rfl rfl rfl rfl (by simp) ?_
   refine al_pass rfl rfl rfl rfl (by simp) ?_
   refine al_pass rfl rfl rfl rfl (by simp) ?_
   first
     | refine al_op (op_pick rfl rfl) rfl (by simp) ?_
     | refine al_op (op_and rfl rfl rfl) rfl (by simp) ?_
   refine al_nil ⟨rfl, rfl, rfl, keep_of ?_⟩
   repeat (first | exact subx_refl | exact subx_known rfl gh2 subx_refl | refine subx_put rfl ?_)
  refine al_nil ?_
  refine aw_cond rfl (fun h3 => ?_) (fun h3 => ?_)
  ·have gh3 := h3
   try simp only [nrm] at h3
   refine aw_seq ?_
   refine aw_region ?_
   refine al_op (op_assign rfl) rfl (by simp) ?_
   refine al_nil ?_
   refine aw_freeze (fun _ => false) (fsub_cons (t := 2) rfl (.leaf _ _ (.same _)) fsub_nil) ?_
   refine aw_ret ?_
   refine ⟨_, res_1 rfl rfl, ?_, rfl⟩
   rw [Net.known4_false i (by omega) (by rw [known4At, gh3]; rfl)]
  ·have gh3 := h3
   try simp only [nrm] at h3
   refine aw_skip ?_
   refine aw_region ?_
   refine al_op (op_add rfl rfl (by first | exact wrap_i64 (by omega) (by omega))) rfl (by simp) ?_
   refine al_op (op_move rfl) rfl (by simp) ?_
   refine al_nil ?_
   refine ⟨i + 1, ?_, ?_, ?_, ?_, ?_⟩
   ·omega
   ·exact ⟨by omega, allTo_succ hinv.2 (by rw [known4At, gh3]; rfl)⟩
   ·refine sub_cons (get_as rfl ?_) ?_; rotate_left; exact sub_nil
    all_goals (first | rfl | simp)
   ·repeat (first | exact subx_refl | exact subx_del | refine subx_put rfl ?_)
   ·rfl
 ·have gh1 := h1
  try simp only [nrm] at h1
  refine aw_exit ?_
  obtain rfl : i = n.regs.length := by omega
  have hall := hinv.2
  refine aw_seq ?_
  refine aw_region ?_
  refine al_op (op_assign rfl) rfl (by simp) ?_
  refine al_nil ?_
  refine aw_freeze (fun _ => false) (fsub_cons (t := 2) rfl (.leaf _ _ (.same _)) fsub_nil) ?_
  refine aw_ret ?_
  refine ⟨_, res_1 rfl rfl, ?_, rfl⟩
  rw [Net.known4, hall]

theorem l_light (n : Net) (hn : n.Small) : ACp Try.prog 19 [encN n] (.v (.bool (n.light))) := by
 refine acp_of rfl ?_
 have z1 := hn.insL
 have z2 := hn.regsL
 have z4 := hn.gatesL
 refine ac_enter 40 Try.func19 rfl rfl (by simp) ?_
 refine aw_seq ?_
 refine aw_region ?_
 (refine al_opR (op_box 1 rfl rfl (by first | rfl | exact live_one rfl | (repeat (first | exact all_live_nil | refine all_live_clo rfl ?_ | refine all_live_slice rfl ?_ | refine all_live_map rfl ?_ | refine all_live_ptr rfl ?_)))) rfl (by simp) ?_; rintro _ _ ⟨ver1, rfl, rfl⟩)
 refine al_op (op_assign rfl) rfl (by simp) ?_
 refine al_nil ?_
 refine aw_seq ?_
 refine aw_region ?_
 first
   | refine al_op (op_load_rptr Try.underlying27 info27 rfl rfl) rfl (by simp) ?_
   | refine al_op (op_load_map Try.underlying27 info27 rfl rfl (by omega) rfl) rfl (by simp) ?_
   | refine al_op (op_load_ptr Try.underlying27 info27 rfl rfl rfl rfl) rfl (by simp) ?_
 refine al_callp into12 rfl rfl rfl (ac_told (re_cons (.leaf _ _ (.same _)) (re_cons (.leaf _ _ (.vnil 1)) re_nil)) (l_few n hn [] ins_nil _)) (by simp) ?_
 refine al_op (op_move rfl) rfl (by simp) ?_
 apply al_and 34 5 39 rfl
 ·intro h1; have gh1 := h1
  try simp only [nrm] at h1
  first
    | refine al_take (op_field_rptr Try.underlying27 rfl info22 (by decide) rfl rfl) rfl rfl rfl rfl (by simp) ?_
    | refine al_take (op_field_ptr Try.underlying27 rfl info22 (by decide) rfl rfl rfl) rfl rfl rfl rfl (by simp) ?_
  first
    | refine al_take (op_load_rptr Try.underlying22 info22 rfl rfl) rfl rfl rfl rfl (by simp) ?_
    | refine al_take (op_load_map Try.underlying22 info22 rfl rfl (by omega) rfl) rfl rfl rfl rfl (by simp) ?_
    | refine al_take (op_load_ptr Try.underlying22 info22 rfl rfl rfl rfl) rfl rfl rfl rfl (by simp) ?_
  first
    | refine al_take (op_len_map Try.underlying22 rfl) rfl rfl rfl rfl (by simp) ?_
    | refine al_take (op_len_slice Try.underlying22 rfl rfl) rfl rfl rfl rfl (by simp) ?_
    | refine al_take (op_len_list Try.underlying22 rfl) rfl rfl rfl rfl (by simp) ?_
    | refine al_take (op_len_v Try.underlying22 rfl) rfl rfl rfl rfl (by simp) ?_
    | refine al_take (op_len_nil Try.underlying22 rfl) rfl rfl rfl rfl (by simp) ?_
  refine al_take (op_leq rfl rfl) rfl rfl rfl rfl (by simp) ?_
  refine al_take (op_move rfl) rfl rfl rfl rfl (by simp) ?_
  apply al_and 5 10 15 rfl
  ·intro h2; have gh2 := h2
   try simp only [nrm] at h2
   first
     | refine al_take (op_field_rptr Try.underlying27 rfl info23 (by decide) rfl rfl) rfl rfl rfl rfl (by simp) ?_
     | refine al_take (op_field_ptr Try.underlying27 rfl info23 (by decide) rfl rfl rfl) rfl rfl rfl rfl (by simp) ?_
   first
     | refine al_take (op_load_rptr Try.underlying23 info23 rfl rfl) rfl rfl rfl rfl (by simp) ?_
     | refine al_take (op_load_map Try.underlying23 info23 rfl rfl (by omega) rfl) rfl rfl rfl rfl (by simp) ?_
     | refine al_take (op_load_ptr Try.underlying23 info23 rfl rfl rfl rfl) rfl rfl rfl rfl (by simp) ?_
   first
     | refine al_take (op_len_map Try.underlying23 rfl) rfl rfl rfl rfl (by simp) ?_
     | refine al_take (op_len_slice Try.underlying23 rfl rfl) rfl rfl rfl rfl (by simp) ?_
     | refine al_take (op_len_list Try.underlying23 rfl) rfl rfl rfl rfl (by simp) ?_
     | refine al_take (op_len_v Try.underlying23 rfl) rfl rfl rfl rfl (by simp) ?_
     | refine al_take (op_len_nil Try.underlying23 rfl) rfl rfl rfl rfl (by simp) ?_
   refine al_take (op_leq rfl rfl) rfl rfl rfl rfl (by simp) ?_
   first
     | refine al_take (op_pick rfl rfl) rfl rfl rfl rfl (by simp) ?_
     | refine al_take (op_and rfl rfl rfl) rfl rfl rfl rfl (by simp) ?_
   refine al_nil ⟨rfl, rfl, rfl, keep_of ?_⟩
   repeat (first | exact subx_refl | exact subx_known rfl gh2 subx_refl | refine subx_put rfl ?_)
  ·intro h2; have gh2 := h2
   try simp only [nrm] at h2
   refine al_pass rfl rfl rfl rfl (by simp) ?_
   refine al_pass rfl rfl rfl rfl (by simp) ?_
   refine al_pass rfl rfl rfl rfl (by simp) ?_
   refine al_pass rfl rfl rfl rfl (by simp) ?_
   first
     | refine al_take (op_pick rfl rfl) rfl rfl rfl rfl (by simp) ?_
     | refine al_take (op_and rfl rfl rfl) rfl rfl rfl rfl (by simp) ?_
   refine al_nil ⟨rfl, rfl, rfl, keep_of ?_⟩
   repeat (first | exact subx_refl | exact subx_known rfl gh2 subx_refl | refine subx_put rfl ?_)
  refine al_take (op_move rfl) rfl rfl rfl rfl (by simp) ?_
  apply al_and 5 16 21 rfl
  ·intro h3; have gh3 := h3
   try simp only [nrm] at h3
   first
     | refine al_take (op_field_rptr Try.underlying27 rfl info24 (by decide) rfl rfl) rfl rfl rfl rfl (by simp) ?_
     | refine al_take (op_field_ptr Try.underlying27 rfl info24 (by decide) rfl rfl rfl) rfl rfl rfl rfl (by simp) ?_
   first
     | refine al_take (op_load_rptr Try.underlying24 info24 rfl rfl) rfl rfl rfl rfl (by simp) ?_
     | refine al_take (op_load_map Try.underlying24 info24 rfl rfl (by omega) rfl) rfl rfl rfl rfl (by simp) ?_
     | refine al_take (op_load_ptr Try.underlying24 info24 rfl rfl rfl rfl) rfl rfl rfl rfl (by simp) ?_
   first
     | refine al_take (op_len_map Try.underlying24 rfl) rfl rfl rfl rfl (by simp) ?_
     | refine al_take (op_len_slice Try.underlying24 rfl rfl) rfl rfl rfl rfl (by simp) ?_
     | refine al_take (op_len_list Try.underlying24 rfl) rfl rfl rfl rfl (by simp) ?_
     | refine al_take (op_len_v Try.underlying24 rfl) rfl rfl rfl rfl (by simp) ?_
     | refine al_take (op_len_nil Try.underlying24 rfl) rfl rfl rfl rfl (by simp) ?_
   refine al_take (op_leq rfl rfl) rfl rfl rfl rfl (by simp) ?_
   first
     | refine al_take (op_pick rfl rfl) rfl rfl rfl rfl (by simp) ?_
     | refine al_take (op_and rfl rfl rfl) rfl rfl rfl rfl (by simp) ?_
   refine al_nil ⟨rfl, rfl, rfl, keep_of ?_⟩
   repeat (first | exact subx_refl | exact subx_known rfl gh3 subx_refl | refine subx_put rfl ?_)
  ·intro h3; have gh3 := h3
   try simp only [nrm] at h3
   refine al_pass rfl rfl rfl rfl (by simp) ?_
   refine al_pass rfl rfl rfl rfl (by simp) ?_
   refine al_pass rfl rfl rfl rfl (by simp) ?_
   refine al_pass rfl rfl rfl rfl (by simp) ?_
   first
     | refine al_take (op_pick rfl rfl) rfl rfl rfl rfl (by simp) ?_
     | refine al_take (op_and rfl rfl rfl) rfl rfl rfl rfl (by simp) ?_
   refine al_nil ⟨rfl, rfl, rfl, keep_of ?_⟩
   repeat (first | exact subx_refl | exact subx_known rfl gh3 subx_refl | refine subx_put rfl ?_)
  refine al_take (op_move rfl) rfl rfl rfl rfl (by simp) ?_
  apply al_or 5 22 27 rfl
  ·intro h4; have gh4 := h4
   try simp only [nrm] at h4
   first
     | refine al_take (op_field_rptr Try.underlying27 rfl info22 (by decide) rfl rfl) rfl rfl rfl rfl (by simp) ?_
     | refine al_take (op_field_ptr Try.underlying27 rfl info22 (by decide) rfl rfl rfl) rfl rfl rfl rfl (by simp) ?_
   first
     | refine al_take (op_load_rptr Try.underlying22 info22 rfl rfl) rfl rfl rfl rfl (by simp) ?_
     | refine al_take (op_load_map Try.underlying22 info22 rfl rfl (by omega) rfl) rfl rfl rfl rfl (by simp) ?_
     | refine al_take (op_load_ptr Try.underlying22 info22 rfl rfl rfl rfl) rfl rfl rfl rfl (by simp) ?_
   first
     | refine al_take (op_len_map Try.underlying22 rfl) rfl rfl rfl rfl (by simp) ?_
     | refine al_take (op_len_slice Try.underlying22 rfl rfl) rfl rfl rfl rfl (by simp) ?_
     | refine al_take (op_len_list Try.underlying22 rfl) rfl rfl rfl rfl (by simp) ?_
     | refine al_take (op_len_v Try.underlying22 rfl) rfl rfl rfl rfl (by simp) ?_
     | refine al_take (op_len_nil Try.underlying22 rfl) rfl rfl rfl rfl (by simp) ?_
   refine al_take (op_gtr rfl rfl) rfl rfl rfl rfl (by simp) ?_
   first
     | refine al_take (op_pick rfl rfl) rfl rfl rfl rfl (by simp) ?_
     | refine al_take (op_or rfl rfl rfl) rfl rfl rfl rfl (by simp) ?_
   refine al_nil ⟨rfl, rfl, rfl, keep_of ?_⟩
   repeat (first | exact subx_refl | exact subx_known rfl gh4 subx_refl | refine subx_put rfl ?_)
  ·intro h4; have gh4 := h4
   try simp only [nrm] at h4
   refine al_pass rfl rfl rfl rfl (by simp) ?_
   refine al_pass rfl rfl rfl rfl (by simp) ?_
   refine al_pass rfl rfl rfl rfl (by simp) ?_
   refine al_pass rfl rfl rfl rfl (by simp) ?_
   first
     | refine al_take (op_pick rfl rfl) rfl rfl rfl rfl (by simp) ?_
     | refine al_take (op_or rfl rfl rfl) rfl rfl rfl rfl (by simp) ?_
   refine al_nil ⟨rfl, rfl, rfl, keep_of ?_⟩
   repeat (first | exact subx_refl | exact subx_known rfl gh4 subx_refl | refine subx_put rfl ?_)
  refine al_take (op_move rfl) rfl rfl rfl rfl (by simp) ?_
  apply al_or 5 28 33 rfl
  ·intro h5; have gh5 := h5
   try simp only [nrm] at h5
   first
     | refine al_take (op_field_rptr Try.underlying27 rfl info23 (by decide) rfl rfl) rfl rfl rfl rfl (by simp) ?_
     | refine al_take (op_field_ptr Try.underlying27 rfl info23 (by decide) rfl rfl rfl) rfl rfl rfl rfl (by simp) ?_
   first
     | refine al_take (op_load_rptr Try.underlying23 info23 rfl rfl) rfl rfl rfl rfl (by simp) ?_
     | refine al_take (op_load_map Try.underlying23 info23 rfl rfl (by omega) rfl) rfl rfl rfl rfl (by simp) ?_
     | refine al_take (op_load_ptr Try.underlying23 info23 rfl rfl rfl rfl) rfl rfl rfl rfl (by simp) ?_
   first
     | refine al_take (op_len_map Try.underlying23 rfl) rfl rfl rfl rfl (by simp) ?_
     | refine al_take (op_len_slice Try.underlying23 rfl rfl) rfl rfl rfl rfl (by simp) ?_
     | refine al_take (op_len_list Try.underlying23 rfl) rfl rfl rfl rfl (by simp) ?_
     | refine al_take (op_len_v Try.underlying23 rfl) rfl rfl rfl rfl (by simp) ?_
     | refine al_take (op_len_nil Try.underlying23 rfl) rfl rfl rfl rfl (by simp) ?_
   refine al_take (op_gtr rfl rfl) rfl rfl rfl rfl (by simp) ?_
   first
     | refine al_take (op_pick rfl rfl) rfl rfl rfl rfl (by simp) ?_
     | refine al_take (op_or rfl rfl rfl) rfl rfl rfl rfl (by simp) ?_
   refine al_nil ⟨rfl, rfl, rfl, keep_of ?_⟩
   repeat (first | exact subx_refl | exact subx_known rfl gh5 subx_refl | refine subx_put rfl ?_)
  ·intro h5; have gh5 := h5
   try simp only [nrm] at h5
   refine al_pass rfl rfl rfl rfl (by simp) ?_
   refine al_pass rfl rfl rfl rfl (by simp) ?_
   refine al_pass rfl rfl rfl rfl (by simp) ?_
   refine al_pass rfl rfl rfl rfl (by simp) ?_
   first
     | refine al_take (op_pick rfl rfl) rfl rfl rfl rfl (by simp) ?_
     | refine al_take (op_or rfl rfl rfl) rfl rfl rfl rfl (by simp) ?_
   refine al_nil ⟨rfl, rfl, rfl, keep_of ?_⟩
   repeat (first | exact subx_refl | exact subx_known rfl gh5 subx_refl | refine subx_put rfl ?_)
  refine al_take (op_move rfl) rfl rfl rfl rfl (by simp) ?_
  apply al_or 4 34 38 rfl
  ·intro h6; have gh6 := h6
   try simp only [nrm] at h6
   first
     | refine al_take (op_load_rptr Try.underlying27 info27 rfl rfl) rfl rfl rfl rfl (by simp) ?_
     | refine al_take (op_load_map Try.underlying27 info27 rfl rfl (by omega) rfl) rfl rfl rfl rfl (by simp) ?_
     | refine al_take (op_load_ptr Try.underlying27 info27 rfl rfl rfl rfl) rfl rfl rfl rfl (by simp) ?_
   first
     | refine al_callp_take into17 rfl rfl rfl rfl rfl rfl ((r_Known4 _ (by assumption)) _) (by simp) ?_
     | refine al_callp_take into17 rfl rfl rfl rfl rfl rfl (acp_lent (lend_cons (by first | exact lend_same | exact .leaf _ _ (.vnil _) | exact .leaf _ _ (.nil _) | exact lend_whole rfl (by first | rfl | (simp; done) | (simp; omega)) (clo_map (fun _ => rfl)) | exact lend_netg (by first | exact .same _ | exact lendL_vnil | exact lendL_whole rfl (by first | rfl | (simp; done) | (simp; omega)) (clo_map (fun _ => rfl))) (by first | exact .same _ | exact lendL_vnil | exact lendL_whole rfl (by first | rfl | (simp; done) | (simp; omega)) (clo_map (fun _ => rfl))) (by first | exact .same _ | exact lendL_vnil | exact lendL_whole rfl (by first | rfl | (simp; done) | (simp; omega)) (clo_map (fun _ => rfl))) (by first | exact .same _ | exact lendL_vnil | exact lendL_whole rfl (by first | rfl | (simp; done) | (simp; omega)) (clo_map (fun _ => rfl)))) lend_nil) (r_Known4 _ (by assumption)) rfl) (by simp) ?_
   refine al_take (op_not rfl) rfl rfl rfl rfl (by simp) ?_
   first
     | refine al_take (op_pick rfl rfl) rfl rfl rfl rfl (by simp) ?_
     | refine al_take (op_or rfl rfl rfl) rfl rfl rfl rfl (by simp) ?_
   refine al_nil ⟨rfl, rfl, rfl, keep_of ?_⟩
   repeat (first | exact subx_refl | exact subx_known rfl gh6 subx_refl | refine subx_put rfl ?_)
  ·intro h6; have gh6 := h6
   try simp only [nrm] at h6
   refine al_pass rfl rfl rfl rfl (by simp) ?_
   refine al_pass rfl rfl rfl rfl (by simp) ?_
   refine al_pass rfl rfl rfl rfl (by simp) ?_
   first
     | refine al_take (op_pick rfl rfl) rfl rfl rfl rfl (by simp) ?_
     | refine al_take (op_or rfl rfl rfl) rfl rfl rfl rfl (by simp) ?_
   refine al_nil ⟨rfl, rfl, rfl, keep_of ?_⟩
   repeat (first | exact subx_refl | exact subx_known rfl gh6 subx_refl | refine subx_put rfl ?_)
  first
    | refine al_op (op_pick rfl rfl) rfl (by simp) ?_
    | refine al_op (op_and rfl rfl rfl) rfl (by simp) ?_
  refine al_nil ⟨rfl, rfl, rfl, keep_of ?_⟩
  repeat (first | exact subx_refl | exact subx_known rfl gh1 subx_refl | refine subx_put rfl ?_)
 ·intro h1; have gh1 := h1
  try simp only [nrm] at h1
  refine al_pass rfl rfl rfl rfl (by simp) ?_
  refine al_pass rfl rfl rfl rfl (by simp) ?_
  refine al_pass rfl rfl rfl rfl (by simp) ?_
  refine al_pass rfl rfl rfl rfl (by simp) ?_
  refine al_pass rfl rfl rfl rfl (by simp) ?_
  refine al_pass_undef rfl rfl rfl rfl (by simp) ?_
  refine al_pass_undef rfl rfl rfl rfl (by simp) ?_
  refine al_pass_undef rfl rfl rfl rfl (by simp) ?_
  refine al_pass_undef rfl rfl rfl rfl (by simp) ?_
  refine al_pass rfl rfl rfl rfl (by simp) ?_
  refine al_pass rfl rfl rfl rfl (by simp) ?_
  refine al_pass_undef rfl rfl rfl rfl (by simp) ?_
  refine al_pass_undef rfl rfl rfl rfl (by simp) ?_
  refine al_pass_undef rfl rfl rfl rfl (by simp) ?_
  refine al_pass_undef rfl rfl rfl rfl (by simp) ?_
  refine al_pass rfl rfl rfl rfl (by simp) ?_
  refine al_pass rfl rfl rfl rfl (by simp) ?_
  refine al_pass_undef rfl rfl rfl rfl (by simp) ?_
  refine al_pass_undef rfl rfl rfl rfl (by simp) ?_
  refine al_pass_undef rfl rfl rfl rfl (by simp) ?_
  refine al_pass_undef rfl rfl rfl rfl (by simp) ?_
  refine al_pass rfl rfl rfl rfl (by simp) ?_
  refine al_pass rfl rfl rfl rfl (by simp) ?_
  refine al_pass_undef rfl rfl rfl rfl (by simp) ?_
  refine al_pass_undef rfl rfl rfl rfl (by simp) ?_
  refine al_pass_undef rfl rfl rfl rfl (by simp) ?_
  refine al_pass_undef rfl rfl rfl rfl (by simp) ?_
  refine al_pass rfl rfl rfl rfl (by simp) ?_
  refine al_pass rfl rfl rfl rfl (by simp) ?_
  refine al_pass_undef rfl rfl rfl rfl (by simp) ?_
  refine al_pass_undef rfl rfl rfl rfl (by simp) ?_
  refine al_pass_undef rfl rfl rfl rfl (by simp) ?_
  refine al_pass rfl rfl rfl rfl (by simp) ?_
  first
    | refine al_op (op_pick rfl rfl) rfl (by simp) ?_
    | refine al_op (op_and rfl rfl rfl) rfl (by simp) ?_
  refine al_nil ⟨rfl, rfl, rfl, keep_of ?_⟩
  repeat (first | exact subx_refl | exact subx_known rfl gh1 subx_refl | refine subx_put rfl ?_)
 refine al_op (op_assign rfl) rfl (by simp) ?_
 refine al_nil ?_
 refine aw_freeze (fun _ => false) (fsub_cons (t := 2) rfl (.leaf _ _ (.same _)) fsub_nil) ?_
 refine aw_ret ?_
 refine ⟨_, res_1 rfl rfl, ?_, rfl⟩
 first | rfl | (rw [Net.light, Net.lightA])

theorem r_one (ins : List (List Nat)) (hi : InsU ins) (k : Nat) (hk : k < 64) : ACp Try.prog 47 [.list 1 (ins.map encLU), .v (.int .i64 ((k : Int)))] (.list 1 ((laneAll k ins).map encL)) := by
 refine acp_of rfl ?_
 obtain ⟨i1, i2⟩ := hi
 have hi : InsU ins := ⟨i1, i2⟩
 refine ac_enter 38 Try.func47 rfl rfl (by simp) ?_
 refine aw_seq ?_
 refine aw_region ?_
 refine al_op (op_assign rfl) rfl (by simp) ?_
 refine al_nil ?_
 refine aw_seq ?_
 refine aw_region ?_
 refine al_op (op_assign rfl) rfl (by simp) ?_
 refine al_nil ?_
 refine aw_seq ?_
 refine aw_seq ?_
 refine aw_region ?_
 refine al_op (op_move rfl) rfl (by simp) ?_
 first
   | refine al_op (op_len_map Try.underlying28 rfl) rfl (by simp) ?_
   | refine al_op (op_len_slice Try.underlying28 rfl rfl) rfl (by simp) ?_
   | refine al_op (op_len_list Try.underlying28 rfl) rfl (by simp) ?_
   | refine al_op (op_len_v Try.underlying28 rfl) rfl (by simp) ?_
   | refine al_op (op_len_nil Try.underlying28 rfl) rfl (by simp) ?_
 refine al_op (op_move rfl) rfl (by simp) ?_
 refine al_nil ?_
 refine aw_block ?_
 refine aw_own_map encL 5 1 5 rfl rfl (fun ver5 => ?_)
 refine aw_for2T (α := Nat) (β := Nat) [5, 13] [] (fun i ver => ins.length - i) (fun i ver => i ≤ ins.length) (fun i ver => ([(5, .slice 5 ver 0 (laneAll k (ins.take i)).length), (13, .v (.int .i64 (i)))] : Env)) (fun i ver s => s.put 5 ver (.row 1 ((laneAll k (ins.take i)).map encL))) (0) (ver5) ?_ ?_ ?_ (fun i ver hinv => ?_)
 ·exact Nat.zero_le _
 ·refine sub_cons (get_as rfl ?_) ?_; rotate_left; refine sub_cons (get_as rfl ?_) ?_; rotate_left; exact sub_nil
  all_goals (first | rfl | (simp; done) | (simp only [laneAll, take_succ_getD ins i (by omega), List.map_append, List.map_cons, List.map_nil] <;> rfl))
 ·rfl
 have hlx : (laneAll k (ins.take i)).length = i := by rw [lanes_length, List.length_take]; omega
 refine aw_seq ?_
 refine aw_region ?_
 refine al_op (op_lss rfl rfl) rfl (by simp) ?_
 refine al_nil ?_
 refine aw_seq ?_
 refine aw_cond rfl (fun h1 => ?_) (fun h1 => ?_)
 ·have gh1 := h1
  try simp only [nrm] at h1
  refine aw_skip ?_
  refine aw_seq ?_
  refine aw_block ?_
  refine aw_seq ?_
  refine aw_region ?_
  first
    | refine al_op (op_index_map default Try.underlying28 info34 rfl rfl rfl (by first | (with_reducible exact Int.toNat_natCast _) | rfl) (by omega) (by omega)) rfl (by simp) ?_
    | refine al_op (op_index_slice Try.underlying28 info34 rfl rfl rfl rfl (by omega) (by omega)) rfl (by simp) ?_
    | refine al_op (op_index_list Try.underlying28 info34 rfl rfl rfl (by decide) rfl) rfl (by simp) ?_
  first
    | refine al_op (op_load_rptr Try.underlying34 info34 rfl rfl) rfl (by simp) ?_
    | refine al_op (op_load_map Try.underlying34 info34 rfl rfl (by omega) rfl) rfl (by simp) ?_
    | refine al_op (op_load_ptr Try.underlying34 info34 rfl rfl rfl rfl) rfl (by simp) ?_
  refine al_op (op_assign rfl) rfl (by simp) ?_
  refine al_nil ?_
  refine aw_seq ?_
  obtain ⟨hil, hiw⟩ := hi.at i
  refine aw_region ?_
  refine al_op (op_assign rfl) rfl (by simp) ?_
  refine al_nil ?_
  refine aw_seq ?_
  refine aw_seq ?_
  refine aw_region ?_
  refine al_op (op_move rfl) rfl (by simp) ?_
  first
    | refine al_op (op_len_map Try.underlying34 rfl) rfl (by simp) ?_
    | refine al_op (op_len_slice Try.underlying34 rfl rfl) rfl (by simp) ?_
    | refine al_op (op_len_list Try.underlying34 rfl) rfl (by simp) ?_
    | refine al_op (op_len_v Try.underlying34 rfl) rfl (by simp) ?_
    | refine al_op (op_len_nil Try.underlying34 rfl) rfl (by simp) ?_
  refine al_op (op_move rfl) rfl (by simp) ?_
  refine al_nil ?_
  refine aw_block ?_
  refine aw_own_map encB 8 1 8 rfl rfl (fun ver8 => ?_)
  refine aw_for2T (α := Nat) (β := Nat) [8, 10, 19, 20, 21, 22, 23, 24, 25, 26, 27, 28, 29, 30, 31] [] (fun j vj => (ins.getD i default).length - j) (fun j vj => j ≤ (ins.getD i default).length) (fun j vj => ([(8, .slice 8 vj 0 (lane k ((ins.getD i default).take j)).length), (19, .v (.int .i64 (j)))] : Env)) (fun j vj st => st.put 8 vj (.row 1 ((lane k ((ins.getD i default).take j)).map encB))) (0) (ver8) ?_ ?_ ?_ (fun j vj hinv => ?_)
  ·exact Nat.zero_le _
  ·refine sub_cons (get_as rfl ?_) ?_; rotate_left; refine sub_cons (get_as rfl ?_) ?_; rotate_left; exact sub_nil
   all_goals (first | rfl | (simp; done) | (simp only [lane, take_succ_getD (ins.getD i default) j (by omega), List.map_append, List.map_cons, List.map_nil, lane_prog] <;> rfl))
  ·rfl
  have hly : (lane k ((ins.getD i default).take j)).length = j := by rw [lane_length, List.length_take]; omega
  refine aw_seq ?_
  refine aw_region ?_
  refine al_op (op_lss rfl rfl) rfl (by simp) ?_
  refine al_nil ?_
  refine aw_seq ?_
  refine aw_cond rfl (fun h2 => ?_) (fun h2 => ?_)
  ·have gh2 := h2
   try simp only [nrm] at h2
   refine aw_skip ?_
   refine aw_seq ?_
   refine aw_block ?_
   refine aw_seq ?_
   refine aw_region ?_
   first
     | refine al_op (op_index_map default Try.underlying34 info35 rfl rfl rfl (by first | (with_reducible exact Int.toNat_natCast _) | rfl) (by omega) (by omega)) rfl (by simp) ?_
     | refine al_op (op_index_slice Try.underlying34 info35 rfl rfl rfl rfl (by omega) (by omega)) rfl (by simp) ?_
     | refine al_op (op_index_list Try.underlying34 info35 rfl rfl rfl (by decide) rfl) rfl (by simp) ?_
   first
     | refine al_op (op_load_rptr Try.underlying35 info35 rfl rfl) rfl (by simp) ?_
     | refine al_op (op_load_map Try.underlying35 info35 rfl rfl (by omega) rfl) rfl (by simp) ?_
     | refine al_op (op_load_ptr Try.underlying35 info35 rfl rfl rfl rfl) rfl (by simp) ?_
   refine al_op (op_assign rfl) rfl (by simp) ?_
   refine al_nil ?_
   have hx := hiw _ (getD_mem (v := (ins.getD i default)) (i := j) (by omega))
   have hsr : ((ins.getD i default).getD j default) >>> k < 2 ^ 64 := Nat.lt_of_le_of_lt (Nat.shiftRight_le _ _) hx
   refine aw_region ?_
   refine al_op (op_move rfl) rfl (by simp) ?_
   refine al_op (op_move rfl) rfl (by simp) ?_
   refine al_op (op_move rfl) rfl (by simp) ?_
   refine al_op (op_shr rfl rfl (by omega) (shr_u64 (by omega))) rfl (by simp) ?_
   refine al_op (op_bitand rfl rfl (u64_and1 hsr)) rfl (by simp) ?_
   refine al_op (op_conv Try.underlying35 Try.underlying41 rfl (wrap_u8 (by omega) (by omega))) rfl (by simp) ?_
   refine al_op (op_buildSlice Try.underlying40 info41 rfl rfl (by decide) rfl (by decide) rfl (by first | rfl | (repeat (first | exact parts_nil | refine parts_cons rfl (by repeat (first | exact all_live_nil | refine all_live_clo rfl ?_ | refine all_live_slice rfl ?_ | refine all_live_map rfl ?_ | refine all_live_ptr rfl ?_)) ?_))) rfl rfl rfl) rfl (by simp) ?_
   first
     | (refine al_opR (op_append_one ((((ins.getD i default).getD j default) >>> k % 2 : Nat) : Int) Try.underlying40 Try.underlying40 rfl info41 rfl rfl (by decide) rfl rfl rfl (by first | rfl | simp) rfl rfl (by first | omega | (simp; done) | (simp; omega)) (by show _ * 1 ≤ _; first | omega | (simp; done) | (simp; omega))) rfl (by simp) ?_; rintro _ _ ⟨ver30, rfl, rfl⟩)
     | (refine al_opR (op_append_map Try.underlying40 Try.underlying40 rfl info41 rfl rfl (by decide) rfl rfl rfl (by first | rfl | simp) rfl (by first | exact .list _ | exact .vnil | exact .nil | exact .row _ _ _ _ rfl (by first | rfl | simp)) rfl (by first | omega | (simp; done) | (simp; omega)) (by show _ * 1 ≤ _; first | omega | (simp; done) | (simp; omega))) rfl (by simp) ?_; rintro _ _ ⟨ver30, rfl, rfl⟩)
   refine al_op (op_assign rfl) rfl (by simp) ?_
   refine al_nil ?_
   refine aw_region ?_
   refine al_op (op_add rfl rfl (by first | exact wrap_i64 (by omega) (by omega))) rfl (by simp) ?_
   refine al_op (op_move rfl) rfl (by simp) ?_
   refine al_nil ?_
   refine ⟨j + 1, ver30, ?_, ?_, ?_, ?_, ?_⟩
   ·omega
   ·omega
   ·refine sub_cons (get_as rfl ?_) ?_; rotate_left; refine sub_cons (get_as rfl ?_) ?_; rotate_left; exact sub_nil
    all_goals (first | rfl | (simp; done) | (simp only [lane, take_succ_getD (ins.getD i default) j (by omega), List.map_append, List.map_cons, List.map_nil, lane_prog] <;> rfl))
   ·repeat (first | exact subx_refl | exact subx_del | refine subx_put rfl ?_)
   ·(simp only [lane, take_succ_getD (ins.getD i default) j (by omega), List.map_append, List.map_cons, List.map_nil, lane_prog] <;> rfl)
  ·have gh2 := h2
   try simp only [nrm] at h2
   refine aw_exit ?_
   obtain rfl : j = (ins.getD i default).length := by omega
   refine aw_freeze (fun i => !(Nat.beq i 8)) (fsub_cons (t := 8) rfl (.leaf _ _ (frz_whole rfl rfl (by simp) (clo_map (fun _ => rfl)))) fsub_same) ?_
   refine aw_as 8 (.list 1 ((lane k (ins.getD i default)).map encB)) rfl (by rw [List.take_length]) ?_
   refine aw_region ?_
   refine al_op (op_move rfl) rfl (by simp) ?_
   refine al_op (op_move rfl) rfl (by simp) ?_
   refine al_op (op_buildSlice Try.underlying39 info40 rfl rfl (by decide) rfl (by decide) rfl (by first | rfl | (repeat (first | exact parts_nil | refine parts_cons rfl (by repeat (first | exact all_live_nil | refine all_live_clo rfl ?_ | refine all_live_slice rfl ?_ | refine all_live_map rfl ?_ | refine all_live_ptr rfl ?_)) ?_))) rfl rfl rfl) rfl (by simp) ?_
   first
     | (refine al_opR (op_append_one (lane k (ins.getD i default)) Try.underlying39 Try.underlying39 rfl info40 rfl rfl (by decide) rfl rfl rfl (by first | rfl | simp) rfl rfl (by first | omega | (simp; done) | (simp; omega)) (by show _ * 24 ≤ _; first | omega | (simp; done) | (simp; omega))) rfl (by simp) ?_; rintro _ _ ⟨ver35, rfl, rfl⟩)
     | (refine al_opR (op_append_map Try.underlying39 Try.underlying39 rfl info40 rfl rfl (by decide) rfl rfl rfl (by first | rfl | simp) rfl (by first | exact .list _ | exact .vnil | exact .nil | exact .row _ _ _ _ rfl (by first | rfl | simp)) rfl (by first | omega | (simp; done) | (simp; omega)) (by show _ * 24 ≤ _; first | omega | (simp; done) | (simp; omega))) rfl (by simp) ?_; rintro _ _ ⟨ver35, rfl, rfl⟩)
   refine al_op (op_assign rfl) rfl (by simp) ?_
   refine al_nil ?_
   refine aw_region ?_
   refine al_op (op_add rfl rfl (by first | exact wrap_i64 (by omega) (by omega))) rfl (by simp) ?_
   refine al_op (op_move rfl) rfl (by simp) ?_
   refine al_nil ?_
   refine ⟨i + 1, ver35, ?_, ?_, ?_, ?_, ?_⟩
   ·omega
   ·omega
   ·refine sub_cons (get_as rfl ?_) ?_; rotate_left; refine sub_cons (get_as rfl ?_) ?_; rotate_left; exact sub_nil
    all_goals (first | rfl | (simp; done) | (simp only [laneAll, take_succ_getD ins i (by omega), List.map_append, List.map_cons, List.map_nil] <;> rfl))
   ·repeat (first | exact subx_refl | exact subx_del | refine subx_put rfl ?_)
   ·(simp only [laneAll, take_succ_getD ins i (by omega), List.map_append, List.map_cons, List.map_nil] <;> rfl)
 ·have gh1 := h1
  try simp only [nrm] at h1
  refine aw_exit ?_
  obtain rfl : i = ins.length := by omega
  refine aw_seq ?_
  refine aw_region ?_
  refine al_op (op_move rfl) rfl (by simp) ?_
  refine al_op (op_assign rfl) rfl (by simp) ?_
  refine al_nil ?_
  refine aw_freeze (fun _ => false) (fsub_cons (t := 4) rfl (by first | exact .leaf _ _ (frz_whole rfl rfl (by first | rfl | (simp; done) | (simp; omega)) (clo_map (fun _ => rfl))) | exact .leaf _ _ (.vnil 1) | exact .leaf _ _ (.nil 1) | exact .leaf _ _ (.same _)) fsub_nil) ?_
  refine aw_ret ?_
  refine ⟨_, res_1 rfl rfl, ?_, rfl⟩
  rw [List.take_length]

theorem r_Many4 (n : Net) (hn : n.Small) (ins : List (List Nat)) (hi : InsU ins) (h8 : ins.length ≤ 8 ∨ 1000 < ins.length) : ACp Try.prog 15 [encN n, .list 1 (ins.map encLU)] (.tuple [.list 1 ((n.many ins).1.map encLU), .v (.int .i64 ((n.many ins).2))]) := by
 refine acp_of rfl ?_
 obtain ⟨i1, i2⟩ := hi
 have hi : InsU ins := ⟨i1, i2⟩
 have z1 := hn.insL
 have z4 := hn.outsL
 refine ac_enter 99 Try.func15 rfl rfl (by simp) ?_
 refine aw_seq ?_
 refine aw_region ?_
 (refine al_opR (op_box 2 rfl rfl (by first | rfl | exact live_one rfl | (repeat (first | exact all_live_nil | refine all_live_clo rfl ?_ | refine all_live_slice rfl ?_ | refine all_live_map rfl ?_ | refine all_live_ptr rfl ?_)))) rfl (by simp) ?_; rintro _ _ ⟨ver2, rfl, rfl⟩)
 refine al_op (op_assign rfl) rfl (by simp) ?_
 refine al_op (op_assign rfl) rfl (by simp) ?_
 refine al_nil ?_
 refine aw_seq ?_
 refine aw_seq ?_
 refine aw_region ?_
 first
   | refine al_op (op_load_rptr Try.underlying27 info27 rfl rfl) rfl (by simp) ?_
   | refine al_op (op_load_map Try.underlying27 info27 rfl rfl (by omega) rfl) rfl (by simp) ?_
   | refine al_op (op_load_ptr Try.underlying27 info27 rfl rfl rfl rfl) rfl (by simp) ?_
 first
   | refine al_callp into16 rfl rfl rfl ((r_Valid _ (by assumption)) _) (by simp) ?_
   | refine al_callp into16 rfl rfl rfl (acp_lent (lend_cons (by first | exact lend_same | exact .leaf _ _ (.vnil _) | exact .leaf _ _ (.nil _) | exact lend_whole rfl (by first | rfl | (simp; done) | (simp; omega)) (clo_map (fun _ => rfl)) | exact lend_netg (by first | exact .same _ | exact lendL_vnil | exact lendL_whole rfl (by first | rfl | (simp; done) | (simp; omega)) (clo_map (fun _ => rfl))) (by first | exact .same _ | exact lendL_vnil | exact lendL_whole rfl (by first | rfl | (simp; done) | (simp; omega)) (clo_map (fun _ => rfl))) (by first | exact .same _ | exact lendL_vnil | exact lendL_whole rfl (by first | rfl | (simp; done) | (simp; omega)) (clo_map (fun _ => rfl))) (by first | exact .same _ | exact lendL_vnil | exact lendL_whole rfl (by first | rfl | (simp; done) | (simp; omega)) (clo_map (fun _ => rfl)))) lend_nil) (r_Valid _ (by assumption)) rfl) (by simp) ?_
 refine al_op (op_not rfl) rfl (by simp) ?_
 refine al_op (op_move rfl) rfl (by simp) ?_
 apply al_or 4 17 21 rfl
 ·intro h1; have gh1 := h1
  try simp only [nrm] at h1
  first
    | refine al_take (op_load_rptr Try.underlying27 info27 rfl rfl) rfl rfl rfl rfl (by simp) ?_
    | refine al_take (op_load_map Try.underlying27 info27 rfl rfl (by omega) rfl) rfl rfl rfl rfl (by simp) ?_
    | refine al_take (op_load_ptr Try.underlying27 info27 rfl rfl rfl rfl) rfl rfl rfl rfl (by simp) ?_
  first
    | refine al_callp_take into17 rfl rfl rfl rfl rfl rfl ((r_Known4 _ (by assumption)) _) (by simp) ?_
    | refine al_callp_take into17 rfl rfl rfl rfl rfl rfl (acp_lent (lend_cons (by first | exact lend_same | exact .leaf _ _ (.vnil _) | exact .leaf _ _ (.nil _) | exact lend_whole rfl (by first | rfl | (simp; done) | (simp; omega)) (clo_map (fun _ => rfl)) | exact lend_netg (by first | exact .same _ | exact lendL_vnil | exact lendL_whole rfl (by first | rfl | (simp; done) | (simp; omega)) (clo_map (fun _ => rfl))) (by first | exact .same _ | exact lendL_vnil | exact lendL_whole rfl (by first | rfl | (simp; done) | (simp; omega)) (clo_map (fun _ => rfl))) (by first | exact .same _ | exact lendL_vnil | exact lendL_whole rfl (by first | rfl | (simp; done) | (simp; omega)) (clo_map (fun _ => rfl))) (by first | exact .same _ | exact lendL_vnil | exact lendL_whole rfl (by first | rfl | (simp; done) | (simp; omega)) (clo_map (fun _ => rfl)))) lend_nil) (r_Known4 _ (by assumption)) rfl) (by simp) ?_
  refine al_take (op_not rfl) rfl rfl rfl rfl (by simp) ?_
  first
    | refine al_op (op_pick rfl rfl) rfl (by simp) ?_
    | refine al_op (op_or rfl rfl rfl) rfl (by simp) ?_
  refine al_nil ⟨rfl, rfl, rfl, keep_of ?_⟩
  repeat (first | exact subx_refl | exact subx_known rfl gh1 subx_refl | refine subx_put rfl ?_)
 ·intro h1; have gh1 := h1
  try simp only [nrm] at h1
  refine al_pass rfl rfl rfl rfl (by simp) ?_
  refine al_pass rfl rfl rfl rfl (by simp) ?_
  refine al_pass rfl rfl rfl rfl (by simp) ?_
  first
    | refine al_op (op_pick rfl rfl) rfl (by simp) ?_
    | refine al_op (op_or rfl rfl rfl) rfl (by simp) ?_
  refine al_nil ⟨rfl, rfl, rfl, keep_of ?_⟩
  repeat (first | exact subx_refl | exact subx_known rfl gh1 subx_refl | refine subx_put rfl ?_)
 refine al_op (op_move rfl) rfl (by simp) ?_
 apply al_or 4 22 26 rfl
 ·intro h2; have gh2 := h2
  try simp only [nrm] at h2
  refine al_take (op_move rfl) rfl rfl rfl rfl (by simp) ?_
  first
    | refine al_take (op_len_map Try.underlying28 rfl) rfl rfl rfl rfl (by simp) ?_
    | refine al_take (op_len_slice Try.underlying28 rfl rfl) rfl rfl rfl rfl (by simp) ?_
    | refine al_take (op_len_list Try.underlying28 rfl) rfl rfl rfl rfl (by simp) ?_
    | refine al_take (op_len_v Try.underlying28 rfl) rfl rfl rfl rfl (by simp) ?_
    | refine al_take (op_len_nil Try.underlying28 rfl) rfl rfl rfl rfl (by simp) ?_
  refine al_take (op_gtr rfl rfl) rfl rfl rfl rfl (by simp) ?_
  first
    | refine al_op (op_pick rfl rfl) rfl (by simp) ?_
    | refine al_op (op_or rfl rfl rfl) rfl (by simp) ?_
  refine al_nil ⟨rfl, rfl, rfl, keep_of ?_⟩
  repeat (first | exact subx_refl | exact subx_known rfl gh2 subx_refl | refine subx_put rfl ?_)
 ·intro h2; have gh2 := h2
  try simp only [nrm] at h2
  refine al_pass rfl rfl rfl rfl (by simp) ?_
  refine al_pass rfl rfl rfl rfl (by simp) ?_
  refine al_pass rfl rfl rfl rfl (by simp) ?_
  first
    | refine al_op (op_pick rfl rfl) rfl (by simp) ?_
    | refine al_op (op_or rfl rfl rfl) rfl (by simp) ?_
  refine al_nil ⟨rfl, rfl, rfl, keep_of ?_⟩
  repeat (first | exact subx_refl | exact subx_known rfl gh2 subx_refl | refine subx_put rfl ?_)
 refine al_nil ?_
 refine aw_cond rfl (fun h3 => ?_) (fun h3 => ?_)
 ·have gh3 := h3
  try simp only [nrm] at h3
  refine aw_seq ?_
  refine aw_region ?_
  refine al_op (op_assign rfl) rfl (by simp) ?_
  refine al_op (op_assign rfl) rfl (by simp) ?_
  refine al_nil ?_
  refine aw_freeze (fun _ => false) (fsub_cons (t := 4) rfl (by first | exact .leaf _ _ (frz_whole rfl rfl (by first | rfl | (simp; done) | (simp; omega)) (clo_map (fun _ => rfl))) | exact .leaf _ _ (.vnil 1) | exact .leaf _ _ (.nil 1) | exact .leaf _ _ (.same _)) (fsub_cons (t := 5) rfl (.leaf _ _ (.same _)) fsub_nil)) ?_
  refine aw_ret ?_
  refine ⟨_, res_2 rfl rfl rfl rfl rfl, ?_, rfl⟩
  rw [Net.many_bad (manyOK_f1 hn gh3)]; rfl
 ·have gh3 := h3
  try simp only [nrm] at h3
  refine aw_skip ?_
  refine aw_seq ?_
  refine aw_seq ?_
  refine aw_region ?_
  refine al_op (op_move rfl) rfl (by simp) ?_
  first
    | refine al_op (op_len_map Try.underlying28 rfl) rfl (by simp) ?_
    | refine al_op (op_len_slice Try.underlying28 rfl rfl) rfl (by simp) ?_
    | refine al_op (op_len_list Try.underlying28 rfl) rfl (by simp) ?_
    | refine al_op (op_len_v Try.underlying28 rfl) rfl (by simp) ?_
    | refine al_op (op_len_nil Try.underlying28 rfl) rfl (by simp) ?_
  refine al_op (op_move rfl) rfl (by simp) ?_
  refine al_nil ?_
  refine aw_block ?_
  refine aw_forT (ι := Nat) [4, 5, 29] [] (fun i => ins.length - i) (fun i => i ≤ ins.length ∧ allTo (fun k => !lenBad n ins k) i = true) (fun i => ([(29, .v (.int .i64 (i)))] : Env)) (fun i s => s) (0) ?_ ?_ ?_ (fun i hinv => ?_)
  ·exact ⟨Nat.zero_le _, rfl⟩
  ·refine sub_cons (get_as rfl ?_) ?_; rotate_left; exact sub_nil
   all_goals (first | rfl | simp)
  ·rfl
  have hii := hinv.1
  refine aw_seq ?_
  refine aw_region ?_
  refine al_op (op_lss rfl rfl) rfl (by simp) ?_
  refine al_nil ?_
  refine aw_seq ?_
  refine aw_cond rfl (fun h4 => ?_) (fun h4 => ?_)
  ·have gh4 := h4
   try simp only [nrm] at h4
   refine aw_skip ?_
   refine aw_seq ?_
   refine aw_block ?_
   refine aw_seq ?_
   refine aw_region ?_
   first
     | refine al_op (op_index_map default Try.underlying28 info34 rfl rfl rfl (by first | (with_reducible exact Int.toNat_natCast _) | rfl) (by omega) (by omega)) rfl (by simp) ?_
     | refine al_op (op_index_slice Try.underlying28 info34 rfl rfl rfl rfl (by omega) (by omega)) rfl (by simp) ?_
     | refine al_op (op_index_list Try.underlying28 info34 rfl rfl rfl (by decide) rfl) rfl (by simp) ?_
   first
     | refine al_op (op_load_rptr Try.underlying34 info34 rfl rfl) rfl (by simp) ?_
     | refine al_op (op_load_map Try.underlying34 info34 rfl rfl (by omega) rfl) rfl (by simp) ?_
     | refine al_op (op_load_ptr Try.underlying34 info34 rfl rfl rfl rfl) rfl (by simp) ?_
   refine al_op (op_assign rfl) rfl (by simp) ?_
   refine al_nil ?_
   refine aw_seq ?_
   have q1 := (hi.at i).1
   refine aw_region ?_
   refine al_op (op_move rfl) rfl (by simp) ?_
   first
     | refine al_op (op_len_map Try.underlying34 rfl) rfl (by simp) ?_
     | refine al_op (op_len_slice Try.underlying34 rfl rfl) rfl (by simp) ?_
     | refine al_op (op_len_list Try.underlying34 rfl) rfl (by simp) ?_
     | refine al_op (op_len_v Try.underlying34 rfl) rfl (by simp) ?_
     | refine al_op (op_len_nil Try.underlying34 rfl) rfl (by simp) ?_
   first
     | refine al_op (op_field_rptr Try.underlying27 rfl info22 (by decide) rfl rfl) rfl (by simp) ?_
     | refine al_op (op_field_ptr Try.underlying27 rfl info22 (by decide) rfl rfl rfl) rfl (by simp) ?_
   first
     | refine al_op (op_load_rptr Try.underlying22 info22 rfl rfl) rfl (by simp) ?_
     | refine al_op (op_load_map Try.underlying22 info22 rfl rfl (by omega) rfl) rfl (by simp) ?_
     | refine al_op (op_load_ptr Try.underlying22 info22 rfl rfl rfl rfl) rfl (by simp) ?_
   first
     | refine al_op (op_len_map Try.underlying22 rfl) rfl (by simp) ?_
     | refine al_op (op_len_slice Try.underlying22 rfl rfl) rfl (by simp) ?_
     | refine al_op (op_len_list Try.underlying22 rfl) rfl (by simp) ?_
     | refine al_op (op_len_v Try.underlying22 rfl) rfl (by simp) ?_
     | refine al_op (op_len_nil Try.underlying22 rfl) rfl (by simp) ?_
   refine al_op (op_neq rfl rfl) rfl (by simp) ?_
   refine al_nil ?_
   refine aw_cond rfl (fun h5 => ?_) (fun h5 => ?_)
   ·have gh5 := h5
    try simp only [nrm] at h5
    refine aw_seq ?_
    refine aw_region ?_
    refine al_op (op_assign rfl) rfl (by simp) ?_
    refine al_op (op_assign rfl) rfl (by simp) ?_
    refine al_nil ?_
    refine aw_freeze (fun _ => false) (fsub_cons (t := 4) rfl (by first | exact .leaf _ _ (frz_whole rfl rfl (by first | rfl | (simp; done) | (simp; omega)) (clo_map (fun _ => rfl))) | exact .leaf _ _ (.vnil 1) | exact .leaf _ _ (.nil 1) | exact .leaf _ _ (.same _)) (fsub_cons (t := 5) rfl (.leaf _ _ (.same _)) fsub_nil)) ?_
    refine aw_ret ?_
    refine ⟨_, res_2 rfl rfl rfl rfl rfl, ?_, rfl⟩
    rw [Net.many_bad (manyOK_f2 (by omega) h5)]; rfl
   ·have gh5 := h5
    try simp only [nrm] at h5
    refine aw_skip ?_
    refine aw_region ?_
    refine al_op (op_add rfl rfl (by first | exact wrap_i64 (by omega) (by omega))) rfl (by simp) ?_
    refine al_op (op_move rfl) rfl (by simp) ?_
    refine al_nil ?_
    refine ⟨i + 1, ?_, ?_, ?_, ?_, ?_⟩
    ·omega
    ·exact ⟨by omega, allTo_succ hinv.2 (by rw [lenBad, gh5]; rfl)⟩
    ·refine sub_cons (get_as rfl ?_) ?_; rotate_left; exact sub_nil
     all_goals (first | rfl | simp)
    ·repeat (first | exact subx_refl | exact subx_del | refine subx_put rfl ?_)
    ·rfl
  ·have gh4 := h4
   try simp only [nrm] at h4
   refine aw_exit ?_
   obtain rfl : i = ins.length := by omega
   have hall := hinv.2
   refine aw_seq ?_
   refine aw_region ?_
   refine al_op (op_assign rfl) rfl (by simp) ?_
   refine al_nil ?_
   refine aw_seq ?_
   refine aw_seq ?_
   refine aw_region ?_
   refine al_op (op_move rfl) rfl (by simp) ?_
   first
     | refine al_op (op_len_map Try.underlying28 rfl) rfl (by simp) ?_
     | refine al_op (op_len_slice Try.underlying28 rfl rfl) rfl (by simp) ?_
     | refine al_op (op_len_list Try.underlying28 rfl) rfl (by simp) ?_
     | refine al_op (op_len_v Try.underlying28 rfl) rfl (by simp) ?_
     | refine al_op (op_len_nil Try.underlying28 rfl) rfl (by simp) ?_
   refine al_op (op_move rfl) rfl (by simp) ?_
   refine al_nil ?_
   refine aw_block ?_
   refine aw_own_map encB 8 1 8 rfl rfl (fun ver8 => ?_)
   refine aw_for3T (α := Nat) (β := Nat) (γ := Nat → Nat) [8, 42] [48] (fun i v8 vs => ins.length - i) (fun i v8 vs => i ≤ ins.length) (fun i v8 vs => ([(8, .slice 8 v8 0 (List.range i).length), (42, .v (.int .i64 (i)))] : Env)) (fun i v8 vs st => MST n ver2 v8 i i vs (fun _ => List.replicate n.outs.length 0)) (0) (ver8) ((fun _ => 0)) ?_ ?_ ?_ (fun i v8 vs hinv => ?_)
   ·exact Nat.zero_le _
   ·refine sub_cons (get_as rfl ?_) ?_; rotate_left; refine sub_cons (get_as rfl ?_) ?_; rotate_left; exact sub_nil
    all_goals (first | rfl | (simp; done) | (rw [List.range_succ] <;> rfl))
   ·rfl
   refine aw_seq ?_
   refine aw_region ?_
   refine al_op (op_lss rfl rfl) rfl (by simp) ?_
   refine al_nil ?_
   refine aw_seq ?_
   refine aw_cond rfl (fun h6 => ?_) (fun h6 => ?_)
   ·have gh6 := h6
    try simp only [nrm] at h6
    refine aw_skip ?_
    refine aw_seq ?_
    refine aw_block ?_
    refine aw_region ?_
    refine al_op (op_move rfl) rfl (by simp) ?_
    first
      | refine al_op (op_field_rptr Try.underlying27 rfl info25 (by decide) rfl rfl) rfl (by simp) ?_
      | refine al_op (op_field_ptr Try.underlying27 rfl info25 (by decide) rfl rfl rfl) rfl (by simp) ?_
    first
      | refine al_op (op_load_rptr Try.underlying25 info25 rfl rfl) rfl (by simp) ?_
      | refine al_op (op_load_map Try.underlying25 info25 rfl rfl (by omega) rfl) rfl (by simp) ?_
      | refine al_op (op_load_ptr Try.underlying25 info25 rfl rfl rfl rfl) rfl (by simp) ?_
    first
      | refine al_op (op_len_map Try.underlying25 rfl) rfl (by simp) ?_
      | refine al_op (op_len_slice Try.underlying25 rfl rfl) rfl (by simp) ?_
      | refine al_op (op_len_list Try.underlying25 rfl) rfl (by simp) ?_
      | refine al_op (op_len_v Try.underlying25 rfl) rfl (by simp) ?_
      | refine al_op (op_len_nil Try.underlying25 rfl) rfl (by simp) ?_
    (refine al_opR (op_makeN (f := encU) (900 + i) (0 : Nat) Try.underlying34 info35 rfl rfl (by decide) rfl rfl rfl rfl (by omega) (by show (8 : Int) * _ ≤ _; omega) (by omega)) rfl (by simp) ?_; rintro _ _ ⟨ver48, rfl, rfl⟩)
    refine al_st (σ2 := MST n ver2 v8 i (i + 1) (setV vs i ver48) (fun _ => List.replicate n.outs.length 0)) (by exact mst_new (rows := (fun _ => List.replicate n.outs.length 0)) (x := List.replicate (n.outs.length : Int).toNat 0) rfl) ?_
    refine al_as 48 (.slice (900 + i) (setV vs i ver48 i) 0 n.outs.length) rfl (by rw [List.length_replicate, setV, if_pos rfl]; rfl) ?_
    (refine al_opR (op_list_own (rowS (setV vs i ver48) n.outs.length) [i] 49 Try.underlying28 info34 rfl rfl (by decide) rfl (by decide) rfl (parts_cons rfl (all_live_slice (mst_get (Nat.lt_succ_self i)) all_live_nil) parts_nil) rfl rfl (all_live_slice (mst_get (Nat.lt_succ_self i)) all_live_nil) rfl rfl) rfl (by simp) ?_; rintro _ _ ⟨ver49, rfl, rfl⟩)
    (refine al_opR (op_append_map (k := [i]) Try.underlying28 Try.underlying28 rfl info34 rfl rfl (by decide) rfl rfl rfl (by first | rfl | simp) rfl (.row 49 ver49 _ _ (by rw [Store.get_put, if_pos rfl] <;> rfl) rfl) rfl (by simp; omega) (by show _ * 24 ≤ _; simp; omega)) rfl (by simp) ?_; rintro _ _ ⟨ver50, rfl, rfl⟩)
    refine al_op (op_assign rfl) rfl (by simp) ?_
    refine al_freeze (fun k => !(Nat.beq k 49)) fsub_same ?_
    refine al_st (σ2 := MST n ver2 ver50 (i + 1) (i + 1) (setV vs i ver48) (fun _ => List.replicate n.outs.length 0)) (by exact mst_app) ?_
    refine al_nil ?_
    refine aw_region ?_
    refine al_op (op_add rfl rfl (by first | exact wrap_i64 (by omega) (by omega))) rfl (by simp) ?_
    refine al_op (op_move rfl) rfl (by simp) ?_
    refine al_nil ?_
    refine ⟨i + 1, ver50, (setV vs i ver48), ?_, ?_, ?_, ?_, ?_⟩
    ·omega
    ·omega
    ·refine sub_cons (get_as rfl ?_) ?_; rotate_left; refine sub_cons (get_as rfl ?_) ?_; rotate_left; exact sub_nil
     all_goals (first | rfl | (simp; done) | (rw [List.range_succ] <;> rfl))
    ·repeat (first | exact subx_refl | exact subx_del | refine subx_put rfl ?_)
    ·exact mst_keep48
   ·have gh6 := h6
    try simp only [nrm] at h6
    refine aw_exit ?_
    obtain rfl : i = ins.length := by omega
    have h8b : ins.length ≤ 8 := by omega
    have g0 := gh3
    rw [Net.known_eq hn] at g0
    simp only [Bool.or_eq_false_iff, Bool.not_eq_false', decide_eq_false_iff_not] at g0
    have hfl : decide (firstLen n ins ≥ 0) = false := firstLen_none.2 (fun q hq => by have := allTo_iff.1 hall q hq; rw [Bool.not_eq_true', lenBad, bne_eq_false_iff_eq] at this; omega)
    have hok : n.manyOK ins = true := by rw [Net.manyOK, g0.1.1, g0.1.2, decide_eq_true (by omega), hfl]; rfl
    have hv := g0.1.1
    have hfo := Net.firsts_ok hn hv
    have hfb := Net.firsts_bytes hn
    have hrl : (List.range ins.length).length = ins.length := List.length_range
    refine aw_st (σ2 := (MST n ver2 v8 ins.length ins.length vs (fun q => lowRow (n.wrow ins q) 0))) (mst_rows (fun q hq => by rw [lowRow_zero, n.wrow_length ins hq])) ?_
    refine aw_seq ?_
    refine aw_seq ?_
    refine aw_region ?_
    refine al_op (op_assign rfl) rfl (by simp) ?_
    refine al_nil ?_
    refine aw_block ?_
    refine aw_forT (ι := Nat) [9] [] (fun k => 64 - k) (fun k => k ≤ 64) (fun k => ([(9, .v (.int .i64 (k)))] : Env)) (fun k st => (MST n ver2 v8 ins.length ins.length vs (fun q => lowRow (n.wrow ins q) k))) (0) ?_ ?_ ?_ (fun k hinv => ?_)
    ·exact Nat.zero_le _
    ·refine sub_cons (get_as rfl ?_) ?_; rotate_left; exact sub_nil
     all_goals (first | rfl | simp)
    ·rfl
    refine aw_seq ?_
    refine aw_seq ?_
    refine aw_region ?_
    refine al_op (op_move rfl) rfl (by simp) ?_
    refine al_op (op_lss rfl rfl) rfl (by simp) ?_
    refine al_nil ?_
    refine aw_cond rfl (fun h7 => ?_) (fun h7 => ?_)
    ·have gh7 := h7
     try simp only [nrm] at h7
     refine aw_skip ?_
     refine aw_seq ?_
     refine aw_block ?_
     refine aw_seq ?_
     have hk64 : k < 64 := by omega
     have fL : n.Fits (laneAll k ins) := Net.lanes_fits hok
     have hLl := lanes_length k ins
     have iL := fL.ins hn (by omega)
     have rL := Net.run_fits hv hfo fL (by omega)
     rw [hLl] at rL
     refine aw_any (Checked.mixed Try.checked) ?_
     apply aany_seg (p := 0) (q := 10) (by kernel_rfl) rfl (by decide)
     ·
      first
        | apply ql_plain rfl (op_load_rptr Try.underlying27 info27 rfl rfl)
        | apply ql_plain rfl (op_load_map Try.underlying27 info27 rfl rfl (by omega) rfl)
        | apply ql_plain rfl (op_load_ptr Try.underlying27 info27 rfl rfl rfl rfl)
      apply ql_plain rfl (op_move rfl)
      apply ql_plain rfl (op_move rfl)
      first
        | apply ql_call into47 rfl rfl rfl ((r_one _ (by assumption) _ (by omega)) _)
        | apply ql_call into47 rfl rfl rfl (ac_told (re_cons (by first | exact .leaf _ _ (.same _) | exact .leaf _ _ (.vnil _) | exact .leaf _ _ (.nil _)) (re_cons (by first | exact .leaf _ _ (.same _) | exact .leaf _ _ (.vnil _) | exact .leaf _ _ (.nil _)) re_nil)) ((r_one _ (by assumption) _ (by omega)) _))
      first
        | apply ql_call into35 rfl rfl rfl ((r_Run4 _ (by assumption) _ (by assumption)) _)
        | apply ql_call into35 rfl rfl rfl (ac_told (re_cons (by first | exact .leaf _ _ (.same _) | exact .leaf _ _ (.vnil _) | exact .leaf _ _ (.nil _)) (re_cons (by first | exact .leaf _ _ (.same _) | exact .leaf _ _ (.vnil _) | exact .leaf _ _ (.nil _)) re_nil)) ((r_Run4 _ (by assumption) _ (by assumption)) _))
      apply ql_plain rfl (op_move rfl)
      apply ql_plain rfl (op_extract rfl rfl rfl)
      apply ql_plain rfl (op_extract rfl rfl rfl)
      apply ql_plain rfl (op_assign rfl)
      apply ql_plain rfl (op_assign rfl)
      exact ql_nil
     ·simp
     refine aany_end rfl (by kernel_rfl) ?_
     refine aw_seq ?_
     refine aw_as 10 (.list 1 ((n.outsAt n.firsts (laneAll k ins) ins.length).map encL)) rfl (by rw [rL]) ?_
     refine aw_as 11 (.v (.int .i64 (0))) rfl (by rw [rL]) ?_
     have oL := n.outsAt_length n.firsts (laneAll k ins) ins.length
     refine aw_region ?_
     refine al_op (op_move rfl) rfl (by simp) ?_
     first
       | refine al_op (op_len_map Try.underlying39 rfl) rfl (by simp) ?_
       | refine al_op (op_len_slice Try.underlying39 rfl rfl) rfl (by simp) ?_
       | refine al_op (op_len_list Try.underlying39 rfl) rfl (by simp) ?_
       | refine al_op (op_len_v Try.underlying39 rfl) rfl (by simp) ?_
       | refine al_op (op_len_nil Try.underlying39 rfl) rfl (by simp) ?_
     refine al_op (op_move rfl) rfl (by simp) ?_
     refine al_nil ?_
     refine aw_block ?_
     refine aw_forT (ι := Nat) [12, 13, 66, 67, 68, 69, 70, 71, 72, 73, 74, 75, 76, 77, 78, 79, 80, 81, 82, 83, 84, 85, 86, 87, 88, 89, 90, 91, 92, 93, 94, 95, 96, 97] [] (fun i => ins.length - i) (fun i => i ≤ ins.length) (fun i => ([(66, .v (.int .i64 (i)))] : Env)) (fun i st => (MST n ver2 v8 ins.length ins.length vs (n.rowsI ins k i))) (0) ?_ ?_ ?_ (fun i hinv => ?_)
     ·exact Nat.zero_le _
     ·refine sub_cons (get_as rfl ?_) ?_; rotate_left; exact sub_nil
      all_goals (first | rfl | simp)
     ·exact mst_rows (fun q _ => (n.rowsI_zero ins k q).symm)
     refine aw_seq ?_
     refine aw_region ?_
     refine al_op (op_lss rfl rfl) rfl (by simp) ?_
     refine al_nil ?_
     refine aw_seq ?_
     refine aw_cond rfl (fun h8 => ?_) (fun h8 => ?_)
     ·have gh8 := h8
      try simp only [nrm] at h8
      refine aw_skip ?_
      refine aw_seq ?_
      refine aw_block ?_
      refine aw_seq ?_
      refine aw_region ?_
      refine al_op (op_move rfl) rfl (by simp) ?_
      refine al_op (op_assign rfl) rfl (by simp) ?_
      refine al_nil ?_
      refine aw_seq ?_
      have hlo : (n.outsAt n.firsts (laneAll k ins) ins.length).getD i default = lane k (n.wrow ins i) := Net.lane_outs hn hk64 hi hok i (by omega)
      have hll : ((n.outsAt n.firsts (laneAll k ins) ins.length).getD i default).length = (n.wrow ins i).length := by rw [hlo, lane_length]
      have hwl := n.wrow_length ins (q := i) (by omega)
      refine aw_region ?_
      refine al_op (op_move rfl) rfl (by simp) ?_
      refine al_op (op_move rfl) rfl (by simp) ?_
      first
        | refine al_op (op_index_map default Try.underlying39 info40 rfl rfl rfl (by first | (with_reducible exact Int.toNat_natCast _) | rfl) (by omega) (by omega)) rfl (by simp) ?_
        | refine al_op (op_index_slice Try.underlying39 info40 rfl rfl rfl rfl (by omega) (by omega)) rfl (by simp) ?_
        | refine al_op (op_index_list Try.underlying39 info40 rfl rfl rfl (by decide) rfl) rfl (by simp) ?_
      first
        | refine al_op (op_load_rptr Try.underlying40 info40 rfl rfl) rfl (by simp) ?_
        | refine al_op (op_load_map Try.underlying40 info40 rfl rfl (by omega) rfl) rfl (by simp) ?_
        | refine al_op (op_load_ptr Try.underlying40 info40 rfl rfl rfl rfl) rfl (by simp) ?_
      first
        | refine al_op (op_len_map Try.underlying40 rfl) rfl (by simp) ?_
        | refine al_op (op_len_slice Try.underlying40 rfl rfl) rfl (by simp) ?_
        | refine al_op (op_len_list Try.underlying40 rfl) rfl (by simp) ?_
        | refine al_op (op_len_v Try.underlying40 rfl) rfl (by simp) ?_
        | refine al_op (op_len_nil Try.underlying40 rfl) rfl (by simp) ?_
      refine al_op (op_move rfl) rfl (by simp) ?_
      refine al_nil ?_
      refine aw_block ?_
      refine aw_forT (ι := Nat) [13, 74, 75, 76, 77, 78, 79, 80, 81, 82, 83, 84, 85, 86, 87, 88, 89, 90, 91, 92, 93, 94, 95, 96] [] (fun j => (n.wrow ins i).length - j) (fun j => j ≤ (n.wrow ins i).length) (fun j => ([(74, .v (.int .i64 (j)))] : Env)) (fun j st => (MST n ver2 v8 ins.length ins.length vs (n.rowsJ ins k i j))) (0) ?_ ?_ ?_ (fun j hinv => ?_)
      ·exact Nat.zero_le _
      ·refine sub_cons (get_as rfl ?_) ?_; rotate_left; exact sub_nil
       all_goals (first | rfl | simp)
      ·exact mst_rows (fun q _ => (n.rowsJ_zero ins k i q).symm)
      refine aw_seq ?_
      refine aw_region ?_
      refine al_op (op_lss rfl rfl) rfl (by simp) ?_
      refine al_nil ?_
      refine aw_seq ?_
      refine aw_cond rfl (fun h9 => ?_) (fun h9 => ?_)
      ·have gh9 := h9
       try simp only [nrm] at h9
       refine aw_skip ?_
       refine aw_seq ?_
       refine aw_block ?_
       refine aw_seq ?_
       refine aw_region ?_
       refine al_op (op_move rfl) rfl (by simp) ?_
       refine al_op (op_assign rfl) rfl (by simp) ?_
       refine al_nil ?_
       refine aw_seq ?_
       refine aw_region ?_
       refine al_op (op_move rfl) rfl (by simp) ?_
       refine al_op (op_move rfl) rfl (by simp) ?_
       first
         | refine al_op (op_index_map default Try.underlying39 info40 rfl rfl rfl (by first | (with_reducible exact Int.toNat_natCast _) | rfl) (by omega) (by omega)) rfl (by simp) ?_
         | refine al_op (op_index_slice Try.underlying39 info40 rfl rfl rfl rfl (by omega) (by omega)) rfl (by simp) ?_
         | refine al_op (op_index_list Try.underlying39 info40 rfl rfl rfl (by decide) rfl) rfl (by simp) ?_
       first
         | refine al_op (op_load_rptr Try.underlying40 info40 rfl rfl) rfl (by simp) ?_
         | refine al_op (op_load_map Try.underlying40 info40 rfl rfl (by omega) rfl) rfl (by simp) ?_
         | refine al_op (op_load_ptr Try.underlying40 info40 rfl rfl rfl rfl) rfl (by simp) ?_
       refine al_op (op_move rfl) rfl (by simp) ?_
       first
         | refine al_op (op_index_map default Try.underlying40 info41 rfl rfl rfl (by first | (with_reducible exact Int.toNat_natCast _) | rfl) (by omega) (by omega)) rfl (by simp) ?_
         | refine al_op (op_index_slice Try.underlying40 info41 rfl rfl rfl rfl (by omega) (by omega)) rfl (by simp) ?_
         | refine al_op (op_index_list Try.underlying40 info41 rfl rfl rfl (by decide) rfl) rfl (by simp) ?_
       first
         | refine al_op (op_load_rptr Try.underlying41 info41 rfl rfl) rfl (by simp) ?_
         | refine al_op (op_load_map Try.underlying41 info41 rfl rfl (by omega) rfl) rfl (by simp) ?_
         | refine al_op (op_load_ptr Try.underlying41 info41 rfl rfl rfl rfl) rfl (by simp) ?_
       refine al_op (op_eql rfl rfl) rfl (by simp) ?_
       refine al_nil ?_
       refine aw_cond rfl (fun h10 => ?_) (fun h10 => ?_)
       ·have gh10 := h10
        try simp only [nrm] at h10
        have hXi : (List.range ins.length).getD (0 + (i : Int).toNat) default = i := by rw [show 0 + (i : Int).toNat = i from by omega]; have := range_get (fun x => x) ins.length i (by omega); simpa using this
        have hrj : (n.rowsJ ins k i j i).length = (n.wrow ins i).length := by rw [Net.rowsJ, if_pos rfl, mixTo_length (by rw [lowRow_length, lowRow_length]), lowRow_length]
        have hold : ((n.rowsJ ins k i j i).getD (0 + (j : Int).toNat) default) = (n.wrow ins i).getD j default % 2 ^ k := by rw [Net.rowsJ, if_pos rfl]; exact lowRow_at _ _ _ (by omega)
        have hlt1 : ((n.rowsJ ins k i j i).getD (0 + (j : Int).toNat) default) < 2 ^ 64 := by rw [hold]; exact Nat.lt_of_lt_of_le (Nat.mod_lt _ (Nat.two_pow_pos k)) (pow_le_of (by omega))
        have hlt2 : 1 <<< k < 2 ^ 64 := by rw [Nat.shiftLeft_eq, Nat.one_mul]; exact Nat.pow_lt_pow_right (by decide) hk64
        refine aw_plan [0, 1, 2, 3, 4, 5, 6, 7, 8, 9, 10, 11] (Checked.mixed Try.checked) (by kernel_rfl) ?_
        refine afl_float rfl rfl (opk_of (op_move rfl)) (by simp) ?_
        refine afl_float rfl rfl (opk_of (op_move rfl)) (by simp) ?_
        first
          | refine afl_float rfl rfl (opk_of (op_index_map default Try.underlying28 info34 rfl rfl rfl (by first | (with_reducible exact Int.toNat_natCast _) | rfl) (by omega) (by omega))) (by simp) ?_
          | refine afl_float rfl rfl (opk_of (op_index_slice Try.underlying28 info34 rfl rfl rfl rfl (by omega) (by omega))) (by simp) ?_
          | refine afl_float rfl rfl (opk_of (op_index_list Try.underlying28 info34 rfl rfl rfl (by decide) rfl)) (by simp) ?_
        first
          | refine afl_float rfl rfl (opk_of (op_load_rptr Try.underlying34 info34 rfl rfl)) (by simp) ?_
          | refine afl_float rfl rfl (opk_of (op_load_map Try.underlying34 info34 rfl rfl (by omega) rfl)) (by simp) ?_
          | refine afl_float rfl rfl (opk_of (op_load_ptr Try.underlying34 info34 rfl rfl rfl rfl)) (by simp) ?_
        refine afl_float rfl rfl (opk_of (op_move rfl)) (by simp) ?_
        refine afl_float rfl rfl (opk_of (op_index_slice (els := (n.rowsJ ins k i j i).map encU) Try.underlying34 info35 rfl rfl (by rw [hXi]; exact mst_get (by omega)) rfl (by omega) (by omega))) (by simp) ?_
        refine afl_float rfl rfl (opk_of (op_load_map (f := encU) (l := n.rowsJ ins k i j i) Try.underlying35 info35 rfl (by rw [hXi]; exact mst_get (by omega)) (by omega) rfl)) (by simp) ?_
        refine afl_float rfl rfl (opk_of (op_move rfl)) (by simp) ?_
        refine afl_float rfl rfl (opk_of (op_shl (a := ((1 : Nat) : Int)) rfl rfl (by omega) (shl_u64 (by decide) hk64))) (by simp) ?_
        refine afl_float rfl rfl (opk_of (op_bitor rfl rfl (u64_or hlt1 hlt2))) (by simp) ?_
        refine afl_float rfl rfl (opk_of (op_index_slice (els := (n.rowsJ ins k i j i).map encU) Try.underlying34 info35 rfl rfl (by rw [hXi]; exact mst_get (by omega)) rfl (by omega) (by omega))) (by simp) ?_
        (refine afl_eff rfl rfl (by kernel_rfl) (op_store_map (f := encU) (l := n.rowsJ ins k i j i) (((n.rowsJ ins k i j i).getD (0 + (j : Int).toNat) default) ||| (1 <<< k)) info35 rfl rfl (by rw [hXi]; exact mst_get (by omega)) (by omega) rfl rfl rfl (Nat.le_of_ble_eq_true rfl) rfl) (by simp) ?_ ?_)
        ·
         refine loose_anc 10 rfl (by kernel_rfl) ?_
         refine loose_anc 9 rfl (by kernel_rfl) ?_
         refine loose_anc 8 rfl (by kernel_rfl) ?_
         refine loose_anc 7 rfl (by kernel_rfl) ?_
         refine loose_anc 6 rfl (by kernel_rfl) ?_
         refine loose_anc 5 rfl (by kernel_rfl) ?_
         refine loose_anc 4 rfl (by kernel_rfl) ?_
         refine loose_anc 3 rfl (by kernel_rfl) ?_
         refine loose_anc 2 rfl (by kernel_rfl) ?_
         refine loose_anc 1 rfl (by kernel_rfl) ?_
         refine loose_anc 0 rfl (by kernel_rfl) ?_
         exact loose_nil
        refine afl_end ?_
        refine aw_region ?_
        refine al_op (op_add rfl rfl (by first | exact wrap_i64 (by omega) (by omega))) rfl (by simp) ?_
        refine al_op (op_move rfl) rfl (by simp) ?_
        refine al_nil ?_
        refine ⟨j + 1, ?_, ?_, ?_, ?_, ?_⟩
        ·omega
        ·omega
        ·refine sub_cons (get_as rfl ?_) ?_; rotate_left; exact sub_nil
         all_goals (first | rfl | simp)
        ·repeat (first | exact subx_refl | exact subx_del | refine subx_put rfl ?_)
        ·first | exact mst_keep rfl rfl (fun _ _ => rfl) | exact (mst_keep rfl rfl (fun _ _ => rfl)).trans (mst_rows (fun q _ => Net.rowsJ_none (by omega) (by rw [← lane_get, ← hlo]; simpa using gh10) q)) | (rw [hXi, mst_put (rows' := n.rowsJ ins k i (j + 1)) (by omega) (Net.rowsJ_one (by omega) (by rw [← lane_get, ← hlo]; simpa using gh10)) (fun q _ hq => Net.rowsJ_other hq)]; exact mst_keep rfl rfl (fun _ _ => rfl))
       ·have gh10 := h10
        try simp only [nrm] at h10
        refine aw_skip ?_
        refine aw_region ?_
        refine al_op (op_add rfl rfl (by first | exact wrap_i64 (by omega) (by omega))) rfl (by simp) ?_
        refine al_op (op_move rfl) rfl (by simp) ?_
        refine al_nil ?_
        refine ⟨j + 1, ?_, ?_, ?_, ?_, ?_⟩
        ·omega
        ·omega
        ·refine sub_cons (get_as rfl ?_) ?_; rotate_left; exact sub_nil
         all_goals (first | rfl | simp)
        ·repeat (first | exact subx_refl | exact subx_del | refine subx_put rfl ?_)
        ·first | exact mst_keep rfl rfl (fun _ _ => rfl) | exact (mst_keep rfl rfl (fun _ _ => rfl)).trans (mst_rows (fun q _ => Net.rowsJ_none (by omega) (by rw [← lane_get, ← hlo]; simpa using gh10) q)) | (rw [hXi, mst_put (rows' := n.rowsJ ins k i (j + 1)) (by omega) (Net.rowsJ_one (by omega) (by rw [← lane_get, ← hlo]; simpa using gh10)) (fun q _ hq => Net.rowsJ_other hq)]; exact mst_keep rfl rfl (fun _ _ => rfl))
      ·have gh9 := h9
       try simp only [nrm] at h9
       refine aw_exit ?_
       obtain rfl : j = (n.wrow ins i).length := by omega
       refine aw_st (σ2 := (MST n ver2 v8 ins.length ins.length vs (n.rowsI ins k (i + 1)))) (mst_rows (fun q _ => n.rowsJ_all ins k i q)) ?_
       refine aw_region ?_
       refine al_op (op_add rfl rfl (by first | exact wrap_i64 (by omega) (by omega))) rfl (by simp) ?_
       refine al_op (op_move rfl) rfl (by simp) ?_
       refine al_nil ?_
       refine ⟨i + 1, ?_, ?_, ?_, ?_, ?_⟩
       ·omega
       ·omega
       ·refine sub_cons (get_as rfl ?_) ?_; rotate_left; exact sub_nil
        all_goals (first | rfl | simp)
       ·repeat (first | exact subx_refl | exact subx_del | refine subx_put rfl ?_)
       ·exact mst_keep rfl rfl (fun _ _ => rfl)
     ·have gh8 := h8
      try simp only [nrm] at h8
      refine aw_exit ?_
      obtain rfl : i = ins.length := by omega
      refine aw_st (σ2 := (MST n ver2 v8 ins.length ins.length vs (fun q => lowRow (n.wrow ins q) (k + 1)))) (mst_rows (fun q hq => n.rowsI_all ins k _ hq)) ?_
      refine aw_region ?_
      refine al_op (op_move rfl) rfl (by simp) ?_
      refine al_op (op_add rfl rfl (by first | exact wrap_i64 (by omega) (by omega))) rfl (by simp) ?_
      refine al_op (op_assign rfl) rfl (by simp) ?_
      refine al_nil ?_
      refine ⟨k + 1, ?_, ?_, ?_, ?_, ?_⟩
      ·omega
      ·omega
      ·refine sub_cons (get_as rfl ?_) ?_; rotate_left; exact sub_nil
       all_goals (first | rfl | simp)
      ·repeat (first | exact subx_refl | exact subx_del | refine subx_put rfl ?_)
      ·exact mst_keep rfl rfl (fun _ _ => rfl)
    ·have gh7 := h7
     try simp only [nrm] at h7
     refine aw_exit ?_
     obtain rfl : k = 64 := by omega
     refine aw_st (σ2 := MST n ver2 v8 ins.length ins.length vs (n.wrow ins)) (mst_rows (fun q hq => lowRow_full (Net.wrow_64 hn hi hq))) ?_
     refine aw_freeze2 (fun i => decide (i < 900)) fsub_same fstore_final ?_
     have hwl0 := n.wouts_length ins ins.length
     refine aw_as 8 (.slice 8 v8 0 (n.wouts ins ins.length).length) rfl (by rw [hrl, hwl0]) ?_
     refine aw_seq ?_
     refine aw_region ?_
     refine al_op (op_move rfl) rfl (by simp) ?_
     refine al_op (op_assign rfl) rfl (by simp) ?_
     refine al_op (op_assign rfl) rfl (by simp) ?_
     refine al_nil ?_
     refine aw_freeze (fun _ => false) (fsub_cons (t := 4) rfl (by first | exact .leaf _ _ (frz_whole rfl rfl (by first | rfl | (simp; done) | (simp; omega)) (clo_map (fun _ => rfl))) | exact .leaf _ _ (.vnil 1) | exact .leaf _ _ (.nil 1) | exact .leaf _ _ (.same _)) (fsub_cons (t := 5) rfl (.leaf _ _ (.same _)) fsub_nil)) ?_
     refine aw_ret ?_
     refine ⟨_, res_2 rfl rfl rfl rfl rfl, ?_, rfl⟩
     rw [Net.many, if_pos hok] <;> rfl

theorem law_CycleMany (n : Net) (hn : n.Small) (ins : List (List Nat)) (hi : InsU ins) : ACp Try.prog 3 [encN n, .list 1 (ins.map encLU)] (.v (.bool (true))) := by
 refine acp_of rfl ?_
 obtain ⟨i1, i2⟩ := hi
 have hi : InsU ins := ⟨i1, i2⟩
 have z1 := hn.insL
 have z2 := hn.regsL
 have z4 := hn.gatesL
 refine ac_enter 95 Try.func3 rfl rfl (by simp) ?_
 refine aw_seq ?_
 refine aw_region ?_
 (refine al_opR (op_box 2 rfl rfl (by first | rfl | exact live_one rfl | (repeat (first | exact all_live_nil | refine all_live_clo rfl ?_ | refine all_live_slice rfl ?_ | refine all_live_map rfl ?_ | refine all_live_ptr rfl ?_)))) rfl (by simp) ?_; rintro _ _ ⟨ver2, rfl, rfl⟩)
 refine al_op (op_assign rfl) rfl (by simp) ?_
 refine al_nil ?_
 refine aw_seq ?_
 refine aw_seq ?_
 refine aw_region ?_
 first
   | refine al_op (op_load_rptr Try.underlying27 info27 rfl rfl) rfl (by simp) ?_
   | refine al_op (op_load_map Try.underlying27 info27 rfl rfl (by omega) rfl) rfl (by simp) ?_
   | refine al_op (op_load_ptr Try.underlying27 info27 rfl rfl rfl rfl) rfl (by simp) ?_
 refine al_callp into12 rfl rfl rfl (ac_told (re_cons (.leaf _ _ (.same _)) (re_cons (.leaf _ _ (.vnil 1)) re_nil)) (l_few n hn [] ins_nil _)) (by simp) ?_
 refine al_op (op_not rfl) rfl (by simp) ?_
 refine al_op (op_move rfl) rfl (by simp) ?_
 apply al_or 9 14 23 rfl
 ·intro h1; have gh1 := h1
  try simp only [nrm] at h1
  refine al_take (op_move rfl) rfl rfl rfl rfl (by simp) ?_
  first
    | refine al_take (op_len_map Try.underlying28 rfl) rfl rfl rfl rfl (by simp) ?_
    | refine al_take (op_len_slice Try.underlying28 rfl rfl) rfl rfl rfl rfl (by simp) ?_
    | refine al_take (op_len_list Try.underlying28 rfl) rfl rfl rfl rfl (by simp) ?_
    | refine al_take (op_len_v Try.underlying28 rfl) rfl rfl rfl rfl (by simp) ?_
    | refine al_take (op_len_nil Try.underlying28 rfl) rfl rfl rfl rfl (by simp) ?_
  refine al_take (op_gtr rfl rfl) rfl rfl rfl rfl (by simp) ?_
  refine al_take (op_move rfl) rfl rfl rfl rfl (by simp) ?_
  apply al_and 4 18 22 rfl
  ·intro h2; have gh2 := h2
   try simp only [nrm] at h2
   refine al_take (op_move rfl) rfl rfl rfl rfl (by simp) ?_
   first
     | refine al_take (op_len_map Try.underlying28 rfl) rfl rfl rfl rfl (by simp) ?_
     | refine al_take (op_len_slice Try.underlying28 rfl rfl) rfl rfl rfl rfl (by simp) ?_
     | refine al_take (op_len_list Try.underlying28 rfl) rfl rfl rfl rfl (by simp) ?_
     | refine al_take (op_len_v Try.underlying28 rfl) rfl rfl rfl rfl (by simp) ?_
     | refine al_take (op_len_nil Try.underlying28 rfl) rfl rfl rfl rfl (by simp) ?_
   refine al_take (op_leq rfl rfl) rfl rfl rfl rfl (by simp) ?_
   first
     | refine al_take (op_pick rfl rfl) rfl rfl rfl rfl (by simp) ?_
     | refine al_take (op_and rfl rfl rfl) rfl rfl rfl rfl (by simp) ?_
   refine al_nil ⟨rfl, rfl, rfl, keep_of ?_⟩
   repeat (first | exact subx_refl | exact subx_known rfl gh2 subx_refl | refine subx_put rfl ?_)
  ·intro h2; have gh2 := h2
   try simp only [nrm] at h2
   refine al_pass rfl rfl rfl rfl (by simp) ?_
   refine al_pass rfl rfl rfl rfl (by simp) ?_
   refine al_pass rfl rfl rfl rfl (by simp) ?_
   first
     | refine al_take (op_pick rfl rfl) rfl rfl rfl rfl (by simp) ?_
     | refine al_take (op_and rfl rfl rfl) rfl rfl rfl rfl (by simp) ?_
   refine al_nil ⟨rfl, rfl, rfl, keep_of ?_⟩
   repeat (first | exact subx_refl | exact subx_known rfl gh2 subx_refl | refine subx_put rfl ?_)
  first
    | refine al_op (op_pick rfl rfl) rfl (by simp) ?_
    | refine al_op (op_or rfl rfl rfl) rfl (by simp) ?_
  refine al_nil ⟨rfl, rfl, rfl, keep_of ?_⟩
  repeat (first | exact subx_refl | exact subx_known rfl gh1 subx_refl | refine subx_put rfl ?_)
 ·intro h1; have gh1 := h1
  try simp only [nrm] at h1
  refine al_pass rfl rfl rfl rfl (by simp) ?_
  refine al_pass rfl rfl rfl rfl (by simp) ?_
  refine al_pass rfl rfl rfl rfl (by simp) ?_
  refine al_pass rfl rfl rfl rfl (by simp) ?_
  refine al_pass_undef rfl rfl rfl rfl (by simp) ?_
  refine al_pass_undef rfl rfl rfl rfl (by simp) ?_
  refine al_pass_undef rfl rfl rfl rfl (by simp) ?_
  refine al_pass rfl rfl rfl rfl (by simp) ?_
  first
    | refine al_op (op_pick rfl rfl) rfl (by simp) ?_
    | refine al_op (op_or rfl rfl rfl) rfl (by simp) ?_
  refine al_nil ⟨rfl, rfl, rfl, keep_of ?_⟩
  repeat (first | exact subx_refl | exact subx_known rfl gh1 subx_refl | refine subx_put rfl ?_)
 refine al_op (op_move rfl) rfl (by simp) ?_
 apply al_or 5 24 29 rfl
 ·intro h3; have gh3 := h3
  try simp only [nrm] at h3
  first
    | refine al_take (op_field_rptr Try.underlying27 rfl info24 (by decide) rfl rfl) rfl rfl rfl rfl (by simp) ?_
    | refine al_take (op_field_ptr Try.underlying27 rfl info24 (by decide) rfl rfl rfl) rfl rfl rfl rfl (by simp) ?_
  first
    | refine al_take (op_load_rptr Try.underlying24 info24 rfl rfl) rfl rfl rfl rfl (by simp) ?_
    | refine al_take (op_load_map Try.underlying24 info24 rfl rfl (by omega) rfl) rfl rfl rfl rfl (by simp) ?_
    | refine al_take (op_load_ptr Try.underlying24 info24 rfl rfl rfl rfl) rfl rfl rfl rfl (by simp) ?_
  first
    | refine al_take (op_len_map Try.underlying24 rfl) rfl rfl rfl rfl (by simp) ?_
    | refine al_take (op_len_slice Try.underlying24 rfl rfl) rfl rfl rfl rfl (by simp) ?_
    | refine al_take (op_len_list Try.underlying24 rfl) rfl rfl rfl rfl (by simp) ?_
    | refine al_take (op_len_v Try.underlying24 rfl) rfl rfl rfl rfl (by simp) ?_
    | refine al_take (op_len_nil Try.underlying24 rfl) rfl rfl rfl rfl (by simp) ?_
  refine al_take (op_gtr rfl rfl) rfl rfl rfl rfl (by simp) ?_
  first
    | refine al_op (op_pick rfl rfl) rfl (by simp) ?_
    | refine al_op (op_or rfl rfl rfl) rfl (by simp) ?_
  refine al_nil ⟨rfl, rfl, rfl, keep_of ?_⟩
  repeat (first | exact subx_refl | exact subx_known rfl gh3 subx_refl | refine subx_put rfl ?_)
 ·intro h3; have gh3 := h3
  try simp only [nrm] at h3
  refine al_pass rfl rfl rfl rfl (by simp) ?_
  refine al_pass rfl rfl rfl rfl (by simp) ?_
  refine al_pass rfl rfl rfl rfl (by simp) ?_
  refine al_pass rfl rfl rfl rfl (by simp) ?_
  first
    | refine al_op (op_pick rfl rfl) rfl (by simp) ?_
    | refine al_op (op_or rfl rfl rfl) rfl (by simp) ?_
  refine al_nil ⟨rfl, rfl, rfl, keep_of ?_⟩
  repeat (first | exact subx_refl | exact subx_known rfl gh3 subx_refl | refine subx_put rfl ?_)
 refine al_nil ?_
 refine aw_cond rfl (fun h4 => ?_) (fun h4 => ?_)
 ·have gh4 := h4
  try simp only [nrm] at h4
  refine aw_seq ?_
  refine aw_region ?_
  first
    | refine al_callp into13 rfl rfl rfl ((l_awake4 ) _) (by simp) ?_
    | refine al_callp into13 rfl rfl rfl (acp_lent lend_nil (l_awake4 ) rfl) (by simp) ?_
  refine al_op (op_assign rfl) rfl (by simp) ?_
  refine al_nil ?_
  refine aw_freeze (fun _ => false) (fsub_cons (t := 4) rfl (.leaf _ _ (.same _)) fsub_nil) ?_
  refine aw_ret ?_
  refine ⟨_, res_1 rfl rfl, ?_, rfl⟩
  rfl
 ·have gh4 := h4
  try simp only [nrm] at h4
  refine aw_skip ?_
  refine aw_seq ?_
  refine aw_region ?_
  first
    | refine al_op (op_load_rptr Try.underlying27 info27 rfl rfl) rfl (by simp) ?_
    | refine al_op (op_load_map Try.underlying27 info27 rfl rfl (by omega) rfl) rfl (by simp) ?_
    | refine al_op (op_load_ptr Try.underlying27 info27 rfl rfl rfl rfl) rfl (by simp) ?_
  refine al_op (op_move rfl) rfl (by simp) ?_
  first
    | refine al_callp into14 rfl rfl rfl ((c_Many _ (by assumption) _ (by assumption)) _) (by simp) ?_
    | refine al_callp into14 rfl rfl rfl (ac_told (re_cons (by first | exact .leaf _ _ (.same _) | exact .leaf _ _ (.vnil _) | exact .leaf _ _ (.nil _)) (re_cons (by first | exact .leaf _ _ (.same _) | exact .leaf _ _ (.vnil _) | exact .leaf _ _ (.nil _)) re_nil)) ((c_Many _ (by assumption) _ (by assumption)) _)) (by simp) ?_
  refine al_op (op_move rfl) rfl (by simp) ?_
  refine al_op (op_extract rfl rfl rfl) rfl (by simp) ?_
  refine al_op (op_extract rfl rfl rfl) rfl (by simp) ?_
  refine al_op (op_assign rfl) rfl (by simp) ?_
  refine al_op (op_assign rfl) rfl (by simp) ?_
  refine al_nil ?_
  refine aw_seq ?_
  have h8 : ins.length ≤ 8 ∨ 1000 < ins.length := many_bound (by assumption)
  have hmlen := n.many_len ins
  refine aw_region ?_
  first
    | refine al_op (op_load_rptr Try.underlying27 info27 rfl rfl) rfl (by simp) ?_
    | refine al_op (op_load_map Try.underlying27 info27 rfl rfl (by omega) rfl) rfl (by simp) ?_
    | refine al_op (op_load_ptr Try.underlying27 info27 rfl rfl rfl rfl) rfl (by simp) ?_
  refine al_op (op_move rfl) rfl (by simp) ?_
  first
    | refine al_callp into15 rfl rfl rfl ((r_Many4 _ (by assumption) _ (by assumption) (by assumption)) _) (by simp) ?_
    | refine al_callp into15 rfl rfl rfl (ac_told (re_cons (by first | exact .leaf _ _ (.same _) | exact .leaf _ _ (.vnil _) | exact .leaf _ _ (.nil _)) (re_cons (by first | exact .leaf _ _ (.same _) | exact .leaf _ _ (.vnil _) | exact .leaf _ _ (.nil _)) re_nil)) ((r_Many4 _ (by assumption) _ (by assumption) (by assumption)) _)) (by simp) ?_
  refine al_op (op_move rfl) rfl (by simp) ?_
  refine al_op (op_extract rfl rfl rfl) rfl (by simp) ?_
  refine al_op (op_extract rfl rfl rfl) rfl (by simp) ?_
  refine al_op (op_assign rfl) rfl (by simp) ?_
  refine al_op (op_assign rfl) rfl (by simp) ?_
  refine al_nil ?_
  refine aw_seq ?_
  refine aw_seq ?_
  refine aw_region ?_
  refine al_op (op_move rfl) rfl (by simp) ?_
  first
    | refine al_op (op_len_map Try.underlying28 rfl) rfl (by simp) ?_
    | refine al_op (op_len_slice Try.underlying28 rfl rfl) rfl (by simp) ?_
    | refine al_op (op_len_list Try.underlying28 rfl) rfl (by simp) ?_
    | refine al_op (op_len_v Try.underlying28 rfl) rfl (by simp) ?_
    | refine al_op (op_len_nil Try.underlying28 rfl) rfl (by simp) ?_
  refine al_op (op_move rfl) rfl (by simp) ?_
  first
    | refine al_op (op_len_map Try.underlying28 rfl) rfl (by simp) ?_
    | refine al_op (op_len_slice Try.underlying28 rfl rfl) rfl (by simp) ?_
    | refine al_op (op_len_list Try.underlying28 rfl) rfl (by simp) ?_
    | refine al_op (op_len_v Try.underlying28 rfl) rfl (by simp) ?_
    | refine al_op (op_len_nil Try.underlying28 rfl) rfl (by simp) ?_
  refine al_op (op_neq rfl rfl) rfl (by simp) ?_
  refine al_op (op_move rfl) rfl (by simp) ?_
  apply al_or 4 48 52 rfl
  ·intro h5; have gh5 := h5
   try simp only [nrm] at h5
   refine al_take (op_move rfl) rfl rfl rfl rfl (by simp) ?_
   refine al_take (op_move rfl) rfl rfl rfl rfl (by simp) ?_
   refine al_take (op_neq rfl rfl) rfl rfl rfl rfl (by simp) ?_
   first
     | refine al_op (op_pick rfl rfl) rfl (by simp) ?_
     | refine al_op (op_or rfl rfl rfl) rfl (by simp) ?_
   refine al_nil ⟨rfl, rfl, rfl, keep_of ?_⟩
   repeat (first | exact subx_refl | exact subx_known rfl gh5 subx_refl | refine subx_put rfl ?_)
  ·intro h5; have gh5 := h5
   try simp only [nrm] at h5
   refine al_pass rfl rfl rfl rfl (by simp) ?_
   refine al_pass rfl rfl rfl rfl (by simp) ?_
   refine al_pass rfl rfl rfl rfl (by simp) ?_
   first
     | refine al_op (op_pick rfl rfl) rfl (by simp) ?_
     | refine al_op (op_or rfl rfl rfl) rfl (by simp) ?_
   refine al_nil ⟨rfl, rfl, rfl, keep_of ?_⟩
   repeat (first | exact subx_refl | exact subx_known rfl gh5 subx_refl | refine subx_put rfl ?_)
  refine al_nil ?_
  refine aw_cond rfl (fun h6 => ?_) (fun h6 => ?_)
  ·have gh6 := h6
   try simp only [nrm] at h6
   simp at gh6
  ·have gh6 := h6
   try simp only [nrm] at h6
   refine aw_skip ?_
   refine aw_seq ?_
   refine aw_seq ?_
   refine aw_region ?_
   refine al_op (op_move rfl) rfl (by simp) ?_
   first
     | refine al_op (op_len_map Try.underlying28 rfl) rfl (by simp) ?_
     | refine al_op (op_len_slice Try.underlying28 rfl rfl) rfl (by simp) ?_
     | refine al_op (op_len_list Try.underlying28 rfl) rfl (by simp) ?_
     | refine al_op (op_len_v Try.underlying28 rfl) rfl (by simp) ?_
     | refine al_op (op_len_nil Try.underlying28 rfl) rfl (by simp) ?_
   refine al_op (op_move rfl) rfl (by simp) ?_
   refine al_nil ?_
   refine aw_block ?_
   apply aw_only
   ·
    (first | apply sub_cons (t := 4) rfl | skip)
    (first | apply sub_cons (t := 5) rfl | skip)
    (first | apply sub_cons (t := 7) rfl | skip)
    (first | apply sub_cons (t := 54) rfl | skip)
    (first | apply sub_cons (t := 55) rfl | skip)
    exact sub_nil
   refine aw_forT (ι := Nat) [4, 55] [] (fun i => (n.many ins).1.length - i) (fun i => i ≤ (n.many ins).1.length) (fun i => ([(55, .v (.int .i64 (i)))] : Env)) (fun i s => s) (0) ?_ ?_ ?_ (fun i hinv => ?_)
   ·exact Nat.zero_le _
   ·refine sub_cons (get_as rfl ?_) ?_; rotate_left; exact sub_nil
    all_goals (first | rfl | simp)
   ·rfl
   refine aw_seq ?_
   skip
   refine aw_region ?_
   refine al_op (op_lss rfl rfl) rfl (by simp) ?_
   refine al_nil ?_
   refine aw_seq ?_
   refine aw_cond rfl (fun h7 => ?_) (fun h7 => ?_)
   ·have gh7 := h7
    try simp only [nrm] at h7
    refine aw_skip ?_
    refine aw_seq ?_
    refine aw_block ?_
    refine aw_seq ?_
    refine aw_region ?_
    refine al_op (op_move rfl) rfl (by simp) ?_
    refine al_op (op_assign rfl) rfl (by simp) ?_
    refine al_nil ?_
    refine aw_seq ?_
    refine aw_seq ?_
    refine aw_any (Checked.mixed Try.checked) ?_
    apply aany_seg (p := 0) (q := 11) (by kernel_rfl) rfl (by decide)
    ·
     apply ql_plain rfl (op_move rfl)
     apply ql_plain rfl (op_move rfl)
     first
       | apply ql_plain rfl (op_index_map default Try.underlying28 info34 rfl rfl rfl (by first | (with_reducible exact Int.toNat_natCast _) | rfl) (by omega) (by omega))
       | apply ql_plain rfl (op_index_slice Try.underlying28 info34 rfl rfl rfl rfl (by omega) (by omega))
       | apply ql_plain rfl (op_index_list Try.underlying28 info34 rfl rfl rfl (by decide) rfl)
     first
       | apply ql_plain rfl (op_load_rptr Try.underlying34 info34 rfl rfl)
       | apply ql_plain rfl (op_load_map Try.underlying34 info34 rfl rfl (by omega) rfl)
       | apply ql_plain rfl (op_load_ptr Try.underlying34 info34 rfl rfl rfl rfl)
     first
       | apply ql_plain rfl (op_len_map Try.underlying34 rfl)
       | apply ql_plain rfl (op_len_slice Try.underlying34 rfl rfl)
       | apply ql_plain rfl (op_len_list Try.underlying34 rfl)
       | apply ql_plain rfl (op_len_v Try.underlying34 rfl)
       | apply ql_plain rfl (op_len_nil Try.underlying34 rfl)
     apply ql_plain rfl (op_move rfl)
     apply ql_plain rfl (op_move rfl)
     first
       | apply ql_plain rfl (op_index_map default Try.underlying28 info34 rfl rfl rfl (by first | (with_reducible exact Int.toNat_natCast _) | rfl) (by omega) (by omega))
       | apply ql_plain rfl (op_index_slice Try.underlying28 info34 rfl rfl rfl rfl (by omega) (by omega))
       | apply ql_plain rfl (op_index_list Try.underlying28 info34 rfl rfl rfl (by decide) rfl)
     first
       | apply ql_plain rfl (op_load_rptr Try.underlying34 info34 rfl rfl)
       | apply ql_plain rfl (op_load_map Try.underlying34 info34 rfl rfl (by omega) rfl)
       | apply ql_plain rfl (op_load_ptr Try.underlying34 info34 rfl rfl rfl rfl)
     first
       | apply ql_plain rfl (op_len_map Try.underlying34 rfl)
       | apply ql_plain rfl (op_len_slice Try.underlying34 rfl rfl)
       | apply ql_plain rfl (op_len_list Try.underlying34 rfl)
       | apply ql_plain rfl (op_len_v Try.underlying34 rfl)
       | apply ql_plain rfl (op_len_nil Try.underlying34 rfl)
     apply ql_plain rfl (op_neq rfl rfl)
     exact ql_nil
    ·simp
    refine aany_end rfl (by kernel_rfl) ?_
    refine aw_cond rfl (fun h8 => ?_) (fun h8 => ?_)
    ·have gh8 := h8
     try simp only [nrm] at h8
     simp at gh8
    ·have gh8 := h8
     try simp only [nrm] at h8
     refine aw_skip ?_
     refine aw_seq ?_
     have hml := Net.many_row hn hi (i := i) (by omega)
     refine aw_region ?_
     refine al_op (op_move rfl) rfl (by simp) ?_
     refine al_op (op_move rfl) rfl (by simp) ?_
     first
       | refine al_op (op_index_map default Try.underlying28 info34 rfl rfl rfl (by first | (with_reducible exact Int.toNat_natCast _) | rfl) (by omega) (by omega)) rfl (by simp) ?_
       | refine al_op (op_index_slice Try.underlying28 info34 rfl rfl rfl rfl (by omega) (by omega)) rfl (by simp) ?_
       | refine al_op (op_index_list Try.underlying28 info34 rfl rfl rfl (by decide) rfl) rfl (by simp) ?_
     first
       | refine al_op (op_load_rptr Try.underlying34 info34 rfl rfl) rfl (by simp) ?_
       | refine al_op (op_load_map Try.underlying34 info34 rfl rfl (by omega) rfl) rfl (by simp) ?_
       | refine al_op (op_load_ptr Try.underlying34 info34 rfl rfl rfl rfl) rfl (by simp) ?_
     first
       | refine al_op (op_len_map Try.underlying34 rfl) rfl (by simp) ?_
       | refine al_op (op_len_slice Try.underlying34 rfl rfl) rfl (by simp) ?_
       | refine al_op (op_len_list Try.underlying34 rfl) rfl (by simp) ?_
       | refine al_op (op_len_v Try.underlying34 rfl) rfl (by simp) ?_
       | refine al_op (op_len_nil Try.underlying34 rfl) rfl (by simp) ?_
     refine al_op (op_move rfl) rfl (by simp) ?_
     refine al_nil ?_
     refine aw_block ?_
     refine aw_forT (ι := Nat) [4, 10, 74, 75, 76, 77, 78, 79, 80, 81, 82, 83, 84, 85, 86, 87, 88, 89, 90, 91, 92] [] (fun j => ((n.many ins).1.getD i default).length - j) (fun j => j ≤ ((n.many ins).1.getD i default).length) (fun j => ([(74, .v (.int .i64 (j)))] : Env)) (fun j s => s) (0) ?_ ?_ ?_ (fun j hinv => ?_)
     ·exact Nat.zero_le _
     ·refine sub_cons (get_as rfl ?_) ?_; rotate_left; exact sub_nil
      all_goals (first | rfl | simp)
     ·rfl
     refine aw_seq ?_
     refine aw_region ?_
     refine al_op (op_lss rfl rfl) rfl (by simp) ?_
     refine al_nil ?_
     refine aw_seq ?_
     refine aw_cond rfl (fun h9 => ?_) (fun h9 => ?_)
     ·have gh9 := h9
      try simp only [nrm] at h9
      refine aw_skip ?_
      refine aw_seq ?_
      refine aw_block ?_
      refine aw_seq ?_
      refine aw_region ?_
      refine al_op (op_move rfl) rfl (by simp) ?_
      refine al_op (op_assign rfl) rfl (by simp) ?_
      refine al_nil ?_
      refine aw_seq ?_
      refine aw_any (Checked.mixed Try.checked) ?_
      apply aany_seg (p := 0) (q := 15) (by kernel_rfl) rfl (by decide)
      ·
       apply ql_plain rfl (op_move rfl)
       apply ql_plain rfl (op_move rfl)
       first
         | apply ql_plain rfl (op_index_map default Try.underlying28 info34 rfl rfl rfl (by first | (with_reducible exact Int.toNat_natCast _) | rfl) (by omega) (by omega))
         | apply ql_plain rfl (op_index_slice Try.underlying28 info34 rfl rfl rfl rfl (by omega) (by omega))
         | apply ql_plain rfl (op_index_list Try.underlying28 info34 rfl rfl rfl (by decide) rfl)
       first
         | apply ql_plain rfl (op_load_rptr Try.underlying34 info34 rfl rfl)
         | apply ql_plain rfl (op_load_map Try.underlying34 info34 rfl rfl (by omega) rfl)
         | apply ql_plain rfl (op_load_ptr Try.underlying34 info34 rfl rfl rfl rfl)
       apply ql_plain rfl (op_move rfl)
       first
         | apply ql_plain rfl (op_index_map default Try.underlying34 info35 rfl rfl rfl (by first | (with_reducible exact Int.toNat_natCast _) | rfl) (by omega) (by omega))
         | apply ql_plain rfl (op_index_slice Try.underlying34 info35 rfl rfl rfl rfl (by omega) (by omega))
         | apply ql_plain rfl (op_index_list Try.underlying34 info35 rfl rfl rfl (by decide) rfl)
       first
         | apply ql_plain rfl (op_load_rptr Try.underlying35 info35 rfl rfl)
         | apply ql_plain rfl (op_load_map Try.underlying35 info35 rfl rfl (by omega) rfl)
         | apply ql_plain rfl (op_load_ptr Try.underlying35 info35 rfl rfl rfl rfl)
       apply ql_plain rfl (op_move rfl)
       apply ql_plain rfl (op_move rfl)
       first
         | apply ql_plain rfl (op_index_map default Try.underlying28 info34 rfl rfl rfl (by first | (with_reducible exact Int.toNat_natCast _) | rfl) (by omega) (by omega))
         | apply ql_plain rfl (op_index_slice Try.underlying28 info34 rfl rfl rfl rfl (by omega) (by omega))
         | apply ql_plain rfl (op_index_list Try.underlying28 info34 rfl rfl rfl (by decide) rfl)
       first
         | apply ql_plain rfl (op_load_rptr Try.underlying34 info34 rfl rfl)
         | apply ql_plain rfl (op_load_map Try.underlying34 info34 rfl rfl (by omega) rfl)
         | apply ql_plain rfl (op_load_ptr Try.underlying34 info34 rfl rfl rfl rfl)
       apply ql_plain rfl (op_move rfl)
       first
         | apply ql_plain rfl (op_index_map default Try.underlying34 info35 rfl rfl rfl (by first | (with_reducible exact Int.toNat_natCast _) | rfl) (by omega) (by omega))
         | apply ql_plain rfl (op_index_slice Try.underlying34 info35 rfl rfl rfl rfl (by omega) (by omega))
         | apply ql_plain rfl (op_index_list Try.underlying34 info35 rfl rfl rfl (by decide) rfl)
       first
         | apply ql_plain rfl (op_load_rptr Try.underlying35 info35 rfl rfl)
         | apply ql_plain rfl (op_load_map Try.underlying35 info35 rfl rfl (by omega) rfl)
         | apply ql_plain rfl (op_load_ptr Try.underlying35 info35 rfl rfl rfl rfl)
       apply ql_plain rfl (op_neq rfl rfl)
       exact ql_nil
      ·simp
      refine aany_end rfl (by kernel_rfl) ?_
      refine aw_cond rfl (fun h10 => ?_) (fun h10 => ?_)
      ·have gh10 := h10
       try simp only [nrm] at h10
       simp at gh10
      ·have gh10 := h10
       try simp only [nrm] at h10
       refine aw_skip ?_
       refine aw_region ?_
       refine al_op (op_add rfl rfl (by first | exact wrap_i64 (by omega) (by omega))) rfl (by simp) ?_
       refine al_op (op_move rfl) rfl (by simp) ?_
       refine al_nil ?_
       refine ⟨j + 1, ?_, ?_, ?_, ?_, ?_⟩
       ·omega
       ·omega
       ·refine sub_cons (get_as rfl ?_) ?_; rotate_left; exact sub_nil
        all_goals (first | rfl | simp)
       ·repeat (first | exact subx_refl | exact subx_del | refine subx_put rfl ?_)
       ·rfl
     ·have gh9 := h9
      try simp only [nrm] at h9
      refine aw_exit ?_
      skip
      refine aw_region ?_
      refine al_op (op_add rfl rfl (by first | exact wrap_i64 (by omega) (by omega))) rfl (by simp) ?_
      refine al_op (op_move rfl) rfl (by simp) ?_
      refine al_nil ?_
      refine ⟨i + 1, ?_, ?_, ?_, ?_, ?_⟩
      ·omega
      ·omega
      ·refine sub_cons (get_as rfl ?_) ?_; rotate_left; exact sub_nil
       all_goals (first | rfl | simp)
      ·repeat (first | exact subx_refl | exact subx_del | refine subx_put rfl ?_)
      ·rfl
   ·have gh7 := h7
    try simp only [nrm] at h7
    refine aw_exit ?_
    skip
    refine aw_seq ?_
    refine aw_region ?_
    first
      | refine al_callp into13 rfl rfl rfl ((l_awake4 ) _) (by simp) ?_
      | refine al_callp into13 rfl rfl rfl (acp_lent lend_nil (l_awake4 ) rfl) (by simp) ?_
    refine al_op (op_assign rfl) rfl (by simp) ?_
    refine al_nil ?_
    refine aw_freeze (fun _ => false) (fsub_cons (t := 4) rfl (.leaf _ _ (.same _)) fsub_nil) ?_
    refine aw_ret ?_
    refine ⟨_, res_1 rfl rfl, ?_, rfl⟩
    rfl
end Go.Proofs.Ytnnklpmgncbgnaa
