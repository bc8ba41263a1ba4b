/- Printed walks (gen.py, lexer_ann.py): part 320. -/
import Derived.Test.YtcgdlhkiecommaaGreatDoorW401
import Derived.Test.YtcgdlhkiecommaaGreatDoorLRTok
import Derived.Test.YtcgdlhkiecommaaGreatDoorLFlt
import Derived.Test.YtcgdlhkiecommaaGreatDoorFacts
set_option linter.unusedVariables false
set_option linter.unusedSimpArgs false
set_option maxRecDepth 20000
set_option maxHeartbeats 40000000
namespace Go.Proofs.YtcgdlhkiecommaaGreatDoor
open Go
theorem r_same (l : List Tk) (hb : l.length ≤ 1000000000) : ACp Tryz.prog 21 [.list 5 (l.map encK), .list 5 (l.map encK)] (.v (.bool (true))) := by
 refine acp_of rfl ?_
 refine ac_enter 45 Tryz.func21 rfl rfl (by simp) ?_
 refine aw_seq ?_
 refine aw_region ?_
 refine al_op (op_assign rfl) rfl (by simp) ?_
 refine al_nil ?_
 refine aw_seq ?_
 refine aw_seq ?_
 refine aw_region ?_
 refine al_op (op_move rfl) rfl (by simp) ?_
 refine al_op (op_len_map Tryz.underlying22 rfl) rfl (by simp) ?_
 refine al_op (op_move rfl) rfl (by simp) ?_
 refine al_nil ?_
 refine aw_block ?_
 refine aw_forT (ι := Nat) [4, 8] [] (fun i => l.length - i) (fun i => i ≤ l.length) (fun i => ([(8, .v (.int .i64 (i)))] : Env)) (fun i s => s) (0) ?_ ?_ ?_ (fun i hinv => ?_)
 ·exact Nat.zero_le _
 ·refine sub_cons (get_as rfl ?_) ?_; rotate_left; exact sub_nil
  all_goals (first | rfl | simp)
 ·rfl
 refine aw_seq ?_
 refine aw_region ?_
 refine al_op (op_lss rfl rfl) rfl (by simp) ?_
 refine al_nil ?_
 refine aw_seq ?_
 refine aw_cond rfl (fun h1 => ?_) (fun h1 => ?_)
 ·have gh1 := h1
  try simp only [nrm] at h1
  refine aw_skip ?_
  refine aw_seq ?_
  refine aw_block ?_
  refine aw_seq ?_
  refine aw_region ?_
  refine al_op (op_move rfl) rfl (by simp) ?_
  refine al_op (op_assign rfl) rfl (by simp) ?_
  refine al_nil ?_
  refine aw_seq ?_
  refine aw_any (Checked.mixed Tryz.checked) ?_
  apply aany_seg (p := 0) (q := 30) (by kernel_rfl) rfl (by decide)
  ·
   apply ql_plain rfl (op_move rfl)
   apply ql_plain rfl (op_move rfl)
   apply ql_plain rfl (op_len_map Tryz.underlying22 rfl)
   apply ql_plain rfl (op_lss rfl rfl)
   apply ql_plain rfl (val_as (.v (.bool true)) (op_move rfl) (by rw [decide_eq_true (by omega)]))
   apply ql_take rfl rfl rfl rfl (op_move rfl)
   apply ql_take rfl rfl rfl rfl (op_move rfl)
   apply ql_take rfl rfl rfl rfl (op_index_map default Tryz.underlying22 info65 rfl rfl rfl (by first | (with_reducible exact Int.toNat_natCast _) | rfl) (by omega) (by omega))
   apply ql_take rfl rfl rfl rfl (op_field_rptr Tryz.underlying65 rfl info3 (by decide) rfl rfl)
   apply ql_take rfl rfl rfl rfl (op_load_rptr Tryz.underlying3 info3 rfl rfl)
   apply ql_take rfl rfl rfl rfl (op_move rfl)
   apply ql_take rfl rfl rfl rfl (op_move rfl)
   apply ql_take rfl rfl rfl rfl (op_index_map default Tryz.underlying22 info65 rfl rfl rfl (by first | (with_reducible exact Int.toNat_natCast _) | rfl) (by omega) (by omega))
   apply ql_take rfl rfl rfl rfl (op_field_rptr Tryz.underlying65 rfl info3 (by decide) rfl rfl)
   apply ql_take rfl rfl rfl rfl (op_load_rptr Tryz.underlying3 info3 rfl rfl)
   apply ql_take rfl rfl rfl rfl (val_as (.v (.bool (false))) (op_neq rfl rfl) (by simp))
   apply ql_take rfl rfl rfl rfl (val_as (.v (.bool false)) (op_move rfl) (by rfl))
   apply ql_take rfl rfl rfl rfl (op_move rfl)
   apply ql_take rfl rfl rfl rfl (op_move rfl)
   apply ql_take rfl rfl rfl rfl (op_index_map default Tryz.underlying22 info65 rfl rfl rfl (by first | (with_reducible exact Int.toNat_natCast _) | rfl) (by omega) (by omega))
   apply ql_take rfl rfl rfl rfl (op_field_rptr Tryz.underlying65 rfl info3 (by decide) rfl rfl)
   apply ql_take rfl rfl rfl rfl (op_load_rptr Tryz.underlying3 info3 rfl rfl)
   apply ql_take rfl rfl rfl rfl (op_move rfl)
   apply ql_take rfl rfl rfl rfl (op_move rfl)
   apply ql_take rfl rfl rfl rfl (op_index_map default Tryz.underlying22 info65 rfl rfl rfl (by first | (with_reducible exact Int.toNat_natCast _) | rfl) (by omega) (by omega))
   apply ql_take rfl rfl rfl rfl (op_field_rptr Tryz.underlying65 rfl info3 (by decide) rfl rfl)
   apply ql_take rfl rfl rfl rfl (op_load_rptr Tryz.underlying3 info3 rfl rfl)
   apply ql_take rfl rfl rfl rfl (val_as (.v (.bool (false))) (op_neq rfl rfl) (by simp))
   apply ql_take rfl rfl rfl rfl (op_pick rfl rfl)
   apply ql_plain rfl (op_pick rfl rfl)
   exact ql_nil
  ·simp
  refine aany_end rfl (by kernel_rfl) ?_
  refine aw_cond rfl (fun h2 => ?_) (fun h2 => ?_)
  ·have gh2 := h2
   try simp only [nrm] at h2
   exact absurd gh2 (by simp)
  ·have gh2 := h2
   try simp only [nrm] at h2
   refine aw_skip ?_
   refine aw_region ?_
   refine al_op (op_add rfl rfl (by first | exact wrap_i64 (by omega) (by omega))) rfl (by simp) ?_
   refine al_op (op_move rfl) rfl (by simp) ?_
   refine al_nil ?_
   refine ⟨i + 1, ?_, ?_, ?_, ?_, ?_⟩
   ·omega
   ·first | trivial | omega
   ·refine sub_cons (get_as rfl ?_) ?_; rotate_left; exact sub_nil
    all_goals (first | rfl | simp)
   ·repeat (first | exact subx_refl | exact subx_del | refine subx_put rfl ?_)
   ·rfl
 ·have gh1 := h1
  try simp only [nrm] at h1
  refine aw_exit ?_
  refine aw_seq ?_
  refine aw_region ?_
  refine al_op (op_move rfl) rfl (by simp) ?_
  refine al_op (op_move rfl) rfl (by simp) ?_
  refine al_callp into49 rfl rfl rfl ((r_alike _ _ (by first | assumption | omega | (simp; done) | (simp; omega) | decide)) _) (by simp) ?_
  refine al_op (op_assign rfl) rfl (by simp) ?_
  refine al_nil ?_
  refine aw_freeze (fun _ => false) (fsub_cons (t := 4) rfl (.leaf _ _ (.same _)) fsub_nil) ?_
  refine aw_ret ?_
  refine ⟨_, res_1 rfl rfl, ?_, rfl⟩
  rw [alike_self]
theorem r_blank (c : UInt8) : ACp Tryz.prog 171 [.v (.int .u8 ((c).toNat : Int))] (.v (.bool (isBlankC c))) := by
 refine acp_of rfl ?_
 refine ac_enter 17 Tryz.func171 rfl rfl (by simp) ?_
 refine aw_seq ?_
 refine aw_region ?_
 refine al_op (op_assign rfl) rfl (by simp) ?_
 refine al_nil ?_
 refine aw_seq ?_
 refine aw_region ?_
 refine al_op (op_move rfl) rfl (by simp) ?_
 refine al_op (op_eql rfl rfl) rfl (by simp) ?_
 refine al_op (op_move rfl) rfl (by simp) ?_
 apply al_or 3 5 8 rfl
 ·intro h1; have gh1 := h1
  try simp only [nrm] at h1
  refine al_take (op_move rfl) rfl rfl rfl rfl (by simp) ?_
  refine al_take (op_eql rfl rfl) rfl rfl rfl rfl (by simp) ?_
  refine al_op (op_pick rfl rfl) rfl (by simp) ?_
  refine al_nil ⟨rfl, rfl, rfl, keep_of ?_⟩
  repeat (first | exact subx_refl | exact subx_known rfl gh1 subx_refl | refine subx_put rfl ?_)
 ·intro h1; have gh1 := h1
  try simp only [nrm] at h1
  refine al_pass rfl rfl rfl rfl (by simp) ?_
  refine al_pass rfl rfl rfl rfl (by simp) ?_
  refine al_op (op_pick rfl rfl) rfl (by simp) ?_
  refine al_nil ⟨rfl, rfl, rfl, keep_of ?_⟩
  repeat (first | exact subx_refl | exact subx_known rfl gh1 subx_refl | refine subx_put rfl ?_)
 refine al_op (op_move rfl) rfl (by simp) ?_
 apply al_or 3 9 12 rfl
 ·intro h2; have gh2 := h2
  try simp only [nrm] at h2
  refine al_take (op_move rfl) rfl rfl rfl rfl (by simp) ?_
  refine al_take (op_eql rfl rfl) rfl rfl rfl rfl (by simp) ?_
  refine al_op (op_pick rfl rfl) rfl (by simp) ?_
  refine al_nil ⟨rfl, rfl, rfl, keep_of ?_⟩
  repeat (first | exact subx_refl | exact subx_known rfl gh2 subx_refl | refine subx_put rfl ?_)
 ·intro h2; have gh2 := h2
  try simp only [nrm] at h2
  refine al_pass rfl rfl rfl rfl (by simp) ?_
  refine al_pass rfl rfl rfl rfl (by simp) ?_
  refine al_op (op_pick rfl rfl) rfl (by simp) ?_
  refine al_nil ⟨rfl, rfl, rfl, keep_of ?_⟩
  repeat (first | exact subx_refl | exact subx_known rfl gh2 subx_refl | refine subx_put rfl ?_)
 refine al_op (op_move rfl) rfl (by simp) ?_
 apply al_or 3 13 16 rfl
 ·intro h3; have gh3 := h3
  try simp only [nrm] at h3
  refine al_take (op_move rfl) rfl rfl rfl rfl (by simp) ?_
  refine al_take (op_eql rfl rfl) rfl rfl rfl rfl (by simp) ?_
  refine al_op (op_pick rfl rfl) rfl (by simp) ?_
  refine al_nil ⟨rfl, rfl, rfl, keep_of ?_⟩
  repeat (first | exact subx_refl | exact subx_known rfl gh3 subx_refl | refine subx_put rfl ?_)
 ·intro h3; have gh3 := h3
  try simp only [nrm] at h3
  refine al_pass rfl rfl rfl rfl (by simp) ?_
  refine al_pass rfl rfl rfl rfl (by simp) ?_
  refine al_op (op_pick rfl rfl) rfl (by simp) ?_
  refine al_nil ⟨rfl, rfl, rfl, keep_of ?_⟩
  repeat (first | exact subx_refl | exact subx_known rfl gh3 subx_refl | refine subx_put rfl ?_)
 refine al_op (op_assign rfl) rfl (by simp) ?_
 refine al_nil ?_
 refine aw_freeze (fun _ => false) (fsub_cons (t := 2) rfl (.leaf _ _ (.same _)) fsub_nil) ?_
 refine aw_ret ?_
 refine ⟨_, res_1 rfl rfl, ?_, rfl⟩
 rw [isBlankC_int]
theorem r_num (s : Bs) (hs : s.length ≤ 1000000000) (hd : s.all isDigitC = true) : ACp Tryz.prog 174 [.v (.string (str (s)))] (.v (.int .i64 (numR s))) := by
 refine acp_of rfl ?_
 refine ac_enter 22 Tryz.func174 rfl rfl (by simp) ?_
 refine aw_seq ?_
 refine aw_region ?_
 refine al_op (op_assign rfl) rfl (by simp) ?_
 refine al_nil ?_
 refine aw_seq ?_
 refine aw_region ?_
 refine al_op (op_assign rfl) rfl (by simp) ?_
 refine al_nil ?_
 refine aw_seq ?_
 refine aw_seq ?_
 refine aw_region ?_
 refine al_op (op_move rfl) rfl (by simp) ?_
 refine al_op (op_slen_str (ts := #[]) Tryz.underlying9 rfl) rfl (by simp) ?_
 refine al_op (op_move rfl) rfl (by simp) ?_
 refine al_nil ?_
 refine aw_block ?_
 refine aw_forT (ι := Nat) [2, 3, 7] [] (fun i => s.length - i) (fun i => i ≤ s.length ∧ decV (s.take i) ≤ 2147483647) (fun i => ([(3, .v (.int .i64 ((decV (s.take i) : Nat) : Int))), (7, .v (.int .i64 (i)))] : Env)) (fun i s => s) (0) ?_ ?_ ?_ (fun i hinv => ?_)
 ·exact ⟨Nat.zero_le _, by simp [decV]⟩
 ·refine sub_cons (get_as rfl ?_) ?_; rotate_left; refine sub_cons (get_as rfl ?_) ?_; rotate_left; exact sub_nil
  all_goals (first | rfl | (rw [decI_take (by omega) hdi.1] <;> rfl) | simp)
 ·rfl
 have hi := hinv.1
 refine aw_seq ?_
 refine aw_region ?_
 refine al_op (op_lss rfl rfl) rfl (by simp) ?_
 refine al_nil ?_
 refine aw_seq ?_
 refine aw_cond rfl (fun h1 => ?_) (fun h1 => ?_)
 ·have gh1 := h1
  try simp only [nrm] at h1
  refine aw_skip ?_
  refine aw_seq ?_
  refine aw_block ?_
  refine aw_seq ?_
  refine aw_region ?_
  refine al_op (op_move rfl) rfl (by simp) ?_
  refine al_op (op_assign rfl) rfl (by simp) ?_
  refine al_nil ?_
  refine aw_seq ?_
  have hdi := digit_at hd (i := i) (by omega)
  refine aw_region ?_
  refine al_op (op_move rfl) rfl (by simp) ?_
  refine al_op (op_mul rfl rfl (by first | exact wrap_i64 (by omega) (by omega))) rfl (by simp) ?_
  refine al_op (op_move rfl) rfl (by simp) ?_
  refine al_op (op_move rfl) rfl (by simp) ?_
  refine al_op (op_sidx_str Tryz.underlying9 rfl rfl (by first | (with_reducible exact Int.toNat_natCast _) | rfl) (by omega) (by first | omega | (simp; omega))) rfl (by simp) ?_
  refine al_op (op_sub rfl rfl (by first | exact wrap_u8 (by omega) (by omega))) rfl (by simp) ?_
  refine al_op (op_conv Tryz.underlying5 Tryz.underlying3 rfl (wrap_i64 (by omega) (by omega))) rfl (by simp) ?_
  refine al_op (op_add rfl rfl (by first | exact wrap_i64 (by omega) (by omega))) rfl (by simp) ?_
  refine al_op (op_assign rfl) rfl (by simp) ?_
  refine al_nil ?_
  refine aw_seq ?_
  refine aw_region ?_
  refine al_op (op_move rfl) rfl (by simp) ?_
  refine al_op (op_gtr rfl rfl) rfl (by simp) ?_
  refine al_nil ?_
  refine aw_cond rfl (fun h2 => ?_) (fun h2 => ?_)
  ·have gh2 := h2
   try simp only [nrm] at h2
   refine aw_seq ?_
   refine aw_region ?_
   refine al_op (op_assign rfl) rfl (by simp) ?_
   refine al_nil ?_
   refine aw_freeze (fun _ => false) (fsub_cons (t := 2) rfl (.leaf _ _ (.same _)) fsub_nil) ?_
   refine aw_ret ?_
   refine ⟨_, res_1 rfl rfl, ?_, rfl⟩
   rw [num_big (i := i) (by omega) hd gh2]
  ·have gh2 := h2
   try simp only [nrm] at h2
   refine aw_skip ?_
   refine aw_region ?_
   refine al_op (op_add rfl rfl (by first | exact wrap_i64 (by omega) (by omega))) rfl (by simp) ?_
   refine al_op (op_move rfl) rfl (by simp) ?_
   refine al_nil ?_
   refine ⟨i + 1, ?_, ?_, ?_, ?_, ?_⟩
   ·omega
   ·exact ⟨by omega, by have h9 := of_decide_eq_false gh2; rw [decI_take (by omega) hdi.1] at h9; omega⟩
   ·refine sub_cons (get_as rfl ?_) ?_; rotate_left; refine sub_cons (get_as rfl ?_) ?_; rotate_left; exact sub_nil
    all_goals (first | rfl | (rw [decI_take (by omega) hdi.1] <;> rfl) | simp)
   ·repeat (first | exact subx_refl | exact subx_del | refine subx_put rfl ?_)
   ·rfl
 ·have gh1 := h1
  try simp only [nrm] at h1
  refine aw_exit ?_
  obtain rfl : i = s.length := by omega
  refine aw_seq ?_
  refine aw_region ?_
  refine al_op (op_move rfl) rfl (by simp) ?_
  refine al_op (op_assign rfl) rfl (by simp) ?_
  refine al_nil ?_
  refine aw_freeze (fun _ => false) (fsub_cons (t := 2) rfl (.leaf _ _ (.same _)) fsub_nil) ?_
  refine aw_ret ?_
  refine ⟨_, res_1 rfl rfl, ?_, rfl⟩
  rw [num_fits hinv.2]
theorem r_quo (s : Bs) (hs : s.length ≤ 1000000000) (j : Nat) (hj : j ≤ 2000000000) (k lo hi : Int) : ACp Tryz.prog 172 [.v (.string (str (s))), .v (.int .i64 ((j : Nat) : Int)), .v (.int .i64 (k)), .v (.int .i64 (lo)), .v (.int .i64 (hi))] (.v (.int .i64 (quoI s j k lo hi))) := by
 refine acp_of rfl ?_
 refine ac_enter 54 Tryz.func172 rfl rfl (by simp) ?_
 refine aw_seq ?_
 refine aw_region ?_
 refine al_op (op_assign rfl) rfl (by simp) ?_
 refine al_nil ?_
 refine aw_seq ?_
 refine aw_seq ?_
 refine aw_region ?_
 refine al_op (op_move rfl) rfl (by simp) ?_
 refine al_op (op_move rfl) rfl (by simp) ?_
 refine al_op (op_slen_str (ts := #[]) Tryz.underlying9 rfl) rfl (by simp) ?_
 refine al_op (op_geq rfl rfl) rfl (by simp) ?_
 refine al_op (op_move rfl) rfl (by simp) ?_
 apply al_or 5 16 21 rfl
 ·intro h1; have gh1 := h1
  try simp only [nrm] at h1
  refine al_take (op_move rfl) rfl rfl rfl rfl (by simp) ?_
  refine al_take (op_move rfl) rfl rfl rfl rfl (by simp) ?_
  refine al_take (op_sidx_str Tryz.underlying9 rfl rfl (by first | (with_reducible exact Int.toNat_natCast _) | rfl) (by omega) (by first | omega | (simp; omega))) rfl rfl rfl rfl (by simp) ?_
  refine al_take (op_neq rfl rfl) rfl rfl rfl rfl (by simp) ?_
  refine al_op (op_pick rfl rfl) rfl (by simp) ?_
  refine al_nil ⟨rfl, rfl, rfl, keep_of ?_⟩
  repeat (first | exact subx_refl | exact subx_known rfl gh1 subx_refl | refine subx_put rfl ?_)
 ·intro h1; have gh1 := h1
  try simp only [nrm] at h1
  refine al_pass rfl rfl rfl rfl (by simp) ?_
  refine al_pass rfl rfl rfl rfl (by simp) ?_
  refine al_pass rfl rfl rfl rfl (by simp) ?_
  refine al_pass rfl rfl rfl rfl (by simp) ?_
  refine al_op (op_pick rfl rfl) rfl (by simp) ?_
  refine al_nil ⟨rfl, rfl, rfl, keep_of ?_⟩
  repeat (first | exact subx_refl | exact subx_known rfl gh1 subx_refl | refine subx_put rfl ?_)
 refine al_nil ?_
 refine aw_cond rfl (fun h2 => ?_) (fun h2 => ?_)
 ·have gh2 := h2
  try simp only [nrm] at h2
  refine aw_seq ?_
  refine aw_region ?_
  refine al_op (op_assign rfl) rfl (by simp) ?_
  refine al_nil ?_
  refine aw_freeze (fun _ => false) (fsub_cons (t := 10) rfl (.leaf _ _ (.same _)) fsub_nil) ?_
  refine aw_ret ?_
  refine ⟨_, res_1 rfl rfl, ?_, rfl⟩
  rw [quoI, gh2]; rfl
 ·have gh2 := h2
  try simp only [nrm] at h2
  refine aw_skip ?_
  refine aw_seq ?_
  refine aw_region ?_
  refine al_op (op_move rfl) rfl (by simp) ?_
  refine al_op (op_move rfl) rfl (by simp) ?_
  refine al_op (op_add rfl rfl (by first | exact wrap_i64 (by omega) (by omega))) rfl (by simp) ?_
  refine al_op (op_move rfl) rfl (by simp) ?_
  refine al_callp into122 rfl rfl rfl (r_run3 s hs (j + 1) (by omega) k _) (by simp) ?_
  refine al_op (op_assign rfl) rfl (by simp) ?_
  refine al_nil ?_
  refine aw_seq ?_
  refine aw_seq ?_
  have hrl := takeWhile_len (fun x => ofK x k) (s.drop (j + 1))
  rw [List.length_drop] at hrl
  refine aw_region ?_
  refine al_op (op_move rfl) rfl (by simp) ?_
  refine al_op (op_move rfl) rfl (by simp) ?_
  refine al_op (op_lss rfl rfl) rfl (by simp) ?_
  refine al_op (op_move rfl) rfl (by simp) ?_
  apply al_or 4 30 34 rfl
  ·intro h3; have gh3 := h3
   try simp only [nrm] at h3
   refine al_take (op_move rfl) rfl rfl rfl rfl (by simp) ?_
   refine al_take (op_move rfl) rfl rfl rfl rfl (by simp) ?_
   refine al_take (op_gtr rfl rfl) rfl rfl rfl rfl (by simp) ?_
   refine al_op (op_pick rfl rfl) rfl (by simp) ?_
   refine al_nil ⟨rfl, rfl, rfl, keep_of ?_⟩
   repeat (first | exact subx_refl | exact subx_known rfl gh3 subx_refl | refine subx_put rfl ?_)
  ·intro h3; have gh3 := h3
   try simp only [nrm] at h3
   refine al_pass rfl rfl rfl rfl (by simp) ?_
   refine al_pass rfl rfl rfl rfl (by simp) ?_
   refine al_pass rfl rfl rfl rfl (by simp) ?_
   refine al_op (op_pick rfl rfl) rfl (by simp) ?_
   refine al_nil ⟨rfl, rfl, rfl, keep_of ?_⟩
   repeat (first | exact subx_refl | exact subx_known rfl gh3 subx_refl | refine subx_put rfl ?_)
  refine al_op (op_move rfl) rfl (by simp) ?_
  apply al_or 8 35 43 rfl
  ·intro h4; have gh4 := h4
   try simp only [nrm] at h4
   refine al_take (op_move rfl) rfl rfl rfl rfl (by simp) ?_
   refine al_take (op_add rfl rfl (by first | exact wrap_i64 (by omega) (by omega))) rfl rfl rfl rfl (by simp) ?_
   refine al_take (op_move rfl) rfl rfl rfl rfl (by simp) ?_
   refine al_take (op_add rfl rfl (by first | exact wrap_i64 (by omega) (by omega))) rfl rfl rfl rfl (by simp) ?_
   refine al_take (op_move rfl) rfl rfl rfl rfl (by simp) ?_
   refine al_take (op_slen_str (ts := #[]) Tryz.underlying9 rfl) rfl rfl rfl rfl (by simp) ?_
   refine al_take (op_geq rfl rfl) rfl rfl rfl rfl (by simp) ?_
   refine al_op (op_pick rfl rfl) rfl (by simp) ?_
   refine al_nil ⟨rfl, rfl, rfl, keep_of ?_⟩
   repeat (first | exact subx_refl | exact subx_known rfl gh4 subx_refl | refine subx_put rfl ?_)
  ·intro h4; have gh4 := h4
   try simp only [nrm] at h4
   refine al_pass rfl rfl rfl rfl (by simp) ?_
   refine al_pass rfl rfl rfl rfl (by simp) ?_
   refine al_pass rfl rfl rfl rfl (by simp) ?_
   refine al_pass rfl rfl rfl rfl (by simp) ?_
   refine al_pass rfl rfl rfl rfl (by simp) ?_
   refine al_pass rfl rfl rfl rfl (by simp) ?_
   refine al_pass rfl rfl rfl rfl (by simp) ?_
   refine al_op (op_pick rfl rfl) rfl (by simp) ?_
   refine al_nil ⟨rfl, rfl, rfl, keep_of ?_⟩
   repeat (first | exact subx_refl | exact subx_known rfl gh4 subx_refl | refine subx_put rfl ?_)
  refine al_op (op_move rfl) rfl (by simp) ?_
  apply al_or 8 44 52 rfl
  ·intro h5; have gh5 := h5
   try simp only [nrm] at h5
   refine al_take (op_move rfl) rfl rfl rfl rfl (by simp) ?_
   refine al_take (op_move rfl) rfl rfl rfl rfl (by simp) ?_
   refine al_take (op_add rfl rfl (by first | exact wrap_i64 (by omega) (by omega))) rfl rfl rfl rfl (by simp) ?_
   refine al_take (op_move rfl) rfl rfl rfl rfl (by simp) ?_
   refine al_take (op_add rfl rfl (by first | exact wrap_i64 (by omega) (by omega))) rfl rfl rfl rfl (by simp) ?_
   refine al_take (op_sidx_str Tryz.underlying9 rfl rfl (by first | (with_reducible exact Int.toNat_natCast _) | rfl) (by omega) (by first | omega | (simp; omega))) rfl rfl rfl rfl (by simp) ?_
   refine al_take (op_neq rfl rfl) rfl rfl rfl rfl (by simp) ?_
   refine al_op (op_pick rfl rfl) rfl (by simp) ?_
   refine al_nil ⟨rfl, rfl, rfl, keep_of ?_⟩
   repeat (first | exact subx_refl | exact subx_known rfl gh5 subx_refl | refine subx_put rfl ?_)
  ·intro h5; have gh5 := h5
   try simp only [nrm] at h5
   refine al_pass rfl rfl rfl rfl (by simp) ?_
   refine al_pass rfl rfl rfl rfl (by simp) ?_
   refine al_pass rfl rfl rfl rfl (by simp) ?_
   refine al_pass rfl rfl rfl rfl (by simp) ?_
   refine al_pass rfl rfl rfl rfl (by simp) ?_
   refine al_pass rfl rfl rfl rfl (by simp) ?_
   refine al_pass rfl rfl rfl rfl (by simp) ?_
   refine al_op (op_pick rfl rfl) rfl (by simp) ?_
   refine al_nil ⟨rfl, rfl, rfl, keep_of ?_⟩
   repeat (first | exact subx_refl | exact subx_known rfl gh5 subx_refl | refine subx_put rfl ?_)
  refine al_nil ?_
  refine aw_cond rfl (fun h6 => ?_) (fun h6 => ?_)
  ·have gh6 := h6
   try simp only [nrm] at h6
   refine aw_seq ?_
   refine aw_region ?_
   refine al_op (op_assign rfl) rfl (by simp) ?_
   refine al_nil ?_
   refine aw_freeze (fun _ => false) (fsub_cons (t := 10) rfl (.leaf _ _ (.same _)) fsub_nil) ?_
   refine aw_ret ?_
   refine ⟨_, res_1 rfl rfl, ?_, rfl⟩
   rw [quoI, gh2, cond_false]; unfold quoN; rw [gh6]; rfl
  ·have gh6 := h6
   try simp only [nrm] at h6
   refine aw_skip ?_
   refine aw_seq ?_
   refine aw_region ?_
   refine al_op (op_move rfl) rfl (by simp) ?_
   refine al_op (op_assign rfl) rfl (by simp) ?_
   refine al_nil ?_
   refine aw_freeze (fun _ => false) (fsub_cons (t := 10) rfl (.leaf _ _ (.same _)) fsub_nil) ?_
   refine aw_ret ?_
   refine ⟨_, res_1 rfl rfl, ?_, rfl⟩
   rw [quoI, gh2, cond_false]; unfold quoN; rw [gh6]; rfl
theorem r_place (s : Bs) (hs : s.length ≤ 1000000000) (i : Nat) (hi : i ≤ s.length) : ACp Tryz.prog 129 [.v (.string (str (s))), .v (.int .i64 ((i : Nat) : Int))] (.tuple [.v (.int .i64 ((place s i).1)), .v (.int .i64 ((place s i).2))]) := by
 refine acp_of rfl ?_
 refine ac_enter 24 Tryz.func129 rfl rfl (by simp) ?_
 refine aw_seq ?_
 refine aw_region ?_
 refine al_op (op_assign rfl) rfl (by simp) ?_
 refine al_op (op_assign rfl) rfl (by simp) ?_
 refine al_nil ?_
 refine aw_seq ?_
 refine aw_region ?_
 refine al_op (op_assign rfl) rfl (by simp) ?_
 refine al_op (op_assign rfl) rfl (by simp) ?_
 refine al_nil ?_
 refine aw_seq ?_
 refine aw_seq ?_
 refine aw_region ?_
 refine al_op (op_move rfl) rfl (by simp) ?_
 refine al_op (op_move rfl) rfl (by simp) ?_
 refine al_nil ?_
 refine aw_block ?_
 refine aw_forT (ι := Nat) [6, 7, 10] [] (fun j => i - j) (fun j => j ≤ i) (fun j => ([(6, .v (.int .i64 ((place s j).1))), (7, .v (.int .i64 ((place s j).2))), (10, .v (.int .i64 (j)))] : Env)) (fun j s => s) (0) ?_ ?_ ?_ (fun j hinv => ?_)
 ·exact Nat.zero_le _
 ·refine sub_cons (get_as rfl ?_) ?_; rotate_left; refine sub_cons (get_as rfl ?_) ?_; rotate_left; refine sub_cons (get_as rfl ?_) ?_; rotate_left; exact sub_nil
  all_goals (first | rfl | (rw [pl_line (by omega) gh2]) | (rw [pl_col (by omega) gh2]) | simp)
 ·rfl
 have hpl := place_ge s j
 refine aw_seq ?_
 refine aw_region ?_
 refine al_op (op_lss rfl rfl) rfl (by simp) ?_
 refine al_nil ?_
 refine aw_seq ?_
 refine aw_cond rfl (fun h1 => ?_) (fun h1 => ?_)
 ·have gh1 := h1
  try simp only [nrm] at h1
  refine aw_skip ?_
  refine aw_seq ?_
  refine aw_block ?_
  refine aw_seq ?_
  refine aw_region ?_
  refine al_op (op_move rfl) rfl (by simp) ?_
  refine al_op (op_assign rfl) rfl (by simp) ?_
  refine al_nil ?_
  refine aw_seq ?_
  refine aw_region ?_
  refine al_op (op_move rfl) rfl (by simp) ?_
  refine al_op (op_move rfl) rfl (by simp) ?_
  refine al_op (op_sidx_str Tryz.underlying9 rfl rfl (by first | (with_reducible exact Int.toNat_natCast _) | rfl) (by omega) (by first | omega | (simp; omega))) rfl (by simp) ?_
  refine al_op (op_eql rfl rfl) rfl (by simp) ?_
  refine al_nil ?_
  refine aw_cond rfl (fun h2 => ?_) (fun h2 => ?_)
  ·have gh2 := h2
   try simp only [nrm] at h2
   refine aw_region ?_
   refine al_op (op_move rfl) rfl (by simp) ?_
   refine al_op (op_add rfl rfl (by first | exact wrap_i64 (by omega) (by omega))) rfl (by simp) ?_
   refine al_op (op_assign rfl) rfl (by simp) ?_
   refine al_op (op_assign rfl) rfl (by simp) ?_
   refine al_nil ?_
   refine aw_region ?_
   refine al_op (op_add rfl rfl (by first | exact wrap_i64 (by omega) (by omega))) rfl (by simp) ?_
   refine al_op (op_move rfl) rfl (by simp) ?_
   refine al_nil ?_
   refine ⟨j + 1, ?_, ?_, ?_, ?_, ?_⟩
   ·omega
   ·first | trivial | omega
   ·refine sub_cons (get_as rfl ?_) ?_; rotate_left; refine sub_cons (get_as rfl ?_) ?_; rotate_left; refine sub_cons (get_as rfl ?_) ?_; rotate_left; exact sub_nil
    all_goals (first | rfl | (rw [pl_line (by omega) gh2]) | (rw [pl_col (by omega) gh2]) | simp)
   ·repeat (first | exact subx_refl | exact subx_del | refine subx_put rfl ?_)
   ·rfl
  ·have gh2 := h2
   try simp only [nrm] at h2
   refine aw_region ?_
   refine al_op (op_move rfl) rfl (by simp) ?_
   refine al_op (op_add rfl rfl (by first | exact wrap_i64 (by omega) (by omega))) rfl (by simp) ?_
   refine al_op (op_assign rfl) rfl (by simp) ?_
   refine al_nil ?_
   refine aw_region ?_
   refine al_op (op_add rfl rfl (by first | exact wrap_i64 (by omega) (by omega))) rfl (by simp) ?_
   refine al_op (op_move rfl) rfl (by simp) ?_
   refine al_nil ?_
   refine ⟨j + 1, ?_, ?_, ?_, ?_, ?_⟩
   ·omega
   ·first | trivial | omega
   ·refine sub_cons (get_as rfl ?_) ?_; rotate_left; refine sub_cons (get_as rfl ?_) ?_; rotate_left; refine sub_cons (get_as rfl ?_) ?_; rotate_left; exact sub_nil
    all_goals (first | rfl | (rw [pl_line (by omega) gh2]) | (rw [pl_col (by omega) gh2]) | simp)
   ·repeat (first | exact subx_refl | exact subx_del | refine subx_put rfl ?_)
   ·rfl
 ·have gh1 := h1
  try simp only [nrm] at h1
  refine aw_exit ?_
  obtain rfl : j = i := by omega
  refine aw_seq ?_
  refine aw_region ?_
  refine al_op (op_move rfl) rfl (by simp) ?_
  refine al_op (op_move rfl) rfl (by simp) ?_
  refine al_op (op_assign rfl) rfl (by simp) ?_
  refine al_op (op_assign rfl) rfl (by simp) ?_
  refine al_nil ?_
  refine aw_freeze (fun _ => false) (fsub_cons (t := 4) rfl (.leaf _ _ (.same _)) (fsub_cons (t := 5) rfl (.leaf _ _ (.same _)) fsub_nil)) ?_
  refine aw_ret ?_
  refine ⟨_, res_2 rfl rfl rfl rfl rfl, ?_, rfl⟩
  rfl
theorem r_next (s : Bs) (hs : s.length ≤ 1000000000) (i : Nat) (hi : i ≤ s.length) : ACp Tryz.prog 127 [.v (.string (str (s))), .v (.int .i64 ((i : Nat) : Int))] (.v (.int .i64 ((nextAt s i : Nat) : Int))) := by
 refine acp_of rfl ?_
 refine ac_enter 42 Tryz.func127 rfl rfl (by simp) ?_
 refine aw_seq ?_
 refine aw_region ?_
 refine al_op (op_assign rfl) rfl (by simp) ?_
 refine al_nil ?_
 refine aw_seq ?_
 refine aw_block ?_
 refine aw_forT (ι := Nat) [1, 4] [] (fun j => s.length - j) (fun j => (i ≤ j ∧ j ≤ s.length) ∧ nextAt s j = nextAt s i) (fun j => ([(1, .v (.int .i64 (j)))] : Env)) (fun j s => s) (i) ?_ ?_ ?_ (fun j hinv => ?_)
 ·exact ⟨⟨Nat.le_refl _, hi⟩, rfl⟩
 ·refine sub_cons (get_as rfl ?_) ?_; rotate_left; exact sub_nil
  all_goals (first | rfl | (rw [run_line] <;> rfl) | simp)
 ·rfl
 obtain ⟨⟨hj1, hj2⟩, hj3⟩ := hinv
 refine aw_seq ?_
 refine aw_seq ?_
 refine aw_region ?_
 refine al_op (op_move rfl) rfl (by simp) ?_
 refine al_op (op_move rfl) rfl (by simp) ?_
 refine al_op (op_slen_str (ts := #[]) Tryz.underlying9 rfl) rfl (by simp) ?_
 refine al_op (op_lss rfl rfl) rfl (by simp) ?_
 refine al_nil ?_
 refine aw_cond rfl (fun h1 => ?_) (fun h1 => ?_)
 ·have gh1 := h1
  try simp only [nrm] at h1
  refine aw_skip ?_
  refine aw_block ?_
  refine aw_block ?_
  refine aw_seq ?_
  refine aw_region ?_
  refine al_op (op_move rfl) rfl (by simp) ?_
  refine al_op (op_move rfl) rfl (by simp) ?_
  refine al_op (op_sidx_str Tryz.underlying9 rfl rfl (by first | (with_reducible exact Int.toNat_natCast _) | rfl) (by omega) (by first | omega | (simp; omega))) rfl (by simp) ?_
  refine al_callp into171 rfl rfl rfl ((r_blank _) _) (by simp) ?_
  refine al_op (op_assign rfl) rfl (by simp) ?_
  refine al_nil ?_
  refine aw_cond rfl (fun h2 => ?_) (fun h2 => ?_)
  ·have gh2 := h2
   try simp only [nrm] at h2
   refine aw_region ?_
   refine al_op (op_move rfl) rfl (by simp) ?_
   refine al_op (op_add rfl rfl (by first | exact wrap_i64 (by omega) (by omega))) rfl (by simp) ?_
   refine al_op (op_assign rfl) rfl (by simp) ?_
   refine al_nil ?_
   refine ⟨j + 1, ?_, ?_, ?_, ?_, ?_⟩
   ·omega
   ·first | exact ⟨⟨by omega, by omega⟩, (next_blank s j (by omega) gh2).trans hj3⟩ | exact ⟨⟨by omega, by omega⟩, hnc.trans hj3⟩
   ·refine sub_cons (get_as rfl ?_) ?_; rotate_left; exact sub_nil
    all_goals (first | rfl | (rw [run_line] <;> rfl) | simp)
   ·repeat (first | exact subx_refl | exact subx_del | refine subx_put rfl ?_)
   ·rfl
  ·have gh2 := h2
   try simp only [nrm] at h2
   refine aw_seq ?_
   refine aw_region ?_
   refine al_op (op_move rfl) rfl (by simp) ?_
   refine al_op (op_move rfl) rfl (by simp) ?_
   refine al_op (op_sidx_str Tryz.underlying9 rfl rfl (by first | (with_reducible exact Int.toNat_natCast _) | rfl) (by omega) (by first | omega | (simp; omega))) rfl (by simp) ?_
   refine al_op (op_eql rfl rfl) rfl (by simp) ?_
   refine al_op (op_move rfl) rfl (by simp) ?_
   apply al_and 6 22 28 rfl
   ·intro h3; have gh3 := h3
    try simp only [nrm] at h3
    refine al_take (op_move rfl) rfl rfl rfl rfl (by simp) ?_
    refine al_take (op_add rfl rfl (by first | exact wrap_i64 (by omega) (by omega))) rfl rfl rfl rfl (by simp) ?_
    refine al_take (op_move rfl) rfl rfl rfl rfl (by simp) ?_
    refine al_take (op_slen_str (ts := #[]) Tryz.underlying9 rfl) rfl rfl rfl rfl (by simp) ?_
    refine al_take (op_lss rfl rfl) rfl rfl rfl rfl (by simp) ?_
    refine al_op (op_pick rfl rfl) rfl (by simp) ?_
    refine al_nil ⟨rfl, rfl, rfl, keep_of ?_⟩
    repeat (first | exact subx_refl | exact subx_known rfl gh3 subx_refl | refine subx_put rfl ?_)
   ·intro h3; have gh3 := h3
    try simp only [nrm] at h3
    refine al_pass rfl rfl rfl rfl (by simp) ?_
    refine al_pass rfl rfl rfl rfl (by simp) ?_
    refine al_pass rfl rfl rfl rfl (by simp) ?_
    refine al_pass rfl rfl rfl rfl (by simp) ?_
    refine al_pass rfl rfl rfl rfl (by simp) ?_
    refine al_op (op_pick rfl rfl) rfl (by simp) ?_
    refine al_nil ⟨rfl, rfl, rfl, keep_of ?_⟩
    repeat (first | exact subx_refl | exact subx_known rfl gh3 subx_refl | refine subx_put rfl ?_)
   refine al_op (op_move rfl) rfl (by simp) ?_
   apply al_and 6 29 35 rfl
   ·intro h4; have gh4 := h4
    try simp only [nrm] at h4
    refine al_take (op_move rfl) rfl rfl rfl rfl (by simp) ?_
    refine al_take (op_move rfl) rfl rfl rfl rfl (by simp) ?_
    refine al_take (op_add rfl rfl (by first | exact wrap_i64 (by omega) (by omega))) rfl rfl rfl rfl (by simp) ?_
    refine al_take (op_sidx_str Tryz.underlying9 rfl rfl (by first | (with_reducible exact Int.toNat_natCast _) | rfl) (by omega) (by first | omega | (simp; omega))) rfl rfl rfl rfl (by simp) ?_
    refine al_take (op_eql rfl rfl) rfl rfl rfl rfl (by simp) ?_
    refine al_op (op_pick rfl rfl) rfl (by simp) ?_
    refine al_nil ⟨rfl, rfl, rfl, keep_of ?_⟩
    repeat (first | exact subx_refl | exact subx_known rfl gh4 subx_refl | refine subx_put rfl ?_)
   ·intro h4; have gh4 := h4
    try simp only [nrm] at h4
    refine al_pass rfl rfl rfl rfl (by simp) ?_
    refine al_pass rfl rfl rfl rfl (by simp) ?_
    refine al_pass rfl rfl rfl rfl (by simp) ?_
    refine al_pass rfl rfl rfl rfl (by simp) ?_
    refine al_pass rfl rfl rfl rfl (by simp) ?_
    refine al_op (op_pick rfl rfl) rfl (by simp) ?_
    refine al_nil ⟨rfl, rfl, rfl, keep_of ?_⟩
    repeat (first | exact subx_refl | exact subx_known rfl gh4 subx_refl | refine subx_put rfl ?_)
   refine al_op (op_assign rfl) rfl (by simp) ?_
   refine al_nil ?_
   refine aw_cond rfl (fun h5 => ?_) (fun h5 => ?_)
   ·have gh5 := h5
    try simp only [nrm] at h5
    rw [com_cond (by omega)] at gh5
    obtain ⟨hnc, hn2⟩ := next_comment s j gh5
    have hll := lineLen_le (s.drop j)
    have hrl := run_line (s.drop j)
    rw [List.length_drop] at hll
    refine aw_region ?_
    refine al_op (op_move rfl) rfl (by simp) ?_
    refine al_op (op_move rfl) rfl (by simp) ?_
    refine al_op (op_move rfl) rfl (by simp) ?_
    refine al_callp into122 rfl rfl rfl (r_run3 s hs j (by omega) 4 _) (by simp) ?_
    refine al_op (op_add rfl rfl (by first | exact wrap_i64 (by omega) (by omega))) rfl (by simp) ?_
    refine al_op (op_assign rfl) rfl (by simp) ?_
    refine al_nil ?_
    refine ⟨j + lineLen (s.drop j), ?_, ?_, ?_, ?_, ?_⟩
    ·omega
    ·first | exact ⟨⟨by omega, by omega⟩, (next_blank s j (by omega) gh2).trans hj3⟩ | exact ⟨⟨by omega, by omega⟩, hnc.trans hj3⟩
    ·refine sub_cons (get_as rfl ?_) ?_; rotate_left; exact sub_nil
     all_goals (first | rfl | (rw [run_line] <;> rfl) | simp)
    ·repeat (first | exact subx_refl | exact subx_del | refine subx_put rfl ?_)
    ·rfl
   ·have gh5 := h5
    try simp only [nrm] at h5
    refine aw_seq ?_
    rw [com_cond (by omega)] at gh5
    refine aw_region ?_
    refine al_op (op_move rfl) rfl (by simp) ?_
    refine al_op (op_assign rfl) rfl (by simp) ?_
    refine al_nil ?_
    refine aw_freeze (fun _ => false) (fsub_cons (t := 4) rfl (.leaf _ _ (.same _)) fsub_nil) ?_
    refine aw_ret ?_
    refine ⟨_, res_1 rfl rfl, ?_, rfl⟩
    rw [← hj3, next_stop s j (by omega) gh2 gh5]
 ·have gh1 := h1
  try simp only [nrm] at h1
  refine aw_exit ?_
  refine aw_seq ?_
  refine aw_region ?_
  refine al_op (op_move rfl) rfl (by simp) ?_
  refine al_op (op_assign rfl) rfl (by simp) ?_
  refine al_nil ?_
  refine aw_freeze (fun _ => false) (fsub_cons (t := 4) rfl (.leaf _ _ (.same _)) fsub_nil) ?_
  refine aw_ret ?_
  refine ⟨_, res_1 rfl rfl, ?_, rfl⟩
  rw [← hj3, next_end s j (by omega)]
theorem r_runP (s : Bs) (hs : s.length ≤ 1000000000) (i : Nat) (hi : i ≤ s.length) : ACp Tryz.prog 122 [.v (.string (str (s))), .v (.int .i64 ((i : Nat) : Int)), .v (.int .i64 (1))] (.v (.int .i64 ((((s.drop i).takeWhile isPartC).length : Nat) : Int))) := r_run3 s hs i hi 1
theorem r_runD (s : Bs) (hs : s.length ≤ 1000000000) (i : Nat) (hi : i ≤ s.length) : ACp Tryz.prog 122 [.v (.string (str (s))), .v (.int .i64 ((i : Nat) : Int)), .v (.int .i64 (0))] (.v (.int .i64 ((((s.drop i).takeWhile isDigitC).length : Nat) : Int))) := r_run3 s hs i hi 0
theorem q_rtoken (s : Bs) (hs : s.length ≤ 1000000000) (i : Nat) (hi : i < s.length) : AC Tryz.prog 128 [.v (.string (str (s))), .v (.int .i64 ((i : Nat) : Int))] ([]) (fun r σ' => r = .ret (.tuple [.agg (tokCells (s.drop i)), .v (.int .i64 (((tokA (s.drop i)).2.2.2 : Nat) : Int))]) ∧ σ'.keep (fun _ => false) = []) := by
 have hsl : signsL.length = 18 := by decide
 have hdl : (s.drop i).length ≤ 1000000000 := by rw [List.length_drop]; omega
 have hw5 := takeWhile_len isPartC (s.drop i)
 have hw6 := takeWhile_len isDigitC (s.drop i)
 rw [List.length_drop] at hw5 hw6
 refine ac_enter 179 Tryz.func128 rfl rfl (by simp) ?_
 refine aw_seq ?_
 refine aw_region ?_
 (refine al_opR (op_alloc 4 info65 rfl rfl) rfl (by simp) ?_; rintro _ _ ⟨ver4, rfl, rfl⟩)
 refine al_op (op_assign rfl) rfl (by simp) ?_
 refine al_nil ?_
 refine aw_seq ?_
 refine aw_region ?_
 refine al_op (op_move rfl) rfl (by simp) ?_
 refine al_op (op_move rfl) rfl (by simp) ?_
 refine al_op (val_as (.v (.int .u8 (((s.drop i).getD 0 default).toNat : Int))) (op_sidx_str Tryz.underlying9 rfl rfl (by first | (with_reducible exact Int.toNat_natCast _) | rfl) (by omega) (by first | omega | (simp; omega))) (by rw [getD_drop, Nat.add_zero])) rfl (by simp) ?_
 refine al_op (op_assign rfl) rfl (by simp) ?_
 refine al_nil ?_
 refine aw_seq ?_
 refine aw_block ?_
 refine aw_seq ?_
 refine aw_region ?_
 refine al_op (op_move rfl) rfl (by simp) ?_
 refine al_op (op_eql rfl rfl) rfl (by simp) ?_
 refine al_op (op_move rfl) rfl (by simp) ?_
 apply al_and 6 49 55 rfl
 ·intro h1; have gh1 := h1
  try simp only [nrm] at h1
  refine al_take (op_move rfl) rfl rfl rfl rfl (by simp) ?_
  refine al_take (op_add rfl rfl (by first | exact wrap_i64 (by omega) (by omega))) rfl rfl rfl rfl (by simp) ?_
  refine al_take (op_move rfl) rfl rfl rfl rfl (by simp) ?_
  refine al_take (op_slen_str (ts := #[]) Tryz.underlying9 rfl) rfl rfl rfl rfl (by simp) ?_
  refine al_take (op_lss rfl rfl) rfl rfl rfl rfl (by simp) ?_
  refine al_op (op_pick rfl rfl) rfl (by simp) ?_
  refine al_nil ⟨rfl, rfl, rfl, keep_of ?_⟩
  repeat (first | exact subx_refl | exact subx_known rfl gh1 subx_refl | refine subx_put rfl ?_)
 ·intro h1; have gh1 := h1
  try simp only [nrm] at h1
  refine al_pass rfl rfl rfl rfl (by simp) ?_
  refine al_pass rfl rfl rfl rfl (by simp) ?_
  refine al_pass rfl rfl rfl rfl (by simp) ?_
  refine al_pass rfl rfl rfl rfl (by simp) ?_
  refine al_pass rfl rfl rfl rfl (by simp) ?_
  refine al_op (op_pick rfl rfl) rfl (by simp) ?_
  refine al_nil ⟨rfl, rfl, rfl, keep_of ?_⟩
  repeat (first | exact subx_refl | exact subx_known rfl gh1 subx_refl | refine subx_put rfl ?_)
 refine al_op (op_move rfl) rfl (by simp) ?_
 apply al_and 6 56 62 rfl
 ·intro h2; have gh2 := h2
  try simp only [nrm] at h2
  refine al_take (op_move rfl) rfl rfl rfl rfl (by simp) ?_
  refine al_take (op_move rfl) rfl rfl rfl rfl (by simp) ?_
  refine al_take (op_add rfl rfl (by first | exact wrap_i64 (by omega) (by omega))) rfl rfl rfl rfl (by simp) ?_
  refine al_take (op_sidx_str Tryz.underlying9 rfl rfl (by first | (with_reducible exact Int.toNat_natCast _) | rfl) (by omega) (by first | omega | (simp; omega))) rfl rfl rfl rfl (by simp) ?_
  refine al_take (op_eql rfl rfl) rfl rfl rfl rfl (by simp) ?_
  refine al_op (op_pick rfl rfl) rfl (by simp) ?_
  refine al_nil ⟨rfl, rfl, rfl, keep_of ?_⟩
  repeat (first | exact subx_refl | exact subx_known rfl gh2 subx_refl | refine subx_put rfl ?_)
 ·intro h2; have gh2 := h2
  try simp only [nrm] at h2
  refine al_pass rfl rfl rfl rfl (by simp) ?_
  refine al_pass rfl rfl rfl rfl (by simp) ?_
  refine al_pass rfl rfl rfl rfl (by simp) ?_
  refine al_pass rfl rfl rfl rfl (by simp) ?_
  refine al_pass rfl rfl rfl rfl (by simp) ?_
  refine al_op (op_pick rfl rfl) rfl (by simp) ?_
  refine al_nil ⟨rfl, rfl, rfl, keep_of ?_⟩
  repeat (first | exact subx_refl | exact subx_known rfl gh2 subx_refl | refine subx_put rfl ?_)
 refine al_op (op_assign rfl) rfl (by simp) ?_
 refine al_nil ?_
 refine aw_cond rfl (fun h3 => ?_) (fun h3 => ?_)
 ·have gh3 := h3
  try simp only [nrm] at h3
  refine aw_seq ?_
  rw [b46 hi] at gh3
  refine aw_region ?_
  refine al_op (op_move rfl) rfl (by simp) ?_
  refine al_op (op_move rfl) rfl (by simp) ?_
  refine al_op (op_add rfl rfl (by first | exact wrap_i64 (by omega) (by omega))) rfl (by simp) ?_
  refine al_callp into172 rfl rfl rfl (r_quo s hs (i + 1) (by omega) 2 1 64 _) (by simp) ?_
  refine al_op (op_assign rfl) rfl (by simp) ?_
  refine al_nil ?_
  refine aw_seq ?_
  refine aw_region ?_
  refine al_op (op_move rfl) rfl (by simp) ?_
  refine al_op (op_geq rfl rfl) rfl (by simp) ?_
  refine al_nil ?_
  refine aw_cond rfl (fun h4 => ?_) (fun h4 => ?_)
  ·have gh4 := h4
   try simp only [nrm] at h4
   refine aw_seq ?_
   obtain ⟨n, hn, hnl, htk⟩ := rt_vec gh3 gh4
   refine aw_region ?_
   refine al_op (op_move rfl) rfl (by simp) ?_
   refine al_op (op_move rfl) rfl (by simp) ?_
   refine al_op (op_add rfl rfl (by first | exact wrap_i64 (by omega) (by omega))) rfl (by simp) ?_
   refine al_op (op_move rfl) rfl (by simp) ?_
   refine al_op (op_add rfl rfl (by first | exact wrap_i64 (by omega) (by omega))) rfl (by simp) ?_
   refine al_op (op_move rfl) rfl (by simp) ?_
   refine al_op (op_add rfl rfl (by first | exact wrap_i64 (by omega) (by omega))) rfl (by simp) ?_
   refine al_op (op_cut_str Tryz.underlying9 rfl (.of rfl (show _ = (((i + 2) : Nat) : Int) from by omega)) (.of rfl (show _ = (((i + 2 + n) : Nat) : Int) from by omega)) (by omega) (by first | omega | (simp; omega))) rfl (by simp) ?_
   refine al_op (op_build_struct Tryz.underlying65 info65 rfl place65 rfl (by first | rfl | (repeat (first | exact parts_nil | refine parts_cons rfl (by repeat (first | exact all_live_nil | refine all_live_clo rfl ?_ | refine all_live_slice rfl ?_ | refine all_live_map rfl ?_ | refine all_live_ptr rfl ?_)) ?_))) rfl) rfl (by simp) ?_
   refine al_op (op_move rfl) rfl (by simp) ?_
   refine al_op (op_add rfl rfl (by first | exact wrap_i64 (by omega) (by omega))) rfl (by simp) ?_
   refine al_op (op_store_ptr info65 rfl rfl rfl rfl rfl rfl (by first | rfl | exact live_one rfl | (repeat (first | exact all_live_nil | refine all_live_clo rfl ?_ | refine all_live_slice rfl ?_ | refine all_live_map rfl ?_ | refine all_live_ptr rfl ?_))) (Nat.le_of_ble_eq_true rfl)) rfl (by simp) ?_
   refine al_op (op_assign rfl) rfl (by simp) ?_
   refine al_nil ?_
   refine aw_ret ?_
   refine ⟨_, res_cell_tmp rfl Tryz.underlying65 info65 rfl rfl rfl rfl rfl rfl rfl, ?_⟩
   exact ⟨(by rw [tokCells, htk, hn]; rfl), rfl⟩
  ·have gh4 := h4
   try simp only [nrm] at h4
   refine aw_skip ?_
   refine aw_seq ?_
   refine aw_region ?_
   refine al_op (op_build_struct Tryz.underlying65 info65 rfl place65 rfl (by first | rfl | (repeat (first | exact parts_nil | refine parts_cons rfl (by repeat (first | exact all_live_nil | refine all_live_clo rfl ?_ | refine all_live_slice rfl ?_ | refine all_live_map rfl ?_ | refine all_live_ptr rfl ?_)) ?_))) rfl) rfl (by simp) ?_
   refine al_op (op_store_ptr info65 rfl rfl rfl rfl rfl rfl (by first | rfl | exact live_one rfl | (repeat (first | exact all_live_nil | refine all_live_clo rfl ?_ | refine all_live_slice rfl ?_ | refine all_live_map rfl ?_ | refine all_live_ptr rfl ?_))) (by decide)) rfl (by simp) ?_
   refine al_op (op_assign rfl) rfl (by simp) ?_
   refine al_nil ?_
   refine aw_ret ?_
   refine ⟨_, res_cell_tmp rfl Tryz.underlying65 info65 rfl rfl rfl rfl rfl rfl rfl, ?_⟩
   exact ⟨(by rw [tokCells, rt_novec gh3 gh4]; rfl), rfl⟩
 ·have gh3 := h3
  try simp only [nrm] at h3
  refine aw_seq ?_
  rw [b46 hi] at gh3
  refine aw_region ?_
  refine al_op (op_move rfl) rfl (by simp) ?_
  refine al_callp into121 rfl rfl rfl ((r_letter _) _) (by simp) ?_
  refine al_op (op_assign rfl) rfl (by simp) ?_
  refine al_nil ?_
  refine aw_cond rfl (fun h5 => ?_) (fun h5 => ?_)
  ·have gh5 := h5
   try simp only [nrm] at h5
   refine aw_seq ?_
   refine aw_region ?_
   refine al_op (op_move rfl) rfl (by simp) ?_
   refine al_op (op_move rfl) rfl (by simp) ?_
   refine al_op (op_move rfl) rfl (by simp) ?_
   refine al_op (op_move rfl) rfl (by simp) ?_
   refine al_op (op_move rfl) rfl (by simp) ?_
   refine al_callp into122 rfl rfl rfl (r_runP s hs i (by omega) _) (by simp) ?_
   refine al_op (op_add rfl rfl (by first | exact wrap_i64 (by omega) (by omega))) rfl (by simp) ?_
   refine al_op (val_as (.v (.string (str ((s.drop i).takeWhile isPartC)))) (op_cut_str Tryz.underlying9 rfl (.of rfl (show _ = ((i : Nat) : Int) from by omega)) (.of rfl (show _ = (((i + ((s.drop i).takeWhile isPartC).length) : Nat) : Int) from by omega)) (by omega) (by first | omega | (simp; omega))) (by rw [run_cut])) rfl (by simp) ?_
   refine al_op (op_assign rfl) rfl (by simp) ?_
   refine al_nil ?_
   refine aw_seq ?_
   refine aw_seq ?_
   refine aw_region ?_
   refine al_op (op_move rfl) rfl (by simp) ?_
   refine al_callp into123 rfl rfl rfl ((r_isWord _ (by first | assumption | omega | (simp; done) | (simp; omega) | decide)) _) (by simp) ?_
   refine al_nil ?_
   refine aw_cond rfl (fun h6 => ?_) (fun h6 => ?_)
   ·have gh6 := h6
    try simp only [nrm] at h6
    refine aw_seq ?_
    refine aw_region ?_
    refine al_op (op_move rfl) rfl (by simp) ?_
    refine al_op (op_build_struct Tryz.underlying65 info65 rfl place65 rfl (by first | rfl | (repeat (first | exact parts_nil | refine parts_cons rfl (by repeat (first | exact all_live_nil | refine all_live_clo rfl ?_ | refine all_live_slice rfl ?_ | refine all_live_map rfl ?_ | refine all_live_ptr rfl ?_)) ?_))) rfl) rfl (by simp) ?_
    refine al_op (op_move rfl) rfl (by simp) ?_
    refine al_op (op_slen_str (ts := #[]) Tryz.underlying9 rfl) rfl (by simp) ?_
    refine al_op (op_store_ptr info65 rfl rfl rfl rfl rfl rfl (by first | rfl | exact live_one rfl | (repeat (first | exact all_live_nil | refine all_live_clo rfl ?_ | refine all_live_slice rfl ?_ | refine all_live_map rfl ?_ | refine all_live_ptr rfl ?_))) (Nat.le_of_ble_eq_true rfl)) rfl (by simp) ?_
    refine al_op (op_assign rfl) rfl (by simp) ?_
    refine al_nil ?_
    refine aw_ret ?_
    refine ⟨_, res_cell_tmp rfl Tryz.underlying65 info65 rfl rfl rfl rfl rfl rfl rfl, ?_⟩
    exact ⟨(by rw [tokCells, tok_word gh3 gh5 gh6]; rfl), rfl⟩
   ·have gh6 := h6
    try simp only [nrm] at h6
    refine aw_skip ?_
    refine aw_seq ?_
    refine aw_region ?_
    refine al_op (op_move rfl) rfl (by simp) ?_
    refine al_callp into67 rfl rfl rfl ((r_isName _ (by first | assumption | omega | (simp; done) | (simp; omega) | decide)) _) (by simp) ?_
    refine al_nil ?_
    refine aw_cond rfl (fun h7 => ?_) (fun h7 => ?_)
    ·have gh7 := h7
     try simp only [nrm] at h7
     refine aw_seq ?_
     refine aw_region ?_
     refine al_op (op_move rfl) rfl (by simp) ?_
     refine al_op (op_build_struct Tryz.underlying65 info65 rfl place65 rfl (by first | rfl | (repeat (first | exact parts_nil | refine parts_cons rfl (by repeat (first | exact all_live_nil | refine all_live_clo rfl ?_ | refine all_live_slice rfl ?_ | refine all_live_map rfl ?_ | refine all_live_ptr rfl ?_)) ?_))) rfl) rfl (by simp) ?_
     refine al_op (op_move rfl) rfl (by simp) ?_
     refine al_op (op_slen_str (ts := #[]) Tryz.underlying9 rfl) rfl (by simp) ?_
     refine al_op (op_store_ptr info65 rfl rfl rfl rfl rfl rfl (by first | rfl | exact live_one rfl | (repeat (first | exact all_live_nil | refine all_live_clo rfl ?_ | refine all_live_slice rfl ?_ | refine all_live_map rfl ?_ | refine all_live_ptr rfl ?_))) (Nat.le_of_ble_eq_true rfl)) rfl (by simp) ?_
     refine al_op (op_assign rfl) rfl (by simp) ?_
     refine al_nil ?_
     refine aw_ret ?_
     refine ⟨_, res_cell_tmp rfl Tryz.underlying65 info65 rfl rfl rfl rfl rfl rfl rfl, ?_⟩
     exact ⟨(by rw [tokCells, tok_name gh3 gh5 gh6 gh7]; rfl), rfl⟩
    ·have gh7 := h7
     try simp only [nrm] at h7
     refine aw_skip ?_
     refine aw_seq ?_
     refine aw_region ?_
     refine al_op (op_build_struct Tryz.underlying65 info65 rfl place65 rfl (by first | rfl | (repeat (first | exact parts_nil | refine parts_cons rfl (by repeat (first | exact all_live_nil | refine all_live_clo rfl ?_ | refine all_live_slice rfl ?_ | refine all_live_map rfl ?_ | refine all_live_ptr rfl ?_)) ?_))) rfl) rfl (by simp) ?_
     refine al_op (op_store_ptr info65 rfl rfl rfl rfl rfl rfl (by first | rfl | exact live_one rfl | (repeat (first | exact all_live_nil | refine all_live_clo rfl ?_ | refine all_live_slice rfl ?_ | refine all_live_map rfl ?_ | refine all_live_ptr rfl ?_))) (by decide)) rfl (by simp) ?_
     refine al_op (op_assign rfl) rfl (by simp) ?_
     refine al_nil ?_
     refine aw_ret ?_
     refine ⟨_, res_cell_tmp rfl Tryz.underlying65 info65 rfl rfl rfl rfl rfl rfl rfl, ?_⟩
     exact ⟨(by rw [tokCells, tok_noname gh3 gh5 gh6 gh7]; rfl), rfl⟩
  ·have gh5 := h5
   try simp only [nrm] at h5
   refine aw_seq ?_
   refine aw_region ?_
   refine al_op (op_move rfl) rfl (by simp) ?_
   refine al_callp into173 rfl rfl rfl ((r_digit _) _) (by simp) ?_
   refine al_op (op_assign rfl) rfl (by simp) ?_
   refine al_nil ?_
   refine aw_cond rfl (fun h8 => ?_) (fun h8 => ?_)
   ·have gh8 := h8
    try simp only [nrm] at h8
    refine aw_seq ?_
    refine aw_region ?_
    refine al_op (op_move rfl) rfl (by simp) ?_
    refine al_op (op_move rfl) rfl (by simp) ?_
    refine al_op (op_move rfl) rfl (by simp) ?_
    refine al_op (op_move rfl) rfl (by simp) ?_
    refine al_op (op_move rfl) rfl (by simp) ?_
    refine al_callp into122 rfl rfl rfl (r_runD s hs i (by omega) _) (by simp) ?_
    refine al_op (op_add rfl rfl (by first | exact wrap_i64 (by omega) (by omega))) rfl (by simp) ?_
    refine al_op (val_as (.v (.string (str ((s.drop i).takeWhile isDigitC)))) (op_cut_str Tryz.underlying9 rfl (.of rfl (show _ = ((i : Nat) : Int) from by omega)) (.of rfl (show _ = (((i + ((s.drop i).takeWhile isDigitC).length) : Nat) : Int) from by omega)) (by omega) (by first | omega | (simp; omega))) (by rw [run_cut])) rfl (by simp) ?_
    refine al_op (op_assign rfl) rfl (by simp) ?_
    refine al_nil ?_
    refine aw_seq ?_
    refine aw_region ?_
    refine al_op (op_move rfl) rfl (by simp) ?_
    refine al_callp into174 rfl rfl rfl (r_num _ (by omega) digit_tw _) (by simp) ?_
    refine al_op (op_assign rfl) rfl (by simp) ?_
    refine al_nil ?_
    refine aw_seq ?_
    refine aw_region ?_
    refine al_op (op_move rfl) rfl (by simp) ?_
    refine al_op (op_geq rfl rfl) rfl (by simp) ?_
    refine al_op (op_move rfl) rfl (by simp) ?_
    apply al_and 7 118 125 rfl
    ·intro h9; have gh9 := h9
     try simp only [nrm] at h9
     refine al_take (op_move rfl) rfl rfl rfl rfl (by simp) ?_
     refine al_take (op_move rfl) rfl rfl rfl rfl (by simp) ?_
     refine al_callp_take into122 rfl rfl rfl rfl rfl rfl (r_runP s hs i (by omega) _) (by simp) ?_
     refine al_take (op_move rfl) rfl rfl rfl rfl (by simp) ?_
     refine al_take (op_slen_str (ts := #[]) Tryz.underlying9 rfl) rfl rfl rfl rfl (by simp) ?_
     refine al_take (op_eql rfl rfl) rfl rfl rfl rfl (by simp) ?_
     refine al_op (op_pick rfl rfl) rfl (by simp) ?_
     refine al_nil ⟨rfl, rfl, rfl, keep_of ?_⟩
     repeat (first | exact subx_refl | exact subx_known rfl gh9 subx_refl | refine subx_put rfl ?_)
    ·intro h9; have gh9 := h9
     try simp only [nrm] at h9
     refine al_pass rfl rfl rfl rfl (by simp) ?_
     refine al_pass rfl rfl rfl rfl (by simp) ?_
     refine al_pass rfl rfl rfl rfl (by simp) ?_
     refine al_pass rfl rfl rfl rfl (by simp) ?_
     refine al_pass rfl rfl rfl rfl (by simp) ?_
     refine al_pass rfl rfl rfl rfl (by simp) ?_
     refine al_op (op_pick rfl rfl) rfl (by simp) ?_
     refine al_nil ⟨rfl, rfl, rfl, keep_of ?_⟩
     repeat (first | exact subx_refl | exact subx_known rfl gh9 subx_refl | refine subx_put rfl ?_)
    refine al_nil ?_
    refine aw_cond rfl (fun h10 => ?_) (fun h10 => ?_)
    ·have gh10 := h10
     try simp only [nrm] at h10
     refine aw_seq ?_
     refine aw_region ?_
     refine al_op (op_move rfl) rfl (by simp) ?_
     refine al_op (op_build_struct Tryz.underlying65 info65 rfl place65 rfl (by first | rfl | (repeat (first | exact parts_nil | refine parts_cons rfl (by repeat (first | exact all_live_nil | refine all_live_clo rfl ?_ | refine all_live_slice rfl ?_ | refine all_live_map rfl ?_ | refine all_live_ptr rfl ?_)) ?_))) rfl) rfl (by simp) ?_
     refine al_op (op_move rfl) rfl (by simp) ?_
     refine al_op (op_slen_str (ts := #[]) Tryz.underlying9 rfl) rfl (by simp) ?_
     refine al_op (op_store_ptr info65 rfl rfl rfl rfl rfl rfl (by first | rfl | exact live_one rfl | (repeat (first | exact all_live_nil | refine all_live_clo rfl ?_ | refine all_live_slice rfl ?_ | refine all_live_map rfl ?_ | refine all_live_ptr rfl ?_))) (Nat.le_of_ble_eq_true rfl)) rfl (by simp) ?_
     refine al_op (op_assign rfl) rfl (by simp) ?_
     refine al_nil ?_
     refine aw_ret ?_
     refine ⟨_, res_cell_tmp rfl Tryz.underlying65 info65 rfl rfl rfl rfl rfl rfl rfl, ?_⟩
     exact ⟨(by rw [tokCells, rt_int_yes gh3 gh5 gh8 gh10]; rfl), rfl⟩
    ·have gh10 := h10
     try simp only [nrm] at h10
     refine aw_skip ?_
     refine aw_seq ?_
     refine aw_region ?_
     refine al_op (op_build_struct Tryz.underlying65 info65 rfl place65 rfl (by first | rfl | (repeat (first | exact parts_nil | refine parts_cons rfl (by repeat (first | exact all_live_nil | refine all_live_clo rfl ?_ | refine all_live_slice rfl ?_ | refine all_live_map rfl ?_ | refine all_live_ptr rfl ?_)) ?_))) rfl) rfl (by simp) ?_
     refine al_op (op_store_ptr info65 rfl rfl rfl rfl rfl rfl (by first | rfl | exact live_one rfl | (repeat (first | exact all_live_nil | refine all_live_clo rfl ?_ | refine all_live_slice rfl ?_ | refine all_live_map rfl ?_ | refine all_live_ptr rfl ?_))) (by decide)) rfl (by simp) ?_
     refine al_op (op_assign rfl) rfl (by simp) ?_
     refine al_nil ?_
     refine aw_ret ?_
     refine ⟨_, res_cell_tmp rfl Tryz.underlying65 info65 rfl rfl rfl rfl rfl rfl rfl, ?_⟩
     exact ⟨(by rw [tokCells, rt_int_no gh3 gh5 gh8 gh10]; rfl), rfl⟩
   ·have gh8 := h8
    try simp only [nrm] at h8
    refine aw_seq ?_
    refine aw_region ?_
    refine al_op (op_move rfl) rfl (by simp) ?_
    refine al_op (op_eql rfl rfl) rfl (by simp) ?_
    refine al_op (op_assign rfl) rfl (by simp) ?_
    refine al_nil ?_
    refine aw_cond rfl (fun h11 => ?_) (fun h11 => ?_)
    ·have gh11 := h11
     try simp only [nrm] at h11
     refine aw_seq ?_
     refine aw_region ?_
     refine al_op (op_move rfl) rfl (by simp) ?_
     refine al_op (op_add rfl rfl (by first | exact wrap_i64 (by omega) (by omega))) rfl (by simp) ?_
     refine al_op (op_move rfl) rfl (by simp) ?_
     refine al_op (op_slen_str (ts := #[]) Tryz.underlying9 rfl) rfl (by simp) ?_
     refine al_op (op_lss rfl rfl) rfl (by simp) ?_
     refine al_op (op_move rfl) rfl (by simp) ?_
     apply al_and 6 138 144 rfl
     ·intro h12; have gh12 := h12
      try simp only [nrm] at h12
      refine al_take (op_move rfl) rfl rfl rfl rfl (by simp) ?_
      refine al_take (op_move rfl) rfl rfl rfl rfl (by simp) ?_
      refine al_take (op_add rfl rfl (by first | exact wrap_i64 (by omega) (by omega))) rfl rfl rfl rfl (by simp) ?_
      refine al_take (op_sidx_str Tryz.underlying9 rfl rfl (by first | (with_reducible exact Int.toNat_natCast _) | rfl) (by omega) (by first | omega | (simp; omega))) rfl rfl rfl rfl (by simp) ?_
      refine al_callp_take into132 rfl rfl rfl rfl rfl rfl ((r_bit _) _) (by simp) ?_
      refine al_op (op_pick rfl rfl) rfl (by simp) ?_
      refine al_nil ⟨rfl, rfl, rfl, keep_of ?_⟩
      repeat (first | exact subx_refl | exact subx_known rfl gh12 subx_refl | refine subx_put rfl ?_)
     ·intro h12; have gh12 := h12
      try simp only [nrm] at h12
      refine al_pass rfl rfl rfl rfl (by simp) ?_
      refine al_pass rfl rfl rfl rfl (by simp) ?_
      refine al_pass rfl rfl rfl rfl (by simp) ?_
      refine al_pass rfl rfl rfl rfl (by simp) ?_
      refine al_pass rfl rfl rfl rfl (by simp) ?_
      refine al_op (op_pick rfl rfl) rfl (by simp) ?_
      refine al_nil ⟨rfl, rfl, rfl, keep_of ?_⟩
      repeat (first | exact subx_refl | exact subx_known rfl gh12 subx_refl | refine subx_put rfl ?_)
     refine al_op (op_move rfl) rfl (by simp) ?_
     apply al_and 6 145 151 rfl
     ·intro h13; have gh13 := h13
      try simp only [nrm] at h13
      refine al_take (op_move rfl) rfl rfl rfl rfl (by simp) ?_
      refine al_take (op_move rfl) rfl rfl rfl rfl (by simp) ?_
      refine al_take (op_add rfl rfl (by first | exact wrap_i64 (by omega) (by omega))) rfl rfl rfl rfl (by simp) ?_
      refine al_take (op_sidx_str Tryz.underlying9 rfl rfl (by first | (with_reducible exact Int.toNat_natCast _) | rfl) (by omega) (by first | omega | (simp; omega))) rfl rfl rfl rfl (by simp) ?_
      refine al_take (op_eql rfl rfl) rfl rfl rfl rfl (by simp) ?_
      refine al_op (op_pick rfl rfl) rfl (by simp) ?_
      refine al_nil ⟨rfl, rfl, rfl, keep_of ?_⟩
      repeat (first | exact subx_refl | exact subx_known rfl gh13 subx_refl | refine subx_put rfl ?_)
     ·intro h13; have gh13 := h13
      try simp only [nrm] at h13
      refine al_pass rfl rfl rfl rfl (by simp) ?_
      refine al_pass rfl rfl rfl rfl (by simp) ?_
      refine al_pass rfl rfl rfl rfl (by simp) ?_
      refine al_pass rfl rfl rfl rfl (by simp) ?_
      refine al_pass rfl rfl rfl rfl (by simp) ?_
      refine al_op (op_pick rfl rfl) rfl (by simp) ?_
      refine al_nil ⟨rfl, rfl, rfl, keep_of ?_⟩
      repeat (first | exact subx_refl | exact subx_known rfl gh13 subx_refl | refine subx_put rfl ?_)
     refine al_nil ?_
     refine aw_cond rfl (fun h14 => ?_) (fun h14 => ?_)
     ·have gh14 := h14
      try simp only [nrm] at h14
      refine aw_seq ?_
      obtain ⟨hbl, htk⟩ := rt_bit gh3 gh5 gh8 hi gh11 gh14
      refine aw_region ?_
      refine al_op (op_move rfl) rfl (by simp) ?_
      refine al_op (op_move rfl) rfl (by simp) ?_
      refine al_op (op_add rfl rfl (by first | exact wrap_i64 (by omega) (by omega))) rfl (by simp) ?_
      refine al_op (op_move rfl) rfl (by simp) ?_
      refine al_op (op_add rfl rfl (by first | exact wrap_i64 (by omega) (by omega))) rfl (by simp) ?_
      refine al_op (op_cut_str Tryz.underlying9 rfl (.of rfl (show _ = (((i + 1) : Nat) : Int) from by omega)) (.of rfl (show _ = (((i + 2) : Nat) : Int) from by omega)) (by omega) (by first | omega | (simp; omega))) rfl (by simp) ?_
      refine al_op (op_build_struct Tryz.underlying65 info65 rfl place65 rfl (by first | rfl | (repeat (first | exact parts_nil | refine parts_cons rfl (by repeat (first | exact all_live_nil | refine all_live_clo rfl ?_ | refine all_live_slice rfl ?_ | refine all_live_map rfl ?_ | refine all_live_ptr rfl ?_)) ?_))) rfl) rfl (by simp) ?_
      refine al_op (op_store_ptr info65 rfl rfl rfl rfl rfl rfl (by first | rfl | exact live_one rfl | (repeat (first | exact all_live_nil | refine all_live_clo rfl ?_ | refine all_live_slice rfl ?_ | refine all_live_map rfl ?_ | refine all_live_ptr rfl ?_))) (Nat.le_of_ble_eq_true rfl)) rfl (by simp) ?_
      refine al_op (op_assign rfl) rfl (by simp) ?_
      refine al_nil ?_
      refine aw_ret ?_
      refine ⟨_, res_cell_tmp rfl Tryz.underlying65 info65 rfl rfl rfl rfl rfl rfl rfl, ?_⟩
      exact ⟨(by rw [tokCells, htk]; rfl), rfl⟩
     ·have gh14 := h14
      try simp only [nrm] at h14
      refine aw_skip ?_
      refine aw_seq ?_
      refine aw_region ?_
      refine al_op (op_build_struct Tryz.underlying65 info65 rfl place65 rfl (by first | rfl | (repeat (first | exact parts_nil | refine parts_cons rfl (by repeat (first | exact all_live_nil | refine all_live_clo rfl ?_ | refine all_live_slice rfl ?_ | refine all_live_map rfl ?_ | refine all_live_ptr rfl ?_)) ?_))) rfl) rfl (by simp) ?_
      refine al_op (op_store_ptr info65 rfl rfl rfl rfl rfl rfl (by first | rfl | exact live_one rfl | (repeat (first | exact all_live_nil | refine all_live_clo rfl ?_ | refine all_live_slice rfl ?_ | refine all_live_map rfl ?_ | refine all_live_ptr rfl ?_))) (by decide)) rfl (by simp) ?_
      refine al_op (op_assign rfl) rfl (by simp) ?_
      refine al_nil ?_
      refine aw_ret ?_
      refine ⟨_, res_cell_tmp rfl Tryz.underlying65 info65 rfl rfl rfl rfl rfl rfl rfl, ?_⟩
      exact ⟨(by rw [tokCells, rt_nobit gh3 gh5 gh8 hi gh11 gh14]; rfl), rfl⟩
    ·have gh11 := h11
     try simp only [nrm] at h11
     refine aw_seq ?_
     refine aw_region ?_
     refine al_op (op_move rfl) rfl (by simp) ?_
     refine al_op (op_eql rfl rfl) rfl (by simp) ?_
     refine al_op (op_assign rfl) rfl (by simp) ?_
     refine al_nil ?_
     refine aw_cond rfl (fun h15 => ?_) (fun h15 => ?_)
     ·have gh15 := h15
      try simp only [nrm] at h15
      refine aw_seq ?_
      refine aw_region ?_
      refine al_op (op_move rfl) rfl (by simp) ?_
      refine al_op (op_move rfl) rfl (by simp) ?_
      refine al_callp into172 rfl rfl rfl (r_quo s hs i (by omega) 3 0 60 _) (by simp) ?_
      refine al_op (op_assign rfl) rfl (by simp) ?_
      refine al_nil ?_
      refine aw_seq ?_
      refine aw_region ?_
      refine al_op (op_move rfl) rfl (by simp) ?_
      refine al_op (op_geq rfl rfl) rfl (by simp) ?_
      refine al_nil ?_
      refine aw_cond rfl (fun h16 => ?_) (fun h16 => ?_)
      ·have gh16 := h16
       try simp only [nrm] at h16
       refine aw_seq ?_
       obtain ⟨n, hn, hnl, htk⟩ := rt_text gh3 gh5 gh8 gh11 gh15 gh16
       refine aw_region ?_
       refine al_op (op_move rfl) rfl (by simp) ?_
       refine al_op (op_move rfl) rfl (by simp) ?_
       refine al_op (op_add rfl rfl (by first | exact wrap_i64 (by omega) (by omega))) rfl (by simp) ?_
       refine al_op (op_move rfl) rfl (by simp) ?_
       refine al_op (op_add rfl rfl (by first | exact wrap_i64 (by omega) (by omega))) rfl (by simp) ?_
       refine al_op (op_move rfl) rfl (by simp) ?_
       refine al_op (op_add rfl rfl (by first | exact wrap_i64 (by omega) (by omega))) rfl (by simp) ?_
       refine al_op (op_cut_str Tryz.underlying9 rfl (.of rfl (show _ = (((i + 1) : Nat) : Int) from by omega)) (.of rfl (show _ = (((i + 1 + n) : Nat) : Int) from by omega)) (by omega) (by first | omega | (simp; omega))) rfl (by simp) ?_
       refine al_op (op_build_struct Tryz.underlying65 info65 rfl place65 rfl (by first | rfl | (repeat (first | exact parts_nil | refine parts_cons rfl (by repeat (first | exact all_live_nil | refine all_live_clo rfl ?_ | refine all_live_slice rfl ?_ | refine all_live_map rfl ?_ | refine all_live_ptr rfl ?_)) ?_))) rfl) rfl (by simp) ?_
       refine al_op (op_move rfl) rfl (by simp) ?_
       refine al_op (op_add rfl rfl (by first | exact wrap_i64 (by omega) (by omega))) rfl (by simp) ?_
       refine al_op (op_store_ptr info65 rfl rfl rfl rfl rfl rfl (by first | rfl | exact live_one rfl | (repeat (first | exact all_live_nil | refine all_live_clo rfl ?_ | refine all_live_slice rfl ?_ | refine all_live_map rfl ?_ | refine all_live_ptr rfl ?_))) (Nat.le_of_ble_eq_true rfl)) rfl (by simp) ?_
       refine al_op (op_assign rfl) rfl (by simp) ?_
       refine al_nil ?_
       refine aw_ret ?_
       refine ⟨_, res_cell_tmp rfl Tryz.underlying65 info65 rfl rfl rfl rfl rfl rfl rfl, ?_⟩
       exact ⟨(by rw [tokCells, htk, hn]; rfl), rfl⟩
      ·have gh16 := h16
       try simp only [nrm] at h16
       refine aw_skip ?_
       refine aw_seq ?_
       refine aw_region ?_
       refine al_op (op_build_struct Tryz.underlying65 info65 rfl place65 rfl (by first | rfl | (repeat (first | exact parts_nil | refine parts_cons rfl (by repeat (first | exact all_live_nil | refine all_live_clo rfl ?_ | refine all_live_slice rfl ?_ | refine all_live_map rfl ?_ | refine all_live_ptr rfl ?_)) ?_))) rfl) rfl (by simp) ?_
       refine al_op (op_store_ptr info65 rfl rfl rfl rfl rfl rfl (by first | rfl | exact live_one rfl | (repeat (first | exact all_live_nil | refine all_live_clo rfl ?_ | refine all_live_slice rfl ?_ | refine all_live_map rfl ?_ | refine all_live_ptr rfl ?_))) (by decide)) rfl (by simp) ?_
       refine al_op (op_assign rfl) rfl (by simp) ?_
       refine al_nil ?_
       refine aw_ret ?_
       refine ⟨_, res_cell_tmp rfl Tryz.underlying65 info65 rfl rfl rfl rfl rfl rfl rfl, ?_⟩
       exact ⟨(by rw [tokCells, rt_notext gh3 gh5 gh8 gh11 gh15 gh16]; rfl), rfl⟩
     ·have gh15 := h15
      try simp only [nrm] at h15
      refine aw_seq ?_
      refine aw_region ?_
      refine al_callp into134 rfl rfl rfl ((r_Signs ) _) (by simp) ?_
      refine al_op (op_len_map Tryz.underlying32 rfl) rfl (by simp) ?_
      refine al_op (op_move rfl) rfl (by simp) ?_
      refine al_nil ?_
      refine aw_block ?_
      refine aw_forT (ι := Nat) [5, 19] [] (fun q => signsL.length - q) (fun q => q ≤ signsL.length ∧ ∀ k, k < q → (signsL.getD k default).isPrefixOf (s.drop i) = false) (fun q => ([(19, .v (.int .i64 (q)))] : Env)) (fun q s => s) (0) ?_ ?_ ?_ (fun q hinv => ?_)
      ·exact ⟨Nat.zero_le _, fun k hk => absurd hk (Nat.not_lt_zero k)⟩
      ·refine sub_cons (get_as rfl ?_) ?_; rotate_left; exact sub_nil
       all_goals (first | rfl | simp)
      ·rfl
      have hq := hinv.1
      refine aw_seq ?_
      refine aw_region ?_
      refine al_op (op_lss rfl rfl) rfl (by simp) ?_
      refine al_nil ?_
      refine aw_seq ?_
      refine aw_cond rfl (fun h17 => ?_) (fun h17 => ?_)
      ·have gh17 := h17
       try simp only [nrm] at h17
       refine aw_skip ?_
       refine aw_seq ?_
       refine aw_block ?_
       refine aw_seq ?_
       refine aw_region ?_
       refine al_op (op_index_map default Tryz.underlying32 info9 rfl rfl rfl (by first | (with_reducible exact Int.toNat_natCast _) | rfl) (by omega) (by omega)) rfl (by simp) ?_
       refine al_op (op_load_rptr Tryz.underlying9 info9 rfl rfl) rfl (by simp) ?_
       refine al_op (op_assign rfl) rfl (by simp) ?_
       refine al_nil ?_
       refine aw_seq ?_
       have hsx := (sign_all _ (getD_mem (show q < signsL.length by omega))).2.1
       refine aw_region ?_
       refine al_op (op_move rfl) rfl (by simp) ?_
       refine al_op (op_move rfl) rfl (by simp) ?_
       refine al_op (op_slen_str (ts := #[]) Tryz.underlying9 rfl) rfl (by simp) ?_
       refine al_op (op_add rfl rfl (by first | exact wrap_i64 (by omega) (by omega))) rfl (by simp) ?_
       refine al_op (op_move rfl) rfl (by simp) ?_
       refine al_op (op_slen_str (ts := #[]) Tryz.underlying9 rfl) rfl (by simp) ?_
       refine al_op (op_leq rfl rfl) rfl (by simp) ?_
       refine al_op (op_move rfl) rfl (by simp) ?_
       apply al_and 10 30 40 rfl
       ·intro h18; have gh18 := h18
        try simp only [nrm] at h18
        refine al_take (op_move rfl) rfl rfl rfl rfl (by simp) ?_
        refine al_take (op_move rfl) rfl rfl rfl rfl (by simp) ?_
        refine al_take (op_move rfl) rfl rfl rfl rfl (by simp) ?_
        refine al_take (op_move rfl) rfl rfl rfl rfl (by simp) ?_
        refine al_take (op_slen_str (ts := #[]) Tryz.underlying9 rfl) rfl rfl rfl rfl (by simp) ?_
        refine al_take (op_add rfl rfl (by first | exact wrap_i64 (by omega) (by omega))) rfl rfl rfl rfl (by simp) ?_
        refine al_take (op_cut_str Tryz.underlying9 rfl (.of rfl (show _ = ((i : Nat) : Int) from by omega)) (.of rfl (show _ = (((i + (signsL.getD q default).length) : Nat) : Int) from by omega)) (by omega) (by first | omega | (simp; omega))) rfl rfl rfl rfl (by simp) ?_
        refine al_take (op_move rfl) rfl rfl rfl rfl (by simp) ?_
        refine al_take (op_seql_str rfl rfl) rfl rfl rfl rfl (by simp) ?_
        refine al_op (op_pick rfl rfl) rfl (by simp) ?_
        refine al_nil ⟨rfl, rfl, rfl, keep_of ?_⟩
        repeat (first | exact subx_refl | exact subx_known rfl gh18 subx_refl | refine subx_put rfl ?_)
       ·intro h18; have gh18 := h18
        try simp only [nrm] at h18
        refine al_pass rfl rfl rfl rfl (by simp) ?_
        refine al_pass rfl rfl rfl rfl (by simp) ?_
        refine al_pass rfl rfl rfl rfl (by simp) ?_
        refine al_pass rfl rfl rfl rfl (by simp) ?_
        refine al_pass rfl rfl rfl rfl (by simp) ?_
        refine al_pass rfl rfl rfl rfl (by simp) ?_
        refine al_pass rfl rfl rfl rfl (by simp) ?_
        refine al_pass rfl rfl rfl rfl (by simp) ?_
        refine al_pass rfl rfl rfl rfl (by simp) ?_
        refine al_op (op_pick rfl rfl) rfl (by simp) ?_
        refine al_nil ⟨rfl, rfl, rfl, keep_of ?_⟩
        repeat (first | exact subx_refl | exact subx_known rfl gh18 subx_refl | refine subx_put rfl ?_)
       refine al_nil ?_
       refine aw_cond rfl (fun h19 => ?_) (fun h19 => ?_)
       ·have gh19 := h19
        try simp only [nrm] at h19
        refine aw_seq ?_
        refine aw_region ?_
        refine al_op (op_move rfl) rfl (by simp) ?_
        refine al_op (op_build_struct Tryz.underlying65 info65 rfl place65 rfl (by first | rfl | (repeat (first | exact parts_nil | refine parts_cons rfl (by repeat (first | exact all_live_nil | refine all_live_clo rfl ?_ | refine all_live_slice rfl ?_ | refine all_live_map rfl ?_ | refine all_live_ptr rfl ?_)) ?_))) rfl) rfl (by simp) ?_
        refine al_op (op_move rfl) rfl (by simp) ?_
        refine al_op (op_slen_str (ts := #[]) Tryz.underlying9 rfl) rfl (by simp) ?_
        refine al_op (op_store_ptr info65 rfl rfl rfl rfl rfl rfl (by first | rfl | exact live_one rfl | (repeat (first | exact all_live_nil | refine all_live_clo rfl ?_ | refine all_live_slice rfl ?_ | refine all_live_map rfl ?_ | refine all_live_ptr rfl ?_))) (Nat.le_of_ble_eq_true rfl)) rfl (by simp) ?_
        refine al_op (op_assign rfl) rfl (by simp) ?_
        refine al_nil ?_
        refine aw_ret ?_
        refine ⟨_, res_cell_tmp rfl Tryz.underlying65 info65 rfl rfl rfl rfl rfl rfl rfl, ?_⟩
        exact ⟨(by rw [tokCells, tok_last gh3 gh5 gh8 gh11 gh15, find_step (p := fun x => x.isPrefixOf (s.drop i)) (by omega) hinv.2 (by rw [sign_cond (by omega)] at gh19; exact gh19)]; rfl), rfl⟩
       ·have gh19 := h19
        try simp only [nrm] at h19
        refine aw_skip ?_
        refine aw_region ?_
        refine al_op (op_add rfl rfl (by first | exact wrap_i64 (by omega) (by omega))) rfl (by simp) ?_
        refine al_op (op_move rfl) rfl (by simp) ?_
        refine al_nil ?_
        refine ⟨q + 1, ?_, ?_, ?_, ?_, ?_⟩
        ·omega
        ·exact ⟨by omega, find_more (p := fun x => x.isPrefixOf (s.drop i)) (l := signsL) hinv.2 (by rw [sign_cond (by omega)] at gh19; exact gh19)⟩
        ·refine sub_cons (get_as rfl ?_) ?_; rotate_left; exact sub_nil
         all_goals (first | rfl | simp)
        ·repeat (first | exact subx_refl | exact subx_del | refine subx_put rfl ?_)
        ·rfl
      ·have gh17 := h17
       try simp only [nrm] at h17
       refine aw_exit ?_
       obtain rfl : q = signsL.length := by omega
       have hall := hinv.2
       refine aw_seq ?_
       refine aw_region ?_
       refine al_op (op_build_struct Tryz.underlying65 info65 rfl place65 rfl (by first | rfl | (repeat (first | exact parts_nil | refine parts_cons rfl (by repeat (first | exact all_live_nil | refine all_live_clo rfl ?_ | refine all_live_slice rfl ?_ | refine all_live_map rfl ?_ | refine all_live_ptr rfl ?_)) ?_))) rfl) rfl (by simp) ?_
       refine al_op (op_store_ptr info65 rfl rfl rfl rfl rfl rfl (by first | rfl | exact live_one rfl | (repeat (first | exact all_live_nil | refine all_live_clo rfl ?_ | refine all_live_slice rfl ?_ | refine all_live_map rfl ?_ | refine all_live_ptr rfl ?_))) (by decide)) rfl (by simp) ?_
       refine al_op (op_assign rfl) rfl (by simp) ?_
       refine al_nil ?_
       refine aw_ret ?_
       refine ⟨_, res_cell_tmp rfl Tryz.underlying65 info65 rfl rfl rfl rfl rfl rfl rfl, ?_⟩
       exact ⟨(by rw [tokCells, tok_last gh3 gh5 gh8 gh11 gh15, find_none (p := fun x => x.isPrefixOf (s.drop i)) hall]; rfl), rfl⟩
theorem r_token (s : Bs) (hs : s.length ≤ 1000000000) (i : Nat) (hi : i < s.length) : ACp Tryz.prog 128 [.v (.string (str (s))), .v (.int .i64 ((i : Nat) : Int))] (.tuple [.agg (tokCells (s.drop i)), .v (.int .i64 (((tokA (s.drop i)).2.2.2 : Nat) : Int))]) :=
  acp_of rfl (ac_mono (ac_keep (fun _ => false) (q_rtoken s hs i hi)) (by rintro x σ1 ⟨σ2, ⟨rfl, e⟩, rfl⟩; exact ⟨rfl, e⟩))
theorem q_rMost (s : Bs) (hs : s.length ≤ 1000000000) : AC Tryz.prog 76 [.v (.string (str (s)))] ([]) (fun r σ' => ∃ a, r = .ret a ∧ FrzT σ' (fun _ => false) a (.tuple [.list 5 ((lex s).1.map encK), .agg (encF (lex s).2)])) := by
 refine ac_enter 55 Tryz.func76 rfl rfl (by simp) ?_
 refine aw_seq ?_
 refine aw_region ?_
 refine al_op (op_assign rfl) rfl (by simp) ?_
 (refine al_opR (op_alloc 3 info40 rfl rfl) rfl (by simp) ?_; rintro _ _ ⟨ver3, rfl, rfl⟩)
 refine al_nil ?_
 refine aw_seq ?_
 refine aw_region ?_
 refine al_op (op_assign rfl) rfl (by simp) ?_
 refine al_nil ?_
 refine aw_seq ?_
 refine aw_seq ?_
 refine aw_region ?_
 refine al_op (op_move rfl) rfl (by simp) ?_
 refine al_callp into127 rfl rfl rfl (r_next s hs 0 (Nat.zero_le _) _) (by simp) ?_
 refine al_op (op_assign rfl) rfl (by simp) ?_
 refine al_nil ?_
 refine aw_block ?_
 refine aw_own_map encK 4 5 4 rfl rfl (fun ver4 => ?_)
 refine aw_for3T (α := Nat) (β := List Tk) (γ := Nat) [2, 4, 5] [6] (fun i acc ver => s.length - i) (fun i acc ver => (i ≤ s.length ∧ nextAt s i = i) ∧ acc.length ≤ i ∧ lex s = (acc ++ (lexFrom s i).1, (lexFrom s i).2)) (fun i acc ver => ([(4, .slice 4 ver 0 acc.length), (5, .v (.int .i64 ((i : Nat) : Int)))] : Env)) (fun i acc ver st => ([(3, ver3, .row 4 [encF okF]), (4, ver, .row 5 (acc.map encK))] : Store)) (nextAt s 0) ([]) (ver4) ?_ ?_ ?_ (fun i acc ver hinv => ?_)
 ·exact ⟨⟨(nextAt_le s 0 (Nat.zero_le _)).2, next_idem s 0⟩, Nat.zero_le _, lex_start s⟩
 ·refine sub_cons (get_as rfl ?_) ?_; rotate_left; refine sub_cons (get_as rfl ?_) ?_; rotate_left; exact sub_nil
  all_goals (first | rfl | simp)
 ·rfl
 obtain ⟨⟨hi, hni⟩, hac, hlx⟩ := hinv
 refine aw_seq ?_
 refine aw_seq ?_
 refine aw_region ?_
 refine al_op (op_move rfl) rfl (by simp) ?_
 refine al_op (op_move rfl) rfl (by simp) ?_
 refine al_op (op_slen_str (ts := #[]) Tryz.underlying9 rfl) rfl (by simp) ?_
 refine al_op (op_lss rfl rfl) rfl (by simp) ?_
 refine al_nil ?_
 refine aw_cond rfl (fun h1 => ?_) (fun h1 => ?_)
 ·have gh1 := h1
  try simp only [nrm] at h1
  refine aw_skip ?_
  refine aw_seq ?_
  refine aw_block ?_
  refine aw_seq ?_
  refine aw_region ?_
  refine al_op (op_move rfl) rfl (by simp) ?_
  refine al_op (op_move rfl) rfl (by simp) ?_
  refine al_callp into128 rfl rfl rfl (r_token s hs i (by omega) _) (by simp) ?_
  refine al_op (op_move rfl) rfl (by simp) ?_
  refine al_op (op_extract rfl rfl rfl) rfl (by simp) ?_
  refine al_op (op_extract rfl rfl rfl) rfl (by simp) ?_
  (refine al_opR (op_alloc 6 info65 rfl rfl) rfl (by simp) ?_; rintro _ _ ⟨ver6, rfl, rfl⟩)
  refine al_op (op_store_ptr info65 rfl rfl rfl rfl rfl rfl (by first | rfl | exact live_one rfl | (repeat (first | exact all_live_nil | refine all_live_clo rfl ?_ | refine all_live_slice rfl ?_ | refine all_live_map rfl ?_ | refine all_live_ptr rfl ?_))) (Nat.le_of_ble_eq_true rfl)) rfl (by simp) ?_
  refine al_op (op_assign rfl) rfl (by simp) ?_
  refine al_nil ?_
  refine aw_seq ?_
  refine aw_region ?_
  refine al_op (op_move rfl) rfl (by simp) ?_
  refine al_op (op_move rfl) rfl (by simp) ?_
  refine al_callp into129 rfl rfl rfl (r_place s hs i (by omega) _) (by simp) ?_
  refine al_op (op_move rfl) rfl (by simp) ?_
  refine al_op (op_extract rfl rfl rfl) rfl (by simp) ?_
  refine al_op (op_extract rfl rfl rfl) rfl (by simp) ?_
  refine al_op (op_assign rfl) rfl (by simp) ?_
  refine al_op (op_assign rfl) rfl (by simp) ?_
  refine al_nil ?_
  refine aw_seq ?_
  refine aw_seq ?_
  refine aw_region ?_
  refine al_op (op_move rfl) rfl (by simp) ?_
  refine al_op (op_eql rfl rfl) rfl (by simp) ?_
  refine al_nil ?_
  refine aw_cond rfl (fun h2 => ?_) (fun h2 => ?_)
  ·have gh2 := h2
   try simp only [nrm] at h2
   refine aw_seq ?_
   refine aw_any (Checked.mixed Tryz.checked) ?_
   apply aany_seg (p := 0) (q := 10) (by kernel_rfl) rfl (by decide)
   ·
    apply ql_plain rfl (op_move rfl)
    apply ql_plain rfl (op_move rfl)
    apply ql_plain rfl (op_move rfl)
    apply ql_plain rfl (op_move rfl)
    apply ql_plain rfl (op_add rfl rfl (by first | exact wrap_i64 (by omega) (by omega)))
    apply ql_plain rfl (op_cut_str Tryz.underlying9 rfl (.of rfl (show _ = ((i : Nat) : Int) from by omega)) (.of rfl (show _ = (((i + 1) : Nat) : Int) from by omega)) (by omega) (by first | omega | (simp; omega)))
    apply ql_plain rfl (op_move rfl)
    apply ql_plain rfl (op_move rfl)
    apply ql_plain rfl (op_build_struct Tryz.underlying40 info40 rfl place40 rfl (by first | rfl | (repeat (first | exact parts_nil | refine parts_cons rfl (by repeat (first | exact all_live_nil | refine all_live_clo rfl ?_ | refine all_live_slice rfl ?_ | refine all_live_map rfl ?_ | refine all_live_ptr rfl ?_)) ?_))) rfl)
    apply ql_plain rfl (op_assign rfl)
    exact ql_nil
   ·simp
   refine aany_op (by kernel_rfl) rfl rfl (op_store_ptr info40 rfl rfl rfl rfl rfl rfl (by first | rfl | exact live_one rfl | (repeat (first | exact all_live_nil | refine all_live_clo rfl ?_ | refine all_live_slice rfl ?_ | refine all_live_map rfl ?_ | refine all_live_ptr rfl ?_))) (Nat.le_of_ble_eq_true rfl)) (by simp) ?_
   refine aany_end rfl (by kernel_rfl) ?_
   refine aw_ret ?_
   refine ⟨_, res_tmp_cell rfl rfl Tryz.underlying40 info40 rfl rfl rfl rfl rfl rfl, ?_⟩
   rw [most_bad hlx (round_bad (by omega) hni gh2), badF_cut]; exact ⟨_, rfl, .tuple _ _ (frz3_cons (.leaf _ _ (frz_whole rfl rfl (List.length_map _).symm (clo_map (fun _ => rfl)))) (frz3_cons (.leaf _ _ (.same _)) frz3_nil))⟩
  ·have gh2 := h2
   try simp only [nrm] at h2
   refine aw_skip ?_
   refine aw_seq ?_
   obtain ⟨ht1, ht2, ht3⟩ := tokA_some gh2
   rw [List.length_drop] at ht3
   refine aw_region ?_
   refine al_op (op_move rfl) rfl (by simp) ?_
   refine al_op (op_move rfl) rfl (by simp) ?_
   refine al_op (op_field_ptr Tryz.underlying65 rfl info3 (by decide) rfl rfl rfl) rfl (by simp) ?_
   refine al_op (op_store_ptr info3 rfl rfl rfl rfl rfl rfl (by first | rfl | exact live_one rfl | (repeat (first | exact all_live_nil | refine all_live_clo rfl ?_ | refine all_live_slice rfl ?_ | refine all_live_map rfl ?_ | refine all_live_ptr rfl ?_))) (Nat.le_of_ble_eq_true rfl)) rfl (by simp) ?_
   refine al_op (op_field_ptr Tryz.underlying65 rfl info3 (by decide) rfl rfl rfl) rfl (by simp) ?_
   refine al_op (op_store_ptr info3 rfl rfl rfl rfl rfl rfl (by first | rfl | exact live_one rfl | (repeat (first | exact all_live_nil | refine all_live_clo rfl ?_ | refine all_live_slice rfl ?_ | refine all_live_map rfl ?_ | refine all_live_ptr rfl ?_))) (Nat.le_of_ble_eq_true rfl)) rfl (by simp) ?_
   refine al_nil ?_
   refine aw_seq ?_
   refine aw_region ?_
   refine al_op (op_move rfl) rfl (by simp) ?_
   refine al_op (op_load_ptr Tryz.underlying65 info65 rfl rfl rfl rfl) rfl (by simp) ?_
   refine al_op (op_buildSlice Tryz.underlying22 info65 rfl rfl (by decide) rfl (by decide) rfl (by first | rfl | (repeat (first | exact parts_nil | refine parts_cons rfl (by repeat (first | exact all_live_nil | refine all_live_clo rfl ?_ | refine all_live_slice rfl ?_ | refine all_live_map rfl ?_ | refine all_live_ptr rfl ?_)) ?_))) rfl rfl rfl) rfl (by simp) ?_
   (refine al_opR (op_append_one (mkTk s i) Tryz.underlying22 Tryz.underlying22 rfl info65 rfl rfl (by decide) rfl rfl rfl (by first | rfl | simp) rfl rfl (by first | omega | (simp; done) | (simp; omega)) (by show _ * 48 ≤ _; first | omega | (simp; done) | (simp; omega))) rfl (by simp) ?_; rintro _ _ ⟨ver49, rfl, rfl⟩)
   refine al_op (op_assign rfl) rfl (by simp) ?_
   refine al_nil ?_
   refine aw_region ?_
   refine al_op (op_move rfl) rfl (by simp) ?_
   refine al_op (op_move rfl) rfl (by simp) ?_
   refine al_op (op_add rfl rfl (by first | exact wrap_i64 (by omega) (by omega))) rfl (by simp) ?_
   refine al_op (op_assign rfl) rfl (by simp) ?_
   refine al_nil ?_
   refine aw_region ?_
   refine al_op (op_move rfl) rfl (by simp) ?_
   refine al_op (op_move rfl) rfl (by simp) ?_
   refine al_callp into127 rfl rfl rfl (r_next s hs (i + (tokA (s.drop i)).2.2.2) (by omega) _) (by simp) ?_
   refine al_op (op_assign rfl) rfl (by simp) ?_
   refine al_nil ?_
   refine ⟨(nextAt s (i + (tokA (s.drop i)).2.2.2)), acc ++ [mkTk s i], ver49, ?_, ?_, ?_, ?_, ?_⟩
   ·(have hnl := nextAt_le s (i + (tokA (s.drop i)).2.2.2) (by omega)); omega
   ·exact ⟨⟨(nextAt_le s _ (by omega)).2, next_idem s _⟩, by have hnl := nextAt_le s (i + (tokA (s.drop i)).2.2.2) (by omega); rw [List.length_append, List.length_singleton]; omega, lex_more hlx (round_ok (by omega) hni gh2)⟩
   ·refine sub_cons (get_as rfl ?_) ?_; rotate_left; refine sub_cons (get_as rfl ?_) ?_; rotate_left; exact sub_nil
    all_goals (first | rfl | simp)
   ·repeat (first | exact subx_refl | exact subx_del | refine subx_put rfl ?_)
   ·rfl
 ·have gh1 := h1
  try simp only [nrm] at h1
  refine aw_exit ?_
  skip
  refine aw_seq ?_
  refine aw_region ?_
  refine al_op (op_move rfl) rfl (by simp) ?_
  refine al_op (op_build_struct Tryz.underlying40 info40 rfl place40 rfl (by first | rfl | (repeat (first | exact parts_nil | refine parts_cons rfl (by repeat (first | exact all_live_nil | refine all_live_clo rfl ?_ | refine all_live_slice rfl ?_ | refine all_live_map rfl ?_ | refine all_live_ptr rfl ?_)) ?_))) rfl) rfl (by simp) ?_
  refine al_op (op_assign rfl) rfl (by simp) ?_
  refine al_op (op_store_ptr info40 rfl rfl rfl rfl rfl rfl (by first | rfl | exact live_one rfl | (repeat (first | exact all_live_nil | refine all_live_clo rfl ?_ | refine all_live_slice rfl ?_ | refine all_live_map rfl ?_ | refine all_live_ptr rfl ?_))) (by decide)) rfl (by simp) ?_
  refine al_nil ?_
  refine aw_ret ?_
  refine ⟨_, res_tmp_cell rfl rfl Tryz.underlying40 info40 rfl rfl rfl rfl rfl rfl, ?_⟩
  rw [most_ok hlx hi (by omega)]; exact ⟨_, rfl, .tuple _ _ (frz3_cons (.leaf _ _ (frz_whole rfl rfl (List.length_map _).symm (clo_map (fun _ => rfl)))) (frz3_cons (.leaf _ _ (.same _)) frz3_nil))⟩
theorem r_Most (s : Bs) (hs : s.length ≤ 1000000000) : ACp Tryz.prog 76 [.v (.string (str (s)))] (.tuple [.list 5 ((lex s).1.map encK), .agg (encF (lex s).2)]) :=
  acp_of (lex_clo s) (ac_frz (fun _ => false) (q_rMost s hs) (by rintro x σ1 ⟨a, rfl, h⟩; exact ⟨a, _, rfl, h, rfl, keep_nothing _⟩))
theorem q_rLex (s : Bs) (hs : s.length ≤ 1000000000) : AC Tryz.prog 37 [.v (.string (str (s)))] ([]) (fun r σ' => ∃ a, r = .ret a ∧ FrzT σ' (fun _ => false) a (.tuple [.list 5 ((lexP s).1.map encK), .agg (encF (lexP s).2)])) := by
 refine ac_enter 21 Tryz.func37 rfl rfl (by simp) ?_
 refine aw_seq ?_
 refine aw_region ?_
 refine al_op (op_assign rfl) rfl (by simp) ?_
 (refine al_opR (op_alloc 3 info40 rfl rfl) rfl (by simp) ?_; rintro _ _ ⟨ver3, rfl, rfl⟩)
 refine al_nil ?_
 refine aw_seq ?_
 refine aw_seq ?_
 refine aw_region ?_
 refine al_op (op_move rfl) rfl (by simp) ?_
 refine al_op (op_slen_str (ts := #[]) Tryz.underlying9 rfl) rfl (by simp) ?_
 refine al_op (op_gtr rfl rfl) rfl (by simp) ?_
 refine al_nil ?_
 refine aw_cond rfl (fun h1 => ?_) (fun h1 => ?_)
 ·have gh1 := h1
  try simp only [nrm] at h1
  refine aw_seq ?_
  refine aw_region ?_
  refine al_op (op_build_struct Tryz.underlying40 info40 rfl place40 rfl (by first | rfl | (repeat (first | exact parts_nil | refine parts_cons rfl (by repeat (first | exact all_live_nil | refine all_live_clo rfl ?_ | refine all_live_slice rfl ?_ | refine all_live_map rfl ?_ | refine all_live_ptr rfl ?_)) ?_))) rfl) rfl (by simp) ?_
  refine al_op (op_assign rfl) rfl (by simp) ?_
  refine al_op (op_store_ptr info40 rfl rfl rfl rfl rfl rfl (by first | rfl | exact live_one rfl | (repeat (first | exact all_live_nil | refine all_live_clo rfl ?_ | refine all_live_slice rfl ?_ | refine all_live_map rfl ?_ | refine all_live_ptr rfl ?_))) (by decide)) rfl (by simp) ?_
  refine al_nil ?_
  refine aw_ret ?_
  refine ⟨_, res_tmp_cell rfl rfl Tryz.underlying40 info40 rfl rfl rfl rfl rfl rfl, ?_⟩
  rw [lexP_long gh1]; exact ⟨_, rfl, .tuple _ _ (frz3_cons (.leaf _ _ (.vnil 5)) (frz3_cons (.leaf _ _ (.same _)) frz3_nil))⟩
 ·have gh1 := h1
  try simp only [nrm] at h1
  refine aw_skip ?_
  refine aw_seq ?_
  refine aw_region ?_
  refine al_op (op_move rfl) rfl (by simp) ?_
  refine al_callp into76 rfl rfl rfl ((r_Most _ (by first | assumption | omega | (simp; done) | (simp; omega) | decide)) _) (by simp) ?_
  refine al_op (op_move rfl) rfl (by simp) ?_
  refine al_op (op_extract rfl rfl rfl) rfl (by simp) ?_
  refine al_op (op_extract rfl rfl rfl) rfl (by simp) ?_
  (refine al_opR (op_alloc 5 info40 rfl rfl) rfl (by simp) ?_; rintro _ _ ⟨ver5, rfl, rfl⟩)
  refine al_op (op_assign rfl) rfl (by simp) ?_
  refine al_op (op_store_ptr info40 rfl rfl rfl rfl rfl rfl (by first | rfl | exact live_one rfl | (repeat (first | exact all_live_nil | refine all_live_clo rfl ?_ | refine all_live_slice rfl ?_ | refine all_live_map rfl ?_ | refine all_live_ptr rfl ?_))) (Nat.le_of_ble_eq_true rfl)) rfl (by simp) ?_
  refine al_nil ?_
  refine aw_seq ?_
  refine aw_seq ?_
  refine aw_region ?_
  refine al_op (op_field_ptr Tryz.underlying40 rfl info38 (by decide) rfl rfl rfl) rfl (by simp) ?_
  refine al_op (op_load_ptr Tryz.underlying38 info38 rfl rfl rfl rfl) rfl (by simp) ?_
  refine al_op (op_neq rfl rfl) rfl (by simp) ?_
  refine al_nil ?_
  refine aw_cond rfl (fun h2 => ?_) (fun h2 => ?_)
  ·have gh2 := h2
   try simp only [nrm] at h2
   refine aw_seq ?_
   refine aw_any (Checked.mixed Tryz.checked) ?_
   apply aany_seg (p := 0) (q := 2) (by kernel_rfl) rfl (by decide)
   ·
    apply ql_plain rfl (op_load_ptr Tryz.underlying40 info40 rfl rfl rfl rfl)
    apply ql_plain rfl (op_assign rfl)
    exact ql_nil
   ·simp
   refine aany_op (by kernel_rfl) rfl rfl (op_store_ptr info40 rfl rfl rfl rfl rfl rfl (by first | rfl | exact live_one rfl | (repeat (first | exact all_live_nil | refine all_live_clo rfl ?_ | refine all_live_slice rfl ?_ | refine all_live_map rfl ?_ | refine all_live_ptr rfl ?_))) (Nat.le_of_ble_eq_true rfl)) (by simp) ?_
   refine aany_end rfl (by kernel_rfl) ?_
   refine aw_ret ?_
   refine ⟨_, res_tmp_cell rfl rfl Tryz.underlying40 info40 rfl rfl rfl rfl rfl rfl, ?_⟩
   rw [lexP_no gh1 gh2]; exact ⟨_, rfl, .tuple _ _ (frz3_cons (.leaf _ _ (.vnil 5)) (frz3_cons (.leaf _ _ (.same _)) frz3_nil))⟩
  ·have gh2 := h2
   try simp only [nrm] at h2
   refine aw_skip ?_
   refine aw_seq ?_
   refine aw_any (Checked.mixed Tryz.checked) ?_
   apply aany_seg (p := 0) (q := 3) (by kernel_rfl) rfl (by decide)
   ·
    apply ql_plain rfl (op_move rfl)
    apply ql_plain rfl (op_load_ptr Tryz.underlying40 info40 rfl rfl rfl rfl)
    apply ql_plain rfl (op_assign rfl)
    exact ql_nil
   ·simp
   refine aany_op (by kernel_rfl) rfl rfl (op_store_ptr info40 rfl rfl rfl rfl rfl rfl (by first | rfl | exact live_one rfl | (repeat (first | exact all_live_nil | refine all_live_clo rfl ?_ | refine all_live_slice rfl ?_ | refine all_live_map rfl ?_ | refine all_live_ptr rfl ?_))) (Nat.le_of_ble_eq_true rfl)) (by simp) ?_
   refine aany_end rfl (by kernel_rfl) ?_
   refine aw_ret ?_
   refine ⟨_, res_tmp_cell rfl rfl Tryz.underlying40 info40 rfl rfl rfl rfl rfl rfl, ?_⟩
   rw [lexP_yes gh1 gh2]; exact ⟨_, rfl, .tuple _ _ (frz3_cons (.leaf _ _ (.same _)) (frz3_cons (.leaf _ _ (.same _)) frz3_nil))⟩
theorem r_Lex (s : Bs) (hs : s.length ≤ 1000000000) : ACp Tryz.prog 37 [.v (.string (str (s)))] (.tuple [.list 5 ((lexP s).1.map encK), .agg (encF (lexP s).2)]) :=
  acp_of (lexP_clo s) (ac_frz (fun _ => false) (q_rLex s hs) (by rintro x σ1 ⟨a, rfl, h⟩; exact ⟨a, _, rfl, h, rfl, keep_nothing _⟩))
end Go.Proofs.YtcgdlhkiecommaaGreatDoor
