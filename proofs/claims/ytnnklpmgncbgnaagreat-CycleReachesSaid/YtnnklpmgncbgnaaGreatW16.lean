/- Printed walks (gen.py, gates_ann.py): part 16. -/
import Derived.Test.YtnnklpmgncbgnaaGreatW07
import Derived.Test.YtnnklpmgncbgnaaGreatFacts
set_option linter.unusedVariables false
set_option linter.unusedSimpArgs false
set_option maxRecDepth 20000
set_option maxHeartbeats 40000000
namespace Go.Proofs.YtnnklpmgncbgnaaGreat
open Go

theorem r_Bit (b : Int) : ACp Tryz.prog 103 [.v (.int .u8 (b))] (.v (.bool (isBit4 b))) := by
 refine acp_of rfl ?_
 refine ac_enter 17 Tryz.func103 rfl rfl (by simp) ?_
 refine aw_seq ?_
 refine aw_region ?_
 refine al_op (op_assign rfl) rfl (by simp) ?_
 refine al_nil ?_
 refine aw_seq ?_
 refine aw_region ?_
 refine al_op (op_move rfl) rfl (by simp) ?_
 refine al_op (op_eql rfl rfl) rfl (by simp) ?_
 refine al_op (op_move rfl) rfl (by simp) ?_
 apply al_or 3 5 8 rfl
 ·intro h1; have gh1 := h1
  try simp only [nrm] at h1
  refine al_take (op_move rfl) rfl rfl rfl rfl (by simp) ?_
  refine al_take (op_eql rfl rfl) rfl rfl rfl rfl (by simp) ?_
  refine al_op (op_pick rfl rfl) rfl (by simp) ?_
  refine al_nil ⟨rfl, rfl, rfl, keep_of ?_⟩
  repeat (first | exact subx_refl | exact subx_known rfl gh1 subx_refl | refine subx_put rfl ?_)
 ·intro h1; have gh1 := h1
  try simp only [nrm] at h1
  refine al_pass rfl rfl rfl rfl (by simp) ?_
  refine al_pass rfl rfl rfl rfl (by simp) ?_
  refine al_op (op_pick rfl rfl) rfl (by simp) ?_
  refine al_nil ⟨rfl, rfl, rfl, keep_of ?_⟩
  repeat (first | exact subx_refl | exact subx_known rfl gh1 subx_refl | refine subx_put rfl ?_)
 refine al_op (op_move rfl) rfl (by simp) ?_
 apply al_or 3 9 12 rfl
 ·intro h2; have gh2 := h2
  try simp only [nrm] at h2
  refine al_take (op_move rfl) rfl rfl rfl rfl (by simp) ?_
  refine al_take (op_eql rfl rfl) rfl rfl rfl rfl (by simp) ?_
  refine al_op (op_pick rfl rfl) rfl (by simp) ?_
  refine al_nil ⟨rfl, rfl, rfl, keep_of ?_⟩
  repeat (first | exact subx_refl | exact subx_known rfl gh2 subx_refl | refine subx_put rfl ?_)
 ·intro h2; have gh2 := h2
  try simp only [nrm] at h2
  refine al_pass rfl rfl rfl rfl (by simp) ?_
  refine al_pass rfl rfl rfl rfl (by simp) ?_
  refine al_op (op_pick rfl rfl) rfl (by simp) ?_
  refine al_nil ⟨rfl, rfl, rfl, keep_of ?_⟩
  repeat (first | exact subx_refl | exact subx_known rfl gh2 subx_refl | refine subx_put rfl ?_)
 refine al_op (op_move rfl) rfl (by simp) ?_
 apply al_or 3 13 16 rfl
 ·intro h3; have gh3 := h3
  try simp only [nrm] at h3
  refine al_take (op_move rfl) rfl rfl rfl rfl (by simp) ?_
  refine al_take (op_eql rfl rfl) rfl rfl rfl rfl (by simp) ?_
  refine al_op (op_pick rfl rfl) rfl (by simp) ?_
  refine al_nil ⟨rfl, rfl, rfl, keep_of ?_⟩
  repeat (first | exact subx_refl | exact subx_known rfl gh3 subx_refl | refine subx_put rfl ?_)
 ·intro h3; have gh3 := h3
  try simp only [nrm] at h3
  refine al_pass rfl rfl rfl rfl (by simp) ?_
  refine al_pass rfl rfl rfl rfl (by simp) ?_
  refine al_op (op_pick rfl rfl) rfl (by simp) ?_
  refine al_nil ⟨rfl, rfl, rfl, keep_of ?_⟩
  repeat (first | exact subx_refl | exact subx_known rfl gh3 subx_refl | refine subx_put rfl ?_)
 refine al_op (op_assign rfl) rfl (by simp) ?_
 refine al_nil ?_
 refine aw_freeze (fun _ => false) (fsub_cons (t := 2) rfl (.leaf _ _ (.same _)) fsub_nil) ?_
 refine aw_ret ?_
 refine ⟨_, res_1 rfl rfl, ?_, rfl⟩
 first | rfl | simp_all

theorem r_ofc (c : Int) : ACp Tryz.prog 104 [.v (.int .u8 (c))] (.tuple [.v (.int .u8 (ofC c)), .v (.bool (ofCok c))]) := by
 refine acp_of rfl ?_
 refine ac_enter 13 Tryz.func104 rfl rfl (by simp) ?_
 refine aw_seq ?_
 refine aw_region ?_
 refine al_op (op_assign rfl) rfl (by simp) ?_
 refine al_op (op_assign rfl) rfl (by simp) ?_
 refine al_nil ?_
 refine aw_seq ?_
 refine aw_seq ?_
 refine aw_region ?_
 refine al_op (op_move rfl) rfl (by simp) ?_
 refine al_nil ?_
 refine aw_block ?_
 refine aw_seq ?_
 refine aw_region ?_
 refine al_op (op_eql rfl rfl) rfl (by simp) ?_
 refine al_op (op_assign rfl) rfl (by simp) ?_
 refine al_nil ?_
 refine aw_cond rfl (fun h1 => ?_) (fun h1 => ?_)
 ·have gh1 := h1
  try simp only [nrm] at h1
  refine aw_seq ?_
  refine aw_region ?_
  refine al_op (op_assign rfl) rfl (by simp) ?_
  refine al_op (op_assign rfl) rfl (by simp) ?_
  refine al_nil ?_
  refine aw_freeze (fun _ => false) (fsub_cons (t := 2) rfl (.leaf _ _ (.same _)) (fsub_cons (t := 3) rfl (.leaf _ _ (.same _)) fsub_nil)) ?_
  refine aw_ret ?_
  refine ⟨_, res_2 rfl rfl rfl rfl rfl, ?_, rfl⟩
  simp_all [ofC, ofCok]
 ·have gh1 := h1
  try simp only [nrm] at h1
  refine aw_seq ?_
  refine aw_region ?_
  refine al_op (op_eql rfl rfl) rfl (by simp) ?_
  refine al_op (op_assign rfl) rfl (by simp) ?_
  refine al_nil ?_
  refine aw_cond rfl (fun h2 => ?_) (fun h2 => ?_)
  ·have gh2 := h2
   try simp only [nrm] at h2
   refine aw_seq ?_
   refine aw_region ?_
   refine al_op (op_assign rfl) rfl (by simp) ?_
   refine al_op (op_assign rfl) rfl (by simp) ?_
   refine al_nil ?_
   refine aw_freeze (fun _ => false) (fsub_cons (t := 2) rfl (.leaf _ _ (.same _)) (fsub_cons (t := 3) rfl (.leaf _ _ (.same _)) fsub_nil)) ?_
   refine aw_ret ?_
   refine ⟨_, res_2 rfl rfl rfl rfl rfl, ?_, rfl⟩
   simp_all [ofC, ofCok]
  ·have gh2 := h2
   try simp only [nrm] at h2
   refine aw_seq ?_
   refine aw_region ?_
   refine al_op (op_eql rfl rfl) rfl (by simp) ?_
   refine al_op (op_assign rfl) rfl (by simp) ?_
   refine al_nil ?_
   refine aw_cond rfl (fun h3 => ?_) (fun h3 => ?_)
   ·have gh3 := h3
    try simp only [nrm] at h3
    refine aw_seq ?_
    refine aw_region ?_
    refine al_op (op_assign rfl) rfl (by simp) ?_
    refine al_op (op_assign rfl) rfl (by simp) ?_
    refine al_nil ?_
    refine aw_freeze (fun _ => false) (fsub_cons (t := 2) rfl (.leaf _ _ (.same _)) (fsub_cons (t := 3) rfl (.leaf _ _ (.same _)) fsub_nil)) ?_
    refine aw_ret ?_
    refine ⟨_, res_2 rfl rfl rfl rfl rfl, ?_, rfl⟩
    simp_all [ofC, ofCok]
   ·have gh3 := h3
    try simp only [nrm] at h3
    refine aw_seq ?_
    refine aw_region ?_
    refine al_op (op_eql rfl rfl) rfl (by simp) ?_
    refine al_op (op_assign rfl) rfl (by simp) ?_
    refine al_nil ?_
    refine aw_cond rfl (fun h4 => ?_) (fun h4 => ?_)
    ·have gh4 := h4
     try simp only [nrm] at h4
     refine aw_seq ?_
     refine aw_region ?_
     refine al_op (op_assign rfl) rfl (by simp) ?_
     refine al_op (op_assign rfl) rfl (by simp) ?_
     refine al_nil ?_
     refine aw_freeze (fun _ => false) (fsub_cons (t := 2) rfl (.leaf _ _ (.same _)) (fsub_cons (t := 3) rfl (.leaf _ _ (.same _)) fsub_nil)) ?_
     refine aw_ret ?_
     refine ⟨_, res_2 rfl rfl rfl rfl rfl, ?_, rfl⟩
     simp_all [ofC, ofCok]
    ·have gh4 := h4
     try simp only [nrm] at h4
     refine aw_skip ?_
     refine aw_seq ?_
     refine aw_region ?_
     refine al_op (op_assign rfl) rfl (by simp) ?_
     refine al_op (op_assign rfl) rfl (by simp) ?_
     refine al_nil ?_
     refine aw_freeze (fun _ => false) (fsub_cons (t := 2) rfl (.leaf _ _ (.same _)) (fsub_cons (t := 3) rfl (.leaf _ _ (.same _)) fsub_nil)) ?_
     refine aw_ret ?_
     refine ⟨_, res_2 rfl rfl rfl rfl rfl, ?_, rfl⟩
     simp_all [ofC, ofCok]

theorem r_table  : ACp Tryz.prog 102 [.v (.string (ByteArray.mk #[97, 110, 100]))] (.tuple [.v (.string (ByteArray.mk #[48, 48, 48, 48, 48, 49, 120, 120, 48, 120, 120, 120, 48, 120, 120, 120])), .v (.bool (true))]) := by
 refine acp_of rfl ?_
 refine ac_enter 17 Tryz.func102 rfl rfl (by simp) ?_
 refine aw_seq ?_
 refine aw_region ?_
 refine al_op (op_assign rfl) rfl (by simp) ?_
 refine al_op (op_assign rfl) rfl (by simp) ?_
 refine al_nil ?_
 refine aw_seq ?_
 refine aw_seq ?_
 refine aw_region ?_
 refine al_op (op_move rfl) rfl (by simp) ?_
 refine al_nil ?_
 refine aw_block ?_
 refine aw_seq ?_
 refine aw_region ?_
 refine al_op (op_seql rfl rfl) rfl (by simp) ?_
 refine al_op (op_assign rfl) rfl (by simp) ?_
 refine al_nil ?_
 refine aw_cond rfl (fun h1 => ?_) (fun h1 => ?_)
 ·have gh1 := h1
  try simp only [nrm] at h1
  refine aw_seq ?_
  refine aw_region ?_
  refine al_op (op_assign rfl) rfl (by simp) ?_
  refine al_op (op_assign rfl) rfl (by simp) ?_
  refine al_nil ?_
  refine aw_freeze (fun _ => false) (fsub_cons (t := 2) rfl (.leaf _ _ (.same _)) (fsub_cons (t := 3) rfl (.leaf _ _ (.same _)) fsub_nil)) ?_
  refine aw_ret ?_
  refine ⟨_, res_2 rfl rfl rfl rfl rfl, ?_, rfl⟩
  first | rfl | simp_all
 ·have gh1 := h1
  try simp only [nrm] at h1
  exact absurd gh1 (by rw [← Go.beq_toListBytes]; decide)

theorem r_Op (a b : Int) (ha : isBit a) (hb : isBit b) : ACp Tryz.prog 99 [.v (.string (ByteArray.mk #[97, 110, 100])), .v (.int .u8 (a)), .v (.int .u8 (b))] (.tuple [.v (.int .u8 (bothB a b)), .v (.int .i64 (0))]) := by
 refine acp_of rfl ?_
 have ra : 0 ≤ a ∧ a ≤ 2 := by unfold isBit at ha; omega
 have rb : 0 ≤ b ∧ b ≤ 2 := by unfold isBit at hb; omega
 have ka : isBit4 a = true := by unfold isBit at ha; rcases ha with rfl | rfl | rfl <;> rfl
 have kb : isBit4 b = true := by unfold isBit at hb; rcases hb with rfl | rfl | rfl <;> rfl
 refine ac_enter 42 Tryz.func99 rfl rfl (by simp) ?_
 refine aw_seq ?_
 refine aw_region ?_
 refine al_op (op_assign rfl) rfl (by simp) ?_
 refine al_op (op_assign rfl) rfl (by simp) ?_
 refine al_nil ?_
 refine aw_seq ?_
 refine aw_region ?_
 refine al_op (op_move rfl) rfl (by simp) ?_
 refine al_callp into102 rfl rfl rfl ((r_table ) _) (by simp) ?_
 refine al_op (op_move rfl) rfl (by simp) ?_
 refine al_op (op_extract rfl rfl rfl) rfl (by simp) ?_
 refine al_op (op_extract rfl rfl rfl) rfl (by simp) ?_
 refine al_op (op_assign rfl) rfl (by simp) ?_
 refine al_op (op_assign rfl) rfl (by simp) ?_
 refine al_nil ?_
 refine aw_seq ?_
 refine aw_seq ?_
 refine aw_region ?_
 refine al_op (op_move rfl) rfl (by simp) ?_
 refine al_op (op_not rfl) rfl (by simp) ?_
 refine al_op (op_move rfl) rfl (by simp) ?_
 apply al_or 4 19 23 rfl
 ·intro h1; have gh1 := h1
  try simp only [nrm] at h1
  refine al_take (op_move rfl) rfl rfl rfl rfl (by simp) ?_
  refine al_callp_take into103 rfl rfl rfl rfl rfl rfl ((r_Bit _) _) (by simp) ?_
  refine al_take (op_not rfl) rfl rfl rfl rfl (by simp) ?_
  refine al_op (op_pick rfl rfl) rfl (by simp) ?_
  refine al_nil ⟨rfl, rfl, rfl, keep_of ?_⟩
  repeat (first | exact subx_refl | exact subx_known rfl gh1 subx_refl | refine subx_put rfl ?_)
 ·intro h1; have gh1 := h1
  try simp only [nrm] at h1
  refine al_pass rfl rfl rfl rfl (by simp) ?_
  refine al_pass rfl rfl rfl rfl (by simp) ?_
  refine al_pass rfl rfl rfl rfl (by simp) ?_
  refine al_op (op_pick rfl rfl) rfl (by simp) ?_
  refine al_nil ⟨rfl, rfl, rfl, keep_of ?_⟩
  repeat (first | exact subx_refl | exact subx_known rfl gh1 subx_refl | refine subx_put rfl ?_)
 refine al_op (op_move rfl) rfl (by simp) ?_
 apply al_or 4 24 28 rfl
 ·intro h2; have gh2 := h2
  try simp only [nrm] at h2
  refine al_take (op_move rfl) rfl rfl rfl rfl (by simp) ?_
  refine al_callp_take into103 rfl rfl rfl rfl rfl rfl ((r_Bit _) _) (by simp) ?_
  refine al_take (op_not rfl) rfl rfl rfl rfl (by simp) ?_
  refine al_op (op_pick rfl rfl) rfl (by simp) ?_
  refine al_nil ⟨rfl, rfl, rfl, keep_of ?_⟩
  repeat (first | exact subx_refl | exact subx_known rfl gh2 subx_refl | refine subx_put rfl ?_)
 ·intro h2; have gh2 := h2
  try simp only [nrm] at h2
  refine al_pass rfl rfl rfl rfl (by simp) ?_
  refine al_pass rfl rfl rfl rfl (by simp) ?_
  refine al_pass rfl rfl rfl rfl (by simp) ?_
  refine al_op (op_pick rfl rfl) rfl (by simp) ?_
  refine al_nil ⟨rfl, rfl, rfl, keep_of ?_⟩
  repeat (first | exact subx_refl | exact subx_known rfl gh2 subx_refl | refine subx_put rfl ?_)
 refine al_nil ?_
 refine aw_cond rfl (fun h3 => ?_) (fun h3 => ?_)
 ·have gh3 := h3
  try simp only [nrm] at h3
  rw [ka, kb] at gh3; exact absurd gh3 (by decide)
 ·have gh3 := h3
  try simp only [nrm] at h3
  refine aw_skip ?_
  refine aw_seq ?_
  refine aw_region ?_
  refine al_op (op_move rfl) rfl (by simp) ?_
  refine al_op (op_move rfl) rfl (by simp) ?_
  refine al_op (op_conv Tryz.underlying44 Tryz.underlying3 rfl (wrap_i64 (by omega) (by omega))) rfl (by simp) ?_
  refine al_op (op_mul rfl rfl (by first | exact wrap_i64 (by omega) (by omega))) rfl (by simp) ?_
  refine al_op (op_move rfl) rfl (by simp) ?_
  refine al_op (op_conv Tryz.underlying44 Tryz.underlying3 rfl (wrap_i64 (by omega) (by omega))) rfl (by simp) ?_
  refine al_op (op_add rfl rfl (by first | exact wrap_i64 (by omega) (by omega))) rfl (by simp) ?_
  refine al_op (op_sindex_at Tryz.underlying9 rfl rfl rfl (by omega) (by show _ < 16; omega)) rfl (by simp) ?_
  refine al_callp into104 rfl rfl rfl ((r_ofc _) _) (by simp) ?_
  refine al_op (op_move rfl) rfl (by simp) ?_
  refine al_op (op_extract rfl rfl rfl) rfl (by simp) ?_
  refine al_op (op_extract rfl rfl rfl) rfl (by simp) ?_
  refine al_op (op_assign rfl) rfl (by simp) ?_
  refine al_op (op_assign rfl) rfl (by simp) ?_
  refine al_nil ?_
  refine aw_seq ?_
  refine aw_region ?_
  refine al_op (op_move rfl) rfl (by simp) ?_
  refine al_op (op_assign rfl) rfl (by simp) ?_
  refine al_op (op_assign rfl) rfl (by simp) ?_
  refine al_nil ?_
  refine aw_freeze (fun _ => false) (fsub_cons (t := 6) rfl (.leaf _ _ (.same _)) (fsub_cons (t := 7) rfl (.leaf _ _ (.same _)) fsub_nil)) ?_
  refine aw_ret ?_
  refine ⟨_, res_2 rfl rfl rfl rfl rfl, ?_, rfl⟩
  unfold isBit at ha hb; rcases ha with rfl | rfl | rfl <;> rcases hb with rfl | rfl | rfl <;> rfl

theorem r_Not (a : Int) (ha : isBit a) : ACp Tryz.prog 100 [.v (.int .u8 (a))] (.tuple [.v (.int .u8 (notB a)), .v (.int .i64 (0))]) := by
 refine acp_of rfl ?_
 have ra : 0 ≤ a ∧ a ≤ 2 := by unfold isBit at ha; omega
 have ka : isBit4 a = true := by unfold isBit at ha; rcases ha with rfl | rfl | rfl <;> rfl
 refine ac_enter 16 Tryz.func100 rfl rfl (by simp) ?_
 refine aw_seq ?_
 refine aw_region ?_
 refine al_op (op_assign rfl) rfl (by simp) ?_
 refine al_op (op_assign rfl) rfl (by simp) ?_
 refine al_nil ?_
 refine aw_seq ?_
 refine aw_seq ?_
 refine aw_region ?_
 refine al_op (op_move rfl) rfl (by simp) ?_
 refine al_callp into103 rfl rfl rfl ((r_Bit _) _) (by simp) ?_
 refine al_op (op_not rfl) rfl (by simp) ?_
 refine al_nil ?_
 refine aw_cond rfl (fun h1 => ?_) (fun h1 => ?_)
 ·have gh1 := h1
  try simp only [nrm] at h1
  rw [ka] at gh1; exact absurd gh1 (by decide)
 ·have gh1 := h1
  try simp only [nrm] at h1
  refine aw_skip ?_
  refine aw_seq ?_
  refine aw_region ?_
  refine al_op (op_move rfl) rfl (by simp) ?_
  refine al_op (op_sindex_at Tryz.underlying9 rfl rfl rfl (by omega) (by show _ < 4; omega)) rfl (by simp) ?_
  refine al_callp into104 rfl rfl rfl ((r_ofc _) _) (by simp) ?_
  refine al_op (op_move rfl) rfl (by simp) ?_
  refine al_op (op_extract rfl rfl rfl) rfl (by simp) ?_
  refine al_op (op_extract rfl rfl rfl) rfl (by simp) ?_
  refine al_op (op_assign rfl) rfl (by simp) ?_
  refine al_op (op_assign rfl) rfl (by simp) ?_
  refine al_nil ?_
  refine aw_seq ?_
  refine aw_region ?_
  refine al_op (op_move rfl) rfl (by simp) ?_
  refine al_op (op_assign rfl) rfl (by simp) ?_
  refine al_op (op_assign rfl) rfl (by simp) ?_
  refine al_nil ?_
  refine aw_freeze (fun _ => false) (fsub_cons (t := 2) rfl (.leaf _ _ (.same _)) (fsub_cons (t := 3) rfl (.leaf _ _ (.same _)) fsub_nil)) ?_
  refine aw_ret ?_
  refine ⟨_, res_2 rfl rfl rfl rfl rfl, ?_, rfl⟩
  unfold isBit at ha; rcases ha with rfl | rfl | rfl <;> rfl

theorem r_of (lit : Int) (v : List Int) (h0 : 0 ≤ lit) (hm : lit ≤ 4611686018427387904) (hl : (lit / 2).toNat < v.length) (hv : ∀ x ∈ v, isBit x) : ACp Tryz.prog 89 [.v (.int .i64 (lit)), .list 1 (v.map encB)] (.v (.int .u8 (ofB v lit))) := by
 refine acp_of rfl ?_
 have hx := hv _ (getD_mem (v := v) hl)
 refine ac_enter 20 Tryz.func89 rfl rfl (by simp) ?_
 refine aw_seq ?_
 refine aw_region ?_
 refine al_op (op_assign rfl) rfl (by simp) ?_
 refine al_nil ?_
 refine aw_seq ?_
 refine aw_region ?_
 refine al_op (op_move rfl) rfl (by simp) ?_
 refine al_op (op_move rfl) rfl (by simp) ?_
 refine al_op (op_quo rfl rfl (by omega) (quo_nn (by omega) (by omega) (by omega))) rfl (by simp) ?_
 refine al_op (op_index_map default Tryz.underlying28 info44 rfl rfl rfl (by first | (with_reducible exact Int.toNat_natCast _) | rfl) (by omega) (by omega)) rfl (by simp) ?_
 refine al_op (op_load_rptr Tryz.underlying44 info44 rfl rfl) rfl (by simp) ?_
 refine al_op (op_assign rfl) rfl (by simp) ?_
 refine al_nil ?_
 refine aw_seq ?_
 refine aw_seq ?_
 refine aw_region ?_
 refine al_op (op_move rfl) rfl (by simp) ?_
 refine al_op (op_rem rfl rfl (by omega) (rem_nn (by omega))) rfl (by simp) ?_
 refine al_op (op_eql rfl rfl) rfl (by simp) ?_
 refine al_nil ?_
 refine aw_cond rfl (fun h1 => ?_) (fun h1 => ?_)
 ·have gh1 := h1
  try simp only [nrm] at h1
  refine aw_region ?_
  refine al_op (op_move rfl) rfl (by simp) ?_
  refine al_callp into100 rfl rfl rfl ((r_Not _ (by assumption)) _) (by simp) ?_
  refine al_op (op_move rfl) rfl (by simp) ?_
  refine al_op (op_extract rfl rfl rfl) rfl (by simp) ?_
  refine al_op (op_extract rfl rfl rfl) rfl (by simp) ?_
  refine al_op (op_assign rfl) rfl (by simp) ?_
  refine al_nil ?_
  refine aw_seq ?_
  refine aw_region ?_
  refine al_op (op_move rfl) rfl (by simp) ?_
  refine al_op (op_assign rfl) rfl (by simp) ?_
  refine al_nil ?_
  refine aw_freeze (fun _ => false) (fsub_cons (t := 4) rfl (.leaf _ _ (.same _)) fsub_nil) ?_
  refine aw_ret ?_
  refine ⟨_, res_1 rfl rfl, ?_, rfl⟩
  simp_all [ofB]
 ·have gh1 := h1
  try simp only [nrm] at h1
  refine aw_skip ?_
  refine aw_seq ?_
  refine aw_region ?_
  refine al_op (op_move rfl) rfl (by simp) ?_
  refine al_op (op_assign rfl) rfl (by simp) ?_
  refine al_nil ?_
  refine aw_freeze (fun _ => false) (fsub_cons (t := 4) rfl (.leaf _ _ (.same _)) fsub_nil) ?_
  refine aw_ret ?_
  refine ⟨_, res_1 rfl rfl, ?_, rfl⟩
  simp_all [ofB]

theorem r_known (b : Int) : ACp Tryz.prog 50 [.v (.int .u8 (b))] (.v (.bool (known b))) := by
 refine acp_of rfl ?_
 refine ac_enter 13 Tryz.func50 rfl rfl (by simp) ?_
 refine aw_seq ?_
 refine aw_region ?_
 refine al_op (op_assign rfl) rfl (by simp) ?_
 refine al_nil ?_
 refine aw_seq ?_
 refine aw_region ?_
 refine al_op (op_move rfl) rfl (by simp) ?_
 refine al_op (op_eql rfl rfl) rfl (by simp) ?_
 refine al_op (op_move rfl) rfl (by simp) ?_
 apply al_or 3 5 8 rfl
 ·intro h1; have gh1 := h1
  try simp only [nrm] at h1
  refine al_take (op_move rfl) rfl rfl rfl rfl (by simp) ?_
  refine al_take (op_eql rfl rfl) rfl rfl rfl rfl (by simp) ?_
  refine al_op (op_pick rfl rfl) rfl (by simp) ?_
  refine al_nil ⟨rfl, rfl, rfl, keep_of ?_⟩
  repeat (first | exact subx_refl | exact subx_known rfl gh1 subx_refl | refine subx_put rfl ?_)
 ·intro h1; have gh1 := h1
  try simp only [nrm] at h1
  refine al_pass rfl rfl rfl rfl (by simp) ?_
  refine al_pass rfl rfl rfl rfl (by simp) ?_
  refine al_op (op_pick rfl rfl) rfl (by simp) ?_
  refine al_nil ⟨rfl, rfl, rfl, keep_of ?_⟩
  repeat (first | exact subx_refl | exact subx_known rfl gh1 subx_refl | refine subx_put rfl ?_)
 refine al_op (op_move rfl) rfl (by simp) ?_
 apply al_or 3 9 12 rfl
 ·intro h2; have gh2 := h2
  try simp only [nrm] at h2
  refine al_take (op_move rfl) rfl rfl rfl rfl (by simp) ?_
  refine al_take (op_eql rfl rfl) rfl rfl rfl rfl (by simp) ?_
  refine al_op (op_pick rfl rfl) rfl (by simp) ?_
  refine al_nil ⟨rfl, rfl, rfl, keep_of ?_⟩
  repeat (first | exact subx_refl | exact subx_known rfl gh2 subx_refl | refine subx_put rfl ?_)
 ·intro h2; have gh2 := h2
  try simp only [nrm] at h2
  refine al_pass rfl rfl rfl rfl (by simp) ?_
  refine al_pass rfl rfl rfl rfl (by simp) ?_
  refine al_op (op_pick rfl rfl) rfl (by simp) ?_
  refine al_nil ⟨rfl, rfl, rfl, keep_of ?_⟩
  repeat (first | exact subx_refl | exact subx_known rfl gh2 subx_refl | refine subx_put rfl ?_)
 refine al_op (op_assign rfl) rfl (by simp) ?_
 refine al_nil ?_
 refine aw_freeze (fun _ => false) (fsub_cons (t := 2) rfl (.leaf _ _ (.same _)) fsub_nil) ?_
 refine aw_ret ?_
 refine ⟨_, res_1 rfl rfl, ?_, rfl⟩
 first | rfl | simp_all

theorem r_lit (l node : Int) (hl : l ≤ 9223372036854775807) : ACp Tryz.prog 52 [.v (.int .i64 (l)), .v (.int .i64 (node))] (.v (.bool (litOK l node))) := by
 refine acp_of rfl ?_
 refine ac_enter 13 Tryz.func52 rfl rfl (by simp) ?_
 refine aw_seq ?_
 refine aw_region ?_
 refine al_op (op_assign rfl) rfl (by simp) ?_
 refine al_nil ?_
 refine aw_seq ?_
 refine aw_region ?_
 refine al_op (op_move rfl) rfl (by simp) ?_
 refine al_op (op_geq rfl rfl) rfl (by simp) ?_
 refine al_op (op_move rfl) rfl (by simp) ?_
 apply al_and 5 7 12 rfl
 ·intro h1; have gh1 := h1
  try simp only [nrm] at h1
  refine al_take (op_move rfl) rfl rfl rfl rfl (by simp) ?_
  refine al_take (op_quo rfl rfl (by omega) (quo_nn (by omega) (by omega) (by omega))) rfl rfl rfl rfl (by simp) ?_
  refine al_take (op_move rfl) rfl rfl rfl rfl (by simp) ?_
  refine al_take (op_lss rfl rfl) rfl rfl rfl rfl (by simp) ?_
  refine al_op (op_pick rfl rfl) rfl (by simp) ?_
  refine al_nil ⟨rfl, rfl, rfl, keep_of ?_⟩
  repeat (first | exact subx_refl | exact subx_known rfl gh1 subx_refl | refine subx_put rfl ?_)
 ·intro h1; have gh1 := h1
  try simp only [nrm] at h1
  refine al_pass rfl rfl rfl rfl (by simp) ?_
  refine al_pass rfl rfl rfl rfl (by simp) ?_
  refine al_pass rfl rfl rfl rfl (by simp) ?_
  refine al_pass rfl rfl rfl rfl (by simp) ?_
  refine al_op (op_pick rfl rfl) rfl (by simp) ?_
  refine al_nil ⟨rfl, rfl, rfl, keep_of ?_⟩
  repeat (first | exact subx_refl | exact subx_known rfl gh1 subx_refl | refine subx_put rfl ?_)
 refine al_op (op_assign rfl) rfl (by simp) ?_
 refine al_nil ?_
 refine aw_freeze (fun _ => false) (fsub_cons (t := 4) rfl (.leaf _ _ (.same _)) fsub_nil) ?_
 refine aw_ret ?_
 refine ⟨_, res_1 rfl rfl, ?_, rfl⟩
 first | rfl | simp_all

theorem r_first (n : Net) (hn : n.Small) : ACp Tryz.prog 53 [encN n] (.v (.int .i64 (n.first))) := by
 refine acp_of rfl ?_
 have b4 := hn.insL
 have b5 := hn.regsL
 refine ac_enter 11 Tryz.func53 rfl rfl (by simp) ?_
 refine aw_seq ?_
 refine aw_region ?_
 (refine al_opR (op_box 1 rfl rfl (by first | rfl | exact live_one rfl | (repeat (first | exact all_live_nil | refine all_live_clo rfl ?_ | refine all_live_slice rfl ?_ | refine all_live_map rfl ?_ | refine all_live_ptr rfl ?_)))) rfl (by simp) ?_; rintro _ _ ⟨ver1, rfl, rfl⟩)
 refine al_op (op_assign rfl) rfl (by simp) ?_
 refine al_nil ?_
 refine aw_seq ?_
 refine aw_region ?_
 refine al_op (op_field_ptr Tryz.underlying27 rfl info22 (by decide) rfl rfl rfl) rfl (by simp) ?_
 refine al_op (op_load_ptr Tryz.underlying22 info22 rfl rfl rfl rfl) rfl (by simp) ?_
 refine al_op (op_len_map Tryz.underlying22 rfl) rfl (by simp) ?_
 refine al_op (op_add rfl rfl (by first | exact wrap_i64 (by omega) (by omega))) rfl (by simp) ?_
 refine al_op (op_field_ptr Tryz.underlying27 rfl info23 (by decide) rfl rfl rfl) rfl (by simp) ?_
 refine al_op (op_load_ptr Tryz.underlying23 info23 rfl rfl rfl rfl) rfl (by simp) ?_
 refine al_op (op_len_map Tryz.underlying23 rfl) rfl (by simp) ?_
 refine al_op (op_add rfl rfl (by first | exact wrap_i64 (by omega) (by omega))) rfl (by simp) ?_
 refine al_op (op_assign rfl) rfl (by simp) ?_
 refine al_nil ?_
 refine aw_freeze (fun _ => false) (fsub_cons (t := 2) rfl (.leaf _ _ (.same _)) fsub_nil) ?_
 refine aw_ret ?_
 refine ⟨_, res_1 rfl rfl, ?_, rfl⟩
 first | rfl | simp_all

theorem r_Name (s : ByteArray) (hs : s.size ≤ 140737488355328) : ACp Tryz.prog 83 [.v (.string s)] (.v (.bool (okName s))) := by
 refine acp_of rfl ?_
 have hl : s.data.toList.length = s.size := by simp
 refine ac_enter 28 Tryz.func83 rfl rfl (by simp) ?_
 refine aw_seq ?_
 refine aw_region ?_
 refine al_op (op_assign rfl) rfl (by simp) ?_
 refine al_nil ?_
 refine aw_seq ?_
 refine aw_seq ?_
 refine aw_region ?_
 refine al_op (op_move rfl) rfl (by simp) ?_
 refine al_op (op_slen (ts := #[]) Tryz.underlying9 rfl) rfl (by simp) ?_
 refine al_op (op_lss rfl rfl) rfl (by simp) ?_
 refine al_op (op_move rfl) rfl (by simp) ?_
 apply al_or 4 7 11 rfl
 ·intro h1; have gh1 := h1
  try simp only [nrm] at h1
  refine al_take (op_move rfl) rfl rfl rfl rfl (by simp) ?_
  refine al_take (op_slen (ts := #[]) Tryz.underlying9 rfl) rfl rfl rfl rfl (by simp) ?_
  refine al_take (op_gtr rfl rfl) rfl rfl rfl rfl (by simp) ?_
  refine al_op (op_pick rfl rfl) rfl (by simp) ?_
  refine al_nil ⟨rfl, rfl, rfl, keep_of ?_⟩
  repeat (first | exact subx_refl | exact subx_known rfl gh1 subx_refl | refine subx_put rfl ?_)
 ·intro h1; have gh1 := h1
  try simp only [nrm] at h1
  refine al_pass rfl rfl rfl rfl (by simp) ?_
  refine al_pass rfl rfl rfl rfl (by simp) ?_
  refine al_pass rfl rfl rfl rfl (by simp) ?_
  refine al_op (op_pick rfl rfl) rfl (by simp) ?_
  refine al_nil ⟨rfl, rfl, rfl, keep_of ?_⟩
  repeat (first | exact subx_refl | exact subx_known rfl gh1 subx_refl | refine subx_put rfl ?_)
 refine al_nil ?_
 refine aw_cond rfl (fun h2 => ?_) (fun h2 => ?_)
 ·have gh2 := h2
  try simp only [nrm] at h2
  refine aw_seq ?_
  refine aw_region ?_
  refine al_op (op_assign rfl) rfl (by simp) ?_
  refine al_nil ?_
  refine aw_freeze (fun _ => false) (fsub_cons (t := 2) rfl (.leaf _ _ (.same _)) fsub_nil) ?_
  refine aw_ret ?_
  refine ⟨_, res_1 rfl rfl, ?_, rfl⟩
  rw [okName_len gh2]
 ·have gh2 := h2
  try simp only [nrm] at h2
  refine aw_skip ?_
  refine aw_seq ?_
  refine aw_seq ?_
  refine aw_region ?_
  refine al_op (op_assign rfl) rfl (by simp) ?_
  refine al_nil ?_
  refine aw_block ?_
  refine aw_forT (ι := Nat) [2, 3] [] (fun i => s.data.toList.length - i) (fun i => i ≤ s.data.toList.length ∧ allTo (fun k => okByte (s.data.toList.getD k default)) i = true) (fun i => ([(3, .v (.int .i64 (i)))] : Env)) (fun i s => s) (0) ?_ ?_ ?_ (fun i hinv => ?_)
  ·exact ⟨Nat.zero_le _, rfl⟩
  ·refine sub_cons (get_as rfl ?_) ?_; rotate_left; exact sub_nil
   all_goals (first | rfl | simp)
  ·rfl
  have hi := hinv.1
  refine aw_seq ?_
  refine aw_seq ?_
  refine aw_region ?_
  refine al_op (op_move rfl) rfl (by simp) ?_
  refine al_op (op_move rfl) rfl (by simp) ?_
  refine al_op (op_slen (ts := #[]) Tryz.underlying9 rfl) rfl (by simp) ?_
  refine al_op (op_lss rfl rfl) rfl (by simp) ?_
  refine al_nil ?_
  refine aw_cond rfl (fun h3 => ?_) (fun h3 => ?_)
  ·have gh3 := h3
   try simp only [nrm] at h3
   refine aw_skip ?_
   refine aw_seq ?_
   refine aw_block ?_
   refine aw_seq ?_
   refine aw_region ?_
   refine al_op (op_move rfl) rfl (by simp) ?_
   refine al_op (op_move rfl) rfl (by simp) ?_
   refine al_op (op_sindex_at Tryz.underlying9 rfl rfl (by first | (with_reducible exact Int.toNat_natCast _) | rfl) (by omega) (by omega)) rfl (by simp) ?_
   refine al_op (op_lss rfl rfl) rfl (by simp) ?_
   refine al_op (op_move rfl) rfl (by simp) ?_
   apply al_or 5 22 27 rfl
   ·intro h4; have gh4 := h4
    try simp only [nrm] at h4
    refine al_take (op_move rfl) rfl rfl rfl rfl (by simp) ?_
    refine al_take (op_move rfl) rfl rfl rfl rfl (by simp) ?_
    refine al_take (op_sindex_at Tryz.underlying9 rfl rfl (by first | (with_reducible exact Int.toNat_natCast _) | rfl) (by omega) (by omega)) rfl rfl rfl rfl (by simp) ?_
    refine al_take (op_gtr rfl rfl) rfl rfl rfl rfl (by simp) ?_
    refine al_op (op_pick rfl rfl) rfl (by simp) ?_
    refine al_nil ⟨rfl, rfl, rfl, keep_of ?_⟩
    repeat (first | exact subx_refl | exact subx_known rfl gh4 subx_refl | refine subx_put rfl ?_)
   ·intro h4; have gh4 := h4
    try simp only [nrm] at h4
    refine al_pass rfl rfl rfl rfl (by simp) ?_
    refine al_pass rfl rfl rfl rfl (by simp) ?_
    refine al_pass rfl rfl rfl rfl (by simp) ?_
    refine al_pass rfl rfl rfl rfl (by simp) ?_
    refine al_op (op_pick rfl rfl) rfl (by simp) ?_
    refine al_nil ⟨rfl, rfl, rfl, keep_of ?_⟩
    repeat (first | exact subx_refl | exact subx_known rfl gh4 subx_refl | refine subx_put rfl ?_)
   refine al_nil ?_
   refine aw_cond rfl (fun h5 => ?_) (fun h5 => ?_)
   ·have gh5 := h5
    try simp only [nrm] at h5
    refine aw_seq ?_
    refine aw_region ?_
    refine al_op (op_assign rfl) rfl (by simp) ?_
    refine al_nil ?_
    refine aw_freeze (fun _ => false) (fsub_cons (t := 2) rfl (.leaf _ _ (.same _)) fsub_nil) ?_
    refine aw_ret ?_
    refine ⟨_, res_1 rfl rfl, ?_, rfl⟩
    rw [okName, allTo_false i (by omega) (congrArg Bool.not gh5)]; rfl
   ·have gh5 := h5
    try simp only [nrm] at h5
    refine aw_skip ?_
    refine aw_region ?_
    refine al_op (op_move rfl) rfl (by simp) ?_
    refine al_op (op_add rfl rfl (by first | exact wrap_i64 (by omega) (by omega))) rfl (by simp) ?_
    refine al_op (op_assign rfl) rfl (by simp) ?_
    refine al_nil ?_
    refine ⟨i + 1, ?_, ?_, ?_, ?_, ?_⟩
    ·omega
    ·exact ⟨by omega, allTo_succ hinv.2 (congrArg Bool.not gh5)⟩
    ·refine sub_cons (get_as rfl ?_) ?_; rotate_left; exact sub_nil
     all_goals (first | rfl | simp)
    ·repeat (first | exact subx_refl | exact subx_del | refine subx_put rfl ?_)
    ·rfl
  ·have gh3 := h3
   try simp only [nrm] at h3
   refine aw_exit ?_
   obtain rfl : i = s.data.toList.length := by omega
   refine aw_seq ?_
   refine aw_region ?_
   refine al_op (op_assign rfl) rfl (by simp) ?_
   refine al_nil ?_
   refine aw_freeze (fun _ => false) (fsub_cons (t := 2) rfl (.leaf _ _ (.same _)) fsub_nil) ?_
   refine aw_ret ?_
   refine ⟨_, res_1 rfl rfl, ?_, rfl⟩
   rw [okName_all gh2 hinv.2]

theorem r_Names (l : List ByteArray) (hb : ∀ x ∈ l, x.size ≤ 140737488355328) : ACp Tryz.prog 51 [.list 1 (l.map encS)] (.v (.bool (okNames l))) := by
 refine acp_of rfl ?_
 refine ac_enter 34 Tryz.func51 rfl rfl (by simp) ?_
 refine aw_seq ?_
 refine aw_region ?_
 refine al_op (op_assign rfl) rfl (by simp) ?_
 refine al_nil ?_
 refine aw_seq ?_
 refine aw_seq ?_
 refine aw_region ?_
 refine al_op (op_move rfl) rfl (by simp) ?_
 refine al_op (op_len_map Tryz.underlying22 rfl) rfl (by simp) ?_
 refine al_op (op_gtr rfl rfl) rfl (by simp) ?_
 refine al_nil ?_
 refine aw_cond rfl (fun h1 => ?_) (fun h1 => ?_)
 ·have gh1 := h1
  try simp only [nrm] at h1
  refine aw_seq ?_
  refine aw_region ?_
  refine al_op (op_assign rfl) rfl (by simp) ?_
  refine al_nil ?_
  refine aw_freeze (fun _ => false) (fsub_cons (t := 2) rfl (.leaf _ _ (.same _)) fsub_nil) ?_
  refine aw_ret ?_
  refine ⟨_, res_1 rfl rfl, ?_, rfl⟩
  rw [okNames_long (by simpa using h1)]
 ·have gh1 := h1
  try simp only [nrm] at h1
  refine aw_skip ?_
  refine aw_seq ?_
  refine aw_seq ?_
  refine aw_region ?_
  refine al_op (op_move rfl) rfl (by simp) ?_
  refine al_op (op_len_map Tryz.underlying22 rfl) rfl (by simp) ?_
  refine al_op (op_move rfl) rfl (by simp) ?_
  refine al_nil ?_
  refine aw_block ?_
  refine aw_forT (ι := Nat) [2, 10] [] (fun i => l.length - i) (fun i => i ≤ l.length ∧ allTo (nameAt l) i = true) (fun i => ([(10, .v (.int .i64 (i)))] : Env)) (fun i s => s) (0) ?_ ?_ ?_ (fun i hinv => ?_)
  ·exact ⟨Nat.zero_le _, rfl⟩
  ·refine sub_cons (get_as rfl ?_) ?_; rotate_left; exact sub_nil
   all_goals (first | rfl | simp)
  ·rfl
  have hi := hinv.1
  have hj := hinv.2
  clear hinv
  refine aw_seq ?_
  refine aw_region ?_
  refine al_op (op_lss rfl rfl) rfl (by simp) ?_
  refine al_nil ?_
  refine aw_seq ?_
  refine aw_cond rfl (fun h2 => ?_) (fun h2 => ?_)
  ·have gh2 := h2
   try simp only [nrm] at h2
   refine aw_skip ?_
   refine aw_seq ?_
   refine aw_block ?_
   refine aw_seq ?_
   refine aw_region ?_
   refine al_op (op_move rfl) rfl (by simp) ?_
   refine al_op (op_assign rfl) rfl (by simp) ?_
   refine al_nil ?_
   refine aw_seq ?_
   refine aw_seq ?_
   refine aw_region ?_
   refine al_op (op_move rfl) rfl (by simp) ?_
   refine al_op (op_move rfl) rfl (by simp) ?_
   refine al_op (op_index_map default Tryz.underlying22 info9 rfl rfl rfl (by first | (with_reducible exact Int.toNat_natCast _) | rfl) (by omega) (by omega)) rfl (by simp) ?_
   refine al_op (op_load_rptr Tryz.underlying9 info9 rfl rfl) rfl (by simp) ?_
   have hsz := hb _ (getD_mem (v := l) (i := i) (by omega))
   refine al_callp into83 rfl rfl rfl ((r_Name _ (by assumption)) _) (by simp) ?_
   refine al_op (op_not rfl) rfl (by simp) ?_
   refine al_nil ?_
   refine aw_cond rfl (fun h3 => ?_) (fun h3 => ?_)
   ·have gh3 := h3
    try simp only [nrm] at h3
    refine aw_seq ?_
    refine aw_region ?_
    refine al_op (op_assign rfl) rfl (by simp) ?_
    refine al_nil ?_
    refine aw_freeze (fun _ => false) (fsub_cons (t := 2) rfl (.leaf _ _ (.same _)) fsub_nil) ?_
    refine aw_ret ?_
    refine ⟨_, res_1 rfl rfl, ?_, rfl⟩
    rw [okNames_at i (by omega) (nameAt_bad (by simpa using gh3))]
   ·have gh3 := h3
    try simp only [nrm] at h3
    refine aw_skip ?_
    refine aw_seq ?_
    refine aw_region ?_
    refine al_op (op_assign rfl) rfl (by simp) ?_
    refine al_nil ?_
    refine aw_block ?_
    refine aw_forT (ι := Nat) [2, 4, 19, 20, 21, 22, 23, 24, 25, 26, 27, 28, 29, 30, 31, 32] [] (fun k => i - k) (fun k => k ≤ i ∧ allTo (fun k => !((l.getD k default).toList == (l.getD i default).toList)) k = true) (fun k => ([(4, .v (.int .i64 (k)))] : Env)) (fun k s => s) (0) ?_ ?_ ?_ (fun k hinv => ?_)
    ·exact ⟨Nat.zero_le _, rfl⟩
    ·refine sub_cons (get_as rfl ?_) ?_; rotate_left; exact sub_nil
     all_goals (first | rfl | simp)
    ·rfl
    have hk := hinv.1
    refine aw_seq ?_
    refine aw_seq ?_
    refine aw_region ?_
    refine al_op (op_move rfl) rfl (by simp) ?_
    refine al_op (op_move rfl) rfl (by simp) ?_
    refine al_op (op_lss rfl rfl) rfl (by simp) ?_
    refine al_nil ?_
    refine aw_cond rfl (fun h4 => ?_) (fun h4 => ?_)
    ·have gh4 := h4
     try simp only [nrm] at h4
     refine aw_skip ?_
     refine aw_seq ?_
     refine aw_block ?_
     refine aw_seq ?_
     refine aw_any (Checked.mixed Tryz.checked) ?_
     apply aany_seg (p := 0) (q := 9) (by kernel_rfl) rfl (by decide)
     ·
      apply ql_plain rfl (op_move rfl)
      apply ql_plain rfl (op_move rfl)
      apply ql_plain rfl (op_index_map default Tryz.underlying22 info9 rfl rfl rfl (by first | (with_reducible exact Int.toNat_natCast _) | rfl) (by omega) (by omega))
      apply ql_plain rfl (op_load_rptr Tryz.underlying9 info9 rfl rfl)
      apply ql_plain rfl (op_move rfl)
      apply ql_plain rfl (op_move rfl)
      apply ql_plain rfl (op_index_map default Tryz.underlying22 info9 rfl rfl rfl (by first | (with_reducible exact Int.toNat_natCast _) | rfl) (by omega) (by omega))
      apply ql_plain rfl (op_load_rptr Tryz.underlying9 info9 rfl rfl)
      apply ql_plain rfl (op_seql rfl rfl)
      exact ql_nil
     ·simp
     refine aany_end rfl (by kernel_rfl) ?_
     refine aw_cond rfl (fun h5 => ?_) (fun h5 => ?_)
     ·have gh5 := h5
      try simp only [nrm] at h5
      refine aw_seq ?_
      refine aw_region ?_
      refine al_op (op_assign rfl) rfl (by simp) ?_
      refine al_nil ?_
      refine aw_freeze (fun _ => false) (fsub_cons (t := 2) rfl (.leaf _ _ (.same _)) fsub_nil) ?_
      refine aw_ret ?_
      refine ⟨_, res_1 rfl rfl, ?_, rfl⟩
      rw [okNames_at i (by omega) (nameAt_twice k (by omega) gh5)]
     ·have gh5 := h5
      try simp only [nrm] at h5
      refine aw_skip ?_
      refine aw_region ?_
      refine al_op (op_move rfl) rfl (by simp) ?_
      refine al_op (op_add rfl rfl (by first | exact wrap_i64 (by omega) (by omega))) rfl (by simp) ?_
      refine al_op (op_assign rfl) rfl (by simp) ?_
      refine al_nil ?_
      refine ⟨k + 1, ?_, ?_, ?_, ?_, ?_⟩
      ·omega
      ·exact ⟨by omega, allTo_succ hinv.2 (congrArg Bool.not gh5)⟩
      ·refine sub_cons (get_as rfl ?_) ?_; rotate_left; exact sub_nil
       all_goals (first | rfl | simp)
      ·repeat (first | exact subx_refl | exact subx_del | refine subx_put rfl ?_)
      ·rfl
    ·have gh4 := h4
     try simp only [nrm] at h4
     refine aw_exit ?_
     obtain rfl : i = k := by omega
     have a4 := hinv.2
     clear hinv
     refine aw_region ?_
     refine al_op (op_add rfl rfl (by first | exact wrap_i64 (by omega) (by omega))) rfl (by simp) ?_
     refine al_op (op_move rfl) rfl (by simp) ?_
     refine al_nil ?_
     refine ⟨i + 1, ?_, ?_, ?_, ?_, ?_⟩
     ·omega
     ·exact ⟨by omega, allTo_succ hj (nameAt_ok (by simpa using gh3) a4)⟩
     ·refine sub_cons (get_as rfl ?_) ?_; rotate_left; exact sub_nil
      all_goals (first | rfl | simp)
     ·repeat (first | exact subx_refl | exact subx_del | refine subx_put rfl ?_)
     ·rfl
  ·have gh2 := h2
   try simp only [nrm] at h2
   refine aw_exit ?_
   obtain rfl : i = l.length := by omega
   refine aw_seq ?_
   refine aw_region ?_
   refine al_op (op_assign rfl) rfl (by simp) ?_
   refine al_nil ?_
   refine aw_freeze (fun _ => false) (fsub_cons (t := 2) rfl (.leaf _ _ (.same _)) fsub_nil) ?_
   refine aw_ret ?_
   refine ⟨_, res_1 rfl rfl, ?_, rfl⟩
   rw [okNames_all (by simpa using h1) hj]

theorem r_fits (l : List Int) (m : Nat) (hl : l.length ≤ 140737488355328) (h0 : ∀ x ∈ l, 0 ≤ x ∧ x ≤ 255) : ACp Tryz.prog 98 [.list 1 (l.map encB), .v (.int .i64 ((m : Int)))] (.v (.bool (bitsOK l m))) := by
 refine acp_of rfl ?_
 refine ac_enter 21 Tryz.func98 rfl rfl (by simp) ?_
 refine aw_seq ?_
 refine aw_region ?_
 refine al_op (op_assign rfl) rfl (by simp) ?_
 refine al_nil ?_
 refine aw_seq ?_
 refine aw_seq ?_
 refine aw_region ?_
 refine al_op (op_move rfl) rfl (by simp) ?_
 refine al_op (op_len_map Tryz.underlying28 rfl) rfl (by simp) ?_
 refine al_op (op_move rfl) rfl (by simp) ?_
 refine al_op (op_neq rfl rfl) rfl (by simp) ?_
 refine al_nil ?_
 refine aw_cond rfl (fun h1 => ?_) (fun h1 => ?_)
 ·have gh1 := h1
  try simp only [nrm] at h1
  refine aw_seq ?_
  refine aw_region ?_
  refine al_op (op_assign rfl) rfl (by simp) ?_
  refine al_nil ?_
  refine aw_freeze (fun _ => false) (fsub_cons (t := 4) rfl (.leaf _ _ (.same _)) fsub_nil) ?_
  refine aw_ret ?_
  refine ⟨_, res_1 rfl rfl, ?_, rfl⟩
  rw [bits_length gh1]
 ·have gh1 := h1
  try simp only [nrm] at h1
  refine aw_skip ?_
  refine aw_seq ?_
  refine aw_seq ?_
  refine aw_region ?_
  refine al_op (op_move rfl) rfl (by simp) ?_
  refine al_op (op_len_map Tryz.underlying28 rfl) rfl (by simp) ?_
  refine al_op (op_move rfl) rfl (by simp) ?_
  refine al_nil ?_
  refine aw_block ?_
  refine aw_forT (ι := Nat) [4, 13] [] (fun i => l.length - i) (fun i => i ≤ l.length ∧ allTo (fun k => known (l.getD k default)) i = true) (fun i => ([(13, .v (.int .i64 (i)))] : Env)) (fun i s => s) (0) ?_ ?_ ?_ (fun i hinv => ?_)
  ·exact ⟨Nat.zero_le _, rfl⟩
  ·refine sub_cons (get_as rfl ?_) ?_; rotate_left; exact sub_nil
   all_goals (first | rfl | simp)
  ·rfl
  have hi := hinv.1
  refine aw_seq ?_
  refine aw_region ?_
  refine al_op (op_lss rfl rfl) rfl (by simp) ?_
  refine al_nil ?_
  refine aw_seq ?_
  refine aw_cond rfl (fun h2 => ?_) (fun h2 => ?_)
  ·have gh2 := h2
   try simp only [nrm] at h2
   refine aw_skip ?_
   refine aw_seq ?_
   refine aw_block ?_
   refine aw_seq ?_
   refine aw_region ?_
   refine al_op (op_index_map default Tryz.underlying28 info44 rfl rfl rfl (by first | (with_reducible exact Int.toNat_natCast _) | rfl) (by omega) (by omega)) rfl (by simp) ?_
   refine al_op (op_load_rptr Tryz.underlying44 info44 rfl rfl) rfl (by simp) ?_
   refine al_op (op_assign rfl) rfl (by simp) ?_
   refine al_nil ?_
   refine aw_seq ?_
   refine aw_region ?_
   refine al_op (op_move rfl) rfl (by simp) ?_
   refine al_callp into50 rfl rfl rfl ((r_known _) _) (by simp) ?_
   refine al_op (op_not rfl) rfl (by simp) ?_
   refine al_nil ?_
   refine aw_cond rfl (fun h3 => ?_) (fun h3 => ?_)
   ·have gh3 := h3
    try simp only [nrm] at h3
    refine aw_seq ?_
    refine aw_region ?_
    refine al_op (op_assign rfl) rfl (by simp) ?_
    refine al_nil ?_
    refine aw_freeze (fun _ => false) (fsub_cons (t := 4) rfl (.leaf _ _ (.same _)) fsub_nil) ?_
    refine aw_ret ?_
    refine ⟨_, res_1 rfl rfl, ?_, rfl⟩
    rw [bits_unknown h0 i (by omega) (by simpa using gh3)]
   ·have gh3 := h3
    try simp only [nrm] at h3
    refine aw_skip ?_
    refine aw_region ?_
    refine al_op (op_add rfl rfl (by first | exact wrap_i64 (by omega) (by omega))) rfl (by simp) ?_
    refine al_op (op_move rfl) rfl (by simp) ?_
    refine al_nil ?_
    refine ⟨i + 1, ?_, ?_, ?_, ?_, ?_⟩
    ·omega
    ·exact ⟨by omega, allTo_succ hinv.2 (by simpa using gh3)⟩
    ·refine sub_cons (get_as rfl ?_) ?_; rotate_left; exact sub_nil
     all_goals (first | rfl | simp)
    ·repeat (first | exact subx_refl | exact subx_del | refine subx_put rfl ?_)
    ·rfl
  ·have gh2 := h2
   try simp only [nrm] at h2
   refine aw_exit ?_
   obtain rfl : i = l.length := by omega
   refine aw_seq ?_
   refine aw_region ?_
   refine al_op (op_assign rfl) rfl (by simp) ?_
   refine al_nil ?_
   refine aw_freeze (fun _ => false) (fsub_cons (t := 4) rfl (.leaf _ _ (.same _)) fsub_nil) ?_
   refine aw_ret ?_
   refine ⟨_, res_1 rfl rfl, ?_, rfl⟩
   rw [bits_known h0 (by omega) hinv.2]

theorem r_SameBits (l m : List Int) (hl : l.length ≤ 140737488355328) : ACp Tryz.prog 20 [.list 1 (l.map encB), .list 1 (m.map encB)] (.v (.bool (sameBits l m))) := by
 refine acp_of rfl ?_
 refine ac_enter 26 Tryz.func20 rfl rfl (by simp) ?_
 refine aw_seq ?_
 refine aw_region ?_
 refine al_op (op_assign rfl) rfl (by simp) ?_
 refine al_nil ?_
 refine aw_seq ?_
 refine aw_seq ?_
 refine aw_region ?_
 refine al_op (op_move rfl) rfl (by simp) ?_
 refine al_op (op_len_map Tryz.underlying28 rfl) rfl (by simp) ?_
 refine al_op (op_move rfl) rfl (by simp) ?_
 refine al_op (op_len_map Tryz.underlying28 rfl) rfl (by simp) ?_
 refine al_op (op_neq rfl rfl) rfl (by simp) ?_
 refine al_nil ?_
 refine aw_cond rfl (fun h1 => ?_) (fun h1 => ?_)
 ·have gh1 := h1
  try simp only [nrm] at h1
  refine aw_seq ?_
  refine aw_region ?_
  refine al_op (op_assign rfl) rfl (by simp) ?_
  refine al_nil ?_
  refine aw_freeze (fun _ => false) (fsub_cons (t := 4) rfl (.leaf _ _ (.same _)) fsub_nil) ?_
  refine aw_ret ?_
  refine ⟨_, res_1 rfl rfl, ?_, rfl⟩
  rw [sameBits, show ((l.length : Int) == m.length) = false from by simpa using gh1]; rfl
 ·have gh1 := h1
  try simp only [nrm] at h1
  refine aw_skip ?_
  refine aw_seq ?_
  refine aw_seq ?_
  refine aw_region ?_
  refine al_op (op_move rfl) rfl (by simp) ?_
  refine al_op (op_len_map Tryz.underlying28 rfl) rfl (by simp) ?_
  refine al_op (op_move rfl) rfl (by simp) ?_
  refine al_nil ?_
  refine aw_block ?_
  refine aw_forT (ι := Nat) [4, 13] [] (fun i => l.length - i) (fun i => i ≤ l.length ∧ allTo (fun i => (l.getD i default) == (m.getD i default)) i = true) (fun i => ([(13, .v (.int .i64 (i)))] : Env)) (fun i s => s) (0) ?_ ?_ ?_ (fun i hinv => ?_)
  ·exact ⟨Nat.zero_le _, rfl⟩
  ·refine sub_cons (get_as rfl ?_) ?_; rotate_left; exact sub_nil
   all_goals (first | rfl | simp)
  ·rfl
  have hi := hinv.1
  refine aw_seq ?_
  refine aw_region ?_
  refine al_op (op_lss rfl rfl) rfl (by simp) ?_
  refine al_nil ?_
  refine aw_seq ?_
  refine aw_cond rfl (fun h2 => ?_) (fun h2 => ?_)
  ·have gh2 := h2
   try simp only [nrm] at h2
   refine aw_skip ?_
   refine aw_seq ?_
   refine aw_block ?_
   refine aw_seq ?_
   refine aw_region ?_
   refine al_op (op_move rfl) rfl (by simp) ?_
   refine al_op (op_assign rfl) rfl (by simp) ?_
   refine al_nil ?_
   refine aw_seq ?_
   refine aw_any (Checked.mixed Tryz.checked) ?_
   apply aany_seg (p := 0) (q := 9) (by kernel_rfl) rfl (by decide)
   ·
    apply ql_plain rfl (op_move rfl)
    apply ql_plain rfl (op_move rfl)
    apply ql_plain rfl (op_index_map default Tryz.underlying28 info44 rfl rfl rfl (by first | (with_reducible exact Int.toNat_natCast _) | rfl) (by omega) (by omega))
    apply ql_plain rfl (op_load_rptr Tryz.underlying44 info44 rfl rfl)
    apply ql_plain rfl (op_move rfl)
    apply ql_plain rfl (op_move rfl)
    apply ql_plain rfl (op_index_map default Tryz.underlying28 info44 rfl rfl rfl (by first | (with_reducible exact Int.toNat_natCast _) | rfl) (by omega) (by omega))
    apply ql_plain rfl (op_load_rptr Tryz.underlying44 info44 rfl rfl)
    apply ql_plain rfl (op_neq rfl rfl)
    exact ql_nil
   ·simp
   refine aany_end rfl (by kernel_rfl) ?_
   refine aw_cond rfl (fun h3 => ?_) (fun h3 => ?_)
   ·have gh3 := h3
    try simp only [nrm] at h3
    refine aw_seq ?_
    refine aw_region ?_
    refine al_op (op_assign rfl) rfl (by simp) ?_
    refine al_nil ?_
    refine aw_freeze (fun _ => false) (fsub_cons (t := 4) rfl (.leaf _ _ (.same _)) fsub_nil) ?_
    refine aw_ret ?_
    refine ⟨_, res_1 rfl rfl, ?_, rfl⟩
    rw [sameBits, allTo_false i (by omega) (by simpa using gh3), Bool.and_false]
   ·have gh3 := h3
    try simp only [nrm] at h3
    refine aw_skip ?_
    refine aw_region ?_
    refine al_op (op_add rfl rfl (by first | exact wrap_i64 (by omega) (by omega))) rfl (by simp) ?_
    refine al_op (op_move rfl) rfl (by simp) ?_
    refine al_nil ?_
    refine ⟨i + 1, ?_, ?_, ?_, ?_, ?_⟩
    ·omega
    ·exact ⟨by omega, allTo_succ hinv.2 (by simpa using gh3)⟩
    ·refine sub_cons (get_as rfl ?_) ?_; rotate_left; exact sub_nil
     all_goals (first | rfl | simp)
    ·repeat (first | exact subx_refl | exact subx_del | refine subx_put rfl ?_)
    ·rfl
  ·have gh2 := h2
   try simp only [nrm] at h2
   refine aw_exit ?_
   obtain rfl : i = l.length := by omega
   refine aw_seq ?_
   refine aw_region ?_
   refine al_op (op_assign rfl) rfl (by simp) ?_
   refine al_nil ?_
   refine aw_freeze (fun _ => false) (fsub_cons (t := 4) rfl (.leaf _ _ (.same _)) fsub_nil) ?_
   refine aw_ret ?_
   refine ⟨_, res_1 rfl rfl, ?_, rfl⟩
   rw [sameBits, hinv.2, Bool.and_true, show ((l.length : Int) == m.length) = true from by simpa using gh1]

theorem r_Valid (n : Net) (hn : n.Small) : ACp Tryz.prog 24 [encN n] (.v (.bool (n.valid))) := by
 refine acp_of rfl ?_
 have hn0 := hn
 obtain ⟨b1, b2, b3, b4, b5, b6, b7, b8, b9, b10, b11⟩ := hn
 have k1 : n.first = 1 + n.ins.length + n.regs.length := rfl
 refine ac_enter 135 Tryz.func24 rfl rfl (by simp) ?_
 refine aw_seq ?_
 refine aw_region ?_
 (refine al_opR (op_box 1 rfl rfl (by first | rfl | exact live_one rfl | (repeat (first | exact all_live_nil | refine all_live_clo rfl ?_ | refine all_live_slice rfl ?_ | refine all_live_map rfl ?_ | refine all_live_ptr rfl ?_)))) rfl (by simp) ?_; rintro _ _ ⟨ver1, rfl, rfl⟩)
 refine al_op (op_assign rfl) rfl (by simp) ?_
 refine al_nil ?_
 refine aw_seq ?_
 refine aw_region ?_
 refine al_op (op_assign rfl) rfl (by simp) ?_
 refine al_op (op_assign rfl) rfl (by simp) ?_
 refine al_nil ?_
 refine aw_seq ?_
 refine aw_seq ?_
 refine aw_region ?_
 refine al_op (op_field_ptr Tryz.underlying27 rfl info23 (by decide) rfl rfl rfl) rfl (by simp) ?_
 refine al_op (op_load_ptr Tryz.underlying23 info23 rfl rfl rfl rfl) rfl (by simp) ?_
 refine al_op (op_len_map Tryz.underlying23 rfl) rfl (by simp) ?_
 refine al_op (op_gtr rfl rfl) rfl (by simp) ?_
 refine al_op (op_move rfl) rfl (by simp) ?_
 apply al_or 5 20 25 rfl
 ·intro h1; have gh1 := h1
  try simp only [nrm] at h1
  refine al_take (op_field_ptr Tryz.underlying27 rfl info25 (by decide) rfl rfl rfl) rfl rfl rfl rfl (by simp) ?_
  refine al_take (op_load_ptr Tryz.underlying25 info25 rfl rfl rfl rfl) rfl rfl rfl rfl (by simp) ?_
  refine al_take (op_len_map Tryz.underlying25 rfl) rfl rfl rfl rfl (by simp) ?_
  refine al_take (op_gtr rfl rfl) rfl rfl rfl rfl (by simp) ?_
  refine al_op (op_pick rfl rfl) rfl (by simp) ?_
  refine al_nil ⟨rfl, rfl, rfl, keep_of ?_⟩
  repeat (first | exact subx_refl | exact subx_known rfl gh1 subx_refl | refine subx_put rfl ?_)
 ·intro h1; have gh1 := h1
  try simp only [nrm] at h1
  refine al_pass rfl rfl rfl rfl (by simp) ?_
  refine al_pass rfl rfl rfl rfl (by simp) ?_
  refine al_pass rfl rfl rfl rfl (by simp) ?_
  refine al_pass rfl rfl rfl rfl (by simp) ?_
  refine al_op (op_pick rfl rfl) rfl (by simp) ?_
  refine al_nil ⟨rfl, rfl, rfl, keep_of ?_⟩
  repeat (first | exact subx_refl | exact subx_known rfl gh1 subx_refl | refine subx_put rfl ?_)
 refine al_op (op_move rfl) rfl (by simp) ?_
 apply al_or 5 26 31 rfl
 ·intro h2; have gh2 := h2
  try simp only [nrm] at h2
  refine al_take (op_field_ptr Tryz.underlying27 rfl info24 (by decide) rfl rfl rfl) rfl rfl rfl rfl (by simp) ?_
  refine al_take (op_load_ptr Tryz.underlying24 info24 rfl rfl rfl rfl) rfl rfl rfl rfl (by simp) ?_
  refine al_take (op_len_map Tryz.underlying24 rfl) rfl rfl rfl rfl (by simp) ?_
  refine al_take (op_gtr rfl rfl) rfl rfl rfl rfl (by simp) ?_
  refine al_op (op_pick rfl rfl) rfl (by simp) ?_
  refine al_nil ⟨rfl, rfl, rfl, keep_of ?_⟩
  repeat (first | exact subx_refl | exact subx_known rfl gh2 subx_refl | refine subx_put rfl ?_)
 ·intro h2; have gh2 := h2
  try simp only [nrm] at h2
  refine al_pass rfl rfl rfl rfl (by simp) ?_
  refine al_pass rfl rfl rfl rfl (by simp) ?_
  refine al_pass rfl rfl rfl rfl (by simp) ?_
  refine al_pass rfl rfl rfl rfl (by simp) ?_
  refine al_op (op_pick rfl rfl) rfl (by simp) ?_
  refine al_nil ⟨rfl, rfl, rfl, keep_of ?_⟩
  repeat (first | exact subx_refl | exact subx_known rfl gh2 subx_refl | refine subx_put rfl ?_)
 refine al_nil ?_
 refine aw_cond rfl (fun h3 => ?_) (fun h3 => ?_)
 ·have gh3 := h3
  try simp only [nrm] at h3
  refine aw_seq ?_
  refine aw_region ?_
  refine al_op (op_assign rfl) rfl (by simp) ?_
  refine al_nil ?_
  refine aw_freeze (fun _ => false) (fsub_cons (t := 2) rfl (.leaf _ _ (.same _)) fsub_nil) ?_
  refine aw_ret ?_
  refine ⟨_, res_1 rfl rfl, ?_, rfl⟩
  rw [head_long gh3]
 ·have gh3 := h3
  try simp only [nrm] at h3
  refine aw_skip ?_
  refine aw_seq ?_
  refine aw_seq ?_
  refine aw_region ?_
  refine al_op (op_field_ptr Tryz.underlying27 rfl info23 (by decide) rfl rfl rfl) rfl (by simp) ?_
  refine al_op (op_load_ptr Tryz.underlying23 info23 rfl rfl rfl rfl) rfl (by simp) ?_
  refine al_op (op_len_map Tryz.underlying23 rfl) rfl (by simp) ?_
  refine al_op (op_move rfl) rfl (by simp) ?_
  refine al_nil ?_
  refine aw_block ?_
  refine aw_own_map encS 3 1 3 rfl rfl (fun ver3 => ?_)
  refine aw_for2T (α := Nat) (β := Nat) [2, 3, 35] [6] (fun i ver => n.regs.length - i) (fun i ver => i ≤ n.regs.length ∧ allTo (fun k => known (n.regs.getD k default).2.1) i = true) (fun i ver => ([(3, .slice 3 ver 0 ((n.regs.take i).map Prod.fst).length), (35, .v (.int .i64 (i)))] : Env)) (fun i ver s => s.put 3 ver (.row 1 (((n.regs.take i).map Prod.fst).map encS))) (0) (ver3) ?_ ?_ ?_ (fun i ver hinv => ?_)
  ·exact ⟨Nat.zero_le _, rfl⟩
  ·refine sub_cons (get_as rfl ?_) ?_; rotate_left; refine sub_cons (get_as rfl ?_) ?_; rotate_left; exact sub_nil
   all_goals (first | rfl | (simp; done) | (simp only [take_succ_getD n.regs i (by omega), List.map_append, List.map_cons, List.map_nil] <;> rfl))
  ·rfl
  have hi := hinv.1
  refine aw_seq ?_
  refine aw_region ?_
  refine al_op (op_lss rfl rfl) rfl (by simp) ?_
  refine al_nil ?_
  refine aw_seq ?_
  refine aw_cond rfl (fun h4 => ?_) (fun h4 => ?_)
  ·have gh4 := h4
   try simp only [nrm] at h4
   refine aw_skip ?_
   refine aw_seq ?_
   refine aw_block ?_
   refine aw_seq ?_
   refine aw_region ?_
   refine al_op (op_index_map default Tryz.underlying23 info77 rfl rfl rfl (by first | (with_reducible exact Int.toNat_natCast _) | rfl) (by omega) (by omega)) rfl (by simp) ?_
   refine al_op (op_load_rptr Tryz.underlying77 info77 rfl rfl) rfl (by simp) ?_
   (refine al_opR (op_alloc 6 info77 rfl rfl) rfl (by simp) ?_; rintro _ _ ⟨ver6, rfl, rfl⟩)
   refine al_op (op_store_ptr info77 rfl rfl rfl rfl rfl rfl (by first | rfl | exact live_one rfl | (repeat (first | exact all_live_nil | refine all_live_clo rfl ?_ | refine all_live_slice rfl ?_ | refine all_live_map rfl ?_ | refine all_live_ptr rfl ?_))) (Nat.le_of_ble_eq_true rfl)) rfl (by simp) ?_
   refine al_nil ?_
   refine aw_seq ?_
   refine aw_region ?_
   refine al_op (op_move rfl) rfl (by simp) ?_
   refine al_op (op_field_ptr Tryz.underlying77 rfl info9 (by decide) rfl rfl rfl) rfl (by simp) ?_
   refine al_op (op_load_ptr Tryz.underlying9 info9 rfl rfl rfl rfl) rfl (by simp) ?_
   refine al_op (op_buildSlice Tryz.underlying22 info9 rfl rfl (by decide) rfl (by decide) rfl (by first | rfl | (repeat (first | exact parts_nil | refine parts_cons rfl (by repeat (first | exact all_live_nil | refine all_live_clo rfl ?_ | refine all_live_slice rfl ?_ | refine all_live_map rfl ?_ | refine all_live_ptr rfl ?_)) ?_))) rfl rfl rfl) rfl (by simp) ?_
   (refine al_opR (op_append_one (n.regs.getD i default).1 Tryz.underlying22 Tryz.underlying22 rfl info9 rfl rfl (by decide) rfl rfl rfl (by first | rfl | simp) rfl rfl (by first | omega | (simp; done) | (simp; omega)) (by show _ * 16 ≤ _; first | omega | (simp; done) | (simp; omega))) rfl (by simp) ?_; rintro _ _ ⟨ver43, rfl, rfl⟩)
   refine al_op (op_assign rfl) rfl (by simp) ?_
   refine al_nil ?_
   refine aw_seq ?_
   refine aw_region ?_
   refine al_op (op_field_ptr Tryz.underlying77 rfl info44 (by decide) rfl rfl rfl) rfl (by simp) ?_
   refine al_op (op_load_ptr Tryz.underlying44 info44 rfl rfl rfl rfl) rfl (by simp) ?_
   refine al_callp into50 rfl rfl rfl ((r_known _) _) (by simp) ?_
   refine al_op (op_not rfl) rfl (by simp) ?_
   refine al_nil ?_
   refine aw_cond rfl (fun h5 => ?_) (fun h5 => ?_)
   ·have gh5 := h5
    try simp only [nrm] at h5
    refine aw_seq ?_
    refine aw_region ?_
    refine al_op (op_assign rfl) rfl (by simp) ?_
    refine al_nil ?_
    refine aw_freeze (fun _ => false) (fsub_cons (t := 2) rfl (.leaf _ _ (.same _)) fsub_nil) ?_
    refine aw_ret ?_
    refine ⟨_, res_1 rfl rfl, ?_, rfl⟩
    rw [Net.valid_reg i (by omega) (by rw [reg_lits (b8 _ (getD_mem (v := n.regs) (i := i) (by omega))).1, show known (n.regs.getD i default).2.1 = false from by simpa using gh5]; rfl)]
   ·have gh5 := h5
    try simp only [nrm] at h5
    refine aw_skip ?_
    refine aw_region ?_
    refine al_op (op_add rfl rfl (by first | exact wrap_i64 (by omega) (by omega))) rfl (by simp) ?_
    refine al_op (op_move rfl) rfl (by simp) ?_
    refine al_nil ?_
    refine ⟨i + 1, ver43, ?_, ?_, ?_, ?_, ?_⟩
    ·omega
    ·exact ⟨by omega, allTo_succ hinv.2 (by simpa using gh5)⟩
    ·refine sub_cons (get_as rfl ?_) ?_; rotate_left; refine sub_cons (get_as rfl ?_) ?_; rotate_left; exact sub_nil
     all_goals (first | rfl | (simp; done) | (simp only [take_succ_getD n.regs i (by omega), List.map_append, List.map_cons, List.map_nil] <;> rfl))
    ·repeat (first | exact subx_refl | exact subx_del | refine subx_put rfl ?_)
    ·(simp only [take_succ_getD n.regs i (by omega), List.map_append, List.map_cons, List.map_nil] <;> rfl)
  ·have gh4 := h4
   try simp only [nrm] at h4
   refine aw_exit ?_
   obtain rfl : i = n.regs.length := by omega
   have a35 := hinv.2
   clear hinv hi
   refine aw_seq ?_
   refine aw_seq ?_
   refine aw_region ?_
   refine al_op (op_field_ptr Tryz.underlying27 rfl info25 (by decide) rfl rfl rfl) rfl (by simp) ?_
   refine al_op (op_load_ptr Tryz.underlying25 info25 rfl rfl rfl rfl) rfl (by simp) ?_
   refine al_op (op_len_map Tryz.underlying25 rfl) rfl (by simp) ?_
   refine al_op (op_move rfl) rfl (by simp) ?_
   refine al_nil ?_
   refine aw_block ?_
   refine aw_own_map encS 4 1 4 rfl rfl (fun ver4 => ?_)
   refine aw_for2T (α := Nat) (β := Nat) [4, 52] [8] (fun i ver => n.outs.length - i) (fun i ver => i ≤ n.outs.length) (fun i ver => ([(4, .slice 4 ver 0 ((n.outs.take i).map Prod.fst).length), (52, .v (.int .i64 (i)))] : Env)) (fun i ver s => s.put 4 ver (.row 1 (((n.outs.take i).map Prod.fst).map encS))) (0) (ver4) ?_ ?_ ?_ (fun i ver hinv => ?_)
   ·exact Nat.zero_le _
   ·refine sub_cons (get_as rfl ?_) ?_; rotate_left; refine sub_cons (get_as rfl ?_) ?_; rotate_left; exact sub_nil
    all_goals (first | rfl | (simp; done) | (simp only [take_succ_getD n.outs i (by omega), List.map_append, List.map_cons, List.map_nil] <;> rfl))
   ·rfl
   refine aw_seq ?_
   refine aw_region ?_
   refine al_op (op_lss rfl rfl) rfl (by simp) ?_
   refine al_nil ?_
   refine aw_seq ?_
   refine aw_cond rfl (fun h6 => ?_) (fun h6 => ?_)
   ·have gh6 := h6
    try simp only [nrm] at h6
    refine aw_skip ?_
    refine aw_seq ?_
    refine aw_block ?_
    refine aw_seq ?_
    refine aw_region ?_
    refine al_op (op_index_map default Tryz.underlying25 info82 rfl rfl rfl (by first | (with_reducible exact Int.toNat_natCast _) | rfl) (by omega) (by omega)) rfl (by simp) ?_
    refine al_op (op_load_rptr Tryz.underlying82 info82 rfl rfl) rfl (by simp) ?_
    (refine al_opR (op_alloc 8 info82 rfl rfl) rfl (by simp) ?_; rintro _ _ ⟨ver8, rfl, rfl⟩)
    refine al_op (op_store_ptr info82 rfl rfl rfl rfl rfl rfl (by first | rfl | exact live_one rfl | (repeat (first | exact all_live_nil | refine all_live_clo rfl ?_ | refine all_live_slice rfl ?_ | refine all_live_map rfl ?_ | refine all_live_ptr rfl ?_))) (Nat.le_of_ble_eq_true rfl)) rfl (by simp) ?_
    refine al_nil ?_
    refine aw_region ?_
    refine al_op (op_move rfl) rfl (by simp) ?_
    refine al_op (op_field_ptr Tryz.underlying82 rfl info9 (by decide) rfl rfl rfl) rfl (by simp) ?_
    refine al_op (op_load_ptr Tryz.underlying9 info9 rfl rfl rfl rfl) rfl (by simp) ?_
    refine al_op (op_buildSlice Tryz.underlying22 info9 rfl rfl (by decide) rfl (by decide) rfl (by first | rfl | (repeat (first | exact parts_nil | refine parts_cons rfl (by repeat (first | exact all_live_nil | refine all_live_clo rfl ?_ | refine all_live_slice rfl ?_ | refine all_live_map rfl ?_ | refine all_live_ptr rfl ?_)) ?_))) rfl rfl rfl) rfl (by simp) ?_
    (refine al_opR (op_append_one (n.outs.getD i default).1 Tryz.underlying22 Tryz.underlying22 rfl info9 rfl rfl (by decide) rfl rfl rfl (by first | rfl | simp) rfl rfl (by first | omega | (simp; done) | (simp; omega)) (by show _ * 16 ≤ _; first | omega | (simp; done) | (simp; omega))) rfl (by simp) ?_; rintro _ _ ⟨ver60, rfl, rfl⟩)
    refine al_op (op_assign rfl) rfl (by simp) ?_
    refine al_nil ?_
    refine aw_region ?_
    refine al_op (op_add rfl rfl (by first | exact wrap_i64 (by omega) (by omega))) rfl (by simp) ?_
    refine al_op (op_move rfl) rfl (by simp) ?_
    refine al_nil ?_
    refine ⟨i + 1, ver60, ?_, ?_, ?_, ?_, ?_⟩
    ·omega
    ·omega
    ·refine sub_cons (get_as rfl ?_) ?_; rotate_left; refine sub_cons (get_as rfl ?_) ?_; rotate_left; exact sub_nil
     all_goals (first | rfl | (simp; done) | (simp only [take_succ_getD n.outs i (by omega), List.map_append, List.map_cons, List.map_nil] <;> rfl))
    ·repeat (first | exact subx_refl | exact subx_del | refine subx_put rfl ?_)
    ·(simp only [take_succ_getD n.outs i (by omega), List.map_append, List.map_cons, List.map_nil] <;> rfl)
   ·have gh6 := h6
    try simp only [nrm] at h6
    refine aw_exit ?_
    obtain rfl : i = n.outs.length := by omega
    refine aw_seq ?_
    refine aw_seq ?_
    have c2 := names_take b2
    have c3 := names_take b3
    refine aw_region ?_
    refine al_op (op_field_ptr Tryz.underlying27 rfl info22 (by decide) rfl rfl rfl) rfl (by simp) ?_
    refine al_op (op_load_ptr Tryz.underlying22 info22 rfl rfl rfl rfl) rfl (by simp) ?_
    refine al_callp into51 rfl rfl rfl ((r_Names _ (by assumption)) _) (by simp) ?_
    refine al_op (op_not rfl) rfl (by simp) ?_
    refine al_op (op_move rfl) rfl (by simp) ?_
    apply al_or 4 66 70 rfl
    ·intro h7; have gh7 := h7
     try simp only [nrm] at h7
     refine al_take (op_move rfl) rfl rfl rfl rfl (by simp) ?_
     refine al_callp_take into51 rfl rfl rfl rfl rfl rfl (acp_lent (lend_cons (by first | exact lend_same | exact .leaf _ _ (.vnil _) | exact .leaf _ _ (.nil _) | exact lend_whole rfl (by first | rfl | (simp; done) | (simp; omega)) (clo_map (fun _ => rfl)) | exact lend_netg (by first | exact .same _ | exact lendL_vnil | exact lendL_whole rfl (by first | rfl | (simp; done) | (simp; omega)) (clo_map (fun _ => rfl))) (by first | exact .same _ | exact lendL_vnil | exact lendL_whole rfl (by first | rfl | (simp; done) | (simp; omega)) (clo_map (fun _ => rfl))) (by first | exact .same _ | exact lendL_vnil | exact lendL_whole rfl (by first | rfl | (simp; done) | (simp; omega)) (clo_map (fun _ => rfl))) (by first | exact .same _ | exact lendL_vnil | exact lendL_whole rfl (by first | rfl | (simp; done) | (simp; omega)) (clo_map (fun _ => rfl)))) lend_nil) (r_Names _ (by assumption)) rfl) (by simp) ?_
     refine al_take (op_not rfl) rfl rfl rfl rfl (by simp) ?_
     refine al_op (op_pick rfl rfl) rfl (by simp) ?_
     refine al_nil ⟨rfl, rfl, rfl, keep_of ?_⟩
     repeat (first | exact subx_refl | exact subx_known rfl gh7 subx_refl | refine subx_put rfl ?_)
    ·intro h7; have gh7 := h7
     try simp only [nrm] at h7
     refine al_pass rfl rfl rfl rfl (by simp) ?_
     refine al_pass rfl rfl rfl rfl (by simp) ?_
     refine al_pass rfl rfl rfl rfl (by simp) ?_
     refine al_op (op_pick rfl rfl) rfl (by simp) ?_
     refine al_nil ⟨rfl, rfl, rfl, keep_of ?_⟩
     repeat (first | exact subx_refl | exact subx_known rfl gh7 subx_refl | refine subx_put rfl ?_)
    refine al_op (op_move rfl) rfl (by simp) ?_
    apply al_or 4 71 75 rfl
    ·intro h8; have gh8 := h8
     try simp only [nrm] at h8
     refine al_take (op_move rfl) rfl rfl rfl rfl (by simp) ?_
     refine al_callp_take into51 rfl rfl rfl rfl rfl rfl (acp_lent (lend_cons (by first | exact lend_same | exact .leaf _ _ (.vnil _) | exact .leaf _ _ (.nil _) | exact lend_whole rfl (by first | rfl | (simp; done) | (simp; omega)) (clo_map (fun _ => rfl)) | exact lend_netg (by first | exact .same _ | exact lendL_vnil | exact lendL_whole rfl (by first | rfl | (simp; done) | (simp; omega)) (clo_map (fun _ => rfl))) (by first | exact .same _ | exact lendL_vnil | exact lendL_whole rfl (by first | rfl | (simp; done) | (simp; omega)) (clo_map (fun _ => rfl))) (by first | exact .same _ | exact lendL_vnil | exact lendL_whole rfl (by first | rfl | (simp; done) | (simp; omega)) (clo_map (fun _ => rfl))) (by first | exact .same _ | exact lendL_vnil | exact lendL_whole rfl (by first | rfl | (simp; done) | (simp; omega)) (clo_map (fun _ => rfl)))) lend_nil) (r_Names _ (by assumption)) rfl) (by simp) ?_
     refine al_take (op_not rfl) rfl rfl rfl rfl (by simp) ?_
     refine al_op (op_pick rfl rfl) rfl (by simp) ?_
     refine al_nil ⟨rfl, rfl, rfl, keep_of ?_⟩
     repeat (first | exact subx_refl | exact subx_known rfl gh8 subx_refl | refine subx_put rfl ?_)
    ·intro h8; have gh8 := h8
     try simp only [nrm] at h8
     refine al_pass rfl rfl rfl rfl (by simp) ?_
     refine al_pass rfl rfl rfl rfl (by simp) ?_
     refine al_pass rfl rfl rfl rfl (by simp) ?_
     refine al_op (op_pick rfl rfl) rfl (by simp) ?_
     refine al_nil ⟨rfl, rfl, rfl, keep_of ?_⟩
     repeat (first | exact subx_refl | exact subx_known rfl gh8 subx_refl | refine subx_put rfl ?_)
    refine al_nil ?_
    refine aw_cond rfl (fun h9 => ?_) (fun h9 => ?_)
    ·have gh9 := h9
     try simp only [nrm] at h9
     refine aw_seq ?_
     refine aw_region ?_
     refine al_op (op_assign rfl) rfl (by simp) ?_
     refine al_nil ?_
     refine aw_freeze (fun _ => false) (fsub_cons (t := 2) rfl (.leaf _ _ (.same _)) fsub_nil) ?_
     refine aw_ret ?_
     refine ⟨_, res_1 rfl rfl, ?_, rfl⟩
     rw [head_names (by simpa [List.take_length] using gh9)]
    ·have gh9 := h9
     try simp only [nrm] at h9
     have hh : n.okHead = true := head_all (by omega) (by simpa [List.take_length] using gh9)
     obtain ⟨e1, e2, e3, e4⟩ := okHead_len hh
     refine aw_skip ?_
     refine aw_seq ?_
     refine aw_seq ?_
     refine aw_region ?_
     refine al_op (op_field_ptr Tryz.underlying27 rfl info24 (by decide) rfl rfl rfl) rfl (by simp) ?_
     refine al_op (op_load_ptr Tryz.underlying24 info24 rfl rfl rfl rfl) rfl (by simp) ?_
     refine al_op (op_len_map Tryz.underlying24 rfl) rfl (by simp) ?_
     refine al_op (op_move rfl) rfl (by simp) ?_
     refine al_nil ?_
     refine aw_block ?_
     refine aw_forT (ι := Nat) [2, 79] [10] (fun i => n.gates.length - i) (fun i => i ≤ n.gates.length ∧ allTo n.gateAt i = true) (fun i => ([(79, .v (.int .i64 (i)))] : Env)) (fun i s => s) (0) ?_ ?_ ?_ (fun i hinv => ?_)
     ·exact ⟨Nat.zero_le _, rfl⟩
     ·refine sub_cons (get_as rfl ?_) ?_; rotate_left; exact sub_nil
      all_goals (first | rfl | simp)
     ·rfl
     have hi := hinv.1
     refine aw_seq ?_
     refine aw_region ?_
     refine al_op (op_lss rfl rfl) rfl (by simp) ?_
     refine al_nil ?_
     refine aw_seq ?_
     refine aw_cond rfl (fun h10 => ?_) (fun h10 => ?_)
     ·have gh10 := h10
      try simp only [nrm] at h10
      refine aw_skip ?_
      refine aw_seq ?_
      refine aw_block ?_
      refine aw_seq ?_
      refine aw_region ?_
      refine al_op (op_move rfl) rfl (by simp) ?_
      refine al_op (op_index_map default Tryz.underlying24 info80 rfl rfl rfl (by first | (with_reducible exact Int.toNat_natCast _) | rfl) (by omega) (by omega)) rfl (by simp) ?_
      refine al_op (op_load_rptr Tryz.underlying80 info80 rfl rfl) rfl (by simp) ?_
      (refine al_opR (op_alloc 10 info80 rfl rfl) rfl (by simp) ?_; rintro _ _ ⟨ver10, rfl, rfl⟩)
      refine al_op (op_assign rfl) rfl (by simp) ?_
      refine al_op (op_store_ptr info80 rfl rfl rfl rfl rfl rfl (by first | rfl | exact live_one rfl | (repeat (first | exact all_live_nil | refine all_live_clo rfl ?_ | refine all_live_slice rfl ?_ | refine all_live_map rfl ?_ | refine all_live_ptr rfl ?_))) (Nat.le_of_ble_eq_true rfl)) rfl (by simp) ?_
      refine al_nil ?_
      refine aw_seq ?_
      have hgi := b9 _ (getD_mem (v := n.gates) (i := i) (by omega))
      refine aw_any (Checked.mixed Tryz.checked) ?_
      apply aany_seg (p := 0) (q := 9) (by kernel_rfl) rfl (by decide)
      ·
       apply ql_plain rfl (op_index_aptr Tryz.underlying80 info3 rfl rfl rfl rfl (by decide) (by decide))
       apply ql_plain rfl (op_load_ptr Tryz.underlying3 info3 rfl rfl rfl rfl)
       apply ql_plain rfl (op_load_ptr Tryz.underlying27 info27 rfl rfl rfl rfl)
       apply ql_call into53 rfl rfl rfl ((r_first _ (by assumption)) _)
       apply ql_plain rfl (op_move rfl)
       apply ql_plain rfl (op_add rfl rfl (by first | exact wrap_i64 (by omega) (by omega)))
       apply ql_call into52 rfl rfl rfl ((r_lit _ _ (by omega)) _)
       apply ql_plain rfl (op_not rfl)
       apply ql_plain rfl (op_move rfl)
       exact ql_nil
      ·simp
      apply aany_or 9 18 92 101 (by kernel_rfl) rfl (by decide) rfl (by simp)
      ·intro h11; have gh11 := h11
       try simp only [nrm] at h11
       apply ql_ex
       ·
        apply ql_take rfl rfl rfl rfl (op_index_aptr Tryz.underlying80 info3 rfl rfl rfl rfl (by decide) (by decide))
        apply ql_take rfl rfl rfl rfl (op_load_ptr Tryz.underlying3 info3 rfl rfl rfl rfl)
        apply ql_take rfl rfl rfl rfl (op_load_ptr Tryz.underlying27 info27 rfl rfl rfl rfl)
        apply ql_call_take into53 rfl rfl rfl rfl rfl rfl ((r_first _ (by assumption)) _)
        apply ql_take rfl rfl rfl rfl (op_move rfl)
        apply ql_take rfl rfl rfl rfl (op_add rfl rfl (by first | exact wrap_i64 (by omega) (by omega)))
        apply ql_call_take into52 rfl rfl rfl rfl rfl rfl ((r_lit _ _ (by omega)) _)
        apply ql_take rfl rfl rfl rfl (op_not rfl)
        apply ql_plain rfl (op_pick rfl rfl)
        exact ql_nil
       ·rfl
       ·repeat (first | exact subx_refl | exact subx_known rfl gh11 subx_refl | refine subx_put rfl ?_)
      ·intro h11; have gh11 := h11
       try simp only [nrm] at h11
       apply ql_ex
       ·
        apply ql_pass rfl rfl rfl rfl
        apply ql_pass rfl rfl rfl rfl
        apply ql_pass rfl rfl rfl rfl
        apply ql_pass rfl rfl rfl rfl
        apply ql_pass rfl rfl rfl rfl
        apply ql_pass rfl rfl rfl rfl
        apply ql_pass rfl rfl rfl rfl
        apply ql_pass rfl rfl rfl rfl
        apply ql_plain rfl (op_pick rfl rfl)
        exact ql_nil
       ·rfl
       ·repeat (first | exact subx_refl | exact subx_known rfl gh11 subx_refl | refine subx_put rfl ?_)
      refine aany_end rfl (by kernel_rfl) ?_
      refine aw_cond rfl (fun h12 => ?_) (fun h12 => ?_)
      ·have gh12 := h12
       try simp only [nrm] at h12
       refine aw_seq ?_
       refine aw_region ?_
       refine al_op (op_assign rfl) rfl (by simp) ?_
       refine al_nil ?_
       refine aw_freeze (fun _ => false) (fsub_cons (t := 2) rfl (.leaf _ _ (.same _)) fsub_nil) ?_
       refine aw_ret ?_
       refine ⟨_, res_1 rfl rfl, ?_, rfl⟩
       rw [Net.valid_gate i (by omega) (by rw [gate_lits]; exact not_or_not gh12)]
      ·have gh12 := h12
       try simp only [nrm] at h12
       refine aw_skip ?_
       refine aw_region ?_
       refine al_op (op_add rfl rfl (by first | exact wrap_i64 (by omega) (by omega))) rfl (by simp) ?_
       refine al_op (op_move rfl) rfl (by simp) ?_
       refine al_nil ?_
       refine ⟨i + 1, ?_, ?_, ?_, ?_, ?_⟩
       ·omega
       ·exact ⟨by omega, allTo_succ hinv.2 (by rw [gate_lits]; exact not_or_not gh12)⟩
       ·refine sub_cons (get_as rfl ?_) ?_; rotate_left; exact sub_nil
        all_goals (first | rfl | simp)
       ·repeat (first | exact subx_refl | exact subx_del | refine subx_put rfl ?_)
       ·rfl
     ·have gh10 := h10
      try simp only [nrm] at h10
      refine aw_exit ?_
      obtain rfl : i = n.gates.length := by omega
      have a79 := hinv.2
      clear hinv hi
      refine aw_seq ?_
      refine aw_any (Checked.mixed Tryz.checked) ?_
      apply aany_seg (p := 0) (q := 7) (by kernel_rfl) rfl (by decide)
      ·
       apply ql_plain rfl (op_load_ptr Tryz.underlying27 info27 rfl rfl rfl rfl)
       apply ql_call into53 rfl rfl rfl ((r_first _ (by assumption)) _)
       apply ql_plain rfl (op_field_ptr Tryz.underlying27 rfl info24 (by decide) rfl rfl rfl)
       apply ql_plain rfl (op_load_ptr Tryz.underlying24 info24 rfl rfl rfl rfl)
       apply ql_plain rfl (op_len_map Tryz.underlying24 rfl)
       apply ql_plain rfl (op_add rfl rfl (by first | exact wrap_i64 (by omega) (by omega)))
       apply ql_plain rfl (op_assign rfl)
       exact ql_nil
      ·simp
      refine aany_end rfl (by kernel_rfl) ?_
      refine aw_seq ?_
      refine aw_seq ?_
      refine aw_region ?_
      refine al_op (op_field_ptr Tryz.underlying27 rfl info23 (by decide) rfl rfl rfl) rfl (by simp) ?_
      refine al_op (op_load_ptr Tryz.underlying23 info23 rfl rfl rfl rfl) rfl (by simp) ?_
      refine al_op (op_len_map Tryz.underlying23 rfl) rfl (by simp) ?_
      refine al_op (op_move rfl) rfl (by simp) ?_
      refine al_nil ?_
      refine aw_block ?_
      refine aw_forT (ι := Nat) [2, 112] [13] (fun i => n.regs.length - i) (fun i => i ≤ n.regs.length ∧ allTo n.regAt i = true) (fun i => ([(112, .v (.int .i64 (i)))] : Env)) (fun i s => s) (0) ?_ ?_ ?_ (fun i hinv => ?_)
      ·exact ⟨Nat.zero_le _, rfl⟩
      ·refine sub_cons (get_as rfl ?_) ?_; rotate_left; exact sub_nil
       all_goals (first | rfl | simp)
      ·rfl
      have hi := hinv.1
      refine aw_seq ?_
      refine aw_region ?_
      refine al_op (op_lss rfl rfl) rfl (by simp) ?_
      refine al_nil ?_
      refine aw_seq ?_
      refine aw_cond rfl (fun h13 => ?_) (fun h13 => ?_)
      ·have gh13 := h13
       try simp only [nrm] at h13
       refine aw_skip ?_
       refine aw_seq ?_
       refine aw_block ?_
       refine aw_seq ?_
       refine aw_region ?_
       refine al_op (op_index_map default Tryz.underlying23 info77 rfl rfl rfl (by first | (with_reducible exact Int.toNat_natCast _) | rfl) (by omega) (by omega)) rfl (by simp) ?_
       refine al_op (op_load_rptr Tryz.underlying77 info77 rfl rfl) rfl (by simp) ?_
       (refine al_opR (op_alloc 13 info77 rfl rfl) rfl (by simp) ?_; rintro _ _ ⟨ver13, rfl, rfl⟩)
       refine al_op (op_store_ptr info77 rfl rfl rfl rfl rfl rfl (by first | rfl | exact live_one rfl | (repeat (first | exact all_live_nil | refine all_live_clo rfl ?_ | refine all_live_slice rfl ?_ | refine all_live_map rfl ?_ | refine all_live_ptr rfl ?_))) (Nat.le_of_ble_eq_true rfl)) rfl (by simp) ?_
       refine al_nil ?_
       refine aw_seq ?_
       have hgi := b10 _ (getD_mem (v := n.regs) (i := i) (by omega))
       refine aw_region ?_
       refine al_op (op_field_ptr Tryz.underlying77 rfl info3 (by decide) rfl rfl rfl) rfl (by simp) ?_
       refine al_op (op_load_ptr Tryz.underlying3 info3 rfl rfl rfl rfl) rfl (by simp) ?_
       refine al_op (op_move rfl) rfl (by simp) ?_
       refine al_callp into52 rfl rfl rfl ((r_lit _ _ (by omega)) _) (by simp) ?_
       refine al_op (op_not rfl) rfl (by simp) ?_
       refine al_nil ?_
       refine aw_cond rfl (fun h14 => ?_) (fun h14 => ?_)
       ·have gh14 := h14
        try simp only [nrm] at h14
        refine aw_seq ?_
        refine aw_region ?_
        refine al_op (op_assign rfl) rfl (by simp) ?_
        refine al_nil ?_
        refine aw_freeze (fun _ => false) (fsub_cons (t := 2) rfl (.leaf _ _ (.same _)) fsub_nil) ?_
        refine aw_ret ?_
        refine ⟨_, res_1 rfl rfl, ?_, rfl⟩
        rw [Net.valid_reg i (by omega) (by rw [reg_lits (b8 _ (getD_mem (v := n.regs) (i := i) (by omega))).1, show litOK (n.regs.getD i default).2.2 (n.first + n.gates.length) = false from by simpa using gh14, Bool.and_false])]
       ·have gh14 := h14
        try simp only [nrm] at h14
        refine aw_skip ?_
        refine aw_region ?_
        refine al_op (op_add rfl rfl (by first | exact wrap_i64 (by omega) (by omega))) rfl (by simp) ?_
        refine al_op (op_move rfl) rfl (by simp) ?_
        refine al_nil ?_
        refine ⟨i + 1, ?_, ?_, ?_, ?_, ?_⟩
        ·omega
        ·exact ⟨by omega, allTo_succ hinv.2 (by rw [reg_lits (b8 _ (getD_mem (v := n.regs) (i := i) (by omega))).1, allTo_iff.1 a35 i (by omega)]; simpa using gh14)⟩
        ·refine sub_cons (get_as rfl ?_) ?_; rotate_left; exact sub_nil
         all_goals (first | rfl | simp)
        ·repeat (first | exact subx_refl | exact subx_del | refine subx_put rfl ?_)
        ·rfl
      ·have gh13 := h13
       try simp only [nrm] at h13
       refine aw_exit ?_
       obtain rfl : i = n.regs.length := by omega
       have a112 := hinv.2
       clear hinv hi
       refine aw_seq ?_
       refine aw_seq ?_
       refine aw_region ?_
       refine al_op (op_field_ptr Tryz.underlying27 rfl info25 (by decide) rfl rfl rfl) rfl (by simp) ?_
       refine al_op (op_load_ptr Tryz.underlying25 info25 rfl rfl rfl rfl) rfl (by simp) ?_
       refine al_op (op_len_map Tryz.underlying25 rfl) rfl (by simp) ?_
       refine al_op (op_move rfl) rfl (by simp) ?_
       refine al_nil ?_
       refine aw_block ?_
       refine aw_forT (ι := Nat) [2, 125] [15] (fun i => n.outs.length - i) (fun i => i ≤ n.outs.length ∧ allTo n.outAt i = true) (fun i => ([(125, .v (.int .i64 (i)))] : Env)) (fun i s => s) (0) ?_ ?_ ?_ (fun i hinv => ?_)
       ·exact ⟨Nat.zero_le _, rfl⟩
       ·refine sub_cons (get_as rfl ?_) ?_; rotate_left; exact sub_nil
        all_goals (first | rfl | simp)
       ·rfl
       have hi := hinv.1
       refine aw_seq ?_
       refine aw_region ?_
       refine al_op (op_lss rfl rfl) rfl (by simp) ?_
       refine al_nil ?_
       refine aw_seq ?_
       refine aw_cond rfl (fun h15 => ?_) (fun h15 => ?_)
       ·have gh15 := h15
        try simp only [nrm] at h15
        refine aw_skip ?_
        refine aw_seq ?_
        refine aw_block ?_
        refine aw_seq ?_
        refine aw_region ?_
        refine al_op (op_index_map default Tryz.underlying25 info82 rfl rfl rfl (by first | (with_reducible exact Int.toNat_natCast _) | rfl) (by omega) (by omega)) rfl (by simp) ?_
        refine al_op (op_load_rptr Tryz.underlying82 info82 rfl rfl) rfl (by simp) ?_
        (refine al_opR (op_alloc 15 info82 rfl rfl) rfl (by simp) ?_; rintro _ _ ⟨ver15, rfl, rfl⟩)
        refine al_op (op_store_ptr info82 rfl rfl rfl rfl rfl rfl (by first | rfl | exact live_one rfl | (repeat (first | exact all_live_nil | refine all_live_clo rfl ?_ | refine all_live_slice rfl ?_ | refine all_live_map rfl ?_ | refine all_live_ptr rfl ?_))) (Nat.le_of_ble_eq_true rfl)) rfl (by simp) ?_
        refine al_nil ?_
        refine aw_seq ?_
        have hgi := b11 _ (getD_mem (v := n.outs) (i := i) (by omega))
        refine aw_region ?_
        refine al_op (op_field_ptr Tryz.underlying82 rfl info3 (by decide) rfl rfl rfl) rfl (by simp) ?_
        refine al_op (op_load_ptr Tryz.underlying3 info3 rfl rfl rfl rfl) rfl (by simp) ?_
        refine al_op (op_move rfl) rfl (by simp) ?_
        refine al_callp into52 rfl rfl rfl ((r_lit _ _ (by omega)) _) (by simp) ?_
        refine al_op (op_not rfl) rfl (by simp) ?_
        refine al_nil ?_
        refine aw_cond rfl (fun h16 => ?_) (fun h16 => ?_)
        ·have gh16 := h16
         try simp only [nrm] at h16
         refine aw_seq ?_
         refine aw_region ?_
         refine al_op (op_assign rfl) rfl (by simp) ?_
         refine al_nil ?_
         refine aw_freeze (fun _ => false) (fsub_cons (t := 2) rfl (.leaf _ _ (.same _)) fsub_nil) ?_
         refine aw_ret ?_
         refine ⟨_, res_1 rfl rfl, ?_, rfl⟩
         rw [Net.valid_out i (by omega) (by rw [out_lits]; simpa using gh16)]
        ·have gh16 := h16
         try simp only [nrm] at h16
         refine aw_skip ?_
         refine aw_region ?_
         refine al_op (op_add rfl rfl (by first | exact wrap_i64 (by omega) (by omega))) rfl (by simp) ?_
         refine al_op (op_move rfl) rfl (by simp) ?_
         refine al_nil ?_
         refine ⟨i + 1, ?_, ?_, ?_, ?_, ?_⟩
         ·omega
         ·exact ⟨by omega, allTo_succ hinv.2 (by rw [out_lits]; simpa using gh16)⟩
         ·refine sub_cons (get_as rfl ?_) ?_; rotate_left; exact sub_nil
          all_goals (first | rfl | simp)
         ·repeat (first | exact subx_refl | exact subx_del | refine subx_put rfl ?_)
         ·rfl
       ·have gh15 := h15
        try simp only [nrm] at h15
        refine aw_exit ?_
        obtain rfl : i = n.outs.length := by omega
        have a125 := hinv.2
        clear hinv hi
        refine aw_seq ?_
        refine aw_region ?_
        refine al_op (op_assign rfl) rfl (by simp) ?_
        refine al_nil ?_
        refine aw_freeze (fun _ => false) (fsub_cons (t := 2) rfl (.leaf _ _ (.same _)) fsub_nil) ?_
        refine aw_ret ?_
        refine ⟨_, res_1 rfl rfl, ?_, rfl⟩
        rw [Net.valid_all hh a79 a112 a125]

theorem r_All (n : Net) (hn : n.Small) (ins regs : List Int) (hi1 : ins.length ≤ 140737488355328) (hr1 : regs.length ≤ 140737488355328) (hi2 : ∀ x ∈ ins, 0 ≤ x ∧ x ≤ 255) (hr2 : ∀ x ∈ regs, 0 ≤ x ∧ x ≤ 255) : ACp Tryz.prog 88 [encN n, .list 1 (ins.map encB), .list 1 (regs.map encB)] (.tuple [.list 1 ((n.all ins regs).1.map encB), .v (.int .i64 ((n.all ins regs).2))]) := by
 refine acp_of rfl ?_
 refine ac_enter 62 Tryz.func88 rfl rfl (by simp) ?_
 refine aw_seq ?_
 refine aw_region ?_
 (refine al_opR (op_box 3 rfl rfl (by first | rfl | exact live_one rfl | (repeat (first | exact all_live_nil | refine all_live_clo rfl ?_ | refine all_live_slice rfl ?_ | refine all_live_map rfl ?_ | refine all_live_ptr rfl ?_)))) rfl (by simp) ?_; rintro _ _ ⟨ver3, rfl, rfl⟩)
 refine al_op (op_assign rfl) rfl (by simp) ?_
 refine al_op (op_assign rfl) rfl (by simp) ?_
 refine al_nil ?_
 refine aw_seq ?_
 refine aw_seq ?_
 refine aw_region ?_
 refine al_op (op_load_ptr Tryz.underlying27 info27 rfl rfl rfl rfl) rfl (by simp) ?_
 refine al_callp into24 rfl rfl rfl ((r_Valid _ (by assumption)) _) (by simp) ?_
 refine al_op (op_not rfl) rfl (by simp) ?_
 refine al_op (op_move rfl) rfl (by simp) ?_
 apply al_or 7 16 23 rfl
 ·intro h1; have gh1 := h1
  try simp only [nrm] at h1
  refine al_take (op_move rfl) rfl rfl rfl rfl (by simp) ?_
  refine al_take (op_field_ptr Tryz.underlying27 rfl info22 (by decide) rfl rfl rfl) rfl rfl rfl rfl (by simp) ?_
  refine al_take (op_load_ptr Tryz.underlying22 info22 rfl rfl rfl rfl) rfl rfl rfl rfl (by simp) ?_
  refine al_take (op_len_map Tryz.underlying22 rfl) rfl rfl rfl rfl (by simp) ?_
  refine al_callp_take into98 rfl rfl rfl rfl rfl rfl ((r_fits _ _ (by assumption) (by assumption)) _) (by simp) ?_
  refine al_take (op_not rfl) rfl rfl rfl rfl (by simp) ?_
  refine al_op (op_pick rfl rfl) rfl (by simp) ?_
  refine al_nil ⟨rfl, rfl, rfl, keep_of ?_⟩
  repeat (first | exact subx_refl | exact subx_known rfl gh1 subx_refl | refine subx_put rfl ?_)
 ·intro h1; have gh1 := h1
  try simp only [nrm] at h1
  refine al_pass rfl rfl rfl rfl (by simp) ?_
  refine al_pass rfl rfl rfl rfl (by simp) ?_
  refine al_pass rfl rfl rfl rfl (by simp) ?_
  refine al_pass rfl rfl rfl rfl (by simp) ?_
  refine al_pass rfl rfl rfl rfl (by simp) ?_
  refine al_pass rfl rfl rfl rfl (by simp) ?_
  refine al_op (op_pick rfl rfl) rfl (by simp) ?_
  refine al_nil ⟨rfl, rfl, rfl, keep_of ?_⟩
  repeat (first | exact subx_refl | exact subx_known rfl gh1 subx_refl | refine subx_put rfl ?_)
 refine al_op (op_move rfl) rfl (by simp) ?_
 apply al_or 7 24 31 rfl
 ·intro h2; have gh2 := h2
  try simp only [nrm] at h2
  refine al_take (op_move rfl) rfl rfl rfl rfl (by simp) ?_
  refine al_take (op_field_ptr Tryz.underlying27 rfl info23 (by decide) rfl rfl rfl) rfl rfl rfl rfl (by simp) ?_
  refine al_take (op_load_ptr Tryz.underlying23 info23 rfl rfl rfl rfl) rfl rfl rfl rfl (by simp) ?_
  refine al_take (op_len_map Tryz.underlying23 rfl) rfl rfl rfl rfl (by simp) ?_
  refine al_callp_take into98 rfl rfl rfl rfl rfl rfl ((r_fits _ _ (by assumption) (by assumption)) _) (by simp) ?_
  refine al_take (op_not rfl) rfl rfl rfl rfl (by simp) ?_
  refine al_op (op_pick rfl rfl) rfl (by simp) ?_
  refine al_nil ⟨rfl, rfl, rfl, keep_of ?_⟩
  repeat (first | exact subx_refl | exact subx_known rfl gh2 subx_refl | refine subx_put rfl ?_)
 ·intro h2; have gh2 := h2
  try simp only [nrm] at h2
  refine al_pass rfl rfl rfl rfl (by simp) ?_
  refine al_pass rfl rfl rfl rfl (by simp) ?_
  refine al_pass rfl rfl rfl rfl (by simp) ?_
  refine al_pass rfl rfl rfl rfl (by simp) ?_
  refine al_pass rfl rfl rfl rfl (by simp) ?_
  refine al_pass rfl rfl rfl rfl (by simp) ?_
  refine al_op (op_pick rfl rfl) rfl (by simp) ?_
  refine al_nil ⟨rfl, rfl, rfl, keep_of ?_⟩
  repeat (first | exact subx_refl | exact subx_known rfl gh2 subx_refl | refine subx_put rfl ?_)
 refine al_nil ?_
 refine aw_cond rfl (fun h3 => ?_) (fun h3 => ?_)
 ·have gh3 := h3
  try simp only [nrm] at h3
  refine aw_seq ?_
  refine aw_region ?_
  refine al_op (op_assign rfl) rfl (by simp) ?_
  refine al_op (op_assign rfl) rfl (by simp) ?_
  refine al_nil ?_
  refine aw_freeze (fun _ => false) (fsub_cons (t := 6) rfl (by first | exact .leaf _ _ (frz_whole rfl rfl (by first | rfl | (simp; done) | (simp; omega)) (clo_map (fun _ => rfl))) | exact .leaf _ _ (.vnil 1) | exact .leaf _ _ (.nil 1) | exact .leaf _ _ (.same _)) (fsub_cons (t := 7) rfl (.leaf _ _ (.same _)) fsub_nil)) ?_
  refine aw_ret ?_
  refine ⟨_, res_2 rfl rfl rfl rfl rfl, ?_, rfl⟩
  rw [Net.all_bad gh3]; rfl
 ·have gh3 := h3
  try simp only [nrm] at h3
  have hb : n.bad ins regs = false := gh3
  obtain ⟨hv, el1, el2⟩ := Net.not_bad hb
  obtain ⟨f1, f2, f3, f4, f5, f6, f7⟩ := Net.valid_facts hv
  obtain ⟨hbi, hbr⟩ := Net.bad_bits hb hi2 hr2
  refine aw_skip ?_
  refine aw_seq ?_
  refine aw_region ?_
  (refine al_opR (op_list_own encB [(0 : Int)] 32 Tryz.underlying28 info44 rfl rfl (by decide) rfl (by decide) rfl (by first | rfl | (repeat (first | exact parts_nil | refine parts_cons rfl (by repeat (first | exact all_live_nil | refine all_live_clo rfl ?_ | refine all_live_slice rfl ?_ | refine all_live_map rfl ?_ | refine all_live_ptr rfl ?_)) ?_))) rfl rfl (by first | rfl | (repeat (first | exact parts_nil | refine parts_cons rfl (by repeat (first | exact all_live_nil | refine all_live_clo rfl ?_ | refine all_live_slice rfl ?_ | refine all_live_map rfl ?_ | refine all_live_ptr rfl ?_)) ?_))) rfl rfl) rfl (by simp) ?_; rintro _ _ ⟨ver32, rfl, rfl⟩)
  refine al_op (op_move rfl) rfl (by simp) ?_
  (refine al_opR (op_append_map Tryz.underlying28 Tryz.underlying28 rfl info44 rfl rfl (by decide) rfl rfl rfl (by first | rfl | simp) rfl (by first | exact .list _ | exact .vnil | exact .nil | exact .row _ _ _ _ rfl (by first | rfl | simp)) rfl (by first | omega | (simp; done) | (simp; omega)) (by show _ * 1 ≤ _; first | omega | (simp; done) | (simp; omega))) rfl (by simp) ?_; rintro _ _ ⟨ver34, rfl, rfl⟩)
  refine al_op (op_move rfl) rfl (by simp) ?_
  (refine al_opR (op_append_map Tryz.underlying28 Tryz.underlying28 rfl info44 rfl rfl (by decide) rfl rfl rfl (by first | rfl | simp) rfl (by first | exact .list _ | exact .vnil | exact .nil | exact .row _ _ _ _ rfl (by first | rfl | simp)) rfl (by first | omega | (simp; done) | (simp; omega)) (by show _ * 1 ≤ _; first | omega | (simp; done) | (simp; omega))) rfl (by simp) ?_; rintro _ _ ⟨ver36, rfl, rfl⟩)
  refine al_op (op_assign rfl) rfl (by simp) ?_
  refine al_nil ?_
  refine aw_seq ?_
  refine aw_seq ?_
  refine aw_region ?_
  refine al_op (op_field_ptr Tryz.underlying27 rfl info24 (by decide) rfl rfl rfl) rfl (by simp) ?_
  refine al_op (op_load_ptr Tryz.underlying24 info24 rfl rfl rfl rfl) rfl (by simp) ?_
  refine al_op (op_len_map Tryz.underlying24 rfl) rfl (by simp) ?_
  refine al_op (op_move rfl) rfl (by simp) ?_
  refine al_nil ?_
  refine aw_block ?_
  refine aw_for2T (α := Nat) (β := Nat) [8, 40] [10] (fun i ver => n.gates.length - i) (fun i ver => i ≤ n.gates.length) (fun i ver => ([(8, .slice 32 ver 0 (n.valsTo ins regs i).length), (40, .v (.int .i64 (i)))] : Env)) (fun i ver s => s.put 32 ver (.row 1 ((n.valsTo ins regs i).map encB))) (0) (ver36) ?_ ?_ ?_ (fun i ver hinv => ?_)
  ·exact Nat.zero_le _
  ·refine sub_cons (get_as rfl ?_) ?_; rotate_left; refine sub_cons (get_as rfl ?_) ?_; rotate_left; exact sub_nil
   all_goals (first | rfl | (simp; done))
  ·rfl
  refine aw_seq ?_
  refine aw_region ?_
  refine al_op (op_lss rfl rfl) rfl (by simp) ?_
  refine al_nil ?_
  refine aw_seq ?_
  refine aw_cond rfl (fun h4 => ?_) (fun h4 => ?_)
  ·have gh4 := h4
   try simp only [nrm] at h4
   refine aw_skip ?_
   refine aw_seq ?_
   refine aw_block ?_
   refine aw_seq ?_
   refine aw_region ?_
   refine al_op (op_index_map default Tryz.underlying24 info80 rfl rfl rfl (by first | (with_reducible exact Int.toNat_natCast _) | rfl) (by omega) (by omega)) rfl (by simp) ?_
   refine al_op (op_load_rptr Tryz.underlying80 info80 rfl rfl) rfl (by simp) ?_
   (refine al_opR (op_alloc 10 info80 rfl rfl) rfl (by simp) ?_; rintro _ _ ⟨ver10, rfl, rfl⟩)
   refine al_op (op_store_ptr info80 rfl rfl rfl rfl rfl rfl (by first | rfl | exact live_one rfl | (repeat (first | exact all_live_nil | refine all_live_clo rfl ?_ | refine all_live_slice rfl ?_ | refine all_live_map rfl ?_ | refine all_live_ptr rfl ?_))) (Nat.le_of_ble_eq_true rfl)) rfl (by simp) ?_
   refine al_nil ?_
   refine aw_seq ?_
   have hg := f5 i (by omega)
   have hlen := n.valsTo_length ins regs i
   have hbt := n.valsTo_bit hbi hbr i
   have hx1 := ofB_bit (l := (n.gates.getD i default).1) hbt (by omega)
   have hx2 := ofB_bit (l := (n.gates.getD i default).2) hbt (by omega)
   refine aw_any (Checked.mixed Tryz.checked) ?_
   apply aany_seg (p := 0) (q := 14) (by kernel_rfl) rfl (by decide)
   ·
    apply ql_plain rfl (op_index_aptr Tryz.underlying80 info3 rfl rfl rfl rfl (by decide) (by decide))
    apply ql_plain rfl (op_load_ptr Tryz.underlying3 info3 rfl rfl rfl rfl)
    apply ql_plain rfl (op_move rfl)
    apply ql_call into89 rfl rfl rfl (acp_lent (lend_cons (by first | exact lend_same | exact .leaf _ _ (.vnil _) | exact .leaf _ _ (.nil _) | exact lend_whole rfl (by first | rfl | (simp; done) | (simp; omega)) (clo_map (fun _ => rfl)) | exact lend_netg (by first | exact .same _ | exact lendL_vnil | exact lendL_whole rfl (by first | rfl | (simp; done) | (simp; omega)) (clo_map (fun _ => rfl))) (by first | exact .same _ | exact lendL_vnil | exact lendL_whole rfl (by first | rfl | (simp; done) | (simp; omega)) (clo_map (fun _ => rfl))) (by first | exact .same _ | exact lendL_vnil | exact lendL_whole rfl (by first | rfl | (simp; done) | (simp; omega)) (clo_map (fun _ => rfl))) (by first | exact .same _ | exact lendL_vnil | exact lendL_whole rfl (by first | rfl | (simp; done) | (simp; omega)) (clo_map (fun _ => rfl)))) (lend_cons (by first | exact lend_same | exact .leaf _ _ (.vnil _) | exact .leaf _ _ (.nil _) | exact lend_whole rfl (by first | rfl | (simp; done) | (simp; omega)) (clo_map (fun _ => rfl)) | exact lend_netg (by first | exact .same _ | exact lendL_vnil | exact lendL_whole rfl (by first | rfl | (simp; done) | (simp; omega)) (clo_map (fun _ => rfl))) (by first | exact .same _ | exact lendL_vnil | exact lendL_whole rfl (by first | rfl | (simp; done) | (simp; omega)) (clo_map (fun _ => rfl))) (by first | exact .same _ | exact lendL_vnil | exact lendL_whole rfl (by first | rfl | (simp; done) | (simp; omega)) (clo_map (fun _ => rfl))) (by first | exact .same _ | exact lendL_vnil | exact lendL_whole rfl (by first | rfl | (simp; done) | (simp; omega)) (clo_map (fun _ => rfl)))) lend_nil)) (r_of _ _ (by omega) (by omega) (by omega) (by assumption)) rfl)
    apply ql_plain rfl (op_index_aptr Tryz.underlying80 info3 rfl rfl rfl rfl (by decide) (by decide))
    apply ql_plain rfl (op_load_ptr Tryz.underlying3 info3 rfl rfl rfl rfl)
    apply ql_plain rfl (op_move rfl)
    apply ql_call into89 rfl rfl rfl (acp_lent (lend_cons (by first | exact lend_same | exact .leaf _ _ (.vnil _) | exact .leaf _ _ (.nil _) | exact lend_whole rfl (by first | rfl | (simp; done) | (simp; omega)) (clo_map (fun _ => rfl)) | exact lend_netg (by first | exact .same _ | exact lendL_vnil | exact lendL_whole rfl (by first | rfl | (simp; done) | (simp; omega)) (clo_map (fun _ => rfl))) (by first | exact .same _ | exact lendL_vnil | exact lendL_whole rfl (by first | rfl | (simp; done) | (simp; omega)) (clo_map (fun _ => rfl))) (by first | exact .same _ | exact lendL_vnil | exact lendL_whole rfl (by first | rfl | (simp; done) | (simp; omega)) (clo_map (fun _ => rfl))) (by first | exact .same _ | exact lendL_vnil | exact lendL_whole rfl (by first | rfl | (simp; done) | (simp; omega)) (clo_map (fun _ => rfl)))) (lend_cons (by first | exact lend_same | exact .leaf _ _ (.vnil _) | exact .leaf _ _ (.nil _) | exact lend_whole rfl (by first | rfl | (simp; done) | (simp; omega)) (clo_map (fun _ => rfl)) | exact lend_netg (by first | exact .same _ | exact lendL_vnil | exact lendL_whole rfl (by first | rfl | (simp; done) | (simp; omega)) (clo_map (fun _ => rfl))) (by first | exact .same _ | exact lendL_vnil | exact lendL_whole rfl (by first | rfl | (simp; done) | (simp; omega)) (clo_map (fun _ => rfl))) (by first | exact .same _ | exact lendL_vnil | exact lendL_whole rfl (by first | rfl | (simp; done) | (simp; omega)) (clo_map (fun _ => rfl))) (by first | exact .same _ | exact lendL_vnil | exact lendL_whole rfl (by first | rfl | (simp; done) | (simp; omega)) (clo_map (fun _ => rfl)))) lend_nil)) (r_of _ _ (by omega) (by omega) (by omega) (by assumption)) rfl)
    apply ql_call into99 rfl rfl rfl ((r_Op _ _ (by assumption) (by assumption)) _)
    apply ql_plain rfl (op_move rfl)
    apply ql_plain rfl (op_extract rfl rfl rfl)
    apply ql_plain rfl (op_extract rfl rfl rfl)
    apply ql_plain rfl (op_assign rfl)
    apply ql_plain rfl (op_assign rfl)
    exact ql_nil
   ·simp
   refine aany_end rfl (by kernel_rfl) ?_
   have hlen := n.valsTo_length ins regs i
   refine aw_region ?_
   refine al_op (op_move rfl) rfl (by simp) ?_
   refine al_op (op_move rfl) rfl (by simp) ?_
   refine al_op (op_buildSlice Tryz.underlying28 info44 rfl rfl (by decide) rfl (by decide) rfl (by first | rfl | (repeat (first | exact parts_nil | refine parts_cons rfl (by repeat (first | exact all_live_nil | refine all_live_clo rfl ?_ | refine all_live_slice rfl ?_ | refine all_live_map rfl ?_ | refine all_live_ptr rfl ?_)) ?_))) rfl rfl rfl) rfl (by simp) ?_
   (refine al_opR (op_append_one _ Tryz.underlying28 Tryz.underlying28 rfl info44 rfl rfl (by decide) rfl rfl rfl (by first | rfl | simp) rfl rfl (by first | omega | (simp; done) | (simp; omega)) (by show _ * 1 ≤ _; first | omega | (simp; done) | (simp; omega))) rfl (by simp) ?_; rintro _ _ ⟨ver59, rfl, rfl⟩)
   refine al_op (op_assign rfl) rfl (by simp) ?_
   refine al_nil ?_
   refine aw_region ?_
   refine al_op (op_add rfl rfl (by first | exact wrap_i64 (by omega) (by omega))) rfl (by simp) ?_
   refine al_op (op_move rfl) rfl (by simp) ?_
   refine al_nil ?_
   refine ⟨i + 1, ver59, ?_, ?_, ?_, ?_, ?_⟩
   ·omega
   ·omega
   ·refine sub_cons (get_as rfl ?_) ?_; rotate_left; refine sub_cons (get_as rfl ?_) ?_; rotate_left; exact sub_nil
    all_goals (first | rfl | (simp; done))
   ·repeat (first | exact subx_refl | exact subx_del | refine subx_put rfl ?_)
   ·rfl
  ·have gh4 := h4
   try simp only [nrm] at h4
   refine aw_exit ?_
   obtain rfl : i = n.gates.length := by omega
   refine aw_seq ?_
   refine aw_region ?_
   refine al_op (op_move rfl) rfl (by simp) ?_
   refine al_op (op_assign rfl) rfl (by simp) ?_
   refine al_op (op_assign rfl) rfl (by simp) ?_
   refine al_nil ?_
   refine aw_freeze (fun _ => false) (fsub_cons (t := 6) rfl (by first | exact .leaf _ _ (frz_whole rfl rfl (by first | rfl | (simp; done) | (simp; omega)) (clo_map (fun _ => rfl))) | exact .leaf _ _ (.vnil 1) | exact .leaf _ _ (.nil 1) | exact .leaf _ _ (.same _)) (fsub_cons (t := 7) rfl (.leaf _ _ (.same _)) fsub_nil)) ?_
   refine aw_ret ?_
   refine ⟨_, res_2 rfl rfl rfl rfl rfl, ?_, rfl⟩
   rw [Net.all_ok hb]

theorem r_Eval (n : Net) (hn : n.Small) (ins regs : List Int) (hi1 : ins.length ≤ 140737488355328) (hr1 : regs.length ≤ 140737488355328) (hi2 : ∀ x ∈ ins, 0 ≤ x ∧ x ≤ 255) (hr2 : ∀ x ∈ regs, 0 ≤ x ∧ x ≤ 255) : ACp Tryz.prog 65 [encN n, .list 1 (ins.map encB), .list 1 (regs.map encB)] (.tuple [.list 1 ((n.eval ins regs).1.map encB), .list 1 ((n.eval ins regs).2.1.map encB), .v (.int .i64 ((n.eval ins regs).2.2))]) := by
 refine acp_of rfl ?_
 refine ac_enter 56 Tryz.func65 rfl rfl (by simp) ?_
 refine aw_seq ?_
 refine aw_region ?_
 (refine al_opR (op_box 3 rfl rfl (by first | rfl | exact live_one rfl | (repeat (first | exact all_live_nil | refine all_live_clo rfl ?_ | refine all_live_slice rfl ?_ | refine all_live_map rfl ?_ | refine all_live_ptr rfl ?_)))) rfl (by simp) ?_; rintro _ _ ⟨ver3, rfl, rfl⟩)
 refine al_op (op_assign rfl) rfl (by simp) ?_
 refine al_op (op_assign rfl) rfl (by simp) ?_
 refine al_op (op_assign rfl) rfl (by simp) ?_
 refine al_nil ?_
 refine aw_seq ?_
 refine aw_region ?_
 refine al_op (op_load_ptr Tryz.underlying27 info27 rfl rfl rfl rfl) rfl (by simp) ?_
 refine al_op (op_move rfl) rfl (by simp) ?_
 refine al_op (op_move rfl) rfl (by simp) ?_
 refine al_callp into88 rfl rfl rfl ((r_All _ (by assumption) _ _ (by assumption) (by assumption) (by assumption) (by assumption)) _) (by simp) ?_
 refine al_op (op_move rfl) rfl (by simp) ?_
 refine al_op (op_extract rfl rfl rfl) rfl (by simp) ?_
 refine al_op (op_extract rfl rfl rfl) rfl (by simp) ?_
 refine al_op (op_assign rfl) rfl (by simp) ?_
 refine al_op (op_assign rfl) rfl (by simp) ?_
 refine al_nil ?_
 refine aw_seq ?_
 refine aw_seq ?_
 refine aw_region ?_
 refine al_op (op_move rfl) rfl (by simp) ?_
 refine al_op (op_neq rfl rfl) rfl (by simp) ?_
 refine al_nil ?_
 refine aw_cond rfl (fun h1 => ?_) (fun h1 => ?_)
 ·have gh1 := h1
  try simp only [nrm] at h1
  have hb : n.bad ins regs = true := by
    cases e : n.bad ins regs with
    | true => rfl
    | false => exact absurd (Net.all_err.2 e) (by simpa using h1)
  have he : (n.all ins regs).2 = 2 := by rw [Net.all_bad hb]
  refine aw_seq ?_
  refine aw_region ?_
  refine al_op (op_move rfl) rfl (by simp) ?_
  refine al_op (op_assign rfl) rfl (by simp) ?_
  refine al_op (op_assign rfl) rfl (by simp) ?_
  refine al_op (op_assign rfl) rfl (by simp) ?_
  refine al_nil ?_
  refine aw_freeze (fun _ => false) (fsub_cons (t := 6) rfl (by first | exact .leaf _ _ (frz_whole rfl rfl (by first | rfl | (simp; done) | (simp; omega)) (clo_map (fun _ => rfl))) | exact .leaf _ _ (.vnil 1) | exact .leaf _ _ (.nil 1) | exact .leaf _ _ (.same _)) (fsub_cons (t := 7) rfl (by first | exact .leaf _ _ (frz_whole rfl rfl (by first | rfl | (simp; done) | (simp; omega)) (clo_map (fun _ => rfl))) | exact .leaf _ _ (.vnil 1) | exact .leaf _ _ (.nil 1) | exact .leaf _ _ (.same _)) (fsub_cons (t := 8) rfl (.leaf _ _ (.same _)) fsub_nil))) ?_
  refine aw_ret ?_
  refine ⟨_, res_3 rfl rfl rfl rfl rfl rfl rfl, ?_, rfl⟩
  rw [Net.eval_bad hb, he]; rfl
 ·have gh1 := h1
  try simp only [nrm] at h1
  have hb : n.bad ins regs = false := Net.all_err.1 (by simpa using h1)
  have he : (n.all ins regs).1 = n.valsTo ins regs n.gates.length := by rw [Net.all_ok hb]
  obtain ⟨hv, el1, el2⟩ := Net.not_bad hb
  obtain ⟨f1, f2, f3, f4, f5, f6, f7⟩ := Net.valid_facts hv
  have hlen := n.valsTo_length ins regs n.gates.length
  have hrg := n.valsTo_range hi2 hr2 n.gates.length
  obtain ⟨hbi, hbr⟩ := Net.bad_bits hb hi2 hr2
  have hbt := n.valsTo_bit hbi hbr n.gates.length
  rw [← he] at hlen hrg hbt
  refine aw_skip ?_
  refine aw_seq ?_
  refine aw_seq ?_
  refine aw_region ?_
  refine al_op (op_field_ptr Tryz.underlying27 rfl info25 (by decide) rfl rfl rfl) rfl (by simp) ?_
  refine al_op (op_load_ptr Tryz.underlying25 info25 rfl rfl rfl rfl) rfl (by simp) ?_
  refine al_op (op_len_map Tryz.underlying25 rfl) rfl (by simp) ?_
  refine al_op (op_move rfl) rfl (by simp) ?_
  refine al_nil ?_
  refine aw_block ?_
  refine aw_own_map encB 6 1 6 rfl rfl (fun ver6 => ?_)
  refine aw_for2T (α := Nat) (β := Nat) [6, 27] [11] (fun i ver => n.outs.length - i) (fun i ver => i ≤ n.outs.length) (fun i ver => ([(6, .slice 6 ver 0 ((n.outs.take i).map fun p => ofB (n.all ins regs).1 p.2).length), (27, .v (.int .i64 (i)))] : Env)) (fun i ver s => s.put 6 ver (.row 1 (((n.outs.take i).map fun p => ofB (n.all ins regs).1 p.2).map encB))) (0) (ver6) ?_ ?_ ?_ (fun i ver hinv => ?_)
  ·exact Nat.zero_le _
  ·refine sub_cons (get_as rfl ?_) ?_; rotate_left; refine sub_cons (get_as rfl ?_) ?_; rotate_left; exact sub_nil
   all_goals (first | rfl | (simp; done) | (simp only [take_succ_getD n.outs i (by omega), List.map_append, List.map_cons, List.map_nil] <;> rfl))
  ·rfl
  refine aw_seq ?_
  refine aw_region ?_
  refine al_op (op_lss rfl rfl) rfl (by simp) ?_
  refine al_nil ?_
  refine aw_seq ?_
  refine aw_cond rfl (fun h2 => ?_) (fun h2 => ?_)
  ·have gh2 := h2
   try simp only [nrm] at h2
   refine aw_skip ?_
   refine aw_seq ?_
   refine aw_block ?_
   refine aw_seq ?_
   refine aw_region ?_
   refine al_op (op_index_map default Tryz.underlying25 info82 rfl rfl rfl (by first | (with_reducible exact Int.toNat_natCast _) | rfl) (by omega) (by omega)) rfl (by simp) ?_
   refine al_op (op_load_rptr Tryz.underlying82 info82 rfl rfl) rfl (by simp) ?_
   (refine al_opR (op_alloc 11 info82 rfl rfl) rfl (by simp) ?_; rintro _ _ ⟨ver11, rfl, rfl⟩)
   refine al_op (op_store_ptr info82 rfl rfl rfl rfl rfl rfl (by first | rfl | exact live_one rfl | (repeat (first | exact all_live_nil | refine all_live_clo rfl ?_ | refine all_live_slice rfl ?_ | refine all_live_map rfl ?_ | refine all_live_ptr rfl ?_))) (Nat.le_of_ble_eq_true rfl)) rfl (by simp) ?_
   refine al_nil ?_
   have hg := f7 i (by omega)
   refine aw_region ?_
   refine al_op (op_move rfl) rfl (by simp) ?_
   refine al_op (op_field_ptr Tryz.underlying82 rfl info3 (by decide) rfl rfl rfl) rfl (by simp) ?_
   refine al_op (op_load_ptr Tryz.underlying3 info3 rfl rfl rfl rfl) rfl (by simp) ?_
   refine al_op (op_move rfl) rfl (by simp) ?_
   refine al_callp into89 rfl rfl rfl ((r_of _ _ (by omega) (by omega) (by omega) (by assumption)) _) (by simp) ?_
   refine al_op (op_buildSlice Tryz.underlying28 info44 rfl rfl (by decide) rfl (by decide) rfl (by first | rfl | (repeat (first | exact parts_nil | refine parts_cons rfl (by repeat (first | exact all_live_nil | refine all_live_clo rfl ?_ | refine all_live_slice rfl ?_ | refine all_live_map rfl ?_ | refine all_live_ptr rfl ?_)) ?_))) rfl rfl rfl) rfl (by simp) ?_
   (refine al_opR (op_append_one (ofB (n.all ins regs).1 (n.outs.getD i default).2) Tryz.underlying28 Tryz.underlying28 rfl info44 rfl rfl (by decide) rfl rfl rfl (by first | rfl | simp) rfl rfl (by first | omega | (simp; done) | (simp; omega)) (by show _ * 1 ≤ _; first | omega | (simp; done) | (simp; omega))) rfl (by simp) ?_; rintro _ _ ⟨ver37, rfl, rfl⟩)
   refine al_op (op_assign rfl) rfl (by simp) ?_
   refine al_nil ?_
   refine aw_region ?_
   refine al_op (op_add rfl rfl (by first | exact wrap_i64 (by omega) (by omega))) rfl (by simp) ?_
   refine al_op (op_move rfl) rfl (by simp) ?_
   refine al_nil ?_
   refine ⟨i + 1, ver37, ?_, ?_, ?_, ?_, ?_⟩
   ·omega
   ·omega
   ·refine sub_cons (get_as rfl ?_) ?_; rotate_left; refine sub_cons (get_as rfl ?_) ?_; rotate_left; exact sub_nil
    all_goals (first | rfl | (simp; done) | (simp only [take_succ_getD n.outs i (by omega), List.map_append, List.map_cons, List.map_nil] <;> rfl))
   ·repeat (first | exact subx_refl | exact subx_del | refine subx_put rfl ?_)
   ·(simp only [take_succ_getD n.outs i (by omega), List.map_append, List.map_cons, List.map_nil] <;> rfl)
  ·have gh2 := h2
   try simp only [nrm] at h2
   refine aw_exit ?_
   obtain rfl : i = n.outs.length := by omega
   refine aw_seq ?_
   refine aw_seq ?_
   refine aw_region ?_
   refine al_op (op_field_ptr Tryz.underlying27 rfl info23 (by decide) rfl rfl rfl) rfl (by simp) ?_
   refine al_op (op_load_ptr Tryz.underlying23 info23 rfl rfl rfl rfl) rfl (by simp) ?_
   refine al_op (op_len_map Tryz.underlying23 rfl) rfl (by simp) ?_
   refine al_op (op_move rfl) rfl (by simp) ?_
   refine al_nil ?_
   refine aw_block ?_
   refine aw_own_map encB 7 1 7 rfl rfl (fun ver7 => ?_)
   refine aw_for2T (α := Nat) (β := Nat) [7, 42] [13] (fun i ver => n.regs.length - i) (fun i ver => i ≤ n.regs.length) (fun i ver => ([(7, .slice 7 ver 0 ((n.regs.take i).map fun p => ofB (n.all ins regs).1 p.2.2).length), (42, .v (.int .i64 (i)))] : Env)) (fun i ver s => s.put 7 ver (.row 1 (((n.regs.take i).map fun p => ofB (n.all ins regs).1 p.2.2).map encB))) (0) (ver7) ?_ ?_ ?_ (fun i ver hinv => ?_)
   ·exact Nat.zero_le _
   ·refine sub_cons (get_as rfl ?_) ?_; rotate_left; refine sub_cons (get_as rfl ?_) ?_; rotate_left; exact sub_nil
    all_goals (first | rfl | (simp; done) | (simp only [take_succ_getD n.regs i (by omega), List.map_append, List.map_cons, List.map_nil] <;> rfl))
   ·rfl
   refine aw_seq ?_
   refine aw_region ?_
   refine al_op (op_lss rfl rfl) rfl (by simp) ?_
   refine al_nil ?_
   refine aw_seq ?_
   refine aw_cond rfl (fun h3 => ?_) (fun h3 => ?_)
   ·have gh3 := h3
    try simp only [nrm] at h3
    refine aw_skip ?_
    refine aw_seq ?_
    refine aw_block ?_
    refine aw_seq ?_
    refine aw_region ?_
    refine al_op (op_index_map default Tryz.underlying23 info77 rfl rfl rfl (by first | (with_reducible exact Int.toNat_natCast _) | rfl) (by omega) (by omega)) rfl (by simp) ?_
    refine al_op (op_load_rptr Tryz.underlying77 info77 rfl rfl) rfl (by simp) ?_
    (refine al_opR (op_alloc 13 info77 rfl rfl) rfl (by simp) ?_; rintro _ _ ⟨ver13, rfl, rfl⟩)
    refine al_op (op_store_ptr info77 rfl rfl rfl rfl rfl rfl (by first | rfl | exact live_one rfl | (repeat (first | exact all_live_nil | refine all_live_clo rfl ?_ | refine all_live_slice rfl ?_ | refine all_live_map rfl ?_ | refine all_live_ptr rfl ?_))) (Nat.le_of_ble_eq_true rfl)) rfl (by simp) ?_
    refine al_nil ?_
    have hg := f6 i (by omega)
    refine aw_region ?_
    refine al_op (op_move rfl) rfl (by simp) ?_
    refine al_op (op_field_ptr Tryz.underlying77 rfl info3 (by decide) rfl rfl rfl) rfl (by simp) ?_
    refine al_op (op_load_ptr Tryz.underlying3 info3 rfl rfl rfl rfl) rfl (by simp) ?_
    refine al_op (op_move rfl) rfl (by simp) ?_
    refine al_callp into89 rfl rfl rfl ((r_of _ _ (by omega) (by omega) (by omega) (by assumption)) _) (by simp) ?_
    refine al_op (op_buildSlice Tryz.underlying28 info44 rfl rfl (by decide) rfl (by decide) rfl (by first | rfl | (repeat (first | exact parts_nil | refine parts_cons rfl (by repeat (first | exact all_live_nil | refine all_live_clo rfl ?_ | refine all_live_slice rfl ?_ | refine all_live_map rfl ?_ | refine all_live_ptr rfl ?_)) ?_))) rfl rfl rfl) rfl (by simp) ?_
    (refine al_opR (op_append_one (ofB (n.all ins regs).1 (n.regs.getD i default).2.2) Tryz.underlying28 Tryz.underlying28 rfl info44 rfl rfl (by decide) rfl rfl rfl (by first | rfl | simp) rfl rfl (by first | omega | (simp; done) | (simp; omega)) (by show _ * 1 ≤ _; first | omega | (simp; done) | (simp; omega))) rfl (by simp) ?_; rintro _ _ ⟨ver52, rfl, rfl⟩)
    refine al_op (op_assign rfl) rfl (by simp) ?_
    refine al_nil ?_
    refine aw_region ?_
    refine al_op (op_add rfl rfl (by first | exact wrap_i64 (by omega) (by omega))) rfl (by simp) ?_
    refine al_op (op_move rfl) rfl (by simp) ?_
    refine al_nil ?_
    refine ⟨i + 1, ver52, ?_, ?_, ?_, ?_, ?_⟩
    ·omega
    ·omega
    ·refine sub_cons (get_as rfl ?_) ?_; rotate_left; refine sub_cons (get_as rfl ?_) ?_; rotate_left; exact sub_nil
     all_goals (first | rfl | (simp; done) | (simp only [take_succ_getD n.regs i (by omega), List.map_append, List.map_cons, List.map_nil] <;> rfl))
    ·repeat (first | exact subx_refl | exact subx_del | refine subx_put rfl ?_)
    ·(simp only [take_succ_getD n.regs i (by omega), List.map_append, List.map_cons, List.map_nil] <;> rfl)
   ·have gh3 := h3
    try simp only [nrm] at h3
    refine aw_exit ?_
    obtain rfl : i = n.regs.length := by omega
    refine aw_seq ?_
    refine aw_region ?_
    refine al_op (op_move rfl) rfl (by simp) ?_
    refine al_op (op_move rfl) rfl (by simp) ?_
    refine al_op (op_assign rfl) rfl (by simp) ?_
    refine al_op (op_assign rfl) rfl (by simp) ?_
    refine al_op (op_assign rfl) rfl (by simp) ?_
    refine al_nil ?_
    refine aw_freeze (fun _ => false) (fsub_cons (t := 6) rfl (by first | exact .leaf _ _ (frz_whole rfl rfl (by first | rfl | (simp; done) | (simp; omega)) (clo_map (fun _ => rfl))) | exact .leaf _ _ (.vnil 1) | exact .leaf _ _ (.nil 1) | exact .leaf _ _ (.same _)) (fsub_cons (t := 7) rfl (by first | exact .leaf _ _ (frz_whole rfl rfl (by first | rfl | (simp; done) | (simp; omega)) (clo_map (fun _ => rfl))) | exact .leaf _ _ (.vnil 1) | exact .leaf _ _ (.nil 1) | exact .leaf _ _ (.same _)) (fsub_cons (t := 8) rfl (.leaf _ _ (.same _)) fsub_nil))) ?_
    refine aw_ret ?_
    refine ⟨_, res_3 rfl rfl rfl rfl rfl rfl rfl, ?_, rfl⟩
    rw [Net.eval_ok hb, he]
end Go.Proofs.YtnnklpmgncbgnaaGreat
