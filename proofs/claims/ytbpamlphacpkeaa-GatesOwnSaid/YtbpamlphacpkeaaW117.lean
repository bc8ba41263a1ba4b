/- Printed walks (gen.py, gates_ann.py): part 117. -/
import Derived.Test.YtbpamlphacpkeaaW114
import Derived.Test.YtbpamlphacpkeaaW57
import Derived.Test.YtbpamlphacpkeaaGClean
import Derived.Test.YtbpamlphacpkeaaFacts
set_option linter.unusedVariables false
set_option linter.unusedSimpArgs false
set_option maxRecDepth 20000
set_option maxHeartbeats 40000000
namespace Go.Proofs.Ytbpamlphacpkeaa
open Go

def CLS (n : Net) (v1 v2 : Nat) (s : MS) (vm vg vt vr : Nat) (lits : List Int) (ver : Nat) (tl : Store) : Store := (1, v1, .row 4 [[.list 1 (n.ins.map encS), .list 3 (n.regs.map encR), .list 2 (n.gates.map encG), .list 2 (n.outs.map encP)]]) :: (2, v2, .row 4 [[.v (.slice none 0 0), .v (.slice none 0 0), .v (.slice none 0 0), .v (.slice none 0 0)]]) :: (19, vt, .map (thEnts s.th)) :: (21, vm, .row 6 [s.cells 51 19 52 vg vt vr]) :: (52, vr, .row 3 (s.regs.map encR)) :: (51, vg, .row 2 (s.gates.map encG)) :: (152, ver, .row 1 (lits.map encI)) :: tl

theorem q_clean (n : Net) (hn : n.Small) : AC Try.prog 50 [encN n] ([]) (fun r σ' => r = .ret (.tuple [encN n.clean.1, .v (.int .i64 (n.clean.2))])) := by
 refine ac_enter 126 Try.func50 rfl rfl (by simp) ?_
 refine aw_seq ?_
 refine aw_region ?_
 (refine al_opR (op_box 1 rfl rfl (by first | rfl | exact live_one rfl | (repeat (first | exact all_live_nil | refine all_live_clo rfl ?_ | refine all_live_slice rfl ?_ | refine all_live_map rfl ?_ | refine all_live_ptr rfl ?_)))) rfl (by simp) ?_; rintro _ _ ⟨ver1, rfl, rfl⟩)
 (refine al_opR (op_alloc 2 info27 rfl rfl) rfl (by simp) ?_; rintro _ _ ⟨ver2, rfl, rfl⟩)
 refine al_op (op_assign rfl) rfl (by simp) ?_
 refine al_nil ?_
 refine aw_seq ?_
 refine aw_seq ?_
 refine aw_region ?_
 refine al_op (op_load_ptr Try.underlying27 info27 rfl rfl rfl rfl) rfl (by simp) ?_
 refine al_callp into27 rfl rfl rfl ((c_valid _ (by assumption)) _) (by simp) ?_
 refine al_op (op_not rfl) rfl (by simp) ?_
 refine al_nil ?_
 refine aw_cond rfl (fun h1 => ?_) (fun h1 => ?_)
 ·have gh1 := h1
  try simp only [nrm] at h1
  refine aw_seq ?_
  refine aw_region ?_
  refine al_op (op_build_struct Try.underlying27 info27 rfl place27 rfl (by first | rfl | (repeat (first | exact parts_nil | refine parts_cons rfl (by repeat (first | exact all_live_nil | refine all_live_clo rfl ?_ | refine all_live_slice rfl ?_ | refine all_live_map rfl ?_ | refine all_live_ptr rfl ?_)) ?_))) rfl) rfl (by simp) ?_
  refine al_op (op_store_ptr info27 rfl rfl rfl rfl rfl rfl (by first | rfl | exact live_one rfl | (repeat (first | exact all_live_nil | refine all_live_clo rfl ?_ | refine all_live_slice rfl ?_ | refine all_live_map rfl ?_ | refine all_live_ptr rfl ?_))) (by decide)) rfl (by simp) ?_
  refine al_op (op_assign rfl) rfl (by simp) ?_
  refine al_nil ?_
  refine aw_ret ?_
  refine ⟨_, res_re2 (res_cell_tmp rfl Try.underlying27 info27 rfl rfl rfl rfl rfl rfl rfl) (re2_agg (re2_cons (.vnil 1) (re2_cons (.vnil 3) (re2_cons (.vnil 2) (re2_cons (.vnil 2) re2_nil))))) rfl rfl, ?_⟩
  rw [Net.clean, if_neg (by simpa using gh1)]; rfl
 ·have gh1 := h1
  try simp only [nrm] at h1
  have hv : n.valid = true := by simpa using gh1
  obtain ⟨f1, f2, f3, f4, f5, f6, f7⟩ := Net.valid_facts hv
  obtain ⟨_, hbg⟩ := Net.begin_ok hn hv
  have hbl := n.begin_lits
  have hrl := n.roots_length
  have hrx := Net.roots_ok hv
  have hkl := n.kept_length
  have hF : n.fst = 1 + n.ins.length + n.regs.length := rfl
  have hr1 : n.roots.length ≤ 100000 := by omega
  refine aw_skip ?_
  refine aw_seq ?_
  refine aw_region ?_
  refine al_op (op_assign rfl) rfl (by simp) ?_
  refine al_nil ?_
  refine aw_seq ?_
  refine aw_seq ?_
  refine aw_region ?_
  refine al_op (op_field_ptr Try.underlying27 rfl info23 (by decide) rfl rfl rfl) rfl (by simp) ?_
  refine al_op (op_load_ptr Try.underlying23 info23 rfl rfl rfl rfl) rfl (by simp) ?_
  refine al_op (op_len_map Try.underlying23 rfl) rfl (by simp) ?_
  refine al_op (op_move rfl) rfl (by simp) ?_
  refine al_nil ?_
  refine aw_block ?_
  refine aw_own_map encI 4 1 4 rfl rfl (fun ver4 => ?_)
  refine aw_for2T (α := Nat) (β := Nat) [4, 22] [6] (fun i ver => n.regs.length - i) (fun i ver => i ≤ n.regs.length) (fun i ver => ([(4, .slice 4 ver 0 ((n.regs.take i).map regX).length), (22, .v (.int .i64 (i)))] : Env)) (fun i ver s => s.put 4 ver (.row 1 (((n.regs.take i).map regX).map encI))) (0) (ver4) ?_ ?_ ?_ (fun i ver hinv => ?_)
  ·exact Nat.zero_le _
  ·refine sub_cons (get_as rfl ?_) ?_; rotate_left; refine sub_cons (get_as rfl ?_) ?_; rotate_left; exact sub_nil
   all_goals (first | rfl | (simp; done) | (simp only [take_succ_getD n.regs i (by omega), List.map_append, List.map_cons, List.map_nil] <;> rfl))
  ·rfl
  refine aw_seq ?_
  refine aw_region ?_
  refine al_op (op_lss rfl rfl) rfl (by simp) ?_
  refine al_nil ?_
  refine aw_seq ?_
  refine aw_cond rfl (fun h2 => ?_) (fun h2 => ?_)
  ·have gh2 := h2
   try simp only [nrm] at h2
   refine aw_skip ?_
   refine aw_seq ?_
   refine aw_block ?_
   refine aw_seq ?_
   refine aw_region ?_
   refine al_op (op_index_map default Try.underlying23 info93 rfl rfl rfl (by first | (with_reducible exact Int.toNat_natCast _) | rfl) (by omega) (by omega)) rfl (by simp) ?_
   refine al_op (op_load_rptr Try.underlying93 info93 rfl rfl) rfl (by simp) ?_
   (refine al_opR (op_alloc 6 info93 rfl rfl) rfl (by simp) ?_; rintro _ _ ⟨ver6, rfl, rfl⟩)
   refine al_op (op_store_ptr info93 rfl rfl rfl rfl rfl rfl (by first | rfl | exact live_one rfl | (repeat (first | exact all_live_nil | refine all_live_clo rfl ?_ | refine all_live_slice rfl ?_ | refine all_live_map rfl ?_ | refine all_live_ptr rfl ?_))) (Nat.le_of_ble_eq_true rfl)) rfl (by simp) ?_
   refine al_nil ?_
   refine aw_region ?_
   refine al_op (op_move rfl) rfl (by simp) ?_
   refine al_op (op_field_ptr Try.underlying93 rfl info3 (by decide) rfl rfl rfl) rfl (by simp) ?_
   refine al_op (op_load_ptr Try.underlying3 info3 rfl rfl rfl rfl) rfl (by simp) ?_
   refine al_op (op_buildSlice Try.underlying54 info3 rfl rfl (by decide) rfl (by decide) rfl (by first | rfl | (repeat (first | exact parts_nil | refine parts_cons rfl (by repeat (first | exact all_live_nil | refine all_live_clo rfl ?_ | refine all_live_slice rfl ?_ | refine all_live_map rfl ?_ | refine all_live_ptr rfl ?_)) ?_))) rfl rfl rfl) rfl (by simp) ?_
   (refine al_opR (op_append_one (regX (n.regs.getD i default)) Try.underlying54 Try.underlying54 rfl info3 rfl rfl (by decide) rfl rfl rfl (by first | rfl | simp) rfl rfl (by first | omega | (simp; done) | (simp; omega)) (by show _ * 8 ≤ _; first | omega | (simp; done) | (simp; omega))) rfl (by simp) ?_; rintro _ _ ⟨ver30, rfl, rfl⟩)
   refine al_op (op_assign rfl) rfl (by simp) ?_
   refine al_nil ?_
   refine aw_region ?_
   refine al_op (op_add rfl rfl (by first | exact wrap_i64 (by omega) (by omega))) rfl (by simp) ?_
   refine al_op (op_move rfl) rfl (by simp) ?_
   refine al_nil ?_
   refine ⟨i + 1, ver30, ?_, ?_, ?_, ?_, ?_⟩
   ·omega
   ·omega
   ·refine sub_cons (get_as rfl ?_) ?_; rotate_left; refine sub_cons (get_as rfl ?_) ?_; rotate_left; exact sub_nil
    all_goals (first | rfl | (simp; done) | (simp only [take_succ_getD n.regs i (by omega), List.map_append, List.map_cons, List.map_nil] <;> rfl))
   ·repeat (first | exact subx_refl | exact subx_del | refine subx_put rfl ?_)
   ·(simp only [take_succ_getD n.regs i (by omega), List.map_append, List.map_cons, List.map_nil] <;> rfl)
  ·have gh2 := h2
   try simp only [nrm] at h2
   refine aw_exit ?_
   obtain rfl : i = n.regs.length := by omega
   refine aw_seq ?_
   refine aw_seq ?_
   refine aw_region ?_
   refine al_op (op_field_ptr Try.underlying27 rfl info25 (by decide) rfl rfl rfl) rfl (by simp) ?_
   refine al_op (op_load_ptr Try.underlying25 info25 rfl rfl rfl rfl) rfl (by simp) ?_
   refine al_op (op_len_map Try.underlying25 rfl) rfl (by simp) ?_
   refine al_op (op_move rfl) rfl (by simp) ?_
   refine al_nil ?_
   refine aw_block ?_
   refine aw_for2T (α := Nat) (β := Nat) [4, 35] [8] (fun i ver => n.outs.length - i) (fun i ver => i ≤ n.outs.length) (fun i ver => ([(4, .slice 4 ver 0 ((n.regs.take n.regs.length).map regX ++ (n.outs.take i).map pinX).length), (35, .v (.int .i64 (i)))] : Env)) (fun i ver s => s.put 4 ver (.row 1 (((n.regs.take n.regs.length).map regX ++ (n.outs.take i).map pinX).map encI))) (0) (ver) ?_ ?_ ?_ (fun i ver hinv => ?_)
   ·exact Nat.zero_le _
   ·refine sub_cons (get_as rfl ?_) ?_; rotate_left; refine sub_cons (get_as rfl ?_) ?_; rotate_left; exact sub_nil
    all_goals (first | rfl | (simp; done) | (simp only [take_succ_getD n.outs i (by omega), List.map_append, List.map_cons, List.map_nil, ← List.append_assoc] <;> rfl))
   ·(simp only [List.take_zero, List.map_nil, List.append_nil] <;> rfl)
   refine aw_seq ?_
   refine aw_region ?_
   refine al_op (op_lss rfl rfl) rfl (by simp) ?_
   refine al_nil ?_
   refine aw_seq ?_
   refine aw_cond rfl (fun h3 => ?_) (fun h3 => ?_)
   ·have gh3 := h3
    try simp only [nrm] at h3
    refine aw_skip ?_
    refine aw_seq ?_
    refine aw_block ?_
    refine aw_seq ?_
    refine aw_region ?_
    refine al_op (op_index_map default Try.underlying25 info69 rfl rfl rfl (by first | (with_reducible exact Int.toNat_natCast _) | rfl) (by omega) (by omega)) rfl (by simp) ?_
    refine al_op (op_load_rptr Try.underlying69 info69 rfl rfl) rfl (by simp) ?_
    (refine al_opR (op_alloc 8 info69 rfl rfl) rfl (by simp) ?_; rintro _ _ ⟨ver8, rfl, rfl⟩)
    refine al_op (op_store_ptr info69 rfl rfl rfl rfl rfl rfl (by first | rfl | exact live_one rfl | (repeat (first | exact all_live_nil | refine all_live_clo rfl ?_ | refine all_live_slice rfl ?_ | refine all_live_map rfl ?_ | refine all_live_ptr rfl ?_))) (Nat.le_of_ble_eq_true rfl)) rfl (by simp) ?_
    refine al_nil ?_
    refine aw_region ?_
    refine al_op (op_move rfl) rfl (by simp) ?_
    refine al_op (op_field_ptr Try.underlying69 rfl info3 (by decide) rfl rfl rfl) rfl (by simp) ?_
    refine al_op (op_load_ptr Try.underlying3 info3 rfl rfl rfl rfl) rfl (by simp) ?_
    refine al_op (op_buildSlice Try.underlying54 info3 rfl rfl (by decide) rfl (by decide) rfl (by first | rfl | (repeat (first | exact parts_nil | refine parts_cons rfl (by repeat (first | exact all_live_nil | refine all_live_clo rfl ?_ | refine all_live_slice rfl ?_ | refine all_live_map rfl ?_ | refine all_live_ptr rfl ?_)) ?_))) rfl rfl rfl) rfl (by simp) ?_
    (refine al_opR (op_append_one (pinX (n.outs.getD i default)) Try.underlying54 Try.underlying54 rfl info3 rfl rfl (by decide) rfl rfl rfl (by first | rfl | simp) rfl rfl (by first | omega | (simp; done) | (simp; omega)) (by show _ * 8 ≤ _; first | omega | (simp; done) | (simp; omega))) rfl (by simp) ?_; rintro _ _ ⟨ver43, rfl, rfl⟩)
    refine al_op (op_assign rfl) rfl (by simp) ?_
    refine al_nil ?_
    refine aw_region ?_
    refine al_op (op_add rfl rfl (by first | exact wrap_i64 (by omega) (by omega))) rfl (by simp) ?_
    refine al_op (op_move rfl) rfl (by simp) ?_
    refine al_nil ?_
    refine ⟨i + 1, ver43, ?_, ?_, ?_, ?_, ?_⟩
    ·omega
    ·omega
    ·refine sub_cons (get_as rfl ?_) ?_; rotate_left; refine sub_cons (get_as rfl ?_) ?_; rotate_left; exact sub_nil
     all_goals (first | rfl | (simp; done) | (simp only [take_succ_getD n.outs i (by omega), List.map_append, List.map_cons, List.map_nil, ← List.append_assoc] <;> rfl))
    ·repeat (first | exact subx_refl | exact subx_del | refine subx_put rfl ?_)
    ·(simp only [take_succ_getD n.outs i (by omega), List.map_append, List.map_cons, List.map_nil, ← List.append_assoc] <;> rfl)
   ·have gh3 := h3
    try simp only [nrm] at h3
    refine aw_exit ?_
    obtain rfl : i = n.outs.length := by omega
    refine aw_seq ?_
    refine aw_freeze (fun i => !(Nat.beq i 4)) (fsub_cons (t := 4) rfl (.leaf _ _ (frz_whole rfl rfl (by simp) (clo_map (fun _ => rfl)))) fsub_same) ?_
    refine aw_as 4 (.list 1 (n.roots.map encI)) rfl (by rw [List.take_length, List.take_length]; rfl) ?_
    refine aw_region ?_
    refine al_op (op_load_ptr Try.underlying27 info27 rfl rfl rfl rfl) rfl (by simp) ?_
    refine al_op (op_move rfl) rfl (by simp) ?_
    refine al_callp into79 rfl rfl rfl ((c_used _ (by assumption) (by assumption) _ (by assumption) (by assumption)) _) (by simp) ?_
    refine al_op (op_assign rfl) rfl (by simp) ?_
    refine al_nil ?_
    refine aw_seq ?_
    refine aw_as 9 (.list 1 (n.kept.map encT)) rfl rfl ?_
    refine aw_region ?_
    refine al_op (op_load_ptr Try.underlying27 info27 rfl rfl rfl rfl) rfl (by simp) ?_
    (refine al_call into81 rfl rfl rfl (again_at 21 51 19 52 n hn hv rfl rfl rfl) (by simp) ?_; rintro _ _ ⟨vm, vg, vt, vr, rfl, rfl⟩)
    refine al_op (op_assign rfl) rfl (by simp) ?_
    refine al_nil ?_
    refine aw_seq ?_
    refine aw_region ?_
    refine al_op (op_move rfl) rfl (by simp) ?_
    refine al_op (op_len_map Try.underlying64 rfl) rfl (by simp) ?_
    (refine al_opR (op_makeN (f := encI) 152 (0 : Int) Try.underlying54 info3 rfl rfl (by decide) rfl rfl rfl rfl (by omega) (by show (8 : Int) * _ ≤ _; omega) (by omega)) rfl (by simp) ?_; rintro _ _ ⟨ver52, rfl, rfl⟩)
    refine al_op (op_assign rfl) rfl (by simp) ?_
    refine al_nil ?_
    refine aw_seq ?_
    refine aw_region ?_
    refine al_op (op_move rfl) rfl (by simp) ?_
    refine al_callp into72 rfl rfl rfl (mk_ro (m := 21) (g := 51) (t := 19) (r := 52) (m_first n.begin vm vg vt vr hbg.ok) rfl rfl rfl rfl rfl rfl rfl rfl) (by simp) ?_
    refine al_op (op_quo rfl rfl (by omega) (quo_nn (by omega) (by omega) (by omega))) rfl (by simp) ?_
    refine al_op (op_assign rfl) rfl (by simp) ?_
    refine al_nil ?_
    refine aw_seq ?_
    refine aw_seq ?_
    refine aw_as 12 (.v (.int .i64 (n.fst : Int))) rfl (by rw [show n.begin.lits / 2 = (n.fst : Int) by omega]) ?_
    refine aw_region ?_
    refine al_op (op_move rfl) rfl (by simp) ?_
    refine al_op (op_len_map Try.underlying64 rfl) rfl (by simp) ?_
    refine al_op (op_move rfl) rfl (by simp) ?_
    refine al_nil ?_
    refine aw_block ?_
    refine aw_for2T (α := Nat) (β := Nat) [11, 58] [14] (fun i vg => n.kept.length - i) (fun i vg => i ≤ n.kept.length) (fun i vg => ([(11, .slice 152 ver52 0 (n.cleanAt i).2.length), (58, .v (.int .i64 (i)))] : Env)) (fun i vg st => CLS n ver1 ver2 (n.cleanAt i).1 vm vg vt vr (n.cleanAt i).2 ver52 []) (0) (vg) ?_ ?_ ?_ (fun i vg hinv => ?_)
    ·exact Nat.zero_le _
    ·refine sub_cons (get_as rfl ?_) ?_; rotate_left; refine sub_cons (get_as rfl ?_) ?_; rotate_left; exact sub_nil
     all_goals (first | rfl | (simp; done) | (rw [n.cleanAt_zero] <;> rfl) | (rw [(Net.cleanAt_ok hn hv (i := i) (by omega)).2.2.2, (Net.cleanAt_ok hn hv (i := i + 1) (by omega)).2.2.2]))
    ·(rw [n.cleanAt_zero] <;> rfl)
    obtain ⟨hc1, hc2, hc3, hc4⟩ := Net.cleanAt_ok hn hv (i := i) hinv
    refine aw_seq ?_
    refine aw_region ?_
    refine al_op (op_lss rfl rfl) rfl (by simp) ?_
    refine al_nil ?_
    refine aw_seq ?_
    refine aw_cond rfl (fun h4 => ?_) (fun h4 => ?_)
    ·have gh4 := h4
     try simp only [nrm] at h4
     refine aw_skip ?_
     refine aw_seq ?_
     refine aw_block ?_
     refine aw_seq ?_
     refine aw_region ?_
     refine al_op (op_move rfl) rfl (by simp) ?_
     refine al_op (op_assign rfl) rfl (by simp) ?_
     refine al_nil ?_
     refine aw_block ?_
     refine aw_seq ?_
     refine aw_region ?_
     refine al_op (op_move rfl) rfl (by simp) ?_
     refine al_op (op_move rfl) rfl (by simp) ?_
     refine al_op (op_lss rfl rfl) rfl (by simp) ?_
     refine al_op (op_assign rfl) rfl (by simp) ?_
     refine al_nil ?_
     refine aw_cond rfl (fun h5 => ?_) (fun h5 => ?_)
     ·have gh5 := h5
      try simp only [nrm] at h5
      refine aw_region ?_
      refine al_op (op_move rfl) rfl (by simp) ?_
      refine al_op (op_move rfl) rfl (by simp) ?_
      refine al_op (op_move rfl) rfl (by simp) ?_
      refine al_op (op_mul rfl rfl (by first | exact wrap_i64 (by omega) (by omega))) rfl (by simp) ?_
      refine al_op (op_index_slice Try.underlying54 info3 rfl rfl rfl rfl (by omega) (by omega)) rfl (by simp) ?_
      refine al_op (op_store_map (2 * (i : Int)) info3 rfl rfl rfl (by omega) rfl rfl rfl (Nat.le_of_ble_eq_true rfl) rfl) rfl (by simp) ?_
      refine al_nil ?_
      refine aw_region ?_
      refine al_op (op_add rfl rfl (by first | exact wrap_i64 (by omega) (by omega))) rfl (by simp) ?_
      refine al_op (op_move rfl) rfl (by simp) ?_
      refine al_nil ?_
      refine ⟨i + 1, vg, ?_, ?_, ?_, ?_, ?_⟩
      ·omega
      ·omega
      ·refine sub_cons (get_as rfl ?_) ?_; rotate_left; refine sub_cons (get_as rfl ?_) ?_; rotate_left; exact sub_nil
       all_goals (first | rfl | (simp; done) | (rw [n.cleanAt_zero] <;> rfl) | (rw [(Net.cleanAt_ok hn hv (i := i) (by omega)).2.2.2, (Net.cleanAt_ok hn hv (i := i + 1) (by omega)).2.2.2]))
      ·repeat (first | exact subx_refl | exact subx_del | refine subx_put rfl ?_)
      ·first | (rw [Net.cleanAt_low (by omega)] <;> rfl) | (rw [Net.cleanAt_yes (by omega) (by assumption)] <;> rfl) | (rw [Net.cleanAt_no (by omega) (by assumption)] <;> rfl)
     ·have gh5 := h5
      try simp only [nrm] at h5
      refine aw_seq ?_
      refine aw_region ?_
      refine al_op (op_move rfl) rfl (by simp) ?_
      refine al_op (op_move rfl) rfl (by simp) ?_
      refine al_op (op_index_map default Try.underlying64 info4 rfl rfl rfl (by first | (with_reducible exact Int.toNat_natCast _) | rfl) (by omega) (by omega)) rfl (by simp) ?_
      refine al_op (op_load_rptr Try.underlying4 info4 rfl rfl) rfl (by simp) ?_
      refine al_op (op_assign rfl) rfl (by simp) ?_
      refine al_nil ?_
      refine aw_cond rfl (fun h6 => ?_) (fun h6 => ?_)
      ·have gh6 := h6
       try simp only [nrm] at h6
       refine aw_seq ?_
       have hg5 := f5 ((i : Int) - (n.fst : Int)).toNat (by omega)
       refine aw_region ?_
       refine al_op (op_field_ptr Try.underlying27 rfl info24 (by decide) rfl rfl rfl) rfl (by simp) ?_
       refine al_op (op_load_ptr Try.underlying24 info24 rfl rfl rfl rfl) rfl (by simp) ?_
       refine al_op (op_move rfl) rfl (by simp) ?_
       refine al_op (op_move rfl) rfl (by simp) ?_
       refine al_op (op_sub rfl rfl (by first | exact wrap_i64 (by omega) (by omega))) rfl (by simp) ?_
       refine al_op (op_index_map default Try.underlying24 info86 rfl rfl rfl (by first | (with_reducible exact Int.toNat_natCast _) | rfl) (by omega) (by omega)) rfl (by simp) ?_
       refine al_op (op_load_rptr Try.underlying86 info86 rfl rfl) rfl (by simp) ?_
       (refine al_opR (op_alloc 14 info86 rfl rfl) rfl (by simp) ?_; rintro _ _ ⟨ver14, rfl, rfl⟩)
       refine al_op (op_store_ptr info86 rfl rfl rfl rfl rfl rfl (by first | rfl | exact live_one rfl | (repeat (first | exact all_live_nil | refine all_live_clo rfl ?_ | refine all_live_slice rfl ?_ | refine all_live_map rfl ?_ | refine all_live_ptr rfl ?_))) (Nat.le_of_ble_eq_true rfl)) rfl (by simp) ?_
       refine al_nil ?_
       refine aw_seq ?_
       have hls := hc1.lits
       have hgl := hc1.gates
       have hcs := set_range (j := 0 + (i : Int).toNat) (x := (n.cleanAt i).1.lits) hc3 (by omega)
       have hcl : ((n.cleanAt i).2.set (0 + (i : Int).toNat) (n.cleanAt i).1.lits).length = n.kept.length := by rw [List.length_set]; exact hc4
       have hx1 := hcs _ (getD_mem (v := ((n.cleanAt i).2.set (0 + (i : Int).toNat) (n.cleanAt i).1.lits)) (i := 0 + ((n.gates.getD ((i : Int) - (n.fst : Int)).toNat default).1 / 2).toNat) (by omega))
       have hx2 := hcs _ (getD_mem (v := ((n.cleanAt i).2.set (0 + (i : Int).toNat) (n.cleanAt i).1.lits)) (i := 0 + ((n.gates.getD ((i : Int) - (n.fst : Int)).toNat default).2 / 2).toNat) (by omega))
       refine aw_region ?_
       refine al_op (op_move rfl) rfl (by simp) ?_
       refine al_op (op_move rfl) rfl (by simp) ?_
       refine al_op (op_move rfl) rfl (by simp) ?_
       refine al_callp into72 rfl rfl rfl (mk_ro (m := 21) (g := 51) (t := 19) (r := 52) (m_first (n.cleanAt i).1 vm vg vt vr hc1) rfl rfl rfl rfl rfl rfl rfl rfl) (by simp) ?_
       refine al_op (op_index_slice Try.underlying54 info3 rfl rfl rfl rfl (by omega) (by omega)) rfl (by simp) ?_
       refine al_op (op_store_map (n.cleanAt i).1.lits info3 rfl rfl rfl (by omega) rfl rfl rfl (Nat.le_of_ble_eq_true rfl) rfl) rfl (by simp) ?_
       refine al_nil ?_
       refine aw_plan [0, 1, 2, 3, 4, 5, 6, 7, 8, 9, 10, 11, 12, 13, 14, 15, 16, 17, 18, 19, 20, 21, 22, 23, 24, 25, 26, 27, 28, 29, 30, 31, 32] (Checked.mixed Try.checked) (by kernel_rfl) ?_
       refine afl_float rfl rfl (opk_of (op_move rfl)) (by simp) ?_
       refine afl_float rfl rfl (opk_of (op_move rfl)) (by simp) ?_
       refine afl_float rfl rfl (opk_of (op_nilCheck_ptr rfl rfl)) (by simp) ?_
       refine afl_float rfl rfl (opk_of (op_field_ptr Try.underlying73 rfl info27 (by decide) rfl rfl rfl)) (by simp) ?_
       refine afl_float rfl rfl (opk_of (op_field_ptr Try.underlying27 rfl info24 (by decide) rfl rfl rfl)) (by simp) ?_
       refine afl_float rfl rfl (opk_of (op_load_ptr Try.underlying24 info24 rfl rfl rfl rfl)) (by simp) ?_
       refine afl_float rfl rfl (opk_of (op_move rfl)) (by simp) ?_
       refine afl_float rfl rfl (opk_of (op_index_aptr Try.underlying86 info3 rfl rfl rfl rfl (by decide) (by decide))) (by simp) ?_
       refine afl_float rfl rfl (opk_of (op_load_ptr Try.underlying3 info3 rfl rfl rfl rfl)) (by simp) ?_
       refine afl_float rfl rfl (opk_of (op_quo rfl rfl (by omega) (quo_nn (by omega) (by omega) (by omega)))) (by simp) ?_
       refine afl_float rfl rfl (opk_of (op_index_slice Try.underlying54 info3 rfl rfl rfl rfl (by omega) (by omega))) (by simp) ?_
       refine afl_float rfl rfl (opk_of (op_load_map Try.underlying3 info3 rfl rfl (by omega) rfl)) (by simp) ?_
       refine afl_float rfl rfl (opk_of (op_index_aptr Try.underlying86 info3 rfl rfl rfl rfl (by decide) (by decide))) (by simp) ?_
       refine afl_float rfl rfl (opk_of (op_load_ptr Try.underlying3 info3 rfl rfl rfl rfl)) (by simp) ?_
       refine afl_float rfl rfl (opk_of (op_bitand rfl rfl (and_one _))) (by simp) ?_
       refine afl_float rfl rfl (opk_of (op_bitxor rfl rfl (xor_bit (by omega) (by omega) (by omega)))) (by simp) ?_
       refine afl_float rfl rfl (opk_of (op_move rfl)) (by simp) ?_
       refine afl_float rfl rfl (opk_of (op_index_aptr Try.underlying86 info3 rfl rfl rfl rfl (by decide) (by decide))) (by simp) ?_
       refine afl_float rfl rfl (opk_of (op_load_ptr Try.underlying3 info3 rfl rfl rfl rfl)) (by simp) ?_
       refine afl_float rfl rfl (opk_of (op_quo rfl rfl (by omega) (quo_nn (by omega) (by omega) (by omega)))) (by simp) ?_
       refine afl_float rfl rfl (opk_of (op_index_slice Try.underlying54 info3 rfl rfl rfl rfl (by omega) (by omega))) (by simp) ?_
       refine afl_float rfl rfl (opk_of (op_load_map Try.underlying3 info3 rfl rfl (by omega) rfl)) (by simp) ?_
       refine afl_float rfl rfl (opk_of (op_index_aptr Try.underlying86 info3 rfl rfl rfl rfl (by decide) (by decide))) (by simp) ?_
       refine afl_float rfl rfl (opk_of (op_load_ptr Try.underlying3 info3 rfl rfl rfl rfl)) (by simp) ?_
       refine afl_float rfl rfl (opk_of (op_bitand rfl rfl (and_one _))) (by simp) ?_
       refine afl_float rfl rfl (opk_of (op_bitxor rfl rfl (xor_bit (by omega) (by omega) (by omega)))) (by simp) ?_
       refine afl_float rfl rfl (opk_of (op_build_array Try.underlying86 info86 rfl info3 rfl (by first | rfl | (repeat (first | exact parts_nil | refine parts_cons rfl (by repeat (first | exact all_live_nil | refine all_live_clo rfl ?_ | refine all_live_slice rfl ?_ | refine all_live_map rfl ?_ | refine all_live_ptr rfl ?_)) ?_))) rfl)) (by simp) ?_
       refine afl_float rfl rfl (opk_of (op_buildSlice Try.underlying24 info86 rfl rfl (by decide) rfl (by decide) rfl (by first | rfl | (repeat (first | exact parts_nil | refine parts_cons rfl (by repeat (first | exact all_live_nil | refine all_live_clo rfl ?_ | refine all_live_slice rfl ?_ | refine all_live_map rfl ?_ | refine all_live_ptr rfl ?_)) ?_))) rfl rfl rfl)) (by simp) ?_
       (refine afl_effR rfl rfl (by kernel_rfl) (op_append_one (nowV ((n.cleanAt i).2.set (0 + (i : Int).toNat) (n.cleanAt i).1.lits) (n.gates.getD ((i : Int) - (n.fst : Int)).toNat default).1, nowV ((n.cleanAt i).2.set (0 + (i : Int).toNat) (n.cleanAt i).1.lits) (n.gates.getD ((i : Int) - (n.fst : Int)).toNat default).2) Try.underlying24 Try.underlying24 rfl info86 rfl rfl (by decide) rfl rfl rfl (by first | rfl | simp) rfl rfl (by first | omega | (simp; done) | (simp; omega)) (by show _ * 16 ≤ _; first | omega | (simp; done) | (simp; omega))) (by simp) ?_; rintro _ _ ⟨ver115, rfl, rfl⟩; refine ⟨?_, ?_⟩)
       ·
        refine loose_anc 27 rfl (by kernel_rfl) ?_
        refine loose_anc 26 rfl (by kernel_rfl) ?_
        refine loose_anc 25 rfl (by kernel_rfl) ?_
        refine loose_anc 24 rfl (by kernel_rfl) ?_
        refine loose_anc 23 rfl (by kernel_rfl) ?_
        refine loose_anc 22 rfl (by kernel_rfl) ?_
        refine loose_anc 21 rfl (by kernel_rfl) ?_
        refine loose_anc 20 rfl (by kernel_rfl) ?_
        refine loose_anc 19 rfl (by kernel_rfl) ?_
        refine loose_anc 18 rfl (by kernel_rfl) ?_
        refine loose_anc 17 rfl (by kernel_rfl) ?_
        refine loose_anc 16 rfl (by kernel_rfl) ?_
        refine loose_anc 15 rfl (by kernel_rfl) ?_
        refine loose_anc 14 rfl (by kernel_rfl) ?_
        refine loose_anc 13 rfl (by kernel_rfl) ?_
        refine loose_anc 12 rfl (by kernel_rfl) ?_
        refine loose_anc 11 rfl (by kernel_rfl) ?_
        refine loose_anc 10 rfl (by kernel_rfl) ?_
        refine loose_anc 9 rfl (by kernel_rfl) ?_
        refine loose_anc 8 rfl (by kernel_rfl) ?_
        refine loose_anc 7 rfl (by kernel_rfl) ?_
        refine loose_anc 6 rfl (by kernel_rfl) ?_
        refine loose_anc 5 rfl (by kernel_rfl) ?_
        refine loose_anc 4 rfl (by kernel_rfl) ?_
        refine loose_anc 3 rfl (by kernel_rfl) ?_
        refine loose_anc 2 rfl (by kernel_rfl) ?_
        refine loose_anc 1 rfl (by kernel_rfl) ?_
        refine loose_k rfl (opk_of (op_move rfl)) ?_
        exact loose_nil
       refine afl_float rfl rfl (opk_of (op_nilCheck_ptr rfl rfl)) (by simp) ?_
       refine afl_float rfl rfl (opk_of (op_field_ptr Try.underlying73 rfl info27 (by decide) rfl rfl rfl)) (by simp) ?_
       refine afl_float rfl rfl (opk_of (op_field_ptr Try.underlying27 rfl info24 (by decide) rfl rfl rfl)) (by simp) ?_
       (refine afl_eff rfl rfl (by kernel_rfl) (op_store_ptr info24 rfl rfl rfl rfl rfl rfl (by first | rfl | exact live_one rfl | (repeat (first | exact all_live_nil | refine all_live_clo rfl ?_ | refine all_live_slice rfl ?_ | refine all_live_map rfl ?_ | refine all_live_ptr rfl ?_))) (Nat.le_of_ble_eq_true rfl)) (by simp) ?_ ?_)
       ·
        refine loose_anc 31 rfl (by kernel_rfl) ?_
        refine loose_anc 30 rfl (by kernel_rfl) ?_
        refine loose_anc 29 rfl (by kernel_rfl) ?_
        refine loose_anc 28 rfl (by kernel_rfl) ?_
        refine loose_anc 27 rfl (by kernel_rfl) ?_
        refine loose_anc 26 rfl (by kernel_rfl) ?_
        refine loose_anc 25 rfl (by kernel_rfl) ?_
        refine loose_anc 24 rfl (by kernel_rfl) ?_
        refine loose_anc 23 rfl (by kernel_rfl) ?_
        refine loose_anc 22 rfl (by kernel_rfl) ?_
        refine loose_anc 21 rfl (by kernel_rfl) ?_
        refine loose_anc 20 rfl (by kernel_rfl) ?_
        refine loose_anc 19 rfl (by kernel_rfl) ?_
        refine loose_anc 18 rfl (by kernel_rfl) ?_
        refine loose_anc 17 rfl (by kernel_rfl) ?_
        refine loose_anc 16 rfl (by kernel_rfl) ?_
        refine loose_anc 15 rfl (by kernel_rfl) ?_
        refine loose_anc 14 rfl (by kernel_rfl) ?_
        refine loose_anc 13 rfl (by kernel_rfl) ?_
        refine loose_anc 12 rfl (by kernel_rfl) ?_
        refine loose_anc 11 rfl (by kernel_rfl) ?_
        refine loose_anc 10 rfl (by kernel_rfl) ?_
        refine loose_anc 9 rfl (by kernel_rfl) ?_
        refine loose_anc 8 rfl (by kernel_rfl) ?_
        refine loose_anc 7 rfl (by kernel_rfl) ?_
        refine loose_anc 6 rfl (by kernel_rfl) ?_
        refine loose_anc 5 rfl (by kernel_rfl) ?_
        refine loose_anc 4 rfl (by kernel_rfl) ?_
        refine loose_anc 3 rfl (by kernel_rfl) ?_
        refine loose_anc 2 rfl (by kernel_rfl) ?_
        refine loose_anc 1 rfl (by kernel_rfl) ?_
        refine loose_anc 0 rfl (by kernel_rfl) ?_
        exact loose_nil
       refine afl_end ?_
       refine aw_region ?_
       refine al_op (op_add rfl rfl (by first | exact wrap_i64 (by omega) (by omega))) rfl (by simp) ?_
       refine al_op (op_move rfl) rfl (by simp) ?_
       refine al_nil ?_
       refine ⟨i + 1, ver115, ?_, ?_, ?_, ?_, ?_⟩
       ·omega
       ·omega
       ·refine sub_cons (get_as rfl ?_) ?_; rotate_left; refine sub_cons (get_as rfl ?_) ?_; rotate_left; exact sub_nil
        all_goals (first | rfl | (simp; done) | (rw [n.cleanAt_zero] <;> rfl) | (rw [(Net.cleanAt_ok hn hv (i := i) (by omega)).2.2.2, (Net.cleanAt_ok hn hv (i := i + 1) (by omega)).2.2.2]))
       ·repeat (first | exact subx_refl | exact subx_del | refine subx_put rfl ?_)
       ·first | (rw [Net.cleanAt_low (by omega)] <;> rfl) | (rw [Net.cleanAt_yes (by omega) (by assumption)] <;> rfl) | (rw [Net.cleanAt_no (by omega) (by assumption)] <;> rfl)
      ·have gh6 := h6
       try simp only [nrm] at h6
       refine aw_skip ?_
       refine aw_region ?_
       refine al_op (op_add rfl rfl (by first | exact wrap_i64 (by omega) (by omega))) rfl (by simp) ?_
       refine al_op (op_move rfl) rfl (by simp) ?_
       refine al_nil ?_
       refine ⟨i + 1, vg, ?_, ?_, ?_, ?_, ?_⟩
       ·omega
       ·omega
       ·refine sub_cons (get_as rfl ?_) ?_; rotate_left; refine sub_cons (get_as rfl ?_) ?_; rotate_left; exact sub_nil
        all_goals (first | rfl | (simp; done) | (rw [n.cleanAt_zero] <;> rfl) | (rw [(Net.cleanAt_ok hn hv (i := i) (by omega)).2.2.2, (Net.cleanAt_ok hn hv (i := i + 1) (by omega)).2.2.2]))
       ·repeat (first | exact subx_refl | exact subx_del | refine subx_put rfl ?_)
       ·first | (rw [Net.cleanAt_low (by omega)] <;> rfl) | (rw [Net.cleanAt_yes (by omega) (by assumption)] <;> rfl) | (rw [Net.cleanAt_no (by omega) (by assumption)] <;> rfl)
    ·have gh4 := h4
     try simp only [nrm] at h4
     refine aw_exit ?_
     obtain rfl : i = n.kept.length := by omega
     refine aw_seq ?_
     refine aw_freeze (fun i => !(Nat.beq i 152)) (fsub_cons (t := 11) rfl (.leaf _ _ (frz_whole rfl rfl (by simp) (clo_map (fun _ => rfl)))) fsub_same) ?_
     have hce := n.cleanAt_end
     have hci := Net.clean_inv hv n.gates.length (Nat.le_refl _)
     rw [← hce] at hci
     have hsame := hci.same
     have hlaid := hci.laid hv
     refine aw_region ?_
     refine al_op (op_move rfl) rfl (by simp) ?_
     refine al_op (op_load_ptr Try.underlying27 info27 rfl rfl rfl rfl) rfl (by simp) ?_
     refine al_op (op_move rfl) rfl (by simp) ?_
     refine al_callp into82 rfl rfl rfl (mk_ro (m := 21) (g := 51) (t := 19) (r := 52) (m_laid (n.cleanAt n.kept.length).1 vm vg vt vr n hn hv (n.cleanAt n.kept.length).2 hc1 hc2 hsame.2 hsame.1 (by omega) hc3 hlaid) rfl rfl rfl rfl rfl rfl rfl rfl) (by simp) ?_
     refine al_op (op_extract rfl rfl rfl) rfl (by simp) ?_
     refine al_op (op_extract rfl rfl rfl) rfl (by simp) ?_
     refine al_op (op_store_ptr info27 rfl rfl rfl rfl rfl rfl (by first | rfl | exact live_one rfl | (repeat (first | exact all_live_nil | refine all_live_clo rfl ?_ | refine all_live_slice rfl ?_ | refine all_live_map rfl ?_ | refine all_live_ptr rfl ?_))) (Nat.le_of_ble_eq_true rfl)) rfl (by simp) ?_
     refine al_op (op_assign rfl) rfl (by simp) ?_
     refine al_nil ?_
     refine aw_ret ?_
     refine ⟨_, res_cell_tmp rfl Try.underlying27 info27 rfl rfl rfl rfl rfl rfl rfl, ?_⟩
     rw [Net.clean, if_pos hv, ← n.cleanAt_end]; rfl
theorem c_clean (n : Net) (hn : n.Small) : ACp Try.prog 50 [encN n] (.tuple [encN n.clean.1, .v (.int .i64 (n.clean.2))]) :=
  acp_of rfl (ac_mono (ac_keep (fun _ => false) (q_clean n hn)) (by rintro x σ1 ⟨σ2, h, rfl⟩; exact ⟨h, keep_no _⟩))
end Go.Proofs.Ytbpamlphacpkeaa
