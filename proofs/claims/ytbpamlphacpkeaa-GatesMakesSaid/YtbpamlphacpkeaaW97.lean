/- Printed walks (gen.py, gates_ann.py): part 97. -/
import Derived.Test.YtbpamlphacpkeaaW95
import Derived.Test.YtbpamlphacpkeaaFacts
set_option linter.unusedVariables false
set_option linter.unusedSimpArgs false
set_option maxRecDepth 20000
set_option maxHeartbeats 40000000
namespace Go.Proofs.Ytbpamlphacpkeaa
open Go

theorem mk_make (ins names : List ByteArray) (inits : List Int) (z1 : ∀ s ∈ ins, s.size ≤ 140737488355328) (z2 : ∀ s ∈ names, s.size ≤ 140737488355328) (z3 : ∀ x ∈ inits, 0 ≤ x ∧ x ≤ 255) (z4 : ins.length ≤ 100000) (z5 : names.length ≤ 100000) (z6 : inits.length ≤ 100000) (hok : makeOK ins names inits = true) : AC Try.prog 28 [.list 1 (ins.map encS), .list 1 (names.map encS), .list 1 (inits.map encB)] [] (fun r σ' => ∃ vm vg vt vr, r = .ret (.tuple [.ptr 21 vm 0 0, .v (.int .i64 0)]) ∧ σ' = [(51, vg, .row 2 ((MS.make ins names inits).gates.map encG)), (52, vr, .row 3 ((MS.make ins names inits).regs.map encR)), (21, vm, .row 6 [(MS.make ins names inits).cells 51 19 52 vg vt vr]), (19, vt, .map (thEnts (MS.make ins names inits).th))]) := by
  have h : AC Try.prog 28 [.list 1 (ins.map encS), .list 1 (names.map encS), .list 1 (inits.map encB)] [] (fun r σ' => ∃ vm vg vt vr, r = .ret (.tuple [.ptr 0 vm 0 0, .v (.int .i64 0)]) ∧ σ' = [(2, vt, .map (thEnts [])), (0, vm, .row 6 [(MS.make ins names inits).cells 1 2 3 vg vt vr]), (3, vr, .row 3 ((MS.make ins names inits).regs.map encR)), (1, vg, .row 2 ((MS.make ins names inits).gates.map encG))]) :=
    ac_mono (q_mMake ins names inits z1 z2 z3 z4 z5 z6) (by intro x σ' h; rw [if_pos hok] at h; exact h)
  have := ac_at (σ := []) [21, 51, 19, 52] rfl h trivial (by rfl) rfl (by rintro r σ' _ j _; rfl)
  refine ac_mono this ?_
  rintro x σ' ⟨_, _, ⟨vm, vg, vt, vr, rfl, rfl⟩, rfl, rfl⟩
  refine ⟨vm, vg, vt, vr, rfl, ?_⟩
  have e4 : (AObj.row 3 ((MS.make ins names inits).regs.map encR)).rn (tab [21, 51, 19, 52]) = .row 3 ((MS.make ins names inits).regs.map encR) := by show AObj.row 3 _ = _; rw [rn_rows (fun _ => rfl)]
  simp only [Store.putAll, e4]
  rfl
theorem rk_make (ins names : List ByteArray) (inits : List Int) (z1 : ∀ s ∈ ins, s.size ≤ 140737488355328) (z2 : ∀ s ∈ names, s.size ≤ 140737488355328) (z3 : ∀ x ∈ inits, 0 ≤ x ∧ x ≤ 255) (z4 : ins.length ≤ 100000) (z5 : names.length ≤ 100000) (z6 : inits.length ≤ 100000) (hok : makeOK ins names inits = true) {vm vg vt vr : Nat} : AC Try.prog 29 [.list 1 (ins.map encS), .list 1 (names.map encS), .list 1 (inits.map encB)] [(51, vg, .row 2 ((MS.make ins names inits).gates.map encG)), (52, vr, .row 3 ((MS.make ins names inits).regs.map encR)), (21, vm, .row 6 [(MS.make ins names inits).cells 51 19 52 vg vt vr]), (19, vt, .map (thEnts (MS.make ins names inits).th))] (fun r σ' => ∃ wm wg wr wi, r = .ret (.tuple [.ptr 61 wm 0 0, .v (.int .i64 0)]) ∧ σ' = [(51, vg, .row 2 ((MS.make ins names inits).gates.map encG)), (52, vr, .row 3 ((MS.make ins names inits).regs.map encR)), (21, vm, .row 6 [(MS.make ins names inits).cells 51 19 52 vg vt vr]), (19, vt, .map (thEnts (MS.make ins names inits).th)), (62, wg, .row 2 ((MS.make ins names inits).gates.map encG)), (61, wm, .row 4 [(MS.make ins names inits).rcells 62 63 64 wg wr wi]), (63, wr, .row 3 ((MS.make ins names inits).regs.map encR)), (64, wi, .row 1 ((MS.make ins names inits).ins.map encS))]) := by
  have h : AC Try.prog 29 [.list 1 (ins.map encS), .list 1 (names.map encS), .list 1 (inits.map encB)] [] (fun r σ' => ∃ vm vg vr vi, r = .ret (.tuple [.ptr 0 vm 0 0, .v (.int .i64 0)]) ∧ σ' = [(3, vi, .row 1 ((MS.make ins names inits).ins.map encS)), (2, vr, .row 3 ((MS.make ins names inits).regs.map encR)), (0, vm, .row 4 [(MS.make ins names inits).rcells 1 2 3 vg vr vi]), (1, vg, .row 2 ((MS.make ins names inits).gates.map encG))]) :=
    ac_mono (ac_keep (fun i => decide (i ≤ 3)) (q_rMake ins names inits z1 z2 z3 z4 z5 z6)) (by rintro x σ1 ⟨σ2, h, rfl⟩; rw [if_pos hok] at h; exact h)
  have := ac_at (σ := [(51, vg, .row 2 ((MS.make ins names inits).gates.map encG)), (52, vr, .row 3 ((MS.make ins names inits).regs.map encR)), (21, vm, .row 6 [(MS.make ins names inits).cells 51 19 52 vg vt vr]), (19, vt, .map (thEnts (MS.make ins names inits).th))]) [61, 62, 63, 64] rfl h trivial (by rfl) rfl (by rintro r σ' _ j _; rfl)
  refine ac_mono this ?_
  rintro x σ' ⟨_, _, ⟨wm, wg, wr, wi, rfl, rfl⟩, rfl, rfl⟩
  refine ⟨wm, wg, wr, wi, rfl, ?_⟩
  have e4 : (AObj.row 3 ((MS.make ins names inits).regs.map encR)).rn (tab [61, 62, 63, 64]) = .row 3 ((MS.make ins names inits).regs.map encR) := by show AObj.row 3 _ = _; rw [rn_rows (fun _ => rfl)]
  have e3 : (AObj.row 1 ((MS.make ins names inits).ins.map encS)).rn (tab [61, 62, 63, 64]) = .row 1 ((MS.make ins names inits).ins.map encS) := by show AObj.row 1 _ = _; rw [rn_rows (fun _ => rfl)]
  simp only [Store.putAll, e3, e4]
  rfl
theorem MS.net_small {s : MS} (hs : s.Good) {next : List Int} {outs : List (ByteArray × Int)} (h1 : ∀ x ∈ next, x ≤ 9223372036854775807) (h2 : ∀ p ∈ outs, p.1.size ≤ 140737488355328 ∧ p.2 ≤ 9223372036854775807) (h3 : outs.length ≤ 100000) : (s.net next outs).1.Small := by
  have hz : Net.none.Small := by refine ⟨?_, ?_, ?_, ?_, ?_, ?_, ?_, ?_, ?_, ?_, ?_⟩ <;> decide
  unfold MS.net
  split
  · exact hz
  · rename_i hl
    split
    · exact MS.nexts_small hs.small h1 (by omega) h2 h3
    · exact hz

theorem law_GatesMakes_good (ins names : List ByteArray) (inits : List Int) (l : List OpV) (z1 : ∀ s ∈ ins, s.size ≤ 140737488355328) (z2 : ∀ s ∈ names, s.size ≤ 140737488355328) (z3 : ∀ x ∈ inits, 0 ≤ x ∧ x ≤ 255) (y1 : ins.length ≤ 140737488355328) (y2 : names.length ≤ 140737488355328) (y3 : inits.length ≤ 140737488355328) (y4 : l.length ≤ 140737488355328) (hO : ∀ o ∈ l, o.Small) (hok : makeOK ins names inits = true) : ACp Try.prog 6 [.agg [.list 1 (ins.map encS), .list 1 (names.map encS), .list 1 (inits.map encB)], .list 7 (l.map encO)] (.v (.bool (true))) := by
 refine acp_of rfl ?_
 refine ac_enter 264 Try.func6 rfl rfl (by simp) ?_
 refine aw_seq ?_
 refine aw_region ?_
 (refine al_opR (op_box 2 rfl rfl (by first | rfl | exact live_one rfl | (repeat (first | exact all_live_nil | refine all_live_clo rfl ?_ | refine all_live_slice rfl ?_ | refine all_live_map rfl ?_ | refine all_live_ptr rfl ?_)))) rfl (by simp) ?_; rintro _ _ ⟨ver2, rfl, rfl⟩)
 refine al_op (op_assign rfl) rfl (by simp) ?_
 refine al_nil ?_
 refine aw_seq ?_
 refine aw_any (Checked.mixed Try.checked) ?_
 apply aany_seg (p := 0) (q := 9) (by kernel_rfl) rfl (by decide)
 ·
  first
    | apply ql_plain rfl (op_field_rptr Try.underlying46 rfl info22 (by decide) rfl rfl)
    | apply ql_plain rfl (op_field_ptr Try.underlying46 rfl info22 (by decide) rfl rfl rfl)
  first
    | apply ql_plain rfl (op_load_rptr Try.underlying22 info22 rfl rfl)
    | apply ql_plain rfl (op_load_map Try.underlying22 info22 rfl rfl (by omega) rfl)
    | apply ql_plain rfl (op_load_ptr Try.underlying22 info22 rfl rfl rfl rfl)
  first
    | apply ql_plain rfl (op_field_rptr Try.underlying46 rfl info22 (by decide) rfl rfl)
    | apply ql_plain rfl (op_field_ptr Try.underlying46 rfl info22 (by decide) rfl rfl rfl)
  first
    | apply ql_plain rfl (op_load_rptr Try.underlying22 info22 rfl rfl)
    | apply ql_plain rfl (op_load_map Try.underlying22 info22 rfl rfl (by omega) rfl)
    | apply ql_plain rfl (op_load_ptr Try.underlying22 info22 rfl rfl rfl rfl)
  first
    | apply ql_plain rfl (op_field_rptr Try.underlying46 rfl info28 (by decide) rfl rfl)
    | apply ql_plain rfl (op_field_ptr Try.underlying46 rfl info28 (by decide) rfl rfl rfl)
  first
    | apply ql_plain rfl (op_load_rptr Try.underlying28 info28 rfl rfl)
    | apply ql_plain rfl (op_load_map Try.underlying28 info28 rfl rfl (by omega) rfl)
    | apply ql_plain rfl (op_load_ptr Try.underlying28 info28 rfl rfl rfl rfl)
  apply ql_plain rfl (op_assign rfl)
  apply ql_plain rfl (op_assign rfl)
  apply ql_plain rfl (op_assign rfl)
  exact ql_nil
 ·simp
 refine aany_end rfl (by kernel_rfl) ?_
 refine aw_seq ?_
 refine aw_seq ?_
 refine aw_region ?_
 refine al_op (op_move rfl) rfl (by simp) ?_
 first
   | refine al_op (op_len_map Try.underlying22 rfl) rfl (by simp) ?_
   | refine al_op (op_len_slice Try.underlying22 rfl rfl) rfl (by simp) ?_
   | refine al_op (op_len_list Try.underlying22 rfl) rfl (by simp) ?_
   | refine al_op (op_len_v Try.underlying22 rfl) rfl (by simp) ?_
   | refine al_op (op_len_nil Try.underlying22 rfl) rfl (by simp) ?_
 refine al_op (op_move rfl) rfl (by simp) ?_
 first
   | refine al_op (op_len_map Try.underlying22 rfl) rfl (by simp) ?_
   | refine al_op (op_len_slice Try.underlying22 rfl rfl) rfl (by simp) ?_
   | refine al_op (op_len_list Try.underlying22 rfl) rfl (by simp) ?_
   | refine al_op (op_len_v Try.underlying22 rfl) rfl (by simp) ?_
   | refine al_op (op_len_nil Try.underlying22 rfl) rfl (by simp) ?_
 refine al_op (op_add rfl rfl (by first | exact wrap_i64 (by omega) (by omega))) rfl (by simp) ?_
 refine al_op (op_gtr rfl rfl) rfl (by simp) ?_
 refine al_op (op_move rfl) rfl (by simp) ?_
 apply al_or 4 41 45 rfl
 ·intro h1; have gh1 := h1
  try simp only [decide_eq_true_eq, decide_eq_false_iff_not, Bool.not_eq_true', Bool.not_eq_false', beq_iff_eq, bne_iff_ne, beq_eq_false_iff_ne, bne_eq_false_iff_eq, Bool.or_eq_true, Bool.and_eq_true, Bool.or_eq_false_iff, gt_iff_lt, ge_iff_le] at h1
  refine al_take (op_move rfl) rfl rfl rfl rfl (by simp) ?_
  first
    | refine al_take (op_len_map Try.underlying28 rfl) rfl rfl rfl rfl (by simp) ?_
    | refine al_take (op_len_slice Try.underlying28 rfl rfl) rfl rfl rfl rfl (by simp) ?_
    | refine al_take (op_len_list Try.underlying28 rfl) rfl rfl rfl rfl (by simp) ?_
    | refine al_take (op_len_v Try.underlying28 rfl) rfl rfl rfl rfl (by simp) ?_
    | refine al_take (op_len_nil Try.underlying28 rfl) rfl rfl rfl rfl (by simp) ?_
  refine al_take (op_gtr rfl rfl) rfl rfl rfl rfl (by simp) ?_
  first
    | refine al_op (op_pick rfl rfl) rfl (by simp) ?_
    | refine al_op (op_or rfl rfl rfl) rfl (by simp) ?_
  refine al_nil ⟨rfl, rfl, rfl, keep_of ?_⟩
  repeat (first | exact subx_refl | exact subx_known rfl gh1 subx_refl | refine subx_put rfl ?_)
 ·intro h1; have gh1 := h1
  try simp only [decide_eq_true_eq, decide_eq_false_iff_not, Bool.not_eq_true', Bool.not_eq_false', beq_iff_eq, bne_iff_ne, beq_eq_false_iff_ne, bne_eq_false_iff_eq, Bool.or_eq_true, Bool.and_eq_true, Bool.or_eq_false_iff, gt_iff_lt, ge_iff_le] at h1
  refine al_pass rfl rfl rfl rfl (by simp) ?_
  refine al_pass rfl rfl rfl rfl (by simp) ?_
  refine al_pass rfl rfl rfl rfl (by simp) ?_
  first
    | refine al_op (op_pick rfl rfl) rfl (by simp) ?_
    | refine al_op (op_or rfl rfl rfl) rfl (by simp) ?_
  refine al_nil ⟨rfl, rfl, rfl, keep_of ?_⟩
  repeat (first | exact subx_refl | exact subx_known rfl gh1 subx_refl | refine subx_put rfl ?_)
 refine al_op (op_move rfl) rfl (by simp) ?_
 apply al_or 4 46 50 rfl
 ·intro h2; have gh2 := h2
  try simp only [decide_eq_true_eq, decide_eq_false_iff_not, Bool.not_eq_true', Bool.not_eq_false', beq_iff_eq, bne_iff_ne, beq_eq_false_iff_ne, bne_eq_false_iff_eq, Bool.or_eq_true, Bool.and_eq_true, Bool.or_eq_false_iff, gt_iff_lt, ge_iff_le] at h2
  refine al_take (op_move rfl) rfl rfl rfl rfl (by simp) ?_
  first
    | refine al_take (op_len_map Try.underlying47 rfl) rfl rfl rfl rfl (by simp) ?_
    | refine al_take (op_len_slice Try.underlying47 rfl rfl) rfl rfl rfl rfl (by simp) ?_
    | refine al_take (op_len_list Try.underlying47 rfl) rfl rfl rfl rfl (by simp) ?_
    | refine al_take (op_len_v Try.underlying47 rfl) rfl rfl rfl rfl (by simp) ?_
    | refine al_take (op_len_nil Try.underlying47 rfl) rfl rfl rfl rfl (by simp) ?_
  refine al_take (op_gtr rfl rfl) rfl rfl rfl rfl (by simp) ?_
  first
    | refine al_op (op_pick rfl rfl) rfl (by simp) ?_
    | refine al_op (op_or rfl rfl rfl) rfl (by simp) ?_
  refine al_nil ⟨rfl, rfl, rfl, keep_of ?_⟩
  repeat (first | exact subx_refl | exact subx_known rfl gh2 subx_refl | refine subx_put rfl ?_)
 ·intro h2; have gh2 := h2
  try simp only [decide_eq_true_eq, decide_eq_false_iff_not, Bool.not_eq_true', Bool.not_eq_false', beq_iff_eq, bne_iff_ne, beq_eq_false_iff_ne, bne_eq_false_iff_eq, Bool.or_eq_true, Bool.and_eq_true, Bool.or_eq_false_iff, gt_iff_lt, ge_iff_le] at h2
  refine al_pass rfl rfl rfl rfl (by simp) ?_
  refine al_pass rfl rfl rfl rfl (by simp) ?_
  refine al_pass rfl rfl rfl rfl (by simp) ?_
  first
    | refine al_op (op_pick rfl rfl) rfl (by simp) ?_
    | refine al_op (op_or rfl rfl rfl) rfl (by simp) ?_
  refine al_nil ⟨rfl, rfl, rfl, keep_of ?_⟩
  repeat (first | exact subx_refl | exact subx_known rfl gh2 subx_refl | refine subx_put rfl ?_)
 refine al_nil ?_
 refine aw_cond rfl (fun h3 => ?_) (fun h3 => ?_)
 ·have gh3 := h3
  try simp only [decide_eq_true_eq, decide_eq_false_iff_not, Bool.not_eq_true', Bool.not_eq_false', beq_iff_eq, bne_iff_ne, beq_eq_false_iff_ne, bne_eq_false_iff_eq, Bool.or_eq_true, Bool.and_eq_true, Bool.or_eq_false_iff, gt_iff_lt, ge_iff_le] at h3
  refine aw_seq ?_
  refine aw_region ?_
  first
    | refine al_callp into15 rfl rfl rfl ((l_awake ) _) (by simp) ?_
    | refine al_callp into15 rfl rfl rfl (acp_lent lend_nil (l_awake ) rfl) (by simp) ?_
  refine al_op (op_assign rfl) rfl (by simp) ?_
  refine al_nil ?_
  refine aw_freeze (fun _ => false) (fsub_cons (t := 4) rfl (.leaf _ _ (.same _)) fsub_nil) ?_
  refine aw_ret ?_
  refine ⟨_, res_1 rfl rfl, ?_, rfl⟩
  first | rfl | simp
 ·have gh3 := h3
  try simp only [decide_eq_true_eq, decide_eq_false_iff_not, Bool.not_eq_true', Bool.not_eq_false', beq_iff_eq, bne_iff_ne, beq_eq_false_iff_ne, bne_eq_false_iff_eq, Bool.or_eq_true, Bool.and_eq_true, Bool.or_eq_false_iff, gt_iff_lt, ge_iff_le] at h3
  refine aw_skip ?_
  refine aw_seq ?_
  refine aw_freeze (fun _ => false) fsub_same ?_
  have hgood : ((MS.make ins names inits)).Good := MS.make_good (by unfold makeOK at hok; rw [Bool.and_eq_true] at hok; exact hok.2) (MS.make_small z1 z2 z3 (by omega) (by omega) (by unfold makeOK at hok; rw [Bool.and_eq_true, decide_eq_true_eq] at hok; exact hok.1))
  refine aw_region ?_
  refine al_op (op_move rfl) rfl (by simp) ?_
  refine al_op (op_move rfl) rfl (by simp) ?_
  refine al_op (op_move rfl) rfl (by simp) ?_
  (refine al_call into28 rfl rfl rfl (mk_make ins names inits z1 z2 z3 (by omega) (by omega) (by omega) hok) (by simp) ?_; rintro _ _ ⟨vm, vg, vt, vr, rfl, rfl⟩)
  refine al_op (op_move rfl) rfl (by simp) ?_
  refine al_op (op_extract rfl rfl rfl) rfl (by simp) ?_
  refine al_op (op_extract rfl rfl rfl) rfl (by simp) ?_
  refine al_op (op_assign rfl) rfl (by simp) ?_
  refine al_op (op_assign rfl) rfl (by simp) ?_
  refine al_nil ?_
  refine aw_seq ?_
  refine aw_region ?_
  refine al_op (op_move rfl) rfl (by simp) ?_
  refine al_op (op_move rfl) rfl (by simp) ?_
  refine al_op (op_move rfl) rfl (by simp) ?_
  (refine al_call into29 rfl rfl rfl (rk_make ins names inits z1 z2 z3 (by omega) (by omega) (by omega) hok) (by simp) ?_; rintro _ _ ⟨wm, wg, wr, wi, rfl, rfl⟩)
  refine al_op (op_move rfl) rfl (by simp) ?_
  refine al_op (op_extract rfl rfl rfl) rfl (by simp) ?_
  refine al_op (op_extract rfl rfl rfl) rfl (by simp) ?_
  refine al_op (op_assign rfl) rfl (by simp) ?_
  refine al_op (op_assign rfl) rfl (by simp) ?_
  refine al_nil ?_
  refine aw_seq ?_
  refine aw_seq ?_
  refine aw_region ?_
  refine al_op (op_move rfl) rfl (by simp) ?_
  refine al_op (op_move rfl) rfl (by simp) ?_
  refine al_op (op_neq rfl rfl) rfl (by simp) ?_
  refine al_op (op_move rfl) rfl (by simp) ?_
  apply al_or 6 69 75 rfl
  ·intro h4; have gh4 := h4
   try simp only [decide_eq_true_eq, decide_eq_false_iff_not, Bool.not_eq_true', Bool.not_eq_false', beq_iff_eq, bne_iff_ne, beq_eq_false_iff_ne, bne_eq_false_iff_eq, Bool.or_eq_true, Bool.and_eq_true, Bool.or_eq_false_iff, gt_iff_lt, ge_iff_le] at h4
   refine al_take (op_move rfl) rfl rfl rfl rfl (by simp) ?_
   first
     | refine al_take (op_pnil_ptr Try.underlying48 rfl rfl rfl) rfl rfl rfl rfl (by simp) ?_
     | refine al_take (op_pnil_none Try.underlying48 rfl rfl) rfl rfl rfl rfl (by simp) ?_
   refine al_take (op_move rfl) rfl rfl rfl rfl (by simp) ?_
   first
     | refine al_take (op_pnil_ptr Try.underlying51 rfl rfl rfl) rfl rfl rfl rfl (by simp) ?_
     | refine al_take (op_pnil_none Try.underlying51 rfl rfl) rfl rfl rfl rfl (by simp) ?_
   refine al_take (op_bneq Try.underlying4 rfl rfl) rfl rfl rfl rfl (by simp) ?_
   first
     | refine al_op (op_pick rfl rfl) rfl (by simp) ?_
     | refine al_op (op_or rfl rfl rfl) rfl (by simp) ?_
   refine al_nil ⟨rfl, rfl, rfl, keep_of ?_⟩
   repeat (first | exact subx_refl | exact subx_known rfl gh4 subx_refl | refine subx_put rfl ?_)
  ·intro h4; have gh4 := h4
   try simp only [decide_eq_true_eq, decide_eq_false_iff_not, Bool.not_eq_true', Bool.not_eq_false', beq_iff_eq, bne_iff_ne, beq_eq_false_iff_ne, bne_eq_false_iff_eq, Bool.or_eq_true, Bool.and_eq_true, Bool.or_eq_false_iff, gt_iff_lt, ge_iff_le] at h4
   refine al_pass rfl rfl rfl rfl (by simp) ?_
   refine al_pass rfl rfl rfl rfl (by simp) ?_
   refine al_pass rfl rfl rfl rfl (by simp) ?_
   refine al_pass rfl rfl rfl rfl (by simp) ?_
   refine al_pass rfl rfl rfl rfl (by simp) ?_
   first
     | refine al_op (op_pick rfl rfl) rfl (by simp) ?_
     | refine al_op (op_or rfl rfl rfl) rfl (by simp) ?_
   refine al_nil ⟨rfl, rfl, rfl, keep_of ?_⟩
   repeat (first | exact subx_refl | exact subx_known rfl gh4 subx_refl | refine subx_put rfl ?_)
  refine al_nil ?_
  refine aw_cond rfl (fun h5 => ?_) (fun h5 => ?_)
  ·have gh5 := h5
   try simp only [decide_eq_true_eq, decide_eq_false_iff_not, Bool.not_eq_true', Bool.not_eq_false', beq_iff_eq, bne_iff_ne, beq_eq_false_iff_ne, bne_eq_false_iff_eq, Bool.or_eq_true, Bool.and_eq_true, Bool.or_eq_false_iff, gt_iff_lt, ge_iff_le] at h5
   exact absurd gh5 (by decide)
  ·have gh5 := h5
   try simp only [decide_eq_true_eq, decide_eq_false_iff_not, Bool.not_eq_true', Bool.not_eq_false', beq_iff_eq, bne_iff_ne, beq_eq_false_iff_ne, bne_eq_false_iff_eq, Bool.or_eq_true, Bool.and_eq_true, Bool.or_eq_false_iff, gt_iff_lt, ge_iff_le] at h5
   refine aw_skip ?_
   refine aw_seq ?_
   refine aw_seq ?_
   refine aw_region ?_
   refine al_op (op_move rfl) rfl (by simp) ?_
   first
     | refine al_op (op_pnil_ptr Try.underlying48 rfl rfl rfl) rfl (by simp) ?_
     | refine al_op (op_pnil_none Try.underlying48 rfl rfl) rfl (by simp) ?_
   refine al_nil ?_
   refine aw_cond rfl (fun h6 => ?_) (fun h6 => ?_)
   ·have gh6 := h6
    try simp only [decide_eq_true_eq, decide_eq_false_iff_not, Bool.not_eq_true', Bool.not_eq_false', beq_iff_eq, bne_iff_ne, beq_eq_false_iff_ne, bne_eq_false_iff_eq, Bool.or_eq_true, Bool.and_eq_true, Bool.or_eq_false_iff, gt_iff_lt, ge_iff_le] at h6
    exact absurd gh6 (by decide)
   ·have gh6 := h6
    try simp only [decide_eq_true_eq, decide_eq_false_iff_not, Bool.not_eq_true', Bool.not_eq_false', beq_iff_eq, bne_iff_ne, beq_eq_false_iff_ne, bne_eq_false_iff_eq, Bool.or_eq_true, Bool.and_eq_true, Bool.or_eq_false_iff, gt_iff_lt, ge_iff_le] at h6
    refine aw_skip ?_
    refine aw_seq ?_
    refine aw_region ?_
    (refine al_opR (op_list_own encI (madeTo 0) 79 Try.underlying54 info3 rfl rfl (by decide) rfl (by decide) rfl (by first | rfl | (repeat (first | exact parts_nil | refine parts_cons rfl (by repeat (first | exact all_live_nil | refine all_live_clo rfl ?_ | refine all_live_slice rfl ?_ | refine all_live_map rfl ?_ | refine all_live_ptr rfl ?_)) ?_))) rfl rfl (by first | rfl | (repeat (first | exact parts_nil | refine parts_cons rfl (by repeat (first | exact all_live_nil | refine all_live_clo rfl ?_ | refine all_live_slice rfl ?_ | refine all_live_map rfl ?_ | refine all_live_ptr rfl ?_)) ?_))) rfl rfl) rfl (by simp) ?_; rintro _ _ ⟨ver79, rfl, rfl⟩)
    refine al_op (op_assign rfl) rfl (by simp) ?_
    refine al_nil ?_
    refine aw_seq ?_
    refine aw_seq ?_
    refine aw_region ?_
    refine al_op (op_assign rfl) rfl (by simp) ?_
    refine al_nil ?_
    refine aw_block ?_
    apply aw_only
    ·
     (first | apply sub_cons (t := 1) rfl | skip)
     (first | apply sub_cons (t := 4) rfl | skip)
     (first | apply sub_cons (t := 5) rfl | skip)
     (first | apply sub_cons (t := 6) rfl | skip)
     (first | apply sub_cons (t := 8) rfl | skip)
     (first | apply sub_cons (t := 10) rfl | skip)
     (first | apply sub_cons (t := 12) rfl | skip)
     (first | apply sub_cons (t := 13) rfl | skip)
     exact sub_nil
    refine aw_for2T (α := Nat) (β := Nat) [12, 13] [] (fun i ver => ins.length + names.length - i) (fun i ver => i ≤ ins.length + names.length) (fun i ver => ([(12, .slice 79 ver 0 (madeTo i).length), (13, .v (.int .i64 ((i : Int) + 1)))] : Env)) (fun i ver s => s.put 79 ver (.row 1 ((madeTo i).map encI))) (0) (ver79) ?_ ?_ ?_ (fun i ver hinv => ?_)
    ·exact Nat.zero_le _
    ·refine sub_cons (get_as rfl ?_) ?_; rotate_left; refine sub_cons (get_as rfl ?_) ?_; rotate_left; exact sub_nil
     all_goals (first | rfl | (simp; done) | (rw [madeTo_succ] <;> rfl))
    ·rfl
    have hml0 := madeTo_length i
    refine aw_seq ?_
    refine aw_seq ?_
    refine aw_region ?_
    refine al_op (op_move rfl) rfl (by simp) ?_
    refine al_op (op_move rfl) rfl (by simp) ?_
    first
      | refine al_op (op_len_map Try.underlying22 rfl) rfl (by simp) ?_
      | refine al_op (op_len_slice Try.underlying22 rfl rfl) rfl (by simp) ?_
      | refine al_op (op_len_list Try.underlying22 rfl) rfl (by simp) ?_
      | refine al_op (op_len_v Try.underlying22 rfl) rfl (by simp) ?_
      | refine al_op (op_len_nil Try.underlying22 rfl) rfl (by simp) ?_
    refine al_op (op_move rfl) rfl (by simp) ?_
    first
      | refine al_op (op_len_map Try.underlying22 rfl) rfl (by simp) ?_
      | refine al_op (op_len_slice Try.underlying22 rfl rfl) rfl (by simp) ?_
      | refine al_op (op_len_list Try.underlying22 rfl) rfl (by simp) ?_
      | refine al_op (op_len_v Try.underlying22 rfl) rfl (by simp) ?_
      | refine al_op (op_len_nil Try.underlying22 rfl) rfl (by simp) ?_
    refine al_op (op_add rfl rfl (by first | exact wrap_i64 (by omega) (by omega))) rfl (by simp) ?_
    refine al_op (op_leq rfl rfl) rfl (by simp) ?_
    refine al_nil ?_
    refine aw_cond rfl (fun h7 => ?_) (fun h7 => ?_)
    ·have gh7 := h7
     try simp only [decide_eq_true_eq, decide_eq_false_iff_not, Bool.not_eq_true', Bool.not_eq_false', beq_iff_eq, bne_iff_ne, beq_eq_false_iff_ne, bne_eq_false_iff_eq, Bool.or_eq_true, Bool.and_eq_true, Bool.or_eq_false_iff, gt_iff_lt, ge_iff_le] at h7
     refine aw_skip ?_
     refine aw_seq ?_
     refine aw_block ?_
     refine aw_region ?_
     refine al_op (op_move rfl) rfl (by simp) ?_
     refine al_op (op_move rfl) rfl (by simp) ?_
     refine al_op (op_mul rfl rfl (by first | exact wrap_i64 (by omega) (by omega))) rfl (by simp) ?_
     refine al_op (op_buildSlice Try.underlying54 info3 rfl rfl (by decide) rfl (by decide) rfl (by first | rfl | (repeat (first | exact parts_nil | refine parts_cons rfl (by repeat (first | exact all_live_nil | refine all_live_clo rfl ?_ | refine all_live_slice rfl ?_ | refine all_live_map rfl ?_ | refine all_live_ptr rfl ?_)) ?_))) rfl rfl rfl) rfl (by simp) ?_
     first
       | (refine al_opR (op_append_one (2 * ((i : Int) + 1)) Try.underlying54 Try.underlying54 rfl info3 rfl rfl (by decide) rfl rfl rfl (by first | rfl | simp) rfl rfl (by first | omega | (simp; done) | (simp; omega)) (by show _ * 8 ≤ _; first | omega | (simp; done) | (simp; omega))) rfl (by simp) ?_; rintro _ _ ⟨ver93, rfl, rfl⟩)
       | (refine al_opR (op_append_map Try.underlying54 Try.underlying54 rfl info3 rfl rfl (by decide) rfl rfl rfl (by first | rfl | simp) rfl (by first | exact .list _ | exact .vnil | exact .nil | exact .row _ _ _ _ rfl (by first | rfl | simp)) rfl (by first | omega | (simp; done) | (simp; omega)) (by show _ * 8 ≤ _; first | omega | (simp; done) | (simp; omega))) rfl (by simp) ?_; rintro _ _ ⟨ver93, rfl, rfl⟩)
     refine al_op (op_assign rfl) rfl (by simp) ?_
     refine al_nil ?_
     refine aw_region ?_
     refine al_op (op_move rfl) rfl (by simp) ?_
     refine al_op (op_add rfl rfl (by first | exact wrap_i64 (by omega) (by omega))) rfl (by simp) ?_
     refine al_op (op_assign rfl) rfl (by simp) ?_
     refine al_nil ?_
     refine ⟨i + 1, ver93, ?_, ?_, ?_, ?_, ?_⟩
     ·omega
     ·omega
     ·refine sub_cons (get_as rfl ?_) ?_; rotate_left; refine sub_cons (get_as rfl ?_) ?_; rotate_left; exact sub_nil
      all_goals (first | rfl | (simp; done) | (rw [madeTo_succ] <;> rfl))
     ·repeat (first | exact subx_refl | exact subx_del | refine subx_put rfl ?_)
     ·(rw [madeTo_succ] <;> rfl)
    ·have gh7 := h7
     try simp only [decide_eq_true_eq, decide_eq_false_iff_not, Bool.not_eq_true', Bool.not_eq_false', beq_iff_eq, bne_iff_ne, beq_eq_false_iff_ne, bne_eq_false_iff_eq, Bool.or_eq_true, Bool.and_eq_true, Bool.or_eq_false_iff, gt_iff_lt, ge_iff_le] at h7
     refine aw_exit ?_
     obtain rfl : i = ins.length + names.length := by omega
     refine aw_seq ?_
     refine aw_seq ?_
     refine aw_region ?_
     refine al_op (op_move rfl) rfl (by simp) ?_
     first
       | refine al_op (op_len_map Try.underlying47 rfl) rfl (by simp) ?_
       | refine al_op (op_len_slice Try.underlying47 rfl rfl) rfl (by simp) ?_
       | refine al_op (op_len_list Try.underlying47 rfl) rfl (by simp) ?_
       | refine al_op (op_len_v Try.underlying47 rfl) rfl (by simp) ?_
       | refine al_op (op_len_nil Try.underlying47 rfl) rfl (by simp) ?_
     refine al_op (op_move rfl) rfl (by simp) ?_
     refine al_nil ?_
     refine aw_block ?_
     apply aw_only
     ·
      (first | apply sub_cons (t := 4) rfl | skip)
      (first | apply sub_cons (t := 6) rfl | skip)
      (first | apply sub_cons (t := 8) rfl | skip)
      (first | apply sub_cons (t := 10) rfl | skip)
      (first | apply sub_cons (t := 12) rfl | skip)
      (first | apply sub_cons (t := 94) rfl | skip)
      (first | apply sub_cons (t := 95) rfl | skip)
      (first | apply sub_cons (t := 96) rfl | skip)
      exact sub_nil
     refine aw_forT (ι := LQ) [4, 12, 96] [15, 25, 27] (fun q => l.length - q.i) (fun q => q.i ≤ l.length ∧ q.s.Good ∧ (∀ x ∈ q.made, 0 ≤ x ∧ x ≤ 100000) ∧ q.made.length ≤ 2000 + q.i) (fun q => ([(12, .slice 79 q.ver 0 q.made.length), (96, .v (.int .i64 ((q.i : Int))))] : Env)) (fun q st => LS q.s q.s vm q.vg vt vr wm q.wg wr wi q.made q.ver []) (⟨0, ver, vg, wg, (MS.make ins names inits), madeTo (ins.length + names.length)⟩) ?_ ?_ ?_ (fun q hinv => ?_)
     ·exact ⟨Nat.zero_le _, hgood, madeTo_range _ (by omega), by show (madeTo _).length ≤ _; rw [madeTo_length]; omega⟩
     ·refine sub_cons (get_as rfl ?_) ?_; rotate_left; refine sub_cons (get_as rfl ?_) ?_; rotate_left; exact sub_nil
      all_goals (first | rfl | (simp; done))
     ·rfl
     obtain ⟨hi, hg, hmd, hln⟩ := hinv
     have hml : q.made.length ≤ 100000 := by omega
     refine aw_seq ?_
     refine aw_region ?_
     refine al_op (op_lss rfl rfl) rfl (by simp) ?_
     refine al_nil ?_
     refine aw_seq ?_
     refine aw_cond rfl (fun h8 => ?_) (fun h8 => ?_)
     ·have gh8 := h8
      try simp only [decide_eq_true_eq, decide_eq_false_iff_not, Bool.not_eq_true', Bool.not_eq_false', beq_iff_eq, bne_iff_ne, beq_eq_false_iff_ne, bne_eq_false_iff_eq, Bool.or_eq_true, Bool.and_eq_true, Bool.or_eq_false_iff, gt_iff_lt, ge_iff_le] at h8
      refine aw_skip ?_
      refine aw_seq ?_
      refine aw_block ?_
      refine aw_seq ?_
      have hO1 := hO _ (getD_mem (v := l) (i := q.i) (by omega))
      obtain ⟨hk0, hk1⟩ := hO1.kind
      refine aw_region ?_
      first
        | refine al_op (op_index_map default Try.underlying47 info56 rfl rfl rfl (by first | (with_reducible exact Int.toNat_natCast _) | rfl) (by omega) (by omega)) rfl (by simp) ?_
        | refine al_op (op_index_slice Try.underlying47 info56 rfl rfl rfl rfl (by omega) (by omega)) rfl (by simp) ?_
        | refine al_op (op_index_list Try.underlying47 info56 rfl rfl rfl (by decide) rfl) rfl (by simp) ?_
      first
        | refine al_op (op_load_rptr Try.underlying56 info56 rfl rfl) rfl (by simp) ?_
        | refine al_op (op_load_map Try.underlying56 info56 rfl rfl (by omega) rfl) rfl (by simp) ?_
        | refine al_op (op_load_ptr Try.underlying56 info56 rfl rfl rfl rfl) rfl (by simp) ?_
      (refine al_opR (op_alloc 15 info56 rfl rfl) rfl (by simp) ?_; rintro _ _ ⟨ver15, rfl, rfl⟩)
      first
        | refine al_op (op_store_ptr info56 rfl rfl rfl rfl rfl rfl (by first | rfl | exact live_one rfl | (repeat (first | exact all_live_nil | refine all_live_clo rfl ?_ | refine all_live_slice rfl ?_ | refine all_live_map rfl ?_ | refine all_live_ptr rfl ?_))) (by decide)) rfl (by simp) ?_
        | refine al_op (op_store_ptr info56 rfl rfl rfl rfl rfl rfl (by first | rfl | exact live_one rfl | (repeat (first | exact all_live_nil | refine all_live_clo rfl ?_ | refine all_live_slice rfl ?_ | refine all_live_map rfl ?_ | refine all_live_ptr rfl ?_))) (Nat.le_of_ble_eq_true rfl)) rfl (by simp) ?_
      refine al_nil ?_
      refine aw_seq ?_
      refine aw_seq ?_
      refine aw_region ?_
      first
        | refine al_op (op_field_rptr Try.underlying56 rfl info54 (by decide) rfl rfl) rfl (by simp) ?_
        | refine al_op (op_field_ptr Try.underlying56 rfl info54 (by decide) rfl rfl rfl) rfl (by simp) ?_
      first
        | refine al_op (op_load_rptr Try.underlying54 info54 rfl rfl) rfl (by simp) ?_
        | refine al_op (op_load_map Try.underlying54 info54 rfl rfl (by omega) rfl) rfl (by simp) ?_
        | refine al_op (op_load_ptr Try.underlying54 info54 rfl rfl rfl rfl) rfl (by simp) ?_
      first
        | refine al_op (op_len_map Try.underlying54 rfl) rfl (by simp) ?_
        | refine al_op (op_len_slice Try.underlying54 rfl rfl) rfl (by simp) ?_
        | refine al_op (op_len_list Try.underlying54 rfl) rfl (by simp) ?_
        | refine al_op (op_len_v Try.underlying54 rfl) rfl (by simp) ?_
        | refine al_op (op_len_nil Try.underlying54 rfl) rfl (by simp) ?_
      refine al_op (op_gtr rfl rfl) rfl (by simp) ?_
      refine al_op (op_move rfl) rfl (by simp) ?_
      apply al_or 5 104 109 rfl
      ·intro h9; have gh9 := h9
       try simp only [decide_eq_true_eq, decide_eq_false_iff_not, Bool.not_eq_true', Bool.not_eq_false', beq_iff_eq, bne_iff_ne, beq_eq_false_iff_ne, bne_eq_false_iff_eq, Bool.or_eq_true, Bool.and_eq_true, Bool.or_eq_false_iff, gt_iff_lt, ge_iff_le] at h9
       first
         | refine al_take (op_field_rptr Try.underlying56 rfl info25 (by decide) rfl rfl) rfl rfl rfl rfl (by simp) ?_
         | refine al_take (op_field_ptr Try.underlying56 rfl info25 (by decide) rfl rfl rfl) rfl rfl rfl rfl (by simp) ?_
       first
         | refine al_take (op_load_rptr Try.underlying25 info25 rfl rfl) rfl rfl rfl rfl (by simp) ?_
         | refine al_take (op_load_map Try.underlying25 info25 rfl rfl (by omega) rfl) rfl rfl rfl rfl (by simp) ?_
         | refine al_take (op_load_ptr Try.underlying25 info25 rfl rfl rfl rfl) rfl rfl rfl rfl (by simp) ?_
       first
         | refine al_take (op_len_map Try.underlying25 rfl) rfl rfl rfl rfl (by simp) ?_
         | refine al_take (op_len_slice Try.underlying25 rfl rfl) rfl rfl rfl rfl (by simp) ?_
         | refine al_take (op_len_list Try.underlying25 rfl) rfl rfl rfl rfl (by simp) ?_
         | refine al_take (op_len_v Try.underlying25 rfl) rfl rfl rfl rfl (by simp) ?_
         | refine al_take (op_len_nil Try.underlying25 rfl) rfl rfl rfl rfl (by simp) ?_
       refine al_take (op_gtr rfl rfl) rfl rfl rfl rfl (by simp) ?_
       first
         | refine al_op (op_pick rfl rfl) rfl (by simp) ?_
         | refine al_op (op_or rfl rfl rfl) rfl (by simp) ?_
       refine al_nil ⟨rfl, rfl, rfl, keep_of ?_⟩
       repeat (first | exact subx_refl | exact subx_known rfl gh9 subx_refl | refine subx_put rfl ?_)
      ·intro h9; have gh9 := h9
       try simp only [decide_eq_true_eq, decide_eq_false_iff_not, Bool.not_eq_true', Bool.not_eq_false', beq_iff_eq, bne_iff_ne, beq_eq_false_iff_ne, bne_eq_false_iff_eq, Bool.or_eq_true, Bool.and_eq_true, Bool.or_eq_false_iff, gt_iff_lt, ge_iff_le] at h9
       refine al_pass rfl rfl rfl rfl (by simp) ?_
       refine al_pass rfl rfl rfl rfl (by simp) ?_
       refine al_pass rfl rfl rfl rfl (by simp) ?_
       refine al_pass rfl rfl rfl rfl (by simp) ?_
       first
         | refine al_op (op_pick rfl rfl) rfl (by simp) ?_
         | refine al_op (op_or rfl rfl rfl) rfl (by simp) ?_
       refine al_nil ⟨rfl, rfl, rfl, keep_of ?_⟩
       repeat (first | exact subx_refl | exact subx_known rfl gh9 subx_refl | refine subx_put rfl ?_)
      refine al_nil ?_
      refine aw_cond rfl (fun h10 => ?_) (fun h10 => ?_)
      ·have gh10 := h10
       try simp only [decide_eq_true_eq, decide_eq_false_iff_not, Bool.not_eq_true', Bool.not_eq_false', beq_iff_eq, bne_iff_ne, beq_eq_false_iff_ne, bne_eq_false_iff_eq, Bool.or_eq_true, Bool.and_eq_true, Bool.or_eq_false_iff, gt_iff_lt, ge_iff_le] at h10
       refine aw_seq ?_
       refine aw_region ?_
       first
         | refine al_callp into15 rfl rfl rfl ((l_awake ) _) (by simp) ?_
         | refine al_callp into15 rfl rfl rfl (acp_lent lend_nil (l_awake ) rfl) (by simp) ?_
       refine al_op (op_assign rfl) rfl (by simp) ?_
       refine al_nil ?_
       refine aw_freeze (fun _ => false) (fsub_cons (t := 4) rfl (.leaf _ _ (.same _)) fsub_nil) ?_
       refine aw_ret ?_
       refine ⟨_, res_1 rfl rfl, ?_, rfl⟩
       first | rfl | simp
      ·have gh10 := h10
       try simp only [decide_eq_true_eq, decide_eq_false_iff_not, Bool.not_eq_true', Bool.not_eq_false', beq_iff_eq, bne_iff_ne, beq_eq_false_iff_ne, bne_eq_false_iff_eq, Bool.or_eq_true, Bool.and_eq_true, Bool.or_eq_false_iff, gt_iff_lt, ge_iff_le] at h10
       refine aw_skip ?_
       refine aw_seq ?_
       have hA : (pickedV q.made (l.getD q.i default).made (l.getD q.i default).a) ≤ 9223372036854775807 := pickedV_le hmd hO1.a.2
       have hB : (pickedV q.made (l.getD q.i default).made (l.getD q.i default).b) ≤ 9223372036854775807 := pickedV_le hmd hO1.b.2
       have hC : (pickedV q.made (l.getD q.i default).made (l.getD q.i default).c) ≤ 9223372036854775807 := pickedV_le hmd hO1.c.2
       refine aw_any (Checked.mixed Try.checked) ?_
       apply aany_seg (p := 0) (q := 21) (by kernel_rfl) rfl (by decide)
       ·
        apply ql_plain rfl (op_move rfl)
        first
          | apply ql_plain rfl (op_field_rptr Try.underlying56 rfl info4 (by decide) rfl rfl)
          | apply ql_plain rfl (op_field_ptr Try.underlying56 rfl info4 (by decide) rfl rfl rfl)
        first
          | apply ql_plain rfl (op_load_rptr Try.underlying4 info4 rfl rfl)
          | apply ql_plain rfl (op_load_map Try.underlying4 info4 rfl rfl (by omega) rfl)
          | apply ql_plain rfl (op_load_ptr Try.underlying4 info4 rfl rfl rfl rfl)
        first
          | apply ql_plain rfl (op_field_rptr Try.underlying56 rfl info3 (by decide) rfl rfl)
          | apply ql_plain rfl (op_field_ptr Try.underlying56 rfl info3 (by decide) rfl rfl rfl)
        first
          | apply ql_plain rfl (op_load_rptr Try.underlying3 info3 rfl rfl)
          | apply ql_plain rfl (op_load_map Try.underlying3 info3 rfl rfl (by omega) rfl)
          | apply ql_plain rfl (op_load_ptr Try.underlying3 info3 rfl rfl rfl rfl)
        first
          | apply ql_call into30 rfl rfl rfl ((l_picked _ _ _ (by assumption) (by assumption)) _)
          | apply ql_call into30 rfl rfl rfl (acp_lent (lend_cons (by first | exact lend_same | exact .leaf _ _ (.vnil _) | exact .leaf _ _ (.nil _) | exact lend_whole rfl (by first | rfl | (simp; done) | (simp; omega)) (clo_map (fun _ => rfl)) | exact lend_netg (by first | exact .same _ | exact lendL_vnil | exact lendL_whole rfl (by first | rfl | (simp; done) | (simp; omega)) (clo_map (fun _ => rfl))) (by first | exact .same _ | exact lendL_vnil | exact lendL_whole rfl (by first | rfl | (simp; done) | (simp; omega)) (clo_map (fun _ => rfl))) (by first | exact .same _ | exact lendL_vnil | exact lendL_whole rfl (by first | rfl | (simp; done) | (simp; omega)) (clo_map (fun _ => rfl))) (by first | exact .same _ | exact lendL_vnil | exact lendL_whole rfl (by first | rfl | (simp; done) | (simp; omega)) (clo_map (fun _ => rfl)))) (lend_cons (by first | exact lend_same | exact .leaf _ _ (.vnil _) | exact .leaf _ _ (.nil _) | exact lend_whole rfl (by first | rfl | (simp; done) | (simp; omega)) (clo_map (fun _ => rfl)) | exact lend_netg (by first | exact .same _ | exact lendL_vnil | exact lendL_whole rfl (by first | rfl | (simp; done) | (simp; omega)) (clo_map (fun _ => rfl))) (by first | exact .same _ | exact lendL_vnil | exact lendL_whole rfl (by first | rfl | (simp; done) | (simp; omega)) (clo_map (fun _ => rfl))) (by first | exact .same _ | exact lendL_vnil | exact lendL_whole rfl (by first | rfl | (simp; done) | (simp; omega)) (clo_map (fun _ => rfl))) (by first | exact .same _ | exact lendL_vnil | exact lendL_whole rfl (by first | rfl | (simp; done) | (simp; omega)) (clo_map (fun _ => rfl)))) (lend_cons (by first | exact lend_same | exact .leaf _ _ (.vnil _) | exact .leaf _ _ (.nil _) | exact lend_whole rfl (by first | rfl | (simp; done) | (simp; omega)) (clo_map (fun _ => rfl)) | exact lend_netg (by first | exact .same _ | exact lendL_vnil | exact lendL_whole rfl (by first | rfl | (simp; done) | (simp; omega)) (clo_map (fun _ => rfl))) (by first | exact .same _ | exact lendL_vnil | exact lendL_whole rfl (by first | rfl | (simp; done) | (simp; omega)) (clo_map (fun _ => rfl))) (by first | exact .same _ | exact lendL_vnil | exact lendL_whole rfl (by first | rfl | (simp; done) | (simp; omega)) (clo_map (fun _ => rfl))) (by first | exact .same _ | exact lendL_vnil | exact lendL_whole rfl (by first | rfl | (simp; done) | (simp; omega)) (clo_map (fun _ => rfl)))) lend_nil))) (l_picked _ _ _ (by assumption) (by assumption)) rfl)
        apply ql_plain rfl (op_move rfl)
        first
          | apply ql_plain rfl (op_field_rptr Try.underlying56 rfl info4 (by decide) rfl rfl)
          | apply ql_plain rfl (op_field_ptr Try.underlying56 rfl info4 (by decide) rfl rfl rfl)
        first
          | apply ql_plain rfl (op_load_rptr Try.underlying4 info4 rfl rfl)
          | apply ql_plain rfl (op_load_map Try.underlying4 info4 rfl rfl (by omega) rfl)
          | apply ql_plain rfl (op_load_ptr Try.underlying4 info4 rfl rfl rfl rfl)
        first
          | apply ql_plain rfl (op_field_rptr Try.underlying56 rfl info3 (by decide) rfl rfl)
          | apply ql_plain rfl (op_field_ptr Try.underlying56 rfl info3 (by decide) rfl rfl rfl)
        first
          | apply ql_plain rfl (op_load_rptr Try.underlying3 info3 rfl rfl)
          | apply ql_plain rfl (op_load_map Try.underlying3 info3 rfl rfl (by omega) rfl)
          | apply ql_plain rfl (op_load_ptr Try.underlying3 info3 rfl rfl rfl rfl)
        first
          | apply ql_call into30 rfl rfl rfl ((l_picked _ _ _ (by assumption) (by assumption)) _)
          | apply ql_call into30 rfl rfl rfl (acp_lent (lend_cons (by first | exact lend_same | exact .leaf _ _ (.vnil _) | exact .leaf _ _ (.nil _) | exact lend_whole rfl (by first | rfl | (simp; done) | (simp; omega)) (clo_map (fun _ => rfl)) | exact lend_netg (by first | exact .same _ | exact lendL_vnil | exact lendL_whole rfl (by first | rfl | (simp; done) | (simp; omega)) (clo_map (fun _ => rfl))) (by first | exact .same _ | exact lendL_vnil | exact lendL_whole rfl (by first | rfl | (simp; done) | (simp; omega)) (clo_map (fun _ => rfl))) (by first | exact .same _ | exact lendL_vnil | exact lendL_whole rfl (by first | rfl | (simp; done) | (simp; omega)) (clo_map (fun _ => rfl))) (by first | exact .same _ | exact lendL_vnil | exact lendL_whole rfl (by first | rfl | (simp; done) | (simp; omega)) (clo_map (fun _ => rfl)))) (lend_cons (by first | exact lend_same | exact .leaf _ _ (.vnil _) | exact .leaf _ _ (.nil _) | exact lend_whole rfl (by first | rfl | (simp; done) | (simp; omega)) (clo_map (fun _ => rfl)) | exact lend_netg (by first | exact .same _ | exact lendL_vnil | exact lendL_whole rfl (by first | rfl | (simp; done) | (simp; omega)) (clo_map (fun _ => rfl))) (by first | exact .same _ | exact lendL_vnil | exact lendL_whole rfl (by first | rfl | (simp; done) | (simp; omega)) (clo_map (fun _ => rfl))) (by first | exact .same _ | exact lendL_vnil | exact lendL_whole rfl (by first | rfl | (simp; done) | (simp; omega)) (clo_map (fun _ => rfl))) (by first | exact .same _ | exact lendL_vnil | exact lendL_whole rfl (by first | rfl | (simp; done) | (simp; omega)) (clo_map (fun _ => rfl)))) (lend_cons (by first | exact lend_same | exact .leaf _ _ (.vnil _) | exact .leaf _ _ (.nil _) | exact lend_whole rfl (by first | rfl | (simp; done) | (simp; omega)) (clo_map (fun _ => rfl)) | exact lend_netg (by first | exact .same _ | exact lendL_vnil | exact lendL_whole rfl (by first | rfl | (simp; done) | (simp; omega)) (clo_map (fun _ => rfl))) (by first | exact .same _ | exact lendL_vnil | exact lendL_whole rfl (by first | rfl | (simp; done) | (simp; omega)) (clo_map (fun _ => rfl))) (by first | exact .same _ | exact lendL_vnil | exact lendL_whole rfl (by first | rfl | (simp; done) | (simp; omega)) (clo_map (fun _ => rfl))) (by first | exact .same _ | exact lendL_vnil | exact lendL_whole rfl (by first | rfl | (simp; done) | (simp; omega)) (clo_map (fun _ => rfl)))) lend_nil))) (l_picked _ _ _ (by assumption) (by assumption)) rfl)
        apply ql_plain rfl (op_move rfl)
        first
          | apply ql_plain rfl (op_field_rptr Try.underlying56 rfl info4 (by decide) rfl rfl)
          | apply ql_plain rfl (op_field_ptr Try.underlying56 rfl info4 (by decide) rfl rfl rfl)
        first
          | apply ql_plain rfl (op_load_rptr Try.underlying4 info4 rfl rfl)
          | apply ql_plain rfl (op_load_map Try.underlying4 info4 rfl rfl (by omega) rfl)
          | apply ql_plain rfl (op_load_ptr Try.underlying4 info4 rfl rfl rfl rfl)
        first
          | apply ql_plain rfl (op_field_rptr Try.underlying56 rfl info3 (by decide) rfl rfl)
          | apply ql_plain rfl (op_field_ptr Try.underlying56 rfl info3 (by decide) rfl rfl rfl)
        first
          | apply ql_plain rfl (op_load_rptr Try.underlying3 info3 rfl rfl)
          | apply ql_plain rfl (op_load_map Try.underlying3 info3 rfl rfl (by omega) rfl)
          | apply ql_plain rfl (op_load_ptr Try.underlying3 info3 rfl rfl rfl rfl)
        first
          | apply ql_call into30 rfl rfl rfl ((l_picked _ _ _ (by assumption) (by assumption)) _)
          | apply ql_call into30 rfl rfl rfl (acp_lent (lend_cons (by first | exact lend_same | exact .leaf _ _ (.vnil _) | exact .leaf _ _ (.nil _) | exact lend_whole rfl (by first | rfl | (simp; done) | (simp; omega)) (clo_map (fun _ => rfl)) | exact lend_netg (by first | exact .same _ | exact lendL_vnil | exact lendL_whole rfl (by first | rfl | (simp; done) | (simp; omega)) (clo_map (fun _ => rfl))) (by first | exact .same _ | exact lendL_vnil | exact lendL_whole rfl (by first | rfl | (simp; done) | (simp; omega)) (clo_map (fun _ => rfl))) (by first | exact .same _ | exact lendL_vnil | exact lendL_whole rfl (by first | rfl | (simp; done) | (simp; omega)) (clo_map (fun _ => rfl))) (by first | exact .same _ | exact lendL_vnil | exact lendL_whole rfl (by first | rfl | (simp; done) | (simp; omega)) (clo_map (fun _ => rfl)))) (lend_cons (by first | exact lend_same | exact .leaf _ _ (.vnil _) | exact .leaf _ _ (.nil _) | exact lend_whole rfl (by first | rfl | (simp; done) | (simp; omega)) (clo_map (fun _ => rfl)) | exact lend_netg (by first | exact .same _ | exact lendL_vnil | exact lendL_whole rfl (by first | rfl | (simp; done) | (simp; omega)) (clo_map (fun _ => rfl))) (by first | exact .same _ | exact lendL_vnil | exact lendL_whole rfl (by first | rfl | (simp; done) | (simp; omega)) (clo_map (fun _ => rfl))) (by first | exact .same _ | exact lendL_vnil | exact lendL_whole rfl (by first | rfl | (simp; done) | (simp; omega)) (clo_map (fun _ => rfl))) (by first | exact .same _ | exact lendL_vnil | exact lendL_whole rfl (by first | rfl | (simp; done) | (simp; omega)) (clo_map (fun _ => rfl)))) (lend_cons (by first | exact lend_same | exact .leaf _ _ (.vnil _) | exact .leaf _ _ (.nil _) | exact lend_whole rfl (by first | rfl | (simp; done) | (simp; omega)) (clo_map (fun _ => rfl)) | exact lend_netg (by first | exact .same _ | exact lendL_vnil | exact lendL_whole rfl (by first | rfl | (simp; done) | (simp; omega)) (clo_map (fun _ => rfl))) (by first | exact .same _ | exact lendL_vnil | exact lendL_whole rfl (by first | rfl | (simp; done) | (simp; omega)) (clo_map (fun _ => rfl))) (by first | exact .same _ | exact lendL_vnil | exact lendL_whole rfl (by first | rfl | (simp; done) | (simp; omega)) (clo_map (fun _ => rfl))) (by first | exact .same _ | exact lendL_vnil | exact lendL_whole rfl (by first | rfl | (simp; done) | (simp; omega)) (clo_map (fun _ => rfl)))) lend_nil))) (l_picked _ _ _ (by assumption) (by assumption)) rfl)
        apply ql_plain rfl (op_assign rfl)
        apply ql_plain rfl (op_assign rfl)
        apply ql_plain rfl (op_assign rfl)
        exact ql_nil
       ·simp
       refine aany_end rfl (by kernel_rfl) ?_
       refine aw_seq ?_
       refine aw_region ?_
       refine al_op (op_assign rfl) rfl (by simp) ?_
       refine al_op (op_assign rfl) rfl (by simp) ?_
       refine al_nil ?_
       refine aw_seq ?_
       refine aw_region ?_
       refine al_op (op_assign rfl) rfl (by simp) ?_
       refine al_op (op_assign rfl) rfl (by simp) ?_
       refine al_nil ?_
       refine aw_seq ?_
       refine aw_seq ?_
       refine aw_region ?_
       first
         | refine al_op (op_field_rptr Try.underlying56 rfl info5 (by decide) rfl rfl) rfl (by simp) ?_
         | refine al_op (op_field_ptr Try.underlying56 rfl info5 (by decide) rfl rfl rfl) rfl (by simp) ?_
       first
         | refine al_op (op_load_rptr Try.underlying5 info5 rfl rfl) rfl (by simp) ?_
         | refine al_op (op_load_map Try.underlying5 info5 rfl rfl (by omega) rfl) rfl (by simp) ?_
         | refine al_op (op_load_ptr Try.underlying5 info5 rfl rfl rfl rfl) rfl (by simp) ?_
       first
         | refine al_op (op_rem rfl rfl (by omega) (rem_nn (by omega))) rfl (by simp) ?_
         | refine al_op (op_rem rfl rfl (by omega) rfl) rfl (by simp) ?_
       refine al_nil ?_
       refine aw_block ?_
       refine aw_seq ?_
       refine aw_region ?_
       refine al_op (op_eql rfl rfl) rfl (by simp) ?_
       refine al_op (op_assign rfl) rfl (by simp) ?_
       refine al_nil ?_
       refine aw_cond rfl (fun h11 => ?_) (fun h11 => ?_)
       ·have gh11 := h11
        try simp only [decide_eq_true_eq, decide_eq_false_iff_not, Bool.not_eq_true', Bool.not_eq_false', beq_iff_eq, bne_iff_ne, beq_eq_false_iff_ne, bne_eq_false_iff_eq, Bool.or_eq_true, Bool.and_eq_true, Bool.or_eq_false_iff, gt_iff_lt, ge_iff_le] at h11
        refine aw_seq ?_
        refine aw_region ?_
        refine al_op (op_move rfl) rfl (by simp) ?_
        refine al_op (op_move rfl) rfl (by simp) ?_
        refine al_op (op_move rfl) rfl (by simp) ?_
        (refine al_call into31 rfl rfl rfl (ls_m (m_And q.s vm q.vg vt vr _ _ hg.ok) rfl rfl rfl) (by simp) ?_; rintro _ _ ⟨vg182, rfl, rfl⟩)
        refine al_op (op_move rfl) rfl (by simp) ?_
        refine al_op (op_extract rfl rfl rfl) rfl (by simp) ?_
        refine al_op (op_extract rfl rfl rfl) rfl (by simp) ?_
        refine al_op (op_assign rfl) rfl (by simp) ?_
        refine al_op (op_assign rfl) rfl (by simp) ?_
        refine al_nil ?_
        refine aw_region ?_
        refine al_op (op_move rfl) rfl (by simp) ?_
        refine al_op (op_move rfl) rfl (by simp) ?_
        refine al_op (op_move rfl) rfl (by simp) ?_
        (refine al_call into32 rfl rfl rfl (ls_r (r_And q.s wm q.wg wr wi _ _ hg hA hB) rfl rfl rfl) (by simp) ?_; rintro _ _ ⟨vg189, rfl, rfl⟩)
        refine al_op (op_move rfl) rfl (by simp) ?_
        refine al_op (op_extract rfl rfl rfl) rfl (by simp) ?_
        refine al_op (op_extract rfl rfl rfl) rfl (by simp) ?_
        refine al_op (op_assign rfl) rfl (by simp) ?_
        refine al_op (op_assign rfl) rfl (by simp) ?_
        refine al_nil ?_
        refine aw_seq ?_
        refine aw_seq ?_
        refine aw_region ?_
        refine al_op (op_move rfl) rfl (by simp) ?_
        refine al_op (op_move rfl) rfl (by simp) ?_
        refine al_op (op_neq rfl rfl) rfl (by simp) ?_
        refine al_op (op_move rfl) rfl (by simp) ?_
        apply al_or 4 245 249 rfl
        ·intro h12; have gh12 := h12
         try simp only [decide_eq_true_eq, decide_eq_false_iff_not, Bool.not_eq_true', Bool.not_eq_false', beq_iff_eq, bne_iff_ne, beq_eq_false_iff_ne, bne_eq_false_iff_eq, Bool.or_eq_true, Bool.and_eq_true, Bool.or_eq_false_iff, gt_iff_lt, ge_iff_le] at h12
         refine al_take (op_move rfl) rfl rfl rfl rfl (by simp) ?_
         refine al_take (op_move rfl) rfl rfl rfl rfl (by simp) ?_
         refine al_take (op_neq rfl rfl) rfl rfl rfl rfl (by simp) ?_
         first
           | refine al_op (op_pick rfl rfl) rfl (by simp) ?_
           | refine al_op (op_or rfl rfl rfl) rfl (by simp) ?_
         refine al_nil ⟨rfl, rfl, rfl, keep_of ?_⟩
         repeat (first | exact subx_refl | exact subx_known rfl gh12 subx_refl | refine subx_put rfl ?_)
        ·intro h12; have gh12 := h12
         try simp only [decide_eq_true_eq, decide_eq_false_iff_not, Bool.not_eq_true', Bool.not_eq_false', beq_iff_eq, bne_iff_ne, beq_eq_false_iff_ne, bne_eq_false_iff_eq, Bool.or_eq_true, Bool.and_eq_true, Bool.or_eq_false_iff, gt_iff_lt, ge_iff_le] at h12
         refine al_pass rfl rfl rfl rfl (by simp) ?_
         refine al_pass rfl rfl rfl rfl (by simp) ?_
         refine al_pass rfl rfl rfl rfl (by simp) ?_
         first
           | refine al_op (op_pick rfl rfl) rfl (by simp) ?_
           | refine al_op (op_or rfl rfl rfl) rfl (by simp) ?_
         refine al_nil ⟨rfl, rfl, rfl, keep_of ?_⟩
         repeat (first | exact subx_refl | exact subx_known rfl gh12 subx_refl | refine subx_put rfl ?_)
        refine al_nil ?_
        refine aw_cond rfl (fun h13 => ?_) (fun h13 => ?_)
        ·have gh13 := h13
         try simp only [decide_eq_true_eq, decide_eq_false_iff_not, Bool.not_eq_true', Bool.not_eq_false', beq_iff_eq, bne_iff_ne, beq_eq_false_iff_ne, bne_eq_false_iff_eq, Bool.or_eq_true, Bool.and_eq_true, Bool.or_eq_false_iff, gt_iff_lt, ge_iff_le] at h13
         simp at gh13
        ·have gh13 := h13
         try simp only [decide_eq_true_eq, decide_eq_false_iff_not, Bool.not_eq_true', Bool.not_eq_false', beq_iff_eq, bne_iff_ne, beq_eq_false_iff_ne, bne_eq_false_iff_eq, Bool.or_eq_true, Bool.and_eq_true, Bool.or_eq_false_iff, gt_iff_lt, ge_iff_le] at h13
         refine aw_skip ?_
         refine aw_seq ?_
         refine aw_region ?_
         refine al_op (op_move rfl) rfl (by simp) ?_
         refine al_op (op_eql rfl rfl) rfl (by simp) ?_
         refine al_op (op_move rfl) rfl (by simp) ?_
         apply al_and 5 252 257 rfl
         ·intro h14; have gh14 := h14
          try simp only [decide_eq_true_eq, decide_eq_false_iff_not, Bool.not_eq_true', Bool.not_eq_false', beq_iff_eq, bne_iff_ne, beq_eq_false_iff_ne, bne_eq_false_iff_eq, Bool.or_eq_true, Bool.and_eq_true, Bool.or_eq_false_iff, gt_iff_lt, ge_iff_le] at h14
          first
            | refine al_take (op_field_rptr Try.underlying56 rfl info5 (by decide) rfl rfl) rfl rfl rfl rfl (by simp) ?_
            | refine al_take (op_field_ptr Try.underlying56 rfl info5 (by decide) rfl rfl rfl) rfl rfl rfl rfl (by simp) ?_
          first
            | refine al_take (op_load_rptr Try.underlying5 info5 rfl rfl) rfl rfl rfl rfl (by simp) ?_
            | refine al_take (op_load_map Try.underlying5 info5 rfl rfl (by omega) rfl) rfl rfl rfl rfl (by simp) ?_
            | refine al_take (op_load_ptr Try.underlying5 info5 rfl rfl rfl rfl) rfl rfl rfl rfl (by simp) ?_
          first
            | refine al_take (op_rem rfl rfl (by omega) (rem_nn (by omega))) rfl rfl rfl rfl (by simp) ?_
            | refine al_take (op_rem rfl rfl (by omega) rfl) rfl rfl rfl rfl (by simp) ?_
          refine al_take (op_lss rfl rfl) rfl rfl rfl rfl (by simp) ?_
          first
            | refine al_op (op_pick rfl rfl) rfl (by simp) ?_
            | refine al_op (op_and rfl rfl rfl) rfl (by simp) ?_
          refine al_nil ⟨rfl, rfl, rfl, keep_of ?_⟩
          repeat (first | exact subx_refl | exact subx_known rfl gh14 subx_refl | refine subx_put rfl ?_)
         ·intro h14; have gh14 := h14
          try simp only [decide_eq_true_eq, decide_eq_false_iff_not, Bool.not_eq_true', Bool.not_eq_false', beq_iff_eq, bne_iff_ne, beq_eq_false_iff_ne, bne_eq_false_iff_eq, Bool.or_eq_true, Bool.and_eq_true, Bool.or_eq_false_iff, gt_iff_lt, ge_iff_le] at h14
          refine al_pass rfl rfl rfl rfl (by simp) ?_
          refine al_pass rfl rfl rfl rfl (by simp) ?_
          refine al_pass rfl rfl rfl rfl (by simp) ?_
          refine al_pass rfl rfl rfl rfl (by simp) ?_
          first
            | refine al_op (op_pick rfl rfl) rfl (by simp) ?_
            | refine al_op (op_and rfl rfl rfl) rfl (by simp) ?_
          refine al_nil ⟨rfl, rfl, rfl, keep_of ?_⟩
          repeat (first | exact subx_refl | exact subx_known rfl gh14 subx_refl | refine subx_put rfl ?_)
         refine al_nil ?_
         refine aw_cond rfl (fun h15 => ?_) (fun h15 => ?_)
         ·have gh15 := h15
          try simp only [decide_eq_true_eq, decide_eq_false_iff_not, Bool.not_eq_true', Bool.not_eq_false', beq_iff_eq, bne_iff_ne, beq_eq_false_iff_ne, bne_eq_false_iff_eq, Bool.or_eq_true, Bool.and_eq_true, Bool.or_eq_false_iff, gt_iff_lt, ge_iff_le] at h15
          refine aw_region ?_
          refine al_op (op_move rfl) rfl (by simp) ?_
          refine al_op (op_move rfl) rfl (by simp) ?_
          refine al_op (op_buildSlice Try.underlying54 info3 rfl rfl (by decide) rfl (by decide) rfl (by first | rfl | (repeat (first | exact parts_nil | refine parts_cons rfl (by repeat (first | exact all_live_nil | refine all_live_clo rfl ?_ | refine all_live_slice rfl ?_ | refine all_live_map rfl ?_ | refine all_live_ptr rfl ?_)) ?_))) rfl rfl rfl) rfl (by simp) ?_
          first
            | (refine al_opR (op_append_one _ Try.underlying54 Try.underlying54 rfl info3 rfl rfl (by decide) rfl rfl rfl (by first | rfl | simp) rfl rfl (by first | omega | (simp; done) | (simp; omega)) (by show _ * 8 ≤ _; first | omega | (simp; done) | (simp; omega))) rfl (by simp) ?_; rintro _ _ ⟨ver261, rfl, rfl⟩)
            | (refine al_opR (op_append_map Try.underlying54 Try.underlying54 rfl info3 rfl rfl (by decide) rfl rfl rfl (by first | rfl | simp) rfl (by first | exact .list _ | exact .vnil | exact .nil | exact .row _ _ _ _ rfl (by first | rfl | simp)) rfl (by first | omega | (simp; done) | (simp; omega)) (by show _ * 8 ≤ _; first | omega | (simp; done) | (simp; omega))) rfl (by simp) ?_; rintro _ _ ⟨ver261, rfl, rfl⟩)
          refine al_op (op_assign rfl) rfl (by simp) ?_
          refine al_nil ?_
          refine aw_region ?_
          refine al_op (op_add rfl rfl (by first | exact wrap_i64 (by omega) (by omega))) rfl (by simp) ?_
          refine al_op (op_move rfl) rfl (by simp) ?_
          refine al_nil ?_
          refine ⟨⟨q.i + 1, ver261, vg182, vg189, (q.s.and (pickedV q.made (l.getD q.i default).made (l.getD q.i default).a) (pickedV q.made (l.getD q.i default).made (l.getD q.i default).b)).2, q.made ++ [(q.s.and (pickedV q.made (l.getD q.i default).made (l.getD q.i default).a) (pickedV q.made (l.getD q.i default).made (l.getD q.i default).b)).1.1]⟩, ?_, ?_, ?_, ?_, ?_⟩
          ·(show l.length - (q.i + 1) < l.length - q.i; omega)
          ·exact ⟨by show q.i + 1 ≤ l.length; omega, MS.and_good hg _ _, made_snoc hmd (lit_le (MS.and_lit hg.ok _ _)), by show (q.made ++ [_]).length ≤ 2000 + (q.i + 1); rw [List.length_append, List.length_singleton]; omega⟩
          ·refine sub_cons (get_as rfl ?_) ?_; rotate_left; refine sub_cons (get_as rfl ?_) ?_; rotate_left; exact sub_nil
           all_goals (first | rfl | (simp; done))
          ·repeat (first | exact subx_refl | exact subx_del | refine subx_put rfl ?_)
          ·rfl
         ·have gh15 := h15
          try simp only [decide_eq_true_eq, decide_eq_false_iff_not, Bool.not_eq_true', Bool.not_eq_false', beq_iff_eq, bne_iff_ne, beq_eq_false_iff_ne, bne_eq_false_iff_eq, Bool.or_eq_true, Bool.and_eq_true, Bool.or_eq_false_iff, gt_iff_lt, ge_iff_le] at h15
          refine aw_skip ?_
          refine aw_region ?_
          refine al_op (op_add rfl rfl (by first | exact wrap_i64 (by omega) (by omega))) rfl (by simp) ?_
          refine al_op (op_move rfl) rfl (by simp) ?_
          refine al_nil ?_
          refine ⟨⟨q.i + 1, q.ver, vg182, vg189, (q.s.and (pickedV q.made (l.getD q.i default).made (l.getD q.i default).a) (pickedV q.made (l.getD q.i default).made (l.getD q.i default).b)).2, q.made⟩, ?_, ?_, ?_, ?_, ?_⟩
          ·(show l.length - (q.i + 1) < l.length - q.i; omega)
          ·exact ⟨by show q.i + 1 ≤ l.length; omega, MS.and_good hg _ _, hmd, by show q.made.length ≤ 2000 + (q.i + 1); omega⟩
          ·refine sub_cons (get_as rfl ?_) ?_; rotate_left; refine sub_cons (get_as rfl ?_) ?_; rotate_left; exact sub_nil
           all_goals (first | rfl | (simp; done))
          ·repeat (first | exact subx_refl | exact subx_del | refine subx_put rfl ?_)
          ·rfl
       ·have gh11 := h11
        try simp only [decide_eq_true_eq, decide_eq_false_iff_not, Bool.not_eq_true', Bool.not_eq_false', beq_iff_eq, bne_iff_ne, beq_eq_false_iff_ne, bne_eq_false_iff_eq, Bool.or_eq_true, Bool.and_eq_true, Bool.or_eq_false_iff, gt_iff_lt, ge_iff_le] at h11
        refine aw_seq ?_
        refine aw_region ?_
        refine al_op (op_eql rfl rfl) rfl (by simp) ?_
        refine al_op (op_assign rfl) rfl (by simp) ?_
        refine al_nil ?_
        refine aw_cond rfl (fun h16 => ?_) (fun h16 => ?_)
        ·have gh16 := h16
         try simp only [decide_eq_true_eq, decide_eq_false_iff_not, Bool.not_eq_true', Bool.not_eq_false', beq_iff_eq, bne_iff_ne, beq_eq_false_iff_ne, bne_eq_false_iff_eq, Bool.or_eq_true, Bool.and_eq_true, Bool.or_eq_false_iff, gt_iff_lt, ge_iff_le] at h16
         refine aw_seq ?_
         refine aw_region ?_
         refine al_op (op_move rfl) rfl (by simp) ?_
         refine al_op (op_move rfl) rfl (by simp) ?_
         refine al_op (op_move rfl) rfl (by simp) ?_
         (refine al_call into33 rfl rfl rfl (ls_m (m_Or q.s vm q.vg vt vr _ _ hg.ok) rfl rfl rfl) (by simp) ?_; rintro _ _ ⟨vg198, rfl, rfl⟩)
         refine al_op (op_move rfl) rfl (by simp) ?_
         refine al_op (op_extract rfl rfl rfl) rfl (by simp) ?_
         refine al_op (op_extract rfl rfl rfl) rfl (by simp) ?_
         refine al_op (op_assign rfl) rfl (by simp) ?_
         refine al_op (op_assign rfl) rfl (by simp) ?_
         refine al_nil ?_
         refine aw_region ?_
         refine al_op (op_move rfl) rfl (by simp) ?_
         refine al_op (op_move rfl) rfl (by simp) ?_
         refine al_op (op_move rfl) rfl (by simp) ?_
         (refine al_call into34 rfl rfl rfl (ls_r (r_Or q.s wm q.wg wr wi _ _ hg hA hB) rfl rfl rfl) (by simp) ?_; rintro _ _ ⟨vg205, rfl, rfl⟩)
         refine al_op (op_move rfl) rfl (by simp) ?_
         refine al_op (op_extract rfl rfl rfl) rfl (by simp) ?_
         refine al_op (op_extract rfl rfl rfl) rfl (by simp) ?_
         refine al_op (op_assign rfl) rfl (by simp) ?_
         refine al_op (op_assign rfl) rfl (by simp) ?_
         refine al_nil ?_
         refine aw_seq ?_
         refine aw_seq ?_
         refine aw_region ?_
         refine al_op (op_move rfl) rfl (by simp) ?_
         refine al_op (op_move rfl) rfl (by simp) ?_
         refine al_op (op_neq rfl rfl) rfl (by simp) ?_
         refine al_op (op_move rfl) rfl (by simp) ?_
         apply al_or 4 245 249 rfl
         ·intro h17; have gh17 := h17
          try simp only [decide_eq_true_eq, decide_eq_false_iff_not, Bool.not_eq_true', Bool.not_eq_false', beq_iff_eq, bne_iff_ne, beq_eq_false_iff_ne, bne_eq_false_iff_eq, Bool.or_eq_true, Bool.and_eq_true, Bool.or_eq_false_iff, gt_iff_lt, ge_iff_le] at h17
          refine al_take (op_move rfl) rfl rfl rfl rfl (by simp) ?_
          refine al_take (op_move rfl) rfl rfl rfl rfl (by simp) ?_
          refine al_take (op_neq rfl rfl) rfl rfl rfl rfl (by simp) ?_
          first
            | refine al_op (op_pick rfl rfl) rfl (by simp) ?_
            | refine al_op (op_or rfl rfl rfl) rfl (by simp) ?_
          refine al_nil ⟨rfl, rfl, rfl, keep_of ?_⟩
          repeat (first | exact subx_refl | exact subx_known rfl gh17 subx_refl | refine subx_put rfl ?_)
         ·intro h17; have gh17 := h17
          try simp only [decide_eq_true_eq, decide_eq_false_iff_not, Bool.not_eq_true', Bool.not_eq_false', beq_iff_eq, bne_iff_ne, beq_eq_false_iff_ne, bne_eq_false_iff_eq, Bool.or_eq_true, Bool.and_eq_true, Bool.or_eq_false_iff, gt_iff_lt, ge_iff_le] at h17
          refine al_pass rfl rfl rfl rfl (by simp) ?_
          refine al_pass rfl rfl rfl rfl (by simp) ?_
          refine al_pass rfl rfl rfl rfl (by simp) ?_
          first
            | refine al_op (op_pick rfl rfl) rfl (by simp) ?_
            | refine al_op (op_or rfl rfl rfl) rfl (by simp) ?_
          refine al_nil ⟨rfl, rfl, rfl, keep_of ?_⟩
          repeat (first | exact subx_refl | exact subx_known rfl gh17 subx_refl | refine subx_put rfl ?_)
         refine al_nil ?_
         refine aw_cond rfl (fun h18 => ?_) (fun h18 => ?_)
         ·have gh18 := h18
          try simp only [decide_eq_true_eq, decide_eq_false_iff_not, Bool.not_eq_true', Bool.not_eq_false', beq_iff_eq, bne_iff_ne, beq_eq_false_iff_ne, bne_eq_false_iff_eq, Bool.or_eq_true, Bool.and_eq_true, Bool.or_eq_false_iff, gt_iff_lt, ge_iff_le] at h18
          simp at gh18
         ·have gh18 := h18
          try simp only [decide_eq_true_eq, decide_eq_false_iff_not, Bool.not_eq_true', Bool.not_eq_false', beq_iff_eq, bne_iff_ne, beq_eq_false_iff_ne, bne_eq_false_iff_eq, Bool.or_eq_true, Bool.and_eq_true, Bool.or_eq_false_iff, gt_iff_lt, ge_iff_le] at h18
          refine aw_skip ?_
          refine aw_seq ?_
          refine aw_region ?_
          refine al_op (op_move rfl) rfl (by simp) ?_
          refine al_op (op_eql rfl rfl) rfl (by simp) ?_
          refine al_op (op_move rfl) rfl (by simp) ?_
          apply al_and 5 252 257 rfl
          ·intro h19; have gh19 := h19
           try simp only [decide_eq_true_eq, decide_eq_false_iff_not, Bool.not_eq_true', Bool.not_eq_false', beq_iff_eq, bne_iff_ne, beq_eq_false_iff_ne, bne_eq_false_iff_eq, Bool.or_eq_true, Bool.and_eq_true, Bool.or_eq_false_iff, gt_iff_lt, ge_iff_le] at h19
           first
             | refine al_take (op_field_rptr Try.underlying56 rfl info5 (by decide) rfl rfl) rfl rfl rfl rfl (by simp) ?_
             | refine al_take (op_field_ptr Try.underlying56 rfl info5 (by decide) rfl rfl rfl) rfl rfl rfl rfl (by simp) ?_
           first
             | refine al_take (op_load_rptr Try.underlying5 info5 rfl rfl) rfl rfl rfl rfl (by simp) ?_
             | refine al_take (op_load_map Try.underlying5 info5 rfl rfl (by omega) rfl) rfl rfl rfl rfl (by simp) ?_
             | refine al_take (op_load_ptr Try.underlying5 info5 rfl rfl rfl rfl) rfl rfl rfl rfl (by simp) ?_
           first
             | refine al_take (op_rem rfl rfl (by omega) (rem_nn (by omega))) rfl rfl rfl rfl (by simp) ?_
             | refine al_take (op_rem rfl rfl (by omega) rfl) rfl rfl rfl rfl (by simp) ?_
           refine al_take (op_lss rfl rfl) rfl rfl rfl rfl (by simp) ?_
           first
             | refine al_op (op_pick rfl rfl) rfl (by simp) ?_
             | refine al_op (op_and rfl rfl rfl) rfl (by simp) ?_
           refine al_nil ⟨rfl, rfl, rfl, keep_of ?_⟩
           repeat (first | exact subx_refl | exact subx_known rfl gh19 subx_refl | refine subx_put rfl ?_)
          ·intro h19; have gh19 := h19
           try simp only [decide_eq_true_eq, decide_eq_false_iff_not, Bool.not_eq_true', Bool.not_eq_false', beq_iff_eq, bne_iff_ne, beq_eq_false_iff_ne, bne_eq_false_iff_eq, Bool.or_eq_true, Bool.and_eq_true, Bool.or_eq_false_iff, gt_iff_lt, ge_iff_le] at h19
           refine al_pass rfl rfl rfl rfl (by simp) ?_
           refine al_pass rfl rfl rfl rfl (by simp) ?_
           refine al_pass rfl rfl rfl rfl (by simp) ?_
           refine al_pass rfl rfl rfl rfl (by simp) ?_
           first
             | refine al_op (op_pick rfl rfl) rfl (by simp) ?_
             | refine al_op (op_and rfl rfl rfl) rfl (by simp) ?_
           refine al_nil ⟨rfl, rfl, rfl, keep_of ?_⟩
           repeat (first | exact subx_refl | exact subx_known rfl gh19 subx_refl | refine subx_put rfl ?_)
          refine al_nil ?_
          refine aw_cond rfl (fun h20 => ?_) (fun h20 => ?_)
          ·have gh20 := h20
           try simp only [decide_eq_true_eq, decide_eq_false_iff_not, Bool.not_eq_true', Bool.not_eq_false', beq_iff_eq, bne_iff_ne, beq_eq_false_iff_ne, bne_eq_false_iff_eq, Bool.or_eq_true, Bool.and_eq_true, Bool.or_eq_false_iff, gt_iff_lt, ge_iff_le] at h20
           refine aw_region ?_
           refine al_op (op_move rfl) rfl (by simp) ?_
           refine al_op (op_move rfl) rfl (by simp) ?_
           refine al_op (op_buildSlice Try.underlying54 info3 rfl rfl (by decide) rfl (by decide) rfl (by first | rfl | (repeat (first | exact parts_nil | refine parts_cons rfl (by repeat (first | exact all_live_nil | refine all_live_clo rfl ?_ | refine all_live_slice rfl ?_ | refine all_live_map rfl ?_ | refine all_live_ptr rfl ?_)) ?_))) rfl rfl rfl) rfl (by simp) ?_
           first
             | (refine al_opR (op_append_one _ Try.underlying54 Try.underlying54 rfl info3 rfl rfl (by decide) rfl rfl rfl (by first | rfl | simp) rfl rfl (by first | omega | (simp; done) | (simp; omega)) (by show _ * 8 ≤ _; first | omega | (simp; done) | (simp; omega))) rfl (by simp) ?_; rintro _ _ ⟨ver261, rfl, rfl⟩)
             | (refine al_opR (op_append_map Try.underlying54 Try.underlying54 rfl info3 rfl rfl (by decide) rfl rfl rfl (by first | rfl | simp) rfl (by first | exact .list _ | exact .vnil | exact .nil | exact .row _ _ _ _ rfl (by first | rfl | simp)) rfl (by first | omega | (simp; done) | (simp; omega)) (by show _ * 8 ≤ _; first | omega | (simp; done) | (simp; omega))) rfl (by simp) ?_; rintro _ _ ⟨ver261, rfl, rfl⟩)
           refine al_op (op_assign rfl) rfl (by simp) ?_
           refine al_nil ?_
           refine aw_region ?_
           refine al_op (op_add rfl rfl (by first | exact wrap_i64 (by omega) (by omega))) rfl (by simp) ?_
           refine al_op (op_move rfl) rfl (by simp) ?_
           refine al_nil ?_
           refine ⟨⟨q.i + 1, ver261, vg198, vg205, (q.s.or (pickedV q.made (l.getD q.i default).made (l.getD q.i default).a) (pickedV q.made (l.getD q.i default).made (l.getD q.i default).b)).2, q.made ++ [(q.s.or (pickedV q.made (l.getD q.i default).made (l.getD q.i default).a) (pickedV q.made (l.getD q.i default).made (l.getD q.i default).b)).1.1]⟩, ?_, ?_, ?_, ?_, ?_⟩
           ·(show l.length - (q.i + 1) < l.length - q.i; omega)
           ·exact ⟨by show q.i + 1 ≤ l.length; omega, MS.or_good hg _ _, made_snoc hmd (MS.or_lit hg.ok _ _), by show (q.made ++ [_]).length ≤ 2000 + (q.i + 1); rw [List.length_append, List.length_singleton]; omega⟩
           ·refine sub_cons (get_as rfl ?_) ?_; rotate_left; refine sub_cons (get_as rfl ?_) ?_; rotate_left; exact sub_nil
            all_goals (first | rfl | (simp; done))
           ·repeat (first | exact subx_refl | exact subx_del | refine subx_put rfl ?_)
           ·rfl
          ·have gh20 := h20
           try simp only [decide_eq_true_eq, decide_eq_false_iff_not, Bool.not_eq_true', Bool.not_eq_false', beq_iff_eq, bne_iff_ne, beq_eq_false_iff_ne, bne_eq_false_iff_eq, Bool.or_eq_true, Bool.and_eq_true, Bool.or_eq_false_iff, gt_iff_lt, ge_iff_le] at h20
           refine aw_skip ?_
           refine aw_region ?_
           refine al_op (op_add rfl rfl (by first | exact wrap_i64 (by omega) (by omega))) rfl (by simp) ?_
           refine al_op (op_move rfl) rfl (by simp) ?_
           refine al_nil ?_
           refine ⟨⟨q.i + 1, q.ver, vg198, vg205, (q.s.or (pickedV q.made (l.getD q.i default).made (l.getD q.i default).a) (pickedV q.made (l.getD q.i default).made (l.getD q.i default).b)).2, q.made⟩, ?_, ?_, ?_, ?_, ?_⟩
           ·(show l.length - (q.i + 1) < l.length - q.i; omega)
           ·exact ⟨by show q.i + 1 ≤ l.length; omega, MS.or_good hg _ _, hmd, by show q.made.length ≤ 2000 + (q.i + 1); omega⟩
           ·refine sub_cons (get_as rfl ?_) ?_; rotate_left; refine sub_cons (get_as rfl ?_) ?_; rotate_left; exact sub_nil
            all_goals (first | rfl | (simp; done))
           ·repeat (first | exact subx_refl | exact subx_del | refine subx_put rfl ?_)
           ·rfl
        ·have gh16 := h16
         try simp only [decide_eq_true_eq, decide_eq_false_iff_not, Bool.not_eq_true', Bool.not_eq_false', beq_iff_eq, bne_iff_ne, beq_eq_false_iff_ne, bne_eq_false_iff_eq, Bool.or_eq_true, Bool.and_eq_true, Bool.or_eq_false_iff, gt_iff_lt, ge_iff_le] at h16
         refine aw_seq ?_
         refine aw_region ?_
         refine al_op (op_eql rfl rfl) rfl (by simp) ?_
         refine al_op (op_assign rfl) rfl (by simp) ?_
         refine al_nil ?_
         refine aw_cond rfl (fun h21 => ?_) (fun h21 => ?_)
         ·have gh21 := h21
          try simp only [decide_eq_true_eq, decide_eq_false_iff_not, Bool.not_eq_true', Bool.not_eq_false', beq_iff_eq, bne_iff_ne, beq_eq_false_iff_ne, bne_eq_false_iff_eq, Bool.or_eq_true, Bool.and_eq_true, Bool.or_eq_false_iff, gt_iff_lt, ge_iff_le] at h21
          refine aw_seq ?_
          refine aw_region ?_
          refine al_op (op_move rfl) rfl (by simp) ?_
          refine al_op (op_move rfl) rfl (by simp) ?_
          refine al_op (op_move rfl) rfl (by simp) ?_
          (refine al_call into35 rfl rfl rfl (ls_m (m_Xor q.s vm q.vg vt vr _ _ hg.ok) rfl rfl rfl) (by simp) ?_; rintro _ _ ⟨vg214, rfl, rfl⟩)
          refine al_op (op_move rfl) rfl (by simp) ?_
          refine al_op (op_extract rfl rfl rfl) rfl (by simp) ?_
          refine al_op (op_extract rfl rfl rfl) rfl (by simp) ?_
          refine al_op (op_assign rfl) rfl (by simp) ?_
          refine al_op (op_assign rfl) rfl (by simp) ?_
          refine al_nil ?_
          refine aw_region ?_
          refine al_op (op_move rfl) rfl (by simp) ?_
          refine al_op (op_move rfl) rfl (by simp) ?_
          refine al_op (op_move rfl) rfl (by simp) ?_
          (refine al_call into36 rfl rfl rfl (ls_r (r_Xor q.s wm q.wg wr wi _ _ hg hA hB) rfl rfl rfl) (by simp) ?_; rintro _ _ ⟨vg221, rfl, rfl⟩)
          refine al_op (op_move rfl) rfl (by simp) ?_
          refine al_op (op_extract rfl rfl rfl) rfl (by simp) ?_
          refine al_op (op_extract rfl rfl rfl) rfl (by simp) ?_
          refine al_op (op_assign rfl) rfl (by simp) ?_
          refine al_op (op_assign rfl) rfl (by simp) ?_
          refine al_nil ?_
          refine aw_seq ?_
          refine aw_seq ?_
          refine aw_region ?_
          refine al_op (op_move rfl) rfl (by simp) ?_
          refine al_op (op_move rfl) rfl (by simp) ?_
          refine al_op (op_neq rfl rfl) rfl (by simp) ?_
          refine al_op (op_move rfl) rfl (by simp) ?_
          apply al_or 4 245 249 rfl
          ·intro h22; have gh22 := h22
           try simp only [decide_eq_true_eq, decide_eq_false_iff_not, Bool.not_eq_true', Bool.not_eq_false', beq_iff_eq, bne_iff_ne, beq_eq_false_iff_ne, bne_eq_false_iff_eq, Bool.or_eq_true, Bool.and_eq_true, Bool.or_eq_false_iff, gt_iff_lt, ge_iff_le] at h22
           refine al_take (op_move rfl) rfl rfl rfl rfl (by simp) ?_
           refine al_take (op_move rfl) rfl rfl rfl rfl (by simp) ?_
           refine al_take (op_neq rfl rfl) rfl rfl rfl rfl (by simp) ?_
           first
             | refine al_op (op_pick rfl rfl) rfl (by simp) ?_
             | refine al_op (op_or rfl rfl rfl) rfl (by simp) ?_
           refine al_nil ⟨rfl, rfl, rfl, keep_of ?_⟩
           repeat (first | exact subx_refl | exact subx_known rfl gh22 subx_refl | refine subx_put rfl ?_)
          ·intro h22; have gh22 := h22
           try simp only [decide_eq_true_eq, decide_eq_false_iff_not, Bool.not_eq_true', Bool.not_eq_false', beq_iff_eq, bne_iff_ne, beq_eq_false_iff_ne, bne_eq_false_iff_eq, Bool.or_eq_true, Bool.and_eq_true, Bool.or_eq_false_iff, gt_iff_lt, ge_iff_le] at h22
           refine al_pass rfl rfl rfl rfl (by simp) ?_
           refine al_pass rfl rfl rfl rfl (by simp) ?_
           refine al_pass rfl rfl rfl rfl (by simp) ?_
           first
             | refine al_op (op_pick rfl rfl) rfl (by simp) ?_
             | refine al_op (op_or rfl rfl rfl) rfl (by simp) ?_
           refine al_nil ⟨rfl, rfl, rfl, keep_of ?_⟩
           repeat (first | exact subx_refl | exact subx_known rfl gh22 subx_refl | refine subx_put rfl ?_)
          refine al_nil ?_
          refine aw_cond rfl (fun h23 => ?_) (fun h23 => ?_)
          ·have gh23 := h23
           try simp only [decide_eq_true_eq, decide_eq_false_iff_not, Bool.not_eq_true', Bool.not_eq_false', beq_iff_eq, bne_iff_ne, beq_eq_false_iff_ne, bne_eq_false_iff_eq, Bool.or_eq_true, Bool.and_eq_true, Bool.or_eq_false_iff, gt_iff_lt, ge_iff_le] at h23
           simp at gh23
          ·have gh23 := h23
           try simp only [decide_eq_true_eq, decide_eq_false_iff_not, Bool.not_eq_true', Bool.not_eq_false', beq_iff_eq, bne_iff_ne, beq_eq_false_iff_ne, bne_eq_false_iff_eq, Bool.or_eq_true, Bool.and_eq_true, Bool.or_eq_false_iff, gt_iff_lt, ge_iff_le] at h23
           refine aw_skip ?_
           refine aw_seq ?_
           refine aw_region ?_
           refine al_op (op_move rfl) rfl (by simp) ?_
           refine al_op (op_eql rfl rfl) rfl (by simp) ?_
           refine al_op (op_move rfl) rfl (by simp) ?_
           apply al_and 5 252 257 rfl
           ·intro h24; have gh24 := h24
            try simp only [decide_eq_true_eq, decide_eq_false_iff_not, Bool.not_eq_true', Bool.not_eq_false', beq_iff_eq, bne_iff_ne, beq_eq_false_iff_ne, bne_eq_false_iff_eq, Bool.or_eq_true, Bool.and_eq_true, Bool.or_eq_false_iff, gt_iff_lt, ge_iff_le] at h24
            first
              | refine al_take (op_field_rptr Try.underlying56 rfl info5 (by decide) rfl rfl) rfl rfl rfl rfl (by simp) ?_
              | refine al_take (op_field_ptr Try.underlying56 rfl info5 (by decide) rfl rfl rfl) rfl rfl rfl rfl (by simp) ?_
            first
              | refine al_take (op_load_rptr Try.underlying5 info5 rfl rfl) rfl rfl rfl rfl (by simp) ?_
              | refine al_take (op_load_map Try.underlying5 info5 rfl rfl (by omega) rfl) rfl rfl rfl rfl (by simp) ?_
              | refine al_take (op_load_ptr Try.underlying5 info5 rfl rfl rfl rfl) rfl rfl rfl rfl (by simp) ?_
            first
              | refine al_take (op_rem rfl rfl (by omega) (rem_nn (by omega))) rfl rfl rfl rfl (by simp) ?_
              | refine al_take (op_rem rfl rfl (by omega) rfl) rfl rfl rfl rfl (by simp) ?_
            refine al_take (op_lss rfl rfl) rfl rfl rfl rfl (by simp) ?_
            first
              | refine al_op (op_pick rfl rfl) rfl (by simp) ?_
              | refine al_op (op_and rfl rfl rfl) rfl (by simp) ?_
            refine al_nil ⟨rfl, rfl, rfl, keep_of ?_⟩
            repeat (first | exact subx_refl | exact subx_known rfl gh24 subx_refl | refine subx_put rfl ?_)
           ·intro h24; have gh24 := h24
            try simp only [decide_eq_true_eq, decide_eq_false_iff_not, Bool.not_eq_true', Bool.not_eq_false', beq_iff_eq, bne_iff_ne, beq_eq_false_iff_ne, bne_eq_false_iff_eq, Bool.or_eq_true, Bool.and_eq_true, Bool.or_eq_false_iff, gt_iff_lt, ge_iff_le] at h24
            refine al_pass rfl rfl rfl rfl (by simp) ?_
            refine al_pass rfl rfl rfl rfl (by simp) ?_
            refine al_pass rfl rfl rfl rfl (by simp) ?_
            refine al_pass rfl rfl rfl rfl (by simp) ?_
            first
              | refine al_op (op_pick rfl rfl) rfl (by simp) ?_
              | refine al_op (op_and rfl rfl rfl) rfl (by simp) ?_
            refine al_nil ⟨rfl, rfl, rfl, keep_of ?_⟩
            repeat (first | exact subx_refl | exact subx_known rfl gh24 subx_refl | refine subx_put rfl ?_)
           refine al_nil ?_
           refine aw_cond rfl (fun h25 => ?_) (fun h25 => ?_)
           ·have gh25 := h25
            try simp only [decide_eq_true_eq, decide_eq_false_iff_not, Bool.not_eq_true', Bool.not_eq_false', beq_iff_eq, bne_iff_ne, beq_eq_false_iff_ne, bne_eq_false_iff_eq, Bool.or_eq_true, Bool.and_eq_true, Bool.or_eq_false_iff, gt_iff_lt, ge_iff_le] at h25
            refine aw_region ?_
            refine al_op (op_move rfl) rfl (by simp) ?_
            refine al_op (op_move rfl) rfl (by simp) ?_
            refine al_op (op_buildSlice Try.underlying54 info3 rfl rfl (by decide) rfl (by decide) rfl (by first | rfl | (repeat (first | exact parts_nil | refine parts_cons rfl (by repeat (first | exact all_live_nil | refine all_live_clo rfl ?_ | refine all_live_slice rfl ?_ | refine all_live_map rfl ?_ | refine all_live_ptr rfl ?_)) ?_))) rfl rfl rfl) rfl (by simp) ?_
            first
              | (refine al_opR (op_append_one _ Try.underlying54 Try.underlying54 rfl info3 rfl rfl (by decide) rfl rfl rfl (by first | rfl | simp) rfl rfl (by first | omega | (simp; done) | (simp; omega)) (by show _ * 8 ≤ _; first | omega | (simp; done) | (simp; omega))) rfl (by simp) ?_; rintro _ _ ⟨ver261, rfl, rfl⟩)
              | (refine al_opR (op_append_map Try.underlying54 Try.underlying54 rfl info3 rfl rfl (by decide) rfl rfl rfl (by first | rfl | simp) rfl (by first | exact .list _ | exact .vnil | exact .nil | exact .row _ _ _ _ rfl (by first | rfl | simp)) rfl (by first | omega | (simp; done) | (simp; omega)) (by show _ * 8 ≤ _; first | omega | (simp; done) | (simp; omega))) rfl (by simp) ?_; rintro _ _ ⟨ver261, rfl, rfl⟩)
            refine al_op (op_assign rfl) rfl (by simp) ?_
            refine al_nil ?_
            refine aw_region ?_
            refine al_op (op_add rfl rfl (by first | exact wrap_i64 (by omega) (by omega))) rfl (by simp) ?_
            refine al_op (op_move rfl) rfl (by simp) ?_
            refine al_nil ?_
            refine ⟨⟨q.i + 1, ver261, vg214, vg221, (q.s.xor (pickedV q.made (l.getD q.i default).made (l.getD q.i default).a) (pickedV q.made (l.getD q.i default).made (l.getD q.i default).b)).2, q.made ++ [(q.s.xor (pickedV q.made (l.getD q.i default).made (l.getD q.i default).a) (pickedV q.made (l.getD q.i default).made (l.getD q.i default).b)).1.1]⟩, ?_, ?_, ?_, ?_, ?_⟩
            ·(show l.length - (q.i + 1) < l.length - q.i; omega)
            ·exact ⟨by show q.i + 1 ≤ l.length; omega, MS.xor_good hg _ _, made_snoc hmd (MS.xor_lit hg.ok _ _), by show (q.made ++ [_]).length ≤ 2000 + (q.i + 1); rw [List.length_append, List.length_singleton]; omega⟩
            ·refine sub_cons (get_as rfl ?_) ?_; rotate_left; refine sub_cons (get_as rfl ?_) ?_; rotate_left; exact sub_nil
             all_goals (first | rfl | (simp; done))
            ·repeat (first | exact subx_refl | exact subx_del | refine subx_put rfl ?_)
            ·rfl
           ·have gh25 := h25
            try simp only [decide_eq_true_eq, decide_eq_false_iff_not, Bool.not_eq_true', Bool.not_eq_false', beq_iff_eq, bne_iff_ne, beq_eq_false_iff_ne, bne_eq_false_iff_eq, Bool.or_eq_true, Bool.and_eq_true, Bool.or_eq_false_iff, gt_iff_lt, ge_iff_le] at h25
            refine aw_skip ?_
            refine aw_region ?_
            refine al_op (op_add rfl rfl (by first | exact wrap_i64 (by omega) (by omega))) rfl (by simp) ?_
            refine al_op (op_move rfl) rfl (by simp) ?_
            refine al_nil ?_
            refine ⟨⟨q.i + 1, q.ver, vg214, vg221, (q.s.xor (pickedV q.made (l.getD q.i default).made (l.getD q.i default).a) (pickedV q.made (l.getD q.i default).made (l.getD q.i default).b)).2, q.made⟩, ?_, ?_, ?_, ?_, ?_⟩
            ·(show l.length - (q.i + 1) < l.length - q.i; omega)
            ·exact ⟨by show q.i + 1 ≤ l.length; omega, MS.xor_good hg _ _, hmd, by show q.made.length ≤ 2000 + (q.i + 1); omega⟩
            ·refine sub_cons (get_as rfl ?_) ?_; rotate_left; refine sub_cons (get_as rfl ?_) ?_; rotate_left; exact sub_nil
             all_goals (first | rfl | (simp; done))
            ·repeat (first | exact subx_refl | exact subx_del | refine subx_put rfl ?_)
            ·rfl
         ·have gh21 := h21
          try simp only [decide_eq_true_eq, decide_eq_false_iff_not, Bool.not_eq_true', Bool.not_eq_false', beq_iff_eq, bne_iff_ne, beq_eq_false_iff_ne, bne_eq_false_iff_eq, Bool.or_eq_true, Bool.and_eq_true, Bool.or_eq_false_iff, gt_iff_lt, ge_iff_le] at h21
          refine aw_seq ?_
          refine aw_region ?_
          refine al_op (op_eql rfl rfl) rfl (by simp) ?_
          refine al_op (op_assign rfl) rfl (by simp) ?_
          refine al_nil ?_
          refine aw_cond rfl (fun h26 => ?_) (fun h26 => ?_)
          ·have gh26 := h26
           try simp only [decide_eq_true_eq, decide_eq_false_iff_not, Bool.not_eq_true', Bool.not_eq_false', beq_iff_eq, bne_iff_ne, beq_eq_false_iff_ne, bne_eq_false_iff_eq, Bool.or_eq_true, Bool.and_eq_true, Bool.or_eq_false_iff, gt_iff_lt, ge_iff_le] at h26
           refine aw_seq ?_
           refine aw_region ?_
           refine al_op (op_move rfl) rfl (by simp) ?_
           refine al_op (op_move rfl) rfl (by simp) ?_
           refine al_op (op_move rfl) rfl (by simp) ?_
           refine al_op (op_move rfl) rfl (by simp) ?_
           (refine al_call into37 rfl rfl rfl (ls_m (m_Mux q.s vm q.vg vt vr _ _ _ hg.ok) rfl rfl rfl) (by simp) ?_; rintro _ _ ⟨vg231, rfl, rfl⟩)
           refine al_op (op_move rfl) rfl (by simp) ?_
           refine al_op (op_extract rfl rfl rfl) rfl (by simp) ?_
           refine al_op (op_extract rfl rfl rfl) rfl (by simp) ?_
           refine al_op (op_assign rfl) rfl (by simp) ?_
           refine al_op (op_assign rfl) rfl (by simp) ?_
           refine al_nil ?_
           refine aw_region ?_
           refine al_op (op_move rfl) rfl (by simp) ?_
           refine al_op (op_move rfl) rfl (by simp) ?_
           refine al_op (op_move rfl) rfl (by simp) ?_
           refine al_op (op_move rfl) rfl (by simp) ?_
           (refine al_call into38 rfl rfl rfl (ls_r (r_Mux q.s wm q.wg wr wi _ _ _ hg hA hB hC) rfl rfl rfl) (by simp) ?_; rintro _ _ ⟨vg239, rfl, rfl⟩)
           refine al_op (op_move rfl) rfl (by simp) ?_
           refine al_op (op_extract rfl rfl rfl) rfl (by simp) ?_
           refine al_op (op_extract rfl rfl rfl) rfl (by simp) ?_
           refine al_op (op_assign rfl) rfl (by simp) ?_
           refine al_op (op_assign rfl) rfl (by simp) ?_
           refine al_nil ?_
           refine aw_seq ?_
           refine aw_seq ?_
           refine aw_region ?_
           refine al_op (op_move rfl) rfl (by simp) ?_
           refine al_op (op_move rfl) rfl (by simp) ?_
           refine al_op (op_neq rfl rfl) rfl (by simp) ?_
           refine al_op (op_move rfl) rfl (by simp) ?_
           apply al_or 4 245 249 rfl
           ·intro h27; have gh27 := h27
            try simp only [decide_eq_true_eq, decide_eq_false_iff_not, Bool.not_eq_true', Bool.not_eq_false', beq_iff_eq, bne_iff_ne, beq_eq_false_iff_ne, bne_eq_false_iff_eq, Bool.or_eq_true, Bool.and_eq_true, Bool.or_eq_false_iff, gt_iff_lt, ge_iff_le] at h27
            refine al_take (op_move rfl) rfl rfl rfl rfl (by simp) ?_
            refine al_take (op_move rfl) rfl rfl rfl rfl (by simp) ?_
            refine al_take (op_neq rfl rfl) rfl rfl rfl rfl (by simp) ?_
            first
              | refine al_op (op_pick rfl rfl) rfl (by simp) ?_
              | refine al_op (op_or rfl rfl rfl) rfl (by simp) ?_
            refine al_nil ⟨rfl, rfl, rfl, keep_of ?_⟩
            repeat (first | exact subx_refl | exact subx_known rfl gh27 subx_refl | refine subx_put rfl ?_)
           ·intro h27; have gh27 := h27
            try simp only [decide_eq_true_eq, decide_eq_false_iff_not, Bool.not_eq_true', Bool.not_eq_false', beq_iff_eq, bne_iff_ne, beq_eq_false_iff_ne, bne_eq_false_iff_eq, Bool.or_eq_true, Bool.and_eq_true, Bool.or_eq_false_iff, gt_iff_lt, ge_iff_le] at h27
            refine al_pass rfl rfl rfl rfl (by simp) ?_
            refine al_pass rfl rfl rfl rfl (by simp) ?_
            refine al_pass rfl rfl rfl rfl (by simp) ?_
            first
              | refine al_op (op_pick rfl rfl) rfl (by simp) ?_
              | refine al_op (op_or rfl rfl rfl) rfl (by simp) ?_
            refine al_nil ⟨rfl, rfl, rfl, keep_of ?_⟩
            repeat (first | exact subx_refl | exact subx_known rfl gh27 subx_refl | refine subx_put rfl ?_)
           refine al_nil ?_
           refine aw_cond rfl (fun h28 => ?_) (fun h28 => ?_)
           ·have gh28 := h28
            try simp only [decide_eq_true_eq, decide_eq_false_iff_not, Bool.not_eq_true', Bool.not_eq_false', beq_iff_eq, bne_iff_ne, beq_eq_false_iff_ne, bne_eq_false_iff_eq, Bool.or_eq_true, Bool.and_eq_true, Bool.or_eq_false_iff, gt_iff_lt, ge_iff_le] at h28
            simp at gh28
           ·have gh28 := h28
            try simp only [decide_eq_true_eq, decide_eq_false_iff_not, Bool.not_eq_true', Bool.not_eq_false', beq_iff_eq, bne_iff_ne, beq_eq_false_iff_ne, bne_eq_false_iff_eq, Bool.or_eq_true, Bool.and_eq_true, Bool.or_eq_false_iff, gt_iff_lt, ge_iff_le] at h28
            refine aw_skip ?_
            refine aw_seq ?_
            refine aw_region ?_
            refine al_op (op_move rfl) rfl (by simp) ?_
            refine al_op (op_eql rfl rfl) rfl (by simp) ?_
            refine al_op (op_move rfl) rfl (by simp) ?_
            apply al_and 5 252 257 rfl
            ·intro h29; have gh29 := h29
             try simp only [decide_eq_true_eq, decide_eq_false_iff_not, Bool.not_eq_true', Bool.not_eq_false', beq_iff_eq, bne_iff_ne, beq_eq_false_iff_ne, bne_eq_false_iff_eq, Bool.or_eq_true, Bool.and_eq_true, Bool.or_eq_false_iff, gt_iff_lt, ge_iff_le] at h29
             first
               | refine al_take (op_field_rptr Try.underlying56 rfl info5 (by decide) rfl rfl) rfl rfl rfl rfl (by simp) ?_
               | refine al_take (op_field_ptr Try.underlying56 rfl info5 (by decide) rfl rfl rfl) rfl rfl rfl rfl (by simp) ?_
             first
               | refine al_take (op_load_rptr Try.underlying5 info5 rfl rfl) rfl rfl rfl rfl (by simp) ?_
               | refine al_take (op_load_map Try.underlying5 info5 rfl rfl (by omega) rfl) rfl rfl rfl rfl (by simp) ?_
               | refine al_take (op_load_ptr Try.underlying5 info5 rfl rfl rfl rfl) rfl rfl rfl rfl (by simp) ?_
             first
               | refine al_take (op_rem rfl rfl (by omega) (rem_nn (by omega))) rfl rfl rfl rfl (by simp) ?_
               | refine al_take (op_rem rfl rfl (by omega) rfl) rfl rfl rfl rfl (by simp) ?_
             refine al_take (op_lss rfl rfl) rfl rfl rfl rfl (by simp) ?_
             first
               | refine al_op (op_pick rfl rfl) rfl (by simp) ?_
               | refine al_op (op_and rfl rfl rfl) rfl (by simp) ?_
             refine al_nil ⟨rfl, rfl, rfl, keep_of ?_⟩
             repeat (first | exact subx_refl | exact subx_known rfl gh29 subx_refl | refine subx_put rfl ?_)
            ·intro h29; have gh29 := h29
             try simp only [decide_eq_true_eq, decide_eq_false_iff_not, Bool.not_eq_true', Bool.not_eq_false', beq_iff_eq, bne_iff_ne, beq_eq_false_iff_ne, bne_eq_false_iff_eq, Bool.or_eq_true, Bool.and_eq_true, Bool.or_eq_false_iff, gt_iff_lt, ge_iff_le] at h29
             refine al_pass rfl rfl rfl rfl (by simp) ?_
             refine al_pass rfl rfl rfl rfl (by simp) ?_
             refine al_pass rfl rfl rfl rfl (by simp) ?_
             refine al_pass rfl rfl rfl rfl (by simp) ?_
             first
               | refine al_op (op_pick rfl rfl) rfl (by simp) ?_
               | refine al_op (op_and rfl rfl rfl) rfl (by simp) ?_
             refine al_nil ⟨rfl, rfl, rfl, keep_of ?_⟩
             repeat (first | exact subx_refl | exact subx_known rfl gh29 subx_refl | refine subx_put rfl ?_)
            refine al_nil ?_
            refine aw_cond rfl (fun h30 => ?_) (fun h30 => ?_)
            ·have gh30 := h30
             try simp only [decide_eq_true_eq, decide_eq_false_iff_not, Bool.not_eq_true', Bool.not_eq_false', beq_iff_eq, bne_iff_ne, beq_eq_false_iff_ne, bne_eq_false_iff_eq, Bool.or_eq_true, Bool.and_eq_true, Bool.or_eq_false_iff, gt_iff_lt, ge_iff_le] at h30
             refine aw_region ?_
             refine al_op (op_move rfl) rfl (by simp) ?_
             refine al_op (op_move rfl) rfl (by simp) ?_
             refine al_op (op_buildSlice Try.underlying54 info3 rfl rfl (by decide) rfl (by decide) rfl (by first | rfl | (repeat (first | exact parts_nil | refine parts_cons rfl (by repeat (first | exact all_live_nil | refine all_live_clo rfl ?_ | refine all_live_slice rfl ?_ | refine all_live_map rfl ?_ | refine all_live_ptr rfl ?_)) ?_))) rfl rfl rfl) rfl (by simp) ?_
             first
               | (refine al_opR (op_append_one _ Try.underlying54 Try.underlying54 rfl info3 rfl rfl (by decide) rfl rfl rfl (by first | rfl | simp) rfl rfl (by first | omega | (simp; done) | (simp; omega)) (by show _ * 8 ≤ _; first | omega | (simp; done) | (simp; omega))) rfl (by simp) ?_; rintro _ _ ⟨ver261, rfl, rfl⟩)
               | (refine al_opR (op_append_map Try.underlying54 Try.underlying54 rfl info3 rfl rfl (by decide) rfl rfl rfl (by first | rfl | simp) rfl (by first | exact .list _ | exact .vnil | exact .nil | exact .row _ _ _ _ rfl (by first | rfl | simp)) rfl (by first | omega | (simp; done) | (simp; omega)) (by show _ * 8 ≤ _; first | omega | (simp; done) | (simp; omega))) rfl (by simp) ?_; rintro _ _ ⟨ver261, rfl, rfl⟩)
             refine al_op (op_assign rfl) rfl (by simp) ?_
             refine al_nil ?_
             refine aw_region ?_
             refine al_op (op_add rfl rfl (by first | exact wrap_i64 (by omega) (by omega))) rfl (by simp) ?_
             refine al_op (op_move rfl) rfl (by simp) ?_
             refine al_nil ?_
             refine ⟨⟨q.i + 1, ver261, vg231, vg239, (q.s.mux (pickedV q.made (l.getD q.i default).made (l.getD q.i default).a) (pickedV q.made (l.getD q.i default).made (l.getD q.i default).b) (pickedV q.made (l.getD q.i default).made (l.getD q.i default).c)).2, q.made ++ [(q.s.mux (pickedV q.made (l.getD q.i default).made (l.getD q.i default).a) (pickedV q.made (l.getD q.i default).made (l.getD q.i default).b) (pickedV q.made (l.getD q.i default).made (l.getD q.i default).c)).1.1]⟩, ?_, ?_, ?_, ?_, ?_⟩
             ·(show l.length - (q.i + 1) < l.length - q.i; omega)
             ·exact ⟨by show q.i + 1 ≤ l.length; omega, MS.mux_good hg _ _ _, made_snoc hmd (MS.mux_lit hg.ok _ _ _), by show (q.made ++ [_]).length ≤ 2000 + (q.i + 1); rw [List.length_append, List.length_singleton]; omega⟩
             ·refine sub_cons (get_as rfl ?_) ?_; rotate_left; refine sub_cons (get_as rfl ?_) ?_; rotate_left; exact sub_nil
              all_goals (first | rfl | (simp; done))
             ·repeat (first | exact subx_refl | exact subx_del | refine subx_put rfl ?_)
             ·rfl
            ·have gh30 := h30
             try simp only [decide_eq_true_eq, decide_eq_false_iff_not, Bool.not_eq_true', Bool.not_eq_false', beq_iff_eq, bne_iff_ne, beq_eq_false_iff_ne, bne_eq_false_iff_eq, Bool.or_eq_true, Bool.and_eq_true, Bool.or_eq_false_iff, gt_iff_lt, ge_iff_le] at h30
             refine aw_skip ?_
             refine aw_region ?_
             refine al_op (op_add rfl rfl (by first | exact wrap_i64 (by omega) (by omega))) rfl (by simp) ?_
             refine al_op (op_move rfl) rfl (by simp) ?_
             refine al_nil ?_
             refine ⟨⟨q.i + 1, q.ver, vg231, vg239, (q.s.mux (pickedV q.made (l.getD q.i default).made (l.getD q.i default).a) (pickedV q.made (l.getD q.i default).made (l.getD q.i default).b) (pickedV q.made (l.getD q.i default).made (l.getD q.i default).c)).2, q.made⟩, ?_, ?_, ?_, ?_, ?_⟩
             ·(show l.length - (q.i + 1) < l.length - q.i; omega)
             ·exact ⟨by show q.i + 1 ≤ l.length; omega, MS.mux_good hg _ _ _, hmd, by show q.made.length ≤ 2000 + (q.i + 1); omega⟩
             ·refine sub_cons (get_as rfl ?_) ?_; rotate_left; refine sub_cons (get_as rfl ?_) ?_; rotate_left; exact sub_nil
              all_goals (first | rfl | (simp; done))
             ·repeat (first | exact subx_refl | exact subx_del | refine subx_put rfl ?_)
             ·rfl
          ·have gh26 := h26
           try simp only [decide_eq_true_eq, decide_eq_false_iff_not, Bool.not_eq_true', Bool.not_eq_false', beq_iff_eq, bne_iff_ne, beq_eq_false_iff_ne, bne_eq_false_iff_eq, Bool.or_eq_true, Bool.and_eq_true, Bool.or_eq_false_iff, gt_iff_lt, ge_iff_le] at h26
           refine aw_seq ?_
           refine aw_region ?_
           first
             | refine al_op (op_field_rptr Try.underlying56 rfl info54 (by decide) rfl rfl) rfl (by simp) ?_
             | refine al_op (op_field_ptr Try.underlying56 rfl info54 (by decide) rfl rfl rfl) rfl (by simp) ?_
           first
             | refine al_op (op_load_rptr Try.underlying54 info54 rfl rfl) rfl (by simp) ?_
             | refine al_op (op_load_map Try.underlying54 info54 rfl rfl (by omega) rfl) rfl (by simp) ?_
             | refine al_op (op_load_ptr Try.underlying54 info54 rfl rfl rfl rfl) rfl (by simp) ?_
           refine al_op (op_assign rfl) rfl (by simp) ?_
           refine al_nil ?_
           refine aw_seq ?_
           refine aw_seq ?_
           refine aw_region ?_
           first
             | refine al_op (op_field_rptr Try.underlying56 rfl info4 (by decide) rfl rfl) rfl (by simp) ?_
             | refine al_op (op_field_ptr Try.underlying56 rfl info4 (by decide) rfl rfl rfl) rfl (by simp) ?_
           first
             | refine al_op (op_load_rptr Try.underlying4 info4 rfl rfl) rfl (by simp) ?_
             | refine al_op (op_load_map Try.underlying4 info4 rfl rfl (by omega) rfl) rfl (by simp) ?_
             | refine al_op (op_load_ptr Try.underlying4 info4 rfl rfl rfl rfl) rfl (by simp) ?_
           refine al_nil ?_
           refine aw_cond rfl (fun h31 => ?_) (fun h31 => ?_)
           ·have gh31 := h31
            try simp only [decide_eq_true_eq, decide_eq_false_iff_not, Bool.not_eq_true', Bool.not_eq_false', beq_iff_eq, bne_iff_ne, beq_eq_false_iff_ne, bne_eq_false_iff_eq, Bool.or_eq_true, Bool.and_eq_true, Bool.or_eq_false_iff, gt_iff_lt, ge_iff_le] at h31
            refine aw_seq ?_
            refine aw_region ?_
            refine al_op (op_assign rfl) rfl (by simp) ?_
            refine al_nil ?_
            refine aw_seq ?_
            refine aw_region ?_
            refine al_op (op_move rfl) rfl (by simp) ?_
            first
              | refine al_op (op_len_map Try.underlying22 rfl) rfl (by simp) ?_
              | refine al_op (op_len_slice Try.underlying22 rfl rfl) rfl (by simp) ?_
              | refine al_op (op_len_list Try.underlying22 rfl) rfl (by simp) ?_
              | refine al_op (op_len_v Try.underlying22 rfl) rfl (by simp) ?_
              | refine al_op (op_len_nil Try.underlying22 rfl) rfl (by simp) ?_
            refine al_op (op_move rfl) rfl (by simp) ?_
            refine al_nil ?_
            refine aw_block ?_
            refine aw_own_map encI 23 1 23 rfl rfl (fun ver23 => ?_)
            refine aw_for2T (α := Nat) (β := Nat) [23, 24, 138, 139, 140, 141, 142, 143, 144, 145, 146, 147, 148, 149, 150] [] (fun j ver => names.length - j) (fun j ver => j ≤ names.length) (fun j ver => ([(23, .slice 23 ver 0 (nextM q.made (l.getD q.i default).a j).length), (138, .v (.int .i64 (j)))] : Env)) (fun j ver s => s.put 23 ver (.row 1 ((nextM q.made (l.getD q.i default).a j).map encI))) (0) (ver23) ?_ ?_ ?_ (fun j ver hinv => ?_)
            ·exact Nat.zero_le _
            ·refine sub_cons (get_as rfl ?_) ?_; rotate_left; refine sub_cons (get_as rfl ?_) ?_; rotate_left; exact sub_nil
             all_goals (first | rfl | (simp; done) | (rw [nextM_succ] <;> rfl))
            ·rfl
            have hnl := nextM_length q.made (l.getD q.i default).a j
            refine aw_seq ?_
            refine aw_region ?_
            refine al_op (op_lss rfl rfl) rfl (by simp) ?_
            refine al_nil ?_
            refine aw_seq ?_
            refine aw_cond rfl (fun h32 => ?_) (fun h32 => ?_)
            ·have gh32 := h32
             try simp only [decide_eq_true_eq, decide_eq_false_iff_not, Bool.not_eq_true', Bool.not_eq_false', beq_iff_eq, bne_iff_ne, beq_eq_false_iff_ne, bne_eq_false_iff_eq, Bool.or_eq_true, Bool.and_eq_true, Bool.or_eq_false_iff, gt_iff_lt, ge_iff_le] at h32
             refine aw_skip ?_
             refine aw_seq ?_
             refine aw_block ?_
             refine aw_seq ?_
             refine aw_region ?_
             refine al_op (op_move rfl) rfl (by simp) ?_
             refine al_op (op_assign rfl) rfl (by simp) ?_
             refine al_nil ?_
             refine aw_region ?_
             refine al_op (op_move rfl) rfl (by simp) ?_
             refine al_op (op_move rfl) rfl (by simp) ?_
             first
               | refine al_op (op_field_rptr Try.underlying56 rfl info3 (by decide) rfl rfl) rfl (by simp) ?_
               | refine al_op (op_field_ptr Try.underlying56 rfl info3 (by decide) rfl rfl rfl) rfl (by simp) ?_
             first
               | refine al_op (op_load_rptr Try.underlying3 info3 rfl rfl) rfl (by simp) ?_
               | refine al_op (op_load_map Try.underlying3 info3 rfl rfl (by omega) rfl) rfl (by simp) ?_
               | refine al_op (op_load_ptr Try.underlying3 info3 rfl rfl rfl rfl) rfl (by simp) ?_
             refine al_op (op_move rfl) rfl (by simp) ?_
             refine al_op (op_add rfl rfl rfl) rfl (by simp) ?_
             first
               | refine al_callp into30 rfl rfl rfl ((l_picked _ _ _ (by assumption) (by assumption)) _) (by simp) ?_
               | refine al_callp into30 rfl rfl rfl (acp_lent (lend_cons (by first | exact lend_same | exact .leaf _ _ (.vnil _) | exact .leaf _ _ (.nil _) | exact lend_whole rfl (by first | rfl | (simp; done) | (simp; omega)) (clo_map (fun _ => rfl)) | exact lend_netg (by first | exact .same _ | exact lendL_vnil | exact lendL_whole rfl (by first | rfl | (simp; done) | (simp; omega)) (clo_map (fun _ => rfl))) (by first | exact .same _ | exact lendL_vnil | exact lendL_whole rfl (by first | rfl | (simp; done) | (simp; omega)) (clo_map (fun _ => rfl))) (by first | exact .same _ | exact lendL_vnil | exact lendL_whole rfl (by first | rfl | (simp; done) | (simp; omega)) (clo_map (fun _ => rfl))) (by first | exact .same _ | exact lendL_vnil | exact lendL_whole rfl (by first | rfl | (simp; done) | (simp; omega)) (clo_map (fun _ => rfl)))) (lend_cons (by first | exact lend_same | exact .leaf _ _ (.vnil _) | exact .leaf _ _ (.nil _) | exact lend_whole rfl (by first | rfl | (simp; done) | (simp; omega)) (clo_map (fun _ => rfl)) | exact lend_netg (by first | exact .same _ | exact lendL_vnil | exact lendL_whole rfl (by first | rfl | (simp; done) | (simp; omega)) (clo_map (fun _ => rfl))) (by first | exact .same _ | exact lendL_vnil | exact lendL_whole rfl (by first | rfl | (simp; done) | (simp; omega)) (clo_map (fun _ => rfl))) (by first | exact .same _ | exact lendL_vnil | exact lendL_whole rfl (by first | rfl | (simp; done) | (simp; omega)) (clo_map (fun _ => rfl))) (by first | exact .same _ | exact lendL_vnil | exact lendL_whole rfl (by first | rfl | (simp; done) | (simp; omega)) (clo_map (fun _ => rfl)))) (lend_cons (by first | exact lend_same | exact .leaf _ _ (.vnil _) | exact .leaf _ _ (.nil _) | exact lend_whole rfl (by first | rfl | (simp; done) | (simp; omega)) (clo_map (fun _ => rfl)) | exact lend_netg (by first | exact .same _ | exact lendL_vnil | exact lendL_whole rfl (by first | rfl | (simp; done) | (simp; omega)) (clo_map (fun _ => rfl))) (by first | exact .same _ | exact lendL_vnil | exact lendL_whole rfl (by first | rfl | (simp; done) | (simp; omega)) (clo_map (fun _ => rfl))) (by first | exact .same _ | exact lendL_vnil | exact lendL_whole rfl (by first | rfl | (simp; done) | (simp; omega)) (clo_map (fun _ => rfl))) (by first | exact .same _ | exact lendL_vnil | exact lendL_whole rfl (by first | rfl | (simp; done) | (simp; omega)) (clo_map (fun _ => rfl)))) lend_nil))) (l_picked _ _ _ (by assumption) (by assumption)) rfl) (by simp) ?_
             refine al_op (op_buildSlice Try.underlying54 info3 rfl rfl (by decide) rfl (by decide) rfl (by first | rfl | (repeat (first | exact parts_nil | refine parts_cons rfl (by repeat (first | exact all_live_nil | refine all_live_clo rfl ?_ | refine all_live_slice rfl ?_ | refine all_live_map rfl ?_ | refine all_live_ptr rfl ?_)) ?_))) rfl rfl rfl) rfl (by simp) ?_
             first
               | (refine al_opR (op_append_one _ Try.underlying54 Try.underlying54 rfl info3 rfl rfl (by decide) rfl rfl rfl (by first | rfl | simp) rfl rfl (by first | omega | (simp; done) | (simp; omega)) (by show _ * 8 ≤ _; first | omega | (simp; done) | (simp; omega))) rfl (by simp) ?_; rintro _ _ ⟨ver149, rfl, rfl⟩)
               | (refine al_opR (op_append_map Try.underlying54 Try.underlying54 rfl info3 rfl rfl (by decide) rfl rfl rfl (by first | rfl | simp) rfl (by first | exact .list _ | exact .vnil | exact .nil | exact .row _ _ _ _ rfl (by first | rfl | simp)) rfl (by first | omega | (simp; done) | (simp; omega)) (by show _ * 8 ≤ _; first | omega | (simp; done) | (simp; omega))) rfl (by simp) ?_; rintro _ _ ⟨ver149, rfl, rfl⟩)
             refine al_op (op_assign rfl) rfl (by simp) ?_
             refine al_nil ?_
             refine aw_region ?_
             refine al_op (op_add rfl rfl (by first | exact wrap_i64 (by omega) (by omega))) rfl (by simp) ?_
             refine al_op (op_move rfl) rfl (by simp) ?_
             refine al_nil ?_
             refine ⟨j + 1, ver149, ?_, ?_, ?_, ?_, ?_⟩
             ·omega
             ·omega
             ·refine sub_cons (get_as rfl ?_) ?_; rotate_left; refine sub_cons (get_as rfl ?_) ?_; rotate_left; exact sub_nil
              all_goals (first | rfl | (simp; done) | (rw [nextM_succ] <;> rfl))
             ·repeat (first | exact subx_refl | exact subx_del | refine subx_put rfl ?_)
             ·(rw [nextM_succ] <;> rfl)
            ·have gh32 := h32
             try simp only [decide_eq_true_eq, decide_eq_false_iff_not, Bool.not_eq_true', Bool.not_eq_false', beq_iff_eq, bne_iff_ne, beq_eq_false_iff_ne, bne_eq_false_iff_eq, Bool.or_eq_true, Bool.and_eq_true, Bool.or_eq_false_iff, gt_iff_lt, ge_iff_le] at h32
             refine aw_exit ?_
             obtain rfl : j = names.length := by omega
             refine aw_seq ?_
             try (refine aw_freeze (fun i => !(Nat.beq i 23)) (fsub_cons (t := 23) rfl (.leaf _ _ (frz_whole rfl rfl (by simp) (clo_map (fun _ => rfl)))) fsub_same) ?_)
             refine aw_region ?_
             refine al_op (op_move rfl) rfl (by simp) ?_
             refine al_op (op_move rfl) rfl (by simp) ?_
             first
               | refine al_op (op_field_rptr Try.underlying56 rfl info25 (by decide) rfl rfl) rfl (by simp) ?_
               | refine al_op (op_field_ptr Try.underlying56 rfl info25 (by decide) rfl rfl rfl) rfl (by simp) ?_
             first
               | refine al_op (op_load_rptr Try.underlying25 info25 rfl rfl) rfl (by simp) ?_
               | refine al_op (op_load_map Try.underlying25 info25 rfl rfl (by omega) rfl) rfl (by simp) ?_
               | refine al_op (op_load_ptr Try.underlying25 info25 rfl rfl rfl rfl) rfl (by simp) ?_
             refine al_callp into39 rfl rfl rfl (ls_m_ro (m_Net q.s vm q.vg vt vr _ _ hg (by first | exact hO1.next | exact nextM_le hmd _ _) (by first | omega | (rw [nextM_length]; omega)) hO1.outs (by omega)) rfl rfl rfl) (by simp) ?_
             refine al_op (op_move rfl) rfl (by simp) ?_
             refine al_op (op_extract rfl rfl rfl) rfl (by simp) ?_
             refine al_op (op_extract rfl rfl rfl) rfl (by simp) ?_
             (refine al_opR (op_alloc 25 info27 rfl rfl) rfl (by simp) ?_; rintro _ _ ⟨ver25, rfl, rfl⟩)
             first
               | refine al_op (op_store_ptr info27 rfl rfl rfl rfl rfl rfl (by first | rfl | exact live_one rfl | (repeat (first | exact all_live_nil | refine all_live_clo rfl ?_ | refine all_live_slice rfl ?_ | refine all_live_map rfl ?_ | refine all_live_ptr rfl ?_))) (by decide)) rfl (by simp) ?_
               | refine al_op (op_store_ptr info27 rfl rfl rfl rfl rfl rfl (by first | rfl | exact live_one rfl | (repeat (first | exact all_live_nil | refine all_live_clo rfl ?_ | refine all_live_slice rfl ?_ | refine all_live_map rfl ?_ | refine all_live_ptr rfl ?_))) (Nat.le_of_ble_eq_true rfl)) rfl (by simp) ?_
             refine al_op (op_assign rfl) rfl (by simp) ?_
             refine al_nil ?_
             refine aw_seq ?_
             refine aw_region ?_
             refine al_op (op_move rfl) rfl (by simp) ?_
             refine al_op (op_move rfl) rfl (by simp) ?_
             first
               | refine al_op (op_field_rptr Try.underlying56 rfl info25 (by decide) rfl rfl) rfl (by simp) ?_
               | refine al_op (op_field_ptr Try.underlying56 rfl info25 (by decide) rfl rfl rfl) rfl (by simp) ?_
             first
               | refine al_op (op_load_rptr Try.underlying25 info25 rfl rfl) rfl (by simp) ?_
               | refine al_op (op_load_map Try.underlying25 info25 rfl rfl (by omega) rfl) rfl (by simp) ?_
               | refine al_op (op_load_ptr Try.underlying25 info25 rfl rfl rfl rfl) rfl (by simp) ?_
             refine al_callp into40 rfl rfl rfl (ls_r_ro (r_Net q.s wm q.wg wr wi _ _ hg (by first | exact hO1.next | exact nextM_le hmd _ _) (by first | omega | (rw [nextM_length]; omega)) hO1.outs (by omega)) rfl rfl rfl) (by simp) ?_
             refine al_op (op_move rfl) rfl (by simp) ?_
             refine al_op (op_extract rfl rfl rfl) rfl (by simp) ?_
             refine al_op (op_extract rfl rfl rfl) rfl (by simp) ?_
             (refine al_opR (op_alloc 27 info27 rfl rfl) rfl (by simp) ?_; rintro _ _ ⟨ver27, rfl, rfl⟩)
             first
               | refine al_op (op_store_ptr info27 rfl rfl rfl rfl rfl rfl (by first | rfl | exact live_one rfl | (repeat (first | exact all_live_nil | refine all_live_clo rfl ?_ | refine all_live_slice rfl ?_ | refine all_live_map rfl ?_ | refine all_live_ptr rfl ?_))) (by decide)) rfl (by simp) ?_
               | refine al_op (op_store_ptr info27 rfl rfl rfl rfl rfl rfl (by first | rfl | exact live_one rfl | (repeat (first | exact all_live_nil | refine all_live_clo rfl ?_ | refine all_live_slice rfl ?_ | refine all_live_map rfl ?_ | refine all_live_ptr rfl ?_))) (Nat.le_of_ble_eq_true rfl)) rfl (by simp) ?_
             refine al_op (op_assign rfl) rfl (by simp) ?_
             refine al_nil ?_
             refine aw_seq ?_
             refine aw_region ?_
             first
               | refine al_op (op_load_rptr Try.underlying27 info27 rfl rfl) rfl (by simp) ?_
               | refine al_op (op_load_map Try.underlying27 info27 rfl rfl (by omega) rfl) rfl (by simp) ?_
               | refine al_op (op_load_ptr Try.underlying27 info27 rfl rfl rfl rfl) rfl (by simp) ?_
             first
               | refine al_op (op_load_rptr Try.underlying27 info27 rfl rfl) rfl (by simp) ?_
               | refine al_op (op_load_map Try.underlying27 info27 rfl rfl (by omega) rfl) rfl (by simp) ?_
               | refine al_op (op_load_ptr Try.underlying27 info27 rfl rfl rfl rfl) rfl (by simp) ?_
             refine al_callp into41 rfl rfl rfl (r_Same (q.s.net _ _).1 (q.s.net _ _).1 (MS.net_small hg (by first | exact hO1.next | exact nextM_le hmd _ _) hO1.outs (by omega)) _) (by simp) ?_
             refine al_op (op_not rfl) rfl (by simp) ?_
             refine al_op (op_move rfl) rfl (by simp) ?_
             apply al_or 4 171 175 rfl
             ·intro h33; have gh33 := h33
              try simp only [decide_eq_true_eq, decide_eq_false_iff_not, Bool.not_eq_true', Bool.not_eq_false', beq_iff_eq, bne_iff_ne, beq_eq_false_iff_ne, bne_eq_false_iff_eq, Bool.or_eq_true, Bool.and_eq_true, Bool.or_eq_false_iff, gt_iff_lt, ge_iff_le] at h33
              refine al_take (op_move rfl) rfl rfl rfl rfl (by simp) ?_
              refine al_take (op_move rfl) rfl rfl rfl rfl (by simp) ?_
              refine al_take (op_neq rfl rfl) rfl rfl rfl rfl (by simp) ?_
              first
                | refine al_op (op_pick rfl rfl) rfl (by simp) ?_
                | refine al_op (op_or rfl rfl rfl) rfl (by simp) ?_
              refine al_nil ⟨rfl, rfl, rfl, keep_of ?_⟩
              repeat (first | exact subx_refl | exact subx_known rfl gh33 subx_refl | refine subx_put rfl ?_)
             ·intro h33; have gh33 := h33
              try simp only [decide_eq_true_eq, decide_eq_false_iff_not, Bool.not_eq_true', Bool.not_eq_false', beq_iff_eq, bne_iff_ne, beq_eq_false_iff_ne, bne_eq_false_iff_eq, Bool.or_eq_true, Bool.and_eq_true, Bool.or_eq_false_iff, gt_iff_lt, ge_iff_le] at h33
              refine al_pass rfl rfl rfl rfl (by simp) ?_
              refine al_pass rfl rfl rfl rfl (by simp) ?_
              refine al_pass rfl rfl rfl rfl (by simp) ?_
              first
                | refine al_op (op_pick rfl rfl) rfl (by simp) ?_
                | refine al_op (op_or rfl rfl rfl) rfl (by simp) ?_
              refine al_nil ⟨rfl, rfl, rfl, keep_of ?_⟩
              repeat (first | exact subx_refl | exact subx_known rfl gh33 subx_refl | refine subx_put rfl ?_)
             refine al_nil ?_
             refine aw_cond rfl (fun h34 => ?_) (fun h34 => ?_)
             ·have gh34 := h34
              try simp only [decide_eq_true_eq, decide_eq_false_iff_not, Bool.not_eq_true', Bool.not_eq_false', beq_iff_eq, bne_iff_ne, beq_eq_false_iff_ne, bne_eq_false_iff_eq, Bool.or_eq_true, Bool.and_eq_true, Bool.or_eq_false_iff, gt_iff_lt, ge_iff_le] at h34
              simp [sameN_refl] at gh34
             ·have gh34 := h34
              try simp only [decide_eq_true_eq, decide_eq_false_iff_not, Bool.not_eq_true', Bool.not_eq_false', beq_iff_eq, bne_iff_ne, beq_eq_false_iff_ne, bne_eq_false_iff_eq, Bool.or_eq_true, Bool.and_eq_true, Bool.or_eq_false_iff, gt_iff_lt, ge_iff_le] at h34
              refine aw_skip ?_
              refine aw_seq ?_
              refine aw_seq ?_
              refine aw_region ?_
              refine al_op (op_move rfl) rfl (by simp) ?_
              refine al_op (op_move rfl) rfl (by simp) ?_
              refine al_op (op_neq rfl rfl) rfl (by simp) ?_
              refine al_op (op_move rfl) rfl (by simp) ?_
              apply al_or 4 245 249 rfl
              ·intro h35; have gh35 := h35
               try simp only [decide_eq_true_eq, decide_eq_false_iff_not, Bool.not_eq_true', Bool.not_eq_false', beq_iff_eq, bne_iff_ne, beq_eq_false_iff_ne, bne_eq_false_iff_eq, Bool.or_eq_true, Bool.and_eq_true, Bool.or_eq_false_iff, gt_iff_lt, ge_iff_le] at h35
               refine al_take (op_move rfl) rfl rfl rfl rfl (by simp) ?_
               refine al_take (op_move rfl) rfl rfl rfl rfl (by simp) ?_
               refine al_take (op_neq rfl rfl) rfl rfl rfl rfl (by simp) ?_
               first
                 | refine al_op (op_pick rfl rfl) rfl (by simp) ?_
                 | refine al_op (op_or rfl rfl rfl) rfl (by simp) ?_
               refine al_nil ⟨rfl, rfl, rfl, keep_of ?_⟩
               repeat (first | exact subx_refl | exact subx_known rfl gh35 subx_refl | refine subx_put rfl ?_)
              ·intro h35; have gh35 := h35
               try simp only [decide_eq_true_eq, decide_eq_false_iff_not, Bool.not_eq_true', Bool.not_eq_false', beq_iff_eq, bne_iff_ne, beq_eq_false_iff_ne, bne_eq_false_iff_eq, Bool.or_eq_true, Bool.and_eq_true, Bool.or_eq_false_iff, gt_iff_lt, ge_iff_le] at h35
               refine al_pass rfl rfl rfl rfl (by simp) ?_
               refine al_pass rfl rfl rfl rfl (by simp) ?_
               refine al_pass rfl rfl rfl rfl (by simp) ?_
               first
                 | refine al_op (op_pick rfl rfl) rfl (by simp) ?_
                 | refine al_op (op_or rfl rfl rfl) rfl (by simp) ?_
               refine al_nil ⟨rfl, rfl, rfl, keep_of ?_⟩
               repeat (first | exact subx_refl | exact subx_known rfl gh35 subx_refl | refine subx_put rfl ?_)
              refine al_nil ?_
              refine aw_cond rfl (fun h36 => ?_) (fun h36 => ?_)
              ·have gh36 := h36
               try simp only [decide_eq_true_eq, decide_eq_false_iff_not, Bool.not_eq_true', Bool.not_eq_false', beq_iff_eq, bne_iff_ne, beq_eq_false_iff_ne, bne_eq_false_iff_eq, Bool.or_eq_true, Bool.and_eq_true, Bool.or_eq_false_iff, gt_iff_lt, ge_iff_le] at h36
               simp at gh36
              ·have gh36 := h36
               try simp only [decide_eq_true_eq, decide_eq_false_iff_not, Bool.not_eq_true', Bool.not_eq_false', beq_iff_eq, bne_iff_ne, beq_eq_false_iff_ne, bne_eq_false_iff_eq, Bool.or_eq_true, Bool.and_eq_true, Bool.or_eq_false_iff, gt_iff_lt, ge_iff_le] at h36
               refine aw_skip ?_
               refine aw_seq ?_
               refine aw_region ?_
               refine al_op (op_move rfl) rfl (by simp) ?_
               refine al_op (op_eql rfl rfl) rfl (by simp) ?_
               refine al_op (op_move rfl) rfl (by simp) ?_
               apply al_and 5 252 257 rfl
               ·intro h37; have gh37 := h37
                try simp only [decide_eq_true_eq, decide_eq_false_iff_not, Bool.not_eq_true', Bool.not_eq_false', beq_iff_eq, bne_iff_ne, beq_eq_false_iff_ne, bne_eq_false_iff_eq, Bool.or_eq_true, Bool.and_eq_true, Bool.or_eq_false_iff, gt_iff_lt, ge_iff_le] at h37
                first
                  | refine al_take (op_field_rptr Try.underlying56 rfl info5 (by decide) rfl rfl) rfl rfl rfl rfl (by simp) ?_
                  | refine al_take (op_field_ptr Try.underlying56 rfl info5 (by decide) rfl rfl rfl) rfl rfl rfl rfl (by simp) ?_
                first
                  | refine al_take (op_load_rptr Try.underlying5 info5 rfl rfl) rfl rfl rfl rfl (by simp) ?_
                  | refine al_take (op_load_map Try.underlying5 info5 rfl rfl (by omega) rfl) rfl rfl rfl rfl (by simp) ?_
                  | refine al_take (op_load_ptr Try.underlying5 info5 rfl rfl rfl rfl) rfl rfl rfl rfl (by simp) ?_
                first
                  | refine al_take (op_rem rfl rfl (by omega) (rem_nn (by omega))) rfl rfl rfl rfl (by simp) ?_
                  | refine al_take (op_rem rfl rfl (by omega) rfl) rfl rfl rfl rfl (by simp) ?_
                refine al_take (op_lss rfl rfl) rfl rfl rfl rfl (by simp) ?_
                first
                  | refine al_op (op_pick rfl rfl) rfl (by simp) ?_
                  | refine al_op (op_and rfl rfl rfl) rfl (by simp) ?_
                refine al_nil ⟨rfl, rfl, rfl, keep_of ?_⟩
                repeat (first | exact subx_refl | exact subx_known rfl gh37 subx_refl | refine subx_put rfl ?_)
               ·intro h37; have gh37 := h37
                try simp only [decide_eq_true_eq, decide_eq_false_iff_not, Bool.not_eq_true', Bool.not_eq_false', beq_iff_eq, bne_iff_ne, beq_eq_false_iff_ne, bne_eq_false_iff_eq, Bool.or_eq_true, Bool.and_eq_true, Bool.or_eq_false_iff, gt_iff_lt, ge_iff_le] at h37
                refine al_pass rfl rfl rfl rfl (by simp) ?_
                refine al_pass rfl rfl rfl rfl (by simp) ?_
                refine al_pass rfl rfl rfl rfl (by simp) ?_
                refine al_pass rfl rfl rfl rfl (by simp) ?_
                first
                  | refine al_op (op_pick rfl rfl) rfl (by simp) ?_
                  | refine al_op (op_and rfl rfl rfl) rfl (by simp) ?_
                refine al_nil ⟨rfl, rfl, rfl, keep_of ?_⟩
                repeat (first | exact subx_refl | exact subx_known rfl gh37 subx_refl | refine subx_put rfl ?_)
               refine al_nil ?_
               refine aw_cond rfl (fun h38 => ?_) (fun h38 => ?_)
               ·have gh38 := h38
                try simp only [decide_eq_true_eq, decide_eq_false_iff_not, Bool.not_eq_true', Bool.not_eq_false', beq_iff_eq, bne_iff_ne, beq_eq_false_iff_ne, bne_eq_false_iff_eq, Bool.or_eq_true, Bool.and_eq_true, Bool.or_eq_false_iff, gt_iff_lt, ge_iff_le] at h38
                refine aw_region ?_
                refine al_op (op_move rfl) rfl (by simp) ?_
                refine al_op (op_move rfl) rfl (by simp) ?_
                refine al_op (op_buildSlice Try.underlying54 info3 rfl rfl (by decide) rfl (by decide) rfl (by first | rfl | (repeat (first | exact parts_nil | refine parts_cons rfl (by repeat (first | exact all_live_nil | refine all_live_clo rfl ?_ | refine all_live_slice rfl ?_ | refine all_live_map rfl ?_ | refine all_live_ptr rfl ?_)) ?_))) rfl rfl rfl) rfl (by simp) ?_
                first
                  | (refine al_opR (op_append_one _ Try.underlying54 Try.underlying54 rfl info3 rfl rfl (by decide) rfl rfl rfl (by first | rfl | simp) rfl rfl (by first | omega | (simp; done) | (simp; omega)) (by show _ * 8 ≤ _; first | omega | (simp; done) | (simp; omega))) rfl (by simp) ?_; rintro _ _ ⟨ver261, rfl, rfl⟩)
                  | (refine al_opR (op_append_map Try.underlying54 Try.underlying54 rfl info3 rfl rfl (by decide) rfl rfl rfl (by first | rfl | simp) rfl (by first | exact .list _ | exact .vnil | exact .nil | exact .row _ _ _ _ rfl (by first | rfl | simp)) rfl (by first | omega | (simp; done) | (simp; omega)) (by show _ * 8 ≤ _; first | omega | (simp; done) | (simp; omega))) rfl (by simp) ?_; rintro _ _ ⟨ver261, rfl, rfl⟩)
                refine al_op (op_assign rfl) rfl (by simp) ?_
                refine al_nil ?_
                refine aw_region ?_
                refine al_op (op_add rfl rfl (by first | exact wrap_i64 (by omega) (by omega))) rfl (by simp) ?_
                refine al_op (op_move rfl) rfl (by simp) ?_
                refine al_nil ?_
                refine ⟨⟨q.i + 1, ver261, q.vg, q.wg, q.s, q.made ++ [0]⟩, ?_, ?_, ?_, ?_, ?_⟩
                ·(show l.length - (q.i + 1) < l.length - q.i; omega)
                ·exact ⟨by show q.i + 1 ≤ l.length; omega, hg, made_snoc hmd (⟨by decide, by decide⟩), by show (q.made ++ [_]).length ≤ 2000 + (q.i + 1); rw [List.length_append, List.length_singleton]; omega⟩
                ·refine sub_cons (get_as rfl ?_) ?_; rotate_left; refine sub_cons (get_as rfl ?_) ?_; rotate_left; exact sub_nil
                 all_goals (first | rfl | (simp; done))
                ·repeat (first | exact subx_refl | exact subx_del | refine subx_put rfl ?_)
                ·rfl
               ·have gh38 := h38
                try simp only [decide_eq_true_eq, decide_eq_false_iff_not, Bool.not_eq_true', Bool.not_eq_false', beq_iff_eq, bne_iff_ne, beq_eq_false_iff_ne, bne_eq_false_iff_eq, Bool.or_eq_true, Bool.and_eq_true, Bool.or_eq_false_iff, gt_iff_lt, ge_iff_le] at h38
                refine aw_skip ?_
                refine aw_region ?_
                refine al_op (op_add rfl rfl (by first | exact wrap_i64 (by omega) (by omega))) rfl (by simp) ?_
                refine al_op (op_move rfl) rfl (by simp) ?_
                refine al_nil ?_
                refine ⟨⟨q.i + 1, q.ver, q.vg, q.wg, q.s, q.made⟩, ?_, ?_, ?_, ?_, ?_⟩
                ·(show l.length - (q.i + 1) < l.length - q.i; omega)
                ·exact ⟨by show q.i + 1 ≤ l.length; omega, hg, hmd, by show q.made.length ≤ 2000 + (q.i + 1); omega⟩
                ·refine sub_cons (get_as rfl ?_) ?_; rotate_left; refine sub_cons (get_as rfl ?_) ?_; rotate_left; exact sub_nil
                 all_goals (first | rfl | (simp; done))
                ·repeat (first | exact subx_refl | exact subx_del | refine subx_put rfl ?_)
                ·rfl
           ·have gh31 := h31
            try simp only [decide_eq_true_eq, decide_eq_false_iff_not, Bool.not_eq_true', Bool.not_eq_false', beq_iff_eq, bne_iff_ne, beq_eq_false_iff_ne, bne_eq_false_iff_eq, Bool.or_eq_true, Bool.and_eq_true, Bool.or_eq_false_iff, gt_iff_lt, ge_iff_le] at h31
            refine aw_skip ?_
            refine aw_seq ?_
            try (refine aw_freeze (fun i => !(Nat.beq i 23)) (fsub_cons (t := 23) rfl (.leaf _ _ (frz_whole rfl rfl (by simp) (clo_map (fun _ => rfl)))) fsub_same) ?_)
            refine aw_region ?_
            refine al_op (op_move rfl) rfl (by simp) ?_
            refine al_op (op_move rfl) rfl (by simp) ?_
            first
              | refine al_op (op_field_rptr Try.underlying56 rfl info25 (by decide) rfl rfl) rfl (by simp) ?_
              | refine al_op (op_field_ptr Try.underlying56 rfl info25 (by decide) rfl rfl rfl) rfl (by simp) ?_
            first
              | refine al_op (op_load_rptr Try.underlying25 info25 rfl rfl) rfl (by simp) ?_
              | refine al_op (op_load_map Try.underlying25 info25 rfl rfl (by omega) rfl) rfl (by simp) ?_
              | refine al_op (op_load_ptr Try.underlying25 info25 rfl rfl rfl rfl) rfl (by simp) ?_
            refine al_callp into39 rfl rfl rfl (ls_m_ro (m_Net q.s vm q.vg vt vr _ _ hg (by first | exact hO1.next | exact nextM_le hmd _ _) (by first | omega | (rw [nextM_length]; omega)) hO1.outs (by omega)) rfl rfl rfl) (by simp) ?_
            refine al_op (op_move rfl) rfl (by simp) ?_
            refine al_op (op_extract rfl rfl rfl) rfl (by simp) ?_
            refine al_op (op_extract rfl rfl rfl) rfl (by simp) ?_
            (refine al_opR (op_alloc 25 info27 rfl rfl) rfl (by simp) ?_; rintro _ _ ⟨ver25, rfl, rfl⟩)
            first
              | refine al_op (op_store_ptr info27 rfl rfl rfl rfl rfl rfl (by first | rfl | exact live_one rfl | (repeat (first | exact all_live_nil | refine all_live_clo rfl ?_ | refine all_live_slice rfl ?_ | refine all_live_map rfl ?_ | refine all_live_ptr rfl ?_))) (by decide)) rfl (by simp) ?_
              | refine al_op (op_store_ptr info27 rfl rfl rfl rfl rfl rfl (by first | rfl | exact live_one rfl | (repeat (first | exact all_live_nil | refine all_live_clo rfl ?_ | refine all_live_slice rfl ?_ | refine all_live_map rfl ?_ | refine all_live_ptr rfl ?_))) (Nat.le_of_ble_eq_true rfl)) rfl (by simp) ?_
            refine al_op (op_assign rfl) rfl (by simp) ?_
            refine al_nil ?_
            refine aw_seq ?_
            refine aw_region ?_
            refine al_op (op_move rfl) rfl (by simp) ?_
            refine al_op (op_move rfl) rfl (by simp) ?_
            first
              | refine al_op (op_field_rptr Try.underlying56 rfl info25 (by decide) rfl rfl) rfl (by simp) ?_
              | refine al_op (op_field_ptr Try.underlying56 rfl info25 (by decide) rfl rfl rfl) rfl (by simp) ?_
            first
              | refine al_op (op_load_rptr Try.underlying25 info25 rfl rfl) rfl (by simp) ?_
              | refine al_op (op_load_map Try.underlying25 info25 rfl rfl (by omega) rfl) rfl (by simp) ?_
              | refine al_op (op_load_ptr Try.underlying25 info25 rfl rfl rfl rfl) rfl (by simp) ?_
            refine al_callp into40 rfl rfl rfl (ls_r_ro (r_Net q.s wm q.wg wr wi _ _ hg (by first | exact hO1.next | exact nextM_le hmd _ _) (by first | omega | (rw [nextM_length]; omega)) hO1.outs (by omega)) rfl rfl rfl) (by simp) ?_
            refine al_op (op_move rfl) rfl (by simp) ?_
            refine al_op (op_extract rfl rfl rfl) rfl (by simp) ?_
            refine al_op (op_extract rfl rfl rfl) rfl (by simp) ?_
            (refine al_opR (op_alloc 27 info27 rfl rfl) rfl (by simp) ?_; rintro _ _ ⟨ver27, rfl, rfl⟩)
            first
              | refine al_op (op_store_ptr info27 rfl rfl rfl rfl rfl rfl (by first | rfl | exact live_one rfl | (repeat (first | exact all_live_nil | refine all_live_clo rfl ?_ | refine all_live_slice rfl ?_ | refine all_live_map rfl ?_ | refine all_live_ptr rfl ?_))) (by decide)) rfl (by simp) ?_
              | refine al_op (op_store_ptr info27 rfl rfl rfl rfl rfl rfl (by first | rfl | exact live_one rfl | (repeat (first | exact all_live_nil | refine all_live_clo rfl ?_ | refine all_live_slice rfl ?_ | refine all_live_map rfl ?_ | refine all_live_ptr rfl ?_))) (Nat.le_of_ble_eq_true rfl)) rfl (by simp) ?_
            refine al_op (op_assign rfl) rfl (by simp) ?_
            refine al_nil ?_
            refine aw_seq ?_
            refine aw_region ?_
            first
              | refine al_op (op_load_rptr Try.underlying27 info27 rfl rfl) rfl (by simp) ?_
              | refine al_op (op_load_map Try.underlying27 info27 rfl rfl (by omega) rfl) rfl (by simp) ?_
              | refine al_op (op_load_ptr Try.underlying27 info27 rfl rfl rfl rfl) rfl (by simp) ?_
            first
              | refine al_op (op_load_rptr Try.underlying27 info27 rfl rfl) rfl (by simp) ?_
              | refine al_op (op_load_map Try.underlying27 info27 rfl rfl (by omega) rfl) rfl (by simp) ?_
              | refine al_op (op_load_ptr Try.underlying27 info27 rfl rfl rfl rfl) rfl (by simp) ?_
            refine al_callp into41 rfl rfl rfl (r_Same (q.s.net _ _).1 (q.s.net _ _).1 (MS.net_small hg (by first | exact hO1.next | exact nextM_le hmd _ _) hO1.outs (by omega)) _) (by simp) ?_
            refine al_op (op_not rfl) rfl (by simp) ?_
            refine al_op (op_move rfl) rfl (by simp) ?_
            apply al_or 4 171 175 rfl
            ·intro h39; have gh39 := h39
             try simp only [decide_eq_true_eq, decide_eq_false_iff_not, Bool.not_eq_true', Bool.not_eq_false', beq_iff_eq, bne_iff_ne, beq_eq_false_iff_ne, bne_eq_false_iff_eq, Bool.or_eq_true, Bool.and_eq_true, Bool.or_eq_false_iff, gt_iff_lt, ge_iff_le] at h39
             refine al_take (op_move rfl) rfl rfl rfl rfl (by simp) ?_
             refine al_take (op_move rfl) rfl rfl rfl rfl (by simp) ?_
             refine al_take (op_neq rfl rfl) rfl rfl rfl rfl (by simp) ?_
             first
               | refine al_op (op_pick rfl rfl) rfl (by simp) ?_
               | refine al_op (op_or rfl rfl rfl) rfl (by simp) ?_
             refine al_nil ⟨rfl, rfl, rfl, keep_of ?_⟩
             repeat (first | exact subx_refl | exact subx_known rfl gh39 subx_refl | refine subx_put rfl ?_)
            ·intro h39; have gh39 := h39
             try simp only [decide_eq_true_eq, decide_eq_false_iff_not, Bool.not_eq_true', Bool.not_eq_false', beq_iff_eq, bne_iff_ne, beq_eq_false_iff_ne, bne_eq_false_iff_eq, Bool.or_eq_true, Bool.and_eq_true, Bool.or_eq_false_iff, gt_iff_lt, ge_iff_le] at h39
             refine al_pass rfl rfl rfl rfl (by simp) ?_
             refine al_pass rfl rfl rfl rfl (by simp) ?_
             refine al_pass rfl rfl rfl rfl (by simp) ?_
             first
               | refine al_op (op_pick rfl rfl) rfl (by simp) ?_
               | refine al_op (op_or rfl rfl rfl) rfl (by simp) ?_
             refine al_nil ⟨rfl, rfl, rfl, keep_of ?_⟩
             repeat (first | exact subx_refl | exact subx_known rfl gh39 subx_refl | refine subx_put rfl ?_)
            refine al_nil ?_
            refine aw_cond rfl (fun h40 => ?_) (fun h40 => ?_)
            ·have gh40 := h40
             try simp only [decide_eq_true_eq, decide_eq_false_iff_not, Bool.not_eq_true', Bool.not_eq_false', beq_iff_eq, bne_iff_ne, beq_eq_false_iff_ne, bne_eq_false_iff_eq, Bool.or_eq_true, Bool.and_eq_true, Bool.or_eq_false_iff, gt_iff_lt, ge_iff_le] at h40
             simp [sameN_refl] at gh40
            ·have gh40 := h40
             try simp only [decide_eq_true_eq, decide_eq_false_iff_not, Bool.not_eq_true', Bool.not_eq_false', beq_iff_eq, bne_iff_ne, beq_eq_false_iff_ne, bne_eq_false_iff_eq, Bool.or_eq_true, Bool.and_eq_true, Bool.or_eq_false_iff, gt_iff_lt, ge_iff_le] at h40
             refine aw_skip ?_
             refine aw_seq ?_
             refine aw_seq ?_
             refine aw_region ?_
             refine al_op (op_move rfl) rfl (by simp) ?_
             refine al_op (op_move rfl) rfl (by simp) ?_
             refine al_op (op_neq rfl rfl) rfl (by simp) ?_
             refine al_op (op_move rfl) rfl (by simp) ?_
             apply al_or 4 245 249 rfl
             ·intro h41; have gh41 := h41
              try simp only [decide_eq_true_eq, decide_eq_false_iff_not, Bool.not_eq_true', Bool.not_eq_false', beq_iff_eq, bne_iff_ne, beq_eq_false_iff_ne, bne_eq_false_iff_eq, Bool.or_eq_true, Bool.and_eq_true, Bool.or_eq_false_iff, gt_iff_lt, ge_iff_le] at h41
              refine al_take (op_move rfl) rfl rfl rfl rfl (by simp) ?_
              refine al_take (op_move rfl) rfl rfl rfl rfl (by simp) ?_
              refine al_take (op_neq rfl rfl) rfl rfl rfl rfl (by simp) ?_
              first
                | refine al_op (op_pick rfl rfl) rfl (by simp) ?_
                | refine al_op (op_or rfl rfl rfl) rfl (by simp) ?_
              refine al_nil ⟨rfl, rfl, rfl, keep_of ?_⟩
              repeat (first | exact subx_refl | exact subx_known rfl gh41 subx_refl | refine subx_put rfl ?_)
             ·intro h41; have gh41 := h41
              try simp only [decide_eq_true_eq, decide_eq_false_iff_not, Bool.not_eq_true', Bool.not_eq_false', beq_iff_eq, bne_iff_ne, beq_eq_false_iff_ne, bne_eq_false_iff_eq, Bool.or_eq_true, Bool.and_eq_true, Bool.or_eq_false_iff, gt_iff_lt, ge_iff_le] at h41
              refine al_pass rfl rfl rfl rfl (by simp) ?_
              refine al_pass rfl rfl rfl rfl (by simp) ?_
              refine al_pass rfl rfl rfl rfl (by simp) ?_
              first
                | refine al_op (op_pick rfl rfl) rfl (by simp) ?_
                | refine al_op (op_or rfl rfl rfl) rfl (by simp) ?_
              refine al_nil ⟨rfl, rfl, rfl, keep_of ?_⟩
              repeat (first | exact subx_refl | exact subx_known rfl gh41 subx_refl | refine subx_put rfl ?_)
             refine al_nil ?_
             refine aw_cond rfl (fun h42 => ?_) (fun h42 => ?_)
             ·have gh42 := h42
              try simp only [decide_eq_true_eq, decide_eq_false_iff_not, Bool.not_eq_true', Bool.not_eq_false', beq_iff_eq, bne_iff_ne, beq_eq_false_iff_ne, bne_eq_false_iff_eq, Bool.or_eq_true, Bool.and_eq_true, Bool.or_eq_false_iff, gt_iff_lt, ge_iff_le] at h42
              simp at gh42
             ·have gh42 := h42
              try simp only [decide_eq_true_eq, decide_eq_false_iff_not, Bool.not_eq_true', Bool.not_eq_false', beq_iff_eq, bne_iff_ne, beq_eq_false_iff_ne, bne_eq_false_iff_eq, Bool.or_eq_true, Bool.and_eq_true, Bool.or_eq_false_iff, gt_iff_lt, ge_iff_le] at h42
              refine aw_skip ?_
              refine aw_seq ?_
              refine aw_region ?_
              refine al_op (op_move rfl) rfl (by simp) ?_
              refine al_op (op_eql rfl rfl) rfl (by simp) ?_
              refine al_op (op_move rfl) rfl (by simp) ?_
              apply al_and 5 252 257 rfl
              ·intro h43; have gh43 := h43
               try simp only [decide_eq_true_eq, decide_eq_false_iff_not, Bool.not_eq_true', Bool.not_eq_false', beq_iff_eq, bne_iff_ne, beq_eq_false_iff_ne, bne_eq_false_iff_eq, Bool.or_eq_true, Bool.and_eq_true, Bool.or_eq_false_iff, gt_iff_lt, ge_iff_le] at h43
               first
                 | refine al_take (op_field_rptr Try.underlying56 rfl info5 (by decide) rfl rfl) rfl rfl rfl rfl (by simp) ?_
                 | refine al_take (op_field_ptr Try.underlying56 rfl info5 (by decide) rfl rfl rfl) rfl rfl rfl rfl (by simp) ?_
               first
                 | refine al_take (op_load_rptr Try.underlying5 info5 rfl rfl) rfl rfl rfl rfl (by simp) ?_
                 | refine al_take (op_load_map Try.underlying5 info5 rfl rfl (by omega) rfl) rfl rfl rfl rfl (by simp) ?_
                 | refine al_take (op_load_ptr Try.underlying5 info5 rfl rfl rfl rfl) rfl rfl rfl rfl (by simp) ?_
               first
                 | refine al_take (op_rem rfl rfl (by omega) (rem_nn (by omega))) rfl rfl rfl rfl (by simp) ?_
                 | refine al_take (op_rem rfl rfl (by omega) rfl) rfl rfl rfl rfl (by simp) ?_
               refine al_take (op_lss rfl rfl) rfl rfl rfl rfl (by simp) ?_
               first
                 | refine al_op (op_pick rfl rfl) rfl (by simp) ?_
                 | refine al_op (op_and rfl rfl rfl) rfl (by simp) ?_
               refine al_nil ⟨rfl, rfl, rfl, keep_of ?_⟩
               repeat (first | exact subx_refl | exact subx_known rfl gh43 subx_refl | refine subx_put rfl ?_)
              ·intro h43; have gh43 := h43
               try simp only [decide_eq_true_eq, decide_eq_false_iff_not, Bool.not_eq_true', Bool.not_eq_false', beq_iff_eq, bne_iff_ne, beq_eq_false_iff_ne, bne_eq_false_iff_eq, Bool.or_eq_true, Bool.and_eq_true, Bool.or_eq_false_iff, gt_iff_lt, ge_iff_le] at h43
               refine al_pass rfl rfl rfl rfl (by simp) ?_
               refine al_pass rfl rfl rfl rfl (by simp) ?_
               refine al_pass rfl rfl rfl rfl (by simp) ?_
               refine al_pass rfl rfl rfl rfl (by simp) ?_
               first
                 | refine al_op (op_pick rfl rfl) rfl (by simp) ?_
                 | refine al_op (op_and rfl rfl rfl) rfl (by simp) ?_
               refine al_nil ⟨rfl, rfl, rfl, keep_of ?_⟩
               repeat (first | exact subx_refl | exact subx_known rfl gh43 subx_refl | refine subx_put rfl ?_)
              refine al_nil ?_
              refine aw_cond rfl (fun h44 => ?_) (fun h44 => ?_)
              ·have gh44 := h44
               try simp only [decide_eq_true_eq, decide_eq_false_iff_not, Bool.not_eq_true', Bool.not_eq_false', beq_iff_eq, bne_iff_ne, beq_eq_false_iff_ne, bne_eq_false_iff_eq, Bool.or_eq_true, Bool.and_eq_true, Bool.or_eq_false_iff, gt_iff_lt, ge_iff_le] at h44
               refine aw_region ?_
               refine al_op (op_move rfl) rfl (by simp) ?_
               refine al_op (op_move rfl) rfl (by simp) ?_
               refine al_op (op_buildSlice Try.underlying54 info3 rfl rfl (by decide) rfl (by decide) rfl (by first | rfl | (repeat (first | exact parts_nil | refine parts_cons rfl (by repeat (first | exact all_live_nil | refine all_live_clo rfl ?_ | refine all_live_slice rfl ?_ | refine all_live_map rfl ?_ | refine all_live_ptr rfl ?_)) ?_))) rfl rfl rfl) rfl (by simp) ?_
               first
                 | (refine al_opR (op_append_one _ Try.underlying54 Try.underlying54 rfl info3 rfl rfl (by decide) rfl rfl rfl (by first | rfl | simp) rfl rfl (by first | omega | (simp; done) | (simp; omega)) (by show _ * 8 ≤ _; first | omega | (simp; done) | (simp; omega))) rfl (by simp) ?_; rintro _ _ ⟨ver261, rfl, rfl⟩)
                 | (refine al_opR (op_append_map Try.underlying54 Try.underlying54 rfl info3 rfl rfl (by decide) rfl rfl rfl (by first | rfl | simp) rfl (by first | exact .list _ | exact .vnil | exact .nil | exact .row _ _ _ _ rfl (by first | rfl | simp)) rfl (by first | omega | (simp; done) | (simp; omega)) (by show _ * 8 ≤ _; first | omega | (simp; done) | (simp; omega))) rfl (by simp) ?_; rintro _ _ ⟨ver261, rfl, rfl⟩)
               refine al_op (op_assign rfl) rfl (by simp) ?_
               refine al_nil ?_
               refine aw_region ?_
               refine al_op (op_add rfl rfl (by first | exact wrap_i64 (by omega) (by omega))) rfl (by simp) ?_
               refine al_op (op_move rfl) rfl (by simp) ?_
               refine al_nil ?_
               refine ⟨⟨q.i + 1, ver261, q.vg, q.wg, q.s, q.made ++ [0]⟩, ?_, ?_, ?_, ?_, ?_⟩
               ·(show l.length - (q.i + 1) < l.length - q.i; omega)
               ·exact ⟨by show q.i + 1 ≤ l.length; omega, hg, made_snoc hmd (⟨by decide, by decide⟩), by show (q.made ++ [_]).length ≤ 2000 + (q.i + 1); rw [List.length_append, List.length_singleton]; omega⟩
               ·refine sub_cons (get_as rfl ?_) ?_; rotate_left; refine sub_cons (get_as rfl ?_) ?_; rotate_left; exact sub_nil
                all_goals (first | rfl | (simp; done))
               ·repeat (first | exact subx_refl | exact subx_del | refine subx_put rfl ?_)
               ·rfl
              ·have gh44 := h44
               try simp only [decide_eq_true_eq, decide_eq_false_iff_not, Bool.not_eq_true', Bool.not_eq_false', beq_iff_eq, bne_iff_ne, beq_eq_false_iff_ne, bne_eq_false_iff_eq, Bool.or_eq_true, Bool.and_eq_true, Bool.or_eq_false_iff, gt_iff_lt, ge_iff_le] at h44
               refine aw_skip ?_
               refine aw_region ?_
               refine al_op (op_add rfl rfl (by first | exact wrap_i64 (by omega) (by omega))) rfl (by simp) ?_
               refine al_op (op_move rfl) rfl (by simp) ?_
               refine al_nil ?_
               refine ⟨⟨q.i + 1, q.ver, q.vg, q.wg, q.s, q.made⟩, ?_, ?_, ?_, ?_, ?_⟩
               ·(show l.length - (q.i + 1) < l.length - q.i; omega)
               ·exact ⟨by show q.i + 1 ≤ l.length; omega, hg, hmd, by show q.made.length ≤ 2000 + (q.i + 1); omega⟩
               ·refine sub_cons (get_as rfl ?_) ?_; rotate_left; refine sub_cons (get_as rfl ?_) ?_; rotate_left; exact sub_nil
                all_goals (first | rfl | (simp; done))
               ·repeat (first | exact subx_refl | exact subx_del | refine subx_put rfl ?_)
               ·rfl
     ·have gh8 := h8
      try simp only [decide_eq_true_eq, decide_eq_false_iff_not, Bool.not_eq_true', Bool.not_eq_false', beq_iff_eq, bne_iff_ne, beq_eq_false_iff_ne, bne_eq_false_iff_eq, Bool.or_eq_true, Bool.and_eq_true, Bool.or_eq_false_iff, gt_iff_lt, ge_iff_le] at h8
      refine aw_exit ?_
      refine aw_seq ?_
      refine aw_region ?_
      first
        | refine al_callp into15 rfl rfl rfl ((l_awake ) _) (by simp) ?_
        | refine al_callp into15 rfl rfl rfl (acp_lent lend_nil (l_awake ) rfl) (by simp) ?_
      refine al_op (op_assign rfl) rfl (by simp) ?_
      refine al_nil ?_
      refine aw_freeze (fun _ => false) (fsub_cons (t := 4) rfl (.leaf _ _ (.same _)) fsub_nil) ?_
      refine aw_ret ?_
      refine ⟨_, res_1 rfl rfl, ?_, rfl⟩
      first | rfl | simp
end Go.Proofs.Ytbpamlphacpkeaa
