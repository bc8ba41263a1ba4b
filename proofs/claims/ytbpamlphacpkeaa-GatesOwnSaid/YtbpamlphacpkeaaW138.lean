/- Printed walks (gen.py, gates_ann.py): part 138. -/
import Derived.Test.YtbpamlphacpkeaaW133
import Derived.Test.YtbpamlphacpkeaaW114
import Derived.Test.YtbpamlphacpkeaaEngT
import Derived.Test.YtbpamlphacpkeaaW117
import Derived.Test.YtbpamlphacpkeaaFacts
set_option linter.unusedVariables false
set_option linter.unusedSimpArgs false
set_option maxRecDepth 20000
set_option maxHeartbeats 40000000
namespace Go.Proofs.Ytbpamlphacpkeaa
open Go

def netRows2 (i r g o v5 v4 v6 v7 : Nat) (N : Net) : Store := [(o, v7, .row 2 (N.outs.map encP)), (i, v5, .row 1 (N.ins.map encS)), (r, v4, .row 3 (N.regs.map encR)), (g, v6, .row 2 (N.gates.map encG))]
def netPut2 (σ : Store) (i r g o v5 v4 v6 v7 : Nat) (N : Net) : Store := (((σ.put g v6 (.row 2 (N.gates.map encG))).put r v4 (.row 3 (N.regs.map encR))).put i v5 (.row 1 (N.ins.map encS))).put o v7 (.row 2 (N.outs.map encP))
def LDT (n : Net) (made : List Int) (v4 v5 v6 : Nat) : Store := [(24, v4, .row 4 [[.list 1 (n.ins.map encS), .list 3 (n.regs.map encR), .list 2 (n.gates.map encG), .list 2 (n.outs.map encP)]]), (25, v5, .row 1 [[.list 1 (made.map encI)]]), (26, v6, .row 4 [[.v (.slice none 0 0), .v (.slice none 0 0), .v (.slice none 0 0), .v (.slice none 0 0)]])]
theorem q_laidO (s : MS) (vm vg vt vr : Nat) (n : Net) (hn : n.Small) (hv : n.valid = true) (made : List Int) (hs : s.OK) (hsm : (s.made []).Small) (hreg : s.regs = n.begin.regs) (hins : s.ins = n.ins) (hml : made.length = 1 + n.ins.length + n.regs.length + n.gates.length) (hmr : ∀ x ∈ made, 0 ≤ x ∧ x ≤ 100000) (hok : (laidN n s made).valid = true) : AC Try.prog 82 [.ptr 0 vm 0 0, encN n, .list 1 (made.map encI)] (mk0 s vm vg vt vr) (fun r σ' => ∃ v5 v4 v6 v7, r = .ret (.tuple [netAgg 5 4 6 7 v5 v4 v6 v7 (laidN n s made), .v (.int .i64 (0))]) ∧ σ'.keep (fun i => decide (i ≤ 7)) = mk0 s vm vg vt vr ++ netRows2 5 4 6 7 v5 v4 v6 v7 (laidN n s made)) := by
 obtain ⟨f1, f2, f3, f4, f5, f6, f7⟩ := Net.valid_facts hv
 have hnow : ∀ l : Int, 0 ≤ l → (l / 2).toNat < made.length → nowV made l ≤ 9223372036854775807 := by
   intro l h0 h1
   have := hmr _ (getD_mem h1)
   unfold nowV
   rw [Nat.zero_add, flip_eq]
   split
   · split <;> omega
   · omega
 have hnx : ∀ x ∈ n.regs.map (nextV made), x ≤ 9223372036854775807 := by
   intro x hx
   obtain ⟨r, hr, rfl⟩ := List.mem_map.1 hx
   obtain ⟨k, hk, rfl⟩ := List.getElem_of_mem hr
   have hf := f6 k hk
   rw [List.getD_eq_getElem?_getD, List.getElem?_eq_getElem hk] at hf
   simp only [Option.getD_some] at hf
   exact hnow _ hf.2.1 (by omega)
 have hox : ∀ p ∈ n.outs.map (sharedP made), p.1.size ≤ 140737488355328 ∧ p.2 ≤ 9223372036854775807 := by
   intro x hx
   obtain ⟨r, hr, rfl⟩ := List.mem_map.1 hx
   refine ⟨hn.outs r hr, ?_⟩
   obtain ⟨k, hk, rfl⟩ := List.getElem_of_mem hr
   have hf := f7 k hk
   rw [List.getD_eq_getElem?_getD, List.getElem?_eq_getElem hk] at hf
   simp only [Option.getD_some] at hf
   exact hnow _ hf.1 (by omega)
 have hnet := laid_net hreg hins hok
 have hlq : (n.regs.map (nextV made)).length = s.regs.length := by rw [List.length_map, hreg, n.begin_regs]
 have hnxq := nexts_of_net hlq hnet
 have hvq : (s.nexts (n.regs.map (nextV made)) (n.outs.map (sharedP made))).valid = true := by rw [hnxq]; exact hok
 refine ac_enter 56 Try.func82 rfl rfl (by simp) ?_
 refine aw_seq ?_
 refine aw_region ?_
 (refine al_opR (op_box 24 rfl rfl (by first | rfl | exact live_one rfl | (repeat (first | exact all_live_nil | refine all_live_clo rfl ?_ | refine all_live_slice rfl ?_ | refine all_live_map rfl ?_ | refine all_live_ptr rfl ?_)))) rfl (by simp) ?_; rintro _ _ ⟨ver4, rfl, rfl⟩)
 (refine al_opR (op_box 25 rfl rfl (by first | rfl | exact live_one rfl | (repeat (first | exact all_live_nil | refine all_live_clo rfl ?_ | refine all_live_slice rfl ?_ | refine all_live_map rfl ?_ | refine all_live_ptr rfl ?_)))) rfl (by simp) ?_; rintro _ _ ⟨ver5, rfl, rfl⟩)
 (refine al_opR (op_alloc 26 info27 rfl rfl) rfl (by simp) ?_; rintro _ _ ⟨ver6, rfl, rfl⟩)
 refine al_op (op_assign rfl) rfl (by simp) ?_
 refine al_nil ?_
 refine aw_seq ?_
 refine aw_region ?_
 refine al_op (op_closure rfl rfl) rfl (by simp) ?_
 refine al_op (op_assign rfl) rfl (by simp) ?_
 refine al_nil ?_
 refine aw_seq ?_
 refine aw_region ?_
 refine al_op (op_assign rfl) rfl (by simp) ?_
 refine al_nil ?_
 refine aw_seq ?_
 refine aw_seq ?_
 refine aw_region ?_
 refine al_op (op_field_ptr Try.underlying27 rfl info23 (by decide) rfl rfl rfl) rfl (by simp) ?_
 refine al_op (op_load_ptr Try.underlying23 info23 rfl rfl rfl rfl) rfl (by simp) ?_
 refine al_op (op_len_map Try.underlying23 rfl) rfl (by simp) ?_
 refine al_op (op_move rfl) rfl (by simp) ?_
 refine al_nil ?_
 refine aw_block ?_
 refine aw_own_map encI 9 1 9 rfl rfl (fun ver9 => ?_)
 refine aw_for2T (α := Nat) (β := Nat) [9, 18] [11] (fun i ver => n.regs.length - i) (fun i ver => i ≤ n.regs.length) (fun i ver => ([(9, .slice 9 ver 0 ((n.regs.take i).map (nextV made)).length), (18, .v (.int .i64 (i)))] : Env)) (fun i ver st => st.put 9 ver (.row 1 (((n.regs.take i).map (nextV made)).map encI))) (0) (ver9) ?_ ?_ ?_ (fun i ver hinv => ?_)
 ·exact Nat.zero_le _
 ·refine sub_cons (get_as rfl ?_) ?_; rotate_left; refine sub_cons (get_as rfl ?_) ?_; rotate_left; exact sub_nil
  all_goals (first | rfl | (simp; done) | (simp only [take_succ_getD n.regs i (by omega), List.map_append, List.map_cons, List.map_nil] <;> rfl))
 ·rfl
 refine aw_seq ?_
 refine aw_region ?_
 refine al_op (op_lss rfl rfl) rfl (by simp) ?_
 refine al_nil ?_
 refine aw_seq ?_
 refine aw_cond rfl (fun h1 => ?_) (fun h1 => ?_)
 ·have gh1 := h1
  try simp only [nrm] at h1
  refine aw_skip ?_
  refine aw_seq ?_
  refine aw_block ?_
  refine aw_seq ?_
  refine aw_region ?_
  refine al_op (op_index_map default Try.underlying23 info93 rfl rfl rfl (by first | (with_reducible exact Int.toNat_natCast _) | rfl) (by omega) (by omega)) rfl (by simp) ?_
  refine al_op (op_load_rptr Try.underlying93 info93 rfl rfl) rfl (by simp) ?_
  (refine al_opR (op_alloc 11 info93 rfl rfl) rfl (by simp) ?_; rintro _ _ ⟨ver11, rfl, rfl⟩)
  refine al_op (op_store_ptr info93 rfl rfl rfl rfl rfl rfl (by first | rfl | exact live_one rfl | (repeat (first | exact all_live_nil | refine all_live_clo rfl ?_ | refine all_live_slice rfl ?_ | refine all_live_map rfl ?_ | refine all_live_ptr rfl ?_))) (Nat.le_of_ble_eq_true rfl)) rfl (by simp) ?_
  refine al_nil ?_
  have hf6 := f6 i (by omega)
  refine aw_region ?_
  refine al_op (op_move rfl) rfl (by simp) ?_
  refine al_op (op_move rfl) rfl (by simp) ?_
  refine al_op (op_field_ptr Try.underlying93 rfl info3 (by decide) rfl rfl rfl) rfl (by simp) ?_
  refine al_op (op_load_ptr Try.underlying3 info3 rfl rfl rfl rfl) rfl (by simp) ?_
  refine al_callp into95 rfl rfl rfl (to_at 25 ver5 made _ (by omega) (by omega) (by omega) hmr rfl rfl rfl) (by simp) ?_
  refine al_op (op_buildSlice Try.underlying54 info3 rfl rfl (by decide) rfl (by decide) rfl (by first | rfl | (repeat (first | exact parts_nil | refine parts_cons rfl (by repeat (first | exact all_live_nil | refine all_live_clo rfl ?_ | refine all_live_slice rfl ?_ | refine all_live_map rfl ?_ | refine all_live_ptr rfl ?_)) ?_))) rfl rfl rfl) rfl (by simp) ?_
  (refine al_opR (op_append_one (nextV made (n.regs.getD i default)) Try.underlying54 Try.underlying54 rfl info3 rfl rfl (by decide) rfl rfl rfl (by first | rfl | simp) rfl rfl (by first | omega | (simp; done) | (simp; omega)) (by show _ * 8 ≤ _; first | omega | (simp; done) | (simp; omega))) rfl (by simp) ?_; rintro _ _ ⟨ver28, rfl, rfl⟩)
  refine al_op (op_assign rfl) rfl (by simp) ?_
  refine al_nil ?_
  refine aw_region ?_
  refine al_op (op_add rfl rfl (by first | exact wrap_i64 (by omega) (by omega))) rfl (by simp) ?_
  refine al_op (op_move rfl) rfl (by simp) ?_
  refine al_nil ?_
  refine ⟨i + 1, ver28, ?_, ?_, ?_, ?_, ?_⟩
  ·omega
  ·omega
  ·refine sub_cons (get_as rfl ?_) ?_; rotate_left; refine sub_cons (get_as rfl ?_) ?_; rotate_left; exact sub_nil
   all_goals (first | rfl | (simp; done) | (simp only [take_succ_getD n.regs i (by omega), List.map_append, List.map_cons, List.map_nil] <;> rfl))
  ·repeat (first | exact subx_refl | exact subx_del | refine subx_put rfl ?_)
  ·(simp only [take_succ_getD n.regs i (by omega), List.map_append, List.map_cons, List.map_nil] <;> rfl)
 ·have gh1 := h1
  try simp only [nrm] at h1
  refine aw_exit ?_
  obtain rfl : i = n.regs.length := by omega
  refine aw_seq ?_
  refine aw_region ?_
  refine al_op (op_field_ptr Try.underlying27 rfl info25 (by decide) rfl rfl rfl) rfl (by simp) ?_
  refine al_op (op_load_ptr Try.underlying25 info25 rfl rfl rfl rfl) rfl (by simp) ?_
  (refine al_call into78 rfl rfl rfl (clonep_own 12 n.outs (by omega) rfl rfl rfl) (by simp) ?_; rintro _ _ ⟨ver32, rfl, rfl⟩)
  refine al_op (op_assign rfl) rfl (by simp) ?_
  refine al_nil ?_
  refine aw_seq ?_
  refine aw_seq ?_
  refine aw_region ?_
  refine al_op (op_move rfl) rfl (by simp) ?_
  refine al_op (op_len_slice Try.underlying25 rfl rfl) rfl (by simp) ?_
  refine al_op (op_move rfl) rfl (by simp) ?_
  refine al_nil ?_
  refine aw_block ?_
  refine aw_forT (ι := Nat) [35] [] (fun i => n.outs.length - i) (fun i => i ≤ n.outs.length) (fun i => ([(35, .v (.int .i64 (i)))] : Env)) (fun i st => st.put 12 ver32 (.row 2 ((outsTo made n.outs i).map encP))) (0) ?_ ?_ ?_ (fun i hinv => ?_)
  ·exact Nat.zero_le _
  ·refine sub_cons (get_as rfl ?_) ?_; rotate_left; exact sub_nil
   all_goals (first | rfl | simp)
  ·rfl
  have hol := outsTo_length made n.outs i
  refine aw_seq ?_
  refine aw_region ?_
  refine al_op (op_lss rfl rfl) rfl (by simp) ?_
  refine al_nil ?_
  refine aw_seq ?_
  refine aw_cond rfl (fun h2 => ?_) (fun h2 => ?_)
  ·have gh2 := h2
   try simp only [nrm] at h2
   refine aw_skip ?_
   refine aw_seq ?_
   refine aw_block ?_
   refine aw_seq ?_
   refine aw_region ?_
   refine al_op (op_move rfl) rfl (by simp) ?_
   refine al_op (op_assign rfl) rfl (by simp) ?_
   refine al_nil ?_
   have hoi := outsTo_get made n.outs i (by omega)
   have hq0 : 0 ≤ ((outsTo made n.outs i).getD (0 + (i : Int).toNat) default).2 := by rw [hoi]; exact (f7 i (by omega)).1
   have hq1 : (((outsTo made n.outs i).getD (0 + (i : Int).toNat) default).2 / 2).toNat < made.length := by rw [hoi]; have := f7 i (by omega); omega
   refine aw_region ?_
   refine al_op (op_move rfl) rfl (by simp) ?_
   refine al_op (op_move rfl) rfl (by simp) ?_
   refine al_op (op_move rfl) rfl (by simp) ?_
   refine al_op (op_move rfl) rfl (by simp) ?_
   refine al_op (op_move rfl) rfl (by simp) ?_
   refine al_op (op_index_slice Try.underlying25 info69 rfl rfl rfl rfl (by omega) (by omega)) rfl (by simp) ?_
   refine al_op (op_field_ptr Try.underlying69 rfl info3 (by decide) rfl rfl rfl) rfl (by simp) ?_
   refine al_op (op_load_map Try.underlying3 info3 rfl rfl (by omega) rfl) rfl (by simp) ?_
   refine al_callp into95 rfl rfl rfl (to_at 25 ver5 made _ hq0 hq1 (by omega) hmr rfl rfl rfl) (by simp) ?_
   refine al_op (op_index_slice Try.underlying25 info69 rfl rfl rfl rfl (by omega) (by omega)) rfl (by simp) ?_
   refine al_op (op_field_ptr Try.underlying69 rfl info3 (by decide) rfl rfl rfl) rfl (by simp) ?_
   refine al_op (op_store_map (((outsTo made n.outs i).getD (0 + (i : Int).toNat) default).1, nowV made ((outsTo made n.outs i).getD (0 + (i : Int).toNat) default).2) info3 rfl rfl rfl (by omega) rfl rfl rfl (Nat.le_of_ble_eq_true rfl) rfl) rfl (by simp) ?_
   refine al_nil ?_
   refine aw_region ?_
   refine al_op (op_add rfl rfl (by first | exact wrap_i64 (by omega) (by omega))) rfl (by simp) ?_
   refine al_op (op_move rfl) rfl (by simp) ?_
   refine al_nil ?_
   refine ⟨i + 1, ?_, ?_, ?_, ?_, ?_⟩
   ·omega
   ·omega
   ·refine sub_cons (get_as rfl ?_) ?_; rotate_left; exact sub_nil
    all_goals (first | rfl | simp)
   ·repeat (first | exact subx_refl | exact subx_del | refine subx_put rfl ?_)
   ·(rw [outsTo_step made n.outs i (by omega)] <;> rfl)
  ·have gh2 := h2
   try simp only [nrm] at h2
   refine aw_exit ?_
   obtain rfl : i = n.outs.length := by omega
   refine aw_seq ?_
   refine aw_freeze (fun i => !(Nat.beq i 9 || Nat.beq i 12)) (fsub_cons (t := 9) rfl (.leaf _ _ (frz_whole rfl rfl (by simp) (clo_map (fun _ => rfl)))) (fsub_cons (t := 12) rfl (.leaf _ _ (frz_whole rfl rfl (by simp [outsTo_length]) (clo_map (fun _ => rfl)))) fsub_same)) ?_
   refine aw_as 9 (.list 1 ((n.regs.map (nextV made)).map encI)) rfl (by rw [List.take_length]) ?_
   refine aw_as 12 (.list 2 ((n.outs.map (sharedP made)).map encP)) rfl (by rw [outsTo_all]) ?_
   refine aw_st (σ2 := mk0 s vm vg vt vr ++ LDT n made ver4 ver5 ver6) rfl ?_
   refine aw_region ?_
   refine al_op (op_move rfl) rfl (by simp) ?_
   refine al_op (op_move rfl) rfl (by simp) ?_
   refine al_op (op_move rfl) rfl (by simp) ?_
   (refine al_call into39 rfl rfl rfl (netO_at 0 1 2 3 5 4 6 7 s vm vg vt vr (n.regs.map (nextV made)) (n.outs.map (sharedP made)) hs hsm hnx (by simp; omega) hox (by simp; omega) hlq hvq rfl rfl rfl rfl rfl rfl rfl rfl rfl rfl) (by simp) ?_; rintro _ _ ⟨v5, v4, v6, v7, rfl, rfl⟩)
   refine al_st (σ2 := mk0 s vm vg vt vr ++ LDT n made ver4 ver5 ver6 ++ netRows2 5 4 6 7 v5 v4 v6 v7 (s.nexts (n.regs.map (nextV made)) (n.outs.map (sharedP made)))) rfl ?_
   refine al_op (op_extract rfl rfl rfl) rfl (by simp) ?_
   refine al_op (op_extract rfl rfl rfl) rfl (by simp) ?_
   refine al_op (op_store_ptr info27 rfl rfl rfl rfl rfl rfl (by first | rfl | exact live_one rfl | (repeat (first | exact all_live_nil | refine all_live_clo rfl ?_ | refine all_live_slice rfl ?_ | refine all_live_map rfl ?_ | refine all_live_ptr rfl ?_))) (Nat.le_of_ble_eq_true rfl)) rfl (by simp) ?_
   refine al_op (op_assign rfl) rfl (by simp) ?_
   refine al_nil ?_
   refine aw_ret ?_
   refine ⟨_, res_cell_tmp rfl Try.underlying27 info27 rfl rfl rfl rfl rfl rfl rfl, ?_⟩
   rw [← hnxq]; exact ⟨v5, v4, v6, v7, rfl, rfl⟩
theorem laidO_at {σ : Store} (m g t r i5 i4 i6 i7 : Nat) (s : MS) (vm vg vt vr : Nat) (n : Net) (hn : n.Small) (hv : n.valid = true) (made : List Int) (hs : s.OK) (hsm : (s.made []).Small) (hreg : s.regs = n.begin.regs) (hins : s.ins = n.ins) (hml : made.length = 1 + n.ins.length + n.regs.length + n.gates.length) (hmr : ∀ x ∈ made, 0 ≤ x ∧ x ≤ 100000) (hok : (laidN n s made).valid = true) (ht : tabOK [m, g, t, r, i4, i5, i6, i7] = true) (hb : σ.below 1000 = true)
    (h1 : σ.get m = some (vm, .row 6 [s.cells g t r vg vt vr])) (h2 : σ.get g = some (vg, .row 2 (s.gates.map encG))) (h3 : σ.get t = some (vt, .map (thEnts s.th))) (h4 : σ.get r = some (vr, .row 3 (s.regs.map encR))) (f4 : σ.get i4 = none) (f5 : σ.get i5 = none) (f6 : σ.get i6 = none) (f7 : σ.get i7 = none) :
    AC Try.prog 82 [.ptr m vm 0 0, encN n, .list 1 (made.map encI)] σ (fun x σ' => ∃ v5 v4 v6 v7, x = .ret (.tuple [netAgg i5 i4 i6 i7 v5 v4 v6 v7 (laidN n s made), .v (.int .i64 (0))]) ∧ σ' = setM (netPut2 σ i5 i4 i6 i7 v5 v4 v6 v7 (laidN n s made)) m g t r s vm vg vt vr) := by
  have e0 : (AObj.row 2 (s.gates.map encG)).rn (tab [m, g, t, r, i4, i5, i6, i7]) = .row 2 (s.gates.map encG) := by show AObj.row 2 _ = _; rw [rn_rows (fun _ => rfl)]
  have e00 : (AObj.row 3 (s.regs.map encR)).rn (tab [m, g, t, r, i4, i5, i6, i7]) = .row 3 (s.regs.map encR) := by show AObj.row 3 _ = _; rw [rn_rows (fun _ => rfl)]
  have e000 : (AObj.map (thEnts s.th)).rn (tab [m, g, t, r, i4, i5, i6, i7]) = .map (thEnts s.th) := by show AObj.map _ = _; rw [rn_th]
  have e1 : (AObj.row 1 ((laidN n s made).ins.map encS)).rn (tab [m, g, t, r, i4, i5, i6, i7]) = .row 1 ((laidN n s made).ins.map encS) := by show AObj.row 1 _ = _; rw [rn_rows (fun _ => rfl)]
  have e2 : (AObj.row 2 ((laidN n s made).gates.map encG)).rn (tab [m, g, t, r, i4, i5, i6, i7]) = .row 2 ((laidN n s made).gates.map encG) := by show AObj.row 2 _ = _; rw [rn_rows (fun _ => rfl)]
  have e3 : (AObj.row 2 ((laidN n s made).outs.map encP)).rn (tab [m, g, t, r, i4, i5, i6, i7]) = .row 2 ((laidN n s made).outs.map encP) := by show AObj.row 2 _ = _; rw [rn_rows (fun _ => rfl)]
  have e4 : (AObj.row 3 ((laidN n s made).regs.map encR)).rn (tab [m, g, t, r, i4, i5, i6, i7]) = .row 3 ((laidN n s made).regs.map encR) := by show AObj.row 3 _ = _; rw [rn_rows (fun _ => rfl)]
  have hm : Store.match (tab [m, g, t, r, i4, i5, i6, i7]) σ (mk0 s vm vg vt vr) := ⟨h1, by rw [e0]; exact h2, by rw [e000]; exact h3, by rw [e00]; exact h4, trivial⟩
  have hf : Store.free [m, g, t, r, i4, i5, i6, i7] (mk0 s vm vg vt vr) σ = true := by simp [Store.free, mk0, Store.get, List.range_succ, tab, f4, f5, f6, f7]
  have := ac_at [m, g, t, r, i4, i5, i6, i7] ht (ac_keep (fun i => decide (i ≤ 7)) (q_laidO s vm vg vt vr n hn hv made hs hsm hreg hins hml hmr hok)) hm hf hb (by
    rintro x σ' ⟨σ2, ⟨_, _, _, _, rfl, e⟩, rfl⟩ j h
    rw [e] at h
    simp only [mk0, netRows2, List.cons_append, List.nil_append, Store.get] at h ⊢
    revert h
    cases Nat.beq 0 j <;> cases Nat.beq 1 j <;> cases Nat.beq 2 j <;> cases Nat.beq 3 j <;> simp)
  refine ac_mono this ?_
  rintro x σ' ⟨_, _, ⟨σ2, ⟨v5, v4, v6, v7, rfl, e⟩, rfl⟩, rfl, rfl⟩
  refine ⟨v5, v4, v6, v7, rfl, ?_⟩
  rw [e]
  simp only [Store.putAll, mk0, netRows2, List.cons_append, List.nil_append, e0, e00, e000, e1, e2, e3, e4]
  rfl

theorem q_shareO (n : Net) (hn : n.Small) : AC Try.prog 48 [encN n] ([]) (fun r σ' => ∃ a, r = .ret a ∧ NewT σ' a (.tuple [encN n.share.1, .v (.int .i64 (n.share.2))])) := by
 refine ac_enter 74 Try.func48 rfl rfl (by simp) ?_
 refine aw_seq ?_
 refine aw_region ?_
 (refine al_opR (op_box 1 rfl rfl (by first | rfl | exact live_one rfl | (repeat (first | exact all_live_nil | refine all_live_clo rfl ?_ | refine all_live_slice rfl ?_ | refine all_live_map rfl ?_ | refine all_live_ptr rfl ?_)))) rfl (by simp) ?_; rintro _ _ ⟨ver1, rfl, rfl⟩)
 (refine al_opR (op_alloc 2 info27 rfl rfl) rfl (by simp) ?_; rintro _ _ ⟨ver2, rfl, rfl⟩)
 refine al_op (op_assign rfl) rfl (by simp) ?_
 refine al_nil ?_
 refine aw_seq ?_
 refine aw_seq ?_
 refine aw_region ?_
 refine al_op (op_load_ptr Try.underlying27 info27 rfl rfl rfl rfl) rfl (by simp) ?_
 refine al_callp into27 rfl rfl rfl ((c_valid _ (by assumption)) _) (by simp) ?_
 refine al_op (op_not rfl) rfl (by simp) ?_
 refine al_nil ?_
 refine aw_cond rfl (fun h1 => ?_) (fun h1 => ?_)
 ·have gh1 := h1
  try simp only [nrm] at h1
  refine aw_seq ?_
  refine aw_region ?_
  refine al_op (op_build_struct Try.underlying27 info27 rfl place27 rfl (by first | rfl | (repeat (first | exact parts_nil | refine parts_cons rfl (by repeat (first | exact all_live_nil | refine all_live_clo rfl ?_ | refine all_live_slice rfl ?_ | refine all_live_map rfl ?_ | refine all_live_ptr rfl ?_)) ?_))) rfl) rfl (by simp) ?_
  refine al_op (op_store_ptr info27 rfl rfl rfl rfl rfl rfl (by first | rfl | exact live_one rfl | (repeat (first | exact all_live_nil | refine all_live_clo rfl ?_ | refine all_live_slice rfl ?_ | refine all_live_map rfl ?_ | refine all_live_ptr rfl ?_))) (by decide)) rfl (by simp) ?_
  refine al_op (op_assign rfl) rfl (by simp) ?_
  refine al_nil ?_
  refine aw_ret ?_
  refine ⟨_, res_cell_tmp rfl Try.underlying27 info27 rfl rfl rfl rfl rfl rfl rfl, ?_⟩
  rw [Net.share, if_neg (by simpa using gh1)]; exact ⟨_, rfl, .tuple _ _ (new3_cons (.agg _ _ (new2_cons (.vnil 1) (new2_cons (.vnil 3) (new2_cons (.vnil 2) (new2_cons (.vnil 2) new2_nil))))) (new3_cons (.leaf _ _ (.v _)) new3_nil))⟩
 ·have gh1 := h1
  try simp only [nrm] at h1
  have hv : n.valid = true := by simpa using gh1
  obtain ⟨f1, f2, f3, f4, f5, f6, f7⟩ := Net.valid_facts hv
  obtain ⟨_, hbg⟩ := Net.begin_ok hn hv
  have hbl := n.begin_lits
  refine aw_skip ?_
  refine aw_seq ?_
  refine aw_region ?_
  refine al_op (op_load_ptr Try.underlying27 info27 rfl rfl rfl rfl) rfl (by simp) ?_
  (refine al_call into81 rfl rfl rfl (again_at 21 51 19 52 n hn hv rfl rfl rfl) (by simp) ?_; rintro _ _ ⟨vm, vg, vt, vr, rfl, rfl⟩)
  refine al_op (op_assign rfl) rfl (by simp) ?_
  refine al_nil ?_
  refine aw_seq ?_
  refine aw_region ?_
  refine al_op (op_assign rfl) rfl (by simp) ?_
  refine al_nil ?_
  refine aw_seq ?_
  refine aw_seq ?_
  refine aw_region ?_
  refine al_op (op_assign rfl) rfl (by simp) ?_
  refine al_nil ?_
  refine aw_block ?_
  refine aw_own_map encI 5 1 5 rfl rfl (fun ver5 => ?_)
  refine aw_for2T (α := Nat) (β := Nat) [5, 6] [] (fun i ver => 1 + n.ins.length + n.regs.length - i) (fun i ver => i ≤ 1 + n.ins.length + n.regs.length) (fun i ver => ([(5, .slice 5 ver 0 (evens i).length), (6, .v (.int .i64 (2 * (i : Int))))] : Env)) (fun i ver s => s.put 5 ver (.row 1 ((evens i).map encI))) (0) (ver5) ?_ ?_ ?_ (fun i ver hinv => ?_)
  ·exact Nat.zero_le _
  ·refine sub_cons (get_as rfl ?_) ?_; rotate_left; refine sub_cons (get_as rfl ?_) ?_; rotate_left; exact sub_nil
   all_goals (first | rfl | (simp; done) | (rw [evens_succ] <;> rfl) | (congr 2; omega))
  ·rfl
  have hel := evens_length i
  refine aw_seq ?_
  refine aw_seq ?_
  refine aw_region ?_
  refine al_op (op_move rfl) rfl (by simp) ?_
  refine al_op (op_move rfl) rfl (by simp) ?_
  refine al_callp into72 rfl rfl rfl (mk_ro (m := 21) (g := 51) (t := 19) (r := 52) (m_first n.begin vm vg vt vr hbg.ok) rfl rfl rfl rfl rfl rfl rfl rfl) (by simp) ?_
  refine al_op (op_lss rfl rfl) rfl (by simp) ?_
  refine al_nil ?_
  refine aw_cond rfl (fun h2 => ?_) (fun h2 => ?_)
  ·have gh2 := h2
   try simp only [nrm] at h2
   refine aw_skip ?_
   refine aw_seq ?_
   refine aw_block ?_
   refine aw_region ?_
   refine al_op (op_move rfl) rfl (by simp) ?_
   refine al_op (op_move rfl) rfl (by simp) ?_
   refine al_op (op_buildSlice Try.underlying54 info3 rfl rfl (by decide) rfl (by decide) rfl (by first | rfl | (repeat (first | exact parts_nil | refine parts_cons rfl (by repeat (first | exact all_live_nil | refine all_live_clo rfl ?_ | refine all_live_slice rfl ?_ | refine all_live_map rfl ?_ | refine all_live_ptr rfl ?_)) ?_))) rfl rfl rfl) rfl (by simp) ?_
   (refine al_opR (op_append_one (2 * (i : Int)) Try.underlying54 Try.underlying54 rfl info3 rfl rfl (by decide) rfl rfl rfl (by first | rfl | simp) rfl rfl (by first | omega | (simp; done) | (simp; omega)) (by show _ * 8 ≤ _; first | omega | (simp; done) | (simp; omega))) rfl (by simp) ?_; rintro _ _ ⟨ver26, rfl, rfl⟩)
   refine al_op (op_assign rfl) rfl (by simp) ?_
   refine al_nil ?_
   refine aw_region ?_
   refine al_op (op_move rfl) rfl (by simp) ?_
   refine al_op (op_add rfl rfl (by first | exact wrap_i64 (by omega) (by omega))) rfl (by simp) ?_
   refine al_op (op_assign rfl) rfl (by simp) ?_
   refine al_nil ?_
   refine ⟨i + 1, ver26, ?_, ?_, ?_, ?_, ?_⟩
   ·omega
   ·omega
   ·refine sub_cons (get_as rfl ?_) ?_; rotate_left; refine sub_cons (get_as rfl ?_) ?_; rotate_left; exact sub_nil
    all_goals (first | rfl | (simp; done) | (rw [evens_succ] <;> rfl) | (congr 2; omega))
   ·repeat (first | exact subx_refl | exact subx_del | refine subx_put rfl ?_)
   ·(rw [evens_succ] <;> rfl)
  ·have gh2 := h2
   try simp only [nrm] at h2
   refine aw_exit ?_
   obtain rfl : i = 1 + n.ins.length + n.regs.length := by omega
   refine aw_seq ?_
   refine aw_seq ?_
   refine aw_region ?_
   refine al_op (op_field_ptr Try.underlying27 rfl info24 (by decide) rfl rfl rfl) rfl (by simp) ?_
   refine al_op (op_load_ptr Try.underlying24 info24 rfl rfl rfl rfl) rfl (by simp) ?_
   refine al_op (op_len_map Try.underlying24 rfl) rfl (by simp) ?_
   refine al_op (op_move rfl) rfl (by simp) ?_
   refine al_nil ?_
   refine aw_block ?_
   refine aw_for3T (α := Nat) (β := Nat) (γ := Nat) [3, 5, 30] [8] (fun i ver vg => n.gates.length - i) (fun i ver vg => i ≤ n.gates.length) (fun i ver vg => ([(5, .slice 5 ver 0 (n.shareTo i).2.length), (30, .v (.int .i64 (i)))] : Env)) (fun i ver vg st => SHS n ver1 ver2 (n.shareTo i).1 vm vg vt vr (n.shareTo i).2 ver []) (0) (ver) (vg) ?_ ?_ ?_ (fun i ver vg hinv => ?_)
   ·exact Nat.zero_le _
   ·refine sub_cons (get_as rfl ?_) ?_; rotate_left; refine sub_cons (get_as rfl ?_) ?_; rotate_left; exact sub_nil
    all_goals (first | rfl | (simp; done))
   ·rfl
   have hz := Net.share_inv0 hn hv i hinv
   have hmr := hz.range
   refine aw_seq ?_
   refine aw_region ?_
   refine al_op (op_lss rfl rfl) rfl (by simp) ?_
   refine al_nil ?_
   refine aw_seq ?_
   refine aw_cond rfl (fun h3 => ?_) (fun h3 => ?_)
   ·have gh3 := h3
    try simp only [nrm] at h3
    refine aw_skip ?_
    refine aw_seq ?_
    refine aw_block ?_
    refine aw_seq ?_
    refine aw_region ?_
    refine al_op (op_index_map default Try.underlying24 info86 rfl rfl rfl (by first | (with_reducible exact Int.toNat_natCast _) | rfl) (by omega) (by omega)) rfl (by simp) ?_
    refine al_op (op_load_rptr Try.underlying86 info86 rfl rfl) rfl (by simp) ?_
    (refine al_opR (op_alloc 8 info86 rfl rfl) rfl (by simp) ?_; rintro _ _ ⟨ver8, rfl, rfl⟩)
    refine al_op (op_store_ptr info86 rfl rfl rfl rfl rfl rfl (by first | rfl | exact live_one rfl | (repeat (first | exact all_live_nil | refine all_live_clo rfl ?_ | refine all_live_slice rfl ?_ | refine all_live_map rfl ?_ | refine all_live_ptr rfl ?_))) (Nat.le_of_ble_eq_true rfl)) rfl (by simp) ?_
    refine al_nil ?_
    refine aw_seq ?_
    have hg5 := f5 i (by omega)
    have hzl := hz.len
    have hx1 := hmr _ (getD_mem (v := (n.shareTo i).2) (i := 0 + ((n.gates.getD i default).1 / 2).toNat) (by omega))
    have hx2 := hmr _ (getD_mem (v := (n.shareTo i).2) (i := 0 + ((n.gates.getD i default).2 / 2).toNat) (by omega))
    have hE := ShareInv.and_ok hv (zeros_01 _) (zeros_01 _) (zeros_length _) (zeros_length _) (by omega) hz
    refine aw_any (Checked.mixed Try.checked) ?_
    apply aany_seg (p := 0) (q := 21) (by kernel_rfl) rfl (by decide)
    ·
     apply ql_plain rfl (op_move rfl)
     apply ql_plain rfl (op_move rfl)
     apply ql_plain rfl (op_index_aptr Try.underlying86 info3 rfl rfl rfl rfl (by decide) (by decide))
     apply ql_plain rfl (op_load_ptr Try.underlying3 info3 rfl rfl rfl rfl)
     apply ql_plain rfl (op_quo rfl rfl (by omega) (quo_nn (by omega) (by omega) (by omega)))
     apply ql_plain rfl (op_index_slice Try.underlying54 info3 rfl rfl rfl rfl (by omega) (by omega))
     apply ql_plain rfl (op_load_map Try.underlying3 info3 rfl rfl (by omega) rfl)
     apply ql_plain rfl (op_index_aptr Try.underlying86 info3 rfl rfl rfl rfl (by decide) (by decide))
     apply ql_plain rfl (op_load_ptr Try.underlying3 info3 rfl rfl rfl rfl)
     apply ql_plain rfl (op_bitand rfl rfl (and_one _))
     apply ql_plain rfl (op_bitxor rfl rfl (xor_bit (by omega) (by omega) (by omega)))
     apply ql_plain rfl (op_move rfl)
     apply ql_plain rfl (op_index_aptr Try.underlying86 info3 rfl rfl rfl rfl (by decide) (by decide))
     apply ql_plain rfl (op_load_ptr Try.underlying3 info3 rfl rfl rfl rfl)
     apply ql_plain rfl (op_quo rfl rfl (by omega) (quo_nn (by omega) (by omega) (by omega)))
     apply ql_plain rfl (op_index_slice Try.underlying54 info3 rfl rfl rfl rfl (by omega) (by omega))
     apply ql_plain rfl (op_load_map Try.underlying3 info3 rfl rfl (by omega) rfl)
     apply ql_plain rfl (op_index_aptr Try.underlying86 info3 rfl rfl rfl rfl (by decide) (by decide))
     apply ql_plain rfl (op_load_ptr Try.underlying3 info3 rfl rfl rfl rfl)
     apply ql_plain rfl (op_bitand rfl rfl (and_one _))
     apply ql_plain rfl (op_bitxor rfl rfl (xor_bit (by omega) (by omega) (by omega)))
     exact ql_nil
    ·simp
    (refine aany_call (by kernel_rfl) rfl into31 rfl rfl rfl (sh_m (m_And (n.shareTo i).1 vm vg vt vr _ _ hz.bits.good.ok) rfl rfl rfl) (by simp) ?_; rintro _ _ ⟨vg56, rfl, rfl⟩)
    apply aany_seg (p := 22) (q := 27) (by kernel_rfl) rfl (by decide)
    ·
     apply ql_plain rfl (op_move rfl)
     apply ql_plain rfl (op_extract rfl rfl rfl)
     apply ql_plain rfl (op_extract rfl rfl rfl)
     apply ql_plain rfl (op_assign rfl)
     apply ql_plain rfl (op_assign rfl)
     exact ql_nil
    ·simp
    refine aany_end rfl (by kernel_rfl) ?_
    refine aw_seq ?_
    refine aw_seq ?_
    refine aw_region ?_
    refine al_op (op_move rfl) rfl (by simp) ?_
    refine al_op (op_neq rfl rfl) rfl (by simp) ?_
    refine al_nil ?_
    refine aw_cond rfl (fun h4 => ?_) (fun h4 => ?_)
    ·have gh4 := h4
     try simp only [nrm] at h4
     rw [bne_iff_ne] at gh4; exact (gh4 hE).elim
    ·have gh4 := h4
     try simp only [nrm] at h4
     refine aw_skip ?_
     refine aw_region ?_
     refine al_op (op_move rfl) rfl (by simp) ?_
     refine al_op (op_move rfl) rfl (by simp) ?_
     refine al_op (op_buildSlice Try.underlying54 info3 rfl rfl (by decide) rfl (by decide) rfl (by first | rfl | (repeat (first | exact parts_nil | refine parts_cons rfl (by repeat (first | exact all_live_nil | refine all_live_clo rfl ?_ | refine all_live_slice rfl ?_ | refine all_live_map rfl ?_ | refine all_live_ptr rfl ?_)) ?_))) rfl rfl rfl) rfl (by simp) ?_
     (refine al_opR (op_append_one _ Try.underlying54 Try.underlying54 rfl info3 rfl rfl (by decide) rfl rfl rfl (by first | rfl | simp) rfl rfl (by first | omega | (simp; done) | (simp; omega)) (by show _ * 8 ≤ _; first | omega | (simp; done) | (simp; omega))) rfl (by simp) ?_; rintro _ _ ⟨ver66, rfl, rfl⟩)
     refine al_op (op_assign rfl) rfl (by simp) ?_
     refine al_nil ?_
     refine aw_region ?_
     refine al_op (op_add rfl rfl (by first | exact wrap_i64 (by omega) (by omega))) rfl (by simp) ?_
     refine al_op (op_move rfl) rfl (by simp) ?_
     refine al_nil ?_
     refine ⟨i + 1, ver66, vg56, ?_, ?_, ?_, ?_, ?_⟩
     ·omega
     ·omega
     ·refine sub_cons (get_as rfl ?_) ?_; rotate_left; refine sub_cons (get_as rfl ?_) ?_; rotate_left; exact sub_nil
      all_goals (first | rfl | (simp; done))
     ·repeat (first | exact subx_refl | exact subx_del | refine subx_put rfl ?_)
     ·rfl
   ·have gh3 := h3
    try simp only [nrm] at h3
    refine aw_exit ?_
    obtain rfl : i = n.gates.length := by omega
    refine aw_seq ?_
    refine aw_freeze (fun i => !(Nat.beq i 5)) (fsub_cons (t := 5) rfl (.leaf _ _ (frz_whole rfl rfl (by simp) (clo_map (fun _ => rfl)))) fsub_same) ?_
    refine aw_st (σ2 := ((1, ver1, .row 4 [[.list 1 (n.ins.map encS), .list 3 (n.regs.map encR), .list 2 (n.gates.map encG), .list 2 (n.outs.map encP)]]) :: (2, ver2, .row 4 [[.v (.slice none 0 0), .v (.slice none 0 0), .v (.slice none 0 0), .v (.slice none 0 0)]]) :: (19, vt, .map (thEnts (n.shareTo n.gates.length).1.th)) :: (21, vm, .row 6 [(n.shareTo n.gates.length).1.cells 51 19 52 vg vt vr]) :: (52, vr, .row 3 ((n.shareTo n.gates.length).1.regs.map encR)) :: (51, vg, .row 2 ((n.shareTo n.gates.length).1.gates.map encG)) :: [])) rfl ?_
    refine aw_region ?_
    refine al_op (op_move rfl) rfl (by simp) ?_
    refine al_op (op_load_ptr Try.underlying27 info27 rfl rfl rfl rfl) rfl (by simp) ?_
    refine al_op (op_move rfl) rfl (by simp) ?_
    (refine al_call into82 rfl rfl rfl (laidO_at 21 51 19 52 72 71 73 74 (n.shareTo n.gates.length).1 vm vg vt vr n hn hv (n.shareTo n.gates.length).2 hz.bits.good.ok hz.bits.good.small hz.same.2 hz.same.1 hz.len hmr (hz.laid hv) rfl rfl rfl rfl rfl rfl rfl rfl rfl rfl) (by simp) ?_; rintro _ _ ⟨v5, v4, v6, v7, rfl, rfl⟩)
    refine al_st (σ2 := ((1, ver1, .row 4 [[.list 1 (n.ins.map encS), .list 3 (n.regs.map encR), .list 2 (n.gates.map encG), .list 2 (n.outs.map encP)]]) :: (2, ver2, .row 4 [[.v (.slice none 0 0), .v (.slice none 0 0), .v (.slice none 0 0), .v (.slice none 0 0)]]) :: (19, vt, .map (thEnts (n.shareTo n.gates.length).1.th)) :: (21, vm, .row 6 [(n.shareTo n.gates.length).1.cells 51 19 52 vg vt vr]) :: (52, vr, .row 3 ((n.shareTo n.gates.length).1.regs.map encR)) :: (51, vg, .row 2 ((n.shareTo n.gates.length).1.gates.map encG)) :: netRows 72 71 73 74 v5 v4 v6 v7 (laidN n (n.shareTo n.gates.length).1 (n.shareTo n.gates.length).2))) rfl ?_
    refine al_op (op_extract rfl rfl rfl) rfl (by simp) ?_
    refine al_op (op_extract rfl rfl rfl) rfl (by simp) ?_
    refine al_op (op_store_ptr info27 rfl rfl rfl rfl rfl rfl (by first | rfl | exact live_one rfl | (repeat (first | exact all_live_nil | refine all_live_clo rfl ?_ | refine all_live_slice rfl ?_ | refine all_live_map rfl ?_ | refine all_live_ptr rfl ?_))) (Nat.le_of_ble_eq_true rfl)) rfl (by simp) ?_
    refine al_op (op_assign rfl) rfl (by simp) ?_
    refine al_nil ?_
    refine aw_ret ?_
    refine ⟨_, res_cell_tmp rfl Try.underlying27 info27 rfl rfl rfl rfl rfl rfl rfl, ?_⟩
    rw [Net.share, if_pos hv]; exact ⟨_, rfl, .tuple _ _ (new3_cons (.agg _ _ (new2_cons (new_map rfl rfl (fun _ => rfl)) (new2_cons (new_map rfl rfl (fun _ => rfl)) (new2_cons (new_map rfl rfl (fun _ => rfl)) (new2_cons (new_map rfl rfl (fun _ => rfl)) new2_nil))))) (new3_cons (.leaf _ _ (.v _)) new3_nil))⟩

theorem q_cleanO (n : Net) (hn : n.Small) : AC Try.prog 50 [encN n] ([]) (fun r σ' => ∃ a, r = .ret a ∧ NewT σ' a (.tuple [encN n.clean.1, .v (.int .i64 (n.clean.2))])) := by
 refine ac_enter 126 Try.func50 rfl rfl (by simp) ?_
 refine aw_seq ?_
 refine aw_region ?_
 (refine al_opR (op_box 1 rfl rfl (by first | rfl | exact live_one rfl | (repeat (first | exact all_live_nil | refine all_live_clo rfl ?_ | refine all_live_slice rfl ?_ | refine all_live_map rfl ?_ | refine all_live_ptr rfl ?_)))) rfl (by simp) ?_; rintro _ _ ⟨ver1, rfl, rfl⟩)
 (refine al_opR (op_alloc 2 info27 rfl rfl) rfl (by simp) ?_; rintro _ _ ⟨ver2, rfl, rfl⟩)
 refine al_op (op_assign rfl) rfl (by simp) ?_
 refine al_nil ?_
 refine aw_seq ?_
 refine aw_seq ?_
 refine aw_region ?_
 refine al_op (op_load_ptr Try.underlying27 info27 rfl rfl rfl rfl) rfl (by simp) ?_
 refine al_callp into27 rfl rfl rfl ((c_valid _ (by assumption)) _) (by simp) ?_
 refine al_op (op_not rfl) rfl (by simp) ?_
 refine al_nil ?_
 refine aw_cond rfl (fun h1 => ?_) (fun h1 => ?_)
 ·have gh1 := h1
  try simp only [nrm] at h1
  refine aw_seq ?_
  refine aw_region ?_
  refine al_op (op_build_struct Try.underlying27 info27 rfl place27 rfl (by first | rfl | (repeat (first | exact parts_nil | refine parts_cons rfl (by repeat (first | exact all_live_nil | refine all_live_clo rfl ?_ | refine all_live_slice rfl ?_ | refine all_live_map rfl ?_ | refine all_live_ptr rfl ?_)) ?_))) rfl) rfl (by simp) ?_
  refine al_op (op_store_ptr info27 rfl rfl rfl rfl rfl rfl (by first | rfl | exact live_one rfl | (repeat (first | exact all_live_nil | refine all_live_clo rfl ?_ | refine all_live_slice rfl ?_ | refine all_live_map rfl ?_ | refine all_live_ptr rfl ?_))) (by decide)) rfl (by simp) ?_
  refine al_op (op_assign rfl) rfl (by simp) ?_
  refine al_nil ?_
  refine aw_ret ?_
  refine ⟨_, res_cell_tmp rfl Try.underlying27 info27 rfl rfl rfl rfl rfl rfl rfl, ?_⟩
  rw [Net.clean, if_neg (by simpa using gh1)]; exact ⟨_, rfl, .tuple _ _ (new3_cons (.agg _ _ (new2_cons (.vnil 1) (new2_cons (.vnil 3) (new2_cons (.vnil 2) (new2_cons (.vnil 2) new2_nil))))) (new3_cons (.leaf _ _ (.v _)) new3_nil))⟩
 ·have gh1 := h1
  try simp only [nrm] at h1
  have hv : n.valid = true := by simpa using gh1
  obtain ⟨f1, f2, f3, f4, f5, f6, f7⟩ := Net.valid_facts hv
  obtain ⟨_, hbg⟩ := Net.begin_ok hn hv
  have hbl := n.begin_lits
  have hrl := n.roots_length
  have hrx := Net.roots_ok hv
  have hkl := n.kept_length
  have hF : n.fst = 1 + n.ins.length + n.regs.length := rfl
  have hr1 : n.roots.length ≤ 100000 := by omega
  refine aw_skip ?_
  refine aw_seq ?_
  refine aw_region ?_
  refine al_op (op_assign rfl) rfl (by simp) ?_
  refine al_nil ?_
  refine aw_seq ?_
  refine aw_seq ?_
  refine aw_region ?_
  refine al_op (op_field_ptr Try.underlying27 rfl info23 (by decide) rfl rfl rfl) rfl (by simp) ?_
  refine al_op (op_load_ptr Try.underlying23 info23 rfl rfl rfl rfl) rfl (by simp) ?_
  refine al_op (op_len_map Try.underlying23 rfl) rfl (by simp) ?_
  refine al_op (op_move rfl) rfl (by simp) ?_
  refine al_nil ?_
  refine aw_block ?_
  refine aw_own_map encI 4 1 4 rfl rfl (fun ver4 => ?_)
  refine aw_for2T (α := Nat) (β := Nat) [4, 22] [6] (fun i ver => n.regs.length - i) (fun i ver => i ≤ n.regs.length) (fun i ver => ([(4, .slice 4 ver 0 ((n.regs.take i).map regX).length), (22, .v (.int .i64 (i)))] : Env)) (fun i ver s => s.put 4 ver (.row 1 (((n.regs.take i).map regX).map encI))) (0) (ver4) ?_ ?_ ?_ (fun i ver hinv => ?_)
  ·exact Nat.zero_le _
  ·refine sub_cons (get_as rfl ?_) ?_; rotate_left; refine sub_cons (get_as rfl ?_) ?_; rotate_left; exact sub_nil
   all_goals (first | rfl | (simp; done) | (simp only [take_succ_getD n.regs i (by omega), List.map_append, List.map_cons, List.map_nil] <;> rfl))
  ·rfl
  refine aw_seq ?_
  refine aw_region ?_
  refine al_op (op_lss rfl rfl) rfl (by simp) ?_
  refine al_nil ?_
  refine aw_seq ?_
  refine aw_cond rfl (fun h2 => ?_) (fun h2 => ?_)
  ·have gh2 := h2
   try simp only [nrm] at h2
   refine aw_skip ?_
   refine aw_seq ?_
   refine aw_block ?_
   refine aw_seq ?_
   refine aw_region ?_
   refine al_op (op_index_map default Try.underlying23 info93 rfl rfl rfl (by first | (with_reducible exact Int.toNat_natCast _) | rfl) (by omega) (by omega)) rfl (by simp) ?_
   refine al_op (op_load_rptr Try.underlying93 info93 rfl rfl) rfl (by simp) ?_
   (refine al_opR (op_alloc 6 info93 rfl rfl) rfl (by simp) ?_; rintro _ _ ⟨ver6, rfl, rfl⟩)
   refine al_op (op_store_ptr info93 rfl rfl rfl rfl rfl rfl (by first | rfl | exact live_one rfl | (repeat (first | exact all_live_nil | refine all_live_clo rfl ?_ | refine all_live_slice rfl ?_ | refine all_live_map rfl ?_ | refine all_live_ptr rfl ?_))) (Nat.le_of_ble_eq_true rfl)) rfl (by simp) ?_
   refine al_nil ?_
   refine aw_region ?_
   refine al_op (op_move rfl) rfl (by simp) ?_
   refine al_op (op_field_ptr Try.underlying93 rfl info3 (by decide) rfl rfl rfl) rfl (by simp) ?_
   refine al_op (op_load_ptr Try.underlying3 info3 rfl rfl rfl rfl) rfl (by simp) ?_
   refine al_op (op_buildSlice Try.underlying54 info3 rfl rfl (by decide) rfl (by decide) rfl (by first | rfl | (repeat (first | exact parts_nil | refine parts_cons rfl (by repeat (first | exact all_live_nil | refine all_live_clo rfl ?_ | refine all_live_slice rfl ?_ | refine all_live_map rfl ?_ | refine all_live_ptr rfl ?_)) ?_))) rfl rfl rfl) rfl (by simp) ?_
   (refine al_opR (op_append_one (regX (n.regs.getD i default)) Try.underlying54 Try.underlying54 rfl info3 rfl rfl (by decide) rfl rfl rfl (by first | rfl | simp) rfl rfl (by first | omega | (simp; done) | (simp; omega)) (by show _ * 8 ≤ _; first | omega | (simp; done) | (simp; omega))) rfl (by simp) ?_; rintro _ _ ⟨ver30, rfl, rfl⟩)
   refine al_op (op_assign rfl) rfl (by simp) ?_
   refine al_nil ?_
   refine aw_region ?_
   refine al_op (op_add rfl rfl (by first | exact wrap_i64 (by omega) (by omega))) rfl (by simp) ?_
   refine al_op (op_move rfl) rfl (by simp) ?_
   refine al_nil ?_
   refine ⟨i + 1, ver30, ?_, ?_, ?_, ?_, ?_⟩
   ·omega
   ·omega
   ·refine sub_cons (get_as rfl ?_) ?_; rotate_left; refine sub_cons (get_as rfl ?_) ?_; rotate_left; exact sub_nil
    all_goals (first | rfl | (simp; done) | (simp only [take_succ_getD n.regs i (by omega), List.map_append, List.map_cons, List.map_nil] <;> rfl))
   ·repeat (first | exact subx_refl | exact subx_del | refine subx_put rfl ?_)
   ·(simp only [take_succ_getD n.regs i (by omega), List.map_append, List.map_cons, List.map_nil] <;> rfl)
  ·have gh2 := h2
   try simp only [nrm] at h2
   refine aw_exit ?_
   obtain rfl : i = n.regs.length := by omega
   refine aw_seq ?_
   refine aw_seq ?_
   refine aw_region ?_
   refine al_op (op_field_ptr Try.underlying27 rfl info25 (by decide) rfl rfl rfl) rfl (by simp) ?_
   refine al_op (op_load_ptr Try.underlying25 info25 rfl rfl rfl rfl) rfl (by simp) ?_
   refine al_op (op_len_map Try.underlying25 rfl) rfl (by simp) ?_
   refine al_op (op_move rfl) rfl (by simp) ?_
   refine al_nil ?_
   refine aw_block ?_
   refine aw_for2T (α := Nat) (β := Nat) [4, 35] [8] (fun i ver => n.outs.length - i) (fun i ver => i ≤ n.outs.length) (fun i ver => ([(4, .slice 4 ver 0 ((n.regs.take n.regs.length).map regX ++ (n.outs.take i).map pinX).length), (35, .v (.int .i64 (i)))] : Env)) (fun i ver s => s.put 4 ver (.row 1 (((n.regs.take n.regs.length).map regX ++ (n.outs.take i).map pinX).map encI))) (0) (ver) ?_ ?_ ?_ (fun i ver hinv => ?_)
   ·exact Nat.zero_le _
   ·refine sub_cons (get_as rfl ?_) ?_; rotate_left; refine sub_cons (get_as rfl ?_) ?_; rotate_left; exact sub_nil
    all_goals (first | rfl | (simp; done) | (simp only [take_succ_getD n.outs i (by omega), List.map_append, List.map_cons, List.map_nil, ← List.append_assoc] <;> rfl))
   ·(simp only [List.take_zero, List.map_nil, List.append_nil] <;> rfl)
   refine aw_seq ?_
   refine aw_region ?_
   refine al_op (op_lss rfl rfl) rfl (by simp) ?_
   refine al_nil ?_
   refine aw_seq ?_
   refine aw_cond rfl (fun h3 => ?_) (fun h3 => ?_)
   ·have gh3 := h3
    try simp only [nrm] at h3
    refine aw_skip ?_
    refine aw_seq ?_
    refine aw_block ?_
    refine aw_seq ?_
    refine aw_region ?_
    refine al_op (op_index_map default Try.underlying25 info69 rfl rfl rfl (by first | (with_reducible exact Int.toNat_natCast _) | rfl) (by omega) (by omega)) rfl (by simp) ?_
    refine al_op (op_load_rptr Try.underlying69 info69 rfl rfl) rfl (by simp) ?_
    (refine al_opR (op_alloc 8 info69 rfl rfl) rfl (by simp) ?_; rintro _ _ ⟨ver8, rfl, rfl⟩)
    refine al_op (op_store_ptr info69 rfl rfl rfl rfl rfl rfl (by first | rfl | exact live_one rfl | (repeat (first | exact all_live_nil | refine all_live_clo rfl ?_ | refine all_live_slice rfl ?_ | refine all_live_map rfl ?_ | refine all_live_ptr rfl ?_))) (Nat.le_of_ble_eq_true rfl)) rfl (by simp) ?_
    refine al_nil ?_
    refine aw_region ?_
    refine al_op (op_move rfl) rfl (by simp) ?_
    refine al_op (op_field_ptr Try.underlying69 rfl info3 (by decide) rfl rfl rfl) rfl (by simp) ?_
    refine al_op (op_load_ptr Try.underlying3 info3 rfl rfl rfl rfl) rfl (by simp) ?_
    refine al_op (op_buildSlice Try.underlying54 info3 rfl rfl (by decide) rfl (by decide) rfl (by first | rfl | (repeat (first | exact parts_nil | refine parts_cons rfl (by repeat (first | exact all_live_nil | refine all_live_clo rfl ?_ | refine all_live_slice rfl ?_ | refine all_live_map rfl ?_ | refine all_live_ptr rfl ?_)) ?_))) rfl rfl rfl) rfl (by simp) ?_
    (refine al_opR (op_append_one (pinX (n.outs.getD i default)) Try.underlying54 Try.underlying54 rfl info3 rfl rfl (by decide) rfl rfl rfl (by first | rfl | simp) rfl rfl (by first | omega | (simp; done) | (simp; omega)) (by show _ * 8 ≤ _; first | omega | (simp; done) | (simp; omega))) rfl (by simp) ?_; rintro _ _ ⟨ver43, rfl, rfl⟩)
    refine al_op (op_assign rfl) rfl (by simp) ?_
    refine al_nil ?_
    refine aw_region ?_
    refine al_op (op_add rfl rfl (by first | exact wrap_i64 (by omega) (by omega))) rfl (by simp) ?_
    refine al_op (op_move rfl) rfl (by simp) ?_
    refine al_nil ?_
    refine ⟨i + 1, ver43, ?_, ?_, ?_, ?_, ?_⟩
    ·omega
    ·omega
    ·refine sub_cons (get_as rfl ?_) ?_; rotate_left; refine sub_cons (get_as rfl ?_) ?_; rotate_left; exact sub_nil
     all_goals (first | rfl | (simp; done) | (simp only [take_succ_getD n.outs i (by omega), List.map_append, List.map_cons, List.map_nil, ← List.append_assoc] <;> rfl))
    ·repeat (first | exact subx_refl | exact subx_del | refine subx_put rfl ?_)
    ·(simp only [take_succ_getD n.outs i (by omega), List.map_append, List.map_cons, List.map_nil, ← List.append_assoc] <;> rfl)
   ·have gh3 := h3
    try simp only [nrm] at h3
    refine aw_exit ?_
    obtain rfl : i = n.outs.length := by omega
    refine aw_seq ?_
    refine aw_freeze (fun i => !(Nat.beq i 4)) (fsub_cons (t := 4) rfl (.leaf _ _ (frz_whole rfl rfl (by simp) (clo_map (fun _ => rfl)))) fsub_same) ?_
    refine aw_as 4 (.list 1 (n.roots.map encI)) rfl (by rw [List.take_length, List.take_length]; rfl) ?_
    refine aw_region ?_
    refine al_op (op_load_ptr Try.underlying27 info27 rfl rfl rfl rfl) rfl (by simp) ?_
    refine al_op (op_move rfl) rfl (by simp) ?_
    refine al_callp into79 rfl rfl rfl ((c_used _ (by assumption) (by assumption) _ (by assumption) (by assumption)) _) (by simp) ?_
    refine al_op (op_assign rfl) rfl (by simp) ?_
    refine al_nil ?_
    refine aw_seq ?_
    refine aw_as 9 (.list 1 (n.kept.map encT)) rfl rfl ?_
    refine aw_region ?_
    refine al_op (op_load_ptr Try.underlying27 info27 rfl rfl rfl rfl) rfl (by simp) ?_
    (refine al_call into81 rfl rfl rfl (again_at 21 51 19 52 n hn hv rfl rfl rfl) (by simp) ?_; rintro _ _ ⟨vm, vg, vt, vr, rfl, rfl⟩)
    refine al_op (op_assign rfl) rfl (by simp) ?_
    refine al_nil ?_
    refine aw_seq ?_
    refine aw_region ?_
    refine al_op (op_move rfl) rfl (by simp) ?_
    refine al_op (op_len_map Try.underlying64 rfl) rfl (by simp) ?_
    (refine al_opR (op_makeN (f := encI) 152 (0 : Int) Try.underlying54 info3 rfl rfl (by decide) rfl rfl rfl rfl (by omega) (by show (8 : Int) * _ ≤ _; omega) (by omega)) rfl (by simp) ?_; rintro _ _ ⟨ver52, rfl, rfl⟩)
    refine al_op (op_assign rfl) rfl (by simp) ?_
    refine al_nil ?_
    refine aw_seq ?_
    refine aw_region ?_
    refine al_op (op_move rfl) rfl (by simp) ?_
    refine al_callp into72 rfl rfl rfl (mk_ro (m := 21) (g := 51) (t := 19) (r := 52) (m_first n.begin vm vg vt vr hbg.ok) rfl rfl rfl rfl rfl rfl rfl rfl) (by simp) ?_
    refine al_op (op_quo rfl rfl (by omega) (quo_nn (by omega) (by omega) (by omega))) rfl (by simp) ?_
    refine al_op (op_assign rfl) rfl (by simp) ?_
    refine al_nil ?_
    refine aw_seq ?_
    refine aw_seq ?_
    refine aw_as 12 (.v (.int .i64 (n.fst : Int))) rfl (by rw [show n.begin.lits / 2 = (n.fst : Int) by omega]) ?_
    refine aw_region ?_
    refine al_op (op_move rfl) rfl (by simp) ?_
    refine al_op (op_len_map Try.underlying64 rfl) rfl (by simp) ?_
    refine al_op (op_move rfl) rfl (by simp) ?_
    refine al_nil ?_
    refine aw_block ?_
    refine aw_for2T (α := Nat) (β := Nat) [11, 58] [14] (fun i vg => n.kept.length - i) (fun i vg => i ≤ n.kept.length) (fun i vg => ([(11, .slice 152 ver52 0 (n.cleanAt i).2.length), (58, .v (.int .i64 (i)))] : Env)) (fun i vg st => CLS n ver1 ver2 (n.cleanAt i).1 vm vg vt vr (n.cleanAt i).2 ver52 []) (0) (vg) ?_ ?_ ?_ (fun i vg hinv => ?_)
    ·exact Nat.zero_le _
    ·refine sub_cons (get_as rfl ?_) ?_; rotate_left; refine sub_cons (get_as rfl ?_) ?_; rotate_left; exact sub_nil
     all_goals (first | rfl | (simp; done) | (rw [n.cleanAt_zero] <;> rfl) | (rw [(Net.cleanAt_ok hn hv (i := i) (by omega)).2.2.2, (Net.cleanAt_ok hn hv (i := i + 1) (by omega)).2.2.2]))
    ·(rw [n.cleanAt_zero] <;> rfl)
    obtain ⟨hc1, hc2, hc3, hc4⟩ := Net.cleanAt_ok hn hv (i := i) hinv
    refine aw_seq ?_
    refine aw_region ?_
    refine al_op (op_lss rfl rfl) rfl (by simp) ?_
    refine al_nil ?_
    refine aw_seq ?_
    refine aw_cond rfl (fun h4 => ?_) (fun h4 => ?_)
    ·have gh4 := h4
     try simp only [nrm] at h4
     refine aw_skip ?_
     refine aw_seq ?_
     refine aw_block ?_
     refine aw_seq ?_
     refine aw_region ?_
     refine al_op (op_move rfl) rfl (by simp) ?_
     refine al_op (op_assign rfl) rfl (by simp) ?_
     refine al_nil ?_
     refine aw_block ?_
     refine aw_seq ?_
     refine aw_region ?_
     refine al_op (op_move rfl) rfl (by simp) ?_
     refine al_op (op_move rfl) rfl (by simp) ?_
     refine al_op (op_lss rfl rfl) rfl (by simp) ?_
     refine al_op (op_assign rfl) rfl (by simp) ?_
     refine al_nil ?_
     refine aw_cond rfl (fun h5 => ?_) (fun h5 => ?_)
     ·have gh5 := h5
      try simp only [nrm] at h5
      refine aw_region ?_
      refine al_op (op_move rfl) rfl (by simp) ?_
      refine al_op (op_move rfl) rfl (by simp) ?_
      refine al_op (op_move rfl) rfl (by simp) ?_
      refine al_op (op_mul rfl rfl (by first | exact wrap_i64 (by omega) (by omega))) rfl (by simp) ?_
      refine al_op (op_index_slice Try.underlying54 info3 rfl rfl rfl rfl (by omega) (by omega)) rfl (by simp) ?_
      refine al_op (op_store_map (2 * (i : Int)) info3 rfl rfl rfl (by omega) rfl rfl rfl (Nat.le_of_ble_eq_true rfl) rfl) rfl (by simp) ?_
      refine al_nil ?_
      refine aw_region ?_
      refine al_op (op_add rfl rfl (by first | exact wrap_i64 (by omega) (by omega))) rfl (by simp) ?_
      refine al_op (op_move rfl) rfl (by simp) ?_
      refine al_nil ?_
      refine ⟨i + 1, vg, ?_, ?_, ?_, ?_, ?_⟩
      ·omega
      ·omega
      ·refine sub_cons (get_as rfl ?_) ?_; rotate_left; refine sub_cons (get_as rfl ?_) ?_; rotate_left; exact sub_nil
       all_goals (first | rfl | (simp; done) | (rw [n.cleanAt_zero] <;> rfl) | (rw [(Net.cleanAt_ok hn hv (i := i) (by omega)).2.2.2, (Net.cleanAt_ok hn hv (i := i + 1) (by omega)).2.2.2]))
      ·repeat (first | exact subx_refl | exact subx_del | refine subx_put rfl ?_)
      ·first | (rw [Net.cleanAt_low (by omega)] <;> rfl) | (rw [Net.cleanAt_yes (by omega) (by assumption)] <;> rfl) | (rw [Net.cleanAt_no (by omega) (by assumption)] <;> rfl)
     ·have gh5 := h5
      try simp only [nrm] at h5
      refine aw_seq ?_
      refine aw_region ?_
      refine al_op (op_move rfl) rfl (by simp) ?_
      refine al_op (op_move rfl) rfl (by simp) ?_
      refine al_op (op_index_map default Try.underlying64 info4 rfl rfl rfl (by first | (with_reducible exact Int.toNat_natCast _) | rfl) (by omega) (by omega)) rfl (by simp) ?_
      refine al_op (op_load_rptr Try.underlying4 info4 rfl rfl) rfl (by simp) ?_
      refine al_op (op_assign rfl) rfl (by simp) ?_
      refine al_nil ?_
      refine aw_cond rfl (fun h6 => ?_) (fun h6 => ?_)
      ·have gh6 := h6
       try simp only [nrm] at h6
       refine aw_seq ?_
       have hg5 := f5 ((i : Int) - (n.fst : Int)).toNat (by omega)
       refine aw_region ?_
       refine al_op (op_field_ptr Try.underlying27 rfl info24 (by decide) rfl rfl rfl) rfl (by simp) ?_
       refine al_op (op_load_ptr Try.underlying24 info24 rfl rfl rfl rfl) rfl (by simp) ?_
       refine al_op (op_move rfl) rfl (by simp) ?_
       refine al_op (op_move rfl) rfl (by simp) ?_
       refine al_op (op_sub rfl rfl (by first | exact wrap_i64 (by omega) (by omega))) rfl (by simp) ?_
       refine al_op (op_index_map default Try.underlying24 info86 rfl rfl rfl (by first | (with_reducible exact Int.toNat_natCast _) | rfl) (by omega) (by omega)) rfl (by simp) ?_
       refine al_op (op_load_rptr Try.underlying86 info86 rfl rfl) rfl (by simp) ?_
       (refine al_opR (op_alloc 14 info86 rfl rfl) rfl (by simp) ?_; rintro _ _ ⟨ver14, rfl, rfl⟩)
       refine al_op (op_store_ptr info86 rfl rfl rfl rfl rfl rfl (by first | rfl | exact live_one rfl | (repeat (first | exact all_live_nil | refine all_live_clo rfl ?_ | refine all_live_slice rfl ?_ | refine all_live_map rfl ?_ | refine all_live_ptr rfl ?_))) (Nat.le_of_ble_eq_true rfl)) rfl (by simp) ?_
       refine al_nil ?_
       refine aw_seq ?_
       have hls := hc1.lits
       have hgl := hc1.gates
       have hcs := set_range (j := 0 + (i : Int).toNat) (x := (n.cleanAt i).1.lits) hc3 (by omega)
       have hcl : ((n.cleanAt i).2.set (0 + (i : Int).toNat) (n.cleanAt i).1.lits).length = n.kept.length := by rw [List.length_set]; exact hc4
       have hx1 := hcs _ (getD_mem (v := ((n.cleanAt i).2.set (0 + (i : Int).toNat) (n.cleanAt i).1.lits)) (i := 0 + ((n.gates.getD ((i : Int) - (n.fst : Int)).toNat default).1 / 2).toNat) (by omega))
       have hx2 := hcs _ (getD_mem (v := ((n.cleanAt i).2.set (0 + (i : Int).toNat) (n.cleanAt i).1.lits)) (i := 0 + ((n.gates.getD ((i : Int) - (n.fst : Int)).toNat default).2 / 2).toNat) (by omega))
       refine aw_region ?_
       refine al_op (op_move rfl) rfl (by simp) ?_
       refine al_op (op_move rfl) rfl (by simp) ?_
       refine al_op (op_move rfl) rfl (by simp) ?_
       refine al_callp into72 rfl rfl rfl (mk_ro (m := 21) (g := 51) (t := 19) (r := 52) (m_first (n.cleanAt i).1 vm vg vt vr hc1) rfl rfl rfl rfl rfl rfl rfl rfl) (by simp) ?_
       refine al_op (op_index_slice Try.underlying54 info3 rfl rfl rfl rfl (by omega) (by omega)) rfl (by simp) ?_
       refine al_op (op_store_map (n.cleanAt i).1.lits info3 rfl rfl rfl (by omega) rfl rfl rfl (Nat.le_of_ble_eq_true rfl) rfl) rfl (by simp) ?_
       refine al_nil ?_
       refine aw_plan [0, 1, 2, 3, 4, 5, 6, 7, 8, 9, 10, 11, 12, 13, 14, 15, 16, 17, 18, 19, 20, 21, 22, 23, 24, 25, 26, 27, 28, 29, 30, 31, 32] (Checked.mixed Try.checked) (by kernel_rfl) ?_
       refine afl_float rfl rfl (opk_of (op_move rfl)) (by simp) ?_
       refine afl_float rfl rfl (opk_of (op_move rfl)) (by simp) ?_
       refine afl_float rfl rfl (opk_of (op_nilCheck_ptr rfl rfl)) (by simp) ?_
       refine afl_float rfl rfl (opk_of (op_field_ptr Try.underlying73 rfl info27 (by decide) rfl rfl rfl)) (by simp) ?_
       refine afl_float rfl rfl (opk_of (op_field_ptr Try.underlying27 rfl info24 (by decide) rfl rfl rfl)) (by simp) ?_
       refine afl_float rfl rfl (opk_of (op_load_ptr Try.underlying24 info24 rfl rfl rfl rfl)) (by simp) ?_
       refine afl_float rfl rfl (opk_of (op_move rfl)) (by simp) ?_
       refine afl_float rfl rfl (opk_of (op_index_aptr Try.underlying86 info3 rfl rfl rfl rfl (by decide) (by decide))) (by simp) ?_
       refine afl_float rfl rfl (opk_of (op_load_ptr Try.underlying3 info3 rfl rfl rfl rfl)) (by simp) ?_
       refine afl_float rfl rfl (opk_of (op_quo rfl rfl (by omega) (quo_nn (by omega) (by omega) (by omega)))) (by simp) ?_
       refine afl_float rfl rfl (opk_of (op_index_slice Try.underlying54 info3 rfl rfl rfl rfl (by omega) (by omega))) (by simp) ?_
       refine afl_float rfl rfl (opk_of (op_load_map Try.underlying3 info3 rfl rfl (by omega) rfl)) (by simp) ?_
       refine afl_float rfl rfl (opk_of (op_index_aptr Try.underlying86 info3 rfl rfl rfl rfl (by decide) (by decide))) (by simp) ?_
       refine afl_float rfl rfl (opk_of (op_load_ptr Try.underlying3 info3 rfl rfl rfl rfl)) (by simp) ?_
       refine afl_float rfl rfl (opk_of (op_bitand rfl rfl (and_one _))) (by simp) ?_
       refine afl_float rfl rfl (opk_of (op_bitxor rfl rfl (xor_bit (by omega) (by omega) (by omega)))) (by simp) ?_
       refine afl_float rfl rfl (opk_of (op_move rfl)) (by simp) ?_
       refine afl_float rfl rfl (opk_of (op_index_aptr Try.underlying86 info3 rfl rfl rfl rfl (by decide) (by decide))) (by simp) ?_
       refine afl_float rfl rfl (opk_of (op_load_ptr Try.underlying3 info3 rfl rfl rfl rfl)) (by simp) ?_
       refine afl_float rfl rfl (opk_of (op_quo rfl rfl (by omega) (quo_nn (by omega) (by omega) (by omega)))) (by simp) ?_
       refine afl_float rfl rfl (opk_of (op_index_slice Try.underlying54 info3 rfl rfl rfl rfl (by omega) (by omega))) (by simp) ?_
       refine afl_float rfl rfl (opk_of (op_load_map Try.underlying3 info3 rfl rfl (by omega) rfl)) (by simp) ?_
       refine afl_float rfl rfl (opk_of (op_index_aptr Try.underlying86 info3 rfl rfl rfl rfl (by decide) (by decide))) (by simp) ?_
       refine afl_float rfl rfl (opk_of (op_load_ptr Try.underlying3 info3 rfl rfl rfl rfl)) (by simp) ?_
       refine afl_float rfl rfl (opk_of (op_bitand rfl rfl (and_one _))) (by simp) ?_
       refine afl_float rfl rfl (opk_of (op_bitxor rfl rfl (xor_bit (by omega) (by omega) (by omega)))) (by simp) ?_
       refine afl_float rfl rfl (opk_of (op_build_array Try.underlying86 info86 rfl info3 rfl (by first | rfl | (repeat (first | exact parts_nil | refine parts_cons rfl (by repeat (first | exact all_live_nil | refine all_live_clo rfl ?_ | refine all_live_slice rfl ?_ | refine all_live_map rfl ?_ | refine all_live_ptr rfl ?_)) ?_))) rfl)) (by simp) ?_
       refine afl_float rfl rfl (opk_of (op_buildSlice Try.underlying24 info86 rfl rfl (by decide) rfl (by decide) rfl (by first | rfl | (repeat (first | exact parts_nil | refine parts_cons rfl (by repeat (first | exact all_live_nil | refine all_live_clo rfl ?_ | refine all_live_slice rfl ?_ | refine all_live_map rfl ?_ | refine all_live_ptr rfl ?_)) ?_))) rfl rfl rfl)) (by simp) ?_
       (refine afl_effR rfl rfl (by kernel_rfl) (op_append_one (nowV ((n.cleanAt i).2.set (0 + (i : Int).toNat) (n.cleanAt i).1.lits) (n.gates.getD ((i : Int) - (n.fst : Int)).toNat default).1, nowV ((n.cleanAt i).2.set (0 + (i : Int).toNat) (n.cleanAt i).1.lits) (n.gates.getD ((i : Int) - (n.fst : Int)).toNat default).2) Try.underlying24 Try.underlying24 rfl info86 rfl rfl (by decide) rfl rfl rfl (by first | rfl | simp) rfl rfl (by first | omega | (simp; done) | (simp; omega)) (by show _ * 16 ≤ _; first | omega | (simp; done) | (simp; omega))) (by simp) ?_; rintro _ _ ⟨ver115, rfl, rfl⟩; refine ⟨?_, ?_⟩)
       ·
        refine loose_anc 27 rfl (by kernel_rfl) ?_
        refine loose_anc 26 rfl (by kernel_rfl) ?_
        refine loose_anc 25 rfl (by kernel_rfl) ?_
        refine loose_anc 24 rfl (by kernel_rfl) ?_
        refine loose_anc 23 rfl (by kernel_rfl) ?_
        refine loose_anc 22 rfl (by kernel_rfl) ?_
        refine loose_anc 21 rfl (by kernel_rfl) ?_
        refine loose_anc 20 rfl (by kernel_rfl) ?_
        refine loose_anc 19 rfl (by kernel_rfl) ?_
        refine loose_anc 18 rfl (by kernel_rfl) ?_
        refine loose_anc 17 rfl (by kernel_rfl) ?_
        refine loose_anc 16 rfl (by kernel_rfl) ?_
        refine loose_anc 15 rfl (by kernel_rfl) ?_
        refine loose_anc 14 rfl (by kernel_rfl) ?_
        refine loose_anc 13 rfl (by kernel_rfl) ?_
        refine loose_anc 12 rfl (by kernel_rfl) ?_
        refine loose_anc 11 rfl (by kernel_rfl) ?_
        refine loose_anc 10 rfl (by kernel_rfl) ?_
        refine loose_anc 9 rfl (by kernel_rfl) ?_
        refine loose_anc 8 rfl (by kernel_rfl) ?_
        refine loose_anc 7 rfl (by kernel_rfl) ?_
        refine loose_anc 6 rfl (by kernel_rfl) ?_
        refine loose_anc 5 rfl (by kernel_rfl) ?_
        refine loose_anc 4 rfl (by kernel_rfl) ?_
        refine loose_anc 3 rfl (by kernel_rfl) ?_
        refine loose_anc 2 rfl (by kernel_rfl) ?_
        refine loose_anc 1 rfl (by kernel_rfl) ?_
        refine loose_k rfl (opk_of (op_move rfl)) ?_
        exact loose_nil
       refine afl_float rfl rfl (opk_of (op_nilCheck_ptr rfl rfl)) (by simp) ?_
       refine afl_float rfl rfl (opk_of (op_field_ptr Try.underlying73 rfl info27 (by decide) rfl rfl rfl)) (by simp) ?_
       refine afl_float rfl rfl (opk_of (op_field_ptr Try.underlying27 rfl info24 (by decide) rfl rfl rfl)) (by simp) ?_
       (refine afl_eff rfl rfl (by kernel_rfl) (op_store_ptr info24 rfl rfl rfl rfl rfl rfl (by first | rfl | exact live_one rfl | (repeat (first | exact all_live_nil | refine all_live_clo rfl ?_ | refine all_live_slice rfl ?_ | refine all_live_map rfl ?_ | refine all_live_ptr rfl ?_))) (Nat.le_of_ble_eq_true rfl)) (by simp) ?_ ?_)
       ·
        refine loose_anc 31 rfl (by kernel_rfl) ?_
        refine loose_anc 30 rfl (by kernel_rfl) ?_
        refine loose_anc 29 rfl (by kernel_rfl) ?_
        refine loose_fix rfl ?_
        refine loose_anc 27 rfl (by kernel_rfl) ?_
        refine loose_anc 26 rfl (by kernel_rfl) ?_
        refine loose_anc 25 rfl (by kernel_rfl) ?_
        refine loose_anc 24 rfl (by kernel_rfl) ?_
        refine loose_anc 23 rfl (by kernel_rfl) ?_
        refine loose_anc 22 rfl (by kernel_rfl) ?_
        refine loose_anc 21 rfl (by kernel_rfl) ?_
        refine loose_anc 20 rfl (by kernel_rfl) ?_
        refine loose_anc 19 rfl (by kernel_rfl) ?_
        refine loose_anc 18 rfl (by kernel_rfl) ?_
        refine loose_anc 17 rfl (by kernel_rfl) ?_
        refine loose_anc 16 rfl (by kernel_rfl) ?_
        refine loose_anc 15 rfl (by kernel_rfl) ?_
        refine loose_anc 14 rfl (by kernel_rfl) ?_
        refine loose_anc 13 rfl (by kernel_rfl) ?_
        refine loose_anc 12 rfl (by kernel_rfl) ?_
        refine loose_anc 11 rfl (by kernel_rfl) ?_
        refine loose_anc 10 rfl (by kernel_rfl) ?_
        refine loose_anc 9 rfl (by kernel_rfl) ?_
        refine loose_anc 8 rfl (by kernel_rfl) ?_
        refine loose_anc 7 rfl (by kernel_rfl) ?_
        refine loose_anc 6 rfl (by kernel_rfl) ?_
        refine loose_anc 5 rfl (by kernel_rfl) ?_
        refine loose_anc 4 rfl (by kernel_rfl) ?_
        refine loose_anc 3 rfl (by kernel_rfl) ?_
        refine loose_anc 2 rfl (by kernel_rfl) ?_
        refine loose_anc 1 rfl (by kernel_rfl) ?_
        refine loose_anc 0 rfl (by kernel_rfl) ?_
        exact loose_nil
       refine afl_end ?_
       refine aw_region ?_
       refine al_op (op_add rfl rfl (by first | exact wrap_i64 (by omega) (by omega))) rfl (by simp) ?_
       refine al_op (op_move rfl) rfl (by simp) ?_
       refine al_nil ?_
       refine ⟨i + 1, ver115, ?_, ?_, ?_, ?_, ?_⟩
       ·omega
       ·omega
       ·refine sub_cons (get_as rfl ?_) ?_; rotate_left; refine sub_cons (get_as rfl ?_) ?_; rotate_left; exact sub_nil
        all_goals (first | rfl | (simp; done) | (rw [n.cleanAt_zero] <;> rfl) | (rw [(Net.cleanAt_ok hn hv (i := i) (by omega)).2.2.2, (Net.cleanAt_ok hn hv (i := i + 1) (by omega)).2.2.2]))
       ·repeat (first | exact subx_refl | exact subx_del | refine subx_put rfl ?_)
       ·first | (rw [Net.cleanAt_low (by omega)] <;> rfl) | (rw [Net.cleanAt_yes (by omega) (by assumption)] <;> rfl) | (rw [Net.cleanAt_no (by omega) (by assumption)] <;> rfl)
      ·have gh6 := h6
       try simp only [nrm] at h6
       refine aw_skip ?_
       refine aw_region ?_
       refine al_op (op_add rfl rfl (by first | exact wrap_i64 (by omega) (by omega))) rfl (by simp) ?_
       refine al_op (op_move rfl) rfl (by simp) ?_
       refine al_nil ?_
       refine ⟨i + 1, vg, ?_, ?_, ?_, ?_, ?_⟩
       ·omega
       ·omega
       ·refine sub_cons (get_as rfl ?_) ?_; rotate_left; refine sub_cons (get_as rfl ?_) ?_; rotate_left; exact sub_nil
        all_goals (first | rfl | (simp; done) | (rw [n.cleanAt_zero] <;> rfl) | (rw [(Net.cleanAt_ok hn hv (i := i) (by omega)).2.2.2, (Net.cleanAt_ok hn hv (i := i + 1) (by omega)).2.2.2]))
       ·repeat (first | exact subx_refl | exact subx_del | refine subx_put rfl ?_)
       ·first | (rw [Net.cleanAt_low (by omega)] <;> rfl) | (rw [Net.cleanAt_yes (by omega) (by assumption)] <;> rfl) | (rw [Net.cleanAt_no (by omega) (by assumption)] <;> rfl)
    ·have gh4 := h4
     try simp only [nrm] at h4
     refine aw_exit ?_
     obtain rfl : i = n.kept.length := by omega
     refine aw_seq ?_
     refine aw_freeze (fun i => !(Nat.beq i 152)) (fsub_cons (t := 11) rfl (.leaf _ _ (frz_whole rfl rfl (by simp) (clo_map (fun _ => rfl)))) fsub_same) ?_
     have hce := n.cleanAt_end
     have hci := Net.clean_inv hv n.gates.length (Nat.le_refl _)
     rw [← hce] at hci
     have hsame := hci.same
     have hlaid := hci.laid hv
     refine aw_st (σ2 := ((1, ver1, .row 4 [[.list 1 (n.ins.map encS), .list 3 (n.regs.map encR), .list 2 (n.gates.map encG), .list 2 (n.outs.map encP)]]) :: (2, ver2, .row 4 [[.v (.slice none 0 0), .v (.slice none 0 0), .v (.slice none 0 0), .v (.slice none 0 0)]]) :: (19, vt, .map (thEnts (n.cleanAt n.kept.length).1.th)) :: (21, vm, .row 6 [(n.cleanAt n.kept.length).1.cells 51 19 52 vg vt vr]) :: (52, vr, .row 3 ((n.cleanAt n.kept.length).1.regs.map encR)) :: (51, vg, .row 2 ((n.cleanAt n.kept.length).1.gates.map encG)) :: [])) rfl ?_
     refine aw_region ?_
     refine al_op (op_move rfl) rfl (by simp) ?_
     refine al_op (op_load_ptr Try.underlying27 info27 rfl rfl rfl rfl) rfl (by simp) ?_
     refine al_op (op_move rfl) rfl (by simp) ?_
     (refine al_call into82 rfl rfl rfl (laidO_at 21 51 19 52 72 71 73 74 (n.cleanAt n.kept.length).1 vm vg vt vr n hn hv (n.cleanAt n.kept.length).2 hc1 hc2 hsame.2 hsame.1 (by omega) hc3 hlaid rfl rfl rfl rfl rfl rfl rfl rfl rfl rfl) (by simp) ?_; rintro _ _ ⟨v5, v4, v6, v7, rfl, rfl⟩)
     refine al_st (σ2 := ((1, ver1, .row 4 [[.list 1 (n.ins.map encS), .list 3 (n.regs.map encR), .list 2 (n.gates.map encG), .list 2 (n.outs.map encP)]]) :: (2, ver2, .row 4 [[.v (.slice none 0 0), .v (.slice none 0 0), .v (.slice none 0 0), .v (.slice none 0 0)]]) :: (19, vt, .map (thEnts (n.cleanAt n.kept.length).1.th)) :: (21, vm, .row 6 [(n.cleanAt n.kept.length).1.cells 51 19 52 vg vt vr]) :: (52, vr, .row 3 ((n.cleanAt n.kept.length).1.regs.map encR)) :: (51, vg, .row 2 ((n.cleanAt n.kept.length).1.gates.map encG)) :: netRows 72 71 73 74 v5 v4 v6 v7 (laidN n (n.cleanAt n.kept.length).1 (n.cleanAt n.kept.length).2))) rfl ?_
     refine al_op (op_extract rfl rfl rfl) rfl (by simp) ?_
     refine al_op (op_extract rfl rfl rfl) rfl (by simp) ?_
     refine al_op (op_store_ptr info27 rfl rfl rfl rfl rfl rfl (by first | rfl | exact live_one rfl | (repeat (first | exact all_live_nil | refine all_live_clo rfl ?_ | refine all_live_slice rfl ?_ | refine all_live_map rfl ?_ | refine all_live_ptr rfl ?_))) (Nat.le_of_ble_eq_true rfl)) rfl (by simp) ?_
     refine al_op (op_assign rfl) rfl (by simp) ?_
     refine al_nil ?_
     refine aw_ret ?_
     refine ⟨_, res_cell_tmp rfl Try.underlying27 info27 rfl rfl rfl rfl rfl rfl rfl, ?_⟩
     rw [Net.clean, if_pos hv, ← n.cleanAt_end]; exact ⟨_, rfl, .tuple _ _ (new3_cons (.agg _ _ (new2_cons (new_map rfl rfl (fun _ => rfl)) (new2_cons (new_map rfl rfl (fun _ => rfl)) (new2_cons (new_map rfl rfl (fun _ => rfl)) (new2_cons (new_map rfl rfl (fun _ => rfl)) new2_nil))))) (new3_cons (.leaf _ _ (.v _)) new3_nil))⟩
end Go.Proofs.Ytbpamlphacpkeaa
