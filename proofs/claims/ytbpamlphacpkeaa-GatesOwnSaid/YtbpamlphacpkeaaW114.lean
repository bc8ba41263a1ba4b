/- Printed walks (gen.py, gates_ann.py): part 114. -/
import Derived.Test.YtbpamlphacpkeaaW113
import Derived.Test.YtbpamlphacpkeaaFacts
set_option linter.unusedVariables false
set_option linter.unusedSimpArgs false
set_option maxRecDepth 20000
set_option maxHeartbeats 40000000
namespace Go.Proofs.Ytbpamlphacpkeaa
open Go

def SHS (n : Net) (v1 v2 : Nat) (s : MS) (vm vg vt vr : Nat) (made : List Int) (ver : Nat) (tl : Store) : Store := (1, v1, .row 4 [[.list 1 (n.ins.map encS), .list 3 (n.regs.map encR), .list 2 (n.gates.map encG), .list 2 (n.outs.map encP)]]) :: (2, v2, .row 4 [[.v (.slice none 0 0), .v (.slice none 0 0), .v (.slice none 0 0), .v (.slice none 0 0)]]) :: (19, vt, .map (thEnts s.th)) :: (21, vm, .row 6 [s.cells 51 19 52 vg vt vr]) :: (52, vr, .row 3 (s.regs.map encR)) :: (51, vg, .row 2 (s.gates.map encG)) :: (5, ver, .row 1 (made.map encI)) :: tl
theorem sh_below (n : Net) (v1 v2 : Nat) (s : MS) (vm vg vt vr : Nat) (made : List Int) (ver : Nat) (tl : Store) (hb : tl.below 1000 = true) : (SHS n v1 v2 s vm vg vt vr made ver tl).below 1000 = true := by
  simp only [SHS, Store.below, hb]; rfl
theorem sh_m {f : FuncId} {n : Net} {v1 v2 : Nat} {s s' : MS} {vm vg vt vr : Nat} {made : List Int} {ver : Nat} {tl : Store} {bvs : List AVal} {a : AVal} (h : AC Try.prog f (.ptr 0 vm 0 0 :: bvs) (mk0 s vm vg vt vr) (fun x σ' => ∃ vg', x = .ret a ∧ σ' = mk0 s' vm vg' vt vr)) (hb : tl.below 1000 = true) (hc : bvs.all AVal.clo = true) (ha : a.clo = true) :
    AC Try.prog f (.ptr 21 vm 0 0 :: bvs) (SHS n v1 v2 s vm vg vt vr made ver tl) (fun x σ' => ∃ vg', x = .ret a ∧ σ' = SHS n v1 v2 s' vm vg' vt vr made ver tl) :=
  ac_mono (mk_at (m := 21) (g := 51) (t := 19) (r := 52) h rfl (sh_below _ _ _ _ _ _ _ _ _ _ _ hb) rfl rfl rfl rfl hc ha) (by rintro x σ' ⟨vg', rfl, rfl⟩; exact ⟨vg', rfl, rfl⟩)

theorem q_share (n : Net) (hn : n.Small) : AC Try.prog 48 [encN n] ([]) (fun r σ' => r = .ret (.tuple [encN n.share.1, .v (.int .i64 (n.share.2))])) := by
 refine ac_enter 74 Try.func48 rfl rfl (by simp) ?_
 refine aw_seq ?_
 refine aw_region ?_
 (refine al_opR (op_box 1 rfl rfl (by first | rfl | exact live_one rfl | (repeat (first | exact all_live_nil | refine all_live_clo rfl ?_ | refine all_live_slice rfl ?_ | refine all_live_map rfl ?_ | refine all_live_ptr rfl ?_)))) rfl (by simp) ?_; rintro _ _ ⟨ver1, rfl, rfl⟩)
 (refine al_opR (op_alloc 2 info27 rfl rfl) rfl (by simp) ?_; rintro _ _ ⟨ver2, rfl, rfl⟩)
 refine al_op (op_assign rfl) rfl (by simp) ?_
 refine al_nil ?_
 refine aw_seq ?_
 refine aw_seq ?_
 refine aw_region ?_
 refine al_op (op_load_ptr Try.underlying27 info27 rfl rfl rfl rfl) rfl (by simp) ?_
 refine al_callp into27 rfl rfl rfl ((c_valid _ (by assumption)) _) (by simp) ?_
 refine al_op (op_not rfl) rfl (by simp) ?_
 refine al_nil ?_
 refine aw_cond rfl (fun h1 => ?_) (fun h1 => ?_)
 ·have gh1 := h1
  try simp only [nrm] at h1
  refine aw_seq ?_
  refine aw_region ?_
  refine al_op (op_build_struct Try.underlying27 info27 rfl place27 rfl (by first | rfl | (repeat (first | exact parts_nil | refine parts_cons rfl (by repeat (first | exact all_live_nil | refine all_live_clo rfl ?_ | refine all_live_slice rfl ?_ | refine all_live_map rfl ?_ | refine all_live_ptr rfl ?_)) ?_))) rfl) rfl (by simp) ?_
  refine al_op (op_store_ptr info27 rfl rfl rfl rfl rfl rfl (by first | rfl | exact live_one rfl | (repeat (first | exact all_live_nil | refine all_live_clo rfl ?_ | refine all_live_slice rfl ?_ | refine all_live_map rfl ?_ | refine all_live_ptr rfl ?_))) (by decide)) rfl (by simp) ?_
  refine al_op (op_assign rfl) rfl (by simp) ?_
  refine al_nil ?_
  refine aw_ret ?_
  refine ⟨_, res_re2 (res_cell_tmp rfl Try.underlying27 info27 rfl rfl rfl rfl rfl rfl rfl) (re2_agg (re2_cons (.vnil 1) (re2_cons (.vnil 3) (re2_cons (.vnil 2) (re2_cons (.vnil 2) re2_nil))))) rfl rfl, ?_⟩
  rw [Net.share, if_neg (by simpa using gh1)]; rfl
 ·have gh1 := h1
  try simp only [nrm] at h1
  have hv : n.valid = true := by simpa using gh1
  obtain ⟨f1, f2, f3, f4, f5, f6, f7⟩ := Net.valid_facts hv
  obtain ⟨_, hbg⟩ := Net.begin_ok hn hv
  have hbl := n.begin_lits
  refine aw_skip ?_
  refine aw_seq ?_
  refine aw_region ?_
  refine al_op (op_load_ptr Try.underlying27 info27 rfl rfl rfl rfl) rfl (by simp) ?_
  (refine al_call into81 rfl rfl rfl (again_at 21 51 19 52 n hn hv rfl rfl rfl) (by simp) ?_; rintro _ _ ⟨vm, vg, vt, vr, rfl, rfl⟩)
  refine al_op (op_assign rfl) rfl (by simp) ?_
  refine al_nil ?_
  refine aw_seq ?_
  refine aw_region ?_
  refine al_op (op_assign rfl) rfl (by simp) ?_
  refine al_nil ?_
  refine aw_seq ?_
  refine aw_seq ?_
  refine aw_region ?_
  refine al_op (op_assign rfl) rfl (by simp) ?_
  refine al_nil ?_
  refine aw_block ?_
  refine aw_own_map encI 5 1 5 rfl rfl (fun ver5 => ?_)
  refine aw_for2T (α := Nat) (β := Nat) [5, 6] [] (fun i ver => 1 + n.ins.length + n.regs.length - i) (fun i ver => i ≤ 1 + n.ins.length + n.regs.length) (fun i ver => ([(5, .slice 5 ver 0 (evens i).length), (6, .v (.int .i64 (2 * (i : Int))))] : Env)) (fun i ver s => s.put 5 ver (.row 1 ((evens i).map encI))) (0) (ver5) ?_ ?_ ?_ (fun i ver hinv => ?_)
  ·exact Nat.zero_le _
  ·refine sub_cons (get_as rfl ?_) ?_; rotate_left; refine sub_cons (get_as rfl ?_) ?_; rotate_left; exact sub_nil
   all_goals (first | rfl | (simp; done) | (rw [evens_succ] <;> rfl) | (congr 2; omega))
  ·rfl
  have hel := evens_length i
  refine aw_seq ?_
  refine aw_seq ?_
  refine aw_region ?_
  refine al_op (op_move rfl) rfl (by simp) ?_
  refine al_op (op_move rfl) rfl (by simp) ?_
  refine al_callp into72 rfl rfl rfl (mk_ro (m := 21) (g := 51) (t := 19) (r := 52) (m_first n.begin vm vg vt vr hbg.ok) rfl rfl rfl rfl rfl rfl rfl rfl) (by simp) ?_
  refine al_op (op_lss rfl rfl) rfl (by simp) ?_
  refine al_nil ?_
  refine aw_cond rfl (fun h2 => ?_) (fun h2 => ?_)
  ·have gh2 := h2
   try simp only [nrm] at h2
   refine aw_skip ?_
   refine aw_seq ?_
   refine aw_block ?_
   refine aw_region ?_
   refine al_op (op_move rfl) rfl (by simp) ?_
   refine al_op (op_move rfl) rfl (by simp) ?_
   refine al_op (op_buildSlice Try.underlying54 info3 rfl rfl (by decide) rfl (by decide) rfl (by first | rfl | (repeat (first | exact parts_nil | refine parts_cons rfl (by repeat (first | exact all_live_nil | refine all_live_clo rfl ?_ | refine all_live_slice rfl ?_ | refine all_live_map rfl ?_ | refine all_live_ptr rfl ?_)) ?_))) rfl rfl rfl) rfl (by simp) ?_
   (refine al_opR (op_append_one (2 * (i : Int)) Try.underlying54 Try.underlying54 rfl info3 rfl rfl (by decide) rfl rfl rfl (by first | rfl | simp) rfl rfl (by first | omega | (simp; done) | (simp; omega)) (by show _ * 8 ≤ _; first | omega | (simp; done) | (simp; omega))) rfl (by simp) ?_; rintro _ _ ⟨ver26, rfl, rfl⟩)
   refine al_op (op_assign rfl) rfl (by simp) ?_
   refine al_nil ?_
   refine aw_region ?_
   refine al_op (op_move rfl) rfl (by simp) ?_
   refine al_op (op_add rfl rfl (by first | exact wrap_i64 (by omega) (by omega))) rfl (by simp) ?_
   refine al_op (op_assign rfl) rfl (by simp) ?_
   refine al_nil ?_
   refine ⟨i + 1, ver26, ?_, ?_, ?_, ?_, ?_⟩
   ·omega
   ·omega
   ·refine sub_cons (get_as rfl ?_) ?_; rotate_left; refine sub_cons (get_as rfl ?_) ?_; rotate_left; exact sub_nil
    all_goals (first | rfl | (simp; done) | (rw [evens_succ] <;> rfl) | (congr 2; omega))
   ·repeat (first | exact subx_refl | exact subx_del | refine subx_put rfl ?_)
   ·(rw [evens_succ] <;> rfl)
  ·have gh2 := h2
   try simp only [nrm] at h2
   refine aw_exit ?_
   obtain rfl : i = 1 + n.ins.length + n.regs.length := by omega
   refine aw_seq ?_
   refine aw_seq ?_
   refine aw_region ?_
   refine al_op (op_field_ptr Try.underlying27 rfl info24 (by decide) rfl rfl rfl) rfl (by simp) ?_
   refine al_op (op_load_ptr Try.underlying24 info24 rfl rfl rfl rfl) rfl (by simp) ?_
   refine al_op (op_len_map Try.underlying24 rfl) rfl (by simp) ?_
   refine al_op (op_move rfl) rfl (by simp) ?_
   refine al_nil ?_
   refine aw_block ?_
   refine aw_for3T (α := Nat) (β := Nat) (γ := Nat) [3, 5, 30] [8] (fun i ver vg => n.gates.length - i) (fun i ver vg => i ≤ n.gates.length) (fun i ver vg => ([(5, .slice 5 ver 0 (n.shareTo i).2.length), (30, .v (.int .i64 (i)))] : Env)) (fun i ver vg st => SHS n ver1 ver2 (n.shareTo i).1 vm vg vt vr (n.shareTo i).2 ver []) (0) (ver) (vg) ?_ ?_ ?_ (fun i ver vg hinv => ?_)
   ·exact Nat.zero_le _
   ·refine sub_cons (get_as rfl ?_) ?_; rotate_left; refine sub_cons (get_as rfl ?_) ?_; rotate_left; exact sub_nil
    all_goals (first | rfl | (simp; done))
   ·rfl
   have hz := Net.share_inv0 hn hv i hinv
   have hmr := hz.range
   refine aw_seq ?_
   refine aw_region ?_
   refine al_op (op_lss rfl rfl) rfl (by simp) ?_
   refine al_nil ?_
   refine aw_seq ?_
   refine aw_cond rfl (fun h3 => ?_) (fun h3 => ?_)
   ·have gh3 := h3
    try simp only [nrm] at h3
    refine aw_skip ?_
    refine aw_seq ?_
    refine aw_block ?_
    refine aw_seq ?_
    refine aw_region ?_
    refine al_op (op_index_map default Try.underlying24 info86 rfl rfl rfl (by first | (with_reducible exact Int.toNat_natCast _) | rfl) (by omega) (by omega)) rfl (by simp) ?_
    refine al_op (op_load_rptr Try.underlying86 info86 rfl rfl) rfl (by simp) ?_
    (refine al_opR (op_alloc 8 info86 rfl rfl) rfl (by simp) ?_; rintro _ _ ⟨ver8, rfl, rfl⟩)
    refine al_op (op_store_ptr info86 rfl rfl rfl rfl rfl rfl (by first | rfl | exact live_one rfl | (repeat (first | exact all_live_nil | refine all_live_clo rfl ?_ | refine all_live_slice rfl ?_ | refine all_live_map rfl ?_ | refine all_live_ptr rfl ?_))) (Nat.le_of_ble_eq_true rfl)) rfl (by simp) ?_
    refine al_nil ?_
    refine aw_seq ?_
    have hg5 := f5 i (by omega)
    have hzl := hz.len
    have hx1 := hmr _ (getD_mem (v := (n.shareTo i).2) (i := 0 + ((n.gates.getD i default).1 / 2).toNat) (by omega))
    have hx2 := hmr _ (getD_mem (v := (n.shareTo i).2) (i := 0 + ((n.gates.getD i default).2 / 2).toNat) (by omega))
    have hE := ShareInv.and_ok hv (zeros_01 _) (zeros_01 _) (zeros_length _) (zeros_length _) (by omega) hz
    refine aw_any (Checked.mixed Try.checked) ?_
    apply aany_seg (p := 0) (q := 21) (by kernel_rfl) rfl (by decide)
    ·
     apply ql_plain rfl (op_move rfl)
     apply ql_plain rfl (op_move rfl)
     apply ql_plain rfl (op_index_aptr Try.underlying86 info3 rfl rfl rfl rfl (by decide) (by decide))
     apply ql_plain rfl (op_load_ptr Try.underlying3 info3 rfl rfl rfl rfl)
     apply ql_plain rfl (op_quo rfl rfl (by omega) (quo_nn (by omega) (by omega) (by omega)))
     apply ql_plain rfl (op_index_slice Try.underlying54 info3 rfl rfl rfl rfl (by omega) (by omega))
     apply ql_plain rfl (op_load_map Try.underlying3 info3 rfl rfl (by omega) rfl)
     apply ql_plain rfl (op_index_aptr Try.underlying86 info3 rfl rfl rfl rfl (by decide) (by decide))
     apply ql_plain rfl (op_load_ptr Try.underlying3 info3 rfl rfl rfl rfl)
     apply ql_plain rfl (op_bitand rfl rfl (and_one _))
     apply ql_plain rfl (op_bitxor rfl rfl (xor_bit (by omega) (by omega) (by omega)))
     apply ql_plain rfl (op_move rfl)
     apply ql_plain rfl (op_index_aptr Try.underlying86 info3 rfl rfl rfl rfl (by decide) (by decide))
     apply ql_plain rfl (op_load_ptr Try.underlying3 info3 rfl rfl rfl rfl)
     apply ql_plain rfl (op_quo rfl rfl (by omega) (quo_nn (by omega) (by omega) (by omega)))
     apply ql_plain rfl (op_index_slice Try.underlying54 info3 rfl rfl rfl rfl (by omega) (by omega))
     apply ql_plain rfl (op_load_map Try.underlying3 info3 rfl rfl (by omega) rfl)
     apply ql_plain rfl (op_index_aptr Try.underlying86 info3 rfl rfl rfl rfl (by decide) (by decide))
     apply ql_plain rfl (op_load_ptr Try.underlying3 info3 rfl rfl rfl rfl)
     apply ql_plain rfl (op_bitand rfl rfl (and_one _))
     apply ql_plain rfl (op_bitxor rfl rfl (xor_bit (by omega) (by omega) (by omega)))
     exact ql_nil
    ·simp
    (refine aany_call (by kernel_rfl) rfl into31 rfl rfl rfl (sh_m (m_And (n.shareTo i).1 vm vg vt vr _ _ hz.bits.good.ok) rfl rfl rfl) (by simp) ?_; rintro _ _ ⟨vg56, rfl, rfl⟩)
    apply aany_seg (p := 22) (q := 27) (by kernel_rfl) rfl (by decide)
    ·
     apply ql_plain rfl (op_move rfl)
     apply ql_plain rfl (op_extract rfl rfl rfl)
     apply ql_plain rfl (op_extract rfl rfl rfl)
     apply ql_plain rfl (op_assign rfl)
     apply ql_plain rfl (op_assign rfl)
     exact ql_nil
    ·simp
    refine aany_end rfl (by kernel_rfl) ?_
    refine aw_seq ?_
    refine aw_seq ?_
    refine aw_region ?_
    refine al_op (op_move rfl) rfl (by simp) ?_
    refine al_op (op_neq rfl rfl) rfl (by simp) ?_
    refine al_nil ?_
    refine aw_cond rfl (fun h4 => ?_) (fun h4 => ?_)
    ·have gh4 := h4
     try simp only [nrm] at h4
     rw [bne_iff_ne] at gh4; exact (gh4 hE).elim
    ·have gh4 := h4
     try simp only [nrm] at h4
     refine aw_skip ?_
     refine aw_region ?_
     refine al_op (op_move rfl) rfl (by simp) ?_
     refine al_op (op_move rfl) rfl (by simp) ?_
     refine al_op (op_buildSlice Try.underlying54 info3 rfl rfl (by decide) rfl (by decide) rfl (by first | rfl | (repeat (first | exact parts_nil | refine parts_cons rfl (by repeat (first | exact all_live_nil | refine all_live_clo rfl ?_ | refine all_live_slice rfl ?_ | refine all_live_map rfl ?_ | refine all_live_ptr rfl ?_)) ?_))) rfl rfl rfl) rfl (by simp) ?_
     (refine al_opR (op_append_one _ Try.underlying54 Try.underlying54 rfl info3 rfl rfl (by decide) rfl rfl rfl (by first | rfl | simp) rfl rfl (by first | omega | (simp; done) | (simp; omega)) (by show _ * 8 ≤ _; first | omega | (simp; done) | (simp; omega))) rfl (by simp) ?_; rintro _ _ ⟨ver66, rfl, rfl⟩)
     refine al_op (op_assign rfl) rfl (by simp) ?_
     refine al_nil ?_
     refine aw_region ?_
     refine al_op (op_add rfl rfl (by first | exact wrap_i64 (by omega) (by omega))) rfl (by simp) ?_
     refine al_op (op_move rfl) rfl (by simp) ?_
     refine al_nil ?_
     refine ⟨i + 1, ver66, vg56, ?_, ?_, ?_, ?_, ?_⟩
     ·omega
     ·omega
     ·refine sub_cons (get_as rfl ?_) ?_; rotate_left; refine sub_cons (get_as rfl ?_) ?_; rotate_left; exact sub_nil
      all_goals (first | rfl | (simp; done))
     ·repeat (first | exact subx_refl | exact subx_del | refine subx_put rfl ?_)
     ·rfl
   ·have gh3 := h3
    try simp only [nrm] at h3
    refine aw_exit ?_
    obtain rfl : i = n.gates.length := by omega
    refine aw_seq ?_
    refine aw_freeze (fun i => !(Nat.beq i 5)) (fsub_cons (t := 5) rfl (.leaf _ _ (frz_whole rfl rfl (by simp) (clo_map (fun _ => rfl)))) fsub_same) ?_
    refine aw_region ?_
    refine al_op (op_move rfl) rfl (by simp) ?_
    refine al_op (op_load_ptr Try.underlying27 info27 rfl rfl rfl rfl) rfl (by simp) ?_
    refine al_op (op_move rfl) rfl (by simp) ?_
    refine al_callp into82 rfl rfl rfl (mk_ro (m := 21) (g := 51) (t := 19) (r := 52) (m_laid (n.shareTo n.gates.length).1 vm vg vt vr n hn hv (n.shareTo n.gates.length).2 hz.bits.good.ok hz.bits.good.small hz.same.2 hz.same.1 hz.len hmr (hz.laid hv)) rfl rfl rfl rfl rfl rfl rfl rfl) (by simp) ?_
    refine al_op (op_extract rfl rfl rfl) rfl (by simp) ?_
    refine al_op (op_extract rfl rfl rfl) rfl (by simp) ?_
    refine al_op (op_store_ptr info27 rfl rfl rfl rfl rfl rfl (by first | rfl | exact live_one rfl | (repeat (first | exact all_live_nil | refine all_live_clo rfl ?_ | refine all_live_slice rfl ?_ | refine all_live_map rfl ?_ | refine all_live_ptr rfl ?_))) (Nat.le_of_ble_eq_true rfl)) rfl (by simp) ?_
    refine al_op (op_assign rfl) rfl (by simp) ?_
    refine al_nil ?_
    refine aw_ret ?_
    refine ⟨_, res_cell_tmp rfl Try.underlying27 info27 rfl rfl rfl rfl rfl rfl rfl, ?_⟩
    rw [Net.share, if_pos hv]; rfl
theorem c_share (n : Net) (hn : n.Small) : ACp Try.prog 48 [encN n] (.tuple [encN n.share.1, .v (.int .i64 (n.share.2))]) :=
  acp_of rfl (ac_mono (ac_keep (fun _ => false) (q_share n hn)) (by rintro x σ1 ⟨σ2, h, rfl⟩; exact ⟨h, keep_no _⟩))
end Go.Proofs.Ytbpamlphacpkeaa
