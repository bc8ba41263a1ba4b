/- Printed walks (gen.py, gates_ann.py): part 139. -/
import Derived.Test.YtbpamlphacpkeaaW138
import Derived.Test.YtbpamlphacpkeaaW135
import Derived.Test.YtbpamlphacpkeaaW94
import Derived.Test.YtbpamlphacpkeaaW57
import Derived.Test.YtbpamlphacpkeaaGOwn
import Derived.Test.YtbpamlphacpkeaaEngU
import Derived.Test.YtbpamlphacpkeaaFacts
set_option linter.unusedVariables false
set_option linter.unusedSimpArgs false
set_option maxRecDepth 20000
set_option maxHeartbeats 40000000
namespace Go.Proofs.Ytbpamlphacpkeaa
open Go

def netRows3 (i r g o v5 v4 v6 v7 : Nat) (N : Net) : Store := [(o, v7, .row 2 (N.outs.map encP)), (i, v5, .row 1 (N.ins.map encS)), (r, v4, .row 3 (N.regs.map encR)), (g, v6, .row 2 (N.gates.map encG))]
theorem mk_make3 (ins names : List ByteArray) (inits : List Int) (z1 : ∀ s ∈ ins, s.size ≤ 140737488355328) (z2 : ∀ s ∈ names, s.size ≤ 140737488355328) (z3 : ∀ x ∈ inits, 0 ≤ x ∧ x ≤ 255) (z4 : ins.length ≤ 100000) (z5 : names.length ≤ 100000) (z6 : inits.length ≤ 100000) (hok : makeOK ins names inits = true) : AC Try.prog 28 [.list 1 (ins.map encS), .list 1 (names.map encS), .list 1 (inits.map encB)] [] (fun r σ' => ∃ vm vg vt vr, r = .ret (.tuple [.ptr 21 vm 0 0, .v (.int .i64 0)]) ∧ σ' = [(51, vg, .row 2 ((MS.make ins names inits).gates.map encG)), (52, vr, .row 3 ((MS.make ins names inits).regs.map encR)), (21, vm, .row 6 [(MS.make ins names inits).cells 51 19 52 vg vt vr]), (19, vt, .map (thEnts (MS.make ins names inits).th))]) := by
  have h : AC Try.prog 28 [.list 1 (ins.map encS), .list 1 (names.map encS), .list 1 (inits.map encB)] [] (fun r σ' => ∃ vm vg vt vr, r = .ret (.tuple [.ptr 0 vm 0 0, .v (.int .i64 0)]) ∧ σ' = [(2, vt, .map (thEnts [])), (0, vm, .row 6 [(MS.make ins names inits).cells 1 2 3 vg vt vr]), (3, vr, .row 3 ((MS.make ins names inits).regs.map encR)), (1, vg, .row 2 ((MS.make ins names inits).gates.map encG))]) :=
    ac_mono (q_mMake ins names inits z1 z2 z3 z4 z5 z6) (by intro x σ' h; rw [if_pos hok] at h; exact h)
  have := ac_at (σ := []) [21, 51, 19, 52] rfl h trivial (by rfl) rfl (by rintro r σ' _ j _; rfl)
  refine ac_mono this ?_
  rintro x σ' ⟨_, _, ⟨vm, vg, vt, vr, rfl, rfl⟩, rfl, rfl⟩
  refine ⟨vm, vg, vt, vr, rfl, ?_⟩
  have e4 : (AObj.row 3 ((MS.make ins names inits).regs.map encR)).rn (tab [21, 51, 19, 52]) = .row 3 ((MS.make ins names inits).regs.map encR) := by show AObj.row 3 _ = _; rw [rn_rows (fun _ => rfl)]
  simp only [Store.putAll, e4]
  rfl

/-- The law's store in its second half: the maker and the rest. -/
def OW (vm vg vt vr : Nat) (s : MS) (tl : Store) : Store := (51, vg, .row 2 (s.gates.map encG)) :: (52, vr, .row 3 (s.regs.map encR)) :: (21, vm, .row 6 [s.cells 51 19 52 vg vt vr]) :: (19, vt, .map (thEnts s.th)) :: tl
theorem ow_below (vm vg vt vr : Nat) (s : MS) (tl : Store) (hb : tl.below 1000 = true) : (OW vm vg vt vr s tl).below 1000 = true := by
  simp only [OW, Store.below, hb]; rfl
theorem ow_make : AC Try.prog 28 [.list 1 ([sA, sB].map encS), .list 1 ([sR].map encS), .list 1 (([0] : List Int).map encB)] [] (fun r σ' => ∃ vm vg vt vr, r = .ret (.tuple [.ptr 21 vm 0 0, .v (.int .i64 0)]) ∧ σ' = OW vm vg vt vr MO []) :=
  ac_mono (mk_make3 [sA, sB] [sR] [0] (by decide) (by decide) (by decide) (by decide) (by decide) (by decide) mo_ok) (by rintro x σ' ⟨vm, vg, vt, vr, rfl, rfl⟩; exact ⟨vm, vg, vt, vr, rfl, rfl⟩)
theorem ow_and {vm vg vt vr : Nat} : AC Try.prog 31 [.ptr 21 vm 0 0, .v (.int .i64 2), .v (.int .i64 4)] (OW vm vg vt vr MO []) (fun x σ' => ∃ vg', x = .ret (.tuple [.v (.int .i64 (MO.and 2 4).1.1), .v (.int .i64 (MO.and 2 4).1.2)]) ∧ σ' = OW vm vg' vt vr MO2 []) :=
  ac_mono (mk_at (m := 21) (g := 51) (t := 19) (r := 52) (m_And MO vm vg vt vr 2 4 mo_good.ok) rfl (ow_below _ _ _ _ _ _ rfl) rfl rfl rfl rfl rfl rfl) (by rintro x σ' ⟨vg', rfl, rfl⟩; exact ⟨vg', rfl, rfl⟩)
theorem ow_netO {vm vg vt vr : Nat} : AC Try.prog 39 [.ptr 21 vm 0 0, .list 1 (([8] : List Int).map encI), .list 2 (outsO.map encP)] (OW vm vg vt vr MO2 []) (fun x σ' => ∃ v5 v4 v6 v7, x = .ret (.tuple [netAgg 75 74 76 77 v5 v4 v6 v7 (MO2.nexts [8] outsO), .v (.int .i64 0)]) ∧ σ' = OW vm vg vt vr MO2 (netRows3 75 74 76 77 v5 v4 v6 v7 (MO2.nexts [8] outsO))) :=
  ac_mono (netO_at 21 51 19 52 75 74 76 77 MO2 vm vg vt vr [8] outsO mo2_good.ok mo2_good.small (by decide) (by decide) (by decide) (by decide) mo2_len mo2_valid rfl (ow_below _ _ _ _ _ _ rfl) rfl rfl rfl rfl rfl rfl rfl rfl) (by rintro x σ' ⟨v5, v4, v6, v7, rfl, rfl⟩; exact ⟨v5, v4, v6, v7, rfl, rfl⟩)
theorem ow_ro {f : FuncId} {vm vg vt vr : Nat} {tl : Store} {bvs : List AVal} {a : AVal} (h : AC Try.prog f (.ptr 0 vm 0 0 :: bvs) (mk0 MO2 vm vg vt vr) (fun x σ' => x = .ret a ∧ σ' = mk0 MO2 vm vg vt vr)) (hb : tl.below 1000 = true) (hc : bvs.all AVal.clo = true) (ha : a.clo = true) :
    AC Try.prog f (.ptr 21 vm 0 0 :: bvs) (OW vm vg vt vr MO2 tl) (fun x σ' => x = .ret a ∧ σ' = OW vm vg vt vr MO2 tl) :=
  mk_ro (m := 21) (g := 51) (t := 19) (r := 52) h rfl (ow_below _ _ _ _ _ _ hb) rfl rfl rfl rfl hc ha

theorem law_GatesOwn (n : Net) (hn : n.Small) : ACp Try.prog 13 [encN n] (.v (.bool (true))) := by
 refine acp_of rfl ?_
 refine ac_enter 92 Try.func13 rfl rfl (by simp) ?_
 refine aw_seq ?_
 refine aw_region ?_
 (refine al_opR (op_box 1 rfl rfl (by first | rfl | exact live_one rfl | (repeat (first | exact all_live_nil | refine all_live_clo rfl ?_ | refine all_live_slice rfl ?_ | refine all_live_map rfl ?_ | refine all_live_ptr rfl ?_)))) rfl (by simp) ?_; rintro _ _ ⟨ver1, rfl, rfl⟩)
 refine al_op (op_assign rfl) rfl (by simp) ?_
 refine al_nil ?_
 refine aw_seq ?_
 refine aw_seq ?_
 refine aw_region ?_
 refine al_op (op_load_ptr Try.underlying27 info27 rfl rfl rfl rfl) rfl (by simp) ?_
 refine al_callp into14 rfl rfl rfl ((l_few _ (by assumption)) _) (by simp) ?_
 refine al_op (op_not rfl) rfl (by simp) ?_
 refine al_nil ?_
 refine aw_cond rfl (fun h1 => ?_) (fun h1 => ?_)
 ·have gh1 := h1
  try simp only [nrm] at h1
  refine aw_seq ?_
  refine aw_region ?_
  refine al_callp into15 rfl rfl rfl ((l_awake ) _) (by simp) ?_
  refine al_op (op_assign rfl) rfl (by simp) ?_
  refine al_nil ?_
  refine aw_freeze (fun _ => false) (fsub_cons (t := 2) rfl (.leaf _ _ (.same _)) fsub_nil) ?_
  refine aw_ret ?_
  refine ⟨_, res_1 rfl rfl, ?_, rfl⟩
  rfl
 ·have gh1 := h1
  try simp only [nrm] at h1
  refine aw_skip ?_
  refine aw_seq ?_
  obtain ⟨fw1, fw2⟩ := few_lens h1
  obtain ⟨sl1, sl2⟩ := share_lens n
  obtain ⟨cl1, cl2⟩ := clean_lens n
  have z1 := hn.insL
  have z2 := hn.regsL
  have z3 := hn.gatesL
  have z4 := hn.outsL
  have s1 := share_small_o hn
  have s2 := clean_small_o hn
  have y1 := s1.insL
  have y2 := s1.regsL
  have y3 := s1.gatesL
  have y4 := s1.outsL
  have x1 := s2.insL
  have x2 := s2.regsL
  have x3 := s2.gatesL
  have x4 := s2.outsL
  refine aw_region ?_
  refine al_op (op_load_ptr Try.underlying27 info27 rfl rfl rfl rfl) rfl (by simp) ?_
  (refine al_call into52 rfl rfl rfl (own_all 71 72 73 74 n (by omega) (by omega) (by omega) (by omega) rfl rfl rfl) (by simp) ?_; rintro _ _ ⟨vi, vr0, vg0, vo, rfl, rfl⟩)
  refine al_st (σ2 := ([(1, ver1, .row 4 [[.list 1 (n.ins.map encS), .list 3 (n.regs.map encR), .list 2 (n.gates.map encG), .list 2 (n.outs.map encP)]]), (74, vo, .row 2 (n.outs.map encP)), (73, vg0, .row 2 (n.gates.map encG)), (72, vr0, .row 3 (n.regs.map encR)), (71, vi, .row 1 (n.ins.map encS))] : Store)) rfl ?_
  (refine al_opR (op_alloc 3 info27 rfl rfl) rfl (by simp) ?_; rintro _ _ ⟨ver3, rfl, rfl⟩)
  refine al_op (op_store_ptr info27 rfl rfl rfl rfl rfl rfl (by first | rfl | exact live_one rfl | (repeat (first | exact all_live_nil | refine all_live_clo rfl ?_ | refine all_live_slice rfl ?_ | refine all_live_map rfl ?_ | refine all_live_ptr rfl ?_))) (Nat.le_of_ble_eq_true rfl)) rfl (by simp) ?_
  refine al_nil ?_
  refine aw_seq ?_
  refine aw_st (σ2 := ([(1, ver1, .row 4 [[.list 1 (n.ins.map encS), .list 3 (n.regs.map encR), .list 2 (n.gates.map encG), .list 2 (n.outs.map encP)]]), (74, vo, .row 2 (n.outs.map encP)), (73, vg0, .row 2 (n.gates.map encG)), (72, vr0, .row 3 (n.regs.map encR)), (71, vi, .row 1 (n.ins.map encS)), (3, ver3, .row 4 [[.slice 71 vi 0 n.ins.length, .slice 72 vr0 0 n.regs.length, .slice 73 vg0 0 n.gates.length, .slice 74 vo 0 n.outs.length]])] : Store)) rfl ?_
  refine aw_region ?_
  refine al_op (op_load_ptr Try.underlying27 info27 rfl rfl rfl rfl) rfl (by simp) ?_
  refine al_callp into48 rfl rfl rfl (acn_new (lend_cons (by first | exact lend_same | exact .leaf _ _ (.vnil _) | exact .leaf _ _ (.nil _) | exact lend_whole rfl (by first | rfl | (simp; done) | (simp; omega)) (clo_map (fun _ => rfl)) | exact lend_netg (by first | exact .same _ | exact lendL_vnil | exact lendL_whole rfl (by first | rfl | (simp; done) | (simp; omega)) (clo_map (fun _ => rfl))) (by first | exact .same _ | exact lendL_vnil | exact lendL_whole rfl (by first | rfl | (simp; done) | (simp; omega)) (clo_map (fun _ => rfl))) (by first | exact .same _ | exact lendL_vnil | exact lendL_whole rfl (by first | rfl | (simp; done) | (simp; omega)) (clo_map (fun _ => rfl))) (by first | exact .same _ | exact lendL_vnil | exact lendL_whole rfl (by first | rfl | (simp; done) | (simp; omega)) (clo_map (fun _ => rfl)))) lend_nil) (q_shareO n hn)) (by simp) ?_
  refine al_op (op_move rfl) rfl (by simp) ?_
  refine al_op (op_extract rfl rfl rfl) rfl (by simp) ?_
  refine al_op (op_extract rfl rfl rfl) rfl (by simp) ?_
  (refine al_opR (op_alloc 4 info27 rfl rfl) rfl (by simp) ?_; rintro _ _ ⟨ver4, rfl, rfl⟩)
  refine al_op (op_store_ptr info27 rfl rfl rfl rfl rfl rfl (by first | rfl | exact live_one rfl | (repeat (first | exact all_live_nil | refine all_live_clo rfl ?_ | refine all_live_slice rfl ?_ | refine all_live_map rfl ?_ | refine all_live_ptr rfl ?_))) (Nat.le_of_ble_eq_true rfl)) rfl (by simp) ?_
  refine al_op (op_assign rfl) rfl (by simp) ?_
  refine al_nil ?_
  refine aw_seq ?_
  refine aw_st (σ2 := ([(1, ver1, .row 4 [[.list 1 (n.ins.map encS), .list 3 (n.regs.map encR), .list 2 (n.gates.map encG), .list 2 (n.outs.map encP)]]), (74, vo, .row 2 (n.outs.map encP)), (73, vg0, .row 2 (n.gates.map encG)), (72, vr0, .row 3 (n.regs.map encR)), (71, vi, .row 1 (n.ins.map encS)), (3, ver3, .row 4 [[.slice 71 vi 0 n.ins.length, .slice 72 vr0 0 n.regs.length, .slice 73 vg0 0 n.gates.length, .slice 74 vo 0 n.outs.length]]), (4, ver4, .row 4 [[.list 1 (n.share.1.ins.map encS), .list 3 (n.share.1.regs.map encR), .list 2 (n.share.1.gates.map encG), .list 2 (n.share.1.outs.map encP)]])] : Store)) rfl ?_
  refine aw_region ?_
  refine al_op (op_load_ptr Try.underlying27 info27 rfl rfl rfl rfl) rfl (by simp) ?_
  refine al_callp into50 rfl rfl rfl (acn_new (lend_cons (by first | exact lend_same | exact .leaf _ _ (.vnil _) | exact .leaf _ _ (.nil _) | exact lend_whole rfl (by first | rfl | (simp; done) | (simp; omega)) (clo_map (fun _ => rfl)) | exact lend_netg (by first | exact .same _ | exact lendL_vnil | exact lendL_whole rfl (by first | rfl | (simp; done) | (simp; omega)) (clo_map (fun _ => rfl))) (by first | exact .same _ | exact lendL_vnil | exact lendL_whole rfl (by first | rfl | (simp; done) | (simp; omega)) (clo_map (fun _ => rfl))) (by first | exact .same _ | exact lendL_vnil | exact lendL_whole rfl (by first | rfl | (simp; done) | (simp; omega)) (clo_map (fun _ => rfl))) (by first | exact .same _ | exact lendL_vnil | exact lendL_whole rfl (by first | rfl | (simp; done) | (simp; omega)) (clo_map (fun _ => rfl)))) lend_nil) (q_cleanO n hn)) (by simp) ?_
  refine al_op (op_move rfl) rfl (by simp) ?_
  refine al_op (op_extract rfl rfl rfl) rfl (by simp) ?_
  refine al_op (op_extract rfl rfl rfl) rfl (by simp) ?_
  (refine al_opR (op_alloc 6 info27 rfl rfl) rfl (by simp) ?_; rintro _ _ ⟨ver6, rfl, rfl⟩)
  refine al_op (op_store_ptr info27 rfl rfl rfl rfl rfl rfl (by first | rfl | exact live_one rfl | (repeat (first | exact all_live_nil | refine all_live_clo rfl ?_ | refine all_live_slice rfl ?_ | refine all_live_map rfl ?_ | refine all_live_ptr rfl ?_))) (Nat.le_of_ble_eq_true rfl)) rfl (by simp) ?_
  refine al_op (op_assign rfl) rfl (by simp) ?_
  refine al_nil ?_
  refine aw_seq ?_
  refine aw_st (σ2 := ([(1, ver1, .row 4 [[.list 1 (n.ins.map encS), .list 3 (n.regs.map encR), .list 2 (n.gates.map encG), .list 2 (n.outs.map encP)]]), (74, vo, .row 2 (n.outs.map encP)), (73, vg0, .row 2 (n.gates.map encG)), (72, vr0, .row 3 (n.regs.map encR)), (71, vi, .row 1 (n.ins.map encS)), (3, ver3, .row 4 [[.slice 71 vi 0 n.ins.length, .slice 72 vr0 0 n.regs.length, .slice 73 vg0 0 n.gates.length, .slice 74 vo 0 n.outs.length]]), (4, ver4, .row 4 [[.list 1 (n.share.1.ins.map encS), .list 3 (n.share.1.regs.map encR), .list 2 (n.share.1.gates.map encG), .list 2 (n.share.1.outs.map encP)]]), (6, ver6, .row 4 [[.list 1 (n.clean.1.ins.map encS), .list 3 (n.clean.1.regs.map encR), .list 2 (n.clean.1.gates.map encG), .list 2 (n.clean.1.outs.map encP)]])] : Store)) rfl ?_
  refine aw_region ?_
  refine al_op (op_load_ptr Try.underlying27 info27 rfl rfl rfl rfl) rfl (by simp) ?_
  (refine al_call into45 rfl rfl rfl (acp_drop (lend_cons (by first | exact lend_same | exact .leaf _ _ (.vnil _) | exact .leaf _ _ (.nil _) | exact lend_whole rfl (by first | rfl | (simp; done) | (simp; omega)) (clo_map (fun _ => rfl)) | exact lend_netg (by first | exact .same _ | exact lendL_vnil | exact lendL_whole rfl (by first | rfl | (simp; done) | (simp; omega)) (clo_map (fun _ => rfl))) (by first | exact .same _ | exact lendL_vnil | exact lendL_whole rfl (by first | rfl | (simp; done) | (simp; omega)) (clo_map (fun _ => rfl))) (by first | exact .same _ | exact lendL_vnil | exact lendL_whole rfl (by first | rfl | (simp; done) | (simp; omega)) (clo_map (fun _ => rfl))) (by first | exact .same _ | exact lendL_vnil | exact lendL_whole rfl (by first | rfl | (simp; done) | (simp; omega)) (clo_map (fun _ => rfl)))) lend_nil) (c_levels n hn)) (by simp) ?_; rintro _ _ ⟨x34, rfl, rfl⟩)
  refine al_nil ?_
  refine aw_seq ?_
  refine aw_seq ?_
  refine aw_region ?_
  refine al_op (op_load_ptr Try.underlying27 info27 rfl rfl rfl rfl) rfl (by simp) ?_
  refine al_op (op_load_ptr Try.underlying27 info27 rfl rfl rfl rfl) rfl (by simp) ?_
  refine al_callp into41 rfl rfl rfl (acp_lent (lend_cons (by first | exact lend_same | exact .leaf _ _ (.vnil _) | exact .leaf _ _ (.nil _) | exact lend_whole rfl (by first | rfl | (simp; done) | (simp; omega)) (clo_map (fun _ => rfl)) | exact lend_netg (by first | exact .same _ | exact lendL_vnil | exact lendL_whole rfl (by first | rfl | (simp; done) | (simp; omega)) (clo_map (fun _ => rfl))) (by first | exact .same _ | exact lendL_vnil | exact lendL_whole rfl (by first | rfl | (simp; done) | (simp; omega)) (clo_map (fun _ => rfl))) (by first | exact .same _ | exact lendL_vnil | exact lendL_whole rfl (by first | rfl | (simp; done) | (simp; omega)) (clo_map (fun _ => rfl))) (by first | exact .same _ | exact lendL_vnil | exact lendL_whole rfl (by first | rfl | (simp; done) | (simp; omega)) (clo_map (fun _ => rfl)))) (lend_cons lend_same lend_nil)) (r_Same n n hn) rfl) (by simp) ?_
  refine al_op (op_not rfl) rfl (by simp) ?_
  refine al_nil ?_
  refine aw_cond rfl (fun h2 => ?_) (fun h2 => ?_)
  ·have gh2 := h2
   try simp only [nrm] at h2
   simp [sameN_refl] at gh2
  ·have gh2 := h2
   try simp only [nrm] at h2
   refine aw_skip ?_
   refine aw_seq ?_
   refine aw_plan [0, 1, 2, 3, 4, 5, 6, 7] (Checked.mixed Try.checked) (by kernel_rfl) ?_
   refine afl_float rfl rfl (opk_of (op_load_ptr Try.underlying27 info27 rfl rfl rfl rfl)) (by simp) ?_
   refine afl_float rfl rfl (opk_call into52 rfl rfl rfl (own_pure n.share.1 (by omega) (by omega) (by omega) (by omega) _)) (by simp) ?_
   refine afl_float rfl rfl (opk_of (op_load_ptr Try.underlying27 info27 rfl rfl rfl rfl)) (by simp) ?_
   refine afl_float rfl rfl (opk_call into52 rfl rfl rfl (own_pure n.clean.1 (by omega) (by omega) (by omega) (by omega) _)) (by simp) ?_
   refine afl_two 5 [4, 6, 7] rfl rfl rfl rfl (by kernel_rfl) (by kernel_rfl) (by simp) (by simp) (next_opR (op_alloc 8 info27 rfl rfl) ?_) (next_opR (op_alloc 9 info27 rfl rfl) ?_)
   ·rintro _ _ ⟨ver8, rfl, rfl⟩; refine ⟨?_, ?_⟩
    ·
     refine loose_k rfl (opk_call into52 rfl rfl rfl (own_pure n.clean.1 (by omega) (by omega) (by omega) (by omega) _)) ?_
     refine loose_k rfl (opk_of (op_load_ptr Try.underlying27 info27 rfl rfl rfl rfl)) ?_
     refine loose_k rfl (opk_call into52 rfl rfl rfl (own_pure n.share.1 (by omega) (by omega) (by omega) (by omega) _)) ?_
     refine loose_k rfl (opk_of (op_load_ptr Try.underlying27 info27 rfl rfl rfl rfl)) ?_
     exact loose_nil
    (refine afl_effR rfl rfl (by kernel_rfl) (op_alloc 9 info27 rfl rfl) (by simp) ?_; rintro _ _ ⟨ver9, rfl, rfl⟩; refine ⟨?_, ?_⟩)
    ·
     refine loose_fix rfl ?_
     refine loose_k rfl (opk_call into52 rfl rfl rfl (own_pure n.clean.1 (by omega) (by omega) (by omega) (by omega) _)) ?_
     refine loose_k rfl (opk_of (op_load_ptr Try.underlying27 info27 rfl rfl rfl rfl)) ?_
     refine loose_k rfl (opk_call into52 rfl rfl rfl (own_pure n.share.1 (by omega) (by omega) (by omega) (by omega) _)) ?_
     refine loose_k rfl (opk_of (op_load_ptr Try.underlying27 info27 rfl rfl rfl rfl)) ?_
     exact loose_nil
    (refine afl_eff rfl rfl (by kernel_rfl) (op_store_ptr info27 rfl rfl rfl rfl rfl rfl (by first | rfl | exact live_one rfl | (repeat (first | exact all_live_nil | refine all_live_clo rfl ?_ | refine all_live_slice rfl ?_ | refine all_live_map rfl ?_ | refine all_live_ptr rfl ?_))) (Nat.le_of_ble_eq_true rfl)) (by simp) ?_ ?_)
    ·
     refine loose_fix rfl ?_
     refine loose_fix rfl ?_
     refine loose_anc 3 rfl (by kernel_rfl) ?_
     refine loose_anc 2 rfl (by kernel_rfl) ?_
     refine loose_anc 1 rfl (by kernel_rfl) ?_
     refine loose_anc 0 rfl (by kernel_rfl) ?_
     exact loose_nil
    (refine afl_eff rfl rfl (by kernel_rfl) (op_store_ptr info27 rfl rfl rfl rfl rfl rfl (by first | rfl | exact live_one rfl | (repeat (first | exact all_live_nil | refine all_live_clo rfl ?_ | refine all_live_slice rfl ?_ | refine all_live_map rfl ?_ | refine all_live_ptr rfl ?_))) (Nat.le_of_ble_eq_true rfl)) (by simp) ?_ ?_)
    ·
     refine loose_fix rfl ?_
     refine loose_fix rfl ?_
     refine loose_fix rfl ?_
     refine loose_anc 3 rfl (by kernel_rfl) ?_
     refine loose_anc 2 rfl (by kernel_rfl) ?_
     refine loose_anc 1 rfl (by kernel_rfl) ?_
     refine loose_anc 0 rfl (by kernel_rfl) ?_
     exact loose_nil
    refine afl_end ?_
    refine aw_seq ?_
    first | refine aw_st (σ2 := ([(1, ver1, .row 4 [[.list 1 (n.ins.map encS), .list 3 (n.regs.map encR), .list 2 (n.gates.map encG), .list 2 (n.outs.map encP)]]), (74, vo, .row 2 (n.outs.map encP)), (73, vg0, .row 2 (n.gates.map encG)), (72, vr0, .row 3 (n.regs.map encR)), (71, vi, .row 1 (n.ins.map encS)), (3, ver3, .row 4 [[.slice 71 vi 0 n.ins.length, .slice 72 vr0 0 n.regs.length, .slice 73 vg0 0 n.gates.length, .slice 74 vo 0 n.outs.length]]), (4, ver4, .row 4 [[.list 1 (n.share.1.ins.map encS), .list 3 (n.share.1.regs.map encR), .list 2 (n.share.1.gates.map encG), .list 2 (n.share.1.outs.map encP)]]), (6, ver6, .row 4 [[.list 1 (n.clean.1.ins.map encS), .list 3 (n.clean.1.regs.map encR), .list 2 (n.clean.1.gates.map encG), .list 2 (n.clean.1.outs.map encP)]]), (8, ver8, .row 4 [[.list 1 (n.share.1.ins.map encS), .list 3 (n.share.1.regs.map encR), .list 2 (n.share.1.gates.map encG), .list 2 (n.share.1.outs.map encP)]]), (9, ver9, .row 4 [[.list 1 (n.clean.1.ins.map encS), .list 3 (n.clean.1.regs.map encR), .list 2 (n.clean.1.gates.map encG), .list 2 (n.clean.1.outs.map encP)]])] : Store)) rfl ?_ | refine aw_st (σ2 := ([(1, ver1, .row 4 [[.list 1 (n.ins.map encS), .list 3 (n.regs.map encR), .list 2 (n.gates.map encG), .list 2 (n.outs.map encP)]]), (74, vo, .row 2 (n.outs.map encP)), (73, vg0, .row 2 (n.gates.map encG)), (72, vr0, .row 3 (n.regs.map encR)), (71, vi, .row 1 (n.ins.map encS)), (3, ver3, .row 4 [[.slice 71 vi 0 n.ins.length, .slice 72 vr0 0 n.regs.length, .slice 73 vg0 0 n.gates.length, .slice 74 vo 0 n.outs.length]]), (4, ver4, .row 4 [[.list 1 (n.share.1.ins.map encS), .list 3 (n.share.1.regs.map encR), .list 2 (n.share.1.gates.map encG), .list 2 (n.share.1.outs.map encP)]]), (6, ver6, .row 4 [[.list 1 (n.clean.1.ins.map encS), .list 3 (n.clean.1.regs.map encR), .list 2 (n.clean.1.gates.map encG), .list 2 (n.clean.1.outs.map encP)]]), (9, ver9, .row 4 [[.list 1 (n.clean.1.ins.map encS), .list 3 (n.clean.1.regs.map encR), .list 2 (n.clean.1.gates.map encG), .list 2 (n.clean.1.outs.map encP)]]), (8, ver8, .row 4 [[.list 1 (n.share.1.ins.map encS), .list 3 (n.share.1.regs.map encR), .list 2 (n.share.1.gates.map encG), .list 2 (n.share.1.outs.map encP)]])] : Store)) rfl ?_
    refine aw_region ?_
    refine al_op (op_load_ptr Try.underlying27 info27 rfl rfl rfl rfl) rfl (by simp) ?_
    (refine al_call into53 rfl rfl rfl (spoil_at 71 72 73 74 vi vr0 vg0 vo n.ins n.regs n.gates n.outs (by omega) (by omega) (by omega) (by omega) rfl rfl rfl rfl rfl rfl) (by simp) ?_; rintro _ _ ⟨l1, l2, l3, l4, rfl, rfl⟩)
    refine al_nil ?_
    refine aw_seq ?_
    refine aw_seq ?_
    refine aw_freeze (fun i => Nat.beq i 4 || Nat.beq i 6 || Nat.beq i 8 || Nat.beq i 9) fsub_same ?_
    first | refine aw_st (σ2 := ([(4, ver4, .row 4 [[.list 1 (n.share.1.ins.map encS), .list 3 (n.share.1.regs.map encR), .list 2 (n.share.1.gates.map encG), .list 2 (n.share.1.outs.map encP)]]), (6, ver6, .row 4 [[.list 1 (n.clean.1.ins.map encS), .list 3 (n.clean.1.regs.map encR), .list 2 (n.clean.1.gates.map encG), .list 2 (n.clean.1.outs.map encP)]]), (8, ver8, .row 4 [[.list 1 (n.share.1.ins.map encS), .list 3 (n.share.1.regs.map encR), .list 2 (n.share.1.gates.map encG), .list 2 (n.share.1.outs.map encP)]]), (9, ver9, .row 4 [[.list 1 (n.clean.1.ins.map encS), .list 3 (n.clean.1.regs.map encR), .list 2 (n.clean.1.gates.map encG), .list 2 (n.clean.1.outs.map encP)]])] : Store)) rfl ?_ | refine aw_st (σ2 := ([(4, ver4, .row 4 [[.list 1 (n.share.1.ins.map encS), .list 3 (n.share.1.regs.map encR), .list 2 (n.share.1.gates.map encG), .list 2 (n.share.1.outs.map encP)]]), (6, ver6, .row 4 [[.list 1 (n.clean.1.ins.map encS), .list 3 (n.clean.1.regs.map encR), .list 2 (n.clean.1.gates.map encG), .list 2 (n.clean.1.outs.map encP)]]), (9, ver9, .row 4 [[.list 1 (n.clean.1.ins.map encS), .list 3 (n.clean.1.regs.map encR), .list 2 (n.clean.1.gates.map encG), .list 2 (n.clean.1.outs.map encP)]]), (8, ver8, .row 4 [[.list 1 (n.share.1.ins.map encS), .list 3 (n.share.1.regs.map encR), .list 2 (n.share.1.gates.map encG), .list 2 (n.share.1.outs.map encP)]])] : Store)) rfl ?_
    refine aw_region ?_
    refine al_op (op_load_ptr Try.underlying27 info27 rfl rfl rfl rfl) rfl (by simp) ?_
    refine al_op (op_load_ptr Try.underlying27 info27 rfl rfl rfl rfl) rfl (by simp) ?_
    refine al_callp into41 rfl rfl rfl (r_Same n.share.1 n.share.1 s1 _) (by simp) ?_
    refine al_op (op_not rfl) rfl (by simp) ?_
    refine al_op (op_move rfl) rfl (by simp) ?_
    apply al_or 5 49 54 rfl
    ·intro h3; have gh3 := h3
     try simp only [nrm] at h3
     refine al_take (op_load_ptr Try.underlying27 info27 rfl rfl rfl rfl) rfl rfl rfl rfl (by simp) ?_
     refine al_take (op_load_ptr Try.underlying27 info27 rfl rfl rfl rfl) rfl rfl rfl rfl (by simp) ?_
     refine al_callp_take into41 rfl rfl rfl rfl rfl rfl (r_Same n.clean.1 n.clean.1 s2 _) (by simp) ?_
     refine al_take (op_not rfl) rfl rfl rfl rfl (by simp) ?_
     refine al_op (op_pick rfl rfl) rfl (by simp) ?_
     refine al_nil ⟨rfl, rfl, rfl, keep_of ?_⟩
     repeat (first | exact subx_refl | exact subx_known rfl gh3 subx_refl | refine subx_put rfl ?_)
    ·intro h3; have gh3 := h3
     try simp only [nrm] at h3
     refine al_pass rfl rfl rfl rfl (by simp) ?_
     refine al_pass rfl rfl rfl rfl (by simp) ?_
     refine al_pass rfl rfl rfl rfl (by simp) ?_
     refine al_pass rfl rfl rfl rfl (by simp) ?_
     refine al_op (op_pick rfl rfl) rfl (by simp) ?_
     refine al_nil ⟨rfl, rfl, rfl, keep_of ?_⟩
     repeat (first | exact subx_refl | exact subx_known rfl gh3 subx_refl | refine subx_put rfl ?_)
    refine al_nil ?_
    refine aw_cond rfl (fun h4 => ?_) (fun h4 => ?_)
    ·have gh4 := h4
     try simp only [nrm] at h4
     simp [sameN_refl] at gh4
    ·have gh4 := h4
     try simp only [nrm] at h4
     refine aw_skip ?_
     refine aw_seq ?_
     refine aw_freeze (fun _ => false) fsub_same ?_
     refine aw_st (keep_nothing _) ?_
     refine aw_region ?_
     refine al_op (op_list encS [sA, sB] Try.underlying22 info9 rfl rfl (by decide) rfl (by decide) rfl (by first | rfl | (repeat (first | exact parts_nil | refine parts_cons rfl (by repeat (first | exact all_live_nil | refine all_live_clo rfl ?_ | refine all_live_slice rfl ?_ | refine all_live_map rfl ?_ | refine all_live_ptr rfl ?_)) ?_))) rfl rfl rfl rfl) rfl (by simp) ?_
     refine al_op (op_list encS [sR] Try.underlying22 info9 rfl rfl (by decide) rfl (by decide) rfl (by first | rfl | (repeat (first | exact parts_nil | refine parts_cons rfl (by repeat (first | exact all_live_nil | refine all_live_clo rfl ?_ | refine all_live_slice rfl ?_ | refine all_live_map rfl ?_ | refine all_live_ptr rfl ?_)) ?_))) rfl rfl rfl rfl) rfl (by simp) ?_
     refine al_op (op_list encB ([0] : List Int) Try.underlying28 info65 rfl rfl (by decide) rfl (by decide) rfl (by first | rfl | (repeat (first | exact parts_nil | refine parts_cons rfl (by repeat (first | exact all_live_nil | refine all_live_clo rfl ?_ | refine all_live_slice rfl ?_ | refine all_live_map rfl ?_ | refine all_live_ptr rfl ?_)) ?_))) rfl rfl rfl rfl) rfl (by simp) ?_
     (refine al_call into28 rfl rfl rfl ow_make (by simp) ?_; rintro _ _ ⟨vm, vg, vt, vr, rfl, rfl⟩)
     refine al_op (op_move rfl) rfl (by simp) ?_
     refine al_op (op_extract rfl rfl rfl) rfl (by simp) ?_
     refine al_op (op_extract rfl rfl rfl) rfl (by simp) ?_
     refine al_op (op_assign rfl) rfl (by simp) ?_
     refine al_op (op_assign rfl) rfl (by simp) ?_
     refine al_nil ?_
     refine aw_seq ?_
     refine aw_seq ?_
     refine aw_region ?_
     refine al_op (op_move rfl) rfl (by simp) ?_
     refine al_op (op_pnil_ptr Try.underlying48 rfl rfl rfl) rfl (by simp) ?_
     refine al_nil ?_
     refine aw_cond rfl (fun h5 => ?_) (fun h5 => ?_)
     ·have gh5 := h5
      try simp only [nrm] at h5
      exact absurd gh5 (by decide)
     ·have gh5 := h5
      try simp only [nrm] at h5
      refine aw_skip ?_
      refine aw_seq ?_
      refine aw_region ?_
      refine al_op (op_move rfl) rfl (by simp) ?_
      (refine al_call into31 rfl rfl rfl ow_and (by simp) ?_; rintro _ _ ⟨vg65, rfl, rfl⟩)
      refine al_nil ?_
      refine aw_seq ?_
      refine aw_region ?_
      refine al_op (op_move rfl) rfl (by simp) ?_
      refine al_op (op_list encI ([8] : List Int) Try.underlying54 info3 rfl rfl (by decide) rfl (by decide) rfl (by first | rfl | (repeat (first | exact parts_nil | refine parts_cons rfl (by repeat (first | exact all_live_nil | refine all_live_clo rfl ?_ | refine all_live_slice rfl ?_ | refine all_live_map rfl ?_ | refine all_live_ptr rfl ?_)) ?_))) rfl rfl rfl rfl) rfl (by simp) ?_
      refine al_op (op_build_struct Try.underlying69 info69 rfl place69 rfl (by first | rfl | (repeat (first | exact parts_nil | refine parts_cons rfl (by repeat (first | exact all_live_nil | refine all_live_clo rfl ?_ | refine all_live_slice rfl ?_ | refine all_live_map rfl ?_ | refine all_live_ptr rfl ?_)) ?_))) rfl) rfl (by simp) ?_
      refine al_op (op_list encP outsO Try.underlying25 info69 rfl rfl (by decide) rfl (by decide) rfl (by first | rfl | (repeat (first | exact parts_nil | refine parts_cons rfl (by repeat (first | exact all_live_nil | refine all_live_clo rfl ?_ | refine all_live_slice rfl ?_ | refine all_live_map rfl ?_ | refine all_live_ptr rfl ?_)) ?_))) rfl rfl rfl rfl) rfl (by simp) ?_
      (refine al_call into39 rfl rfl rfl ow_netO (by simp) ?_; rintro _ _ ⟨v5, v4, v6, v7, rfl, rfl⟩)
      refine al_op (op_move rfl) rfl (by simp) ?_
      refine al_op (op_extract rfl rfl rfl) rfl (by simp) ?_
      refine al_op (op_extract rfl rfl rfl) rfl (by simp) ?_
      (refine al_opR (op_alloc 12 info27 rfl rfl) rfl (by simp) ?_; rintro _ _ ⟨ver12, rfl, rfl⟩)
      refine al_op (op_store_ptr info27 rfl rfl rfl rfl rfl rfl (by first | rfl | exact live_one rfl | (repeat (first | exact all_live_nil | refine all_live_clo rfl ?_ | refine all_live_slice rfl ?_ | refine all_live_map rfl ?_ | refine all_live_ptr rfl ?_))) (Nat.le_of_ble_eq_true rfl)) rfl (by simp) ?_
      refine al_op (op_assign rfl) rfl (by simp) ?_
      refine al_nil ?_
      refine aw_seq ?_
      refine aw_st (σ2 := OW vm vg65 vt vr MO2 (netRows3 75 74 76 77 v5 v4 v6 v7 (MO2.nexts [8] outsO) ++ [(12, ver12, .row 4 [[.slice 75 v5 0 (MO2.nexts [8] outsO).ins.length, .slice 74 v4 0 (MO2.nexts [8] outsO).regs.length, .slice 76 v6 0 (MO2.nexts [8] outsO).gates.length, .slice 77 v7 0 (MO2.nexts [8] outsO).outs.length]])])) rfl ?_
      refine aw_region ?_
      refine al_op (op_load_ptr Try.underlying27 info27 rfl rfl rfl rfl) rfl (by simp) ?_
      refine al_callp into52 rfl rfl rfl (acn_new (lend_cons (by first | exact lend_same | exact .leaf _ _ (.vnil _) | exact .leaf _ _ (.nil _) | exact lend_whole rfl (by first | rfl | (simp; done) | (simp; omega)) (clo_map (fun _ => rfl)) | exact lend_netg (by first | exact .same _ | exact lendL_vnil | exact lendL_whole rfl (by first | rfl | (simp; done) | (simp; omega)) (clo_map (fun _ => rfl))) (by first | exact .same _ | exact lendL_vnil | exact lendL_whole rfl (by first | rfl | (simp; done) | (simp; omega)) (clo_map (fun _ => rfl))) (by first | exact .same _ | exact lendL_vnil | exact lendL_whole rfl (by first | rfl | (simp; done) | (simp; omega)) (clo_map (fun _ => rfl))) (by first | exact .same _ | exact lendL_vnil | exact lendL_whole rfl (by first | rfl | (simp; done) | (simp; omega)) (clo_map (fun _ => rfl)))) lend_nil) (r_own_new (MO2.nexts [8] outsO) (by decide) (by decide) (by decide) (by decide))) (by simp) ?_
      (refine al_opR (op_alloc 14 info27 rfl rfl) rfl (by simp) ?_; rintro _ _ ⟨ver14, rfl, rfl⟩)
      refine al_op (op_store_ptr info27 rfl rfl rfl rfl rfl rfl (by first | rfl | exact live_one rfl | (repeat (first | exact all_live_nil | refine all_live_clo rfl ?_ | refine all_live_slice rfl ?_ | refine all_live_map rfl ?_ | refine all_live_ptr rfl ?_))) (by decide)) rfl (by simp) ?_
      refine al_nil ?_
      refine aw_seq ?_
      refine aw_st (σ2 := OW vm vg65 vt vr MO2 (netRows3 75 74 76 77 v5 v4 v6 v7 (MO2.nexts [8] outsO) ++ [(12, ver12, .row 4 [[.slice 75 v5 0 (MO2.nexts [8] outsO).ins.length, .slice 74 v4 0 (MO2.nexts [8] outsO).regs.length, .slice 76 v6 0 (MO2.nexts [8] outsO).gates.length, .slice 77 v7 0 (MO2.nexts [8] outsO).outs.length]]), (14, ver14, .row 4 [[.list 1 ((MO2.nexts [8] outsO).ins.map encS), .list 3 ((MO2.nexts [8] outsO).regs.map encR), .list 2 ((MO2.nexts [8] outsO).gates.map encG), .list 2 ((MO2.nexts [8] outsO).outs.map encP)]])])) rfl ?_
      refine aw_region ?_
      refine al_op (op_load_ptr Try.underlying27 info27 rfl rfl rfl rfl) rfl (by simp) ?_
      (refine al_call into53 rfl rfl rfl (spoil_at 75 74 76 77 v5 v4 v6 v7 (MO2.nexts [8] outsO).ins (MO2.nexts [8] outsO).regs (MO2.nexts [8] outsO).gates (MO2.nexts [8] outsO).outs (by decide) (by decide) (by decide) (by decide) rfl rfl rfl rfl rfl rfl) (by simp) ?_; rintro _ _ ⟨m1, m2, m3, m4, rfl, rfl⟩)
      refine al_nil ?_
      refine aw_seq ?_
      refine aw_freeze (fun i => Nat.beq i 51 || Nat.beq i 52 || Nat.beq i 21 || Nat.beq i 19 || Nat.beq i 14) fsub_same ?_
      refine aw_st (σ2 := OW vm vg65 vt vr MO2 [(14, ver14, .row 4 [[.list 1 ((MO2.nexts [8] outsO).ins.map encS), .list 3 ((MO2.nexts [8] outsO).regs.map encR), .list 2 ((MO2.nexts [8] outsO).gates.map encG), .list 2 ((MO2.nexts [8] outsO).outs.map encP)]])]) rfl ?_
      refine aw_region ?_
      refine al_op (op_move rfl) rfl (by simp) ?_
      refine al_op (op_list encI ([8] : List Int) Try.underlying54 info3 rfl rfl (by decide) rfl (by decide) rfl (by first | rfl | (repeat (first | exact parts_nil | refine parts_cons rfl (by repeat (first | exact all_live_nil | refine all_live_clo rfl ?_ | refine all_live_slice rfl ?_ | refine all_live_map rfl ?_ | refine all_live_ptr rfl ?_)) ?_))) rfl rfl rfl rfl) rfl (by simp) ?_
      refine al_op (op_build_struct Try.underlying69 info69 rfl place69 rfl (by first | rfl | (repeat (first | exact parts_nil | refine parts_cons rfl (by repeat (first | exact all_live_nil | refine all_live_clo rfl ?_ | refine all_live_slice rfl ?_ | refine all_live_map rfl ?_ | refine all_live_ptr rfl ?_)) ?_))) rfl) rfl (by simp) ?_
      refine al_op (op_list encP outsO Try.underlying25 info69 rfl rfl (by decide) rfl (by decide) rfl (by first | rfl | (repeat (first | exact parts_nil | refine parts_cons rfl (by repeat (first | exact all_live_nil | refine all_live_clo rfl ?_ | refine all_live_slice rfl ?_ | refine all_live_map rfl ?_ | refine all_live_ptr rfl ?_)) ?_))) rfl rfl rfl rfl) rfl (by simp) ?_
      refine al_callp into39 rfl rfl rfl (ow_ro (m_Net MO2 vm vg65 vt vr [8] outsO mo2_good (by decide) (by decide) (by decide) (by decide)) rfl rfl rfl) (by simp) ?_
      refine al_op (op_move rfl) rfl (by simp) ?_
      refine al_op (op_extract rfl rfl rfl) rfl (by simp) ?_
      refine al_op (op_extract rfl rfl rfl) rfl (by simp) ?_
      (refine al_opR (op_alloc 15 info27 rfl rfl) rfl (by simp) ?_; rintro _ _ ⟨ver15, rfl, rfl⟩)
      refine al_op (op_store_ptr info27 rfl rfl rfl rfl rfl rfl (by first | rfl | exact live_one rfl | (repeat (first | exact all_live_nil | refine all_live_clo rfl ?_ | refine all_live_slice rfl ?_ | refine all_live_map rfl ?_ | refine all_live_ptr rfl ?_))) (by decide)) rfl (by simp) ?_
      refine al_op (op_assign rfl) rfl (by simp) ?_
      refine al_nil ?_
      refine aw_seq ?_
      refine aw_region ?_
      refine al_op (op_load_ptr Try.underlying27 info27 rfl rfl rfl rfl) rfl (by simp) ?_
      refine al_op (op_load_ptr Try.underlying27 info27 rfl rfl rfl rfl) rfl (by simp) ?_
      refine al_callp into41 rfl rfl rfl (r_Same (MO2.net [8] outsO).1 (MO2.nexts [8] outsO) (by rw [mo2_net]; exact mo2_small) _) (by simp) ?_
      refine al_op (op_move rfl) rfl (by simp) ?_
      apply al_and 2 89 91 rfl
      ·intro h6; have gh6 := h6
       try simp only [nrm] at h6
       refine al_callp_take into15 rfl rfl rfl rfl rfl rfl ((l_awake ) _) (by simp) ?_
       refine al_op (op_pick rfl rfl) rfl (by simp) ?_
       refine al_nil ⟨rfl, rfl, rfl, keep_of ?_⟩
       repeat (first | exact subx_refl | exact subx_known rfl gh6 subx_refl | refine subx_put rfl ?_)
      ·intro h6; have gh6 := h6
       try simp only [nrm] at h6
       refine al_pass rfl rfl rfl rfl (by simp) ?_
       refine al_op (op_pick rfl rfl) rfl (by simp) ?_
       refine al_nil ⟨rfl, rfl, rfl, keep_of ?_⟩
       repeat (first | exact subx_refl | exact subx_known rfl gh6 subx_refl | refine subx_put rfl ?_)
      refine al_op (op_assign rfl) rfl (by simp) ?_
      refine al_nil ?_
      refine aw_freeze (fun _ => false) (fsub_cons (t := 2) rfl (.leaf _ _ (.same _)) fsub_nil) ?_
      refine aw_ret ?_
      refine ⟨_, res_1 rfl rfl, ?_, rfl⟩
      first | rfl | (simp [mo2_net, sameN_refl]; done)
   ·rintro _ _ ⟨ver9, rfl, rfl⟩; refine ⟨?_, ?_⟩
    ·
     refine loose_k rfl (opk_call into52 rfl rfl rfl (own_pure n.clean.1 (by omega) (by omega) (by omega) (by omega) _)) ?_
     refine loose_k rfl (opk_of (op_load_ptr Try.underlying27 info27 rfl rfl rfl rfl)) ?_
     refine loose_k rfl (opk_call into52 rfl rfl rfl (own_pure n.share.1 (by omega) (by omega) (by omega) (by omega) _)) ?_
     refine loose_k rfl (opk_of (op_load_ptr Try.underlying27 info27 rfl rfl rfl rfl)) ?_
     exact loose_nil
    (refine afl_effR rfl rfl (by kernel_rfl) (op_alloc 8 info27 rfl rfl) (by simp) ?_; rintro _ _ ⟨ver8, rfl, rfl⟩; refine ⟨?_, ?_⟩)
    ·
     refine loose_fix rfl ?_
     refine loose_k rfl (opk_call into52 rfl rfl rfl (own_pure n.clean.1 (by omega) (by omega) (by omega) (by omega) _)) ?_
     refine loose_k rfl (opk_of (op_load_ptr Try.underlying27 info27 rfl rfl rfl rfl)) ?_
     refine loose_k rfl (opk_call into52 rfl rfl rfl (own_pure n.share.1 (by omega) (by omega) (by omega) (by omega) _)) ?_
     refine loose_k rfl (opk_of (op_load_ptr Try.underlying27 info27 rfl rfl rfl rfl)) ?_
     exact loose_nil
    (refine afl_eff rfl rfl (by kernel_rfl) (op_store_ptr info27 rfl rfl rfl rfl rfl rfl (by first | rfl | exact live_one rfl | (repeat (first | exact all_live_nil | refine all_live_clo rfl ?_ | refine all_live_slice rfl ?_ | refine all_live_map rfl ?_ | refine all_live_ptr rfl ?_))) (Nat.le_of_ble_eq_true rfl)) (by simp) ?_ ?_)
    ·
     refine loose_fix rfl ?_
     refine loose_fix rfl ?_
     refine loose_anc 3 rfl (by kernel_rfl) ?_
     refine loose_anc 2 rfl (by kernel_rfl) ?_
     refine loose_anc 1 rfl (by kernel_rfl) ?_
     refine loose_anc 0 rfl (by kernel_rfl) ?_
     exact loose_nil
    (refine afl_eff rfl rfl (by kernel_rfl) (op_store_ptr info27 rfl rfl rfl rfl rfl rfl (by first | rfl | exact live_one rfl | (repeat (first | exact all_live_nil | refine all_live_clo rfl ?_ | refine all_live_slice rfl ?_ | refine all_live_map rfl ?_ | refine all_live_ptr rfl ?_))) (Nat.le_of_ble_eq_true rfl)) (by simp) ?_ ?_)
    ·
     refine loose_fix rfl ?_
     refine loose_fix rfl ?_
     refine loose_fix rfl ?_
     refine loose_anc 3 rfl (by kernel_rfl) ?_
     refine loose_anc 2 rfl (by kernel_rfl) ?_
     refine loose_anc 1 rfl (by kernel_rfl) ?_
     refine loose_anc 0 rfl (by kernel_rfl) ?_
     exact loose_nil
    refine afl_end ?_
    refine aw_seq ?_
    first | refine aw_st (σ2 := ([(1, ver1, .row 4 [[.list 1 (n.ins.map encS), .list 3 (n.regs.map encR), .list 2 (n.gates.map encG), .list 2 (n.outs.map encP)]]), (74, vo, .row 2 (n.outs.map encP)), (73, vg0, .row 2 (n.gates.map encG)), (72, vr0, .row 3 (n.regs.map encR)), (71, vi, .row 1 (n.ins.map encS)), (3, ver3, .row 4 [[.slice 71 vi 0 n.ins.length, .slice 72 vr0 0 n.regs.length, .slice 73 vg0 0 n.gates.length, .slice 74 vo 0 n.outs.length]]), (4, ver4, .row 4 [[.list 1 (n.share.1.ins.map encS), .list 3 (n.share.1.regs.map encR), .list 2 (n.share.1.gates.map encG), .list 2 (n.share.1.outs.map encP)]]), (6, ver6, .row 4 [[.list 1 (n.clean.1.ins.map encS), .list 3 (n.clean.1.regs.map encR), .list 2 (n.clean.1.gates.map encG), .list 2 (n.clean.1.outs.map encP)]]), (8, ver8, .row 4 [[.list 1 (n.share.1.ins.map encS), .list 3 (n.share.1.regs.map encR), .list 2 (n.share.1.gates.map encG), .list 2 (n.share.1.outs.map encP)]]), (9, ver9, .row 4 [[.list 1 (n.clean.1.ins.map encS), .list 3 (n.clean.1.regs.map encR), .list 2 (n.clean.1.gates.map encG), .list 2 (n.clean.1.outs.map encP)]])] : Store)) rfl ?_ | refine aw_st (σ2 := ([(1, ver1, .row 4 [[.list 1 (n.ins.map encS), .list 3 (n.regs.map encR), .list 2 (n.gates.map encG), .list 2 (n.outs.map encP)]]), (74, vo, .row 2 (n.outs.map encP)), (73, vg0, .row 2 (n.gates.map encG)), (72, vr0, .row 3 (n.regs.map encR)), (71, vi, .row 1 (n.ins.map encS)), (3, ver3, .row 4 [[.slice 71 vi 0 n.ins.length, .slice 72 vr0 0 n.regs.length, .slice 73 vg0 0 n.gates.length, .slice 74 vo 0 n.outs.length]]), (4, ver4, .row 4 [[.list 1 (n.share.1.ins.map encS), .list 3 (n.share.1.regs.map encR), .list 2 (n.share.1.gates.map encG), .list 2 (n.share.1.outs.map encP)]]), (6, ver6, .row 4 [[.list 1 (n.clean.1.ins.map encS), .list 3 (n.clean.1.regs.map encR), .list 2 (n.clean.1.gates.map encG), .list 2 (n.clean.1.outs.map encP)]]), (9, ver9, .row 4 [[.list 1 (n.clean.1.ins.map encS), .list 3 (n.clean.1.regs.map encR), .list 2 (n.clean.1.gates.map encG), .list 2 (n.clean.1.outs.map encP)]]), (8, ver8, .row 4 [[.list 1 (n.share.1.ins.map encS), .list 3 (n.share.1.regs.map encR), .list 2 (n.share.1.gates.map encG), .list 2 (n.share.1.outs.map encP)]])] : Store)) rfl ?_
    refine aw_region ?_
    refine al_op (op_load_ptr Try.underlying27 info27 rfl rfl rfl rfl) rfl (by simp) ?_
    (refine al_call into53 rfl rfl rfl (spoil_at 71 72 73 74 vi vr0 vg0 vo n.ins n.regs n.gates n.outs (by omega) (by omega) (by omega) (by omega) rfl rfl rfl rfl rfl rfl) (by simp) ?_; rintro _ _ ⟨l1, l2, l3, l4, rfl, rfl⟩)
    refine al_nil ?_
    refine aw_seq ?_
    refine aw_seq ?_
    refine aw_freeze (fun i => Nat.beq i 4 || Nat.beq i 6 || Nat.beq i 8 || Nat.beq i 9) fsub_same ?_
    first | refine aw_st (σ2 := ([(4, ver4, .row 4 [[.list 1 (n.share.1.ins.map encS), .list 3 (n.share.1.regs.map encR), .list 2 (n.share.1.gates.map encG), .list 2 (n.share.1.outs.map encP)]]), (6, ver6, .row 4 [[.list 1 (n.clean.1.ins.map encS), .list 3 (n.clean.1.regs.map encR), .list 2 (n.clean.1.gates.map encG), .list 2 (n.clean.1.outs.map encP)]]), (8, ver8, .row 4 [[.list 1 (n.share.1.ins.map encS), .list 3 (n.share.1.regs.map encR), .list 2 (n.share.1.gates.map encG), .list 2 (n.share.1.outs.map encP)]]), (9, ver9, .row 4 [[.list 1 (n.clean.1.ins.map encS), .list 3 (n.clean.1.regs.map encR), .list 2 (n.clean.1.gates.map encG), .list 2 (n.clean.1.outs.map encP)]])] : Store)) rfl ?_ | refine aw_st (σ2 := ([(4, ver4, .row 4 [[.list 1 (n.share.1.ins.map encS), .list 3 (n.share.1.regs.map encR), .list 2 (n.share.1.gates.map encG), .list 2 (n.share.1.outs.map encP)]]), (6, ver6, .row 4 [[.list 1 (n.clean.1.ins.map encS), .list 3 (n.clean.1.regs.map encR), .list 2 (n.clean.1.gates.map encG), .list 2 (n.clean.1.outs.map encP)]]), (9, ver9, .row 4 [[.list 1 (n.clean.1.ins.map encS), .list 3 (n.clean.1.regs.map encR), .list 2 (n.clean.1.gates.map encG), .list 2 (n.clean.1.outs.map encP)]]), (8, ver8, .row 4 [[.list 1 (n.share.1.ins.map encS), .list 3 (n.share.1.regs.map encR), .list 2 (n.share.1.gates.map encG), .list 2 (n.share.1.outs.map encP)]])] : Store)) rfl ?_
    refine aw_region ?_
    refine al_op (op_load_ptr Try.underlying27 info27 rfl rfl rfl rfl) rfl (by simp) ?_
    refine al_op (op_load_ptr Try.underlying27 info27 rfl rfl rfl rfl) rfl (by simp) ?_
    refine al_callp into41 rfl rfl rfl (r_Same n.share.1 n.share.1 s1 _) (by simp) ?_
    refine al_op (op_not rfl) rfl (by simp) ?_
    refine al_op (op_move rfl) rfl (by simp) ?_
    apply al_or 5 49 54 rfl
    ·intro h7; have gh7 := h7
     try simp only [nrm] at h7
     refine al_take (op_load_ptr Try.underlying27 info27 rfl rfl rfl rfl) rfl rfl rfl rfl (by simp) ?_
     refine al_take (op_load_ptr Try.underlying27 info27 rfl rfl rfl rfl) rfl rfl rfl rfl (by simp) ?_
     refine al_callp_take into41 rfl rfl rfl rfl rfl rfl (r_Same n.clean.1 n.clean.1 s2 _) (by simp) ?_
     refine al_take (op_not rfl) rfl rfl rfl rfl (by simp) ?_
     refine al_op (op_pick rfl rfl) rfl (by simp) ?_
     refine al_nil ⟨rfl, rfl, rfl, keep_of ?_⟩
     repeat (first | exact subx_refl | exact subx_known rfl gh7 subx_refl | refine subx_put rfl ?_)
    ·intro h7; have gh7 := h7
     try simp only [nrm] at h7
     refine al_pass rfl rfl rfl rfl (by simp) ?_
     refine al_pass rfl rfl rfl rfl (by simp) ?_
     refine al_pass rfl rfl rfl rfl (by simp) ?_
     refine al_pass rfl rfl rfl rfl (by simp) ?_
     refine al_op (op_pick rfl rfl) rfl (by simp) ?_
     refine al_nil ⟨rfl, rfl, rfl, keep_of ?_⟩
     repeat (first | exact subx_refl | exact subx_known rfl gh7 subx_refl | refine subx_put rfl ?_)
    refine al_nil ?_
    refine aw_cond rfl (fun h8 => ?_) (fun h8 => ?_)
    ·have gh8 := h8
     try simp only [nrm] at h8
     simp [sameN_refl] at gh8
    ·have gh8 := h8
     try simp only [nrm] at h8
     refine aw_skip ?_
     refine aw_seq ?_
     refine aw_freeze (fun _ => false) fsub_same ?_
     refine aw_st (keep_nothing _) ?_
     refine aw_region ?_
     refine al_op (op_list encS [sA, sB] Try.underlying22 info9 rfl rfl (by decide) rfl (by decide) rfl (by first | rfl | (repeat (first | exact parts_nil | refine parts_cons rfl (by repeat (first | exact all_live_nil | refine all_live_clo rfl ?_ | refine all_live_slice rfl ?_ | refine all_live_map rfl ?_ | refine all_live_ptr rfl ?_)) ?_))) rfl rfl rfl rfl) rfl (by simp) ?_
     refine al_op (op_list encS [sR] Try.underlying22 info9 rfl rfl (by decide) rfl (by decide) rfl (by first | rfl | (repeat (first | exact parts_nil | refine parts_cons rfl (by repeat (first | exact all_live_nil | refine all_live_clo rfl ?_ | refine all_live_slice rfl ?_ | refine all_live_map rfl ?_ | refine all_live_ptr rfl ?_)) ?_))) rfl rfl rfl rfl) rfl (by simp) ?_
     refine al_op (op_list encB ([0] : List Int) Try.underlying28 info65 rfl rfl (by decide) rfl (by decide) rfl (by first | rfl | (repeat (first | exact parts_nil | refine parts_cons rfl (by repeat (first | exact all_live_nil | refine all_live_clo rfl ?_ | refine all_live_slice rfl ?_ | refine all_live_map rfl ?_ | refine all_live_ptr rfl ?_)) ?_))) rfl rfl rfl rfl) rfl (by simp) ?_
     (refine al_call into28 rfl rfl rfl ow_make (by simp) ?_; rintro _ _ ⟨vm, vg, vt, vr, rfl, rfl⟩)
     refine al_op (op_move rfl) rfl (by simp) ?_
     refine al_op (op_extract rfl rfl rfl) rfl (by simp) ?_
     refine al_op (op_extract rfl rfl rfl) rfl (by simp) ?_
     refine al_op (op_assign rfl) rfl (by simp) ?_
     refine al_op (op_assign rfl) rfl (by simp) ?_
     refine al_nil ?_
     refine aw_seq ?_
     refine aw_seq ?_
     refine aw_region ?_
     refine al_op (op_move rfl) rfl (by simp) ?_
     refine al_op (op_pnil_ptr Try.underlying48 rfl rfl rfl) rfl (by simp) ?_
     refine al_nil ?_
     refine aw_cond rfl (fun h9 => ?_) (fun h9 => ?_)
     ·have gh9 := h9
      try simp only [nrm] at h9
      exact absurd gh9 (by decide)
     ·have gh9 := h9
      try simp only [nrm] at h9
      refine aw_skip ?_
      refine aw_seq ?_
      refine aw_region ?_
      refine al_op (op_move rfl) rfl (by simp) ?_
      (refine al_call into31 rfl rfl rfl ow_and (by simp) ?_; rintro _ _ ⟨vg65, rfl, rfl⟩)
      refine al_nil ?_
      refine aw_seq ?_
      refine aw_region ?_
      refine al_op (op_move rfl) rfl (by simp) ?_
      refine al_op (op_list encI ([8] : List Int) Try.underlying54 info3 rfl rfl (by decide) rfl (by decide) rfl (by first | rfl | (repeat (first | exact parts_nil | refine parts_cons rfl (by repeat (first | exact all_live_nil | refine all_live_clo rfl ?_ | refine all_live_slice rfl ?_ | refine all_live_map rfl ?_ | refine all_live_ptr rfl ?_)) ?_))) rfl rfl rfl rfl) rfl (by simp) ?_
      refine al_op (op_build_struct Try.underlying69 info69 rfl place69 rfl (by first | rfl | (repeat (first | exact parts_nil | refine parts_cons rfl (by repeat (first | exact all_live_nil | refine all_live_clo rfl ?_ | refine all_live_slice rfl ?_ | refine all_live_map rfl ?_ | refine all_live_ptr rfl ?_)) ?_))) rfl) rfl (by simp) ?_
      refine al_op (op_list encP outsO Try.underlying25 info69 rfl rfl (by decide) rfl (by decide) rfl (by first | rfl | (repeat (first | exact parts_nil | refine parts_cons rfl (by repeat (first | exact all_live_nil | refine all_live_clo rfl ?_ | refine all_live_slice rfl ?_ | refine all_live_map rfl ?_ | refine all_live_ptr rfl ?_)) ?_))) rfl rfl rfl rfl) rfl (by simp) ?_
      (refine al_call into39 rfl rfl rfl ow_netO (by simp) ?_; rintro _ _ ⟨v5, v4, v6, v7, rfl, rfl⟩)
      refine al_op (op_move rfl) rfl (by simp) ?_
      refine al_op (op_extract rfl rfl rfl) rfl (by simp) ?_
      refine al_op (op_extract rfl rfl rfl) rfl (by simp) ?_
      (refine al_opR (op_alloc 12 info27 rfl rfl) rfl (by simp) ?_; rintro _ _ ⟨ver12, rfl, rfl⟩)
      refine al_op (op_store_ptr info27 rfl rfl rfl rfl rfl rfl (by first | rfl | exact live_one rfl | (repeat (first | exact all_live_nil | refine all_live_clo rfl ?_ | refine all_live_slice rfl ?_ | refine all_live_map rfl ?_ | refine all_live_ptr rfl ?_))) (Nat.le_of_ble_eq_true rfl)) rfl (by simp) ?_
      refine al_op (op_assign rfl) rfl (by simp) ?_
      refine al_nil ?_
      refine aw_seq ?_
      refine aw_st (σ2 := OW vm vg65 vt vr MO2 (netRows3 75 74 76 77 v5 v4 v6 v7 (MO2.nexts [8] outsO) ++ [(12, ver12, .row 4 [[.slice 75 v5 0 (MO2.nexts [8] outsO).ins.length, .slice 74 v4 0 (MO2.nexts [8] outsO).regs.length, .slice 76 v6 0 (MO2.nexts [8] outsO).gates.length, .slice 77 v7 0 (MO2.nexts [8] outsO).outs.length]])])) rfl ?_
      refine aw_region ?_
      refine al_op (op_load_ptr Try.underlying27 info27 rfl rfl rfl rfl) rfl (by simp) ?_
      refine al_callp into52 rfl rfl rfl (acn_new (lend_cons (by first | exact lend_same | exact .leaf _ _ (.vnil _) | exact .leaf _ _ (.nil _) | exact lend_whole rfl (by first | rfl | (simp; done) | (simp; omega)) (clo_map (fun _ => rfl)) | exact lend_netg (by first | exact .same _ | exact lendL_vnil | exact lendL_whole rfl (by first | rfl | (simp; done) | (simp; omega)) (clo_map (fun _ => rfl))) (by first | exact .same _ | exact lendL_vnil | exact lendL_whole rfl (by first | rfl | (simp; done) | (simp; omega)) (clo_map (fun _ => rfl))) (by first | exact .same _ | exact lendL_vnil | exact lendL_whole rfl (by first | rfl | (simp; done) | (simp; omega)) (clo_map (fun _ => rfl))) (by first | exact .same _ | exact lendL_vnil | exact lendL_whole rfl (by first | rfl | (simp; done) | (simp; omega)) (clo_map (fun _ => rfl)))) lend_nil) (r_own_new (MO2.nexts [8] outsO) (by decide) (by decide) (by decide) (by decide))) (by simp) ?_
      (refine al_opR (op_alloc 14 info27 rfl rfl) rfl (by simp) ?_; rintro _ _ ⟨ver14, rfl, rfl⟩)
      refine al_op (op_store_ptr info27 rfl rfl rfl rfl rfl rfl (by first | rfl | exact live_one rfl | (repeat (first | exact all_live_nil | refine all_live_clo rfl ?_ | refine all_live_slice rfl ?_ | refine all_live_map rfl ?_ | refine all_live_ptr rfl ?_))) (by decide)) rfl (by simp) ?_
      refine al_nil ?_
      refine aw_seq ?_
      refine aw_st (σ2 := OW vm vg65 vt vr MO2 (netRows3 75 74 76 77 v5 v4 v6 v7 (MO2.nexts [8] outsO) ++ [(12, ver12, .row 4 [[.slice 75 v5 0 (MO2.nexts [8] outsO).ins.length, .slice 74 v4 0 (MO2.nexts [8] outsO).regs.length, .slice 76 v6 0 (MO2.nexts [8] outsO).gates.length, .slice 77 v7 0 (MO2.nexts [8] outsO).outs.length]]), (14, ver14, .row 4 [[.list 1 ((MO2.nexts [8] outsO).ins.map encS), .list 3 ((MO2.nexts [8] outsO).regs.map encR), .list 2 ((MO2.nexts [8] outsO).gates.map encG), .list 2 ((MO2.nexts [8] outsO).outs.map encP)]])])) rfl ?_
      refine aw_region ?_
      refine al_op (op_load_ptr Try.underlying27 info27 rfl rfl rfl rfl) rfl (by simp) ?_
      (refine al_call into53 rfl rfl rfl (spoil_at 75 74 76 77 v5 v4 v6 v7 (MO2.nexts [8] outsO).ins (MO2.nexts [8] outsO).regs (MO2.nexts [8] outsO).gates (MO2.nexts [8] outsO).outs (by decide) (by decide) (by decide) (by decide) rfl rfl rfl rfl rfl rfl) (by simp) ?_; rintro _ _ ⟨m1, m2, m3, m4, rfl, rfl⟩)
      refine al_nil ?_
      refine aw_seq ?_
      refine aw_freeze (fun i => Nat.beq i 51 || Nat.beq i 52 || Nat.beq i 21 || Nat.beq i 19 || Nat.beq i 14) fsub_same ?_
      refine aw_st (σ2 := OW vm vg65 vt vr MO2 [(14, ver14, .row 4 [[.list 1 ((MO2.nexts [8] outsO).ins.map encS), .list 3 ((MO2.nexts [8] outsO).regs.map encR), .list 2 ((MO2.nexts [8] outsO).gates.map encG), .list 2 ((MO2.nexts [8] outsO).outs.map encP)]])]) rfl ?_
      refine aw_region ?_
      refine al_op (op_move rfl) rfl (by simp) ?_
      refine al_op (op_list encI ([8] : List Int) Try.underlying54 info3 rfl rfl (by decide) rfl (by decide) rfl (by first | rfl | (repeat (first | exact parts_nil | refine parts_cons rfl (by repeat (first | exact all_live_nil | refine all_live_clo rfl ?_ | refine all_live_slice rfl ?_ | refine all_live_map rfl ?_ | refine all_live_ptr rfl ?_)) ?_))) rfl rfl rfl rfl) rfl (by simp) ?_
      refine al_op (op_build_struct Try.underlying69 info69 rfl place69 rfl (by first | rfl | (repeat (first | exact parts_nil | refine parts_cons rfl (by repeat (first | exact all_live_nil | refine all_live_clo rfl ?_ | refine all_live_slice rfl ?_ | refine all_live_map rfl ?_ | refine all_live_ptr rfl ?_)) ?_))) rfl) rfl (by simp) ?_
      refine al_op (op_list encP outsO Try.underlying25 info69 rfl rfl (by decide) rfl (by decide) rfl (by first | rfl | (repeat (first | exact parts_nil | refine parts_cons rfl (by repeat (first | exact all_live_nil | refine all_live_clo rfl ?_ | refine all_live_slice rfl ?_ | refine all_live_map rfl ?_ | refine all_live_ptr rfl ?_)) ?_))) rfl rfl rfl rfl) rfl (by simp) ?_
      refine al_callp into39 rfl rfl rfl (ow_ro (m_Net MO2 vm vg65 vt vr [8] outsO mo2_good (by decide) (by decide) (by decide) (by decide)) rfl rfl rfl) (by simp) ?_
      refine al_op (op_move rfl) rfl (by simp) ?_
      refine al_op (op_extract rfl rfl rfl) rfl (by simp) ?_
      refine al_op (op_extract rfl rfl rfl) rfl (by simp) ?_
      (refine al_opR (op_alloc 15 info27 rfl rfl) rfl (by simp) ?_; rintro _ _ ⟨ver15, rfl, rfl⟩)
      refine al_op (op_store_ptr info27 rfl rfl rfl rfl rfl rfl (by first | rfl | exact live_one rfl | (repeat (first | exact all_live_nil | refine all_live_clo rfl ?_ | refine all_live_slice rfl ?_ | refine all_live_map rfl ?_ | refine all_live_ptr rfl ?_))) (by decide)) rfl (by simp) ?_
      refine al_op (op_assign rfl) rfl (by simp) ?_
      refine al_nil ?_
      refine aw_seq ?_
      refine aw_region ?_
      refine al_op (op_load_ptr Try.underlying27 info27 rfl rfl rfl rfl) rfl (by simp) ?_
      refine al_op (op_load_ptr Try.underlying27 info27 rfl rfl rfl rfl) rfl (by simp) ?_
      refine al_callp into41 rfl rfl rfl (r_Same (MO2.net [8] outsO).1 (MO2.nexts [8] outsO) (by rw [mo2_net]; exact mo2_small) _) (by simp) ?_
      refine al_op (op_move rfl) rfl (by simp) ?_
      apply al_and 2 89 91 rfl
      ·intro h10; have gh10 := h10
       try simp only [nrm] at h10
       refine al_callp_take into15 rfl rfl rfl rfl rfl rfl ((l_awake ) _) (by simp) ?_
       refine al_op (op_pick rfl rfl) rfl (by simp) ?_
       refine al_nil ⟨rfl, rfl, rfl, keep_of ?_⟩
       repeat (first | exact subx_refl | exact subx_known rfl gh10 subx_refl | refine subx_put rfl ?_)
      ·intro h10; have gh10 := h10
       try simp only [nrm] at h10
       refine al_pass rfl rfl rfl rfl (by simp) ?_
       refine al_op (op_pick rfl rfl) rfl (by simp) ?_
       refine al_nil ⟨rfl, rfl, rfl, keep_of ?_⟩
       repeat (first | exact subx_refl | exact subx_known rfl gh10 subx_refl | refine subx_put rfl ?_)
      refine al_op (op_assign rfl) rfl (by simp) ?_
      refine al_nil ?_
      refine aw_freeze (fun _ => false) (fsub_cons (t := 2) rfl (.leaf _ _ (.same _)) fsub_nil) ?_
      refine aw_ret ?_
      refine ⟨_, res_1 rfl rfl, ?_, rfl⟩
      first | rfl | (simp [mo2_net, sameN_refl]; done)
end Go.Proofs.Ytbpamlphacpkeaa
