/- Printed walks (gen.py, gates_ann.py): part 101. -/
import Derived.Test.YtbpamlphacpkeaaW90
import Derived.Test.YtbpamlphacpkeaaGMean
import Derived.Test.YtbpamlphacpkeaaFacts
set_option linter.unusedVariables false
set_option linter.unusedSimpArgs false
set_option maxRecDepth 20000
set_option maxHeartbeats 40000000
namespace Go.Proofs.Ytbpamlphacpkeaa
open Go

theorem mk_make2 (ins names : List ByteArray) (inits : List Int) (z1 : ∀ s ∈ ins, s.size ≤ 140737488355328) (z2 : ∀ s ∈ names, s.size ≤ 140737488355328) (z3 : ∀ x ∈ inits, 0 ≤ x ∧ x ≤ 255) (z4 : ins.length ≤ 100000) (z5 : names.length ≤ 100000) (z6 : inits.length ≤ 100000) (hok : makeOK ins names inits = true) : AC Try.prog 28 [.list 1 (ins.map encS), .list 1 (names.map encS), .list 1 (inits.map encB)] [] (fun r σ' => ∃ vm vg vt vr, r = .ret (.tuple [.ptr 21 vm 0 0, .v (.int .i64 0)]) ∧ σ' = [(51, vg, .row 2 ((MS.make ins names inits).gates.map encG)), (52, vr, .row 3 ((MS.make ins names inits).regs.map encR)), (21, vm, .row 6 [(MS.make ins names inits).cells 51 19 52 vg vt vr]), (19, vt, .map (thEnts (MS.make ins names inits).th))]) := by
  have h : AC Try.prog 28 [.list 1 (ins.map encS), .list 1 (names.map encS), .list 1 (inits.map encB)] [] (fun r σ' => ∃ vm vg vt vr, r = .ret (.tuple [.ptr 0 vm 0 0, .v (.int .i64 0)]) ∧ σ' = [(2, vt, .map (thEnts [])), (0, vm, .row 6 [(MS.make ins names inits).cells 1 2 3 vg vt vr]), (3, vr, .row 3 ((MS.make ins names inits).regs.map encR)), (1, vg, .row 2 ((MS.make ins names inits).gates.map encG))]) :=
    ac_mono (q_mMake ins names inits z1 z2 z3 z4 z5 z6) (by intro x σ' h; rw [if_pos hok] at h; exact h)
  have := ac_at (σ := []) [21, 51, 19, 52] rfl h trivial (by rfl) rfl (by rintro r σ' _ j _; rfl)
  refine ac_mono this ?_
  rintro x σ' ⟨_, _, ⟨vm, vg, vt, vr, rfl, rfl⟩, rfl, rfl⟩
  refine ⟨vm, vg, vt, vr, rfl, ?_⟩
  have e4 : (AObj.row 3 ((MS.make ins names inits).regs.map encR)).rn (tab [21, 51, 19, 52]) = .row 3 ((MS.make ins names inits).regs.map encR) := by show AObj.row 3 _ = _; rw [rn_rows (fun _ => rfl)]
  simp only [Store.putAll, e4]
  rfl
/-- The law's store: the maker, what was made and what it means. -/
def ME (s : MS) (vm vg vt vr v13 v14 v1 v2 : Nat) (made : List Int) (vals : List Bool) (tl : Store) : Store :=
  (51, vg, .row 2 (s.gates.map encG)) :: (52, vr, .row 3 (s.regs.map encR)) :: (21, vm, .row 6 [s.cells 51 19 52 vg vt vr]) :: (19, vt, .map (thEnts s.th)) :: (65, v1, .row 1 (made.map encI)) :: (66, v2, .row 1 (vals.map encT)) :: (13, v13, .row 1 [[.slice 65 v1 0 made.length]]) :: (14, v14, .row 1 [[.slice 66 v2 0 vals.length]]) :: tl
theorem me_below (s : MS) (vm vg vt vr v13 v14 v1 v2 : Nat) (made : List Int) (vals : List Bool) (tl : Store) (hb : tl.below 1000 = true) : (ME s vm vg vt vr v13 v14 v1 v2 made vals tl).below 1000 = true := by
  simp only [ME, Store.below, hb]; rfl
theorem me_m {f : FuncId} {s s' : MS} {vm vg vt vr v13 v14 v1 v2 : Nat} {made : List Int} {vals : List Bool} {tl : Store} {bvs : List AVal} {a : AVal} (h : AC Try.prog f (.ptr 0 vm 0 0 :: bvs) (mk0 s vm vg vt vr) (fun x σ' => ∃ vg', x = .ret a ∧ σ' = mk0 s' vm vg' vt vr)) (hb : tl.below 1000 = true) (hc : bvs.all AVal.clo = true) (ha : a.clo = true) :
    AC Try.prog f (.ptr 21 vm 0 0 :: bvs) (ME s vm vg vt vr v13 v14 v1 v2 made vals tl) (fun x σ' => ∃ vg', x = .ret a ∧ σ' = ME s' vm vg' vt vr v13 v14 v1 v2 made vals tl) :=
  ac_mono (mk_at (m := 21) (g := 51) (t := 19) (r := 52) h rfl (me_below _ _ _ _ _ _ _ _ _ _ _ _ hb) rfl rfl rfl rfl hc ha) (by rintro x σ' ⟨vg', rfl, rfl⟩; exact ⟨vg', rfl, rfl⟩)
theorem me_m_ro {f : FuncId} {s : MS} {vm vg vt vr v13 v14 v1 v2 : Nat} {made : List Int} {vals : List Bool} {tl : Store} {bvs : List AVal} {a : AVal} (h : AC Try.prog f (.ptr 0 vm 0 0 :: bvs) (mk0 s vm vg vt vr) (fun x σ' => x = .ret a ∧ σ' = mk0 s vm vg vt vr)) (hb : tl.below 1000 = true) (hc : bvs.all AVal.clo = true) (ha : a.clo = true) :
    AC Try.prog f (.ptr 21 vm 0 0 :: bvs) (ME s vm vg vt vr v13 v14 v1 v2 made vals tl) (fun x σ' => x = .ret a ∧ σ' = ME s vm vg vt vr v13 v14 v1 v2 made vals tl) :=
  mk_ro (m := 21) (g := 51) (t := 19) (r := 52) h rfl (me_below _ _ _ _ _ _ _ _ _ _ _ _ hb) rfl rfl rfl rfl hc ha
theorem MQ.range {m : Nat} {b : List Int} {q : MQ} (h : q.OK m b) : ∀ x ∈ q.made, 0 ≤ x ∧ x ≤ 100000 := by
  intro x hx
  obtain ⟨k, hk, rfl⟩ := List.getElem_of_mem hx
  have hm := h.means k hk
  have hl := h.bits.good.ok.lits
  have l1 := hm.lo
  have l2 := hm.hi
  rw [List.getD_eq_getElem?_getD, List.getElem?_eq_getElem hk] at l1 l2
  simp only [Option.getD_some] at l1 l2
  omega
theorem MS.net_small2 {s : MS} (hs : s.Good) {next : List Int} {outs : List (ByteArray × Int)} (h1 : ∀ x ∈ next, x ≤ 9223372036854775807) (h2 : ∀ p ∈ outs, p.1.size ≤ 140737488355328 ∧ p.2 ≤ 9223372036854775807) (h3 : outs.length ≤ 100000) : (s.net next outs).1.Small := by
  have hz : Net.none.Small := by refine ⟨?_, ?_, ?_, ?_, ?_, ?_, ?_, ?_, ?_, ?_, ?_⟩ <;> decide
  unfold MS.net
  split
  · exact hz
  · rename_i hl
    split
    · exact MS.nexts_small hs.small h1 (by omega) h2 h3
    · exact hz

theorem q_at (v0 v1 w0 w1 : Nat) (made : List Int) (vals : List Bool) (a : Int) (hp : 0 < made.length) (hml : made.length ≤ 100000) (he : vals.length = made.length) (hm : ∀ x ∈ made, 0 ≤ x ∧ x ≤ 100000) : AC Try.prog 42 [.v (.int .i64 (a)), .ptr 0 v0 0 0, .ptr 1 v1 0 0] ([(0, v0, .row 1 [[.slice 2 w0 0 made.length]]), (1, v1, .row 1 [[.slice 3 w1 0 vals.length]]), (2, w0, .row 1 (made.map encI)), (3, w1, .row 1 (vals.map encT))]) (fun r σ' => r = .ret (.tuple [.v (.int .i64 (litM made a)), .v (.bool (boolM made vals a))]) ∧ σ' = [(0, v0, .row 1 [[.slice 2 w0 0 made.length]]), (1, v1, .row 1 [[.slice 3 w1 0 vals.length]]), (2, w0, .row 1 (made.map encI)), (3, w1, .row 1 (vals.map encT))]) := by
  obtain ⟨t1, t2⟩ := tmod_bound a (m := (made.length : Int)) (by omega)
  obtain ⟨t3, t4⟩ := pick_bound made a hp
  have hx := hm _ (getD_mem t4)
  have e0 : 0 + ((a.tmod made.length + made.length) % made.length).toNat = ((a.tmod made.length + made.length) % made.length).toNat := Nat.zero_add _
  have hx0 := hm _ (getD_mem (v := made) (i := 0 + ((a.tmod made.length + made.length) % made.length).toNat) (by omega))
  refine ac_enter 37 Try.func42 rfl rfl (by simp) ?_
  refine aw_seq ?_
  refine aw_region ?_
  refine al_op (op_assign rfl) rfl (by simp) ?_
  refine al_op (op_assign rfl) rfl (by simp) ?_
  refine al_nil ?_
  refine aw_seq ?_
  refine aw_any (Checked.mixed Try.checked) ?_
  apply aany_seg (p := 0) (q := 11) (by kernel_rfl) rfl (by decide)
  ·
    apply ql_plain rfl (op_move rfl)
    first
      | apply ql_plain rfl (op_load_rptr Try.underlying54 info54 rfl rfl)
      | apply ql_plain rfl (op_load_map Try.underlying54 info54 rfl rfl (by omega) rfl)
      | apply ql_plain rfl (op_load_ptr Try.underlying54 info54 rfl rfl rfl rfl)
    first
      | apply ql_plain rfl (op_len_map Try.underlying54 rfl)
      | apply ql_plain rfl (op_len_slice Try.underlying54 rfl rfl)
      | apply ql_plain rfl (op_len_list Try.underlying54 rfl)
      | apply ql_plain rfl (op_len_v Try.underlying54 rfl)
      | apply ql_plain rfl (op_len_nil Try.underlying54 rfl)
    first
      | apply ql_plain rfl (op_rem rfl rfl (by omega) (rem_nn (by omega)))
      | apply ql_plain rfl (op_rem rfl rfl (by omega) rfl)
    first
      | apply ql_plain rfl (op_load_rptr Try.underlying54 info54 rfl rfl)
      | apply ql_plain rfl (op_load_map Try.underlying54 info54 rfl rfl (by omega) rfl)
      | apply ql_plain rfl (op_load_ptr Try.underlying54 info54 rfl rfl rfl rfl)
    first
      | apply ql_plain rfl (op_len_map Try.underlying54 rfl)
      | apply ql_plain rfl (op_len_slice Try.underlying54 rfl rfl)
      | apply ql_plain rfl (op_len_list Try.underlying54 rfl)
      | apply ql_plain rfl (op_len_v Try.underlying54 rfl)
      | apply ql_plain rfl (op_len_nil Try.underlying54 rfl)
    apply ql_plain rfl (op_add rfl rfl (by first | exact wrap_i64 (by omega) (by omega)))
    first
      | apply ql_plain rfl (op_load_rptr Try.underlying54 info54 rfl rfl)
      | apply ql_plain rfl (op_load_map Try.underlying54 info54 rfl rfl (by omega) rfl)
      | apply ql_plain rfl (op_load_ptr Try.underlying54 info54 rfl rfl rfl rfl)
    first
      | apply ql_plain rfl (op_len_map Try.underlying54 rfl)
      | apply ql_plain rfl (op_len_slice Try.underlying54 rfl rfl)
      | apply ql_plain rfl (op_len_list Try.underlying54 rfl)
      | apply ql_plain rfl (op_len_v Try.underlying54 rfl)
      | apply ql_plain rfl (op_len_nil Try.underlying54 rfl)
    first
      | apply ql_plain rfl (op_rem rfl rfl (by omega) (rem_nn (by omega)))
      | apply ql_plain rfl (op_rem rfl rfl (by omega) rfl)
    apply ql_plain rfl (op_assign rfl)
    exact ql_nil
  · simp
  refine aany_end rfl (by kernel_rfl) ?_
  refine aw_seq ?_
  refine aw_seq ?_
  refine aw_region ?_
  refine al_op (op_move rfl) rfl (by simp) ?_
  refine al_op (op_lss rfl rfl) rfl (by simp) ?_
  refine al_nil ?_
  refine aw_cond rfl (fun h1 => ?_) (fun h1 => ?_)
  · have gh1 := h1
    try simp only [decide_eq_true_eq, decide_eq_false_iff_not, Bool.not_eq_true', Bool.not_eq_false', beq_iff_eq, bne_iff_ne, beq_eq_false_iff_ne, bne_eq_false_iff_eq, Bool.or_eq_true, Bool.and_eq_true, Bool.or_eq_false_iff, gt_iff_lt, ge_iff_le] at h1
    refine aw_seq ?_
    refine aw_any (Checked.mixed Try.checked) ?_
    apply aany_seg (p := 0) (q := 12) (by kernel_rfl) rfl (by decide)
    ·
      first
        | apply ql_plain rfl (op_load_rptr Try.underlying54 info54 rfl rfl)
        | apply ql_plain rfl (op_load_map Try.underlying54 info54 rfl rfl (by omega) rfl)
        | apply ql_plain rfl (op_load_ptr Try.underlying54 info54 rfl rfl rfl rfl)
      apply ql_plain rfl (op_move rfl)
      first
        | apply ql_plain rfl (op_index_map default Try.underlying54 info3 rfl rfl rfl (by first | (with_reducible exact Int.toNat_natCast _) | rfl) (by omega) (by omega))
        | apply ql_plain rfl (op_index_slice Try.underlying54 info3 rfl rfl rfl rfl (by omega) (by omega))
        | apply ql_plain rfl (op_index_list Try.underlying54 info3 rfl rfl rfl (by decide) rfl)
      first
        | apply ql_plain rfl (op_load_rptr Try.underlying3 info3 rfl rfl)
        | apply ql_plain rfl (op_load_map Try.underlying3 info3 rfl rfl (by omega) rfl)
        | apply ql_plain rfl (op_load_ptr Try.underlying3 info3 rfl rfl rfl rfl)
      apply ql_plain rfl (op_bitxor rfl rfl (xor_one (by omega) (by omega)))
      first
        | apply ql_plain rfl (op_load_rptr Try.underlying64 info64 rfl rfl)
        | apply ql_plain rfl (op_load_map Try.underlying64 info64 rfl rfl (by omega) rfl)
        | apply ql_plain rfl (op_load_ptr Try.underlying64 info64 rfl rfl rfl rfl)
      apply ql_plain rfl (op_move rfl)
      first
        | apply ql_plain rfl (op_index_map default Try.underlying64 info4 rfl rfl rfl (by first | (with_reducible exact Int.toNat_natCast _) | rfl) (by omega) (by omega))
        | apply ql_plain rfl (op_index_slice Try.underlying64 info4 rfl rfl rfl rfl (by omega) (by omega))
        | apply ql_plain rfl (op_index_list Try.underlying64 info4 rfl rfl rfl (by decide) rfl)
      first
        | apply ql_plain rfl (op_load_rptr Try.underlying4 info4 rfl rfl)
        | apply ql_plain rfl (op_load_map Try.underlying4 info4 rfl rfl (by omega) rfl)
        | apply ql_plain rfl (op_load_ptr Try.underlying4 info4 rfl rfl rfl rfl)
      apply ql_plain rfl (op_not rfl)
      apply ql_plain rfl (op_assign rfl)
      apply ql_plain rfl (op_assign rfl)
      exact ql_nil
    · simp
    refine aany_end rfl (by kernel_rfl) ?_
    refine aw_ret ?_
    refine ⟨_, res_2 rfl rfl rfl rfl rfl, ?_⟩
    rw [litM, boolM, if_pos (by omega), if_pos (by omega), pickAt, e0]; exact ⟨rfl, rfl⟩
  · have gh1 := h1
    try simp only [decide_eq_true_eq, decide_eq_false_iff_not, Bool.not_eq_true', Bool.not_eq_false', beq_iff_eq, bne_iff_ne, beq_eq_false_iff_ne, bne_eq_false_iff_eq, Bool.or_eq_true, Bool.and_eq_true, Bool.or_eq_false_iff, gt_iff_lt, ge_iff_le] at h1
    refine aw_skip ?_
    refine aw_seq ?_
    refine aw_any (Checked.mixed Try.checked) ?_
    apply aany_seg (p := 0) (q := 10) (by kernel_rfl) rfl (by decide)
    ·
      first
        | apply ql_plain rfl (op_load_rptr Try.underlying54 info54 rfl rfl)
        | apply ql_plain rfl (op_load_map Try.underlying54 info54 rfl rfl (by omega) rfl)
        | apply ql_plain rfl (op_load_ptr Try.underlying54 info54 rfl rfl rfl rfl)
      apply ql_plain rfl (op_move rfl)
      first
        | apply ql_plain rfl (op_index_map default Try.underlying54 info3 rfl rfl rfl (by first | (with_reducible exact Int.toNat_natCast _) | rfl) (by omega) (by omega))
        | apply ql_plain rfl (op_index_slice Try.underlying54 info3 rfl rfl rfl rfl (by omega) (by omega))
        | apply ql_plain rfl (op_index_list Try.underlying54 info3 rfl rfl rfl (by decide) rfl)
      first
        | apply ql_plain rfl (op_load_rptr Try.underlying3 info3 rfl rfl)
        | apply ql_plain rfl (op_load_map Try.underlying3 info3 rfl rfl (by omega) rfl)
        | apply ql_plain rfl (op_load_ptr Try.underlying3 info3 rfl rfl rfl rfl)
      first
        | apply ql_plain rfl (op_load_rptr Try.underlying64 info64 rfl rfl)
        | apply ql_plain rfl (op_load_map Try.underlying64 info64 rfl rfl (by omega) rfl)
        | apply ql_plain rfl (op_load_ptr Try.underlying64 info64 rfl rfl rfl rfl)
      apply ql_plain rfl (op_move rfl)
      first
        | apply ql_plain rfl (op_index_map default Try.underlying64 info4 rfl rfl rfl (by first | (with_reducible exact Int.toNat_natCast _) | rfl) (by omega) (by omega))
        | apply ql_plain rfl (op_index_slice Try.underlying64 info4 rfl rfl rfl rfl (by omega) (by omega))
        | apply ql_plain rfl (op_index_list Try.underlying64 info4 rfl rfl rfl (by decide) rfl)
      first
        | apply ql_plain rfl (op_load_rptr Try.underlying4 info4 rfl rfl)
        | apply ql_plain rfl (op_load_map Try.underlying4 info4 rfl rfl (by omega) rfl)
        | apply ql_plain rfl (op_load_ptr Try.underlying4 info4 rfl rfl rfl rfl)
      apply ql_plain rfl (op_assign rfl)
      apply ql_plain rfl (op_assign rfl)
      exact ql_nil
    · simp
    refine aany_end rfl (by kernel_rfl) ?_
    refine aw_ret ?_
    refine ⟨_, res_2 rfl rfl rfl rfl rfl, ?_⟩
    rw [litM, boolM, if_neg (by omega), if_neg (by omega), pickAt, e0]; exact ⟨rfl, rfl⟩
theorem me_at {s : MS} {vm vg vt vr v13 v14 v1 v2 : Nat} {made : List Int} {vals : List Bool} {tl : Store} (a : Int) (hp : 0 < made.length) (hml : made.length ≤ 100000) (he : vals.length = made.length) (hm : ∀ x ∈ made, 0 ≤ x ∧ x ≤ 100000) (hb : tl.below 1000 = true) :
    AC Try.prog 42 [.v (.int .i64 (a)), .ptr 13 v13 0 0, .ptr 14 v14 0 0] (ME s vm vg vt vr v13 v14 v1 v2 made vals tl) (fun r σ' => r = .ret (.tuple [.v (.int .i64 (litM made a)), .v (.bool (boolM made vals a))]) ∧ σ' = ME s vm vg vt vr v13 v14 v1 v2 made vals tl) := by
  have e1 : (AObj.row 1 (made.map encI)).rn (tab [13, 14, 65, 66]) = .row 1 (made.map encI) := by show AObj.row 1 _ = _; rw [rn_rows (fun _ => rfl)]
  have e2 : (AObj.row 1 (vals.map encT)).rn (tab [13, 14, 65, 66]) = .row 1 (vals.map encT) := by show AObj.row 1 _ = _; rw [rn_rows (fun _ => rfl)]
  have hm2 : Store.match (tab [13, 14, 65, 66]) (ME s vm vg vt vr v13 v14 v1 v2 made vals tl) [(0, v13, .row 1 [[.slice 2 v1 0 made.length]]), (1, v14, .row 1 [[.slice 3 v2 0 vals.length]]), (2, v1, .row 1 (made.map encI)), (3, v2, .row 1 (vals.map encT))] := ⟨rfl, rfl, by rw [e1]; rfl, by rw [e2]; rfl, trivial⟩
  exact ac_ro [13, 14, 65, 66] rfl (q_at v13 v14 v1 v2 made vals a hp hml he hm) hm2 (by rfl) (me_below _ _ _ _ _ _ _ _ _ _ _ _ hb)
end Go.Proofs.Ytbpamlphacpkeaa
