/- Printed walks (gen.py, lexer_ann.py): part 313. -/
import Derived.Test.YtbojpddejdmamaaDoorW310
import Derived.Test.YtbojpddejdmamaaDoorLPlace
import Derived.Test.YtbojpddejdmamaaDoorLFlt
import Derived.Test.YtbojpddejdmamaaDoorFacts
set_option linter.unusedVariables false
set_option linter.unusedSimpArgs false
set_option maxRecDepth 20000
set_option maxHeartbeats 40000000
namespace Go.Proofs.YtbojpddejdmamaaDoor
open Go

theorem law_LexerPlaces (s : Bs) (hs : s.length ≤ 4611686018427387904) : ACp Tryd.prog 7 [.v (.string (str (s)))] (.v (.bool (true))) := by
 refine acp_of rfl ?_
 refine ac_enter 132 Tryd.func7 rfl rfl (by simp) ?_
 refine aw_seq ?_
 refine aw_region ?_
 refine al_op (op_assign rfl) rfl (by simp) ?_
 refine al_nil ?_
 refine aw_seq ?_
 refine aw_seq ?_
 refine aw_region ?_
 refine al_op (op_move rfl) rfl (by simp) ?_
 refine al_callp into9 rfl rfl rfl (acp_lent (lend_cons lend_same (lend_cons (by first | exact lend_same | exact .leaf _ _ (.vnil _) | exact lend_whole rfl (by first | rfl | (simp; done)) (clo_map (fun _ => rfl))) lend_nil)) (l_long s [] (by omega)) rfl) (by simp) ?_
 refine al_nil ?_
 refine aw_cond rfl (fun h1 => ?_) (fun h1 => ?_)
 ·have gh1 := h1
  try simp only [nrm] at h1
  refine aw_seq ?_
  refine aw_region ?_
  first
    | refine al_callp into10 rfl rfl rfl ((l_awake ) _) (by simp) ?_
    | refine al_callp into10 rfl rfl rfl (acp_lent lend_nil (l_awake ) rfl) (by simp) ?_
  refine al_op (op_assign rfl) rfl (by simp) ?_
  refine al_nil ?_
  refine aw_freeze (fun _ => false) (fsub_cons (t := 2) rfl (.leaf _ _ (.same _)) fsub_nil) ?_
  refine aw_ret ?_
  refine ⟨_, res_1 rfl rfl, ?_, rfl⟩
  rfl
 ·have gh1 := h1
  try simp only [nrm] at h1
  refine aw_skip ?_
  refine aw_seq ?_
  obtain ⟨hs2, _, _⟩ := long_facts gh1
  refine aw_region ?_
  refine al_op (op_move rfl) rfl (by simp) ?_
  first
    | refine al_callp into18 rfl rfl rfl ((c_Lex _ (by first | assumption | omega | (simp; done) | (simp; omega) | decide)) _) (by simp) ?_
    | refine al_callp into18 rfl rfl rfl (ac_told (re_cons (by first | exact .leaf _ _ (.same _) | exact .leaf _ _ (.vnil _) | exact .leaf _ _ (.nil _)) re_nil) ((c_Lex _ (by first | assumption | omega | (simp; done) | (simp; omega) | decide)) _)) (by simp) ?_
  refine al_op (op_move rfl) rfl (by simp) ?_
  refine al_op (op_extract rfl rfl rfl) rfl (by simp) ?_
  refine al_op (op_extract rfl rfl rfl) rfl (by simp) ?_
  (refine al_opR (op_alloc 4 info35 rfl rfl) rfl (by simp) ?_; rintro _ _ ⟨ver4, rfl, rfl⟩)
  refine al_op (op_assign rfl) rfl (by simp) ?_
  first
    | refine al_op (op_store_ptr info35 rfl rfl rfl rfl rfl rfl (by first | rfl | exact live_one rfl | (repeat (first | exact all_live_nil | refine all_live_clo rfl ?_ | refine all_live_slice rfl ?_ | refine all_live_map rfl ?_ | refine all_live_ptr rfl ?_))) (by decide)) rfl (by simp) ?_
    | refine al_op (op_store_ptr info35 rfl rfl rfl rfl rfl rfl (by first | rfl | exact live_one rfl | (repeat (first | exact all_live_nil | refine all_live_clo rfl ?_ | refine all_live_slice rfl ?_ | refine all_live_map rfl ?_ | refine all_live_ptr rfl ?_))) (Nat.le_of_ble_eq_true rfl)) rfl (by simp) ?_
  refine al_nil ?_
  refine aw_seq ?_
  refine aw_seq ?_
  refine aw_region ?_
  first
    | refine al_op (op_field_rptr Tryd.underlying35 rfl info30 (by decide) rfl rfl) rfl (by simp) ?_
    | refine al_op (op_field_ptr Tryd.underlying35 rfl info30 (by decide) rfl rfl rfl) rfl (by simp) ?_
  first
    | refine al_op (op_load_rptr Tryd.underlying30 info30 rfl rfl) rfl (by simp) ?_
    | refine al_op (op_load_map Tryd.underlying30 info30 rfl rfl (by omega) rfl) rfl (by simp) ?_
    | refine al_op (op_load_ptr Tryd.underlying30 info30 rfl rfl rfl rfl) rfl (by simp) ?_
  refine al_op (op_neq rfl rfl) rfl (by simp) ?_
  refine al_nil ?_
  refine aw_cond rfl (fun h2 => ?_) (fun h2 => ?_)
  ·have gh2 := h2
   try simp only [nrm] at h2
   refine aw_seq ?_
   refine aw_region ?_
   first
     | refine al_callp into10 rfl rfl rfl ((l_awake ) _) (by simp) ?_
     | refine al_callp into10 rfl rfl rfl (acp_lent lend_nil (l_awake ) rfl) (by simp) ?_
   refine al_op (op_assign rfl) rfl (by simp) ?_
   refine al_nil ?_
   refine aw_freeze (fun _ => false) (fsub_cons (t := 2) rfl (.leaf _ _ (.same _)) fsub_nil) ?_
   refine aw_ret ?_
   refine ⟨_, res_1 rfl rfl, ?_, rfl⟩
   rfl
  ·have gh2 := h2
   try simp only [nrm] at h2
   refine aw_skip ?_
   refine aw_seq ?_
   obtain ⟨pos, hpos⟩ := places_of hs2 gh2
   have hcnt := places_count hs2 gh2
   refine aw_region ?_
   (refine al_opR (op_list_own encI [0] 24 Tryd.underlying44 info3 rfl rfl (by decide) rfl (by decide) rfl (by first | rfl | (repeat (first | exact parts_nil | refine parts_cons rfl (by repeat (first | exact all_live_nil | refine all_live_clo rfl ?_ | refine all_live_slice rfl ?_ | refine all_live_map rfl ?_ | refine all_live_ptr rfl ?_)) ?_))) rfl rfl (by first | rfl | (repeat (first | exact parts_nil | refine parts_cons rfl (by repeat (first | exact all_live_nil | refine all_live_clo rfl ?_ | refine all_live_slice rfl ?_ | refine all_live_map rfl ?_ | refine all_live_ptr rfl ?_)) ?_))) rfl rfl) rfl (by simp) ?_; rintro _ _ ⟨ver24, rfl, rfl⟩)
   refine al_op (op_assign rfl) rfl (by simp) ?_
   refine al_nil ?_
   refine aw_seq ?_
   refine aw_seq ?_
   refine aw_region ?_
   refine al_op (op_move rfl) rfl (by simp) ?_
   refine al_op (op_slen_str (ts := #[]) Tryd.underlying9 rfl) rfl (by simp) ?_
   refine al_op (op_move rfl) rfl (by simp) ?_
   refine al_nil ?_
   refine aw_block ?_
   refine aw_for2T (α := Nat) (β := Nat) [5, 27] [] (fun i ver => s.length - i) (fun i ver => i ≤ s.length) (fun i ver => ([(5, .slice 24 ver 0 (linesL s i).length), (27, .v (.int .i64 (i)))] : Env)) (fun i ver st => st.put 24 ver (.row 1 ((linesL s i).map encI))) (0) (ver24) ?_ ?_ ?_ (fun i ver hinv => ?_)
   ·exact Nat.zero_le _
   ·refine sub_cons (get_as rfl ?_) ?_; rotate_left; refine sub_cons (get_as rfl ?_) ?_; rotate_left; exact sub_nil
    all_goals (first | rfl | (rw [lines_nl gh4] <;> simp; done) | (rw [lines_no gh4] <;> rfl) | simp)
   ·rfl
   have hll := lines_le (s := s) i
   refine aw_seq ?_
   refine aw_region ?_
   refine al_op (op_lss rfl rfl) rfl (by simp) ?_
   refine al_nil ?_
   refine aw_seq ?_
   refine aw_cond rfl (fun h3 => ?_) (fun h3 => ?_)
   ·have gh3 := h3
    try simp only [nrm] at h3
    refine aw_skip ?_
    refine aw_seq ?_
    refine aw_block ?_
    refine aw_seq ?_
    refine aw_region ?_
    refine al_op (op_move rfl) rfl (by simp) ?_
    refine al_op (op_assign rfl) rfl (by simp) ?_
    refine al_nil ?_
    refine aw_seq ?_
    refine aw_region ?_
    refine al_op (op_move rfl) rfl (by simp) ?_
    refine al_op (op_move rfl) rfl (by simp) ?_
    refine al_op (op_sidx_str Tryd.underlying9 rfl rfl (by first | (with_reducible exact Int.toNat_natCast _) | rfl) (by omega) (by first | omega | (simp; omega))) rfl (by simp) ?_
    refine al_op (op_eql rfl rfl) rfl (by simp) ?_
    refine al_nil ?_
    refine aw_cond rfl (fun h4 => ?_) (fun h4 => ?_)
    ·have gh4 := h4
     try simp only [nrm] at h4
     refine aw_region ?_
     refine al_op (op_move rfl) rfl (by simp) ?_
     refine al_op (op_move rfl) rfl (by simp) ?_
     refine al_op (op_add rfl rfl (by first | exact wrap_i64 (by omega) (by omega))) rfl (by simp) ?_
     refine al_op (op_buildSlice Tryd.underlying44 info3 rfl rfl (by decide) rfl (by decide) rfl (by first | rfl | (repeat (first | exact parts_nil | refine parts_cons rfl (by repeat (first | exact all_live_nil | refine all_live_clo rfl ?_ | refine all_live_slice rfl ?_ | refine all_live_map rfl ?_ | refine all_live_ptr rfl ?_)) ?_))) rfl rfl rfl) rfl (by simp) ?_
     first
       | (refine al_opR (op_append_one ((i : Int) + 1) Tryd.underlying44 Tryd.underlying44 rfl info3 rfl rfl (by decide) rfl rfl rfl (by first | rfl | simp) rfl rfl (by first | omega | (simp; done) | (simp; omega)) (by show _ * 8 ≤ _; first | omega | (simp; done) | (simp; omega))) rfl (by simp) ?_; rintro _ _ ⟨ver38, rfl, rfl⟩)
       | (refine al_opR (op_append_map Tryd.underlying44 Tryd.underlying44 rfl info3 rfl rfl (by decide) rfl rfl rfl (by first | rfl | simp) rfl (by first | exact .list _ | exact .vnil | exact .nil | exact .row _ _ _ _ rfl (by first | rfl | simp)) rfl (by first | omega | (simp; done) | (simp; omega)) (by show _ * 8 ≤ _; first | omega | (simp; done) | (simp; omega))) rfl (by simp) ?_; rintro _ _ ⟨ver38, rfl, rfl⟩)
     refine al_op (op_assign rfl) rfl (by simp) ?_
     refine al_nil ?_
     refine aw_region ?_
     refine al_op (op_add rfl rfl (by first | exact wrap_i64 (by omega) (by omega))) rfl (by simp) ?_
     refine al_op (op_move rfl) rfl (by simp) ?_
     refine al_nil ?_
     refine ⟨i + 1, ver38, ?_, ?_, ?_, ?_, ?_⟩
     ·omega
     ·first | trivial | omega
     ·refine sub_cons (get_as rfl ?_) ?_; rotate_left; refine sub_cons (get_as rfl ?_) ?_; rotate_left; exact sub_nil
      all_goals (first | rfl | (rw [lines_nl gh4] <;> simp; done) | (rw [lines_no gh4] <;> rfl) | simp)
     ·repeat (first | exact subx_refl | exact subx_del | refine subx_put rfl ?_)
     ·first | (rw [lines_nl gh4, List.map_append] <;> rfl) | (rw [lines_no gh4] <;> rfl)
    ·have gh4 := h4
     try simp only [nrm] at h4
     refine aw_skip ?_
     refine aw_region ?_
     refine al_op (op_add rfl rfl (by first | exact wrap_i64 (by omega) (by omega))) rfl (by simp) ?_
     refine al_op (op_move rfl) rfl (by simp) ?_
     refine al_nil ?_
     refine ⟨i + 1, ver, ?_, ?_, ?_, ?_, ?_⟩
     ·omega
     ·first | trivial | omega
     ·refine sub_cons (get_as rfl ?_) ?_; rotate_left; refine sub_cons (get_as rfl ?_) ?_; rotate_left; exact sub_nil
      all_goals (first | rfl | (rw [lines_nl gh4] <;> simp; done) | (rw [lines_no gh4] <;> rfl) | simp)
     ·repeat (first | exact subx_refl | exact subx_del | refine subx_put rfl ?_)
     ·first | (rw [lines_nl gh4, List.map_append] <;> rfl) | (rw [lines_no gh4] <;> rfl)
   ·have gh3 := h3
    try simp only [nrm] at h3
    refine aw_exit ?_
    obtain rfl : i = s.length := by omega
    have hll := lines_le (s := s) s.length
    refine aw_seq ?_
    refine aw_region ?_
    refine al_op (op_assign rfl) rfl (by simp) ?_
    refine al_nil ?_
    refine aw_seq ?_
    refine aw_seq ?_
    refine aw_region ?_
    refine al_op (op_move rfl) rfl (by simp) ?_
    first
      | refine al_op (op_len_map Tryd.underlying25 rfl) rfl (by simp) ?_
      | refine al_op (op_len_slice Tryd.underlying25 rfl rfl) rfl (by simp) ?_
      | refine al_op (op_len_list Tryd.underlying25 rfl) rfl (by simp) ?_
      | refine al_op (op_len_v Tryd.underlying25 rfl) rfl (by simp) ?_
      | refine al_op (op_len_nil Tryd.underlying25 rfl) rfl (by simp) ?_
    refine al_op (op_move rfl) rfl (by simp) ?_
    refine al_nil ?_
    refine aw_block ?_
    refine aw_forT (ι := Nat) [2, 7, 42] [9] (fun k => (lexP s).1.length - k) (fun k => k ≤ (lexP s).1.length) (fun k => ([(7, .v (.int .i64 (lastP pos k))), (42, .v (.int .i64 (k)))] : Env)) (fun k s => s) (0) ?_ ?_ ?_ (fun k hinv => ?_)
    ·exact Nat.zero_le _
    ·refine sub_cons (get_as rfl ?_) ?_; rotate_left; refine sub_cons (get_as rfl ?_) ?_; rotate_left; exact sub_nil
     all_goals (first | rfl | (rw [last_succ] <;> rfl) | simp)
    ·rfl
    refine aw_seq ?_
    refine aw_region ?_
    refine al_op (op_lss rfl rfl) rfl (by simp) ?_
    refine al_nil ?_
    refine aw_seq ?_
    refine aw_cond rfl (fun h5 => ?_) (fun h5 => ?_)
    ·have gh5 := h5
     try simp only [nrm] at h5
     refine aw_skip ?_
     refine aw_seq ?_
     refine aw_block ?_
     refine aw_seq ?_
     obtain ⟨hpf, hla, hlb⟩ := hpos k (by omega)
     obtain ⟨f1, f2, f3, f4, f5, f6⟩ := And.intro hpf.lt (And.intro hpf.line1 (And.intro hpf.line2 (And.intro hpf.col1 (And.intro hpf.col2 hpf.here))))
     have hti := poss_ok hpf.poss
     have hpn : ((lexP s).1.getD k default).op = 3 → 0 ≤ ((lexP s).1.getD k default).n := fun _ => (poss_small hpf.poss).2.1
     have hwl := (poss_small hpf.poss).2.2.2.1
     have hwt := (poss_small hpf.poss).1
     refine aw_region ?_
     first
       | refine al_op (op_index_map default Tryd.underlying25 info28 rfl rfl rfl (by first | (with_reducible exact Int.toNat_natCast _) | rfl) (by omega) (by omega)) rfl (by simp) ?_
       | refine al_op (op_index_slice Tryd.underlying25 info28 rfl rfl rfl rfl (by omega) (by omega)) rfl (by simp) ?_
       | refine al_op (op_index_list Tryd.underlying25 info28 rfl rfl rfl (by decide) rfl) rfl (by simp) ?_
     first
       | refine al_op (op_load_rptr Tryd.underlying28 info28 rfl rfl) rfl (by simp) ?_
       | refine al_op (op_load_map Tryd.underlying28 info28 rfl rfl (by omega) rfl) rfl (by simp) ?_
       | refine al_op (op_load_ptr Tryd.underlying28 info28 rfl rfl rfl rfl) rfl (by simp) ?_
     (refine al_opR (op_alloc 9 info28 rfl rfl) rfl (by simp) ?_; rintro _ _ ⟨ver9, rfl, rfl⟩)
     first
       | refine al_op (op_store_ptr info28 rfl rfl rfl rfl rfl rfl (by first | rfl | exact live_one rfl | (repeat (first | exact all_live_nil | refine all_live_clo rfl ?_ | refine all_live_slice rfl ?_ | refine all_live_map rfl ?_ | refine all_live_ptr rfl ?_))) (by decide)) rfl (by simp) ?_
       | refine al_op (op_store_ptr info28 rfl rfl rfl rfl rfl rfl (by first | rfl | exact live_one rfl | (repeat (first | exact all_live_nil | refine all_live_clo rfl ?_ | refine all_live_slice rfl ?_ | refine all_live_map rfl ?_ | refine all_live_ptr rfl ?_))) (Nat.le_of_ble_eq_true rfl)) rfl (by simp) ?_
     refine al_nil ?_
     refine aw_seq ?_
     refine aw_seq ?_
     refine aw_region ?_
     first
       | refine al_op (op_field_rptr Tryd.underlying28 rfl info3 (by decide) rfl rfl) rfl (by simp) ?_
       | refine al_op (op_field_ptr Tryd.underlying28 rfl info3 (by decide) rfl rfl rfl) rfl (by simp) ?_
     first
       | refine al_op (op_load_rptr Tryd.underlying3 info3 rfl rfl) rfl (by simp) ?_
       | refine al_op (op_load_map Tryd.underlying3 info3 rfl rfl (by omega) rfl) rfl (by simp) ?_
       | refine al_op (op_load_ptr Tryd.underlying3 info3 rfl rfl rfl rfl) rfl (by simp) ?_
     refine al_op (op_lss rfl rfl) rfl (by simp) ?_
     refine al_op (op_move rfl) rfl (by simp) ?_
     refine al_as 49 (.v (.bool false)) rfl (by congr 2; simp only [Bool.or_eq_false_iff, Bool.false_or, decide_eq_false_iff_not]; omega) ?_
     first
       | refine al_take (op_field_rptr Tryd.underlying28 rfl info3 (by decide) rfl rfl) rfl rfl rfl rfl (by simp) ?_
       | refine al_take (op_field_ptr Tryd.underlying28 rfl info3 (by decide) rfl rfl rfl) rfl rfl rfl rfl (by simp) ?_
     first
       | refine al_take (op_load_rptr Tryd.underlying3 info3 rfl rfl) rfl rfl rfl rfl (by simp) ?_
       | refine al_take (op_load_map Tryd.underlying3 info3 rfl rfl (by omega) rfl) rfl rfl rfl rfl (by simp) ?_
       | refine al_take (op_load_ptr Tryd.underlying3 info3 rfl rfl rfl rfl) rfl rfl rfl rfl (by simp) ?_
     refine al_take (op_move rfl) rfl rfl rfl rfl (by simp) ?_
     first
       | refine al_take (op_len_map Tryd.underlying44 rfl) rfl rfl rfl rfl (by simp) ?_
       | refine al_take (op_len_slice Tryd.underlying44 rfl rfl) rfl rfl rfl rfl (by simp) ?_
       | refine al_take (op_len_list Tryd.underlying44 rfl) rfl rfl rfl rfl (by simp) ?_
       | refine al_take (op_len_v Tryd.underlying44 rfl) rfl rfl rfl rfl (by simp) ?_
       | refine al_take (op_len_nil Tryd.underlying44 rfl) rfl rfl rfl rfl (by simp) ?_
     refine al_take (op_gtr rfl rfl) rfl rfl rfl rfl (by simp) ?_
     first
       | refine al_op (op_pick rfl rfl) rfl (by simp) ?_
       | refine al_op (op_or rfl rfl rfl) rfl (by simp) ?_
     refine al_op (op_move rfl) rfl (by simp) ?_
     refine al_as 56 (.v (.bool false)) rfl (by congr 2; simp only [Bool.or_eq_false_iff, Bool.false_or, decide_eq_false_iff_not]; omega) ?_
     first
       | refine al_take (op_field_rptr Tryd.underlying28 rfl info3 (by decide) rfl rfl) rfl rfl rfl rfl (by simp) ?_
       | refine al_take (op_field_ptr Tryd.underlying28 rfl info3 (by decide) rfl rfl rfl) rfl rfl rfl rfl (by simp) ?_
     first
       | refine al_take (op_load_rptr Tryd.underlying3 info3 rfl rfl) rfl rfl rfl rfl (by simp) ?_
       | refine al_take (op_load_map Tryd.underlying3 info3 rfl rfl (by omega) rfl) rfl rfl rfl rfl (by simp) ?_
       | refine al_take (op_load_ptr Tryd.underlying3 info3 rfl rfl rfl rfl) rfl rfl rfl rfl (by simp) ?_
     refine al_take (op_lss rfl rfl) rfl rfl rfl rfl (by simp) ?_
     first
       | refine al_op (op_pick rfl rfl) rfl (by simp) ?_
       | refine al_op (op_or rfl rfl rfl) rfl (by simp) ?_
     refine al_op (op_move rfl) rfl (by simp) ?_
     refine al_as 61 (.v (.bool false)) rfl (by congr 2; simp only [Bool.or_eq_false_iff, Bool.false_or, decide_eq_false_iff_not]; omega) ?_
     first
       | refine al_take (op_field_rptr Tryd.underlying28 rfl info3 (by decide) rfl rfl) rfl rfl rfl rfl (by simp) ?_
       | refine al_take (op_field_ptr Tryd.underlying28 rfl info3 (by decide) rfl rfl rfl) rfl rfl rfl rfl (by simp) ?_
     first
       | refine al_take (op_load_rptr Tryd.underlying3 info3 rfl rfl) rfl rfl rfl rfl (by simp) ?_
       | refine al_take (op_load_map Tryd.underlying3 info3 rfl rfl (by omega) rfl) rfl rfl rfl rfl (by simp) ?_
       | refine al_take (op_load_ptr Tryd.underlying3 info3 rfl rfl rfl rfl) rfl rfl rfl rfl (by simp) ?_
     refine al_take (op_move rfl) rfl rfl rfl rfl (by simp) ?_
     refine al_take (op_slen_str (ts := #[]) Tryd.underlying9 rfl) rfl rfl rfl rfl (by simp) ?_
     refine al_take (op_gtr rfl rfl) rfl rfl rfl rfl (by simp) ?_
     first
       | refine al_op (op_pick rfl rfl) rfl (by simp) ?_
       | refine al_op (op_or rfl rfl rfl) rfl (by simp) ?_
     refine al_nil ?_
     refine aw_cond rfl (fun h6 => ?_) (fun h6 => ?_)
     ·have gh6 := h6
      try simp only [nrm] at h6
      exfalso; simp only [Bool.or_eq_true, decide_eq_true_eq] at gh6; omega
     ·have gh6 := h6
      try simp only [nrm] at h6
      refine aw_skip ?_
      refine aw_seq ?_
      refine aw_any (Checked.mixed Tryd.checked) ?_
      apply aany_seg (p := 0) (q := 11) (by kernel_rfl) rfl (by decide)
      ·
       apply ql_plain rfl (op_move rfl)
       first
         | apply ql_plain rfl (op_field_rptr Tryd.underlying28 rfl info3 (by decide) rfl rfl)
         | apply ql_plain rfl (op_field_ptr Tryd.underlying28 rfl info3 (by decide) rfl rfl rfl)
       first
         | apply ql_plain rfl (op_load_rptr Tryd.underlying3 info3 rfl rfl)
         | apply ql_plain rfl (op_load_map Tryd.underlying3 info3 rfl rfl (by omega) rfl)
         | apply ql_plain rfl (op_load_ptr Tryd.underlying3 info3 rfl rfl rfl rfl)
       apply ql_plain rfl (op_sub rfl rfl (by first | exact wrap_i64 (by omega) (by omega)))
       first
         | apply ql_plain rfl (op_index_map default Tryd.underlying44 info3 rfl rfl rfl (by first | (with_reducible exact Int.toNat_natCast _) | rfl) (by omega) (by omega))
         | apply ql_plain rfl (op_index_slice Tryd.underlying44 info3 rfl rfl rfl rfl (by omega) (by omega))
         | apply ql_plain rfl (op_index_list Tryd.underlying44 info3 rfl rfl rfl (by decide) rfl)
       first
         | apply ql_plain rfl (val_as (.v (.int .i64 ((linesL s s.length).getD (((lexP s).1.getD k default).line - 1).toNat default))) (op_load_rptr Tryd.underlying3 info3 rfl rfl) (by rw [Nat.zero_add]))
         | apply ql_plain rfl (val_as (.v (.int .i64 ((linesL s s.length).getD (((lexP s).1.getD k default).line - 1).toNat default))) (op_load_map Tryd.underlying3 info3 rfl rfl (by omega) rfl) (by rw [Nat.zero_add]))
         | apply ql_plain rfl (val_as (.v (.int .i64 ((linesL s s.length).getD (((lexP s).1.getD k default).line - 1).toNat default))) (op_load_ptr Tryd.underlying3 info3 rfl rfl rfl rfl) (by rw [Nat.zero_add]))
       first
         | apply ql_plain rfl (op_field_rptr Tryd.underlying28 rfl info3 (by decide) rfl rfl)
         | apply ql_plain rfl (op_field_ptr Tryd.underlying28 rfl info3 (by decide) rfl rfl rfl)
       first
         | apply ql_plain rfl (op_load_rptr Tryd.underlying3 info3 rfl rfl)
         | apply ql_plain rfl (op_load_map Tryd.underlying3 info3 rfl rfl (by omega) rfl)
         | apply ql_plain rfl (op_load_ptr Tryd.underlying3 info3 rfl rfl rfl rfl)
       apply ql_plain rfl (op_add rfl rfl (by first | exact wrap_i64 (by omega) (by omega)))
       apply ql_plain rfl (val_as (.v (.int .i64 ((pos k : Nat) : Int))) (op_sub rfl rfl (by first | exact wrap_i64 (by omega) (by omega))) (by rw [f6]))
       apply ql_plain rfl (op_assign rfl)
       exact ql_nil
      ·simp
      refine aany_end rfl (by kernel_rfl) ?_
      refine aw_seq ?_
      refine aw_seq ?_
      refine aw_region ?_
      refine al_op (op_move rfl) rfl (by simp) ?_
      refine al_op (op_move rfl) rfl (by simp) ?_
      refine al_op (op_leq rfl rfl) rfl (by simp) ?_
      refine al_op (op_move rfl) rfl (by simp) ?_
      refine al_as 81 (.v (.bool false)) rfl (by congr 2; simp only [Bool.or_eq_false_iff, Bool.false_or, decide_eq_false_iff_not]; omega) ?_
      refine al_take (op_move rfl) rfl rfl rfl rfl (by simp) ?_
      refine al_take (op_move rfl) rfl rfl rfl rfl (by simp) ?_
      refine al_take (op_slen_str (ts := #[]) Tryd.underlying9 rfl) rfl rfl rfl rfl (by simp) ?_
      refine al_take (op_geq rfl rfl) rfl rfl rfl rfl (by simp) ?_
      first
        | refine al_op (op_pick rfl rfl) rfl (by simp) ?_
        | refine al_op (op_or rfl rfl rfl) rfl (by simp) ?_
      refine al_nil ?_
      refine aw_cond rfl (fun h7 => ?_) (fun h7 => ?_)
      ·have gh7 := h7
       try simp only [nrm] at h7
       exfalso; simp only [Bool.or_eq_true, decide_eq_true_eq] at gh7; omega
      ·have gh7 := h7
       try simp only [nrm] at h7
       refine aw_skip ?_
       refine aw_seq ?_
       refine aw_region ?_
       first
         | refine al_op (op_load_rptr Tryd.underlying28 info28 rfl rfl) rfl (by simp) ?_
         | refine al_op (op_load_map Tryd.underlying28 info28 rfl rfl (by omega) rfl) rfl (by simp) ?_
         | refine al_op (op_load_ptr Tryd.underlying28 info28 rfl rfl rfl rfl) rfl (by simp) ?_
       first
         | refine al_callp into20 rfl rfl rfl ((r_wri _ (by assumption) (by assumption)) _) (by simp) ?_
         | refine al_callp into20 rfl rfl rfl (acp_lent (lend_cons (by first | exact lend_same | exact .leaf _ _ (.vnil _) | exact .leaf _ _ (.nil _) | exact lend_whole rfl (by first | rfl | (simp; done) | (simp; omega)) (clo_map (fun _ => rfl))) lend_nil) (r_wri _ (by assumption) (by assumption)) rfl) (by simp) ?_
       refine al_op (op_assign rfl) rfl (by simp) ?_
       refine al_nil ?_
       refine aw_seq ?_
       refine aw_seq ?_
       refine aw_region ?_
       first
         | refine al_op (op_field_rptr Tryd.underlying28 rfl info26 (by decide) rfl rfl) rfl (by simp) ?_
         | refine al_op (op_field_ptr Tryd.underlying28 rfl info26 (by decide) rfl rfl rfl) rfl (by simp) ?_
       first
         | refine al_op (op_load_rptr Tryd.underlying26 info26 rfl rfl) rfl (by simp) ?_
         | refine al_op (op_load_map Tryd.underlying26 info26 rfl rfl (by omega) rfl) rfl (by simp) ?_
         | refine al_op (op_load_ptr Tryd.underlying26 info26 rfl rfl rfl rfl) rfl (by simp) ?_
       refine al_op (op_neq rfl rfl) rfl (by simp) ?_
       refine al_op (op_move rfl) rfl (by simp) ?_
       apply al_and 19 92 111 rfl
       ·intro h8; have gh8 := h8
        try simp only [nrm] at h8
        refine al_take (op_move rfl) rfl rfl rfl rfl (by simp) ?_
        refine al_take (op_move rfl) rfl rfl rfl rfl (by simp) ?_
        refine al_take (op_slen_str (ts := #[]) Tryd.underlying9 rfl) rfl rfl rfl rfl (by simp) ?_
        refine al_take (op_add rfl rfl (by first | exact wrap_i64 (by omega) (by omega))) rfl rfl rfl rfl (by simp) ?_
        refine al_take (op_move rfl) rfl rfl rfl rfl (by simp) ?_
        refine al_take (op_slen_str (ts := #[]) Tryd.underlying9 rfl) rfl rfl rfl rfl (by simp) ?_
        refine al_take (op_gtr rfl rfl) rfl rfl rfl rfl (by simp) ?_
        refine al_take (op_move rfl) rfl rfl rfl rfl (by simp) ?_
        apply al_or 10 100 110 rfl
        ·intro h9; have gh9 := h9
         try simp only [nrm] at h9
         refine al_take (op_move rfl) rfl rfl rfl rfl (by simp) ?_
         refine al_take (op_move rfl) rfl rfl rfl rfl (by simp) ?_
         refine al_take (op_move rfl) rfl rfl rfl rfl (by simp) ?_
         refine al_take (op_move rfl) rfl rfl rfl rfl (by simp) ?_
         refine al_take (op_slen_str (ts := #[]) Tryd.underlying9 rfl) rfl rfl rfl rfl (by simp) ?_
         refine al_take (op_add rfl rfl (by first | exact wrap_i64 (by omega) (by omega))) rfl rfl rfl rfl (by simp) ?_
         refine al_take (op_cut_str Tryd.underlying9 rfl (.of rfl (show _ = (((pos k) : Nat) : Int) from by omega)) (.of rfl (show _ = (((pos k + (wri ((lexP s).1.getD k default)).length) : Nat) : Int) from by omega)) (by omega) (by first | omega | (simp; omega))) rfl rfl rfl rfl (by simp) ?_
         refine al_take (op_move rfl) rfl rfl rfl rfl (by simp) ?_
         refine al_take (op_sneq_str rfl rfl) rfl rfl rfl rfl (by simp) ?_
         first
           | refine al_take (op_pick rfl rfl) rfl rfl rfl rfl (by simp) ?_
           | refine al_take (op_or rfl rfl rfl) rfl rfl rfl rfl (by simp) ?_
         refine al_nil ⟨rfl, rfl, rfl, keep_of ?_⟩
         repeat (first | exact subx_refl | exact subx_known rfl gh9 subx_refl | refine subx_put rfl ?_)
        ·intro h9; have gh9 := h9
         try simp only [nrm] at h9
         refine al_pass rfl rfl rfl rfl (by simp) ?_
         refine al_pass rfl rfl rfl rfl (by simp) ?_
         refine al_pass rfl rfl rfl rfl (by simp) ?_
         refine al_pass rfl rfl rfl rfl (by simp) ?_
         refine al_pass rfl rfl rfl rfl (by simp) ?_
         refine al_pass rfl rfl rfl rfl (by simp) ?_
         refine al_pass rfl rfl rfl rfl (by simp) ?_
         refine al_pass rfl rfl rfl rfl (by simp) ?_
         refine al_pass rfl rfl rfl rfl (by simp) ?_
         first
           | refine al_take (op_pick rfl rfl) rfl rfl rfl rfl (by simp) ?_
           | refine al_take (op_or rfl rfl rfl) rfl rfl rfl rfl (by simp) ?_
         refine al_nil ⟨rfl, rfl, rfl, keep_of ?_⟩
         repeat (first | exact subx_refl | exact subx_known rfl gh9 subx_refl | refine subx_put rfl ?_)
        first
          | refine al_op (op_pick rfl rfl) rfl (by simp) ?_
          | refine al_op (op_and rfl rfl rfl) rfl (by simp) ?_
        refine al_nil ⟨rfl, rfl, rfl, keep_of ?_⟩
        repeat (first | exact subx_refl | exact subx_known rfl gh8 subx_refl | refine subx_put rfl ?_)
       ·intro h8; have gh8 := h8
        try simp only [nrm] at h8
        refine al_pass rfl rfl rfl rfl (by simp) ?_
        refine al_pass rfl rfl rfl rfl (by simp) ?_
        refine al_pass rfl rfl rfl rfl (by simp) ?_
        refine al_pass rfl rfl rfl rfl (by simp) ?_
        refine al_pass rfl rfl rfl rfl (by simp) ?_
        refine al_pass rfl rfl rfl rfl (by simp) ?_
        refine al_pass rfl rfl rfl rfl (by simp) ?_
        refine al_pass rfl rfl rfl rfl (by simp) ?_
        refine al_pass_undef rfl rfl rfl rfl (by simp) ?_
        refine al_pass_undef rfl rfl rfl rfl (by simp) ?_
        refine al_pass_undef rfl rfl rfl rfl (by simp) ?_
        refine al_pass_undef rfl rfl rfl rfl (by simp) ?_
        refine al_pass_undef rfl rfl rfl rfl (by simp) ?_
        refine al_pass_undef rfl rfl rfl rfl (by simp) ?_
        refine al_pass_undef rfl rfl rfl rfl (by simp) ?_
        refine al_pass_undef rfl rfl rfl rfl (by simp) ?_
        refine al_pass_undef rfl rfl rfl rfl (by simp) ?_
        refine al_pass rfl rfl rfl rfl (by simp) ?_
        first
          | refine al_op (op_pick rfl rfl) rfl (by simp) ?_
          | refine al_op (op_and rfl rfl rfl) rfl (by simp) ?_
        refine al_nil ⟨rfl, rfl, rfl, keep_of ?_⟩
        repeat (first | exact subx_refl | exact subx_known rfl gh8 subx_refl | refine subx_put rfl ?_)
       refine al_op (op_move rfl) rfl (by simp) ?_
       apply al_or 16 112 128 rfl
       ·intro h10; have gh10 := h10
        try simp only [nrm] at h10
        first
          | refine al_take (op_field_rptr Tryd.underlying28 rfl info26 (by decide) rfl rfl) rfl rfl rfl rfl (by simp) ?_
          | refine al_take (op_field_ptr Tryd.underlying28 rfl info26 (by decide) rfl rfl rfl) rfl rfl rfl rfl (by simp) ?_
        first
          | refine al_take (op_load_rptr Tryd.underlying26 info26 rfl rfl) rfl rfl rfl rfl (by simp) ?_
          | refine al_take (op_load_map Tryd.underlying26 info26 rfl rfl (by omega) rfl) rfl rfl rfl rfl (by simp) ?_
          | refine al_take (op_load_ptr Tryd.underlying26 info26 rfl rfl rfl rfl) rfl rfl rfl rfl (by simp) ?_
        refine al_take (op_eql rfl rfl) rfl rfl rfl rfl (by simp) ?_
        refine al_take (op_move rfl) rfl rfl rfl rfl (by simp) ?_
        apply al_and 11 116 127 rfl
        ·intro h11; have gh11 := h11
         try simp only [nrm] at h11
         refine al_take (op_move rfl) rfl rfl rfl rfl (by simp) ?_
         refine al_take (op_move rfl) rfl rfl rfl rfl (by simp) ?_
         refine al_take (op_sidx_str Tryd.underlying9 rfl rfl (by first | (with_reducible exact Int.toNat_natCast _) | rfl) (by omega) (by first | omega | (simp; omega))) rfl rfl rfl rfl (by simp) ?_
         refine al_take (op_lss rfl rfl) rfl rfl rfl rfl (by simp) ?_
         refine al_take (op_move rfl) rfl rfl rfl rfl (by simp) ?_
         apply al_or 5 121 126 rfl
         ·intro h12; have gh12 := h12
          try simp only [nrm] at h12
          refine al_take (op_move rfl) rfl rfl rfl rfl (by simp) ?_
          refine al_take (op_move rfl) rfl rfl rfl rfl (by simp) ?_
          refine al_take (op_sidx_str Tryd.underlying9 rfl rfl (by first | (with_reducible exact Int.toNat_natCast _) | rfl) (by omega) (by first | omega | (simp; omega))) rfl rfl rfl rfl (by simp) ?_
          refine al_take (op_gtr rfl rfl) rfl rfl rfl rfl (by simp) ?_
          first
            | refine al_take (op_pick rfl rfl) rfl rfl rfl rfl (by simp) ?_
            | refine al_take (op_or rfl rfl rfl) rfl rfl rfl rfl (by simp) ?_
          refine al_nil ⟨rfl, rfl, rfl, keep_of ?_⟩
          repeat (first | exact subx_refl | exact subx_known rfl gh12 subx_refl | refine subx_put rfl ?_)
         ·intro h12; have gh12 := h12
          try simp only [nrm] at h12
          refine al_pass rfl rfl rfl rfl (by simp) ?_
          refine al_pass rfl rfl rfl rfl (by simp) ?_
          refine al_pass rfl rfl rfl rfl (by simp) ?_
          refine al_pass rfl rfl rfl rfl (by simp) ?_
          first
            | refine al_take (op_pick rfl rfl) rfl rfl rfl rfl (by simp) ?_
            | refine al_take (op_or rfl rfl rfl) rfl rfl rfl rfl (by simp) ?_
          refine al_nil ⟨rfl, rfl, rfl, keep_of ?_⟩
          repeat (first | exact subx_refl | exact subx_known rfl gh12 subx_refl | refine subx_put rfl ?_)
         first
           | refine al_take (op_pick rfl rfl) rfl rfl rfl rfl (by simp) ?_
           | refine al_take (op_and rfl rfl rfl) rfl rfl rfl rfl (by simp) ?_
         refine al_nil ⟨rfl, rfl, rfl, keep_of ?_⟩
         repeat (first | exact subx_refl | exact subx_known rfl gh11 subx_refl | refine subx_put rfl ?_)
        ·intro h11; have gh11 := h11
         try simp only [nrm] at h11
         refine al_pass rfl rfl rfl rfl (by simp) ?_
         refine al_pass rfl rfl rfl rfl (by simp) ?_
         refine al_pass rfl rfl rfl rfl (by simp) ?_
         refine al_pass rfl rfl rfl rfl (by simp) ?_
         refine al_pass rfl rfl rfl rfl (by simp) ?_
         refine al_pass_undef rfl rfl rfl rfl (by simp) ?_
         refine al_pass_undef rfl rfl rfl rfl (by simp) ?_
         refine al_pass_undef rfl rfl rfl rfl (by simp) ?_
         refine al_pass_undef rfl rfl rfl rfl (by simp) ?_
         refine al_pass rfl rfl rfl rfl (by simp) ?_
         first
           | refine al_take (op_pick rfl rfl) rfl rfl rfl rfl (by simp) ?_
           | refine al_take (op_and rfl rfl rfl) rfl rfl rfl rfl (by simp) ?_
         refine al_nil ⟨rfl, rfl, rfl, keep_of ?_⟩
         repeat (first | exact subx_refl | exact subx_known rfl gh11 subx_refl | refine subx_put rfl ?_)
        first
          | refine al_op (op_pick rfl rfl) rfl (by simp) ?_
          | refine al_op (op_or rfl rfl rfl) rfl (by simp) ?_
        refine al_nil ⟨rfl, rfl, rfl, keep_of ?_⟩
        repeat (first | exact subx_refl | exact subx_known rfl gh10 subx_refl | refine subx_put rfl ?_)
       ·intro h10; have gh10 := h10
        try simp only [nrm] at h10
        refine al_pass rfl rfl rfl rfl (by simp) ?_
        refine al_pass rfl rfl rfl rfl (by simp) ?_
        refine al_pass rfl rfl rfl rfl (by simp) ?_
        refine al_pass rfl rfl rfl rfl (by simp) ?_
        refine al_pass_undef rfl rfl rfl rfl (by simp) ?_
        refine al_pass_undef rfl rfl rfl rfl (by simp) ?_
        refine al_pass_undef rfl rfl rfl rfl (by simp) ?_
        refine al_pass_undef rfl rfl rfl rfl (by simp) ?_
        refine al_pass_undef rfl rfl rfl rfl (by simp) ?_
        refine al_pass_undef rfl rfl rfl rfl (by simp) ?_
        refine al_pass_undef rfl rfl rfl rfl (by simp) ?_
        refine al_pass_undef rfl rfl rfl rfl (by simp) ?_
        refine al_pass_undef rfl rfl rfl rfl (by simp) ?_
        refine al_pass_undef rfl rfl rfl rfl (by simp) ?_
        refine al_pass rfl rfl rfl rfl (by simp) ?_
        first
          | refine al_op (op_pick rfl rfl) rfl (by simp) ?_
          | refine al_op (op_or rfl rfl rfl) rfl (by simp) ?_
        refine al_nil ⟨rfl, rfl, rfl, keep_of ?_⟩
        repeat (first | exact subx_refl | exact subx_known rfl gh10 subx_refl | refine subx_put rfl ?_)
       refine al_nil ?_
       refine aw_cond rfl (fun h13 => ?_) (fun h13 => ?_)
       ·have gh13 := h13
        try simp only [nrm] at h13
        exfalso; rw [hpf.no, hpf.no2] at gh13; cases gh13
       ·have gh13 := h13
        try simp only [nrm] at h13
        refine aw_skip ?_
        refine aw_region ?_
        refine al_op (op_move rfl) rfl (by simp) ?_
        refine al_op (op_assign rfl) rfl (by simp) ?_
        refine al_nil ?_
        refine aw_region ?_
        refine al_op (op_add rfl rfl (by first | exact wrap_i64 (by omega) (by omega))) rfl (by simp) ?_
        refine al_op (op_move rfl) rfl (by simp) ?_
        refine al_nil ?_
        refine ⟨k + 1, ?_, ?_, ?_, ?_, ?_⟩
        ·omega
        ·first | trivial | omega
        ·refine sub_cons (get_as rfl ?_) ?_; rotate_left; refine sub_cons (get_as rfl ?_) ?_; rotate_left; exact sub_nil
         all_goals (first | rfl | (rw [last_succ] <;> rfl) | simp)
        ·repeat (first | exact subx_refl | exact subx_del | refine subx_put rfl ?_)
        ·rfl
    ·have gh5 := h5
     try simp only [nrm] at h5
     refine aw_exit ?_
     refine aw_seq ?_
     refine aw_region ?_
     first
       | refine al_callp into10 rfl rfl rfl ((l_awake ) _) (by simp) ?_
       | refine al_callp into10 rfl rfl rfl (acp_lent lend_nil (l_awake ) rfl) (by simp) ?_
     refine al_op (op_assign rfl) rfl (by simp) ?_
     refine al_nil ?_
     refine aw_freeze (fun _ => false) (fsub_cons (t := 2) rfl (.leaf _ _ (.same _)) fsub_nil) ?_
     refine aw_ret ?_
     refine ⟨_, res_1 rfl rfl, ?_, rfl⟩
     rfl
end Go.Proofs.YtbojpddejdmamaaDoor
