/- Printed walks (gen.py, lexer_ann.py): part 308. -/
import Derived.Test.YtbojpddejdmamaaDoorW307
import Derived.Test.YtbojpddejdmamaaDoorFacts
set_option linter.unusedVariables false
set_option linter.unusedSimpArgs false
set_option maxRecDepth 20000
set_option maxHeartbeats 40000000
namespace Go.Proofs.YtbojpddejdmamaaDoor
open Go

theorem c_written (t : Tk) (ht : OKT t) : ACp Tryd.prog 30 [.agg (encK t)] (.tuple [.v (.string (str ((wrP t).1))), .v (.bool ((wrP t).2))]) := by
 refine acp_of rfl ?_
 obtain ⟨t1, t2, t3⟩ := ht
 refine ac_enter 94 Tryd.func30 rfl rfl (by simp) ?_
 refine aw_seq ?_
 refine aw_region ?_
 (refine al_opR (op_box 1 rfl rfl (by first | rfl | exact live_one rfl | (repeat (first | exact all_live_nil | refine all_live_clo rfl ?_ | refine all_live_slice rfl ?_ | refine all_live_map rfl ?_ | refine all_live_ptr rfl ?_)))) rfl (by simp) ?_; rintro _ _ ⟨ver1, rfl, rfl⟩)
 refine al_op (op_assign rfl) rfl (by simp) ?_
 refine al_op (op_assign rfl) rfl (by simp) ?_
 refine al_nil ?_
 refine aw_seq ?_
 refine aw_seq ?_
 refine aw_region ?_
 first
   | refine al_op (op_field_rptr Tryd.underlying28 rfl info26 (by decide) rfl rfl) rfl (by simp) ?_
   | refine al_op (op_field_ptr Tryd.underlying28 rfl info26 (by decide) rfl rfl rfl) rfl (by simp) ?_
 first
   | refine al_op (op_load_rptr Tryd.underlying26 info26 rfl rfl) rfl (by simp) ?_
   | refine al_op (op_load_map Tryd.underlying26 info26 rfl rfl (by omega) rfl) rfl (by simp) ?_
   | refine al_op (op_load_ptr Tryd.underlying26 info26 rfl rfl rfl rfl) rfl (by simp) ?_
 refine al_op (op_neq rfl rfl) rfl (by simp) ?_
 refine al_op (op_move rfl) rfl (by simp) ?_
 apply al_and 4 9 13 rfl
 ·intro h1; have gh1 := h1
  try simp only [nrm] at h1
  first
    | refine al_take (op_field_rptr Tryd.underlying28 rfl info3 (by decide) rfl rfl) rfl rfl rfl rfl (by simp) ?_
    | refine al_take (op_field_ptr Tryd.underlying28 rfl info3 (by decide) rfl rfl rfl) rfl rfl rfl rfl (by simp) ?_
  first
    | refine al_take (op_load_rptr Tryd.underlying3 info3 rfl rfl) rfl rfl rfl rfl (by simp) ?_
    | refine al_take (op_load_map Tryd.underlying3 info3 rfl rfl (by omega) rfl) rfl rfl rfl rfl (by simp) ?_
    | refine al_take (op_load_ptr Tryd.underlying3 info3 rfl rfl rfl rfl) rfl rfl rfl rfl (by simp) ?_
  refine al_take (op_neq rfl rfl) rfl rfl rfl rfl (by simp) ?_
  first
    | refine al_op (op_pick rfl rfl) rfl (by simp) ?_
    | refine al_op (op_and rfl rfl rfl) rfl (by simp) ?_
  refine al_nil ⟨rfl, rfl, rfl, keep_of ?_⟩
  repeat (first | exact subx_refl | exact subx_known rfl gh1 subx_refl | refine subx_put rfl ?_)
 ·intro h1; have gh1 := h1
  try simp only [nrm] at h1
  refine al_pass rfl rfl rfl rfl (by simp) ?_
  refine al_pass rfl rfl rfl rfl (by simp) ?_
  refine al_pass rfl rfl rfl rfl (by simp) ?_
  first
    | refine al_op (op_pick rfl rfl) rfl (by simp) ?_
    | refine al_op (op_and rfl rfl rfl) rfl (by simp) ?_
  refine al_nil ⟨rfl, rfl, rfl, keep_of ?_⟩
  repeat (first | exact subx_refl | exact subx_known rfl gh1 subx_refl | refine subx_put rfl ?_)
 refine al_nil ?_
 refine aw_cond rfl (fun h2 => ?_) (fun h2 => ?_)
 ·have gh2 := h2
  try simp only [nrm] at h2
  refine aw_seq ?_
  refine aw_region ?_
  refine al_op (op_assign rfl) rfl (by simp) ?_
  refine al_op (op_assign rfl) rfl (by simp) ?_
  refine al_nil ?_
  refine aw_freeze (fun _ => false) (fsub_cons (t := 2) rfl (.leaf _ _ (.same _)) (fsub_cons (t := 3) rfl (.leaf _ _ (.same _)) fsub_nil)) ?_
  refine aw_ret ?_
  refine ⟨_, res_2 rfl rfl rfl rfl rfl, ?_, rfl⟩
  rw [wrP, gh2]; rfl
 ·have gh2 := h2
  try simp only [nrm] at h2
  refine aw_skip ?_
  refine aw_seq ?_
  refine aw_seq ?_
  refine aw_region ?_
  first
    | refine al_op (op_field_rptr Tryd.underlying28 rfl info26 (by decide) rfl rfl) rfl (by simp) ?_
    | refine al_op (op_field_ptr Tryd.underlying28 rfl info26 (by decide) rfl rfl rfl) rfl (by simp) ?_
  first
    | refine al_op (op_load_rptr Tryd.underlying26 info26 rfl rfl) rfl (by simp) ?_
    | refine al_op (op_load_map Tryd.underlying26 info26 rfl rfl (by omega) rfl) rfl (by simp) ?_
    | refine al_op (op_load_ptr Tryd.underlying26 info26 rfl rfl rfl rfl) rfl (by simp) ?_
  refine al_nil ?_
  refine aw_block ?_
  refine aw_seq ?_
  refine aw_region ?_
  refine al_op (op_eql rfl rfl) rfl (by simp) ?_
  refine al_op (op_assign rfl) rfl (by simp) ?_
  refine al_nil ?_
  refine aw_cond rfl (fun h3 => ?_) (fun h3 => ?_)
  ·have gh3 := h3
   try simp only [nrm] at h3
   refine aw_seq ?_
   refine aw_any (Checked.mixed Tryd.checked) ?_
   apply aany_seg (p := 0) (q := 7) (by kernel_rfl) rfl (by decide)
   ·
    first
      | apply ql_plain rfl (op_field_rptr Tryd.underlying28 rfl info9 (by decide) rfl rfl)
      | apply ql_plain rfl (op_field_ptr Tryd.underlying28 rfl info9 (by decide) rfl rfl rfl)
    first
      | apply ql_plain rfl (op_load_rptr Tryd.underlying9 info9 rfl rfl)
      | apply ql_plain rfl (op_load_map Tryd.underlying9 info9 rfl rfl (by omega) rfl)
      | apply ql_plain rfl (op_load_ptr Tryd.underlying9 info9 rfl rfl rfl rfl)
    first
      | apply ql_plain rfl (op_field_rptr Tryd.underlying28 rfl info9 (by decide) rfl rfl)
      | apply ql_plain rfl (op_field_ptr Tryd.underlying28 rfl info9 (by decide) rfl rfl rfl)
    first
      | apply ql_plain rfl (op_load_rptr Tryd.underlying9 info9 rfl rfl)
      | apply ql_plain rfl (op_load_map Tryd.underlying9 info9 rfl rfl (by omega) rfl)
      | apply ql_plain rfl (op_load_ptr Tryd.underlying9 info9 rfl rfl rfl rfl)
    first
      | apply ql_call into11 rfl rfl rfl ((c_isName _ (by first | assumption | omega | (simp; done) | (simp; omega) | decide)) _)
      | apply ql_call into11 rfl rfl rfl (acp_lent (lend_cons (by first | exact lend_same | exact .leaf _ _ (.vnil _) | exact .leaf _ _ (.nil _) | exact lend_whole rfl (by first | rfl | (simp; done) | (simp; omega)) (clo_map (fun _ => rfl))) lend_nil) (c_isName _ (by first | assumption | omega | (simp; done) | (simp; omega) | decide)) rfl)
    apply ql_plain rfl (op_assign rfl)
    apply ql_plain rfl (op_assign rfl)
    exact ql_nil
   ·simp
   refine aany_end rfl (by kernel_rfl) ?_
   refine aw_freeze (fun _ => false) (fsub_cons (t := 2) rfl (.leaf _ _ (.same _)) (fsub_cons (t := 3) rfl (.leaf _ _ (.same _)) fsub_nil)) ?_
   refine aw_ret ?_
   refine ⟨_, res_2 rfl rfl rfl rfl rfl, ?_, rfl⟩
   rw [wrP, gh2, gh3]; rfl
  ·have gh3 := h3
   try simp only [nrm] at h3
   refine aw_seq ?_
   refine aw_region ?_
   refine al_op (op_eql rfl rfl) rfl (by simp) ?_
   refine al_op (op_assign rfl) rfl (by simp) ?_
   refine al_nil ?_
   refine aw_cond rfl (fun h4 => ?_) (fun h4 => ?_)
   ·have gh4 := h4
    try simp only [nrm] at h4
    refine aw_seq ?_
    refine aw_any (Checked.mixed Tryd.checked) ?_
    apply aany_seg (p := 0) (q := 7) (by kernel_rfl) rfl (by decide)
    ·
     first
       | apply ql_plain rfl (op_field_rptr Tryd.underlying28 rfl info9 (by decide) rfl rfl)
       | apply ql_plain rfl (op_field_ptr Tryd.underlying28 rfl info9 (by decide) rfl rfl rfl)
     first
       | apply ql_plain rfl (op_load_rptr Tryd.underlying9 info9 rfl rfl)
       | apply ql_plain rfl (op_load_map Tryd.underlying9 info9 rfl rfl (by omega) rfl)
       | apply ql_plain rfl (op_load_ptr Tryd.underlying9 info9 rfl rfl rfl rfl)
     first
       | apply ql_plain rfl (op_field_rptr Tryd.underlying28 rfl info9 (by decide) rfl rfl)
       | apply ql_plain rfl (op_field_ptr Tryd.underlying28 rfl info9 (by decide) rfl rfl rfl)
     first
       | apply ql_plain rfl (op_load_rptr Tryd.underlying9 info9 rfl rfl)
       | apply ql_plain rfl (op_load_map Tryd.underlying9 info9 rfl rfl (by omega) rfl)
       | apply ql_plain rfl (op_load_ptr Tryd.underlying9 info9 rfl rfl rfl rfl)
     first
       | apply ql_call into12 rfl rfl rfl ((c_isWord _ (by first | assumption | omega | (simp; done) | (simp; omega) | decide)) _)
       | apply ql_call into12 rfl rfl rfl (acp_lent (lend_cons (by first | exact lend_same | exact .leaf _ _ (.vnil _) | exact .leaf _ _ (.nil _) | exact lend_whole rfl (by first | rfl | (simp; done) | (simp; omega)) (clo_map (fun _ => rfl))) lend_nil) (c_isWord _ (by first | assumption | omega | (simp; done) | (simp; omega) | decide)) rfl)
     apply ql_plain rfl (op_assign rfl)
     apply ql_plain rfl (op_assign rfl)
     exact ql_nil
    ·simp
    refine aany_end rfl (by kernel_rfl) ?_
    refine aw_freeze (fun _ => false) (fsub_cons (t := 2) rfl (.leaf _ _ (.same _)) (fsub_cons (t := 3) rfl (.leaf _ _ (.same _)) fsub_nil)) ?_
    refine aw_ret ?_
    refine ⟨_, res_2 rfl rfl rfl rfl rfl, ?_, rfl⟩
    rw [wrP, gh2, gh3, gh4]; rfl
   ·have gh4 := h4
    try simp only [nrm] at h4
    refine aw_seq ?_
    refine aw_region ?_
    refine al_op (op_eql rfl rfl) rfl (by simp) ?_
    refine al_op (op_assign rfl) rfl (by simp) ?_
    refine al_nil ?_
    refine aw_cond rfl (fun h5 => ?_) (fun h5 => ?_)
    ·have gh5 := h5
     try simp only [nrm] at h5
     refine aw_seq ?_
     refine aw_any (Checked.mixed Tryd.checked) ?_
     apply aany_seg (p := 0) (q := 7) (by kernel_rfl) rfl (by decide)
     ·
      first
        | apply ql_plain rfl (op_field_rptr Tryd.underlying28 rfl info3 (by decide) rfl rfl)
        | apply ql_plain rfl (op_field_ptr Tryd.underlying28 rfl info3 (by decide) rfl rfl rfl)
      first
        | apply ql_plain rfl (op_load_rptr Tryd.underlying3 info3 rfl rfl)
        | apply ql_plain rfl (op_load_map Tryd.underlying3 info3 rfl rfl (by omega) rfl)
        | apply ql_plain rfl (op_load_ptr Tryd.underlying3 info3 rfl rfl rfl rfl)
      first
        | apply ql_call into40 rfl rfl rfl ((q_itoa _ (by first | assumption | omega | (simp; done) | (simp; omega) | decide) (by first | assumption | omega | (simp; done) | (simp; omega) | decide)) _)
        | apply ql_call into40 rfl rfl rfl (acp_lent (lend_cons (by first | exact lend_same | exact .leaf _ _ (.vnil _) | exact .leaf _ _ (.nil _) | exact lend_whole rfl (by first | rfl | (simp; done) | (simp; omega)) (clo_map (fun _ => rfl))) lend_nil) (q_itoa _ (by first | assumption | omega | (simp; done) | (simp; omega) | decide) (by first | assumption | omega | (simp; done) | (simp; omega) | decide)) rfl)
      first
        | apply ql_plain rfl (op_field_rptr Tryd.underlying28 rfl info9 (by decide) rfl rfl)
        | apply ql_plain rfl (op_field_ptr Tryd.underlying28 rfl info9 (by decide) rfl rfl rfl)
      first
        | apply ql_plain rfl (op_load_rptr Tryd.underlying9 info9 rfl rfl)
        | apply ql_plain rfl (op_load_map Tryd.underlying9 info9 rfl rfl (by omega) rfl)
        | apply ql_plain rfl (op_load_ptr Tryd.underlying9 info9 rfl rfl rfl rfl)
      apply ql_plain rfl (op_seql_str rfl rfl)
      apply ql_plain rfl (op_move rfl)
      exact ql_nil
     ·simp
     apply aany_and 7 11 38 42 (by kernel_rfl) rfl (by decide) rfl (by simp)
     ·intro h6; have gh6 := h6
      try simp only [nrm] at h6
      apply ql_ex
      ·
       first
         | apply ql_take rfl rfl rfl rfl (op_field_rptr Tryd.underlying28 rfl info3 (by decide) rfl rfl)
         | apply ql_take rfl rfl rfl rfl (op_field_ptr Tryd.underlying28 rfl info3 (by decide) rfl rfl rfl)
       first
         | apply ql_take rfl rfl rfl rfl (op_load_rptr Tryd.underlying3 info3 rfl rfl)
         | apply ql_take rfl rfl rfl rfl (op_load_map Tryd.underlying3 info3 rfl rfl (by omega) rfl)
         | apply ql_take rfl rfl rfl rfl (op_load_ptr Tryd.underlying3 info3 rfl rfl rfl rfl)
       apply ql_take rfl rfl rfl rfl (op_geq rfl rfl)
       first
         | apply ql_plain rfl (op_pick rfl rfl)
         | apply ql_plain rfl (op_and rfl rfl rfl)
       exact ql_nil
      ·rfl
      ·repeat (first | exact subx_refl | exact subx_known rfl gh6 subx_refl | refine subx_put rfl ?_)
     ·intro h6; have gh6 := h6
      try simp only [nrm] at h6
      apply ql_ex
      ·
       apply ql_pass rfl rfl rfl rfl
       apply ql_pass rfl rfl rfl rfl
       apply ql_pass rfl rfl rfl rfl
       first
         | apply ql_plain rfl (op_pick rfl rfl)
         | apply ql_plain rfl (op_and rfl rfl rfl)
       exact ql_nil
      ·rfl
      ·repeat (first | exact subx_refl | exact subx_known rfl gh6 subx_refl | refine subx_put rfl ?_)
     apply aany_seg (p := 11) (q := 12) (by kernel_rfl) rfl (by decide)
     ·
      apply ql_plain rfl (op_move rfl)
      exact ql_nil
     ·simp
     apply aany_and2 12 17 43 47 2 (.v (.string (str (Lib.itoa t.n)))) (by kernel_rfl) rfl (by decide) rfl (by simp)
     ·intro h7; have gh7 := h7
      try simp only [nrm] at h7
      apply ql_ex2
      ·
       first
         | apply ql_take rfl rfl rfl rfl (op_field_rptr Tryd.underlying28 rfl info3 (by decide) rfl rfl)
         | apply ql_take rfl rfl rfl rfl (op_field_ptr Tryd.underlying28 rfl info3 (by decide) rfl rfl rfl)
       first
         | apply ql_take rfl rfl rfl rfl (op_load_rptr Tryd.underlying3 info3 rfl rfl)
         | apply ql_take rfl rfl rfl rfl (op_load_map Tryd.underlying3 info3 rfl rfl (by omega) rfl)
         | apply ql_take rfl rfl rfl rfl (op_load_ptr Tryd.underlying3 info3 rfl rfl rfl rfl)
       apply ql_take rfl rfl rfl rfl (op_leq rfl rfl)
       first
         | apply ql_plain rfl (op_pick rfl rfl)
         | apply ql_plain rfl (op_and rfl rfl rfl)
       apply ql_plain rfl (op_assign rfl)
       exact ql_nil
      ·rfl
      ·rfl
      ·repeat (first | exact subx_refl | exact subx_known rfl gh7 subx_refl | refine subx_put rfl ?_)
     ·intro h7; have gh7 := h7
      try simp only [nrm] at h7
      apply ql_ex2
      ·
       apply ql_pass rfl rfl rfl rfl
       apply ql_pass rfl rfl rfl rfl
       apply ql_pass rfl rfl rfl rfl
       first
         | apply ql_plain rfl (op_pick rfl rfl)
         | apply ql_plain rfl (op_and rfl rfl rfl)
       apply ql_plain rfl (op_assign rfl)
       exact ql_nil
      ·rfl
      ·rfl
      ·repeat (first | exact subx_refl | exact subx_known rfl gh7 subx_refl | refine subx_put rfl ?_)
     apply aany_seg (p := 17) (q := 18) (by kernel_rfl) rfl (by decide)
     ·
      apply ql_plain rfl (op_assign rfl)
      exact ql_nil
     ·simp
     refine aany_end rfl (by kernel_rfl) ?_
     refine aw_freeze (fun _ => false) (fsub_cons (t := 2) rfl (.leaf _ _ (.same _)) (fsub_cons (t := 3) rfl (.leaf _ _ (.same _)) fsub_nil)) ?_
     refine aw_ret ?_
     refine ⟨_, res_2 rfl rfl rfl rfl rfl, ?_, rfl⟩
     rw [wrP, gh2, gh3, gh4, gh5]; rfl
    ·have gh5 := h5
     try simp only [nrm] at h5
     refine aw_seq ?_
     refine aw_region ?_
     refine al_op (op_eql rfl rfl) rfl (by simp) ?_
     refine al_op (op_assign rfl) rfl (by simp) ?_
     refine al_nil ?_
     refine aw_cond rfl (fun h8 => ?_) (fun h8 => ?_)
     ·have gh8 := h8
      try simp only [nrm] at h8
      refine aw_seq ?_
      cases hsp0 : (((t.text.length : Int) == 1))
      ·
       refine aw_any (Checked.mixed Tryd.checked) ?_
       apply aany_seg (p := 0) (q := 15) (by kernel_rfl) rfl (by decide)
       ·
        first
          | apply ql_plain rfl (op_field_rptr Tryd.underlying28 rfl info9 (by decide) rfl rfl)
          | apply ql_plain rfl (op_field_ptr Tryd.underlying28 rfl info9 (by decide) rfl rfl rfl)
        first
          | apply ql_plain rfl (op_load_rptr Tryd.underlying9 info9 rfl rfl)
          | apply ql_plain rfl (op_load_map Tryd.underlying9 info9 rfl rfl (by omega) rfl)
          | apply ql_plain rfl (op_load_ptr Tryd.underlying9 info9 rfl rfl rfl rfl)
        apply ql_plain rfl (op_sadd_str rfl rfl (by first | omega | (simp; omega) | (simp; done) | (simp only [List.length_append, List.length_cons, List.length_nil]; omega)))
        apply ql_plain rfl (op_sadd_str rfl rfl (by first | omega | (simp; omega) | (simp; done) | (simp only [List.length_append, List.length_cons, List.length_nil]; omega)))
        first
          | apply ql_plain rfl (op_field_rptr Tryd.underlying28 rfl info9 (by decide) rfl rfl)
          | apply ql_plain rfl (op_field_ptr Tryd.underlying28 rfl info9 (by decide) rfl rfl rfl)
        first
          | apply ql_plain rfl (op_load_rptr Tryd.underlying9 info9 rfl rfl)
          | apply ql_plain rfl (op_load_map Tryd.underlying9 info9 rfl rfl (by omega) rfl)
          | apply ql_plain rfl (op_load_ptr Tryd.underlying9 info9 rfl rfl rfl rfl)
        apply ql_plain rfl (op_slen_str (ts := #[]) Tryd.underlying9 rfl)
        apply ql_plain rfl (op_eql rfl rfl)
        apply ql_plain rfl (bool_as hsp0 (op_move rfl))
        apply ql_pass rfl rfl rfl rfl
        apply ql_pass rfl rfl rfl rfl
        apply ql_pass rfl rfl rfl rfl
        first
          | apply ql_plain rfl (op_pick rfl rfl)
          | apply ql_plain rfl (op_and rfl rfl rfl)
        apply ql_plain rfl (op_assign rfl)
        apply ql_plain rfl (op_assign rfl)
        exact ql_nil
       ·simp
       refine aany_end rfl (by kernel_rfl) ?_
       refine aw_freeze (fun _ => false) (fsub_cons (t := 2) rfl (.leaf _ _ (.same _)) (fsub_cons (t := 3) rfl (.leaf _ _ (.same _)) fsub_nil)) ?_
       refine aw_ret ?_
       refine ⟨_, res_2 rfl rfl rfl rfl rfl, ?_, rfl⟩
       rw [wrP, gh2, gh3, gh4, gh5, gh8, hsp0]; rfl
      ·
       refine aw_any (Checked.mixed Tryd.checked) ?_
       apply aany_seg (p := 0) (q := 15) (by kernel_rfl) rfl (by decide)
       ·
        first
          | apply ql_plain rfl (op_field_rptr Tryd.underlying28 rfl info9 (by decide) rfl rfl)
          | apply ql_plain rfl (op_field_ptr Tryd.underlying28 rfl info9 (by decide) rfl rfl rfl)
        first
          | apply ql_plain rfl (op_load_rptr Tryd.underlying9 info9 rfl rfl)
          | apply ql_plain rfl (op_load_map Tryd.underlying9 info9 rfl rfl (by omega) rfl)
          | apply ql_plain rfl (op_load_ptr Tryd.underlying9 info9 rfl rfl rfl rfl)
        apply ql_plain rfl (op_sadd_str rfl rfl (by first | omega | (simp; omega) | (simp; done) | (simp only [List.length_append, List.length_cons, List.length_nil]; omega)))
        apply ql_plain rfl (op_sadd_str rfl rfl (by first | omega | (simp; omega) | (simp; done) | (simp only [List.length_append, List.length_cons, List.length_nil]; omega)))
        first
          | apply ql_plain rfl (op_field_rptr Tryd.underlying28 rfl info9 (by decide) rfl rfl)
          | apply ql_plain rfl (op_field_ptr Tryd.underlying28 rfl info9 (by decide) rfl rfl rfl)
        first
          | apply ql_plain rfl (op_load_rptr Tryd.underlying9 info9 rfl rfl)
          | apply ql_plain rfl (op_load_map Tryd.underlying9 info9 rfl rfl (by omega) rfl)
          | apply ql_plain rfl (op_load_ptr Tryd.underlying9 info9 rfl rfl rfl rfl)
        apply ql_plain rfl (op_slen_str (ts := #[]) Tryd.underlying9 rfl)
        apply ql_plain rfl (op_eql rfl rfl)
        apply ql_plain rfl (bool_as hsp0 (op_move rfl))
        first
          | apply ql_take rfl rfl rfl rfl (op_field_rptr Tryd.underlying28 rfl info9 (by decide) rfl rfl)
          | apply ql_take rfl rfl rfl rfl (op_field_ptr Tryd.underlying28 rfl info9 (by decide) rfl rfl rfl)
        first
          | apply ql_take rfl rfl rfl rfl (op_load_rptr Tryd.underlying9 info9 rfl rfl)
          | apply ql_take rfl rfl rfl rfl (op_load_map Tryd.underlying9 info9 rfl rfl (by omega) rfl)
          | apply ql_take rfl rfl rfl rfl (op_load_ptr Tryd.underlying9 info9 rfl rfl rfl rfl)
        first
          | apply ql_call_take into23 rfl rfl rfl rfl rfl rfl ((q_contains _ _ (by first | assumption | omega | (simp; done) | (simp; omega) | decide)) _)
          | apply ql_call_take into23 rfl rfl rfl rfl rfl rfl (acp_lent (lend_cons (by first | exact lend_same | exact .leaf _ _ (.vnil _) | exact .leaf _ _ (.nil _) | exact lend_whole rfl (by first | rfl | (simp; done) | (simp; omega)) (clo_map (fun _ => rfl))) (lend_cons (by first | exact lend_same | exact .leaf _ _ (.vnil _) | exact .leaf _ _ (.nil _) | exact lend_whole rfl (by first | rfl | (simp; done) | (simp; omega)) (clo_map (fun _ => rfl))) lend_nil)) (q_contains _ _ (by first | assumption | omega | (simp; done) | (simp; omega) | decide)) rfl)
        first
          | apply ql_plain rfl (op_pick rfl rfl)
          | apply ql_plain rfl (op_and rfl rfl rfl)
        apply ql_plain rfl (op_assign rfl)
        apply ql_plain rfl (op_assign rfl)
        exact ql_nil
       ·simp
       refine aany_end rfl (by kernel_rfl) ?_
       refine aw_freeze (fun _ => false) (fsub_cons (t := 2) rfl (.leaf _ _ (.same _)) (fsub_cons (t := 3) rfl (.leaf _ _ (.same _)) fsub_nil)) ?_
       refine aw_ret ?_
       refine ⟨_, res_2 rfl rfl rfl rfl rfl, ?_, rfl⟩
       rw [wrP, gh2, gh3, gh4, gh5, gh8, hsp0]; rfl
     ·have gh8 := h8
      try simp only [nrm] at h8
      refine aw_seq ?_
      refine aw_region ?_
      refine al_op (op_eql rfl rfl) rfl (by simp) ?_
      refine al_op (op_assign rfl) rfl (by simp) ?_
      refine al_nil ?_
      refine aw_cond rfl (fun h9 => ?_) (fun h9 => ?_)
      ·have gh9 := h9
       try simp only [nrm] at h9
       refine aw_seq ?_
       refine aw_region ?_
       first
         | refine al_op (op_field_rptr Tryd.underlying28 rfl info9 (by decide) rfl rfl) rfl (by simp) ?_
         | refine al_op (op_field_ptr Tryd.underlying28 rfl info9 (by decide) rfl rfl rfl) rfl (by simp) ?_
       first
         | refine al_op (op_load_rptr Tryd.underlying9 info9 rfl rfl) rfl (by simp) ?_
         | refine al_op (op_load_map Tryd.underlying9 info9 rfl rfl (by omega) rfl) rfl (by simp) ?_
         | refine al_op (op_load_ptr Tryd.underlying9 info9 rfl rfl rfl rfl) rfl (by simp) ?_
       first
         | refine al_callp into41 rfl rfl rfl ((c_parse _ (by first | assumption | omega | (simp; done) | (simp; omega) | decide)) _) (by simp) ?_
         | refine al_callp into41 rfl rfl rfl (ac_told (re_cons (by first | exact .leaf _ _ (.same _) | exact .leaf _ _ (.vnil _) | exact .leaf _ _ (.nil _)) re_nil) ((c_parse _ (by first | assumption | omega | (simp; done) | (simp; omega) | decide)) _)) (by simp) ?_
       refine al_op (op_move rfl) rfl (by simp) ?_
       refine al_op (op_extract rfl rfl rfl) rfl (by simp) ?_
       refine al_op (op_extract rfl rfl rfl) rfl (by simp) ?_
       refine al_op (op_assign rfl) rfl (by simp) ?_
       refine al_op (op_assign rfl) rfl (by simp) ?_
       refine al_nil ?_
       refine aw_seq ?_
       refine aw_region ?_
       first
         | refine al_op (op_field_rptr Tryd.underlying28 rfl info9 (by decide) rfl rfl) rfl (by simp) ?_
         | refine al_op (op_field_ptr Tryd.underlying28 rfl info9 (by decide) rfl rfl rfl) rfl (by simp) ?_
       first
         | refine al_op (op_load_rptr Tryd.underlying9 info9 rfl rfl) rfl (by simp) ?_
         | refine al_op (op_load_map Tryd.underlying9 info9 rfl rfl (by omega) rfl) rfl (by simp) ?_
         | refine al_op (op_load_ptr Tryd.underlying9 info9 rfl rfl rfl rfl) rfl (by simp) ?_
       refine al_op (op_sadd_str rfl rfl (by first | omega | (simp; omega) | (simp; done) | (simp only [List.length_append, List.length_cons, List.length_nil]; omega))) rfl (by simp) ?_
       refine al_op (op_sadd_str rfl rfl (by first | omega | (simp; omega) | (simp; done) | (simp only [List.length_append, List.length_cons, List.length_nil]; omega))) rfl (by simp) ?_
       refine al_op (op_move rfl) rfl (by simp) ?_
       refine al_op (op_eql rfl rfl) rfl (by simp) ?_
       refine al_op (op_assign rfl) rfl (by simp) ?_
       refine al_op (op_assign rfl) rfl (by simp) ?_
       refine al_nil ?_
       refine aw_freeze (fun _ => false) (fsub_cons (t := 2) rfl (.leaf _ _ (.same _)) (fsub_cons (t := 3) rfl (.leaf _ _ (.same _)) fsub_nil)) ?_
       refine aw_ret ?_
       refine ⟨_, res_2 rfl rfl rfl rfl rfl, ?_, rfl⟩
       rw [wrP, gh2, gh3, gh4, gh5, gh8, gh9]; rfl
      ·have gh9 := h9
       try simp only [nrm] at h9
       refine aw_seq ?_
       refine aw_region ?_
       refine al_op (op_eql rfl rfl) rfl (by simp) ?_
       refine al_op (op_assign rfl) rfl (by simp) ?_
       refine al_nil ?_
       refine aw_cond rfl (fun h10 => ?_) (fun h10 => ?_)
       ·have gh10 := h10
        try simp only [nrm] at h10
        refine aw_seq ?_
        refine aw_any (Checked.mixed Tryd.checked) ?_
        apply aany_seg (p := 0) (q := 9) (by kernel_rfl) rfl (by decide)
        ·
         first
           | apply ql_plain rfl (op_field_rptr Tryd.underlying28 rfl info9 (by decide) rfl rfl)
           | apply ql_plain rfl (op_field_ptr Tryd.underlying28 rfl info9 (by decide) rfl rfl rfl)
         first
           | apply ql_plain rfl (op_load_rptr Tryd.underlying9 info9 rfl rfl)
           | apply ql_plain rfl (op_load_map Tryd.underlying9 info9 rfl rfl (by omega) rfl)
           | apply ql_plain rfl (op_load_ptr Tryd.underlying9 info9 rfl rfl rfl rfl)
         apply ql_plain rfl (op_sadd_str rfl rfl (by first | omega | (simp; omega) | (simp; done) | (simp only [List.length_append, List.length_cons, List.length_nil]; omega)))
         apply ql_plain rfl (op_sadd_str rfl rfl (by first | omega | (simp; omega) | (simp; done) | (simp only [List.length_append, List.length_cons, List.length_nil]; omega)))
         first
           | apply ql_plain rfl (op_field_rptr Tryd.underlying28 rfl info9 (by decide) rfl rfl)
           | apply ql_plain rfl (op_field_ptr Tryd.underlying28 rfl info9 (by decide) rfl rfl rfl)
         first
           | apply ql_plain rfl (op_load_rptr Tryd.underlying9 info9 rfl rfl)
           | apply ql_plain rfl (op_load_map Tryd.underlying9 info9 rfl rfl (by omega) rfl)
           | apply ql_plain rfl (op_load_ptr Tryd.underlying9 info9 rfl rfl rfl rfl)
         first
           | apply ql_call into42 rfl rfl rfl ((c_isText _ (by first | assumption | omega | (simp; done) | (simp; omega) | decide)) _)
           | apply ql_call into42 rfl rfl rfl (acp_lent (lend_cons (by first | exact lend_same | exact .leaf _ _ (.vnil _) | exact .leaf _ _ (.nil _) | exact lend_whole rfl (by first | rfl | (simp; done) | (simp; omega)) (clo_map (fun _ => rfl))) lend_nil) (c_isText _ (by first | assumption | omega | (simp; done) | (simp; omega) | decide)) rfl)
         apply ql_plain rfl (op_assign rfl)
         apply ql_plain rfl (op_assign rfl)
         exact ql_nil
        ·simp
        refine aany_end rfl (by kernel_rfl) ?_
        refine aw_freeze (fun _ => false) (fsub_cons (t := 2) rfl (.leaf _ _ (.same _)) (fsub_cons (t := 3) rfl (.leaf _ _ (.same _)) fsub_nil)) ?_
        refine aw_ret ?_
        refine ⟨_, res_2 rfl rfl rfl rfl rfl, ?_, rfl⟩
        rw [wrP, gh2, gh3, gh4, gh5, gh8, gh9, gh10]; rfl
       ·have gh10 := h10
        try simp only [nrm] at h10
        refine aw_seq ?_
        refine aw_region ?_
        refine al_op (op_eql rfl rfl) rfl (by simp) ?_
        refine al_op (op_assign rfl) rfl (by simp) ?_
        refine al_nil ?_
        refine aw_cond rfl (fun h11 => ?_) (fun h11 => ?_)
        ·have gh11 := h11
         try simp only [nrm] at h11
         refine aw_seq ?_
         refine aw_any (Checked.mixed Tryd.checked) ?_
         apply aany_seg (p := 0) (q := 8) (by kernel_rfl) rfl (by decide)
         ·
          first
            | apply ql_plain rfl (op_field_rptr Tryd.underlying28 rfl info9 (by decide) rfl rfl)
            | apply ql_plain rfl (op_field_ptr Tryd.underlying28 rfl info9 (by decide) rfl rfl rfl)
          first
            | apply ql_plain rfl (op_load_rptr Tryd.underlying9 info9 rfl rfl)
            | apply ql_plain rfl (op_load_map Tryd.underlying9 info9 rfl rfl (by omega) rfl)
            | apply ql_plain rfl (op_load_ptr Tryd.underlying9 info9 rfl rfl rfl rfl)
          first
            | apply ql_call into44 rfl rfl rfl ((q_fields ) _)
            | apply ql_call into44 rfl rfl rfl (ac_told (re_cons (by first | exact .leaf _ _ (.same _) | exact .leaf _ _ (.vnil _) | exact .leaf _ _ (.nil _)) re_nil) ((q_fields ) _))
          first
            | apply ql_plain rfl (op_field_rptr Tryd.underlying28 rfl info9 (by decide) rfl rfl)
            | apply ql_plain rfl (op_field_ptr Tryd.underlying28 rfl info9 (by decide) rfl rfl rfl)
          first
            | apply ql_plain rfl (op_load_rptr Tryd.underlying9 info9 rfl rfl)
            | apply ql_plain rfl (op_load_map Tryd.underlying9 info9 rfl rfl (by omega) rfl)
            | apply ql_plain rfl (op_load_ptr Tryd.underlying9 info9 rfl rfl rfl rfl)
          first
            | apply ql_call into43 rfl rfl rfl ((q_member _ _ (by first | assumption | omega | (simp; done) | (simp; omega) | decide)) _)
            | apply ql_call into43 rfl rfl rfl (acp_lent (lend_cons (by first | exact lend_same | exact .leaf _ _ (.vnil _) | exact .leaf _ _ (.nil _) | exact lend_whole rfl (by first | rfl | (simp; done) | (simp; omega)) (clo_map (fun _ => rfl))) (lend_cons (by first | exact lend_same | exact .leaf _ _ (.vnil _) | exact .leaf _ _ (.nil _) | exact lend_whole rfl (by first | rfl | (simp; done) | (simp; omega)) (clo_map (fun _ => rfl))) lend_nil)) (q_member _ _ (by first | assumption | omega | (simp; done) | (simp; omega) | decide)) rfl)
          apply ql_plain rfl (op_assign rfl)
          apply ql_plain rfl (op_assign rfl)
          exact ql_nil
         ·simp
         refine aany_end rfl (by kernel_rfl) ?_
         refine aw_freeze (fun _ => false) (fsub_cons (t := 2) rfl (.leaf _ _ (.same _)) (fsub_cons (t := 3) rfl (.leaf _ _ (.same _)) fsub_nil)) ?_
         refine aw_ret ?_
         refine ⟨_, res_2 rfl rfl rfl rfl rfl, ?_, rfl⟩
         rw [wrP, gh2, gh3, gh4, gh5, gh8, gh9, gh10, gh11]; rfl
        ·have gh11 := h11
         try simp only [nrm] at h11
         refine aw_skip ?_
         refine aw_seq ?_
         refine aw_region ?_
         refine al_op (op_assign rfl) rfl (by simp) ?_
         refine al_op (op_assign rfl) rfl (by simp) ?_
         refine al_nil ?_
         refine aw_freeze (fun _ => false) (fsub_cons (t := 2) rfl (.leaf _ _ (.same _)) (fsub_cons (t := 3) rfl (.leaf _ _ (.same _)) fsub_nil)) ?_
         refine aw_ret ?_
         refine ⟨_, res_2 rfl rfl rfl rfl rfl, ?_, rfl⟩
         rw [wrP, gh2, gh3, gh4, gh5, gh8, gh9, gh10, gh11]; rfl

theorem c_Text (l : List Tk) (hl : OKTs l) (hn : l.length ≤ 1000000000) : ACp Tryd.prog 16 [.list 5 (l.map encK)] (.tuple [.v (.string (str ((textP l).1))), .v (.int .i64 ((textP l).2))]) := by
 refine acp_of rfl ?_
 refine ac_enter 32 Tryd.func16 rfl rfl (by simp) ?_
 refine aw_seq ?_
 refine aw_region ?_
 refine al_op (op_assign rfl) rfl (by simp) ?_
 refine al_op (op_assign rfl) rfl (by simp) ?_
 refine al_nil ?_
 refine aw_seq ?_
 refine aw_seq ?_
 refine aw_region ?_
 refine al_op (op_move rfl) rfl (by simp) ?_
 first
   | refine al_op (op_len_map Tryd.underlying25 rfl) rfl (by simp) ?_
   | refine al_op (op_len_slice Tryd.underlying25 rfl rfl) rfl (by simp) ?_
   | refine al_op (op_len_list Tryd.underlying25 rfl) rfl (by simp) ?_
   | refine al_op (op_len_v Tryd.underlying25 rfl) rfl (by simp) ?_
   | refine al_op (op_len_nil Tryd.underlying25 rfl) rfl (by simp) ?_
 refine al_op (op_gtr rfl rfl) rfl (by simp) ?_
 refine al_nil ?_
 refine aw_cond rfl (fun h1 => ?_) (fun h1 => ?_)
 ·have gh1 := h1
  try simp only [nrm] at h1
  refine aw_seq ?_
  refine aw_region ?_
  refine al_op (op_assign rfl) rfl (by simp) ?_
  refine al_op (op_assign rfl) rfl (by simp) ?_
  refine al_nil ?_
  refine aw_freeze (fun _ => false) (fsub_cons (t := 2) rfl (.leaf _ _ (.same _)) (fsub_cons (t := 3) rfl (.leaf _ _ (.same _)) fsub_nil)) ?_
  refine aw_ret ?_
  refine ⟨_, res_2 rfl rfl rfl rfl rfl, ?_, rfl⟩
  rw [textP_long gh1] <;> rfl
 ·have gh1 := h1
  try simp only [nrm] at h1
  refine aw_skip ?_
  refine aw_seq ?_
  refine aw_region ?_
  refine al_op (op_assign rfl) rfl (by simp) ?_
  refine al_nil ?_
  refine aw_seq ?_
  refine aw_seq ?_
  refine aw_region ?_
  refine al_op (op_move rfl) rfl (by simp) ?_
  first
    | refine al_op (op_len_map Tryd.underlying25 rfl) rfl (by simp) ?_
    | refine al_op (op_len_slice Tryd.underlying25 rfl rfl) rfl (by simp) ?_
    | refine al_op (op_len_list Tryd.underlying25 rfl) rfl (by simp) ?_
    | refine al_op (op_len_v Tryd.underlying25 rfl) rfl (by simp) ?_
    | refine al_op (op_len_nil Tryd.underlying25 rfl) rfl (by simp) ?_
  refine al_op (op_move rfl) rfl (by simp) ?_
  refine al_nil ?_
  refine aw_block ?_
  refine aw_own_map encBs 4 1 4 rfl rfl (fun ver4 => ?_)
  refine aw_for2T (α := Nat) (β := Nat) [2, 3, 4, 14] [6] (fun i ver => l.length - i) (fun i ver => i ≤ l.length ∧ ∀ k, k < i → (wrP (l.getD k default)).2 = true) (fun i ver => ([(4, .slice 4 ver 0 ((l.take i).map fun t => (wrP t).1).length), (14, .v (.int .i64 (i)))] : Env)) (fun i ver s => s.put 4 ver (.row 1 (((l.take i).map fun t => (wrP t).1).map encBs))) (0) (ver4) ?_ ?_ ?_ (fun i ver hinv => ?_)
  ·exact ⟨Nat.zero_le _, fun k hk => absurd hk (Nat.not_lt_zero k)⟩
  ·refine sub_cons (get_as rfl ?_) ?_; rotate_left; refine sub_cons (get_as rfl ?_) ?_; rotate_left; exact sub_nil
   all_goals (first | rfl | (simp; done) | (rw [take_more _ l i (by omega)] <;> rfl))
  ·rfl
  have hi := hinv.1
  have hal : ((l.take i).map fun t => (wrP t).1).length = i := by rw [List.length_map, List.length_take]; omega
  refine aw_seq ?_
  refine aw_region ?_
  refine al_op (op_lss rfl rfl) rfl (by simp) ?_
  refine al_nil ?_
  refine aw_seq ?_
  refine aw_cond rfl (fun h2 => ?_) (fun h2 => ?_)
  ·have gh2 := h2
   try simp only [nrm] at h2
   refine aw_skip ?_
   refine aw_seq ?_
   refine aw_block ?_
   refine aw_seq ?_
   refine aw_region ?_
   first
     | refine al_op (op_index_map default Tryd.underlying25 info28 rfl rfl rfl (by first | (with_reducible exact Int.toNat_natCast _) | rfl) (by omega) (by omega)) rfl (by simp) ?_
     | refine al_op (op_index_slice Tryd.underlying25 info28 rfl rfl rfl rfl (by omega) (by omega)) rfl (by simp) ?_
     | refine al_op (op_index_list Tryd.underlying25 info28 rfl rfl rfl (by decide) rfl) rfl (by simp) ?_
   first
     | refine al_op (op_load_rptr Tryd.underlying28 info28 rfl rfl) rfl (by simp) ?_
     | refine al_op (op_load_map Tryd.underlying28 info28 rfl rfl (by omega) rfl) rfl (by simp) ?_
     | refine al_op (op_load_ptr Tryd.underlying28 info28 rfl rfl rfl rfl) rfl (by simp) ?_
   (refine al_opR (op_alloc 6 info28 rfl rfl) rfl (by simp) ?_; rintro _ _ ⟨ver6, rfl, rfl⟩)
   first
     | refine al_op (op_store_ptr info28 rfl rfl rfl rfl rfl rfl (by first | rfl | exact live_one rfl | (repeat (first | exact all_live_nil | refine all_live_clo rfl ?_ | refine all_live_slice rfl ?_ | refine all_live_map rfl ?_ | refine all_live_ptr rfl ?_))) (by decide)) rfl (by simp) ?_
     | refine al_op (op_store_ptr info28 rfl rfl rfl rfl rfl rfl (by first | rfl | exact live_one rfl | (repeat (first | exact all_live_nil | refine all_live_clo rfl ?_ | refine all_live_slice rfl ?_ | refine all_live_map rfl ?_ | refine all_live_ptr rfl ?_))) (Nat.le_of_ble_eq_true rfl)) rfl (by simp) ?_
   refine al_nil ?_
   refine aw_seq ?_
   have hti := hl.at i (by omega)
   refine aw_region ?_
   first
     | refine al_op (op_load_rptr Tryd.underlying28 info28 rfl rfl) rfl (by simp) ?_
     | refine al_op (op_load_map Tryd.underlying28 info28 rfl rfl (by omega) rfl) rfl (by simp) ?_
     | refine al_op (op_load_ptr Tryd.underlying28 info28 rfl rfl rfl rfl) rfl (by simp) ?_
   first
     | refine al_callp into30 rfl rfl rfl ((c_written _ (by assumption)) _) (by simp) ?_
     | refine al_callp into30 rfl rfl rfl (acp_lent (lend_cons (by first | exact lend_same | exact .leaf _ _ (.vnil _) | exact .leaf _ _ (.nil _) | exact lend_whole rfl (by first | rfl | (simp; done) | (simp; omega)) (clo_map (fun _ => rfl))) lend_nil) (c_written _ (by assumption)) rfl) (by simp) ?_
   refine al_op (op_move rfl) rfl (by simp) ?_
   refine al_op (op_extract rfl rfl rfl) rfl (by simp) ?_
   refine al_op (op_extract rfl rfl rfl) rfl (by simp) ?_
   refine al_op (op_assign rfl) rfl (by simp) ?_
   refine al_op (op_assign rfl) rfl (by simp) ?_
   refine al_nil ?_
   refine aw_seq ?_
   refine aw_seq ?_
   refine aw_region ?_
   refine al_op (op_move rfl) rfl (by simp) ?_
   refine al_op (op_not rfl) rfl (by simp) ?_
   refine al_nil ?_
   refine aw_cond rfl (fun h3 => ?_) (fun h3 => ?_)
   ·have gh3 := h3
    try simp only [nrm] at h3
    refine aw_seq ?_
    refine aw_region ?_
    refine al_op (op_assign rfl) rfl (by simp) ?_
    refine al_op (op_assign rfl) rfl (by simp) ?_
    refine al_nil ?_
    refine aw_freeze (fun _ => false) (fsub_cons (t := 2) rfl (.leaf _ _ (.same _)) (fsub_cons (t := 3) rfl (.leaf _ _ (.same _)) fsub_nil)) ?_
    refine aw_ret ?_
    refine ⟨_, res_2 rfl rfl rfl rfl rfl, ?_, rfl⟩
    rw [textP_bad gh1 i (by omega) (by simpa using gh3)] <;> rfl
   ·have gh3 := h3
    try simp only [nrm] at h3
    refine aw_skip ?_
    refine aw_region ?_
    refine al_op (op_move rfl) rfl (by simp) ?_
    refine al_op (op_move rfl) rfl (by simp) ?_
    refine al_op (op_buildSlice Tryd.underlying41 info9 rfl rfl (by decide) rfl (by decide) rfl (by first | rfl | (repeat (first | exact parts_nil | refine parts_cons rfl (by repeat (first | exact all_live_nil | refine all_live_clo rfl ?_ | refine all_live_slice rfl ?_ | refine all_live_map rfl ?_ | refine all_live_ptr rfl ?_)) ?_))) rfl rfl rfl) rfl (by simp) ?_
    first
      | (refine al_opR (op_append_one (wrP (l.getD i default)).1 Tryd.underlying41 Tryd.underlying41 rfl info9 rfl rfl (by decide) rfl rfl rfl (by first | rfl | simp) rfl rfl (by first | omega | (simp; done) | (simp; omega)) (by show _ * 16 ≤ _; first | omega | (simp; done) | (simp; omega))) rfl (by simp) ?_; rintro _ _ ⟨ver28, rfl, rfl⟩)
      | (refine al_opR (op_append_map Tryd.underlying41 Tryd.underlying41 rfl info9 rfl rfl (by decide) rfl rfl rfl (by first | rfl | simp) rfl (by first | exact .list _ | exact .vnil | exact .nil | exact .row _ _ _ _ rfl (by first | rfl | simp)) rfl (by first | omega | (simp; done) | (simp; omega)) (by show _ * 16 ≤ _; first | omega | (simp; done) | (simp; omega))) rfl (by simp) ?_; rintro _ _ ⟨ver28, rfl, rfl⟩)
    refine al_op (op_assign rfl) rfl (by simp) ?_
    refine al_nil ?_
    refine aw_region ?_
    refine al_op (op_add rfl rfl (by first | exact wrap_i64 (by omega) (by omega))) rfl (by simp) ?_
    refine al_op (op_move rfl) rfl (by simp) ?_
    refine al_nil ?_
    refine ⟨i + 1, ver28, ?_, ?_, ?_, ?_, ?_⟩
    ·omega
    ·exact ⟨by omega, all_more (p := fun t => (wrP t).2) hinv.2 (by simpa using gh3)⟩
    ·refine sub_cons (get_as rfl ?_) ?_; rotate_left; refine sub_cons (get_as rfl ?_) ?_; rotate_left; exact sub_nil
     all_goals (first | rfl | (simp; done) | (rw [take_more _ l i (by omega)] <;> rfl))
    ·repeat (first | exact subx_refl | exact subx_del | refine subx_put rfl ?_)
    ·(rw [take_more _ l i (by omega)] <;> rfl)
  ·have gh2 := h2
   try simp only [nrm] at h2
   refine aw_exit ?_
   obtain rfl : i = l.length := by omega
   have hall := hinv.2
   have htl := text_len hl (by omega)
   refine aw_seq ?_
   refine aw_region ?_
   refine al_op (op_move rfl) rfl (by simp) ?_
   first
     | refine al_callp into31 rfl rfl rfl ((q_join _ _ (by first | assumption | omega | (simp; done) | (simp; omega) | decide) (by first | assumption | omega | (simp; done) | (simp; omega) | decide)) _) (by simp) ?_
     | refine al_callp into31 rfl rfl rfl (acp_lent (lend_cons (by first | exact lend_same | exact .leaf _ _ (.vnil _) | exact .leaf _ _ (.nil _) | exact lend_whole rfl (by first | rfl | (simp; done) | (simp; omega)) (clo_map (fun _ => rfl))) (lend_cons (by first | exact lend_same | exact .leaf _ _ (.vnil _) | exact .leaf _ _ (.nil _) | exact lend_whole rfl (by first | rfl | (simp; done) | (simp; omega)) (clo_map (fun _ => rfl))) lend_nil)) (q_join _ _ (by first | assumption | omega | (simp; done) | (simp; omega) | decide) (by first | assumption | omega | (simp; done) | (simp; omega) | decide)) rfl) (by simp) ?_
   refine al_op (op_assign rfl) rfl (by simp) ?_
   refine al_op (op_assign rfl) rfl (by simp) ?_
   refine al_nil ?_
   refine aw_freeze (fun _ => false) (fsub_cons (t := 2) rfl (.leaf _ _ (.same _)) (fsub_cons (t := 3) rfl (.leaf _ _ (.same _)) fsub_nil)) ?_
   refine aw_ret ?_
   refine ⟨_, res_2 rfl rfl rfl rfl rfl, ?_, rfl⟩
   rw [textP_ok gh1 hall, List.take_length] <;> rfl
end Go.Proofs.YtbojpddejdmamaaDoor
