/- Printed walks (gen.py, lexer_ann.py): part 309. -/
import Derived.Test.YtbojpddejdmamaaGreatDoorW307
import Derived.Test.YtbojpddejdmamaaGreatDoorLRef
import Derived.Test.YtbojpddejdmamaaGreatDoorFacts
set_option linter.unusedVariables false
set_option linter.unusedSimpArgs false
set_option maxRecDepth 20000
set_option maxHeartbeats 40000000
namespace Go.Proofs.YtbojpddejdmamaaGreatDoor
open Go

theorem c_written (t : Tk) (ht : OKT t) : ACp Tryz.prog 22 [.agg (encK t)] (.tuple [.v (.string (str ((wrP t).1))), .v (.bool ((wrP t).2))]) := by
 refine acp_of rfl ?_
 obtain ⟨t1, t2, t3⟩ := ht
 refine ac_enter 94 Tryz.func22 rfl rfl (by simp) ?_
 refine aw_seq ?_
 refine aw_region ?_
 (refine al_opR (op_box 1 rfl rfl (by first | rfl | exact live_one rfl | (repeat (first | exact all_live_nil | refine all_live_clo rfl ?_ | refine all_live_slice rfl ?_ | refine all_live_map rfl ?_ | refine all_live_ptr rfl ?_)))) rfl (by simp) ?_; rintro _ _ ⟨ver1, rfl, rfl⟩)
 refine al_op (op_assign rfl) rfl (by simp) ?_
 refine al_op (op_assign rfl) rfl (by simp) ?_
 refine al_nil ?_
 refine aw_seq ?_
 refine aw_seq ?_
 refine aw_region ?_
 first
   | refine al_op (op_field_rptr Tryz.underlying40 rfl info38 (by decide) rfl rfl) rfl (by simp) ?_
   | refine al_op (op_field_ptr Tryz.underlying40 rfl info38 (by decide) rfl rfl rfl) rfl (by simp) ?_
 first
   | refine al_op (op_load_rptr Tryz.underlying38 info38 rfl rfl) rfl (by simp) ?_
   | refine al_op (op_load_map Tryz.underlying38 info38 rfl rfl (by omega) rfl) rfl (by simp) ?_
   | refine al_op (op_load_ptr Tryz.underlying38 info38 rfl rfl rfl rfl) rfl (by simp) ?_
 refine al_op (op_neq rfl rfl) rfl (by simp) ?_
 refine al_op (op_move rfl) rfl (by simp) ?_
 apply al_and 4 9 13 rfl
 ·intro h1; have gh1 := h1
  try simp only [nrm] at h1
  first
    | refine al_take (op_field_rptr Tryz.underlying40 rfl info3 (by decide) rfl rfl) rfl rfl rfl rfl (by simp) ?_
    | refine al_take (op_field_ptr Tryz.underlying40 rfl info3 (by decide) rfl rfl rfl) rfl rfl rfl rfl (by simp) ?_
  first
    | refine al_take (op_load_rptr Tryz.underlying3 info3 rfl rfl) rfl rfl rfl rfl (by simp) ?_
    | refine al_take (op_load_map Tryz.underlying3 info3 rfl rfl (by omega) rfl) rfl rfl rfl rfl (by simp) ?_
    | refine al_take (op_load_ptr Tryz.underlying3 info3 rfl rfl rfl rfl) rfl rfl rfl rfl (by simp) ?_
  refine al_take (op_neq rfl rfl) rfl rfl rfl rfl (by simp) ?_
  first
    | refine al_op (op_pick rfl rfl) rfl (by simp) ?_
    | refine al_op (op_and rfl rfl rfl) rfl (by simp) ?_
  refine al_nil ⟨rfl, rfl, rfl, keep_of ?_⟩
  repeat (first | exact subx_refl | exact subx_known rfl gh1 subx_refl | refine subx_put rfl ?_)
 ·intro h1; have gh1 := h1
  try simp only [nrm] at h1
  refine al_pass rfl rfl rfl rfl (by simp) ?_
  refine al_pass rfl rfl rfl rfl (by simp) ?_
  refine al_pass rfl rfl rfl rfl (by simp) ?_
  first
    | refine al_op (op_pick rfl rfl) rfl (by simp) ?_
    | refine al_op (op_and rfl rfl rfl) rfl (by simp) ?_
  refine al_nil ⟨rfl, rfl, rfl, keep_of ?_⟩
  repeat (first | exact subx_refl | exact subx_known rfl gh1 subx_refl | refine subx_put rfl ?_)
 refine al_nil ?_
 refine aw_cond rfl (fun h2 => ?_) (fun h2 => ?_)
 ·have gh2 := h2
  try simp only [nrm] at h2
  refine aw_seq ?_
  refine aw_region ?_
  refine al_op (op_assign rfl) rfl (by simp) ?_
  refine al_op (op_assign rfl) rfl (by simp) ?_
  refine al_nil ?_
  refine aw_freeze (fun _ => false) (fsub_cons (t := 2) rfl (.leaf _ _ (.same _)) (fsub_cons (t := 3) rfl (.leaf _ _ (.same _)) fsub_nil)) ?_
  refine aw_ret ?_
  refine ⟨_, res_2 rfl rfl rfl rfl rfl, ?_, rfl⟩
  rw [wrP, gh2]; rfl
 ·have gh2 := h2
  try simp only [nrm] at h2
  refine aw_skip ?_
  refine aw_seq ?_
  refine aw_seq ?_
  refine aw_region ?_
  first
    | refine al_op (op_field_rptr Tryz.underlying40 rfl info38 (by decide) rfl rfl) rfl (by simp) ?_
    | refine al_op (op_field_ptr Tryz.underlying40 rfl info38 (by decide) rfl rfl rfl) rfl (by simp) ?_
  first
    | refine al_op (op_load_rptr Tryz.underlying38 info38 rfl rfl) rfl (by simp) ?_
    | refine al_op (op_load_map Tryz.underlying38 info38 rfl rfl (by omega) rfl) rfl (by simp) ?_
    | refine al_op (op_load_ptr Tryz.underlying38 info38 rfl rfl rfl rfl) rfl (by simp) ?_
  refine al_nil ?_
  refine aw_block ?_
  refine aw_seq ?_
  refine aw_region ?_
  refine al_op (op_eql rfl rfl) rfl (by simp) ?_
  refine al_op (op_assign rfl) rfl (by simp) ?_
  refine al_nil ?_
  refine aw_cond rfl (fun h3 => ?_) (fun h3 => ?_)
  ·have gh3 := h3
   try simp only [nrm] at h3
   refine aw_seq ?_
   refine aw_any (Checked.mixed Tryz.checked) ?_
   apply aany_seg (p := 0) (q := 7) (by kernel_rfl) rfl (by decide)
   ·
    first
      | apply ql_plain rfl (op_field_rptr Tryz.underlying40 rfl info9 (by decide) rfl rfl)
      | apply ql_plain rfl (op_field_ptr Tryz.underlying40 rfl info9 (by decide) rfl rfl rfl)
    first
      | apply ql_plain rfl (op_load_rptr Tryz.underlying9 info9 rfl rfl)
      | apply ql_plain rfl (op_load_map Tryz.underlying9 info9 rfl rfl (by omega) rfl)
      | apply ql_plain rfl (op_load_ptr Tryz.underlying9 info9 rfl rfl rfl rfl)
    first
      | apply ql_plain rfl (op_field_rptr Tryz.underlying40 rfl info9 (by decide) rfl rfl)
      | apply ql_plain rfl (op_field_ptr Tryz.underlying40 rfl info9 (by decide) rfl rfl rfl)
    first
      | apply ql_plain rfl (op_load_rptr Tryz.underlying9 info9 rfl rfl)
      | apply ql_plain rfl (op_load_map Tryz.underlying9 info9 rfl rfl (by omega) rfl)
      | apply ql_plain rfl (op_load_ptr Tryz.underlying9 info9 rfl rfl rfl rfl)
    first
      | apply ql_call into14 rfl rfl rfl ((c_isName _ (by first | assumption | omega | (simp; done) | (simp; omega) | decide)) _)
      | apply ql_call into14 rfl rfl rfl (acp_lent (lend_cons (by first | exact lend_same | exact .leaf _ _ (.vnil _) | exact .leaf _ _ (.nil _) | exact lend_whole rfl (by first | rfl | (simp; done) | (simp; omega)) (clo_map (fun _ => rfl))) lend_nil) (c_isName _ (by first | assumption | omega | (simp; done) | (simp; omega) | decide)) rfl)
    apply ql_plain rfl (op_assign rfl)
    apply ql_plain rfl (op_assign rfl)
    exact ql_nil
   ·simp
   refine aany_end rfl (by kernel_rfl) ?_
   refine aw_freeze (fun _ => false) (fsub_cons (t := 2) rfl (.leaf _ _ (.same _)) (fsub_cons (t := 3) rfl (.leaf _ _ (.same _)) fsub_nil)) ?_
   refine aw_ret ?_
   refine ⟨_, res_2 rfl rfl rfl rfl rfl, ?_, rfl⟩
   rw [wrP, gh2, gh3]; rfl
  ·have gh3 := h3
   try simp only [nrm] at h3
   refine aw_seq ?_
   refine aw_region ?_
   refine al_op (op_eql rfl rfl) rfl (by simp) ?_
   refine al_op (op_assign rfl) rfl (by simp) ?_
   refine al_nil ?_
   refine aw_cond rfl (fun h4 => ?_) (fun h4 => ?_)
   ·have gh4 := h4
    try simp only [nrm] at h4
    refine aw_seq ?_
    refine aw_any (Checked.mixed Tryz.checked) ?_
    apply aany_seg (p := 0) (q := 7) (by kernel_rfl) rfl (by decide)
    ·
     first
       | apply ql_plain rfl (op_field_rptr Tryz.underlying40 rfl info9 (by decide) rfl rfl)
       | apply ql_plain rfl (op_field_ptr Tryz.underlying40 rfl info9 (by decide) rfl rfl rfl)
     first
       | apply ql_plain rfl (op_load_rptr Tryz.underlying9 info9 rfl rfl)
       | apply ql_plain rfl (op_load_map Tryz.underlying9 info9 rfl rfl (by omega) rfl)
       | apply ql_plain rfl (op_load_ptr Tryz.underlying9 info9 rfl rfl rfl rfl)
     first
       | apply ql_plain rfl (op_field_rptr Tryz.underlying40 rfl info9 (by decide) rfl rfl)
       | apply ql_plain rfl (op_field_ptr Tryz.underlying40 rfl info9 (by decide) rfl rfl rfl)
     first
       | apply ql_plain rfl (op_load_rptr Tryz.underlying9 info9 rfl rfl)
       | apply ql_plain rfl (op_load_map Tryz.underlying9 info9 rfl rfl (by omega) rfl)
       | apply ql_plain rfl (op_load_ptr Tryz.underlying9 info9 rfl rfl rfl rfl)
     first
       | apply ql_call into15 rfl rfl rfl ((c_isWord _ (by first | assumption | omega | (simp; done) | (simp; omega) | decide)) _)
       | apply ql_call into15 rfl rfl rfl (acp_lent (lend_cons (by first | exact lend_same | exact .leaf _ _ (.vnil _) | exact .leaf _ _ (.nil _) | exact lend_whole rfl (by first | rfl | (simp; done) | (simp; omega)) (clo_map (fun _ => rfl))) lend_nil) (c_isWord _ (by first | assumption | omega | (simp; done) | (simp; omega) | decide)) rfl)
     apply ql_plain rfl (op_assign rfl)
     apply ql_plain rfl (op_assign rfl)
     exact ql_nil
    ·simp
    refine aany_end rfl (by kernel_rfl) ?_
    refine aw_freeze (fun _ => false) (fsub_cons (t := 2) rfl (.leaf _ _ (.same _)) (fsub_cons (t := 3) rfl (.leaf _ _ (.same _)) fsub_nil)) ?_
    refine aw_ret ?_
    refine ⟨_, res_2 rfl rfl rfl rfl rfl, ?_, rfl⟩
    rw [wrP, gh2, gh3, gh4]; rfl
   ·have gh4 := h4
    try simp only [nrm] at h4
    refine aw_seq ?_
    refine aw_region ?_
    refine al_op (op_eql rfl rfl) rfl (by simp) ?_
    refine al_op (op_assign rfl) rfl (by simp) ?_
    refine al_nil ?_
    refine aw_cond rfl (fun h5 => ?_) (fun h5 => ?_)
    ·have gh5 := h5
     try simp only [nrm] at h5
     refine aw_seq ?_
     refine aw_any (Checked.mixed Tryz.checked) ?_
     apply aany_seg (p := 0) (q := 7) (by kernel_rfl) rfl (by decide)
     ·
      first
        | apply ql_plain rfl (op_field_rptr Tryz.underlying40 rfl info3 (by decide) rfl rfl)
        | apply ql_plain rfl (op_field_ptr Tryz.underlying40 rfl info3 (by decide) rfl rfl rfl)
      first
        | apply ql_plain rfl (op_load_rptr Tryz.underlying3 info3 rfl rfl)
        | apply ql_plain rfl (op_load_map Tryz.underlying3 info3 rfl rfl (by omega) rfl)
        | apply ql_plain rfl (op_load_ptr Tryz.underlying3 info3 rfl rfl rfl rfl)
      first
        | apply ql_call into41 rfl rfl rfl ((q_itoa _ (by first | assumption | omega | (simp; done) | (simp; omega) | decide) (by first | assumption | omega | (simp; done) | (simp; omega) | decide)) _)
        | apply ql_call into41 rfl rfl rfl (acp_lent (lend_cons (by first | exact lend_same | exact .leaf _ _ (.vnil _) | exact .leaf _ _ (.nil _) | exact lend_whole rfl (by first | rfl | (simp; done) | (simp; omega)) (clo_map (fun _ => rfl))) lend_nil) (q_itoa _ (by first | assumption | omega | (simp; done) | (simp; omega) | decide) (by first | assumption | omega | (simp; done) | (simp; omega) | decide)) rfl)
      first
        | apply ql_plain rfl (op_field_rptr Tryz.underlying40 rfl info9 (by decide) rfl rfl)
        | apply ql_plain rfl (op_field_ptr Tryz.underlying40 rfl info9 (by decide) rfl rfl rfl)
      first
        | apply ql_plain rfl (op_load_rptr Tryz.underlying9 info9 rfl rfl)
        | apply ql_plain rfl (op_load_map Tryz.underlying9 info9 rfl rfl (by omega) rfl)
        | apply ql_plain rfl (op_load_ptr Tryz.underlying9 info9 rfl rfl rfl rfl)
      apply ql_plain rfl (op_seql_str rfl rfl)
      apply ql_plain rfl (op_move rfl)
      exact ql_nil
     ·simp
     apply aany_and 7 11 38 42 (by kernel_rfl) rfl (by decide) rfl (by simp)
     ·intro h6; have gh6 := h6
      try simp only [nrm] at h6
      apply ql_ex
      ·
       first
         | apply ql_take rfl rfl rfl rfl (op_field_rptr Tryz.underlying40 rfl info3 (by decide) rfl rfl)
         | apply ql_take rfl rfl rfl rfl (op_field_ptr Tryz.underlying40 rfl info3 (by decide) rfl rfl rfl)
       first
         | apply ql_take rfl rfl rfl rfl (op_load_rptr Tryz.underlying3 info3 rfl rfl)
         | apply ql_take rfl rfl rfl rfl (op_load_map Tryz.underlying3 info3 rfl rfl (by omega) rfl)
         | apply ql_take rfl rfl rfl rfl (op_load_ptr Tryz.underlying3 info3 rfl rfl rfl rfl)
       apply ql_take rfl rfl rfl rfl (op_geq rfl rfl)
       first
         | apply ql_plain rfl (op_pick rfl rfl)
         | apply ql_plain rfl (op_and rfl rfl rfl)
       exact ql_nil
      ·rfl
      ·repeat (first | exact subx_refl | exact subx_known rfl gh6 subx_refl | refine subx_put rfl ?_)
     ·intro h6; have gh6 := h6
      try simp only [nrm] at h6
      apply ql_ex
      ·
       apply ql_pass rfl rfl rfl rfl
       apply ql_pass rfl rfl rfl rfl
       apply ql_pass rfl rfl rfl rfl
       first
         | apply ql_plain rfl (op_pick rfl rfl)
         | apply ql_plain rfl (op_and rfl rfl rfl)
       exact ql_nil
      ·rfl
      ·repeat (first | exact subx_refl | exact subx_known rfl gh6 subx_refl | refine subx_put rfl ?_)
     apply aany_seg (p := 11) (q := 12) (by kernel_rfl) rfl (by decide)
     ·
      apply ql_plain rfl (op_move rfl)
      exact ql_nil
     ·simp
     apply aany_and2 12 17 43 47 2 (.v (.string (str (Lib.itoa t.n)))) (by kernel_rfl) rfl (by decide) rfl (by simp)
     ·intro h7; have gh7 := h7
      try simp only [nrm] at h7
      apply ql_ex2
      ·
       first
         | apply ql_take rfl rfl rfl rfl (op_field_rptr Tryz.underlying40 rfl info3 (by decide) rfl rfl)
         | apply ql_take rfl rfl rfl rfl (op_field_ptr Tryz.underlying40 rfl info3 (by decide) rfl rfl rfl)
       first
         | apply ql_take rfl rfl rfl rfl (op_load_rptr Tryz.underlying3 info3 rfl rfl)
         | apply ql_take rfl rfl rfl rfl (op_load_map Tryz.underlying3 info3 rfl rfl (by omega) rfl)
         | apply ql_take rfl rfl rfl rfl (op_load_ptr Tryz.underlying3 info3 rfl rfl rfl rfl)
       apply ql_take rfl rfl rfl rfl (op_leq rfl rfl)
       first
         | apply ql_plain rfl (op_pick rfl rfl)
         | apply ql_plain rfl (op_and rfl rfl rfl)
       apply ql_plain rfl (op_assign rfl)
       exact ql_nil
      ·rfl
      ·rfl
      ·repeat (first | exact subx_refl | exact subx_known rfl gh7 subx_refl | refine subx_put rfl ?_)
     ·intro h7; have gh7 := h7
      try simp only [nrm] at h7
      apply ql_ex2
      ·
       apply ql_pass rfl rfl rfl rfl
       apply ql_pass rfl rfl rfl rfl
       apply ql_pass rfl rfl rfl rfl
       first
         | apply ql_plain rfl (op_pick rfl rfl)
         | apply ql_plain rfl (op_and rfl rfl rfl)
       apply ql_plain rfl (op_assign rfl)
       exact ql_nil
      ·rfl
      ·rfl
      ·repeat (first | exact subx_refl | exact subx_known rfl gh7 subx_refl | refine subx_put rfl ?_)
     apply aany_seg (p := 17) (q := 18) (by kernel_rfl) rfl (by decide)
     ·
      apply ql_plain rfl (op_assign rfl)
      exact ql_nil
     ·simp
     refine aany_end rfl (by kernel_rfl) ?_
     refine aw_freeze (fun _ => false) (fsub_cons (t := 2) rfl (.leaf _ _ (.same _)) (fsub_cons (t := 3) rfl (.leaf _ _ (.same _)) fsub_nil)) ?_
     refine aw_ret ?_
     refine ⟨_, res_2 rfl rfl rfl rfl rfl, ?_, rfl⟩
     rw [wrP, gh2, gh3, gh4, gh5]; rfl
    ·have gh5 := h5
     try simp only [nrm] at h5
     refine aw_seq ?_
     refine aw_region ?_
     refine al_op (op_eql rfl rfl) rfl (by simp) ?_
     refine al_op (op_assign rfl) rfl (by simp) ?_
     refine al_nil ?_
     refine aw_cond rfl (fun h8 => ?_) (fun h8 => ?_)
     ·have gh8 := h8
      try simp only [nrm] at h8
      refine aw_seq ?_
      cases hsp0 : (((t.text.length : Int) == 1))
      ·
       refine aw_any (Checked.mixed Tryz.checked) ?_
       apply aany_seg (p := 0) (q := 15) (by kernel_rfl) rfl (by decide)
       ·
        first
          | apply ql_plain rfl (op_field_rptr Tryz.underlying40 rfl info9 (by decide) rfl rfl)
          | apply ql_plain rfl (op_field_ptr Tryz.underlying40 rfl info9 (by decide) rfl rfl rfl)
        first
          | apply ql_plain rfl (op_load_rptr Tryz.underlying9 info9 rfl rfl)
          | apply ql_plain rfl (op_load_map Tryz.underlying9 info9 rfl rfl (by omega) rfl)
          | apply ql_plain rfl (op_load_ptr Tryz.underlying9 info9 rfl rfl rfl rfl)
        apply ql_plain rfl (op_sadd_str rfl rfl (by first | omega | (simp; omega) | (simp; done) | (simp only [List.length_append, List.length_cons, List.length_nil]; omega)))
        apply ql_plain rfl (op_sadd_str rfl rfl (by first | omega | (simp; omega) | (simp; done) | (simp only [List.length_append, List.length_cons, List.length_nil]; omega)))
        first
          | apply ql_plain rfl (op_field_rptr Tryz.underlying40 rfl info9 (by decide) rfl rfl)
          | apply ql_plain rfl (op_field_ptr Tryz.underlying40 rfl info9 (by decide) rfl rfl rfl)
        first
          | apply ql_plain rfl (op_load_rptr Tryz.underlying9 info9 rfl rfl)
          | apply ql_plain rfl (op_load_map Tryz.underlying9 info9 rfl rfl (by omega) rfl)
          | apply ql_plain rfl (op_load_ptr Tryz.underlying9 info9 rfl rfl rfl rfl)
        apply ql_plain rfl (op_slen_str (ts := #[]) Tryz.underlying9 rfl)
        apply ql_plain rfl (op_eql rfl rfl)
        apply ql_plain rfl (bool_as hsp0 (op_move rfl))
        apply ql_pass rfl rfl rfl rfl
        apply ql_pass rfl rfl rfl rfl
        apply ql_pass rfl rfl rfl rfl
        first
          | apply ql_plain rfl (op_pick rfl rfl)
          | apply ql_plain rfl (op_and rfl rfl rfl)
        apply ql_plain rfl (op_assign rfl)
        apply ql_plain rfl (op_assign rfl)
        exact ql_nil
       ·simp
       refine aany_end rfl (by kernel_rfl) ?_
       refine aw_freeze (fun _ => false) (fsub_cons (t := 2) rfl (.leaf _ _ (.same _)) (fsub_cons (t := 3) rfl (.leaf _ _ (.same _)) fsub_nil)) ?_
       refine aw_ret ?_
       refine ⟨_, res_2 rfl rfl rfl rfl rfl, ?_, rfl⟩
       rw [wrP, gh2, gh3, gh4, gh5, gh8, hsp0]; rfl
      ·
       refine aw_any (Checked.mixed Tryz.checked) ?_
       apply aany_seg (p := 0) (q := 15) (by kernel_rfl) rfl (by decide)
       ·
        first
          | apply ql_plain rfl (op_field_rptr Tryz.underlying40 rfl info9 (by decide) rfl rfl)
          | apply ql_plain rfl (op_field_ptr Tryz.underlying40 rfl info9 (by decide) rfl rfl rfl)
        first
          | apply ql_plain rfl (op_load_rptr Tryz.underlying9 info9 rfl rfl)
          | apply ql_plain rfl (op_load_map Tryz.underlying9 info9 rfl rfl (by omega) rfl)
          | apply ql_plain rfl (op_load_ptr Tryz.underlying9 info9 rfl rfl rfl rfl)
        apply ql_plain rfl (op_sadd_str rfl rfl (by first | omega | (simp; omega) | (simp; done) | (simp only [List.length_append, List.length_cons, List.length_nil]; omega)))
        apply ql_plain rfl (op_sadd_str rfl rfl (by first | omega | (simp; omega) | (simp; done) | (simp only [List.length_append, List.length_cons, List.length_nil]; omega)))
        first
          | apply ql_plain rfl (op_field_rptr Tryz.underlying40 rfl info9 (by decide) rfl rfl)
          | apply ql_plain rfl (op_field_ptr Tryz.underlying40 rfl info9 (by decide) rfl rfl rfl)
        first
          | apply ql_plain rfl (op_load_rptr Tryz.underlying9 info9 rfl rfl)
          | apply ql_plain rfl (op_load_map Tryz.underlying9 info9 rfl rfl (by omega) rfl)
          | apply ql_plain rfl (op_load_ptr Tryz.underlying9 info9 rfl rfl rfl rfl)
        apply ql_plain rfl (op_slen_str (ts := #[]) Tryz.underlying9 rfl)
        apply ql_plain rfl (op_eql rfl rfl)
        apply ql_plain rfl (bool_as hsp0 (op_move rfl))
        first
          | apply ql_take rfl rfl rfl rfl (op_field_rptr Tryz.underlying40 rfl info9 (by decide) rfl rfl)
          | apply ql_take rfl rfl rfl rfl (op_field_ptr Tryz.underlying40 rfl info9 (by decide) rfl rfl rfl)
        first
          | apply ql_take rfl rfl rfl rfl (op_load_rptr Tryz.underlying9 info9 rfl rfl)
          | apply ql_take rfl rfl rfl rfl (op_load_map Tryz.underlying9 info9 rfl rfl (by omega) rfl)
          | apply ql_take rfl rfl rfl rfl (op_load_ptr Tryz.underlying9 info9 rfl rfl rfl rfl)
        first
          | apply ql_call_take into28 rfl rfl rfl rfl rfl rfl ((q_contains _ _ (by first | assumption | omega | (simp; done) | (simp; omega) | decide)) _)
          | apply ql_call_take into28 rfl rfl rfl rfl rfl rfl (acp_lent (lend_cons (by first | exact lend_same | exact .leaf _ _ (.vnil _) | exact .leaf _ _ (.nil _) | exact lend_whole rfl (by first | rfl | (simp; done) | (simp; omega)) (clo_map (fun _ => rfl))) (lend_cons (by first | exact lend_same | exact .leaf _ _ (.vnil _) | exact .leaf _ _ (.nil _) | exact lend_whole rfl (by first | rfl | (simp; done) | (simp; omega)) (clo_map (fun _ => rfl))) lend_nil)) (q_contains _ _ (by first | assumption | omega | (simp; done) | (simp; omega) | decide)) rfl)
        first
          | apply ql_plain rfl (op_pick rfl rfl)
          | apply ql_plain rfl (op_and rfl rfl rfl)
        apply ql_plain rfl (op_assign rfl)
        apply ql_plain rfl (op_assign rfl)
        exact ql_nil
       ·simp
       refine aany_end rfl (by kernel_rfl) ?_
       refine aw_freeze (fun _ => false) (fsub_cons (t := 2) rfl (.leaf _ _ (.same _)) (fsub_cons (t := 3) rfl (.leaf _ _ (.same _)) fsub_nil)) ?_
       refine aw_ret ?_
       refine ⟨_, res_2 rfl rfl rfl rfl rfl, ?_, rfl⟩
       rw [wrP, gh2, gh3, gh4, gh5, gh8, hsp0]; rfl
     ·have gh8 := h8
      try simp only [nrm] at h8
      refine aw_seq ?_
      refine aw_region ?_
      refine al_op (op_eql rfl rfl) rfl (by simp) ?_
      refine al_op (op_assign rfl) rfl (by simp) ?_
      refine al_nil ?_
      refine aw_cond rfl (fun h9 => ?_) (fun h9 => ?_)
      ·have gh9 := h9
       try simp only [nrm] at h9
       refine aw_seq ?_
       refine aw_region ?_
       first
         | refine al_op (op_field_rptr Tryz.underlying40 rfl info9 (by decide) rfl rfl) rfl (by simp) ?_
         | refine al_op (op_field_ptr Tryz.underlying40 rfl info9 (by decide) rfl rfl rfl) rfl (by simp) ?_
       first
         | refine al_op (op_load_rptr Tryz.underlying9 info9 rfl rfl) rfl (by simp) ?_
         | refine al_op (op_load_map Tryz.underlying9 info9 rfl rfl (by omega) rfl) rfl (by simp) ?_
         | refine al_op (op_load_ptr Tryz.underlying9 info9 rfl rfl rfl rfl) rfl (by simp) ?_
       first
         | refine al_callp into32 rfl rfl rfl ((c_parse _ (by first | assumption | omega | (simp; done) | (simp; omega) | decide)) _) (by simp) ?_
         | refine al_callp into32 rfl rfl rfl (ac_told (re_cons (by first | exact .leaf _ _ (.same _) | exact .leaf _ _ (.vnil _) | exact .leaf _ _ (.nil _)) re_nil) ((c_parse _ (by first | assumption | omega | (simp; done) | (simp; omega) | decide)) _)) (by simp) ?_
       refine al_op (op_move rfl) rfl (by simp) ?_
       refine al_op (op_extract rfl rfl rfl) rfl (by simp) ?_
       refine al_op (op_extract rfl rfl rfl) rfl (by simp) ?_
       refine al_op (op_assign rfl) rfl (by simp) ?_
       refine al_op (op_assign rfl) rfl (by simp) ?_
       refine al_nil ?_
       refine aw_seq ?_
       refine aw_region ?_
       first
         | refine al_op (op_field_rptr Tryz.underlying40 rfl info9 (by decide) rfl rfl) rfl (by simp) ?_
         | refine al_op (op_field_ptr Tryz.underlying40 rfl info9 (by decide) rfl rfl rfl) rfl (by simp) ?_
       first
         | refine al_op (op_load_rptr Tryz.underlying9 info9 rfl rfl) rfl (by simp) ?_
         | refine al_op (op_load_map Tryz.underlying9 info9 rfl rfl (by omega) rfl) rfl (by simp) ?_
         | refine al_op (op_load_ptr Tryz.underlying9 info9 rfl rfl rfl rfl) rfl (by simp) ?_
       refine al_op (op_sadd_str rfl rfl (by first | omega | (simp; omega) | (simp; done) | (simp only [List.length_append, List.length_cons, List.length_nil]; omega))) rfl (by simp) ?_
       refine al_op (op_sadd_str rfl rfl (by first | omega | (simp; omega) | (simp; done) | (simp only [List.length_append, List.length_cons, List.length_nil]; omega))) rfl (by simp) ?_
       refine al_op (op_move rfl) rfl (by simp) ?_
       refine al_op (op_eql rfl rfl) rfl (by simp) ?_
       refine al_op (op_assign rfl) rfl (by simp) ?_
       refine al_op (op_assign rfl) rfl (by simp) ?_
       refine al_nil ?_
       refine aw_freeze (fun _ => false) (fsub_cons (t := 2) rfl (.leaf _ _ (.same _)) (fsub_cons (t := 3) rfl (.leaf _ _ (.same _)) fsub_nil)) ?_
       refine aw_ret ?_
       refine ⟨_, res_2 rfl rfl rfl rfl rfl, ?_, rfl⟩
       rw [wrP, gh2, gh3, gh4, gh5, gh8, gh9]; rfl
      ·have gh9 := h9
       try simp only [nrm] at h9
       refine aw_seq ?_
       refine aw_region ?_
       refine al_op (op_eql rfl rfl) rfl (by simp) ?_
       refine al_op (op_assign rfl) rfl (by simp) ?_
       refine al_nil ?_
       refine aw_cond rfl (fun h10 => ?_) (fun h10 => ?_)
       ·have gh10 := h10
        try simp only [nrm] at h10
        refine aw_seq ?_
        refine aw_any (Checked.mixed Tryz.checked) ?_
        apply aany_seg (p := 0) (q := 9) (by kernel_rfl) rfl (by decide)
        ·
         first
           | apply ql_plain rfl (op_field_rptr Tryz.underlying40 rfl info9 (by decide) rfl rfl)
           | apply ql_plain rfl (op_field_ptr Tryz.underlying40 rfl info9 (by decide) rfl rfl rfl)
         first
           | apply ql_plain rfl (op_load_rptr Tryz.underlying9 info9 rfl rfl)
           | apply ql_plain rfl (op_load_map Tryz.underlying9 info9 rfl rfl (by omega) rfl)
           | apply ql_plain rfl (op_load_ptr Tryz.underlying9 info9 rfl rfl rfl rfl)
         apply ql_plain rfl (op_sadd_str rfl rfl (by first | omega | (simp; omega) | (simp; done) | (simp only [List.length_append, List.length_cons, List.length_nil]; omega)))
         apply ql_plain rfl (op_sadd_str rfl rfl (by first | omega | (simp; omega) | (simp; done) | (simp only [List.length_append, List.length_cons, List.length_nil]; omega)))
         first
           | apply ql_plain rfl (op_field_rptr Tryz.underlying40 rfl info9 (by decide) rfl rfl)
           | apply ql_plain rfl (op_field_ptr Tryz.underlying40 rfl info9 (by decide) rfl rfl rfl)
         first
           | apply ql_plain rfl (op_load_rptr Tryz.underlying9 info9 rfl rfl)
           | apply ql_plain rfl (op_load_map Tryz.underlying9 info9 rfl rfl (by omega) rfl)
           | apply ql_plain rfl (op_load_ptr Tryz.underlying9 info9 rfl rfl rfl rfl)
         first
           | apply ql_call into36 rfl rfl rfl ((c_isText _ (by first | assumption | omega | (simp; done) | (simp; omega) | decide)) _)
           | apply ql_call into36 rfl rfl rfl (acp_lent (lend_cons (by first | exact lend_same | exact .leaf _ _ (.vnil _) | exact .leaf _ _ (.nil _) | exact lend_whole rfl (by first | rfl | (simp; done) | (simp; omega)) (clo_map (fun _ => rfl))) lend_nil) (c_isText _ (by first | assumption | omega | (simp; done) | (simp; omega) | decide)) rfl)
         apply ql_plain rfl (op_assign rfl)
         apply ql_plain rfl (op_assign rfl)
         exact ql_nil
        ·simp
        refine aany_end rfl (by kernel_rfl) ?_
        refine aw_freeze (fun _ => false) (fsub_cons (t := 2) rfl (.leaf _ _ (.same _)) (fsub_cons (t := 3) rfl (.leaf _ _ (.same _)) fsub_nil)) ?_
        refine aw_ret ?_
        refine ⟨_, res_2 rfl rfl rfl rfl rfl, ?_, rfl⟩
        rw [wrP, gh2, gh3, gh4, gh5, gh8, gh9, gh10]; rfl
       ·have gh10 := h10
        try simp only [nrm] at h10
        refine aw_seq ?_
        refine aw_region ?_
        refine al_op (op_eql rfl rfl) rfl (by simp) ?_
        refine al_op (op_assign rfl) rfl (by simp) ?_
        refine al_nil ?_
        refine aw_cond rfl (fun h11 => ?_) (fun h11 => ?_)
        ·have gh11 := h11
         try simp only [nrm] at h11
         refine aw_seq ?_
         refine aw_any (Checked.mixed Tryz.checked) ?_
         apply aany_seg (p := 0) (q := 8) (by kernel_rfl) rfl (by decide)
         ·
          first
            | apply ql_plain rfl (op_field_rptr Tryz.underlying40 rfl info9 (by decide) rfl rfl)
            | apply ql_plain rfl (op_field_ptr Tryz.underlying40 rfl info9 (by decide) rfl rfl rfl)
          first
            | apply ql_plain rfl (op_load_rptr Tryz.underlying9 info9 rfl rfl)
            | apply ql_plain rfl (op_load_map Tryz.underlying9 info9 rfl rfl (by omega) rfl)
            | apply ql_plain rfl (op_load_ptr Tryz.underlying9 info9 rfl rfl rfl rfl)
          first
            | apply ql_call into37 rfl rfl rfl ((q_fields ) _)
            | apply ql_call into37 rfl rfl rfl (ac_told (re_cons (by first | exact .leaf _ _ (.same _) | exact .leaf _ _ (.vnil _) | exact .leaf _ _ (.nil _)) re_nil) ((q_fields ) _))
          first
            | apply ql_plain rfl (op_field_rptr Tryz.underlying40 rfl info9 (by decide) rfl rfl)
            | apply ql_plain rfl (op_field_ptr Tryz.underlying40 rfl info9 (by decide) rfl rfl rfl)
          first
            | apply ql_plain rfl (op_load_rptr Tryz.underlying9 info9 rfl rfl)
            | apply ql_plain rfl (op_load_map Tryz.underlying9 info9 rfl rfl (by omega) rfl)
            | apply ql_plain rfl (op_load_ptr Tryz.underlying9 info9 rfl rfl rfl rfl)
          first
            | apply ql_call into42 rfl rfl rfl ((q_member _ _ (by first | assumption | omega | (simp; done) | (simp; omega) | decide)) _)
            | apply ql_call into42 rfl rfl rfl (acp_lent (lend_cons (by first | exact lend_same | exact .leaf _ _ (.vnil _) | exact .leaf _ _ (.nil _) | exact lend_whole rfl (by first | rfl | (simp; done) | (simp; omega)) (clo_map (fun _ => rfl))) (lend_cons (by first | exact lend_same | exact .leaf _ _ (.vnil _) | exact .leaf _ _ (.nil _) | exact lend_whole rfl (by first | rfl | (simp; done) | (simp; omega)) (clo_map (fun _ => rfl))) lend_nil)) (q_member _ _ (by first | assumption | omega | (simp; done) | (simp; omega) | decide)) rfl)
          apply ql_plain rfl (op_assign rfl)
          apply ql_plain rfl (op_assign rfl)
          exact ql_nil
         ·simp
         refine aany_end rfl (by kernel_rfl) ?_
         refine aw_freeze (fun _ => false) (fsub_cons (t := 2) rfl (.leaf _ _ (.same _)) (fsub_cons (t := 3) rfl (.leaf _ _ (.same _)) fsub_nil)) ?_
         refine aw_ret ?_
         refine ⟨_, res_2 rfl rfl rfl rfl rfl, ?_, rfl⟩
         rw [wrP, gh2, gh3, gh4, gh5, gh8, gh9, gh10, gh11]; rfl
        ·have gh11 := h11
         try simp only [nrm] at h11
         refine aw_skip ?_
         refine aw_seq ?_
         refine aw_region ?_
         refine al_op (op_assign rfl) rfl (by simp) ?_
         refine al_op (op_assign rfl) rfl (by simp) ?_
         refine al_nil ?_
         refine aw_freeze (fun _ => false) (fsub_cons (t := 2) rfl (.leaf _ _ (.same _)) (fsub_cons (t := 3) rfl (.leaf _ _ (.same _)) fsub_nil)) ?_
         refine aw_ret ?_
         refine ⟨_, res_2 rfl rfl rfl rfl rfl, ?_, rfl⟩
         rw [wrP, gh2, gh3, gh4, gh5, gh8, gh9, gh10, gh11]; rfl

theorem c_Text (l : List Tk) (hl : OKTs l) (hn : l.length ≤ 1000000000) : ACp Tryz.prog 12 [.list 5 (l.map encK)] (.tuple [.v (.string (str ((textP l).1))), .v (.int .i64 ((textP l).2))]) := by
 refine acp_of rfl ?_
 refine ac_enter 32 Tryz.func12 rfl rfl (by simp) ?_
 refine aw_seq ?_
 refine aw_region ?_
 refine al_op (op_assign rfl) rfl (by simp) ?_
 refine al_op (op_assign rfl) rfl (by simp) ?_
 refine al_nil ?_
 refine aw_seq ?_
 refine aw_seq ?_
 refine aw_region ?_
 refine al_op (op_move rfl) rfl (by simp) ?_
 first
   | refine al_op (op_len_map Tryz.underlying24 rfl) rfl (by simp) ?_
   | refine al_op (op_len_slice Tryz.underlying24 rfl rfl) rfl (by simp) ?_
   | refine al_op (op_len_list Tryz.underlying24 rfl) rfl (by simp) ?_
   | refine al_op (op_len_v Tryz.underlying24 rfl) rfl (by simp) ?_
   | refine al_op (op_len_nil Tryz.underlying24 rfl) rfl (by simp) ?_
 refine al_op (op_gtr rfl rfl) rfl (by simp) ?_
 refine al_nil ?_
 refine aw_cond rfl (fun h1 => ?_) (fun h1 => ?_)
 ·have gh1 := h1
  try simp only [nrm] at h1
  refine aw_seq ?_
  refine aw_region ?_
  refine al_op (op_assign rfl) rfl (by simp) ?_
  refine al_op (op_assign rfl) rfl (by simp) ?_
  refine al_nil ?_
  refine aw_freeze (fun _ => false) (fsub_cons (t := 2) rfl (.leaf _ _ (.same _)) (fsub_cons (t := 3) rfl (.leaf _ _ (.same _)) fsub_nil)) ?_
  refine aw_ret ?_
  refine ⟨_, res_2 rfl rfl rfl rfl rfl, ?_, rfl⟩
  rw [textP_long gh1] <;> rfl
 ·have gh1 := h1
  try simp only [nrm] at h1
  refine aw_skip ?_
  refine aw_seq ?_
  refine aw_region ?_
  refine al_op (op_assign rfl) rfl (by simp) ?_
  refine al_nil ?_
  refine aw_seq ?_
  refine aw_seq ?_
  refine aw_region ?_
  refine al_op (op_move rfl) rfl (by simp) ?_
  first
    | refine al_op (op_len_map Tryz.underlying24 rfl) rfl (by simp) ?_
    | refine al_op (op_len_slice Tryz.underlying24 rfl rfl) rfl (by simp) ?_
    | refine al_op (op_len_list Tryz.underlying24 rfl) rfl (by simp) ?_
    | refine al_op (op_len_v Tryz.underlying24 rfl) rfl (by simp) ?_
    | refine al_op (op_len_nil Tryz.underlying24 rfl) rfl (by simp) ?_
  refine al_op (op_move rfl) rfl (by simp) ?_
  refine al_nil ?_
  refine aw_block ?_
  refine aw_own_map encBs 4 1 4 rfl rfl (fun ver4 => ?_)
  refine aw_for2T (α := Nat) (β := Nat) [2, 3, 4, 14] [6] (fun i ver => l.length - i) (fun i ver => i ≤ l.length ∧ ∀ k, k < i → (wrP (l.getD k default)).2 = true) (fun i ver => ([(4, .slice 4 ver 0 ((l.take i).map fun t => (wrP t).1).length), (14, .v (.int .i64 (i)))] : Env)) (fun i ver s => s.put 4 ver (.row 1 (((l.take i).map fun t => (wrP t).1).map encBs))) (0) (ver4) ?_ ?_ ?_ (fun i ver hinv => ?_)
  ·exact ⟨Nat.zero_le _, fun k hk => absurd hk (Nat.not_lt_zero k)⟩
  ·refine sub_cons (get_as rfl ?_) ?_; rotate_left; refine sub_cons (get_as rfl ?_) ?_; rotate_left; exact sub_nil
   all_goals (first | rfl | (simp; done) | (rw [take_more _ l i (by omega)] <;> rfl))
  ·rfl
  have hi := hinv.1
  have hal : ((l.take i).map fun t => (wrP t).1).length = i := by rw [List.length_map, List.length_take]; omega
  refine aw_seq ?_
  refine aw_region ?_
  refine al_op (op_lss rfl rfl) rfl (by simp) ?_
  refine al_nil ?_
  refine aw_seq ?_
  refine aw_cond rfl (fun h2 => ?_) (fun h2 => ?_)
  ·have gh2 := h2
   try simp only [nrm] at h2
   refine aw_skip ?_
   refine aw_seq ?_
   refine aw_block ?_
   refine aw_seq ?_
   refine aw_region ?_
   first
     | refine al_op (op_index_map default Tryz.underlying24 info40 rfl rfl rfl (by first | (with_reducible exact Int.toNat_natCast _) | rfl) (by omega) (by omega)) rfl (by simp) ?_
     | refine al_op (op_index_slice Tryz.underlying24 info40 rfl rfl rfl rfl (by omega) (by omega)) rfl (by simp) ?_
     | refine al_op (op_index_list Tryz.underlying24 info40 rfl rfl rfl (by decide) rfl) rfl (by simp) ?_
   first
     | refine al_op (op_load_rptr Tryz.underlying40 info40 rfl rfl) rfl (by simp) ?_
     | refine al_op (op_load_map Tryz.underlying40 info40 rfl rfl (by omega) rfl) rfl (by simp) ?_
     | refine al_op (op_load_ptr Tryz.underlying40 info40 rfl rfl rfl rfl) rfl (by simp) ?_
   (refine al_opR (op_alloc 6 info40 rfl rfl) rfl (by simp) ?_; rintro _ _ ⟨ver6, rfl, rfl⟩)
   first
     | refine al_op (op_store_ptr info40 rfl rfl rfl rfl rfl rfl (by first | rfl | exact live_one rfl | (repeat (first | exact all_live_nil | refine all_live_clo rfl ?_ | refine all_live_slice rfl ?_ | refine all_live_map rfl ?_ | refine all_live_ptr rfl ?_))) (by decide)) rfl (by simp) ?_
     | refine al_op (op_store_ptr info40 rfl rfl rfl rfl rfl rfl (by first | rfl | exact live_one rfl | (repeat (first | exact all_live_nil | refine all_live_clo rfl ?_ | refine all_live_slice rfl ?_ | refine all_live_map rfl ?_ | refine all_live_ptr rfl ?_))) (Nat.le_of_ble_eq_true rfl)) rfl (by simp) ?_
   refine al_nil ?_
   refine aw_seq ?_
   have hti := hl.at i (by omega)
   refine aw_region ?_
   first
     | refine al_op (op_load_rptr Tryz.underlying40 info40 rfl rfl) rfl (by simp) ?_
     | refine al_op (op_load_map Tryz.underlying40 info40 rfl rfl (by omega) rfl) rfl (by simp) ?_
     | refine al_op (op_load_ptr Tryz.underlying40 info40 rfl rfl rfl rfl) rfl (by simp) ?_
   first
     | refine al_callp into22 rfl rfl rfl ((c_written _ (by assumption)) _) (by simp) ?_
     | refine al_callp into22 rfl rfl rfl (acp_lent (lend_cons (by first | exact lend_same | exact .leaf _ _ (.vnil _) | exact .leaf _ _ (.nil _) | exact lend_whole rfl (by first | rfl | (simp; done) | (simp; omega)) (clo_map (fun _ => rfl))) lend_nil) (c_written _ (by assumption)) rfl) (by simp) ?_
   refine al_op (op_move rfl) rfl (by simp) ?_
   refine al_op (op_extract rfl rfl rfl) rfl (by simp) ?_
   refine al_op (op_extract rfl rfl rfl) rfl (by simp) ?_
   refine al_op (op_assign rfl) rfl (by simp) ?_
   refine al_op (op_assign rfl) rfl (by simp) ?_
   refine al_nil ?_
   refine aw_seq ?_
   refine aw_seq ?_
   refine aw_region ?_
   refine al_op (op_move rfl) rfl (by simp) ?_
   refine al_op (op_not rfl) rfl (by simp) ?_
   refine al_nil ?_
   refine aw_cond rfl (fun h3 => ?_) (fun h3 => ?_)
   ·have gh3 := h3
    try simp only [nrm] at h3
    refine aw_seq ?_
    refine aw_region ?_
    refine al_op (op_assign rfl) rfl (by simp) ?_
    refine al_op (op_assign rfl) rfl (by simp) ?_
    refine al_nil ?_
    refine aw_freeze (fun _ => false) (fsub_cons (t := 2) rfl (.leaf _ _ (.same _)) (fsub_cons (t := 3) rfl (.leaf _ _ (.same _)) fsub_nil)) ?_
    refine aw_ret ?_
    refine ⟨_, res_2 rfl rfl rfl rfl rfl, ?_, rfl⟩
    rw [textP_bad gh1 i (by omega) (by simpa using gh3)] <;> rfl
   ·have gh3 := h3
    try simp only [nrm] at h3
    refine aw_skip ?_
    refine aw_region ?_
    refine al_op (op_move rfl) rfl (by simp) ?_
    refine al_op (op_move rfl) rfl (by simp) ?_
    refine al_op (op_buildSlice Tryz.underlying48 info9 rfl rfl (by decide) rfl (by decide) rfl (by first | rfl | (repeat (first | exact parts_nil | refine parts_cons rfl (by repeat (first | exact all_live_nil | refine all_live_clo rfl ?_ | refine all_live_slice rfl ?_ | refine all_live_map rfl ?_ | refine all_live_ptr rfl ?_)) ?_))) rfl rfl rfl) rfl (by simp) ?_
    first
      | (refine al_opR (op_append_one (wrP (l.getD i default)).1 Tryz.underlying48 Tryz.underlying48 rfl info9 rfl rfl (by decide) rfl rfl rfl (by first | rfl | simp) rfl rfl (by first | omega | (simp; done) | (simp; omega)) (by show _ * 16 ≤ _; first | omega | (simp; done) | (simp; omega))) rfl (by simp) ?_; rintro _ _ ⟨ver28, rfl, rfl⟩)
      | (refine al_opR (op_append_map Tryz.underlying48 Tryz.underlying48 rfl info9 rfl rfl (by decide) rfl rfl rfl (by first | rfl | simp) rfl (by first | exact .list _ | exact .vnil | exact .nil | exact .row _ _ _ _ rfl (by first | rfl | simp)) rfl (by first | omega | (simp; done) | (simp; omega)) (by show _ * 16 ≤ _; first | omega | (simp; done) | (simp; omega))) rfl (by simp) ?_; rintro _ _ ⟨ver28, rfl, rfl⟩)
    refine al_op (op_assign rfl) rfl (by simp) ?_
    refine al_nil ?_
    refine aw_region ?_
    refine al_op (op_add rfl rfl (by first | exact wrap_i64 (by omega) (by omega))) rfl (by simp) ?_
    refine al_op (op_move rfl) rfl (by simp) ?_
    refine al_nil ?_
    refine ⟨i + 1, ver28, ?_, ?_, ?_, ?_, ?_⟩
    ·omega
    ·exact ⟨by omega, all_more (p := fun t => (wrP t).2) hinv.2 (by simpa using gh3)⟩
    ·refine sub_cons (get_as rfl ?_) ?_; rotate_left; refine sub_cons (get_as rfl ?_) ?_; rotate_left; exact sub_nil
     all_goals (first | rfl | (simp; done) | (rw [take_more _ l i (by omega)] <;> rfl))
    ·repeat (first | exact subx_refl | exact subx_del | refine subx_put rfl ?_)
    ·(rw [take_more _ l i (by omega)] <;> rfl)
  ·have gh2 := h2
   try simp only [nrm] at h2
   refine aw_exit ?_
   obtain rfl : i = l.length := by omega
   have hall := hinv.2
   have htl := text_len hl (by omega)
   refine aw_seq ?_
   refine aw_region ?_
   refine al_op (op_move rfl) rfl (by simp) ?_
   first
     | refine al_callp into23 rfl rfl rfl ((q_join _ _ (by first | assumption | omega | (simp; done) | (simp; omega) | decide) (by first | assumption | omega | (simp; done) | (simp; omega) | decide)) _) (by simp) ?_
     | refine al_callp into23 rfl rfl rfl (acp_lent (lend_cons (by first | exact lend_same | exact .leaf _ _ (.vnil _) | exact .leaf _ _ (.nil _) | exact lend_whole rfl (by first | rfl | (simp; done) | (simp; omega)) (clo_map (fun _ => rfl))) (lend_cons (by first | exact lend_same | exact .leaf _ _ (.vnil _) | exact .leaf _ _ (.nil _) | exact lend_whole rfl (by first | rfl | (simp; done) | (simp; omega)) (clo_map (fun _ => rfl))) lend_nil)) (q_join _ _ (by first | assumption | omega | (simp; done) | (simp; omega) | decide) (by first | assumption | omega | (simp; done) | (simp; omega) | decide)) rfl) (by simp) ?_
   refine al_op (op_assign rfl) rfl (by simp) ?_
   refine al_op (op_assign rfl) rfl (by simp) ?_
   refine al_nil ?_
   refine aw_freeze (fun _ => false) (fsub_cons (t := 2) rfl (.leaf _ _ (.same _)) (fsub_cons (t := 3) rfl (.leaf _ _ (.same _)) fsub_nil)) ?_
   refine aw_ret ?_
   refine ⟨_, res_2 rfl rfl rfl rfl rfl, ?_, rfl⟩
   rw [textP_ok gh1 hall, List.take_length] <;> rfl

theorem r_Words  : ACp Tryz.prog 71 [] (.list 1 (wordsL.map encBs)) := by
 refine acp_of rfl ?_
 refine ac_enter 2 Tryz.func71 rfl rfl (by simp) ?_
 refine aw_seq ?_
 refine aw_region ?_
 refine al_op (op_assign rfl) rfl (by simp) ?_
 refine al_nil ?_
 refine aw_seq ?_
 refine aw_region ?_
 refine al_op (op_list encBs wordsL Tryz.underlying48 info9 rfl rfl (by decide) rfl (by decide) rfl (by first | rfl | (repeat (first | exact parts_nil | refine parts_cons rfl (by repeat (first | exact all_live_nil | refine all_live_clo rfl ?_ | refine all_live_slice rfl ?_ | refine all_live_map rfl ?_ | refine all_live_ptr rfl ?_)) ?_))) rfl rfl rfl rfl) rfl (by simp) ?_
 refine al_op (op_assign rfl) rfl (by simp) ?_
 refine al_nil ?_
 refine aw_freeze (fun _ => false) (fsub_cons (t := 0) rfl (by first | exact .leaf _ _ (frz_whole rfl rfl (by first | rfl | (simp; done) | (simp; omega)) (clo_map (fun _ => rfl))) | exact .leaf _ _ (.vnil 1) | exact .leaf _ _ (.nil 1) | exact .leaf _ _ (.same _)) fsub_nil) ?_
 refine aw_ret ?_
 refine ⟨_, res_1 rfl rfl, ?_, rfl⟩
 rfl

theorem r_Signs  : ACp Tryz.prog 51 [] (.list 1 (signsL.map encBs)) := by
 refine acp_of rfl ?_
 refine ac_enter 2 Tryz.func51 rfl rfl (by simp) ?_
 refine aw_seq ?_
 refine aw_region ?_
 refine al_op (op_assign rfl) rfl (by simp) ?_
 refine al_nil ?_
 refine aw_seq ?_
 refine aw_region ?_
 refine al_op (op_list encBs signsL Tryz.underlying48 info9 rfl rfl (by decide) rfl (by decide) rfl (by first | rfl | (repeat (first | exact parts_nil | refine parts_cons rfl (by repeat (first | exact all_live_nil | refine all_live_clo rfl ?_ | refine all_live_slice rfl ?_ | refine all_live_map rfl ?_ | refine all_live_ptr rfl ?_)) ?_))) rfl rfl rfl rfl) rfl (by simp) ?_
 refine al_op (op_assign rfl) rfl (by simp) ?_
 refine al_nil ?_
 refine aw_freeze (fun _ => false) (fsub_cons (t := 0) rfl (by first | exact .leaf _ _ (frz_whole rfl rfl (by first | rfl | (simp; done) | (simp; omega)) (clo_map (fun _ => rfl))) | exact .leaf _ _ (.vnil 1) | exact .leaf _ _ (.nil 1) | exact .leaf _ _ (.same _)) fsub_nil) ?_
 refine aw_ret ?_
 refine ⟨_, res_1 rfl rfl, ?_, rfl⟩
 rfl

theorem r_member (l : List Bs) (x : Bs) (hl : l.length ≤ 1000000000) : ACp Tryz.prog 50 [.list 1 (l.map encBs), .v (.string (str (x)))] (.v (.bool (l.contains x))) := by
 refine acp_of rfl ?_
 refine ac_enter 17 Tryz.func50 rfl rfl (by simp) ?_
 refine aw_seq ?_
 refine aw_region ?_
 refine al_op (op_assign rfl) rfl (by simp) ?_
 refine al_nil ?_
 refine aw_seq ?_
 refine aw_seq ?_
 refine aw_region ?_
 refine al_op (op_move rfl) rfl (by simp) ?_
 first
   | refine al_op (op_len_map Tryz.underlying48 rfl) rfl (by simp) ?_
   | refine al_op (op_len_slice Tryz.underlying48 rfl rfl) rfl (by simp) ?_
   | refine al_op (op_len_list Tryz.underlying48 rfl) rfl (by simp) ?_
   | refine al_op (op_len_v Tryz.underlying48 rfl) rfl (by simp) ?_
   | refine al_op (op_len_nil Tryz.underlying48 rfl) rfl (by simp) ?_
 refine al_op (op_move rfl) rfl (by simp) ?_
 refine al_nil ?_
 refine aw_block ?_
 refine aw_forT (ι := Nat) [4, 9] [] (fun i => l.length - i) (fun i => i ≤ l.length ∧ ∀ k, k < i → (l.getD k default == x) = false) (fun i => ([(9, .v (.int .i64 (i)))] : Env)) (fun i s => s) (0) ?_ ?_ ?_ (fun i hinv => ?_)
 ·exact ⟨Nat.zero_le _, fun k hk => absurd hk (Nat.not_lt_zero k)⟩
 ·refine sub_cons (get_as rfl ?_) ?_; rotate_left; exact sub_nil
  all_goals (first | rfl | simp)
 ·rfl
 have hi := hinv.1
 refine aw_seq ?_
 refine aw_region ?_
 refine al_op (op_lss rfl rfl) rfl (by simp) ?_
 refine al_nil ?_
 refine aw_seq ?_
 refine aw_cond rfl (fun h1 => ?_) (fun h1 => ?_)
 ·have gh1 := h1
  try simp only [nrm] at h1
  refine aw_skip ?_
  refine aw_seq ?_
  refine aw_block ?_
  refine aw_seq ?_
  refine aw_region ?_
  first
    | refine al_op (op_index_map default Tryz.underlying48 info9 rfl rfl rfl (by first | (with_reducible exact Int.toNat_natCast _) | rfl) (by omega) (by omega)) rfl (by simp) ?_
    | refine al_op (op_index_slice Tryz.underlying48 info9 rfl rfl rfl rfl (by omega) (by omega)) rfl (by simp) ?_
    | refine al_op (op_index_list Tryz.underlying48 info9 rfl rfl rfl (by decide) rfl) rfl (by simp) ?_
  first
    | refine al_op (op_load_rptr Tryz.underlying9 info9 rfl rfl) rfl (by simp) ?_
    | refine al_op (op_load_map Tryz.underlying9 info9 rfl rfl (by omega) rfl) rfl (by simp) ?_
    | refine al_op (op_load_ptr Tryz.underlying9 info9 rfl rfl rfl rfl) rfl (by simp) ?_
  refine al_op (op_assign rfl) rfl (by simp) ?_
  refine al_nil ?_
  refine aw_seq ?_
  refine aw_region ?_
  refine al_op (op_move rfl) rfl (by simp) ?_
  refine al_op (op_move rfl) rfl (by simp) ?_
  refine al_op (op_seql_str rfl rfl) rfl (by simp) ?_
  refine al_nil ?_
  refine aw_cond rfl (fun h2 => ?_) (fun h2 => ?_)
  ·have gh2 := h2
   try simp only [nrm] at h2
   refine aw_seq ?_
   refine aw_region ?_
   refine al_op (op_assign rfl) rfl (by simp) ?_
   refine al_nil ?_
   refine aw_freeze (fun _ => false) (fsub_cons (t := 4) rfl (.leaf _ _ (.same _)) fsub_nil) ?_
   refine aw_ret ?_
   refine ⟨_, res_1 rfl rfl, ?_, rfl⟩
   rw [member_yes i (by omega) gh2]
  ·have gh2 := h2
   try simp only [nrm] at h2
   refine aw_skip ?_
   refine aw_region ?_
   refine al_op (op_add rfl rfl (by first | exact wrap_i64 (by omega) (by omega))) rfl (by simp) ?_
   refine al_op (op_move rfl) rfl (by simp) ?_
   refine al_nil ?_
   refine ⟨i + 1, ?_, ?_, ?_, ?_, ?_⟩
   ·omega
   ·exact ⟨by omega, find_more (p := fun y => y == x) (l := l) hinv.2 gh2⟩
   ·refine sub_cons (get_as rfl ?_) ?_; rotate_left; exact sub_nil
    all_goals (first | rfl | simp)
   ·repeat (first | exact subx_refl | exact subx_del | refine subx_put rfl ?_)
   ·rfl
 ·have gh1 := h1
  try simp only [nrm] at h1
  refine aw_exit ?_
  obtain rfl : i = l.length := by omega
  have hall := hinv.2
  refine aw_seq ?_
  refine aw_region ?_
  refine al_op (op_assign rfl) rfl (by simp) ?_
  refine al_nil ?_
  refine aw_freeze (fun _ => false) (fsub_cons (t := 4) rfl (.leaf _ _ (.same _)) fsub_nil) ?_
  refine aw_ret ?_
  refine ⟨_, res_1 rfl rfl, ?_, rfl⟩
  rw [member_no hall]

theorem r_isWord (s : Bs) (hs : s.length ≤ 1000000000) : ACp Tryz.prog 47 [.v (.string (str (s)))] (.v (.bool (isWordL s))) := by
 refine acp_of rfl ?_
 refine ac_enter 6 Tryz.func47 rfl rfl (by simp) ?_
 refine aw_seq ?_
 refine aw_region ?_
 refine al_op (op_assign rfl) rfl (by simp) ?_
 refine al_nil ?_
 refine aw_seq ?_
 refine aw_region ?_
 first
   | refine al_callp into71 rfl rfl rfl ((r_Words ) _) (by simp) ?_
   | refine al_callp into71 rfl rfl rfl (ac_told re_nil ((r_Words ) _)) (by simp) ?_
 refine al_op (op_move rfl) rfl (by simp) ?_
 first
   | refine al_callp into50 rfl rfl rfl ((r_member _ _ (by first | assumption | omega | decide)) _) (by simp) ?_
   | refine al_callp into50 rfl rfl rfl (acp_lent (lend_cons (by first | exact lend_same | exact .leaf _ _ (.vnil _) | exact .leaf _ _ (.nil _) | exact lend_whole rfl (by first | rfl | (simp; done) | (simp; omega)) (clo_map (fun _ => rfl))) (lend_cons (by first | exact lend_same | exact .leaf _ _ (.vnil _) | exact .leaf _ _ (.nil _) | exact lend_whole rfl (by first | rfl | (simp; done) | (simp; omega)) (clo_map (fun _ => rfl))) lend_nil)) (r_member _ _ (by first | assumption | omega | decide)) rfl) (by simp) ?_
 refine al_op (op_assign rfl) rfl (by simp) ?_
 refine al_nil ?_
 refine aw_freeze (fun _ => false) (fsub_cons (t := 2) rfl (.leaf _ _ (.same _)) fsub_nil) ?_
 refine aw_ret ?_
 refine ⟨_, res_1 rfl rfl, ?_, rfl⟩
 rfl

theorem r_isName (s : Bs) (hs : s.length ≤ 1000000000) : ACp Tryz.prog 46 [.v (.string (str (s)))] (.v (.bool (isNameL s))) := by
 refine acp_of rfl ?_
 refine ac_enter 28 Tryz.func46 rfl rfl (by simp) ?_
 refine aw_seq ?_
 refine aw_region ?_
 refine al_op (op_assign rfl) rfl (by simp) ?_
 refine al_nil ?_
 refine aw_seq ?_
 refine aw_region ?_
 refine al_op (op_move rfl) rfl (by simp) ?_
 refine al_op (op_slen_str (ts := #[]) Tryz.underlying9 rfl) rfl (by simp) ?_
 refine al_op (op_geq rfl rfl) rfl (by simp) ?_
 refine al_op (op_move rfl) rfl (by simp) ?_
 apply al_and 4 6 10 rfl
 ·intro h1; have gh1 := h1
  try simp only [nrm] at h1
  refine al_take (op_move rfl) rfl rfl rfl rfl (by simp) ?_
  refine al_take (op_slen_str (ts := #[]) Tryz.underlying9 rfl) rfl rfl rfl rfl (by simp) ?_
  refine al_take (op_leq rfl rfl) rfl rfl rfl rfl (by simp) ?_
  first
    | refine al_op (op_pick rfl rfl) rfl (by simp) ?_
    | refine al_op (op_and rfl rfl rfl) rfl (by simp) ?_
  refine al_nil ⟨rfl, rfl, rfl, keep_of ?_⟩
  repeat (first | exact subx_refl | exact subx_known rfl gh1 subx_refl | refine subx_put rfl ?_)
 ·intro h1; have gh1 := h1
  try simp only [nrm] at h1
  refine al_pass rfl rfl rfl rfl (by simp) ?_
  refine al_pass rfl rfl rfl rfl (by simp) ?_
  refine al_pass rfl rfl rfl rfl (by simp) ?_
  first
    | refine al_op (op_pick rfl rfl) rfl (by simp) ?_
    | refine al_op (op_and rfl rfl rfl) rfl (by simp) ?_
  refine al_nil ⟨rfl, rfl, rfl, keep_of ?_⟩
  repeat (first | exact subx_refl | exact subx_known rfl gh1 subx_refl | refine subx_put rfl ?_)
 refine al_op (op_move rfl) rfl (by simp) ?_
 apply al_and 4 11 15 rfl
 ·intro h2; have gh2 := h2
  try simp only [nrm] at h2
  refine al_take (op_move rfl) rfl rfl rfl rfl (by simp) ?_
  refine al_take (op_sidx_str Tryz.underlying9 rfl rfl (by first | (with_reducible exact Int.toNat_natCast _) | rfl) (by omega) (by first | omega | (simp; omega))) rfl rfl rfl rfl (by simp) ?_
  first
    | refine al_callp_take into64 rfl rfl rfl rfl rfl rfl ((r_letter _) _) (by simp) ?_
    | refine al_callp_take into64 rfl rfl rfl rfl rfl rfl (acp_lent (lend_cons (by first | exact lend_same | exact .leaf _ _ (.vnil _) | exact .leaf _ _ (.nil _) | exact lend_whole rfl (by first | rfl | (simp; done) | (simp; omega)) (clo_map (fun _ => rfl))) lend_nil) (r_letter _) rfl) (by simp) ?_
  first
    | refine al_op (op_pick rfl rfl) rfl (by simp) ?_
    | refine al_op (op_and rfl rfl rfl) rfl (by simp) ?_
  refine al_nil ⟨rfl, rfl, rfl, keep_of ?_⟩
  repeat (first | exact subx_refl | exact subx_known rfl gh2 subx_refl | refine subx_put rfl ?_)
 ·intro h2; have gh2 := h2
  try simp only [nrm] at h2
  refine al_pass rfl rfl rfl rfl (by simp) ?_
  refine al_pass rfl rfl rfl rfl (by simp) ?_
  refine al_pass rfl rfl rfl rfl (by simp) ?_
  first
    | refine al_op (op_pick rfl rfl) rfl (by simp) ?_
    | refine al_op (op_and rfl rfl rfl) rfl (by simp) ?_
  refine al_nil ⟨rfl, rfl, rfl, keep_of ?_⟩
  repeat (first | exact subx_refl | exact subx_known rfl gh2 subx_refl | refine subx_put rfl ?_)
 refine al_op (op_move rfl) rfl (by simp) ?_
 apply al_and 6 16 22 rfl
 ·intro h3; have gh3 := h3
  try simp only [nrm] at h3
  refine al_take (op_move rfl) rfl rfl rfl rfl (by simp) ?_
  refine al_callp_take into49 rfl rfl rfl rfl rfl rfl (r_run3 s hs 0 (Nat.zero_le _) 1 _) (by simp) ?_
  refine al_take (op_move rfl) rfl rfl rfl rfl (by simp) ?_
  refine al_take (op_slen_str (ts := #[]) Tryz.underlying9 rfl) rfl rfl rfl rfl (by simp) ?_
  refine al_take (op_eql rfl rfl) rfl rfl rfl rfl (by simp) ?_
  first
    | refine al_op (op_pick rfl rfl) rfl (by simp) ?_
    | refine al_op (op_and rfl rfl rfl) rfl (by simp) ?_
  refine al_nil ⟨rfl, rfl, rfl, keep_of ?_⟩
  repeat (first | exact subx_refl | exact subx_known rfl gh3 subx_refl | refine subx_put rfl ?_)
 ·intro h3; have gh3 := h3
  try simp only [nrm] at h3
  refine al_pass rfl rfl rfl rfl (by simp) ?_
  refine al_pass rfl rfl rfl rfl (by simp) ?_
  refine al_pass rfl rfl rfl rfl (by simp) ?_
  refine al_pass rfl rfl rfl rfl (by simp) ?_
  refine al_pass rfl rfl rfl rfl (by simp) ?_
  first
    | refine al_op (op_pick rfl rfl) rfl (by simp) ?_
    | refine al_op (op_and rfl rfl rfl) rfl (by simp) ?_
  refine al_nil ⟨rfl, rfl, rfl, keep_of ?_⟩
  repeat (first | exact subx_refl | exact subx_known rfl gh3 subx_refl | refine subx_put rfl ?_)
 refine al_op (op_move rfl) rfl (by simp) ?_
 apply al_and 4 23 27 rfl
 ·intro h4; have gh4 := h4
  try simp only [nrm] at h4
  refine al_take (op_move rfl) rfl rfl rfl rfl (by simp) ?_
  first
    | refine al_callp_take into47 rfl rfl rfl rfl rfl rfl ((r_isWord _ (by first | assumption | omega | (simp; done) | (simp; omega) | decide)) _) (by simp) ?_
    | refine al_callp_take into47 rfl rfl rfl rfl rfl rfl (acp_lent (lend_cons (by first | exact lend_same | exact .leaf _ _ (.vnil _) | exact .leaf _ _ (.nil _) | exact lend_whole rfl (by first | rfl | (simp; done) | (simp; omega)) (clo_map (fun _ => rfl))) lend_nil) (r_isWord _ (by first | assumption | omega | (simp; done) | (simp; omega) | decide)) rfl) (by simp) ?_
  refine al_take (op_not rfl) rfl rfl rfl rfl (by simp) ?_
  first
    | refine al_op (op_pick rfl rfl) rfl (by simp) ?_
    | refine al_op (op_and rfl rfl rfl) rfl (by simp) ?_
  refine al_nil ⟨rfl, rfl, rfl, keep_of ?_⟩
  repeat (first | exact subx_refl | exact subx_known rfl gh4 subx_refl | refine subx_put rfl ?_)
 ·intro h4; have gh4 := h4
  try simp only [nrm] at h4
  refine al_pass rfl rfl rfl rfl (by simp) ?_
  refine al_pass rfl rfl rfl rfl (by simp) ?_
  refine al_pass rfl rfl rfl rfl (by simp) ?_
  first
    | refine al_op (op_pick rfl rfl) rfl (by simp) ?_
    | refine al_op (op_and rfl rfl rfl) rfl (by simp) ?_
  refine al_nil ⟨rfl, rfl, rfl, keep_of ?_⟩
  repeat (first | exact subx_refl | exact subx_known rfl gh4 subx_refl | refine subx_put rfl ?_)
 refine al_op (op_assign rfl) rfl (by simp) ?_
 refine al_nil ?_
 refine aw_freeze (fun _ => false) (fsub_cons (t := 2) rfl (.leaf _ _ (.same _)) fsub_nil) ?_
 refine aw_ret ?_
 refine ⟨_, res_1 rfl rfl, ?_, rfl⟩
 rw [← isName_ref s] <;> rfl

theorem r_poss (t : Tk) (ht : OKT t) : ACp Tryz.prog 24 [.agg (encK t)] (.v (.bool (possT t))) := by
 refine acp_of rfl ?_
 obtain ⟨t1, t2, t3⟩ := ht
 refine ac_enter 114 Tryz.func24 rfl rfl (by simp) ?_
 refine aw_seq ?_
 refine aw_region ?_
 (refine al_opR (op_box 1 rfl rfl (by first | rfl | exact live_one rfl | (repeat (first | exact all_live_nil | refine all_live_clo rfl ?_ | refine all_live_slice rfl ?_ | refine all_live_map rfl ?_ | refine all_live_ptr rfl ?_)))) rfl (by simp) ?_; rintro _ _ ⟨ver1, rfl, rfl⟩)
 refine al_op (op_assign rfl) rfl (by simp) ?_
 refine al_nil ?_
 refine aw_seq ?_
 refine aw_seq ?_
 refine aw_region ?_
 first
   | refine al_op (op_field_rptr Tryz.underlying40 rfl info38 (by decide) rfl rfl) rfl (by simp) ?_
   | refine al_op (op_field_ptr Tryz.underlying40 rfl info38 (by decide) rfl rfl rfl) rfl (by simp) ?_
 first
   | refine al_op (op_load_rptr Tryz.underlying38 info38 rfl rfl) rfl (by simp) ?_
   | refine al_op (op_load_map Tryz.underlying38 info38 rfl rfl (by omega) rfl) rfl (by simp) ?_
   | refine al_op (op_load_ptr Tryz.underlying38 info38 rfl rfl rfl rfl) rfl (by simp) ?_
 refine al_nil ?_
 refine aw_block ?_
 refine aw_seq ?_
 refine aw_region ?_
 refine al_op (op_eql rfl rfl) rfl (by simp) ?_
 refine al_op (op_assign rfl) rfl (by simp) ?_
 refine al_nil ?_
 refine aw_cond rfl (fun h1 => ?_) (fun h1 => ?_)
 ·have gh1 := h1
  try simp only [nrm] at h1
  refine aw_seq ?_
  refine aw_region ?_
  first
    | refine al_op (op_field_rptr Tryz.underlying40 rfl info3 (by decide) rfl rfl) rfl (by simp) ?_
    | refine al_op (op_field_ptr Tryz.underlying40 rfl info3 (by decide) rfl rfl rfl) rfl (by simp) ?_
  first
    | refine al_op (op_load_rptr Tryz.underlying3 info3 rfl rfl) rfl (by simp) ?_
    | refine al_op (op_load_map Tryz.underlying3 info3 rfl rfl (by omega) rfl) rfl (by simp) ?_
    | refine al_op (op_load_ptr Tryz.underlying3 info3 rfl rfl rfl rfl) rfl (by simp) ?_
  refine al_op (op_eql rfl rfl) rfl (by simp) ?_
  refine al_op (op_move rfl) rfl (by simp) ?_
  apply al_and 4 10 14 rfl
  ·intro h2; have gh2 := h2
   try simp only [nrm] at h2
   first
     | refine al_take (op_field_rptr Tryz.underlying40 rfl info9 (by decide) rfl rfl) rfl rfl rfl rfl (by simp) ?_
     | refine al_take (op_field_ptr Tryz.underlying40 rfl info9 (by decide) rfl rfl rfl) rfl rfl rfl rfl (by simp) ?_
   first
     | refine al_take (op_load_rptr Tryz.underlying9 info9 rfl rfl) rfl rfl rfl rfl (by simp) ?_
     | refine al_take (op_load_map Tryz.underlying9 info9 rfl rfl (by omega) rfl) rfl rfl rfl rfl (by simp) ?_
     | refine al_take (op_load_ptr Tryz.underlying9 info9 rfl rfl rfl rfl) rfl rfl rfl rfl (by simp) ?_
   first
     | refine al_callp_take into46 rfl rfl rfl rfl rfl rfl ((r_isName _ (by first | assumption | omega | (simp; done) | (simp; omega) | decide)) _) (by simp) ?_
     | refine al_callp_take into46 rfl rfl rfl rfl rfl rfl (acp_lent (lend_cons (by first | exact lend_same | exact .leaf _ _ (.vnil _) | exact .leaf _ _ (.nil _) | exact lend_whole rfl (by first | rfl | (simp; done) | (simp; omega)) (clo_map (fun _ => rfl))) lend_nil) (r_isName _ (by first | assumption | omega | (simp; done) | (simp; omega) | decide)) rfl) (by simp) ?_
   first
     | refine al_op (op_pick rfl rfl) rfl (by simp) ?_
     | refine al_op (op_and rfl rfl rfl) rfl (by simp) ?_
   refine al_nil ⟨rfl, rfl, rfl, keep_of ?_⟩
   repeat (first | exact subx_refl | exact subx_known rfl gh2 subx_refl | refine subx_put rfl ?_)
  ·intro h2; have gh2 := h2
   try simp only [nrm] at h2
   refine al_pass rfl rfl rfl rfl (by simp) ?_
   refine al_pass rfl rfl rfl rfl (by simp) ?_
   refine al_pass rfl rfl rfl rfl (by simp) ?_
   first
     | refine al_op (op_pick rfl rfl) rfl (by simp) ?_
     | refine al_op (op_and rfl rfl rfl) rfl (by simp) ?_
   refine al_nil ⟨rfl, rfl, rfl, keep_of ?_⟩
   repeat (first | exact subx_refl | exact subx_known rfl gh2 subx_refl | refine subx_put rfl ?_)
  refine al_op (op_assign rfl) rfl (by simp) ?_
  refine al_nil ?_
  refine aw_freeze (fun _ => false) (fsub_cons (t := 2) rfl (.leaf _ _ (.same _)) fsub_nil) ?_
  refine aw_ret ?_
  refine ⟨_, res_1 rfl rfl, ?_, rfl⟩
  rw [possT, gh1]; rfl
 ·have gh1 := h1
  try simp only [nrm] at h1
  refine aw_seq ?_
  refine aw_region ?_
  refine al_op (op_eql rfl rfl) rfl (by simp) ?_
  refine al_op (op_assign rfl) rfl (by simp) ?_
  refine al_nil ?_
  refine aw_cond rfl (fun h3 => ?_) (fun h3 => ?_)
  ·have gh3 := h3
   try simp only [nrm] at h3
   refine aw_seq ?_
   refine aw_region ?_
   first
     | refine al_op (op_field_rptr Tryz.underlying40 rfl info3 (by decide) rfl rfl) rfl (by simp) ?_
     | refine al_op (op_field_ptr Tryz.underlying40 rfl info3 (by decide) rfl rfl rfl) rfl (by simp) ?_
   first
     | refine al_op (op_load_rptr Tryz.underlying3 info3 rfl rfl) rfl (by simp) ?_
     | refine al_op (op_load_map Tryz.underlying3 info3 rfl rfl (by omega) rfl) rfl (by simp) ?_
     | refine al_op (op_load_ptr Tryz.underlying3 info3 rfl rfl rfl rfl) rfl (by simp) ?_
   refine al_op (op_eql rfl rfl) rfl (by simp) ?_
   refine al_op (op_move rfl) rfl (by simp) ?_
   apply al_and 4 20 24 rfl
   ·intro h4; have gh4 := h4
    try simp only [nrm] at h4
    first
      | refine al_take (op_field_rptr Tryz.underlying40 rfl info9 (by decide) rfl rfl) rfl rfl rfl rfl (by simp) ?_
      | refine al_take (op_field_ptr Tryz.underlying40 rfl info9 (by decide) rfl rfl rfl) rfl rfl rfl rfl (by simp) ?_
    first
      | refine al_take (op_load_rptr Tryz.underlying9 info9 rfl rfl) rfl rfl rfl rfl (by simp) ?_
      | refine al_take (op_load_map Tryz.underlying9 info9 rfl rfl (by omega) rfl) rfl rfl rfl rfl (by simp) ?_
      | refine al_take (op_load_ptr Tryz.underlying9 info9 rfl rfl rfl rfl) rfl rfl rfl rfl (by simp) ?_
    first
      | refine al_callp_take into47 rfl rfl rfl rfl rfl rfl ((r_isWord _ (by first | assumption | omega | (simp; done) | (simp; omega) | decide)) _) (by simp) ?_
      | refine al_callp_take into47 rfl rfl rfl rfl rfl rfl (acp_lent (lend_cons (by first | exact lend_same | exact .leaf _ _ (.vnil _) | exact .leaf _ _ (.nil _) | exact lend_whole rfl (by first | rfl | (simp; done) | (simp; omega)) (clo_map (fun _ => rfl))) lend_nil) (r_isWord _ (by first | assumption | omega | (simp; done) | (simp; omega) | decide)) rfl) (by simp) ?_
    first
      | refine al_op (op_pick rfl rfl) rfl (by simp) ?_
      | refine al_op (op_and rfl rfl rfl) rfl (by simp) ?_
    refine al_nil ⟨rfl, rfl, rfl, keep_of ?_⟩
    repeat (first | exact subx_refl | exact subx_known rfl gh4 subx_refl | refine subx_put rfl ?_)
   ·intro h4; have gh4 := h4
    try simp only [nrm] at h4
    refine al_pass rfl rfl rfl rfl (by simp) ?_
    refine al_pass rfl rfl rfl rfl (by simp) ?_
    refine al_pass rfl rfl rfl rfl (by simp) ?_
    first
      | refine al_op (op_pick rfl rfl) rfl (by simp) ?_
      | refine al_op (op_and rfl rfl rfl) rfl (by simp) ?_
    refine al_nil ⟨rfl, rfl, rfl, keep_of ?_⟩
    repeat (first | exact subx_refl | exact subx_known rfl gh4 subx_refl | refine subx_put rfl ?_)
   refine al_op (op_assign rfl) rfl (by simp) ?_
   refine al_nil ?_
   refine aw_freeze (fun _ => false) (fsub_cons (t := 2) rfl (.leaf _ _ (.same _)) fsub_nil) ?_
   refine aw_ret ?_
   refine ⟨_, res_1 rfl rfl, ?_, rfl⟩
   rw [possT, gh1, gh3]; rfl
  ·have gh3 := h3
   try simp only [nrm] at h3
   refine aw_seq ?_
   refine aw_region ?_
   refine al_op (op_eql rfl rfl) rfl (by simp) ?_
   refine al_op (op_assign rfl) rfl (by simp) ?_
   refine al_nil ?_
   refine aw_cond rfl (fun h5 => ?_) (fun h5 => ?_)
   ·have gh5 := h5
    try simp only [nrm] at h5
    refine aw_seq ?_
    refine aw_region ?_
    first
      | refine al_op (op_field_rptr Tryz.underlying40 rfl info9 (by decide) rfl rfl) rfl (by simp) ?_
      | refine al_op (op_field_ptr Tryz.underlying40 rfl info9 (by decide) rfl rfl rfl) rfl (by simp) ?_
    first
      | refine al_op (op_load_rptr Tryz.underlying9 info9 rfl rfl) rfl (by simp) ?_
      | refine al_op (op_load_map Tryz.underlying9 info9 rfl rfl (by omega) rfl) rfl (by simp) ?_
      | refine al_op (op_load_ptr Tryz.underlying9 info9 rfl rfl rfl rfl) rfl (by simp) ?_
    refine al_op (op_seql_str rfl rfl) rfl (by simp) ?_
    refine al_op (op_move rfl) rfl (by simp) ?_
    apply al_and 4 30 34 rfl
    ·intro h6; have gh6 := h6
     try simp only [nrm] at h6
     first
       | refine al_take (op_field_rptr Tryz.underlying40 rfl info3 (by decide) rfl rfl) rfl rfl rfl rfl (by simp) ?_
       | refine al_take (op_field_ptr Tryz.underlying40 rfl info3 (by decide) rfl rfl rfl) rfl rfl rfl rfl (by simp) ?_
     first
       | refine al_take (op_load_rptr Tryz.underlying3 info3 rfl rfl) rfl rfl rfl rfl (by simp) ?_
       | refine al_take (op_load_map Tryz.underlying3 info3 rfl rfl (by omega) rfl) rfl rfl rfl rfl (by simp) ?_
       | refine al_take (op_load_ptr Tryz.underlying3 info3 rfl rfl rfl rfl) rfl rfl rfl rfl (by simp) ?_
     refine al_take (op_geq rfl rfl) rfl rfl rfl rfl (by simp) ?_
     first
       | refine al_op (op_pick rfl rfl) rfl (by simp) ?_
       | refine al_op (op_and rfl rfl rfl) rfl (by simp) ?_
     refine al_nil ⟨rfl, rfl, rfl, keep_of ?_⟩
     repeat (first | exact subx_refl | exact subx_known rfl gh6 subx_refl | refine subx_put rfl ?_)
    ·intro h6; have gh6 := h6
     try simp only [nrm] at h6
     refine al_pass rfl rfl rfl rfl (by simp) ?_
     refine al_pass rfl rfl rfl rfl (by simp) ?_
     refine al_pass rfl rfl rfl rfl (by simp) ?_
     first
       | refine al_op (op_pick rfl rfl) rfl (by simp) ?_
       | refine al_op (op_and rfl rfl rfl) rfl (by simp) ?_
     refine al_nil ⟨rfl, rfl, rfl, keep_of ?_⟩
     repeat (first | exact subx_refl | exact subx_known rfl gh6 subx_refl | refine subx_put rfl ?_)
    refine al_op (op_move rfl) rfl (by simp) ?_
    apply al_and 4 35 39 rfl
    ·intro h7; have gh7 := h7
     try simp only [nrm] at h7
     first
       | refine al_take (op_field_rptr Tryz.underlying40 rfl info3 (by decide) rfl rfl) rfl rfl rfl rfl (by simp) ?_
       | refine al_take (op_field_ptr Tryz.underlying40 rfl info3 (by decide) rfl rfl rfl) rfl rfl rfl rfl (by simp) ?_
     first
       | refine al_take (op_load_rptr Tryz.underlying3 info3 rfl rfl) rfl rfl rfl rfl (by simp) ?_
       | refine al_take (op_load_map Tryz.underlying3 info3 rfl rfl (by omega) rfl) rfl rfl rfl rfl (by simp) ?_
       | refine al_take (op_load_ptr Tryz.underlying3 info3 rfl rfl rfl rfl) rfl rfl rfl rfl (by simp) ?_
     refine al_take (op_leq rfl rfl) rfl rfl rfl rfl (by simp) ?_
     first
       | refine al_op (op_pick rfl rfl) rfl (by simp) ?_
       | refine al_op (op_and rfl rfl rfl) rfl (by simp) ?_
     refine al_nil ⟨rfl, rfl, rfl, keep_of ?_⟩
     repeat (first | exact subx_refl | exact subx_known rfl gh7 subx_refl | refine subx_put rfl ?_)
    ·intro h7; have gh7 := h7
     try simp only [nrm] at h7
     refine al_pass rfl rfl rfl rfl (by simp) ?_
     refine al_pass rfl rfl rfl rfl (by simp) ?_
     refine al_pass rfl rfl rfl rfl (by simp) ?_
     first
       | refine al_op (op_pick rfl rfl) rfl (by simp) ?_
       | refine al_op (op_and rfl rfl rfl) rfl (by simp) ?_
     refine al_nil ⟨rfl, rfl, rfl, keep_of ?_⟩
     repeat (first | exact subx_refl | exact subx_known rfl gh7 subx_refl | refine subx_put rfl ?_)
    refine al_op (op_assign rfl) rfl (by simp) ?_
    refine al_nil ?_
    refine aw_freeze (fun _ => false) (fsub_cons (t := 2) rfl (.leaf _ _ (.same _)) fsub_nil) ?_
    refine aw_ret ?_
    refine ⟨_, res_1 rfl rfl, ?_, rfl⟩
    rw [possT, gh1, gh3, gh5]; rfl
   ·have gh5 := h5
    try simp only [nrm] at h5
    refine aw_seq ?_
    refine aw_region ?_
    refine al_op (op_eql rfl rfl) rfl (by simp) ?_
    refine al_op (op_assign rfl) rfl (by simp) ?_
    refine al_nil ?_
    refine aw_cond rfl (fun h8 => ?_) (fun h8 => ?_)
    ·have gh8 := h8
     try simp only [nrm] at h8
     refine aw_seq ?_
     refine aw_region ?_
     first
       | refine al_op (op_field_rptr Tryz.underlying40 rfl info3 (by decide) rfl rfl) rfl (by simp) ?_
       | refine al_op (op_field_ptr Tryz.underlying40 rfl info3 (by decide) rfl rfl rfl) rfl (by simp) ?_
     first
       | refine al_op (op_load_rptr Tryz.underlying3 info3 rfl rfl) rfl (by simp) ?_
       | refine al_op (op_load_map Tryz.underlying3 info3 rfl rfl (by omega) rfl) rfl (by simp) ?_
       | refine al_op (op_load_ptr Tryz.underlying3 info3 rfl rfl rfl rfl) rfl (by simp) ?_
     refine al_op (op_eql rfl rfl) rfl (by simp) ?_
     refine al_op (op_move rfl) rfl (by simp) ?_
     apply al_and 5 45 50 rfl
     ·intro h9; have gh9 := h9
      try simp only [nrm] at h9
      first
        | refine al_take (op_field_rptr Tryz.underlying40 rfl info9 (by decide) rfl rfl) rfl rfl rfl rfl (by simp) ?_
        | refine al_take (op_field_ptr Tryz.underlying40 rfl info9 (by decide) rfl rfl rfl) rfl rfl rfl rfl (by simp) ?_
      first
        | refine al_take (op_load_rptr Tryz.underlying9 info9 rfl rfl) rfl rfl rfl rfl (by simp) ?_
        | refine al_take (op_load_map Tryz.underlying9 info9 rfl rfl (by omega) rfl) rfl rfl rfl rfl (by simp) ?_
        | refine al_take (op_load_ptr Tryz.underlying9 info9 rfl rfl rfl rfl) rfl rfl rfl rfl (by simp) ?_
      refine al_take (op_slen_str (ts := #[]) Tryz.underlying9 rfl) rfl rfl rfl rfl (by simp) ?_
      refine al_take (op_eql rfl rfl) rfl rfl rfl rfl (by simp) ?_
      first
        | refine al_op (op_pick rfl rfl) rfl (by simp) ?_
        | refine al_op (op_and rfl rfl rfl) rfl (by simp) ?_
      refine al_nil ⟨rfl, rfl, rfl, keep_of ?_⟩
      repeat (first | exact subx_refl | exact subx_known rfl gh9 subx_refl | refine subx_put rfl ?_)
     ·intro h9; have gh9 := h9
      try simp only [nrm] at h9
      refine al_pass rfl rfl rfl rfl (by simp) ?_
      refine al_pass rfl rfl rfl rfl (by simp) ?_
      refine al_pass rfl rfl rfl rfl (by simp) ?_
      refine al_pass rfl rfl rfl rfl (by simp) ?_
      first
        | refine al_op (op_pick rfl rfl) rfl (by simp) ?_
        | refine al_op (op_and rfl rfl rfl) rfl (by simp) ?_
      refine al_nil ⟨rfl, rfl, rfl, keep_of ?_⟩
      repeat (first | exact subx_refl | exact subx_known rfl gh9 subx_refl | refine subx_put rfl ?_)
     skip
     refine al_op (op_move rfl) rfl (by simp) ?_
     apply al_and 5 51 56 rfl
     ·intro h10; have gh10 := h10
      try simp only [nrm] at h10
      first
        | refine al_take (op_field_rptr Tryz.underlying40 rfl info9 (by decide) rfl rfl) rfl rfl rfl rfl (by simp) ?_
        | refine al_take (op_field_ptr Tryz.underlying40 rfl info9 (by decide) rfl rfl rfl) rfl rfl rfl rfl (by simp) ?_
      first
        | refine al_take (op_load_rptr Tryz.underlying9 info9 rfl rfl) rfl rfl rfl rfl (by simp) ?_
        | refine al_take (op_load_map Tryz.underlying9 info9 rfl rfl (by omega) rfl) rfl rfl rfl rfl (by simp) ?_
        | refine al_take (op_load_ptr Tryz.underlying9 info9 rfl rfl rfl rfl) rfl rfl rfl rfl (by simp) ?_
      refine al_take (op_sidx_str Tryz.underlying9 rfl rfl (by first | (with_reducible exact Int.toNat_natCast _) | rfl) (by omega) (by first | omega | (simp; omega))) rfl rfl rfl rfl (by simp) ?_
      first
        | refine al_callp_take into48 rfl rfl rfl rfl rfl rfl ((r_bit _) _) (by simp) ?_
        | refine al_callp_take into48 rfl rfl rfl rfl rfl rfl (acp_lent (lend_cons (by first | exact lend_same | exact .leaf _ _ (.vnil _) | exact .leaf _ _ (.nil _) | exact lend_whole rfl (by first | rfl | (simp; done) | (simp; omega)) (clo_map (fun _ => rfl))) lend_nil) (r_bit _) rfl) (by simp) ?_
      first
        | refine al_op (op_pick rfl rfl) rfl (by simp) ?_
        | refine al_op (op_and rfl rfl rfl) rfl (by simp) ?_
      refine al_nil ⟨rfl, rfl, rfl, keep_of ?_⟩
      repeat (first | exact subx_refl | exact subx_known rfl gh10 subx_refl | refine subx_put rfl ?_)
     ·intro h10; have gh10 := h10
      try simp only [nrm] at h10
      refine al_pass rfl rfl rfl rfl (by simp) ?_
      refine al_pass rfl rfl rfl rfl (by simp) ?_
      refine al_pass rfl rfl rfl rfl (by simp) ?_
      refine al_pass rfl rfl rfl rfl (by simp) ?_
      first
        | refine al_op (op_pick rfl rfl) rfl (by simp) ?_
        | refine al_op (op_and rfl rfl rfl) rfl (by simp) ?_
      refine al_nil ⟨rfl, rfl, rfl, keep_of ?_⟩
      repeat (first | exact subx_refl | exact subx_known rfl gh10 subx_refl | refine subx_put rfl ?_)
     refine al_op (op_assign rfl) rfl (by simp) ?_
     refine al_nil ?_
     refine aw_freeze (fun _ => false) (fsub_cons (t := 2) rfl (.leaf _ _ (.same _)) fsub_nil) ?_
     refine aw_ret ?_
     refine ⟨_, res_1 rfl rfl, ?_, rfl⟩
     rw [possT, gh1, gh3, gh5, gh8]; rfl
    ·have gh8 := h8
     try simp only [nrm] at h8
     refine aw_seq ?_
     refine aw_region ?_
     refine al_op (op_eql rfl rfl) rfl (by simp) ?_
     refine al_op (op_assign rfl) rfl (by simp) ?_
     refine al_nil ?_
     refine aw_cond rfl (fun h11 => ?_) (fun h11 => ?_)
     ·have gh11 := h11
      try simp only [nrm] at h11
      refine aw_seq ?_
      refine aw_any (Checked.mixed Tryz.checked) ?_
      apply aany_seg (p := 0) (q := 4) (by kernel_rfl) rfl (by decide)
      ·
       first
         | apply ql_plain rfl (op_field_rptr Tryz.underlying40 rfl info3 (by decide) rfl rfl)
         | apply ql_plain rfl (op_field_ptr Tryz.underlying40 rfl info3 (by decide) rfl rfl rfl)
       first
         | apply ql_plain rfl (op_load_rptr Tryz.underlying3 info3 rfl rfl)
         | apply ql_plain rfl (op_load_map Tryz.underlying3 info3 rfl rfl (by omega) rfl)
         | apply ql_plain rfl (op_load_ptr Tryz.underlying3 info3 rfl rfl rfl rfl)
       apply ql_plain rfl (op_eql rfl rfl)
       apply ql_plain rfl (op_move rfl)
       exact ql_nil
      ·simp
      apply aany_and 4 9 62 67 (by kernel_rfl) rfl (by decide) rfl (by simp)
      ·intro h12; have gh12 := h12
       try simp only [nrm] at h12
       apply ql_ex
       ·
        first
          | apply ql_take rfl rfl rfl rfl (op_field_rptr Tryz.underlying40 rfl info9 (by decide) rfl rfl)
          | apply ql_take rfl rfl rfl rfl (op_field_ptr Tryz.underlying40 rfl info9 (by decide) rfl rfl rfl)
        first
          | apply ql_take rfl rfl rfl rfl (op_load_rptr Tryz.underlying9 info9 rfl rfl)
          | apply ql_take rfl rfl rfl rfl (op_load_map Tryz.underlying9 info9 rfl rfl (by omega) rfl)
          | apply ql_take rfl rfl rfl rfl (op_load_ptr Tryz.underlying9 info9 rfl rfl rfl rfl)
        apply ql_take rfl rfl rfl rfl (op_slen_str (ts := #[]) Tryz.underlying9 rfl)
        apply ql_take rfl rfl rfl rfl (op_geq rfl rfl)
        first
          | apply ql_plain rfl (op_pick rfl rfl)
          | apply ql_plain rfl (op_and rfl rfl rfl)
        exact ql_nil
       ·rfl
       ·repeat (first | exact subx_refl | exact subx_known rfl gh12 subx_refl | refine subx_put rfl ?_)
      ·intro h12; have gh12 := h12
       try simp only [nrm] at h12
       apply ql_ex
       ·
        apply ql_pass rfl rfl rfl rfl
        apply ql_pass rfl rfl rfl rfl
        apply ql_pass rfl rfl rfl rfl
        apply ql_pass rfl rfl rfl rfl
        first
          | apply ql_plain rfl (op_pick rfl rfl)
          | apply ql_plain rfl (op_and rfl rfl rfl)
        exact ql_nil
       ·rfl
       ·repeat (first | exact subx_refl | exact subx_known rfl gh12 subx_refl | refine subx_put rfl ?_)
      apply aany_seg (p := 9) (q := 10) (by kernel_rfl) rfl (by decide)
      ·
       apply ql_plain rfl (op_move rfl)
       exact ql_nil
      ·simp
      apply aany_and 10 15 68 73 (by kernel_rfl) rfl (by decide) rfl (by simp)
      ·intro h13; have gh13 := h13
       try simp only [nrm] at h13
       apply ql_ex
       ·
        first
          | apply ql_take rfl rfl rfl rfl (op_field_rptr Tryz.underlying40 rfl info9 (by decide) rfl rfl)
          | apply ql_take rfl rfl rfl rfl (op_field_ptr Tryz.underlying40 rfl info9 (by decide) rfl rfl rfl)
        first
          | apply ql_take rfl rfl rfl rfl (op_load_rptr Tryz.underlying9 info9 rfl rfl)
          | apply ql_take rfl rfl rfl rfl (op_load_map Tryz.underlying9 info9 rfl rfl (by omega) rfl)
          | apply ql_take rfl rfl rfl rfl (op_load_ptr Tryz.underlying9 info9 rfl rfl rfl rfl)
        apply ql_take rfl rfl rfl rfl (op_slen_str (ts := #[]) Tryz.underlying9 rfl)
        apply ql_take rfl rfl rfl rfl (op_leq rfl rfl)
        first
          | apply ql_plain rfl (op_pick rfl rfl)
          | apply ql_plain rfl (op_and rfl rfl rfl)
        exact ql_nil
       ·rfl
       ·repeat (first | exact subx_refl | exact subx_known rfl gh13 subx_refl | refine subx_put rfl ?_)
      ·intro h13; have gh13 := h13
       try simp only [nrm] at h13
       apply ql_ex
       ·
        apply ql_pass rfl rfl rfl rfl
        apply ql_pass rfl rfl rfl rfl
        apply ql_pass rfl rfl rfl rfl
        apply ql_pass rfl rfl rfl rfl
        first
          | apply ql_plain rfl (op_pick rfl rfl)
          | apply ql_plain rfl (op_and rfl rfl rfl)
        exact ql_nil
       ·rfl
       ·repeat (first | exact subx_refl | exact subx_known rfl gh13 subx_refl | refine subx_put rfl ?_)
      apply aany_seg (p := 15) (q := 16) (by kernel_rfl) rfl (by decide)
      ·
       apply ql_plain rfl (op_move rfl)
       exact ql_nil
      ·simp
      apply aany_and 16 24 74 82 (by kernel_rfl) rfl (by decide) rfl (by simp)
      ·intro h14; have gh14 := h14
       try simp only [nrm] at h14
       apply ql_ex
       ·
        first
          | apply ql_take rfl rfl rfl rfl (op_field_rptr Tryz.underlying40 rfl info9 (by decide) rfl rfl)
          | apply ql_take rfl rfl rfl rfl (op_field_ptr Tryz.underlying40 rfl info9 (by decide) rfl rfl rfl)
        first
          | apply ql_take rfl rfl rfl rfl (op_load_rptr Tryz.underlying9 info9 rfl rfl)
          | apply ql_take rfl rfl rfl rfl (op_load_map Tryz.underlying9 info9 rfl rfl (by omega) rfl)
          | apply ql_take rfl rfl rfl rfl (op_load_ptr Tryz.underlying9 info9 rfl rfl rfl rfl)
        apply ql_call_take into49 rfl rfl rfl rfl rfl rfl (r_run3 t.text (by omega) 0 (Nat.zero_le _) 2 _)
        first
          | apply ql_take rfl rfl rfl rfl (op_field_rptr Tryz.underlying40 rfl info9 (by decide) rfl rfl)
          | apply ql_take rfl rfl rfl rfl (op_field_ptr Tryz.underlying40 rfl info9 (by decide) rfl rfl rfl)
        first
          | apply ql_take rfl rfl rfl rfl (op_load_rptr Tryz.underlying9 info9 rfl rfl)
          | apply ql_take rfl rfl rfl rfl (op_load_map Tryz.underlying9 info9 rfl rfl (by omega) rfl)
          | apply ql_take rfl rfl rfl rfl (op_load_ptr Tryz.underlying9 info9 rfl rfl rfl rfl)
        apply ql_take rfl rfl rfl rfl (op_slen_str (ts := #[]) Tryz.underlying9 rfl)
        apply ql_take rfl rfl rfl rfl (op_eql rfl rfl)
        first
          | apply ql_plain rfl (op_pick rfl rfl)
          | apply ql_plain rfl (op_and rfl rfl rfl)
        exact ql_nil
       ·rfl
       ·repeat (first | exact subx_refl | exact subx_known rfl gh14 subx_refl | refine subx_put rfl ?_)
      ·intro h14; have gh14 := h14
       try simp only [nrm] at h14
       apply ql_ex
       ·
        apply ql_pass rfl rfl rfl rfl
        apply ql_pass rfl rfl rfl rfl
        apply ql_pass rfl rfl rfl rfl
        apply ql_pass rfl rfl rfl rfl
        apply ql_pass rfl rfl rfl rfl
        apply ql_pass rfl rfl rfl rfl
        apply ql_pass rfl rfl rfl rfl
        first
          | apply ql_plain rfl (op_pick rfl rfl)
          | apply ql_plain rfl (op_and rfl rfl rfl)
        exact ql_nil
       ·rfl
       ·repeat (first | exact subx_refl | exact subx_known rfl gh14 subx_refl | refine subx_put rfl ?_)
      apply aany_seg (p := 24) (q := 25) (by kernel_rfl) rfl (by decide)
      ·
       apply ql_plain rfl (op_assign rfl)
       exact ql_nil
      ·simp
      refine aany_end rfl (by kernel_rfl) ?_
      refine aw_freeze (fun _ => false) (fsub_cons (t := 2) rfl (.leaf _ _ (.same _)) fsub_nil) ?_
      refine aw_ret ?_
      refine ⟨_, res_1 rfl rfl, ?_, rfl⟩
      rw [possT, gh1, gh3, gh5, gh8, gh11]; rfl
     ·have gh11 := h11
      try simp only [nrm] at h11
      refine aw_seq ?_
      refine aw_region ?_
      refine al_op (op_eql rfl rfl) rfl (by simp) ?_
      refine al_op (op_assign rfl) rfl (by simp) ?_
      refine al_nil ?_
      refine aw_cond rfl (fun h15 => ?_) (fun h15 => ?_)
      ·have gh15 := h15
       try simp only [nrm] at h15
       refine aw_seq ?_
       refine aw_any (Checked.mixed Tryz.checked) ?_
       apply aany_seg (p := 0) (q := 4) (by kernel_rfl) rfl (by decide)
       ·
        first
          | apply ql_plain rfl (op_field_rptr Tryz.underlying40 rfl info3 (by decide) rfl rfl)
          | apply ql_plain rfl (op_field_ptr Tryz.underlying40 rfl info3 (by decide) rfl rfl rfl)
        first
          | apply ql_plain rfl (op_load_rptr Tryz.underlying3 info3 rfl rfl)
          | apply ql_plain rfl (op_load_map Tryz.underlying3 info3 rfl rfl (by omega) rfl)
          | apply ql_plain rfl (op_load_ptr Tryz.underlying3 info3 rfl rfl rfl rfl)
        apply ql_plain rfl (op_eql rfl rfl)
        apply ql_plain rfl (op_move rfl)
        exact ql_nil
       ·simp
       apply aany_and 4 9 88 93 (by kernel_rfl) rfl (by decide) rfl (by simp)
       ·intro h16; have gh16 := h16
        try simp only [nrm] at h16
        apply ql_ex
        ·
         first
           | apply ql_take rfl rfl rfl rfl (op_field_rptr Tryz.underlying40 rfl info9 (by decide) rfl rfl)
           | apply ql_take rfl rfl rfl rfl (op_field_ptr Tryz.underlying40 rfl info9 (by decide) rfl rfl rfl)
         first
           | apply ql_take rfl rfl rfl rfl (op_load_rptr Tryz.underlying9 info9 rfl rfl)
           | apply ql_take rfl rfl rfl rfl (op_load_map Tryz.underlying9 info9 rfl rfl (by omega) rfl)
           | apply ql_take rfl rfl rfl rfl (op_load_ptr Tryz.underlying9 info9 rfl rfl rfl rfl)
         apply ql_take rfl rfl rfl rfl (op_slen_str (ts := #[]) Tryz.underlying9 rfl)
         apply ql_take rfl rfl rfl rfl (op_leq rfl rfl)
         first
           | apply ql_plain rfl (op_pick rfl rfl)
           | apply ql_plain rfl (op_and rfl rfl rfl)
         exact ql_nil
        ·rfl
        ·repeat (first | exact subx_refl | exact subx_known rfl gh16 subx_refl | refine subx_put rfl ?_)
       ·intro h16; have gh16 := h16
        try simp only [nrm] at h16
        apply ql_ex
        ·
         apply ql_pass rfl rfl rfl rfl
         apply ql_pass rfl rfl rfl rfl
         apply ql_pass rfl rfl rfl rfl
         apply ql_pass rfl rfl rfl rfl
         first
           | apply ql_plain rfl (op_pick rfl rfl)
           | apply ql_plain rfl (op_and rfl rfl rfl)
         exact ql_nil
        ·rfl
        ·repeat (first | exact subx_refl | exact subx_known rfl gh16 subx_refl | refine subx_put rfl ?_)
       apply aany_seg (p := 9) (q := 10) (by kernel_rfl) rfl (by decide)
       ·
        apply ql_plain rfl (op_move rfl)
        exact ql_nil
       ·simp
       apply aany_and 10 18 94 102 (by kernel_rfl) rfl (by decide) rfl (by simp)
       ·intro h17; have gh17 := h17
        try simp only [nrm] at h17
        apply ql_ex
        ·
         first
           | apply ql_take rfl rfl rfl rfl (op_field_rptr Tryz.underlying40 rfl info9 (by decide) rfl rfl)
           | apply ql_take rfl rfl rfl rfl (op_field_ptr Tryz.underlying40 rfl info9 (by decide) rfl rfl rfl)
         first
           | apply ql_take rfl rfl rfl rfl (op_load_rptr Tryz.underlying9 info9 rfl rfl)
           | apply ql_take rfl rfl rfl rfl (op_load_map Tryz.underlying9 info9 rfl rfl (by omega) rfl)
           | apply ql_take rfl rfl rfl rfl (op_load_ptr Tryz.underlying9 info9 rfl rfl rfl rfl)
         apply ql_call_take into49 rfl rfl rfl rfl rfl rfl (r_run3 t.text (by omega) 0 (Nat.zero_le _) 3 _)
         first
           | apply ql_take rfl rfl rfl rfl (op_field_rptr Tryz.underlying40 rfl info9 (by decide) rfl rfl)
           | apply ql_take rfl rfl rfl rfl (op_field_ptr Tryz.underlying40 rfl info9 (by decide) rfl rfl rfl)
         first
           | apply ql_take rfl rfl rfl rfl (op_load_rptr Tryz.underlying9 info9 rfl rfl)
           | apply ql_take rfl rfl rfl rfl (op_load_map Tryz.underlying9 info9 rfl rfl (by omega) rfl)
           | apply ql_take rfl rfl rfl rfl (op_load_ptr Tryz.underlying9 info9 rfl rfl rfl rfl)
         apply ql_take rfl rfl rfl rfl (op_slen_str (ts := #[]) Tryz.underlying9 rfl)
         apply ql_take rfl rfl rfl rfl (op_eql rfl rfl)
         first
           | apply ql_plain rfl (op_pick rfl rfl)
           | apply ql_plain rfl (op_and rfl rfl rfl)
         exact ql_nil
        ·rfl
        ·repeat (first | exact subx_refl | exact subx_known rfl gh17 subx_refl | refine subx_put rfl ?_)
       ·intro h17; have gh17 := h17
        try simp only [nrm] at h17
        apply ql_ex
        ·
         apply ql_pass rfl rfl rfl rfl
         apply ql_pass rfl rfl rfl rfl
         apply ql_pass rfl rfl rfl rfl
         apply ql_pass rfl rfl rfl rfl
         apply ql_pass rfl rfl rfl rfl
         apply ql_pass rfl rfl rfl rfl
         apply ql_pass rfl rfl rfl rfl
         first
           | apply ql_plain rfl (op_pick rfl rfl)
           | apply ql_plain rfl (op_and rfl rfl rfl)
         exact ql_nil
        ·rfl
        ·repeat (first | exact subx_refl | exact subx_known rfl gh17 subx_refl | refine subx_put rfl ?_)
       apply aany_seg (p := 18) (q := 19) (by kernel_rfl) rfl (by decide)
       ·
        apply ql_plain rfl (op_assign rfl)
        exact ql_nil
       ·simp
       refine aany_end rfl (by kernel_rfl) ?_
       refine aw_freeze (fun _ => false) (fsub_cons (t := 2) rfl (.leaf _ _ (.same _)) fsub_nil) ?_
       refine aw_ret ?_
       refine ⟨_, res_1 rfl rfl, ?_, rfl⟩
       rw [possT, gh1, gh3, gh5, gh8, gh11, gh15]; rfl
      ·have gh15 := h15
       try simp only [nrm] at h15
       refine aw_seq ?_
       refine aw_region ?_
       refine al_op (op_eql rfl rfl) rfl (by simp) ?_
       refine al_op (op_assign rfl) rfl (by simp) ?_
       refine al_nil ?_
       refine aw_cond rfl (fun h18 => ?_) (fun h18 => ?_)
       ·have gh18 := h18
        try simp only [nrm] at h18
        refine aw_seq ?_
        refine aw_any (Checked.mixed Tryz.checked) ?_
        apply aany_seg (p := 0) (q := 4) (by kernel_rfl) rfl (by decide)
        ·
         first
           | apply ql_plain rfl (op_field_rptr Tryz.underlying40 rfl info3 (by decide) rfl rfl)
           | apply ql_plain rfl (op_field_ptr Tryz.underlying40 rfl info3 (by decide) rfl rfl rfl)
         first
           | apply ql_plain rfl (op_load_rptr Tryz.underlying3 info3 rfl rfl)
           | apply ql_plain rfl (op_load_map Tryz.underlying3 info3 rfl rfl (by omega) rfl)
           | apply ql_plain rfl (op_load_ptr Tryz.underlying3 info3 rfl rfl rfl rfl)
         apply ql_plain rfl (op_eql rfl rfl)
         apply ql_plain rfl (op_move rfl)
         exact ql_nil
        ·simp
        apply aany_and 4 9 108 113 (by kernel_rfl) rfl (by decide) rfl (by simp)
        ·intro h19; have gh19 := h19
         try simp only [nrm] at h19
         apply ql_ex
         ·
          first
            | apply ql_call_take into51 rfl rfl rfl rfl rfl rfl ((r_Signs ) _)
            | apply ql_call_take into51 rfl rfl rfl rfl rfl rfl (ac_told re_nil ((r_Signs ) _))
          first
            | apply ql_take rfl rfl rfl rfl (op_field_rptr Tryz.underlying40 rfl info9 (by decide) rfl rfl)
            | apply ql_take rfl rfl rfl rfl (op_field_ptr Tryz.underlying40 rfl info9 (by decide) rfl rfl rfl)
          first
            | apply ql_take rfl rfl rfl rfl (op_load_rptr Tryz.underlying9 info9 rfl rfl)
            | apply ql_take rfl rfl rfl rfl (op_load_map Tryz.underlying9 info9 rfl rfl (by omega) rfl)
            | apply ql_take rfl rfl rfl rfl (op_load_ptr Tryz.underlying9 info9 rfl rfl rfl rfl)
          first
            | apply ql_call_take into50 rfl rfl rfl rfl rfl rfl ((r_member _ _ (by first | assumption | omega | decide)) _)
            | apply ql_call_take into50 rfl rfl rfl rfl rfl rfl (acp_lent (lend_cons (by first | exact lend_same | exact .leaf _ _ (.vnil _) | exact .leaf _ _ (.nil _) | exact lend_whole rfl (by first | rfl | (simp; done) | (simp; omega)) (clo_map (fun _ => rfl))) (lend_cons (by first | exact lend_same | exact .leaf _ _ (.vnil _) | exact .leaf _ _ (.nil _) | exact lend_whole rfl (by first | rfl | (simp; done) | (simp; omega)) (clo_map (fun _ => rfl))) lend_nil)) (r_member _ _ (by first | assumption | omega | decide)) rfl)
          first
            | apply ql_plain rfl (op_pick rfl rfl)
            | apply ql_plain rfl (op_and rfl rfl rfl)
          exact ql_nil
         ·rfl
         ·repeat (first | exact subx_refl | exact subx_known rfl gh19 subx_refl | refine subx_put rfl ?_)
        ·intro h19; have gh19 := h19
         try simp only [nrm] at h19
         apply ql_ex
         ·
          apply ql_pass rfl rfl rfl rfl
          apply ql_pass rfl rfl rfl rfl
          apply ql_pass rfl rfl rfl rfl
          apply ql_pass rfl rfl rfl rfl
          first
            | apply ql_plain rfl (op_pick rfl rfl)
            | apply ql_plain rfl (op_and rfl rfl rfl)
          exact ql_nil
         ·rfl
         ·repeat (first | exact subx_refl | exact subx_known rfl gh19 subx_refl | refine subx_put rfl ?_)
        apply aany_seg (p := 9) (q := 10) (by kernel_rfl) rfl (by decide)
        ·
         apply ql_plain rfl (op_assign rfl)
         exact ql_nil
        ·simp
        refine aany_end rfl (by kernel_rfl) ?_
        refine aw_freeze (fun _ => false) (fsub_cons (t := 2) rfl (.leaf _ _ (.same _)) fsub_nil) ?_
        refine aw_ret ?_
        refine ⟨_, res_1 rfl rfl, ?_, rfl⟩
        rw [possT, gh1, gh3, gh5, gh8, gh11, gh15, gh18]; rfl
       ·have gh18 := h18
        try simp only [nrm] at h18
        refine aw_skip ?_
        refine aw_seq ?_
        refine aw_region ?_
        refine al_op (op_assign rfl) rfl (by simp) ?_
        refine al_nil ?_
        refine aw_freeze (fun _ => false) (fsub_cons (t := 2) rfl (.leaf _ _ (.same _)) fsub_nil) ?_
        refine aw_ret ?_
        refine ⟨_, res_1 rfl rfl, ?_, rfl⟩
        rw [possT, gh1, gh3, gh5, gh8, gh11, gh15, gh18]; rfl

theorem r_dec (n : Nat) (hn : n ≤ 9223372036854775807) : ACp Tryz.prog 52 [.v (.int .i64 ((n : Nat) : Int))] (.v (.string (str (Lib.itoa (n : Int))))) := by
 refine acp_of rfl ?_
 refine ac_enter 25 Tryz.func52 rfl rfl (by simp) ?_
 refine aw_seq ?_
 refine aw_region ?_
 refine al_op (op_assign rfl) rfl (by simp) ?_
 refine al_nil ?_
 refine aw_seq ?_
 refine aw_region ?_
 refine al_op (op_move rfl) rfl (by simp) ?_
 first
   | refine al_op (op_rem rfl rfl (by omega) (rem_nn (by omega))) rfl (by simp) ?_
   | refine al_op (op_rem rfl rfl (by omega) rfl) rfl (by simp) ?_
 refine al_op (op_add rfl rfl (by first | exact wrap_i64 (by omega) (by omega))) rfl (by simp) ?_
 refine al_op (op_conv Tryz.underlying3 Tryz.underlying5 rfl (digit_u8 n)) rfl (by simp) ?_
 refine al_op (op_list encY [UInt8.ofNat (48 + n % 10)] Tryz.underlying32 info5 rfl rfl (by decide) rfl (by decide) rfl (by first | rfl | (repeat (first | exact parts_nil | refine parts_cons rfl (by repeat (first | exact all_live_nil | refine all_live_clo rfl ?_ | refine all_live_slice rfl ?_ | refine all_live_map rfl ?_ | refine all_live_ptr rfl ?_)) ?_))) rfl rfl rfl rfl) rfl (by simp) ?_
 refine al_op (op_str_list (l := [UInt8.ofNat (48 + n % 10)]) Tryz.underlying32 Tryz.underlying5 Tryz.underlying9 rfl) rfl (by simp) ?_
 refine al_op (op_assign rfl) rfl (by simp) ?_
 refine al_nil ?_
 refine aw_seq ?_
 refine aw_seq ?_
 refine aw_region ?_
 refine al_op (op_move rfl) rfl (by simp) ?_
 refine al_op (op_quo rfl rfl (by omega) (quo_nn (by omega) (by omega) (by omega))) rfl (by simp) ?_
 refine al_op (op_assign rfl) rfl (by simp) ?_
 refine al_nil ?_
 refine aw_block ?_
 refine aw_for2T (α := Nat) (β := Bs) [0, 3] [] (fun m acc => m) (fun m acc => m ≤ n ∧ digTo m acc = Lib.decDigits n) (fun m acc => ([(0, .v (.int .i64 ((m : Nat) : Int))), (3, .v (.string (str (acc))))] : Env)) (fun m acc s => s) (n / 10) ([UInt8.ofNat (48 + n % 10)]) ?_ ?_ ?_ (fun m acc hinv => ?_)
 ·exact ⟨Nat.div_le_self _ _, digTo_first n⟩
 ·refine sub_cons (get_as rfl ?_) ?_; rotate_left; refine sub_cons (get_as rfl ?_) ?_; rotate_left; exact sub_nil
  all_goals (first | rfl | simp)
 ·rfl
 have hm := hinv.1
 have hal2 := digTo_acc_le hinv.2 hn
 refine aw_seq ?_
 refine aw_seq ?_
 refine aw_region ?_
 refine al_op (op_move rfl) rfl (by simp) ?_
 refine al_op (op_gtr rfl rfl) rfl (by simp) ?_
 refine al_nil ?_
 refine aw_cond rfl (fun h1 => ?_) (fun h1 => ?_)
 ·have gh1 := h1
  try simp only [nrm] at h1
  refine aw_skip ?_
  refine aw_seq ?_
  refine aw_block ?_
  refine aw_region ?_
  refine al_op (op_move rfl) rfl (by simp) ?_
  first
    | refine al_op (op_rem rfl rfl (by omega) (rem_nn (by omega))) rfl (by simp) ?_
    | refine al_op (op_rem rfl rfl (by omega) rfl) rfl (by simp) ?_
  refine al_op (op_add rfl rfl (by first | exact wrap_i64 (by omega) (by omega))) rfl (by simp) ?_
  refine al_op (op_conv Tryz.underlying3 Tryz.underlying5 rfl (digit_u8 m)) rfl (by simp) ?_
  refine al_op (op_list encY [UInt8.ofNat (48 + m % 10)] Tryz.underlying32 info5 rfl rfl (by decide) rfl (by decide) rfl (by first | rfl | (repeat (first | exact parts_nil | refine parts_cons rfl (by repeat (first | exact all_live_nil | refine all_live_clo rfl ?_ | refine all_live_slice rfl ?_ | refine all_live_map rfl ?_ | refine all_live_ptr rfl ?_)) ?_))) rfl rfl rfl rfl) rfl (by simp) ?_
  refine al_op (op_str_list (l := [UInt8.ofNat (48 + m % 10)]) Tryz.underlying32 Tryz.underlying5 Tryz.underlying9 rfl) rfl (by simp) ?_
  refine al_op (op_move rfl) rfl (by simp) ?_
  refine al_op (op_sadd_str rfl rfl (by first | omega | (simp; omega) | (simp; done) | (simp only [List.length_append, List.length_cons, List.length_nil]; omega))) rfl (by simp) ?_
  refine al_op (op_assign rfl) rfl (by simp) ?_
  refine al_nil ?_
  refine aw_region ?_
  refine al_op (op_move rfl) rfl (by simp) ?_
  refine al_op (op_quo rfl rfl (by omega) (quo_nn (by omega) (by omega) (by omega))) rfl (by simp) ?_
  refine al_op (op_assign rfl) rfl (by simp) ?_
  refine al_nil ?_
  refine ⟨m / 10, [UInt8.ofNat (48 + m % 10)] ++ acc, ?_, ?_, ?_, ?_, ?_⟩
  ·omega
  ·exact ⟨by omega, by rw [digTo_step (by omega)]; exact hinv.2⟩
  ·refine sub_cons (get_as rfl ?_) ?_; rotate_left; refine sub_cons (get_as rfl ?_) ?_; rotate_left; exact sub_nil
   all_goals (first | rfl | simp)
  ·repeat (first | exact subx_refl | exact subx_del | refine subx_put rfl ?_)
  ·rfl
 ·have gh1 := h1
  try simp only [nrm] at h1
  refine aw_exit ?_
  obtain rfl : m = 0 := by omega
  have hac := hinv.2
  rw [digTo, if_pos rfl] at hac
  refine aw_seq ?_
  refine aw_region ?_
  refine al_op (op_move rfl) rfl (by simp) ?_
  refine al_op (op_assign rfl) rfl (by simp) ?_
  refine al_nil ?_
  refine aw_freeze (fun _ => false) (fsub_cons (t := 2) rfl (.leaf _ _ (.same _)) fsub_nil) ?_
  refine aw_ret ?_
  refine ⟨_, res_1 rfl rfl, ?_, rfl⟩
  rw [hac, Lib.itoa, if_neg (by omega), Int.toNat_natCast]
theorem r_decI (n : Int) (h0 : 0 ≤ n) (h1 : n ≤ 9223372036854775807) : ACp Tryz.prog 52 [.v (.int .i64 (n))] (.v (.string (str (Lib.itoa n)))) := by
  obtain ⟨k, rfl⟩ := Int.eq_ofNat_of_zero_le h0
  exact r_dec k (by omega)

theorem r_wri (t : Tk) (ht : OKT t) (h3 : t.op = 3 → 0 ≤ t.n) : ACp Tryz.prog 25 [.agg (encK t)] (.v (.string (str (wri t)))) := by
 refine acp_of rfl ?_
 obtain ⟨t1, t2, t3⟩ := ht
 refine ac_enter 30 Tryz.func25 rfl rfl (by simp) ?_
 refine aw_seq ?_
 refine aw_region ?_
 (refine al_opR (op_box 1 rfl rfl (by first | rfl | exact live_one rfl | (repeat (first | exact all_live_nil | refine all_live_clo rfl ?_ | refine all_live_slice rfl ?_ | refine all_live_map rfl ?_ | refine all_live_ptr rfl ?_)))) rfl (by simp) ?_; rintro _ _ ⟨ver1, rfl, rfl⟩)
 refine al_op (op_assign rfl) rfl (by simp) ?_
 refine al_nil ?_
 refine aw_seq ?_
 refine aw_seq ?_
 refine aw_region ?_
 first
   | refine al_op (op_field_rptr Tryz.underlying40 rfl info38 (by decide) rfl rfl) rfl (by simp) ?_
   | refine al_op (op_field_ptr Tryz.underlying40 rfl info38 (by decide) rfl rfl rfl) rfl (by simp) ?_
 first
   | refine al_op (op_load_rptr Tryz.underlying38 info38 rfl rfl) rfl (by simp) ?_
   | refine al_op (op_load_map Tryz.underlying38 info38 rfl rfl (by omega) rfl) rfl (by simp) ?_
   | refine al_op (op_load_ptr Tryz.underlying38 info38 rfl rfl rfl rfl) rfl (by simp) ?_
 refine al_nil ?_
 refine aw_block ?_
 refine aw_seq ?_
 refine aw_region ?_
 refine al_op (op_eql rfl rfl) rfl (by simp) ?_
 refine al_op (op_assign rfl) rfl (by simp) ?_
 refine al_nil ?_
 refine aw_cond rfl (fun h1 => ?_) (fun h1 => ?_)
 ·have gh1 := h1
  try simp only [nrm] at h1
  refine aw_seq ?_
  refine aw_region ?_
  first
    | refine al_op (op_field_rptr Tryz.underlying40 rfl info3 (by decide) rfl rfl) rfl (by simp) ?_
    | refine al_op (op_field_ptr Tryz.underlying40 rfl info3 (by decide) rfl rfl rfl) rfl (by simp) ?_
  first
    | refine al_op (op_load_rptr Tryz.underlying3 info3 rfl rfl) rfl (by simp) ?_
    | refine al_op (op_load_map Tryz.underlying3 info3 rfl rfl (by omega) rfl) rfl (by simp) ?_
    | refine al_op (op_load_ptr Tryz.underlying3 info3 rfl rfl rfl rfl) rfl (by simp) ?_
  refine al_callp into52 rfl rfl rfl (r_decI t.n (h3 (by simpa using gh1)) t3 _) (by simp) ?_
  refine al_op (op_assign rfl) rfl (by simp) ?_
  refine al_nil ?_
  refine aw_freeze (fun _ => false) (fsub_cons (t := 2) rfl (.leaf _ _ (.same _)) fsub_nil) ?_
  refine aw_ret ?_
  refine ⟨_, res_1 rfl rfl, ?_, rfl⟩
  rw [wri, gh1]; rfl
 ·have gh1 := h1
  try simp only [nrm] at h1
  refine aw_seq ?_
  refine aw_region ?_
  refine al_op (op_eql rfl rfl) rfl (by simp) ?_
  refine al_op (op_assign rfl) rfl (by simp) ?_
  refine al_nil ?_
  refine aw_cond rfl (fun h2 => ?_) (fun h2 => ?_)
  ·have gh2 := h2
   try simp only [nrm] at h2
   refine aw_seq ?_
   refine aw_region ?_
   first
     | refine al_op (op_field_rptr Tryz.underlying40 rfl info9 (by decide) rfl rfl) rfl (by simp) ?_
     | refine al_op (op_field_ptr Tryz.underlying40 rfl info9 (by decide) rfl rfl rfl) rfl (by simp) ?_
   first
     | refine al_op (op_load_rptr Tryz.underlying9 info9 rfl rfl) rfl (by simp) ?_
     | refine al_op (op_load_map Tryz.underlying9 info9 rfl rfl (by omega) rfl) rfl (by simp) ?_
     | refine al_op (op_load_ptr Tryz.underlying9 info9 rfl rfl rfl rfl) rfl (by simp) ?_
   refine al_op (op_sadd_str rfl rfl (by first | omega | (simp; omega) | (simp; done) | (simp only [List.length_append, List.length_cons, List.length_nil]; omega))) rfl (by simp) ?_
   refine al_op (op_sadd_str rfl rfl (by first | omega | (simp; omega) | (simp; done) | (simp only [List.length_append, List.length_cons, List.length_nil]; omega))) rfl (by simp) ?_
   refine al_op (op_assign rfl) rfl (by simp) ?_
   refine al_nil ?_
   refine aw_freeze (fun _ => false) (fsub_cons (t := 2) rfl (.leaf _ _ (.same _)) fsub_nil) ?_
   refine aw_ret ?_
   refine ⟨_, res_1 rfl rfl, ?_, rfl⟩
   rw [wri, gh1, gh2]; rfl
  ·have gh2 := h2
   try simp only [nrm] at h2
   refine aw_seq ?_
   refine aw_region ?_
   refine al_op (op_eql rfl rfl) rfl (by simp) ?_
   refine al_op (op_assign rfl) rfl (by simp) ?_
   refine al_nil ?_
   refine aw_cond rfl (fun h3 => ?_) (fun h3 => ?_)
   ·have gh3 := h3
    try simp only [nrm] at h3
    refine aw_seq ?_
    refine aw_region ?_
    first
      | refine al_op (op_field_rptr Tryz.underlying40 rfl info9 (by decide) rfl rfl) rfl (by simp) ?_
      | refine al_op (op_field_ptr Tryz.underlying40 rfl info9 (by decide) rfl rfl rfl) rfl (by simp) ?_
    first
      | refine al_op (op_load_rptr Tryz.underlying9 info9 rfl rfl) rfl (by simp) ?_
      | refine al_op (op_load_map Tryz.underlying9 info9 rfl rfl (by omega) rfl) rfl (by simp) ?_
      | refine al_op (op_load_ptr Tryz.underlying9 info9 rfl rfl rfl rfl) rfl (by simp) ?_
    refine al_op (op_sadd_str rfl rfl (by first | omega | (simp; omega) | (simp; done) | (simp only [List.length_append, List.length_cons, List.length_nil]; omega))) rfl (by simp) ?_
    refine al_op (op_sadd_str rfl rfl (by first | omega | (simp; omega) | (simp; done) | (simp only [List.length_append, List.length_cons, List.length_nil]; omega))) rfl (by simp) ?_
    refine al_op (op_assign rfl) rfl (by simp) ?_
    refine al_nil ?_
    refine aw_freeze (fun _ => false) (fsub_cons (t := 2) rfl (.leaf _ _ (.same _)) fsub_nil) ?_
    refine aw_ret ?_
    refine ⟨_, res_1 rfl rfl, ?_, rfl⟩
    rw [wri, gh1, gh2, gh3]; rfl
   ·have gh3 := h3
    try simp only [nrm] at h3
    refine aw_seq ?_
    refine aw_region ?_
    refine al_op (op_eql rfl rfl) rfl (by simp) ?_
    refine al_op (op_assign rfl) rfl (by simp) ?_
    refine al_nil ?_
    refine aw_cond rfl (fun h4 => ?_) (fun h4 => ?_)
    ·have gh4 := h4
     try simp only [nrm] at h4
     refine aw_seq ?_
     refine aw_region ?_
     first
       | refine al_op (op_field_rptr Tryz.underlying40 rfl info9 (by decide) rfl rfl) rfl (by simp) ?_
       | refine al_op (op_field_ptr Tryz.underlying40 rfl info9 (by decide) rfl rfl rfl) rfl (by simp) ?_
     first
       | refine al_op (op_load_rptr Tryz.underlying9 info9 rfl rfl) rfl (by simp) ?_
       | refine al_op (op_load_map Tryz.underlying9 info9 rfl rfl (by omega) rfl) rfl (by simp) ?_
       | refine al_op (op_load_ptr Tryz.underlying9 info9 rfl rfl rfl rfl) rfl (by simp) ?_
     refine al_op (op_sadd_str rfl rfl (by first | omega | (simp; omega) | (simp; done) | (simp only [List.length_append, List.length_cons, List.length_nil]; omega))) rfl (by simp) ?_
     refine al_op (op_sadd_str rfl rfl (by first | omega | (simp; omega) | (simp; done) | (simp only [List.length_append, List.length_cons, List.length_nil]; omega))) rfl (by simp) ?_
     refine al_op (op_assign rfl) rfl (by simp) ?_
     refine al_nil ?_
     refine aw_freeze (fun _ => false) (fsub_cons (t := 2) rfl (.leaf _ _ (.same _)) fsub_nil) ?_
     refine aw_ret ?_
     refine ⟨_, res_1 rfl rfl, ?_, rfl⟩
     rw [wri, gh1, gh2, gh3, gh4]; rfl
    ·have gh4 := h4
     try simp only [nrm] at h4
     refine aw_skip ?_
     refine aw_seq ?_
     refine aw_region ?_
     first
       | refine al_op (op_field_rptr Tryz.underlying40 rfl info9 (by decide) rfl rfl) rfl (by simp) ?_
       | refine al_op (op_field_ptr Tryz.underlying40 rfl info9 (by decide) rfl rfl rfl) rfl (by simp) ?_
     first
       | refine al_op (op_load_rptr Tryz.underlying9 info9 rfl rfl) rfl (by simp) ?_
       | refine al_op (op_load_map Tryz.underlying9 info9 rfl rfl (by omega) rfl) rfl (by simp) ?_
       | refine al_op (op_load_ptr Tryz.underlying9 info9 rfl rfl rfl rfl) rfl (by simp) ?_
     refine al_op (op_assign rfl) rfl (by simp) ?_
     refine al_nil ?_
     refine aw_freeze (fun _ => false) (fsub_cons (t := 2) rfl (.leaf _ _ (.same _)) fsub_nil) ?_
     refine aw_ret ?_
     refine ⟨_, res_1 rfl rfl, ?_, rfl⟩
     rw [wri, gh1, gh2, gh3, gh4]; rfl

theorem r_alike (a b : List Tk) (hb : b.length ≤ 1000000000) : ACp Tryz.prog 21 [.list 5 (a.map encK), .list 5 (b.map encK)] (.v (.bool (alikeL a b))) := by
 refine acp_of rfl ?_
 refine ac_enter 54 Tryz.func21 rfl rfl (by simp) ?_
 refine aw_seq ?_
 refine aw_region ?_
 refine al_op (op_assign rfl) rfl (by simp) ?_
 refine al_nil ?_
 refine aw_seq ?_
 refine aw_seq ?_
 refine aw_region ?_
 refine al_op (op_move rfl) rfl (by simp) ?_
 first
   | refine al_op (op_len_map Tryz.underlying24 rfl) rfl (by simp) ?_
   | refine al_op (op_len_slice Tryz.underlying24 rfl rfl) rfl (by simp) ?_
   | refine al_op (op_len_list Tryz.underlying24 rfl) rfl (by simp) ?_
   | refine al_op (op_len_v Tryz.underlying24 rfl) rfl (by simp) ?_
   | refine al_op (op_len_nil Tryz.underlying24 rfl) rfl (by simp) ?_
 refine al_op (op_move rfl) rfl (by simp) ?_
 first
   | refine al_op (op_len_map Tryz.underlying24 rfl) rfl (by simp) ?_
   | refine al_op (op_len_slice Tryz.underlying24 rfl rfl) rfl (by simp) ?_
   | refine al_op (op_len_list Tryz.underlying24 rfl) rfl (by simp) ?_
   | refine al_op (op_len_v Tryz.underlying24 rfl) rfl (by simp) ?_
   | refine al_op (op_len_nil Tryz.underlying24 rfl) rfl (by simp) ?_
 refine al_op (op_neq rfl rfl) rfl (by simp) ?_
 refine al_nil ?_
 refine aw_cond rfl (fun h1 => ?_) (fun h1 => ?_)
 ·have gh1 := h1
  try simp only [nrm] at h1
  refine aw_seq ?_
  refine aw_region ?_
  refine al_op (op_assign rfl) rfl (by simp) ?_
  refine al_nil ?_
  refine aw_freeze (fun _ => false) (fsub_cons (t := 4) rfl (.leaf _ _ (.same _)) fsub_nil) ?_
  refine aw_ret ?_
  refine ⟨_, res_1 rfl rfl, ?_, rfl⟩
  rw [alike_len gh1]
 ·have gh1 := h1
  try simp only [nrm] at h1
  refine aw_skip ?_
  refine aw_seq ?_
  refine aw_seq ?_
  refine aw_region ?_
  refine al_op (op_move rfl) rfl (by simp) ?_
  first
    | refine al_op (op_len_map Tryz.underlying24 rfl) rfl (by simp) ?_
    | refine al_op (op_len_slice Tryz.underlying24 rfl rfl) rfl (by simp) ?_
    | refine al_op (op_len_list Tryz.underlying24 rfl) rfl (by simp) ?_
    | refine al_op (op_len_v Tryz.underlying24 rfl) rfl (by simp) ?_
    | refine al_op (op_len_nil Tryz.underlying24 rfl) rfl (by simp) ?_
  refine al_op (op_move rfl) rfl (by simp) ?_
  refine al_nil ?_
  refine aw_block ?_
  refine aw_forT (ι := Nat) [4, 13] [] (fun i => a.length - i) (fun i => i ≤ a.length ∧ ∀ k, k < i → tkey (a.getD k default) = tkey (b.getD k default)) (fun i => ([(13, .v (.int .i64 (i)))] : Env)) (fun i s => s) (0) ?_ ?_ ?_ (fun i hinv => ?_)
  ·exact ⟨Nat.zero_le _, fun k hk => absurd hk (Nat.not_lt_zero k)⟩
  ·refine sub_cons (get_as rfl ?_) ?_; rotate_left; exact sub_nil
   all_goals (first | rfl | simp)
  ·rfl
  have hi := hinv.1
  have hll : a.length = b.length := by have := bne_eq_false_iff_eq.1 gh1; omega
  refine aw_seq ?_
  refine aw_region ?_
  refine al_op (op_lss rfl rfl) rfl (by simp) ?_
  refine al_nil ?_
  refine aw_seq ?_
  refine aw_cond rfl (fun h2 => ?_) (fun h2 => ?_)
  ·have gh2 := h2
   try simp only [nrm] at h2
   refine aw_skip ?_
   refine aw_seq ?_
   refine aw_block ?_
   refine aw_seq ?_
   refine aw_region ?_
   refine al_op (op_move rfl) rfl (by simp) ?_
   refine al_op (op_assign rfl) rfl (by simp) ?_
   refine al_nil ?_
   refine aw_seq ?_
   refine aw_any (Checked.mixed Tryz.checked) ?_
   apply aany_seg (p := 0) (q := 12) (by kernel_rfl) rfl (by decide)
   ·
    apply ql_plain rfl (op_move rfl)
    apply ql_plain rfl (op_move rfl)
    first
      | apply ql_plain rfl (op_index_map default Tryz.underlying24 info40 rfl rfl rfl (by first | (with_reducible exact Int.toNat_natCast _) | rfl) (by omega) (by omega))
      | apply ql_plain rfl (op_index_slice Tryz.underlying24 info40 rfl rfl rfl rfl (by omega) (by omega))
      | apply ql_plain rfl (op_index_list Tryz.underlying24 info40 rfl rfl rfl (by decide) rfl)
    first
      | apply ql_plain rfl (op_field_rptr Tryz.underlying40 rfl info38 (by decide) rfl rfl)
      | apply ql_plain rfl (op_field_ptr Tryz.underlying40 rfl info38 (by decide) rfl rfl rfl)
    first
      | apply ql_plain rfl (op_load_rptr Tryz.underlying38 info38 rfl rfl)
      | apply ql_plain rfl (op_load_map Tryz.underlying38 info38 rfl rfl (by omega) rfl)
      | apply ql_plain rfl (op_load_ptr Tryz.underlying38 info38 rfl rfl rfl rfl)
    apply ql_plain rfl (op_move rfl)
    apply ql_plain rfl (op_move rfl)
    first
      | apply ql_plain rfl (op_index_map default Tryz.underlying24 info40 rfl rfl rfl (by first | (with_reducible exact Int.toNat_natCast _) | rfl) (by omega) (by omega))
      | apply ql_plain rfl (op_index_slice Tryz.underlying24 info40 rfl rfl rfl rfl (by omega) (by omega))
      | apply ql_plain rfl (op_index_list Tryz.underlying24 info40 rfl rfl rfl (by decide) rfl)
    first
      | apply ql_plain rfl (op_field_rptr Tryz.underlying40 rfl info38 (by decide) rfl rfl)
      | apply ql_plain rfl (op_field_ptr Tryz.underlying40 rfl info38 (by decide) rfl rfl rfl)
    first
      | apply ql_plain rfl (op_load_rptr Tryz.underlying38 info38 rfl rfl)
      | apply ql_plain rfl (op_load_map Tryz.underlying38 info38 rfl rfl (by omega) rfl)
      | apply ql_plain rfl (op_load_ptr Tryz.underlying38 info38 rfl rfl rfl rfl)
    apply ql_plain rfl (op_neq rfl rfl)
    apply ql_plain rfl (op_move rfl)
    exact ql_nil
   ·simp
   apply aany_or 12 24 27 39 (by kernel_rfl) rfl (by decide) rfl (by simp)
   ·intro h3; have gh3 := h3
    try simp only [nrm] at h3
    apply ql_ex
    ·
     apply ql_take rfl rfl rfl rfl (op_move rfl)
     apply ql_take rfl rfl rfl rfl (op_move rfl)
     first
       | apply ql_take rfl rfl rfl rfl (op_index_map default Tryz.underlying24 info40 rfl rfl rfl (by first | (with_reducible exact Int.toNat_natCast _) | rfl) (by omega) (by omega))
       | apply ql_take rfl rfl rfl rfl (op_index_slice Tryz.underlying24 info40 rfl rfl rfl rfl (by omega) (by omega))
       | apply ql_take rfl rfl rfl rfl (op_index_list Tryz.underlying24 info40 rfl rfl rfl (by decide) rfl)
     first
       | apply ql_take rfl rfl rfl rfl (op_field_rptr Tryz.underlying40 rfl info9 (by decide) rfl rfl)
       | apply ql_take rfl rfl rfl rfl (op_field_ptr Tryz.underlying40 rfl info9 (by decide) rfl rfl rfl)
     first
       | apply ql_take rfl rfl rfl rfl (op_load_rptr Tryz.underlying9 info9 rfl rfl)
       | apply ql_take rfl rfl rfl rfl (op_load_map Tryz.underlying9 info9 rfl rfl (by omega) rfl)
       | apply ql_take rfl rfl rfl rfl (op_load_ptr Tryz.underlying9 info9 rfl rfl rfl rfl)
     apply ql_take rfl rfl rfl rfl (op_move rfl)
     apply ql_take rfl rfl rfl rfl (op_move rfl)
     first
       | apply ql_take rfl rfl rfl rfl (op_index_map default Tryz.underlying24 info40 rfl rfl rfl (by first | (with_reducible exact Int.toNat_natCast _) | rfl) (by omega) (by omega))
       | apply ql_take rfl rfl rfl rfl (op_index_slice Tryz.underlying24 info40 rfl rfl rfl rfl (by omega) (by omega))
       | apply ql_take rfl rfl rfl rfl (op_index_list Tryz.underlying24 info40 rfl rfl rfl (by decide) rfl)
     first
       | apply ql_take rfl rfl rfl rfl (op_field_rptr Tryz.underlying40 rfl info9 (by decide) rfl rfl)
       | apply ql_take rfl rfl rfl rfl (op_field_ptr Tryz.underlying40 rfl info9 (by decide) rfl rfl rfl)
     first
       | apply ql_take rfl rfl rfl rfl (op_load_rptr Tryz.underlying9 info9 rfl rfl)
       | apply ql_take rfl rfl rfl rfl (op_load_map Tryz.underlying9 info9 rfl rfl (by omega) rfl)
       | apply ql_take rfl rfl rfl rfl (op_load_ptr Tryz.underlying9 info9 rfl rfl rfl rfl)
     apply ql_take rfl rfl rfl rfl (op_sneq_str rfl rfl)
     first
       | apply ql_plain rfl (op_pick rfl rfl)
       | apply ql_plain rfl (op_or rfl rfl rfl)
     exact ql_nil
    ·rfl
    ·repeat (first | exact subx_refl | exact subx_known rfl gh3 subx_refl | refine subx_put rfl ?_)
   ·intro h3; have gh3 := h3
    try simp only [nrm] at h3
    apply ql_ex
    ·
     apply ql_pass rfl rfl rfl rfl
     apply ql_pass rfl rfl rfl rfl
     apply ql_pass rfl rfl rfl rfl
     apply ql_pass rfl rfl rfl rfl
     apply ql_pass rfl rfl rfl rfl
     apply ql_pass rfl rfl rfl rfl
     apply ql_pass rfl rfl rfl rfl
     apply ql_pass rfl rfl rfl rfl
     apply ql_pass rfl rfl rfl rfl
     apply ql_pass rfl rfl rfl rfl
     apply ql_pass rfl rfl rfl rfl
     first
       | apply ql_plain rfl (op_pick rfl rfl)
       | apply ql_plain rfl (op_or rfl rfl rfl)
     exact ql_nil
    ·rfl
    ·repeat (first | exact subx_refl | exact subx_known rfl gh3 subx_refl | refine subx_put rfl ?_)
   apply aany_seg (p := 24) (q := 25) (by kernel_rfl) rfl (by decide)
   ·
    apply ql_plain rfl (op_move rfl)
    exact ql_nil
   ·simp
   apply aany_or 25 37 40 52 (by kernel_rfl) rfl (by decide) rfl (by simp)
   ·intro h4; have gh4 := h4
    try simp only [nrm] at h4
    apply ql_ex
    ·
     apply ql_take rfl rfl rfl rfl (op_move rfl)
     apply ql_take rfl rfl rfl rfl (op_move rfl)
     first
       | apply ql_take rfl rfl rfl rfl (op_index_map default Tryz.underlying24 info40 rfl rfl rfl (by first | (with_reducible exact Int.toNat_natCast _) | rfl) (by omega) (by omega))
       | apply ql_take rfl rfl rfl rfl (op_index_slice Tryz.underlying24 info40 rfl rfl rfl rfl (by omega) (by omega))
       | apply ql_take rfl rfl rfl rfl (op_index_list Tryz.underlying24 info40 rfl rfl rfl (by decide) rfl)
     first
       | apply ql_take rfl rfl rfl rfl (op_field_rptr Tryz.underlying40 rfl info3 (by decide) rfl rfl)
       | apply ql_take rfl rfl rfl rfl (op_field_ptr Tryz.underlying40 rfl info3 (by decide) rfl rfl rfl)
     first
       | apply ql_take rfl rfl rfl rfl (op_load_rptr Tryz.underlying3 info3 rfl rfl)
       | apply ql_take rfl rfl rfl rfl (op_load_map Tryz.underlying3 info3 rfl rfl (by omega) rfl)
       | apply ql_take rfl rfl rfl rfl (op_load_ptr Tryz.underlying3 info3 rfl rfl rfl rfl)
     apply ql_take rfl rfl rfl rfl (op_move rfl)
     apply ql_take rfl rfl rfl rfl (op_move rfl)
     first
       | apply ql_take rfl rfl rfl rfl (op_index_map default Tryz.underlying24 info40 rfl rfl rfl (by first | (with_reducible exact Int.toNat_natCast _) | rfl) (by omega) (by omega))
       | apply ql_take rfl rfl rfl rfl (op_index_slice Tryz.underlying24 info40 rfl rfl rfl rfl (by omega) (by omega))
       | apply ql_take rfl rfl rfl rfl (op_index_list Tryz.underlying24 info40 rfl rfl rfl (by decide) rfl)
     first
       | apply ql_take rfl rfl rfl rfl (op_field_rptr Tryz.underlying40 rfl info3 (by decide) rfl rfl)
       | apply ql_take rfl rfl rfl rfl (op_field_ptr Tryz.underlying40 rfl info3 (by decide) rfl rfl rfl)
     first
       | apply ql_take rfl rfl rfl rfl (op_load_rptr Tryz.underlying3 info3 rfl rfl)
       | apply ql_take rfl rfl rfl rfl (op_load_map Tryz.underlying3 info3 rfl rfl (by omega) rfl)
       | apply ql_take rfl rfl rfl rfl (op_load_ptr Tryz.underlying3 info3 rfl rfl rfl rfl)
     apply ql_take rfl rfl rfl rfl (op_neq rfl rfl)
     first
       | apply ql_plain rfl (op_pick rfl rfl)
       | apply ql_plain rfl (op_or rfl rfl rfl)
     exact ql_nil
    ·rfl
    ·repeat (first | exact subx_refl | exact subx_known rfl gh4 subx_refl | refine subx_put rfl ?_)
   ·intro h4; have gh4 := h4
    try simp only [nrm] at h4
    apply ql_ex
    ·
     apply ql_pass rfl rfl rfl rfl
     apply ql_pass rfl rfl rfl rfl
     apply ql_pass rfl rfl rfl rfl
     apply ql_pass rfl rfl rfl rfl
     apply ql_pass rfl rfl rfl rfl
     apply ql_pass rfl rfl rfl rfl
     apply ql_pass rfl rfl rfl rfl
     apply ql_pass rfl rfl rfl rfl
     apply ql_pass rfl rfl rfl rfl
     apply ql_pass rfl rfl rfl rfl
     apply ql_pass rfl rfl rfl rfl
     first
       | apply ql_plain rfl (op_pick rfl rfl)
       | apply ql_plain rfl (op_or rfl rfl rfl)
     exact ql_nil
    ·rfl
    ·repeat (first | exact subx_refl | exact subx_known rfl gh4 subx_refl | refine subx_put rfl ?_)
   refine aany_end rfl (by kernel_rfl) ?_
   refine aw_cond rfl (fun h5 => ?_) (fun h5 => ?_)
   ·have gh5 := h5
    try simp only [nrm] at h5
    refine aw_seq ?_
    refine aw_region ?_
    refine al_op (op_assign rfl) rfl (by simp) ?_
    refine al_nil ?_
    refine aw_freeze (fun _ => false) (fsub_cons (t := 4) rfl (.leaf _ _ (.same _)) fsub_nil) ?_
    refine aw_ret ?_
    refine ⟨_, res_1 rfl rfl, ?_, rfl⟩
    rw [alike_no i (by omega) (by omega) gh5]
   ·have gh5 := h5
    try simp only [nrm] at h5
    refine aw_skip ?_
    refine aw_region ?_
    refine al_op (op_add rfl rfl (by first | exact wrap_i64 (by omega) (by omega))) rfl (by simp) ?_
    refine al_op (op_move rfl) rfl (by simp) ?_
    refine al_nil ?_
    refine ⟨i + 1, ?_, ?_, ?_, ?_, ?_⟩
    ·omega
    ·exact ⟨by omega, alike_more hinv.2 gh5⟩
    ·refine sub_cons (get_as rfl ?_) ?_; rotate_left; exact sub_nil
     all_goals (first | rfl | simp)
    ·repeat (first | exact subx_refl | exact subx_del | refine subx_put rfl ?_)
    ·rfl
  ·have gh2 := h2
   try simp only [nrm] at h2
   refine aw_exit ?_
   obtain rfl : i = a.length := by omega
   have hall := hinv.2
   refine aw_seq ?_
   refine aw_region ?_
   refine al_op (op_assign rfl) rfl (by simp) ?_
   refine al_nil ?_
   refine aw_freeze (fun _ => false) (fsub_cons (t := 4) rfl (.leaf _ _ (.same _)) fsub_nil) ?_
   refine aw_ret ?_
   refine ⟨_, res_1 rfl rfl, ?_, rfl⟩
   rw [alike_yes gh1 hall]
end Go.Proofs.YtbojpddejdmamaaGreatDoor
