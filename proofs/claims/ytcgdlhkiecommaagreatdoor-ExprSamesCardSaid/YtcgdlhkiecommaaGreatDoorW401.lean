import Derived.Test.YtcgdlhkiecommaaGreatDoorW305
import Derived.Test.YtcgdlhkiecommaaGreatDoorLLex
import Derived.Test.YtcgdlhkiecommaaGreatDoorLRef
import Derived.Test.YtcgdlhkiecommaaGreatDoorFacts
import Derived.Test.YtcgdlhkiecommaaGreatDoorXSt


/- Printed walks (gen.py, lexer_ann.py): part 309. -/




set_option linter.unusedVariables false
set_option linter.unusedSimpArgs false
set_option maxRecDepth 20000
set_option maxHeartbeats 40000000
namespace Go.Proofs.YtcgdlhkiecommaaGreatDoor
open Go
theorem c_written (t : Tk) (ht : OKT t) : ACp Tryz.prog 102 [.agg (encK t)] (.tuple [.v (.string (str ((wrP t).1))), .v (.bool ((wrP t).2))]) := by
 refine acp_of rfl ?_
 obtain ⟨t1, t2, t3⟩ := ht
 refine ac_enter 94 Tryz.func102 rfl rfl (by simp) ?_
 refine aw_seq ?_
 refine aw_region ?_
 (refine al_opR (op_box 1 rfl rfl (by first | rfl | exact live_one rfl | (repeat (first | exact all_live_nil | refine all_live_clo rfl ?_ | refine all_live_slice rfl ?_ | refine all_live_map rfl ?_ | refine all_live_ptr rfl ?_)))) rfl (by simp) ?_; rintro _ _ ⟨ver1, rfl, rfl⟩)
 refine al_op (op_assign rfl) rfl (by simp) ?_
 refine al_op (op_assign rfl) rfl (by simp) ?_
 refine al_nil ?_
 refine aw_seq ?_
 refine aw_seq ?_
 refine aw_region ?_
 refine al_op (op_field_ptr Tryz.underlying65 rfl info63 (by decide) rfl rfl rfl) rfl (by simp) ?_
 refine al_op (op_load_ptr Tryz.underlying63 info63 rfl rfl rfl rfl) rfl (by simp) ?_
 refine al_op (op_neq rfl rfl) rfl (by simp) ?_
 refine al_op (op_move rfl) rfl (by simp) ?_
 apply al_and 4 9 13 rfl
 ·intro h1; have gh1 := h1
  try simp only [nrm] at h1
  refine al_take (op_field_ptr Tryz.underlying65 rfl info3 (by decide) rfl rfl rfl) rfl rfl rfl rfl (by simp) ?_
  refine al_take (op_load_ptr Tryz.underlying3 info3 rfl rfl rfl rfl) rfl rfl rfl rfl (by simp) ?_
  refine al_take (op_neq rfl rfl) rfl rfl rfl rfl (by simp) ?_
  refine al_op (op_pick rfl rfl) rfl (by simp) ?_
  refine al_nil ⟨rfl, rfl, rfl, keep_of ?_⟩
  repeat (first | exact subx_refl | exact subx_known rfl gh1 subx_refl | refine subx_put rfl ?_)
 ·intro h1; have gh1 := h1
  try simp only [nrm] at h1
  refine al_pass rfl rfl rfl rfl (by simp) ?_
  refine al_pass rfl rfl rfl rfl (by simp) ?_
  refine al_pass rfl rfl rfl rfl (by simp) ?_
  refine al_op (op_pick rfl rfl) rfl (by simp) ?_
  refine al_nil ⟨rfl, rfl, rfl, keep_of ?_⟩
  repeat (first | exact subx_refl | exact subx_known rfl gh1 subx_refl | refine subx_put rfl ?_)
 refine al_nil ?_
 refine aw_cond rfl (fun h2 => ?_) (fun h2 => ?_)
 ·have gh2 := h2
  try simp only [nrm] at h2
  refine aw_seq ?_
  refine aw_region ?_
  refine al_op (op_assign rfl) rfl (by simp) ?_
  refine al_op (op_assign rfl) rfl (by simp) ?_
  refine al_nil ?_
  refine aw_freeze (fun _ => false) (fsub_cons (t := 2) rfl (.leaf _ _ (.same _)) (fsub_cons (t := 3) rfl (.leaf _ _ (.same _)) fsub_nil)) ?_
  refine aw_ret ?_
  refine ⟨_, res_2 rfl rfl rfl rfl rfl, ?_, rfl⟩
  rw [wrP, gh2]; rfl
 ·have gh2 := h2
  try simp only [nrm] at h2
  refine aw_skip ?_
  refine aw_seq ?_
  refine aw_seq ?_
  refine aw_region ?_
  refine al_op (op_field_ptr Tryz.underlying65 rfl info63 (by decide) rfl rfl rfl) rfl (by simp) ?_
  refine al_op (op_load_ptr Tryz.underlying63 info63 rfl rfl rfl rfl) rfl (by simp) ?_
  refine al_nil ?_
  refine aw_block ?_
  refine aw_seq ?_
  refine aw_region ?_
  refine al_op (op_eql rfl rfl) rfl (by simp) ?_
  refine al_op (op_assign rfl) rfl (by simp) ?_
  refine al_nil ?_
  refine aw_cond rfl (fun h3 => ?_) (fun h3 => ?_)
  ·have gh3 := h3
   try simp only [nrm] at h3
   refine aw_seq ?_
   refine aw_any (Checked.mixed Tryz.checked) ?_
   apply aany_seg (p := 0) (q := 7) (by kernel_rfl) rfl (by decide)
   ·
    apply ql_plain rfl (op_field_ptr Tryz.underlying65 rfl info9 (by decide) rfl rfl rfl)
    apply ql_plain rfl (op_load_ptr Tryz.underlying9 info9 rfl rfl rfl rfl)
    apply ql_plain rfl (op_field_ptr Tryz.underlying65 rfl info9 (by decide) rfl rfl rfl)
    apply ql_plain rfl (op_load_ptr Tryz.underlying9 info9 rfl rfl rfl rfl)
    apply ql_call into66 rfl rfl rfl ((c_isName _ (by first | assumption | omega | (simp; done) | (simp; omega) | decide)) _)
    apply ql_plain rfl (op_assign rfl)
    apply ql_plain rfl (op_assign rfl)
    exact ql_nil
   ·simp
   refine aany_end rfl (by kernel_rfl) ?_
   refine aw_freeze (fun _ => false) (fsub_cons (t := 2) rfl (.leaf _ _ (.same _)) (fsub_cons (t := 3) rfl (.leaf _ _ (.same _)) fsub_nil)) ?_
   refine aw_ret ?_
   refine ⟨_, res_2 rfl rfl rfl rfl rfl, ?_, rfl⟩
   rw [wrP, gh2, gh3]; rfl
  ·have gh3 := h3
   try simp only [nrm] at h3
   refine aw_seq ?_
   refine aw_region ?_
   refine al_op (op_eql rfl rfl) rfl (by simp) ?_
   refine al_op (op_assign rfl) rfl (by simp) ?_
   refine al_nil ?_
   refine aw_cond rfl (fun h4 => ?_) (fun h4 => ?_)
   ·have gh4 := h4
    try simp only [nrm] at h4
    refine aw_seq ?_
    refine aw_any (Checked.mixed Tryz.checked) ?_
    apply aany_seg (p := 0) (q := 7) (by kernel_rfl) rfl (by decide)
    ·
     apply ql_plain rfl (op_field_ptr Tryz.underlying65 rfl info9 (by decide) rfl rfl rfl)
     apply ql_plain rfl (op_load_ptr Tryz.underlying9 info9 rfl rfl rfl rfl)
     apply ql_plain rfl (op_field_ptr Tryz.underlying65 rfl info9 (by decide) rfl rfl rfl)
     apply ql_plain rfl (op_load_ptr Tryz.underlying9 info9 rfl rfl rfl rfl)
     apply ql_call into119 rfl rfl rfl ((c_isWord _ (by first | assumption | omega | (simp; done) | (simp; omega) | decide)) _)
     apply ql_plain rfl (op_assign rfl)
     apply ql_plain rfl (op_assign rfl)
     exact ql_nil
    ·simp
    refine aany_end rfl (by kernel_rfl) ?_
    refine aw_freeze (fun _ => false) (fsub_cons (t := 2) rfl (.leaf _ _ (.same _)) (fsub_cons (t := 3) rfl (.leaf _ _ (.same _)) fsub_nil)) ?_
    refine aw_ret ?_
    refine ⟨_, res_2 rfl rfl rfl rfl rfl, ?_, rfl⟩
    rw [wrP, gh2, gh3, gh4]; rfl
   ·have gh4 := h4
    try simp only [nrm] at h4
    refine aw_seq ?_
    refine aw_region ?_
    refine al_op (op_eql rfl rfl) rfl (by simp) ?_
    refine al_op (op_assign rfl) rfl (by simp) ?_
    refine al_nil ?_
    refine aw_cond rfl (fun h5 => ?_) (fun h5 => ?_)
    ·have gh5 := h5
     try simp only [nrm] at h5
     refine aw_seq ?_
     refine aw_any (Checked.mixed Tryz.checked) ?_
     apply aany_seg (p := 0) (q := 7) (by kernel_rfl) rfl (by decide)
     ·
      apply ql_plain rfl (op_field_ptr Tryz.underlying65 rfl info3 (by decide) rfl rfl rfl)
      apply ql_plain rfl (op_load_ptr Tryz.underlying3 info3 rfl rfl rfl rfl)
      apply ql_call into151 rfl rfl rfl ((q_itoa _ (by first | assumption | omega | (simp; done) | (simp; omega) | decide) (by first | assumption | omega | (simp; done) | (simp; omega) | decide)) _)
      apply ql_plain rfl (op_field_ptr Tryz.underlying65 rfl info9 (by decide) rfl rfl rfl)
      apply ql_plain rfl (op_load_ptr Tryz.underlying9 info9 rfl rfl rfl rfl)
      apply ql_plain rfl (op_seql_str rfl rfl)
      apply ql_plain rfl (op_move rfl)
      exact ql_nil
     ·simp
     apply aany_and 7 11 38 42 (by kernel_rfl) rfl (by decide) rfl (by simp)
     ·intro h6; have gh6 := h6
      try simp only [nrm] at h6
      apply ql_ex
      ·
       apply ql_take rfl rfl rfl rfl (op_field_ptr Tryz.underlying65 rfl info3 (by decide) rfl rfl rfl)
       apply ql_take rfl rfl rfl rfl (op_load_ptr Tryz.underlying3 info3 rfl rfl rfl rfl)
       apply ql_take rfl rfl rfl rfl (op_geq rfl rfl)
       apply ql_plain rfl (op_pick rfl rfl)
       exact ql_nil
      ·rfl
      ·repeat (first | exact subx_refl | exact subx_known rfl gh6 subx_refl | refine subx_put rfl ?_)
     ·intro h6; have gh6 := h6
      try simp only [nrm] at h6
      apply ql_ex
      ·
       apply ql_pass rfl rfl rfl rfl
       apply ql_pass rfl rfl rfl rfl
       apply ql_pass rfl rfl rfl rfl
       apply ql_plain rfl (op_pick rfl rfl)
       exact ql_nil
      ·rfl
      ·repeat (first | exact subx_refl | exact subx_known rfl gh6 subx_refl | refine subx_put rfl ?_)
     apply aany_seg (p := 11) (q := 12) (by kernel_rfl) rfl (by decide)
     ·
      apply ql_plain rfl (op_move rfl)
      exact ql_nil
     ·simp
     apply aany_and2 12 17 43 47 2 (.v (.string (str (Lib.itoa t.n)))) (by kernel_rfl) rfl (by decide) rfl (by simp)
     ·intro h7; have gh7 := h7
      try simp only [nrm] at h7
      apply ql_ex2
      ·
       apply ql_take rfl rfl rfl rfl (op_field_ptr Tryz.underlying65 rfl info3 (by decide) rfl rfl rfl)
       apply ql_take rfl rfl rfl rfl (op_load_ptr Tryz.underlying3 info3 rfl rfl rfl rfl)
       apply ql_take rfl rfl rfl rfl (op_leq rfl rfl)
       apply ql_plain rfl (op_pick rfl rfl)
       apply ql_plain rfl (op_assign rfl)
       exact ql_nil
      ·rfl
      ·rfl
      ·repeat (first | exact subx_refl | exact subx_known rfl gh7 subx_refl | refine subx_put rfl ?_)
     ·intro h7; have gh7 := h7
      try simp only [nrm] at h7
      apply ql_ex2
      ·
       apply ql_pass rfl rfl rfl rfl
       apply ql_pass rfl rfl rfl rfl
       apply ql_pass rfl rfl rfl rfl
       apply ql_plain rfl (op_pick rfl rfl)
       apply ql_plain rfl (op_assign rfl)
       exact ql_nil
      ·rfl
      ·rfl
      ·repeat (first | exact subx_refl | exact subx_known rfl gh7 subx_refl | refine subx_put rfl ?_)
     apply aany_seg (p := 17) (q := 18) (by kernel_rfl) rfl (by decide)
     ·
      apply ql_plain rfl (op_assign rfl)
      exact ql_nil
     ·simp
     refine aany_end rfl (by kernel_rfl) ?_
     refine aw_freeze (fun _ => false) (fsub_cons (t := 2) rfl (.leaf _ _ (.same _)) (fsub_cons (t := 3) rfl (.leaf _ _ (.same _)) fsub_nil)) ?_
     refine aw_ret ?_
     refine ⟨_, res_2 rfl rfl rfl rfl rfl, ?_, rfl⟩
     rw [wrP, gh2, gh3, gh4, gh5]; rfl
    ·have gh5 := h5
     try simp only [nrm] at h5
     refine aw_seq ?_
     refine aw_region ?_
     refine al_op (op_eql rfl rfl) rfl (by simp) ?_
     refine al_op (op_assign rfl) rfl (by simp) ?_
     refine al_nil ?_
     refine aw_cond rfl (fun h8 => ?_) (fun h8 => ?_)
     ·have gh8 := h8
      try simp only [nrm] at h8
      refine aw_seq ?_
      cases hsp0 : (((t.text.length : Int) == 1))
      ·
       refine aw_any (Checked.mixed Tryz.checked) ?_
       apply aany_seg (p := 0) (q := 15) (by kernel_rfl) rfl (by decide)
       ·
        apply ql_plain rfl (op_field_ptr Tryz.underlying65 rfl info9 (by decide) rfl rfl rfl)
        apply ql_plain rfl (op_load_ptr Tryz.underlying9 info9 rfl rfl rfl rfl)
        apply ql_plain rfl (op_sadd_str rfl rfl (by first | omega | (simp; omega) | (simp; done) | (simp only [List.length_append, List.length_cons, List.length_nil]; omega)))
        apply ql_plain rfl (op_sadd_str rfl rfl (by first | omega | (simp; omega) | (simp; done) | (simp only [List.length_append, List.length_cons, List.length_nil]; omega)))
        apply ql_plain rfl (op_field_ptr Tryz.underlying65 rfl info9 (by decide) rfl rfl rfl)
        apply ql_plain rfl (op_load_ptr Tryz.underlying9 info9 rfl rfl rfl rfl)
        apply ql_plain rfl (op_slen_str (ts := #[]) Tryz.underlying9 rfl)
        apply ql_plain rfl (op_eql rfl rfl)
        apply ql_plain rfl (bool_as hsp0 (op_move rfl))
        apply ql_pass rfl rfl rfl rfl
        apply ql_pass rfl rfl rfl rfl
        apply ql_pass rfl rfl rfl rfl
        apply ql_plain rfl (op_pick rfl rfl)
        apply ql_plain rfl (op_assign rfl)
        apply ql_plain rfl (op_assign rfl)
        exact ql_nil
       ·simp
       refine aany_end rfl (by kernel_rfl) ?_
       refine aw_freeze (fun _ => false) (fsub_cons (t := 2) rfl (.leaf _ _ (.same _)) (fsub_cons (t := 3) rfl (.leaf _ _ (.same _)) fsub_nil)) ?_
       refine aw_ret ?_
       refine ⟨_, res_2 rfl rfl rfl rfl rfl, ?_, rfl⟩
       rw [wrP, gh2, gh3, gh4, gh5, gh8, hsp0]; rfl
      ·
       refine aw_any (Checked.mixed Tryz.checked) ?_
       apply aany_seg (p := 0) (q := 15) (by kernel_rfl) rfl (by decide)
       ·
        apply ql_plain rfl (op_field_ptr Tryz.underlying65 rfl info9 (by decide) rfl rfl rfl)
        apply ql_plain rfl (op_load_ptr Tryz.underlying9 info9 rfl rfl rfl rfl)
        apply ql_plain rfl (op_sadd_str rfl rfl (by first | omega | (simp; omega) | (simp; done) | (simp only [List.length_append, List.length_cons, List.length_nil]; omega)))
        apply ql_plain rfl (op_sadd_str rfl rfl (by first | omega | (simp; omega) | (simp; done) | (simp only [List.length_append, List.length_cons, List.length_nil]; omega)))
        apply ql_plain rfl (op_field_ptr Tryz.underlying65 rfl info9 (by decide) rfl rfl rfl)
        apply ql_plain rfl (op_load_ptr Tryz.underlying9 info9 rfl rfl rfl rfl)
        apply ql_plain rfl (op_slen_str (ts := #[]) Tryz.underlying9 rfl)
        apply ql_plain rfl (op_eql rfl rfl)
        apply ql_plain rfl (bool_as hsp0 (op_move rfl))
        apply ql_take rfl rfl rfl rfl (op_field_ptr Tryz.underlying65 rfl info9 (by decide) rfl rfl rfl)
        apply ql_take rfl rfl rfl rfl (op_load_ptr Tryz.underlying9 info9 rfl rfl rfl rfl)
        apply ql_call_take into152 rfl rfl rfl rfl rfl rfl ((q_contains _ _ (by first | assumption | omega | (simp; done) | (simp; omega) | decide)) _)
        apply ql_plain rfl (op_pick rfl rfl)
        apply ql_plain rfl (op_assign rfl)
        apply ql_plain rfl (op_assign rfl)
        exact ql_nil
       ·simp
       refine aany_end rfl (by kernel_rfl) ?_
       refine aw_freeze (fun _ => false) (fsub_cons (t := 2) rfl (.leaf _ _ (.same _)) (fsub_cons (t := 3) rfl (.leaf _ _ (.same _)) fsub_nil)) ?_
       refine aw_ret ?_
       refine ⟨_, res_2 rfl rfl rfl rfl rfl, ?_, rfl⟩
       rw [wrP, gh2, gh3, gh4, gh5, gh8, hsp0]; rfl
     ·have gh8 := h8
      try simp only [nrm] at h8
      refine aw_seq ?_
      refine aw_region ?_
      refine al_op (op_eql rfl rfl) rfl (by simp) ?_
      refine al_op (op_assign rfl) rfl (by simp) ?_
      refine al_nil ?_
      refine aw_cond rfl (fun h9 => ?_) (fun h9 => ?_)
      ·have gh9 := h9
       try simp only [nrm] at h9
       refine aw_seq ?_
       refine aw_region ?_
       refine al_op (op_field_ptr Tryz.underlying65 rfl info9 (by decide) rfl rfl rfl) rfl (by simp) ?_
       refine al_op (op_load_ptr Tryz.underlying9 info9 rfl rfl rfl rfl) rfl (by simp) ?_
       refine al_callp into153 rfl rfl rfl ((c_parse _ (by first | assumption | omega | (simp; done) | (simp; omega) | decide)) _) (by simp) ?_
       refine al_op (op_move rfl) rfl (by simp) ?_
       refine al_op (op_extract rfl rfl rfl) rfl (by simp) ?_
       refine al_op (op_extract rfl rfl rfl) rfl (by simp) ?_
       refine al_op (op_assign rfl) rfl (by simp) ?_
       refine al_op (op_assign rfl) rfl (by simp) ?_
       refine al_nil ?_
       refine aw_seq ?_
       refine aw_region ?_
       refine al_op (op_field_ptr Tryz.underlying65 rfl info9 (by decide) rfl rfl rfl) rfl (by simp) ?_
       refine al_op (op_load_ptr Tryz.underlying9 info9 rfl rfl rfl rfl) rfl (by simp) ?_
       refine al_op (op_sadd_str rfl rfl (by first | omega | (simp; omega) | (simp; done) | (simp only [List.length_append, List.length_cons, List.length_nil]; omega))) rfl (by simp) ?_
       refine al_op (op_sadd_str rfl rfl (by first | omega | (simp; omega) | (simp; done) | (simp only [List.length_append, List.length_cons, List.length_nil]; omega))) rfl (by simp) ?_
       refine al_op (op_move rfl) rfl (by simp) ?_
       refine al_op (op_eql rfl rfl) rfl (by simp) ?_
       refine al_op (op_assign rfl) rfl (by simp) ?_
       refine al_op (op_assign rfl) rfl (by simp) ?_
       refine al_nil ?_
       refine aw_freeze (fun _ => false) (fsub_cons (t := 2) rfl (.leaf _ _ (.same _)) (fsub_cons (t := 3) rfl (.leaf _ _ (.same _)) fsub_nil)) ?_
       refine aw_ret ?_
       refine ⟨_, res_2 rfl rfl rfl rfl rfl, ?_, rfl⟩
       rw [wrP, gh2, gh3, gh4, gh5, gh8, gh9]; rfl
      ·have gh9 := h9
       try simp only [nrm] at h9
       refine aw_seq ?_
       refine aw_region ?_
       refine al_op (op_eql rfl rfl) rfl (by simp) ?_
       refine al_op (op_assign rfl) rfl (by simp) ?_
       refine al_nil ?_
       refine aw_cond rfl (fun h10 => ?_) (fun h10 => ?_)
       ·have gh10 := h10
        try simp only [nrm] at h10
        refine aw_seq ?_
        refine aw_any (Checked.mixed Tryz.checked) ?_
        apply aany_seg (p := 0) (q := 9) (by kernel_rfl) rfl (by decide)
        ·
         apply ql_plain rfl (op_field_ptr Tryz.underlying65 rfl info9 (by decide) rfl rfl rfl)
         apply ql_plain rfl (op_load_ptr Tryz.underlying9 info9 rfl rfl rfl rfl)
         apply ql_plain rfl (op_sadd_str rfl rfl (by first | omega | (simp; omega) | (simp; done) | (simp only [List.length_append, List.length_cons, List.length_nil]; omega)))
         apply ql_plain rfl (op_sadd_str rfl rfl (by first | omega | (simp; omega) | (simp; done) | (simp only [List.length_append, List.length_cons, List.length_nil]; omega)))
         apply ql_plain rfl (op_field_ptr Tryz.underlying65 rfl info9 (by decide) rfl rfl rfl)
         apply ql_plain rfl (op_load_ptr Tryz.underlying9 info9 rfl rfl rfl rfl)
         apply ql_call into154 rfl rfl rfl ((c_isText _ (by first | assumption | omega | (simp; done) | (simp; omega) | decide)) _)
         apply ql_plain rfl (op_assign rfl)
         apply ql_plain rfl (op_assign rfl)
         exact ql_nil
        ·simp
        refine aany_end rfl (by kernel_rfl) ?_
        refine aw_freeze (fun _ => false) (fsub_cons (t := 2) rfl (.leaf _ _ (.same _)) (fsub_cons (t := 3) rfl (.leaf _ _ (.same _)) fsub_nil)) ?_
        refine aw_ret ?_
        refine ⟨_, res_2 rfl rfl rfl rfl rfl, ?_, rfl⟩
        rw [wrP, gh2, gh3, gh4, gh5, gh8, gh9, gh10]; rfl
       ·have gh10 := h10
        try simp only [nrm] at h10
        refine aw_seq ?_
        refine aw_region ?_
        refine al_op (op_eql rfl rfl) rfl (by simp) ?_
        refine al_op (op_assign rfl) rfl (by simp) ?_
        refine al_nil ?_
        refine aw_cond rfl (fun h11 => ?_) (fun h11 => ?_)
        ·have gh11 := h11
         try simp only [nrm] at h11
         refine aw_seq ?_
         refine aw_any (Checked.mixed Tryz.checked) ?_
         apply aany_seg (p := 0) (q := 8) (by kernel_rfl) rfl (by decide)
         ·
          apply ql_plain rfl (op_field_ptr Tryz.underlying65 rfl info9 (by decide) rfl rfl rfl)
          apply ql_plain rfl (op_load_ptr Tryz.underlying9 info9 rfl rfl rfl rfl)
          apply ql_call into155 rfl rfl rfl ((q_fields ) _)
          apply ql_plain rfl (op_field_ptr Tryz.underlying65 rfl info9 (by decide) rfl rfl rfl)
          apply ql_plain rfl (op_load_ptr Tryz.underlying9 info9 rfl rfl rfl rfl)
          apply ql_call into61 rfl rfl rfl ((q_member _ _ (by first | assumption | omega | (simp; done) | (simp; omega) | decide)) _)
          apply ql_plain rfl (op_assign rfl)
          apply ql_plain rfl (op_assign rfl)
          exact ql_nil
         ·simp
         refine aany_end rfl (by kernel_rfl) ?_
         refine aw_freeze (fun _ => false) (fsub_cons (t := 2) rfl (.leaf _ _ (.same _)) (fsub_cons (t := 3) rfl (.leaf _ _ (.same _)) fsub_nil)) ?_
         refine aw_ret ?_
         refine ⟨_, res_2 rfl rfl rfl rfl rfl, ?_, rfl⟩
         rw [wrP, gh2, gh3, gh4, gh5, gh8, gh9, gh10, gh11]; rfl
        ·have gh11 := h11
         try simp only [nrm] at h11
         refine aw_skip ?_
         refine aw_seq ?_
         refine aw_region ?_
         refine al_op (op_assign rfl) rfl (by simp) ?_
         refine al_op (op_assign rfl) rfl (by simp) ?_
         refine al_nil ?_
         refine aw_freeze (fun _ => false) (fsub_cons (t := 2) rfl (.leaf _ _ (.same _)) (fsub_cons (t := 3) rfl (.leaf _ _ (.same _)) fsub_nil)) ?_
         refine aw_ret ?_
         refine ⟨_, res_2 rfl rfl rfl rfl rfl, ?_, rfl⟩
         rw [wrP, gh2, gh3, gh4, gh5, gh8, gh9, gh10, gh11]; rfl
theorem c_Text (l : List Tk) (hl : OKTs l) (hn : l.length ≤ 1000000000) : ACp Tryz.prog 53 [.list 5 (l.map encK)] (.tuple [.v (.string (str ((textP l).1))), .v (.int .i64 ((textP l).2))]) := by
 refine acp_of rfl ?_
 refine ac_enter 32 Tryz.func53 rfl rfl (by simp) ?_
 refine aw_seq ?_
 refine aw_region ?_
 refine al_op (op_assign rfl) rfl (by simp) ?_
 refine al_op (op_assign rfl) rfl (by simp) ?_
 refine al_nil ?_
 refine aw_seq ?_
 refine aw_seq ?_
 refine aw_region ?_
 refine al_op (op_move rfl) rfl (by simp) ?_
 refine al_op (op_len_map Tryz.underlying22 rfl) rfl (by simp) ?_
 refine al_op (op_gtr rfl rfl) rfl (by simp) ?_
 refine al_nil ?_
 refine aw_cond rfl (fun h1 => ?_) (fun h1 => ?_)
 ·have gh1 := h1
  try simp only [nrm] at h1
  refine aw_seq ?_
  refine aw_region ?_
  refine al_op (op_assign rfl) rfl (by simp) ?_
  refine al_op (op_assign rfl) rfl (by simp) ?_
  refine al_nil ?_
  refine aw_freeze (fun _ => false) (fsub_cons (t := 2) rfl (.leaf _ _ (.same _)) (fsub_cons (t := 3) rfl (.leaf _ _ (.same _)) fsub_nil)) ?_
  refine aw_ret ?_
  refine ⟨_, res_2 rfl rfl rfl rfl rfl, ?_, rfl⟩
  rw [textP_long gh1] <;> rfl
 ·have gh1 := h1
  try simp only [nrm] at h1
  refine aw_skip ?_
  refine aw_seq ?_
  refine aw_region ?_
  refine al_op (op_assign rfl) rfl (by simp) ?_
  refine al_nil ?_
  refine aw_seq ?_
  refine aw_seq ?_
  refine aw_region ?_
  refine al_op (op_move rfl) rfl (by simp) ?_
  refine al_op (op_len_map Tryz.underlying22 rfl) rfl (by simp) ?_
  refine al_op (op_move rfl) rfl (by simp) ?_
  refine al_nil ?_
  refine aw_block ?_
  refine aw_own_map encBs 4 1 4 rfl rfl (fun ver4 => ?_)
  refine aw_for2T (α := Nat) (β := Nat) [2, 3, 4, 14] [6] (fun i ver => l.length - i) (fun i ver => i ≤ l.length ∧ ∀ k, k < i → (wrP (l.getD k default)).2 = true) (fun i ver => ([(4, .slice 4 ver 0 ((l.take i).map fun t => (wrP t).1).length), (14, .v (.int .i64 (i)))] : Env)) (fun i ver s => s.put 4 ver (.row 1 (((l.take i).map fun t => (wrP t).1).map encBs))) (0) (ver4) ?_ ?_ ?_ (fun i ver hinv => ?_)
  ·exact ⟨Nat.zero_le _, fun k hk => absurd hk (Nat.not_lt_zero k)⟩
  ·refine sub_cons (get_as rfl ?_) ?_; rotate_left; refine sub_cons (get_as rfl ?_) ?_; rotate_left; exact sub_nil
   all_goals (first | rfl | (simp; done) | (rw [take_more _ l i (by omega)] <;> rfl))
  ·rfl
  have hi := hinv.1
  have hal : ((l.take i).map fun t => (wrP t).1).length = i := by rw [List.length_map, List.length_take]; omega
  refine aw_seq ?_
  refine aw_region ?_
  refine al_op (op_lss rfl rfl) rfl (by simp) ?_
  refine al_nil ?_
  refine aw_seq ?_
  refine aw_cond rfl (fun h2 => ?_) (fun h2 => ?_)
  ·have gh2 := h2
   try simp only [nrm] at h2
   refine aw_skip ?_
   refine aw_seq ?_
   refine aw_block ?_
   refine aw_seq ?_
   refine aw_region ?_
   refine al_op (op_index_map default Tryz.underlying22 info65 rfl rfl rfl (by first | (with_reducible exact Int.toNat_natCast _) | rfl) (by omega) (by omega)) rfl (by simp) ?_
   refine al_op (op_load_rptr Tryz.underlying65 info65 rfl rfl) rfl (by simp) ?_
   (refine al_opR (op_alloc 6 info65 rfl rfl) rfl (by simp) ?_; rintro _ _ ⟨ver6, rfl, rfl⟩)
   refine al_op (op_store_ptr info65 rfl rfl rfl rfl rfl rfl (by first | rfl | exact live_one rfl | (repeat (first | exact all_live_nil | refine all_live_clo rfl ?_ | refine all_live_slice rfl ?_ | refine all_live_map rfl ?_ | refine all_live_ptr rfl ?_))) (Nat.le_of_ble_eq_true rfl)) rfl (by simp) ?_
   refine al_nil ?_
   refine aw_seq ?_
   have hti := hl.at i (by omega)
   refine aw_region ?_
   refine al_op (op_load_ptr Tryz.underlying65 info65 rfl rfl rfl rfl) rfl (by simp) ?_
   refine al_callp into102 rfl rfl rfl ((c_written _ (by assumption)) _) (by simp) ?_
   refine al_op (op_move rfl) rfl (by simp) ?_
   refine al_op (op_extract rfl rfl rfl) rfl (by simp) ?_
   refine al_op (op_extract rfl rfl rfl) rfl (by simp) ?_
   refine al_op (op_assign rfl) rfl (by simp) ?_
   refine al_op (op_assign rfl) rfl (by simp) ?_
   refine al_nil ?_
   refine aw_seq ?_
   refine aw_seq ?_
   refine aw_region ?_
   refine al_op (op_move rfl) rfl (by simp) ?_
   refine al_op (op_not rfl) rfl (by simp) ?_
   refine al_nil ?_
   refine aw_cond rfl (fun h3 => ?_) (fun h3 => ?_)
   ·have gh3 := h3
    try simp only [nrm] at h3
    refine aw_seq ?_
    refine aw_region ?_
    refine al_op (op_assign rfl) rfl (by simp) ?_
    refine al_op (op_assign rfl) rfl (by simp) ?_
    refine al_nil ?_
    refine aw_freeze (fun _ => false) (fsub_cons (t := 2) rfl (.leaf _ _ (.same _)) (fsub_cons (t := 3) rfl (.leaf _ _ (.same _)) fsub_nil)) ?_
    refine aw_ret ?_
    refine ⟨_, res_2 rfl rfl rfl rfl rfl, ?_, rfl⟩
    rw [textP_bad gh1 i (by omega) (by simpa using gh3)] <;> rfl
   ·have gh3 := h3
    try simp only [nrm] at h3
    refine aw_skip ?_
    refine aw_region ?_
    refine al_op (op_move rfl) rfl (by simp) ?_
    refine al_op (op_move rfl) rfl (by simp) ?_
    refine al_op (op_buildSlice Tryz.underlying32 info9 rfl rfl (by decide) rfl (by decide) rfl (by first | rfl | (repeat (first | exact parts_nil | refine parts_cons rfl (by repeat (first | exact all_live_nil | refine all_live_clo rfl ?_ | refine all_live_slice rfl ?_ | refine all_live_map rfl ?_ | refine all_live_ptr rfl ?_)) ?_))) rfl rfl rfl) rfl (by simp) ?_
    (refine al_opR (op_append_one (wrP (l.getD i default)).1 Tryz.underlying32 Tryz.underlying32 rfl info9 rfl rfl (by decide) rfl rfl rfl (by first | rfl | simp) rfl rfl (by first | omega | (simp; done) | (simp; omega)) (by show _ * 16 ≤ _; first | omega | (simp; done) | (simp; omega))) rfl (by simp) ?_; rintro _ _ ⟨ver28, rfl, rfl⟩)
    refine al_op (op_assign rfl) rfl (by simp) ?_
    refine al_nil ?_
    refine aw_region ?_
    refine al_op (op_add rfl rfl (by first | exact wrap_i64 (by omega) (by omega))) rfl (by simp) ?_
    refine al_op (op_move rfl) rfl (by simp) ?_
    refine al_nil ?_
    refine ⟨i + 1, ver28, ?_, ?_, ?_, ?_, ?_⟩
    ·omega
    ·exact ⟨by omega, all_more (p := fun t => (wrP t).2) hinv.2 (by simpa using gh3)⟩
    ·refine sub_cons (get_as rfl ?_) ?_; rotate_left; refine sub_cons (get_as rfl ?_) ?_; rotate_left; exact sub_nil
     all_goals (first | rfl | (simp; done) | (rw [take_more _ l i (by omega)] <;> rfl))
    ·repeat (first | exact subx_refl | exact subx_del | refine subx_put rfl ?_)
    ·(rw [take_more _ l i (by omega)] <;> rfl)
  ·have gh2 := h2
   try simp only [nrm] at h2
   refine aw_exit ?_
   obtain rfl : i = l.length := by omega
   have hall := hinv.2
   have htl := text_len hl (by omega)
   refine aw_seq ?_
   refine aw_region ?_
   refine al_op (op_move rfl) rfl (by simp) ?_
   refine al_callp into103 rfl rfl rfl (acp_lent (lend_cons (by first | exact lend_same | exact .leaf _ _ (.vnil _) | exact .leaf _ _ (.nil _) | exact lend_whole rfl (by first | rfl | (simp; done) | (simp; omega)) (clo_map (fun _ => rfl))) (lend_cons (by first | exact lend_same | exact .leaf _ _ (.vnil _) | exact .leaf _ _ (.nil _) | exact lend_whole rfl (by first | rfl | (simp; done) | (simp; omega)) (clo_map (fun _ => rfl))) lend_nil)) (q_join _ _ (by first | assumption | omega | (simp; done) | (simp; omega) | decide) (by first | assumption | omega | (simp; done) | (simp; omega) | decide)) rfl) (by simp) ?_
   refine al_op (op_assign rfl) rfl (by simp) ?_
   refine al_op (op_assign rfl) rfl (by simp) ?_
   refine al_nil ?_
   refine aw_freeze (fun _ => false) (fsub_cons (t := 2) rfl (.leaf _ _ (.same _)) (fsub_cons (t := 3) rfl (.leaf _ _ (.same _)) fsub_nil)) ?_
   refine aw_ret ?_
   refine ⟨_, res_2 rfl rfl rfl rfl rfl, ?_, rfl⟩
   rw [textP_ok gh1 hall, List.take_length] <;> rfl
theorem r_Words  : ACp Tryz.prog 170 [] (.list 1 (wordsL.map encBs)) := by
 refine acp_of rfl ?_
 refine ac_enter 2 Tryz.func170 rfl rfl (by simp) ?_
 refine aw_seq ?_
 refine aw_region ?_
 refine al_op (op_assign rfl) rfl (by simp) ?_
 refine al_nil ?_
 refine aw_seq ?_
 refine aw_region ?_
 refine al_op (op_list encBs wordsL Tryz.underlying32 info9 rfl rfl (by decide) rfl (by decide) rfl (by first | rfl | (repeat (first | exact parts_nil | refine parts_cons rfl (by repeat (first | exact all_live_nil | refine all_live_clo rfl ?_ | refine all_live_slice rfl ?_ | refine all_live_map rfl ?_ | refine all_live_ptr rfl ?_)) ?_))) rfl rfl rfl rfl) rfl (by simp) ?_
 refine al_op (op_assign rfl) rfl (by simp) ?_
 refine al_nil ?_
 refine aw_freeze (fun _ => false) (fsub_cons (t := 0) rfl (by first | exact .leaf _ _ (frz_whole rfl rfl (by first | rfl | (simp; done) | (simp; omega)) (clo_map (fun _ => rfl))) | exact .leaf _ _ (.vnil 1) | exact .leaf _ _ (.nil 1) | exact .leaf _ _ (.same _)) fsub_nil) ?_
 refine aw_ret ?_
 refine ⟨_, res_1 rfl rfl, ?_, rfl⟩
 rfl
theorem r_Signs  : ACp Tryz.prog 134 [] (.list 1 (signsL.map encBs)) := by
 refine acp_of rfl ?_
 refine ac_enter 2 Tryz.func134 rfl rfl (by simp) ?_
 refine aw_seq ?_
 refine aw_region ?_
 refine al_op (op_assign rfl) rfl (by simp) ?_
 refine al_nil ?_
 refine aw_seq ?_
 refine aw_region ?_
 refine al_op (op_list encBs signsL Tryz.underlying32 info9 rfl rfl (by decide) rfl (by decide) rfl (by first | rfl | (repeat (first | exact parts_nil | refine parts_cons rfl (by repeat (first | exact all_live_nil | refine all_live_clo rfl ?_ | refine all_live_slice rfl ?_ | refine all_live_map rfl ?_ | refine all_live_ptr rfl ?_)) ?_))) rfl rfl rfl rfl) rfl (by simp) ?_
 refine al_op (op_assign rfl) rfl (by simp) ?_
 refine al_nil ?_
 refine aw_freeze (fun _ => false) (fsub_cons (t := 0) rfl (by first | exact .leaf _ _ (frz_whole rfl rfl (by first | rfl | (simp; done) | (simp; omega)) (clo_map (fun _ => rfl))) | exact .leaf _ _ (.vnil 1) | exact .leaf _ _ (.nil 1) | exact .leaf _ _ (.same _)) fsub_nil) ?_
 refine aw_ret ?_
 refine ⟨_, res_1 rfl rfl, ?_, rfl⟩
 rfl
theorem r_member (l : List Bs) (x : Bs) (hl : l.length ≤ 1000000000) : ACp Tryz.prog 133 [.list 1 (l.map encBs), .v (.string (str (x)))] (.v (.bool (l.contains x))) := by
 refine acp_of rfl ?_
 refine ac_enter 17 Tryz.func133 rfl rfl (by simp) ?_
 refine aw_seq ?_
 refine aw_region ?_
 refine al_op (op_assign rfl) rfl (by simp) ?_
 refine al_nil ?_
 refine aw_seq ?_
 refine aw_seq ?_
 refine aw_region ?_
 refine al_op (op_move rfl) rfl (by simp) ?_
 refine al_op (op_len_map Tryz.underlying32 rfl) rfl (by simp) ?_
 refine al_op (op_move rfl) rfl (by simp) ?_
 refine al_nil ?_
 refine aw_block ?_
 refine aw_forT (ι := Nat) [4, 9] [] (fun i => l.length - i) (fun i => i ≤ l.length ∧ ∀ k, k < i → (l.getD k default == x) = false) (fun i => ([(9, .v (.int .i64 (i)))] : Env)) (fun i s => s) (0) ?_ ?_ ?_ (fun i hinv => ?_)
 ·exact ⟨Nat.zero_le _, fun k hk => absurd hk (Nat.not_lt_zero k)⟩
 ·refine sub_cons (get_as rfl ?_) ?_; rotate_left; exact sub_nil
  all_goals (first | rfl | simp)
 ·rfl
 have hi := hinv.1
 refine aw_seq ?_
 refine aw_region ?_
 refine al_op (op_lss rfl rfl) rfl (by simp) ?_
 refine al_nil ?_
 refine aw_seq ?_
 refine aw_cond rfl (fun h1 => ?_) (fun h1 => ?_)
 ·have gh1 := h1
  try simp only [nrm] at h1
  refine aw_skip ?_
  refine aw_seq ?_
  refine aw_block ?_
  refine aw_seq ?_
  refine aw_region ?_
  refine al_op (op_index_map default Tryz.underlying32 info9 rfl rfl rfl (by first | (with_reducible exact Int.toNat_natCast _) | rfl) (by omega) (by omega)) rfl (by simp) ?_
  refine al_op (op_load_rptr Tryz.underlying9 info9 rfl rfl) rfl (by simp) ?_
  refine al_op (op_assign rfl) rfl (by simp) ?_
  refine al_nil ?_
  refine aw_seq ?_
  refine aw_region ?_
  refine al_op (op_move rfl) rfl (by simp) ?_
  refine al_op (op_move rfl) rfl (by simp) ?_
  refine al_op (op_seql_str rfl rfl) rfl (by simp) ?_
  refine al_nil ?_
  refine aw_cond rfl (fun h2 => ?_) (fun h2 => ?_)
  ·have gh2 := h2
   try simp only [nrm] at h2
   refine aw_seq ?_
   refine aw_region ?_
   refine al_op (op_assign rfl) rfl (by simp) ?_
   refine al_nil ?_
   refine aw_freeze (fun _ => false) (fsub_cons (t := 4) rfl (.leaf _ _ (.same _)) fsub_nil) ?_
   refine aw_ret ?_
   refine ⟨_, res_1 rfl rfl, ?_, rfl⟩
   rw [member_yes i (by omega) gh2]
  ·have gh2 := h2
   try simp only [nrm] at h2
   refine aw_skip ?_
   refine aw_region ?_
   refine al_op (op_add rfl rfl (by first | exact wrap_i64 (by omega) (by omega))) rfl (by simp) ?_
   refine al_op (op_move rfl) rfl (by simp) ?_
   refine al_nil ?_
   refine ⟨i + 1, ?_, ?_, ?_, ?_, ?_⟩
   ·omega
   ·exact ⟨by omega, find_more (p := fun y => y == x) (l := l) hinv.2 gh2⟩
   ·refine sub_cons (get_as rfl ?_) ?_; rotate_left; exact sub_nil
    all_goals (first | rfl | simp)
   ·repeat (first | exact subx_refl | exact subx_del | refine subx_put rfl ?_)
   ·rfl
 ·have gh1 := h1
  try simp only [nrm] at h1
  refine aw_exit ?_
  obtain rfl : i = l.length := by omega
  have hall := hinv.2
  refine aw_seq ?_
  refine aw_region ?_
  refine al_op (op_assign rfl) rfl (by simp) ?_
  refine al_nil ?_
  refine aw_freeze (fun _ => false) (fsub_cons (t := 4) rfl (.leaf _ _ (.same _)) fsub_nil) ?_
  refine aw_ret ?_
  refine ⟨_, res_1 rfl rfl, ?_, rfl⟩
  rw [member_no hall]
theorem r_isWord (s : Bs) (hs : s.length ≤ 1000000000) : ACp Tryz.prog 123 [.v (.string (str (s)))] (.v (.bool (isWordL s))) := by
 refine acp_of rfl ?_
 refine ac_enter 6 Tryz.func123 rfl rfl (by simp) ?_
 refine aw_seq ?_
 refine aw_region ?_
 refine al_op (op_assign rfl) rfl (by simp) ?_
 refine al_nil ?_
 refine aw_seq ?_
 refine aw_region ?_
 refine al_callp into170 rfl rfl rfl ((r_Words ) _) (by simp) ?_
 refine al_op (op_move rfl) rfl (by simp) ?_
 refine al_callp into133 rfl rfl rfl ((r_member _ _ (by first | assumption | omega | decide)) _) (by simp) ?_
 refine al_op (op_assign rfl) rfl (by simp) ?_
 refine al_nil ?_
 refine aw_freeze (fun _ => false) (fsub_cons (t := 2) rfl (.leaf _ _ (.same _)) fsub_nil) ?_
 refine aw_ret ?_
 refine ⟨_, res_1 rfl rfl, ?_, rfl⟩
 rfl
theorem r_isName (s : Bs) (hs : s.length ≤ 1000000000) : ACp Tryz.prog 67 [.v (.string (str (s)))] (.v (.bool (isNameL s))) := by
 refine acp_of rfl ?_
 refine ac_enter 28 Tryz.func67 rfl rfl (by simp) ?_
 refine aw_seq ?_
 refine aw_region ?_
 refine al_op (op_assign rfl) rfl (by simp) ?_
 refine al_nil ?_
 refine aw_seq ?_
 refine aw_region ?_
 refine al_op (op_move rfl) rfl (by simp) ?_
 refine al_op (op_slen_str (ts := #[]) Tryz.underlying9 rfl) rfl (by simp) ?_
 refine al_op (op_geq rfl rfl) rfl (by simp) ?_
 refine al_op (op_move rfl) rfl (by simp) ?_
 apply al_and 4 6 10 rfl
 ·intro h1; have gh1 := h1
  try simp only [nrm] at h1
  refine al_take (op_move rfl) rfl rfl rfl rfl (by simp) ?_
  refine al_take (op_slen_str (ts := #[]) Tryz.underlying9 rfl) rfl rfl rfl rfl (by simp) ?_
  refine al_take (op_leq rfl rfl) rfl rfl rfl rfl (by simp) ?_
  refine al_op (op_pick rfl rfl) rfl (by simp) ?_
  refine al_nil ⟨rfl, rfl, rfl, keep_of ?_⟩
  repeat (first | exact subx_refl | exact subx_known rfl gh1 subx_refl | refine subx_put rfl ?_)
 ·intro h1; have gh1 := h1
  try simp only [nrm] at h1
  refine al_pass rfl rfl rfl rfl (by simp) ?_
  refine al_pass rfl rfl rfl rfl (by simp) ?_
  refine al_pass rfl rfl rfl rfl (by simp) ?_
  refine al_op (op_pick rfl rfl) rfl (by simp) ?_
  refine al_nil ⟨rfl, rfl, rfl, keep_of ?_⟩
  repeat (first | exact subx_refl | exact subx_known rfl gh1 subx_refl | refine subx_put rfl ?_)
 refine al_op (op_move rfl) rfl (by simp) ?_
 apply al_and 4 11 15 rfl
 ·intro h2; have gh2 := h2
  try simp only [nrm] at h2
  refine al_take (op_move rfl) rfl rfl rfl rfl (by simp) ?_
  refine al_take (op_sidx_str Tryz.underlying9 rfl rfl (by first | (with_reducible exact Int.toNat_natCast _) | rfl) (by omega) (by first | omega | (simp; omega))) rfl rfl rfl rfl (by simp) ?_
  refine al_callp_take into121 rfl rfl rfl rfl rfl rfl ((r_letter _) _) (by simp) ?_
  refine al_op (op_pick rfl rfl) rfl (by simp) ?_
  refine al_nil ⟨rfl, rfl, rfl, keep_of ?_⟩
  repeat (first | exact subx_refl | exact subx_known rfl gh2 subx_refl | refine subx_put rfl ?_)
 ·intro h2; have gh2 := h2
  try simp only [nrm] at h2
  refine al_pass rfl rfl rfl rfl (by simp) ?_
  refine al_pass rfl rfl rfl rfl (by simp) ?_
  refine al_pass rfl rfl rfl rfl (by simp) ?_
  refine al_op (op_pick rfl rfl) rfl (by simp) ?_
  refine al_nil ⟨rfl, rfl, rfl, keep_of ?_⟩
  repeat (first | exact subx_refl | exact subx_known rfl gh2 subx_refl | refine subx_put rfl ?_)
 refine al_op (op_move rfl) rfl (by simp) ?_
 apply al_and 6 16 22 rfl
 ·intro h3; have gh3 := h3
  try simp only [nrm] at h3
  refine al_take (op_move rfl) rfl rfl rfl rfl (by simp) ?_
  refine al_callp_take into122 rfl rfl rfl rfl rfl rfl (r_run3 s hs 0 (Nat.zero_le _) 1 _) (by simp) ?_
  refine al_take (op_move rfl) rfl rfl rfl rfl (by simp) ?_
  refine al_take (op_slen_str (ts := #[]) Tryz.underlying9 rfl) rfl rfl rfl rfl (by simp) ?_
  refine al_take (op_eql rfl rfl) rfl rfl rfl rfl (by simp) ?_
  refine al_op (op_pick rfl rfl) rfl (by simp) ?_
  refine al_nil ⟨rfl, rfl, rfl, keep_of ?_⟩
  repeat (first | exact subx_refl | exact subx_known rfl gh3 subx_refl | refine subx_put rfl ?_)
 ·intro h3; have gh3 := h3
  try simp only [nrm] at h3
  refine al_pass rfl rfl rfl rfl (by simp) ?_
  refine al_pass rfl rfl rfl rfl (by simp) ?_
  refine al_pass rfl rfl rfl rfl (by simp) ?_
  refine al_pass rfl rfl rfl rfl (by simp) ?_
  refine al_pass rfl rfl rfl rfl (by simp) ?_
  refine al_op (op_pick rfl rfl) rfl (by simp) ?_
  refine al_nil ⟨rfl, rfl, rfl, keep_of ?_⟩
  repeat (first | exact subx_refl | exact subx_known rfl gh3 subx_refl | refine subx_put rfl ?_)
 refine al_op (op_move rfl) rfl (by simp) ?_
 apply al_and 4 23 27 rfl
 ·intro h4; have gh4 := h4
  try simp only [nrm] at h4
  refine al_take (op_move rfl) rfl rfl rfl rfl (by simp) ?_
  refine al_callp_take into123 rfl rfl rfl rfl rfl rfl ((r_isWord _ (by first | assumption | omega | (simp; done) | (simp; omega) | decide)) _) (by simp) ?_
  refine al_take (op_not rfl) rfl rfl rfl rfl (by simp) ?_
  refine al_op (op_pick rfl rfl) rfl (by simp) ?_
  refine al_nil ⟨rfl, rfl, rfl, keep_of ?_⟩
  repeat (first | exact subx_refl | exact subx_known rfl gh4 subx_refl | refine subx_put rfl ?_)
 ·intro h4; have gh4 := h4
  try simp only [nrm] at h4
  refine al_pass rfl rfl rfl rfl (by simp) ?_
  refine al_pass rfl rfl rfl rfl (by simp) ?_
  refine al_pass rfl rfl rfl rfl (by simp) ?_
  refine al_op (op_pick rfl rfl) rfl (by simp) ?_
  refine al_nil ⟨rfl, rfl, rfl, keep_of ?_⟩
  repeat (first | exact subx_refl | exact subx_known rfl gh4 subx_refl | refine subx_put rfl ?_)
 refine al_op (op_assign rfl) rfl (by simp) ?_
 refine al_nil ?_
 refine aw_freeze (fun _ => false) (fsub_cons (t := 2) rfl (.leaf _ _ (.same _)) fsub_nil) ?_
 refine aw_ret ?_
 refine ⟨_, res_1 rfl rfl, ?_, rfl⟩
 rw [← isName_ref s] <;> rfl
theorem r_alike (a b : List Tk) (hb : b.length ≤ 1000000000) : ACp Tryz.prog 49 [.list 5 (a.map encK), .list 5 (b.map encK)] (.v (.bool (alikeL a b))) := by
 refine acp_of rfl ?_
 refine ac_enter 54 Tryz.func49 rfl rfl (by simp) ?_
 refine aw_seq ?_
 refine aw_region ?_
 refine al_op (op_assign rfl) rfl (by simp) ?_
 refine al_nil ?_
 refine aw_seq ?_
 refine aw_seq ?_
 refine aw_region ?_
 refine al_op (op_move rfl) rfl (by simp) ?_
 refine al_op (op_len_map Tryz.underlying22 rfl) rfl (by simp) ?_
 refine al_op (op_move rfl) rfl (by simp) ?_
 refine al_op (op_len_map Tryz.underlying22 rfl) rfl (by simp) ?_
 refine al_op (op_neq rfl rfl) rfl (by simp) ?_
 refine al_nil ?_
 refine aw_cond rfl (fun h1 => ?_) (fun h1 => ?_)
 ·have gh1 := h1
  try simp only [nrm] at h1
  refine aw_seq ?_
  refine aw_region ?_
  refine al_op (op_assign rfl) rfl (by simp) ?_
  refine al_nil ?_
  refine aw_freeze (fun _ => false) (fsub_cons (t := 4) rfl (.leaf _ _ (.same _)) fsub_nil) ?_
  refine aw_ret ?_
  refine ⟨_, res_1 rfl rfl, ?_, rfl⟩
  rw [alike_len gh1]
 ·have gh1 := h1
  try simp only [nrm] at h1
  refine aw_skip ?_
  refine aw_seq ?_
  refine aw_seq ?_
  refine aw_region ?_
  refine al_op (op_move rfl) rfl (by simp) ?_
  refine al_op (op_len_map Tryz.underlying22 rfl) rfl (by simp) ?_
  refine al_op (op_move rfl) rfl (by simp) ?_
  refine al_nil ?_
  refine aw_block ?_
  refine aw_forT (ι := Nat) [4, 13] [] (fun i => a.length - i) (fun i => i ≤ a.length ∧ ∀ k, k < i → tkey (a.getD k default) = tkey (b.getD k default)) (fun i => ([(13, .v (.int .i64 (i)))] : Env)) (fun i s => s) (0) ?_ ?_ ?_ (fun i hinv => ?_)
  ·exact ⟨Nat.zero_le _, fun k hk => absurd hk (Nat.not_lt_zero k)⟩
  ·refine sub_cons (get_as rfl ?_) ?_; rotate_left; exact sub_nil
   all_goals (first | rfl | simp)
  ·rfl
  have hi := hinv.1
  have hll : a.length = b.length := by have := bne_eq_false_iff_eq.1 gh1; omega
  refine aw_seq ?_
  refine aw_region ?_
  refine al_op (op_lss rfl rfl) rfl (by simp) ?_
  refine al_nil ?_
  refine aw_seq ?_
  refine aw_cond rfl (fun h2 => ?_) (fun h2 => ?_)
  ·have gh2 := h2
   try simp only [nrm] at h2
   refine aw_skip ?_
   refine aw_seq ?_
   refine aw_block ?_
   refine aw_seq ?_
   refine aw_region ?_
   refine al_op (op_move rfl) rfl (by simp) ?_
   refine al_op (op_assign rfl) rfl (by simp) ?_
   refine al_nil ?_
   refine aw_seq ?_
   refine aw_any (Checked.mixed Tryz.checked) ?_
   apply aany_seg (p := 0) (q := 12) (by kernel_rfl) rfl (by decide)
   ·
    apply ql_plain rfl (op_move rfl)
    apply ql_plain rfl (op_move rfl)
    apply ql_plain rfl (op_index_map default Tryz.underlying22 info65 rfl rfl rfl (by first | (with_reducible exact Int.toNat_natCast _) | rfl) (by omega) (by omega))
    apply ql_plain rfl (op_field_rptr Tryz.underlying65 rfl info63 (by decide) rfl rfl)
    apply ql_plain rfl (op_load_rptr Tryz.underlying63 info63 rfl rfl)
    apply ql_plain rfl (op_move rfl)
    apply ql_plain rfl (op_move rfl)
    apply ql_plain rfl (op_index_map default Tryz.underlying22 info65 rfl rfl rfl (by first | (with_reducible exact Int.toNat_natCast _) | rfl) (by omega) (by omega))
    apply ql_plain rfl (op_field_rptr Tryz.underlying65 rfl info63 (by decide) rfl rfl)
    apply ql_plain rfl (op_load_rptr Tryz.underlying63 info63 rfl rfl)
    apply ql_plain rfl (op_neq rfl rfl)
    apply ql_plain rfl (op_move rfl)
    exact ql_nil
   ·simp
   apply aany_or 12 24 27 39 (by kernel_rfl) rfl (by decide) rfl (by simp)
   ·intro h3; have gh3 := h3
    try simp only [nrm] at h3
    apply ql_ex
    ·
     apply ql_take rfl rfl rfl rfl (op_move rfl)
     apply ql_take rfl rfl rfl rfl (op_move rfl)
     apply ql_take rfl rfl rfl rfl (op_index_map default Tryz.underlying22 info65 rfl rfl rfl (by first | (with_reducible exact Int.toNat_natCast _) | rfl) (by omega) (by omega))
     apply ql_take rfl rfl rfl rfl (op_field_rptr Tryz.underlying65 rfl info9 (by decide) rfl rfl)
     apply ql_take rfl rfl rfl rfl (op_load_rptr Tryz.underlying9 info9 rfl rfl)
     apply ql_take rfl rfl rfl rfl (op_move rfl)
     apply ql_take rfl rfl rfl rfl (op_move rfl)
     apply ql_take rfl rfl rfl rfl (op_index_map default Tryz.underlying22 info65 rfl rfl rfl (by first | (with_reducible exact Int.toNat_natCast _) | rfl) (by omega) (by omega))
     apply ql_take rfl rfl rfl rfl (op_field_rptr Tryz.underlying65 rfl info9 (by decide) rfl rfl)
     apply ql_take rfl rfl rfl rfl (op_load_rptr Tryz.underlying9 info9 rfl rfl)
     apply ql_take rfl rfl rfl rfl (op_sneq_str rfl rfl)
     apply ql_plain rfl (op_pick rfl rfl)
     exact ql_nil
    ·rfl
    ·repeat (first | exact subx_refl | exact subx_known rfl gh3 subx_refl | refine subx_put rfl ?_)
   ·intro h3; have gh3 := h3
    try simp only [nrm] at h3
    apply ql_ex
    ·
     apply ql_pass rfl rfl rfl rfl
     apply ql_pass rfl rfl rfl rfl
     apply ql_pass rfl rfl rfl rfl
     apply ql_pass rfl rfl rfl rfl
     apply ql_pass rfl rfl rfl rfl
     apply ql_pass rfl rfl rfl rfl
     apply ql_pass rfl rfl rfl rfl
     apply ql_pass rfl rfl rfl rfl
     apply ql_pass rfl rfl rfl rfl
     apply ql_pass rfl rfl rfl rfl
     apply ql_pass rfl rfl rfl rfl
     apply ql_plain rfl (op_pick rfl rfl)
     exact ql_nil
    ·rfl
    ·repeat (first | exact subx_refl | exact subx_known rfl gh3 subx_refl | refine subx_put rfl ?_)
   apply aany_seg (p := 24) (q := 25) (by kernel_rfl) rfl (by decide)
   ·
    apply ql_plain rfl (op_move rfl)
    exact ql_nil
   ·simp
   apply aany_or 25 37 40 52 (by kernel_rfl) rfl (by decide) rfl (by simp)
   ·intro h4; have gh4 := h4
    try simp only [nrm] at h4
    apply ql_ex
    ·
     apply ql_take rfl rfl rfl rfl (op_move rfl)
     apply ql_take rfl rfl rfl rfl (op_move rfl)
     apply ql_take rfl rfl rfl rfl (op_index_map default Tryz.underlying22 info65 rfl rfl rfl (by first | (with_reducible exact Int.toNat_natCast _) | rfl) (by omega) (by omega))
     apply ql_take rfl rfl rfl rfl (op_field_rptr Tryz.underlying65 rfl info3 (by decide) rfl rfl)
     apply ql_take rfl rfl rfl rfl (op_load_rptr Tryz.underlying3 info3 rfl rfl)
     apply ql_take rfl rfl rfl rfl (op_move rfl)
     apply ql_take rfl rfl rfl rfl (op_move rfl)
     apply ql_take rfl rfl rfl rfl (op_index_map default Tryz.underlying22 info65 rfl rfl rfl (by first | (with_reducible exact Int.toNat_natCast _) | rfl) (by omega) (by omega))
     apply ql_take rfl rfl rfl rfl (op_field_rptr Tryz.underlying65 rfl info3 (by decide) rfl rfl)
     apply ql_take rfl rfl rfl rfl (op_load_rptr Tryz.underlying3 info3 rfl rfl)
     apply ql_take rfl rfl rfl rfl (op_neq rfl rfl)
     apply ql_plain rfl (op_pick rfl rfl)
     exact ql_nil
    ·rfl
    ·repeat (first | exact subx_refl | exact subx_known rfl gh4 subx_refl | refine subx_put rfl ?_)
   ·intro h4; have gh4 := h4
    try simp only [nrm] at h4
    apply ql_ex
    ·
     apply ql_pass rfl rfl rfl rfl
     apply ql_pass rfl rfl rfl rfl
     apply ql_pass rfl rfl rfl rfl
     apply ql_pass rfl rfl rfl rfl
     apply ql_pass rfl rfl rfl rfl
     apply ql_pass rfl rfl rfl rfl
     apply ql_pass rfl rfl rfl rfl
     apply ql_pass rfl rfl rfl rfl
     apply ql_pass rfl rfl rfl rfl
     apply ql_pass rfl rfl rfl rfl
     apply ql_pass rfl rfl rfl rfl
     apply ql_plain rfl (op_pick rfl rfl)
     exact ql_nil
    ·rfl
    ·repeat (first | exact subx_refl | exact subx_known rfl gh4 subx_refl | refine subx_put rfl ?_)
   refine aany_end rfl (by kernel_rfl) ?_
   refine aw_cond rfl (fun h5 => ?_) (fun h5 => ?_)
   ·have gh5 := h5
    try simp only [nrm] at h5
    refine aw_seq ?_
    refine aw_region ?_
    refine al_op (op_assign rfl) rfl (by simp) ?_
    refine al_nil ?_
    refine aw_freeze (fun _ => false) (fsub_cons (t := 4) rfl (.leaf _ _ (.same _)) fsub_nil) ?_
    refine aw_ret ?_
    refine ⟨_, res_1 rfl rfl, ?_, rfl⟩
    rw [alike_no i (by omega) (by omega) gh5]
   ·have gh5 := h5
    try simp only [nrm] at h5
    refine aw_skip ?_
    refine aw_region ?_
    refine al_op (op_add rfl rfl (by first | exact wrap_i64 (by omega) (by omega))) rfl (by simp) ?_
    refine al_op (op_move rfl) rfl (by simp) ?_
    refine al_nil ?_
    refine ⟨i + 1, ?_, ?_, ?_, ?_, ?_⟩
    ·omega
    ·exact ⟨by omega, alike_more hinv.2 gh5⟩
    ·refine sub_cons (get_as rfl ?_) ?_; rotate_left; exact sub_nil
     all_goals (first | rfl | simp)
    ·repeat (first | exact subx_refl | exact subx_del | refine subx_put rfl ?_)
    ·rfl
  ·have gh2 := h2
   try simp only [nrm] at h2
   refine aw_exit ?_
   obtain rfl : i = a.length := by omega
   have hall := hinv.2
   refine aw_seq ?_
   refine aw_region ?_
   refine al_op (op_assign rfl) rfl (by simp) ?_
   refine al_nil ?_
   refine aw_freeze (fun _ => false) (fsub_cons (t := 4) rfl (.leaf _ _ (.same _)) fsub_nil) ?_
   refine aw_ret ?_
   refine ⟨_, res_1 rfl rfl, ?_, rfl⟩
   rw [alike_yes gh1 hall]
end Go.Proofs.YtcgdlhkiecommaaGreatDoor

/- Printed walks (gen.py, lexer_ann.py): part 401. -/





set_option linter.unusedVariables false
set_option linter.unusedSimpArgs false
set_option maxRecDepth 20000
set_option maxHeartbeats 40000000
namespace Go.Proofs.YtcgdlhkiecommaaGreatDoor
open Go
theorem e_text (t : Tk) (ht : OKT t) : ACp Tryz.prog 141 [.agg (encK t)] (.v (.string (str (textT t)))) := by
 refine acp_of rfl ?_
 obtain ⟨t1, t2, t3⟩ := ht
 refine ac_enter 11 Tryz.func141 rfl rfl (by simp) ?_
 refine aw_seq ?_
 refine aw_region ?_
 (refine al_opR (op_box 1 rfl rfl (by first | rfl | exact live_one rfl | (repeat (first | exact all_live_nil | refine all_live_clo rfl ?_ | refine all_live_slice rfl ?_ | refine all_live_map rfl ?_ | refine all_live_ptr rfl ?_)))) rfl (by simp) ?_; rintro _ _ ⟨ver1, rfl, rfl⟩)
 refine al_op (op_assign rfl) rfl (by simp) ?_
 refine al_nil ?_
 refine aw_seq ?_
 refine aw_seq ?_
 refine aw_region ?_
 refine al_op (op_field_ptr Tryz.underlying65 rfl info63 (by decide) rfl rfl rfl) rfl (by simp) ?_
 refine al_op (op_load_ptr Tryz.underlying63 info63 rfl rfl rfl rfl) rfl (by simp) ?_
 refine al_op (op_eql rfl rfl) rfl (by simp) ?_
 refine al_nil ?_
 refine aw_cond rfl (fun h1 => ?_) (fun h1 => ?_)
 ·have gh1 := h1
  try simp only [nrm] at h1
  refine aw_seq ?_
  refine aw_region ?_
  refine al_op (op_field_ptr Tryz.underlying65 rfl info3 (by decide) rfl rfl rfl) rfl (by simp) ?_
  refine al_op (op_load_ptr Tryz.underlying3 info3 rfl rfl rfl rfl) rfl (by simp) ?_
  refine al_callp into151 rfl rfl rfl ((q_itoa _ (by first | assumption | omega | (simp; done) | (simp; omega) | decide) (by first | assumption | omega | (simp; done) | (simp; omega) | decide)) _) (by simp) ?_
  refine al_op (op_assign rfl) rfl (by simp) ?_
  refine al_nil ?_
  refine aw_freeze (fun _ => false) (fsub_cons (t := 2) rfl (.leaf _ _ (.same _)) fsub_nil) ?_
  refine aw_ret ?_
  refine ⟨_, res_1 rfl rfl, ?_, rfl⟩
  rw [textT, gh1]; rfl
 ·have gh1 := h1
  try simp only [nrm] at h1
  refine aw_skip ?_
  refine aw_seq ?_
  refine aw_region ?_
  refine al_op (op_field_ptr Tryz.underlying65 rfl info9 (by decide) rfl rfl rfl) rfl (by simp) ?_
  refine al_op (op_load_ptr Tryz.underlying9 info9 rfl rfl rfl rfl) rfl (by simp) ?_
  refine al_op (op_assign rfl) rfl (by simp) ?_
  refine al_nil ?_
  refine aw_freeze (fun _ => false) (fsub_cons (t := 2) rfl (.leaf _ _ (.same _)) fsub_nil) ?_
  refine aw_ret ?_
  refine ⟨_, res_1 rfl rfl, ?_, rfl⟩
  rw [textT, gh1]; rfl
theorem e_token (v0 : Nat) (l : List Tk) (hl : OKTs l) (hn : l.length ≤ 1000000000) (i d : Nat) (hd : d ≤ 40) (hi : i ≤ l.length)  : AC Tryz.prog 91 [.ptr 0 v0 0 0] (rd v0 l i d []) (fun r σ' => r = .ret (.agg (encK (tokAt l i))) ∧ σ'.keep k0 = rd v0 l i d []) := by
 refine ac_enter 24 Tryz.func91 rfl rfl (by simp) ?_
 refine aw_seq ?_
 refine aw_region ?_
 (refine al_opR (op_alloc 2 info65 rfl rfl) rfl (by simp) ?_; rintro _ _ ⟨ver2, rfl, rfl⟩)
 refine al_nil ?_
 refine aw_seq ?_
 refine aw_seq ?_
 refine aw_any (Checked.mixed Tryz.checked) ?_
 apply aany_seg (p := 0) (q := 10) (by kernel_rfl) rfl (by decide)
 ·
  apply ql_plain rfl (op_move rfl)
  apply ql_plain rfl (op_nilCheck_ptr rfl rfl)
  apply ql_plain rfl (op_field_ptr Tryz.underlying105 rfl info3 (by decide) rfl rfl rfl)
  apply ql_plain rfl (op_load_ptr Tryz.underlying3 info3 rfl rfl rfl rfl)
  apply ql_plain rfl (op_move rfl)
  apply ql_plain rfl (op_nilCheck_ptr rfl rfl)
  apply ql_plain rfl (op_field_ptr Tryz.underlying105 rfl info22 (by decide) rfl rfl rfl)
  apply ql_plain rfl (op_load_ptr Tryz.underlying22 info22 rfl rfl rfl rfl)
  apply ql_plain rfl (op_len_map Tryz.underlying22 rfl)
  apply ql_plain rfl (op_lss rfl rfl)
  exact ql_nil
 ·simp
 refine aany_end rfl (by kernel_rfl) ?_
 refine aw_cond rfl (fun h1 => ?_) (fun h1 => ?_)
 ·have gh1 := h1
  try simp only [nrm] at h1
  refine aw_seq ?_
  refine aw_any (Checked.mixed Tryz.checked) ?_
  apply aany_seg (p := 0) (q := 10) (by kernel_rfl) rfl (by decide)
  ·
   apply ql_plain rfl (op_move rfl)
   apply ql_plain rfl (op_nilCheck_ptr rfl rfl)
   apply ql_plain rfl (op_field_ptr Tryz.underlying105 rfl info22 (by decide) rfl rfl rfl)
   apply ql_plain rfl (op_load_ptr Tryz.underlying22 info22 rfl rfl rfl rfl)
   apply ql_plain rfl (op_move rfl)
   apply ql_plain rfl (op_nilCheck_ptr rfl rfl)
   apply ql_plain rfl (op_field_ptr Tryz.underlying105 rfl info3 (by decide) rfl rfl rfl)
   apply ql_plain rfl (op_load_ptr Tryz.underlying3 info3 rfl rfl rfl rfl)
   apply ql_plain rfl (op_index_map default Tryz.underlying22 info65 rfl rfl rfl (by first | (with_reducible exact Int.toNat_natCast _) | rfl) (by omega) (by omega))
   apply ql_plain rfl (op_load_rptr Tryz.underlying65 info65 rfl rfl)
   exact ql_nil
  ·simp
  refine aany_op (by kernel_rfl) rfl rfl (op_store_ptr info65 rfl rfl rfl rfl rfl rfl (by first | rfl | exact live_one rfl | (repeat (first | exact all_live_nil | refine all_live_clo rfl ?_ | refine all_live_slice rfl ?_ | refine all_live_map rfl ?_ | refine all_live_ptr rfl ?_))) (Nat.le_of_ble_eq_true rfl)) (by simp) ?_
  refine aany_end rfl (by kernel_rfl) ?_
  refine aw_ret ?_
  refine ⟨_, res_cell rfl Tryz.underlying65 info65 rfl rfl rfl rfl, ?_⟩
  exact ⟨rfl, rfl⟩
 ·have gh1 := h1
  try simp only [nrm] at h1
  refine aw_skip ?_
  refine aw_seq ?_
  refine aw_region ?_
  refine al_op (op_build_struct Tryz.underlying65 info65 rfl place65 rfl (by first | rfl | (repeat (first | exact parts_nil | refine parts_cons rfl (by repeat (first | exact all_live_nil | refine all_live_clo rfl ?_ | refine all_live_slice rfl ?_ | refine all_live_map rfl ?_ | refine all_live_ptr rfl ?_)) ?_))) rfl) rfl (by simp) ?_
  refine al_op (op_store_ptr info65 rfl rfl rfl rfl rfl rfl (by first | rfl | exact live_one rfl | (repeat (first | exact all_live_nil | refine all_live_clo rfl ?_ | refine all_live_slice rfl ?_ | refine all_live_map rfl ?_ | refine all_live_ptr rfl ?_))) (by decide)) rfl (by simp) ?_
  refine al_nil ?_
  refine aw_ret ?_
  refine ⟨_, res_cell rfl Tryz.underlying65 info65 rfl rfl rfl rfl, ?_⟩
  rw [tokAt_out (by omega)]; exact ⟨rfl, rfl⟩
theorem e_tokenA {σ : Store} (v0 : Nat) (l : List Tk) (hl : OKTs l) (hn : l.length ≤ 1000000000) (i d : Nat) (hd : d ≤ 40) (hi : i ≤ l.length) (h1 : σ.get 0 = some (v0, .row 7 [rdr l i d])) (hb : σ.below 1000 = true) : AC Tryz.prog 91 [.ptr 0 v0 0 0] σ (fun r σ' => r = .ret (.agg (encK (tokAt l i))) ∧ σ' = σ) :=
  rd_look rfl rfl (e_token v0 l hl hn i d hd hi ) h1 hb
theorem e_fail (v0 : Nat) (l : List Tk) (hl : OKTs l) (hn : l.length ≤ 1000000000) (i d : Nat) (hd : d ≤ 40) (hi : i ≤ l.length) (c : Int) : AC Tryz.prog 96 [.ptr 0 v0 0 0, .v (.int .i64 (c))] (rd v0 l i d []) (fun r σ' => RdK v0 l (d) encUnit (.bad (fltAt l c i)) r σ') := by
 refine ac_enter 31 Tryz.func96 rfl rfl (by simp) ?_
 refine aw_seq ?_
 refine aw_seq ?_
 refine aw_any (Checked.mixed Tryz.checked) ?_
 apply aany_seg (p := 0) (q := 10) (by kernel_rfl) rfl (by decide)
 ·
  apply ql_plain rfl (op_move rfl)
  apply ql_plain rfl (op_nilCheck_ptr rfl rfl)
  apply ql_plain rfl (op_field_ptr Tryz.underlying105 rfl info3 (by decide) rfl rfl rfl)
  apply ql_plain rfl (op_load_ptr Tryz.underlying3 info3 rfl rfl rfl rfl)
  apply ql_plain rfl (op_move rfl)
  apply ql_plain rfl (op_nilCheck_ptr rfl rfl)
  apply ql_plain rfl (op_field_ptr Tryz.underlying105 rfl info22 (by decide) rfl rfl rfl)
  apply ql_plain rfl (op_load_ptr Tryz.underlying22 info22 rfl rfl rfl rfl)
  apply ql_plain rfl (op_len_map Tryz.underlying22 rfl)
  apply ql_plain rfl (op_geq rfl rfl)
  exact ql_nil
 ·simp
 refine aany_end rfl (by kernel_rfl) ?_
 refine aw_cond rfl (fun h1 => ?_) (fun h1 => ?_)
 ·have gh1 := h1
  try simp only [nrm] at h1
  refine aw_region ?_
  refine al_op (op_move rfl) rfl (by simp) ?_
  refine al_op (op_nilCheck_ptr rfl rfl) rfl (by simp) ?_
  refine al_op (op_field_ptr Tryz.underlying105 rfl info40 (by decide) rfl rfl rfl) rfl (by simp) ?_
  refine al_op (op_load_ptr Tryz.underlying40 info40 rfl rfl rfl rfl) rfl (by simp) ?_
  refine al_op (op_iface_agg (vals := [.int .i64 12, .string (str []), .int .i64 0, .int .i64 0]) (by kernel_rfl) rfl) rfl (by simp) ?_
  refine al_panic rfl ?_
  rw [fltAt_end _ (by omega)]; exact rdk_bad (g := eofF) rfl rfl
 ·have gh1 := h1
  try simp only [nrm] at h1
  refine aw_skip ?_
  refine aw_seq ?_
  have htk := tokAt_ok hl i
  refine aw_region ?_
  refine al_op (op_move rfl) rfl (by simp) ?_
  refine al_callp into91 rfl rfl rfl (e_tokenA v0 l hl hn i d (by omega) (by omega)  rfl rfl) (by simp) ?_
  (refine al_opR (op_alloc 4 info65 rfl rfl) rfl (by simp) ?_; rintro _ _ ⟨ver4, rfl, rfl⟩)
  refine al_op (op_store_ptr info65 rfl rfl rfl rfl rfl rfl (by first | rfl | exact live_one rfl | (repeat (first | exact all_live_nil | refine all_live_clo rfl ?_ | refine all_live_slice rfl ?_ | refine all_live_map rfl ?_ | refine all_live_ptr rfl ?_))) (Nat.le_of_ble_eq_true rfl)) rfl (by simp) ?_
  refine al_nil ?_
  refine aw_any (Checked.mixed Tryz.checked) ?_
  apply aany_seg (p := 0) (q := 9) (by kernel_rfl) rfl (by decide)
  ·
   apply ql_plain rfl (op_move rfl)
   apply ql_plain rfl (op_load_ptr Tryz.underlying65 info65 rfl rfl rfl rfl)
   apply ql_call into141 rfl rfl rfl (e_text (tokAt l i) htk _)
   apply ql_plain rfl (op_field_ptr Tryz.underlying65 rfl info3 (by decide) rfl rfl rfl)
   apply ql_plain rfl (op_load_ptr Tryz.underlying3 info3 rfl rfl rfl rfl)
   apply ql_plain rfl (op_field_ptr Tryz.underlying65 rfl info3 (by decide) rfl rfl rfl)
   apply ql_plain rfl (op_load_ptr Tryz.underlying3 info3 rfl rfl rfl rfl)
   apply ql_plain rfl (op_build_struct Tryz.underlying40 info40 rfl place40 rfl (by first | rfl | (repeat (first | exact parts_nil | refine parts_cons rfl (by repeat (first | exact all_live_nil | refine all_live_clo rfl ?_ | refine all_live_slice rfl ?_ | refine all_live_map rfl ?_ | refine all_live_ptr rfl ?_)) ?_))) rfl)
   apply ql_plain rfl (op_iface_agg (vals := [.int .i64 c, .string (str (textT (tokAt l i))), .int .i64 (tokAt l i).line, .int .i64 (tokAt l i).col]) (by kernel_rfl) rfl)
   exact ql_nil
  ·simp
  refine aany_panic (by kernel_rfl) rfl rfl ?_
  rw [fltAt_in _ (by omega)]; exact rdk_bad (g := ⟨c, textT (tokAt l i), (tokAt l i).line, (tokAt l i).col⟩) rfl rfl
theorem e_is (v0 : Nat) (l : List Tk) (hl : OKTs l) (hn : l.length ≤ 1000000000) (i d : Nat) (hd : d ≤ 40) (hi : i ≤ l.length) (ts : List Bs) (hts : ts.length ≤ 1000000) : AC Tryz.prog 90 [.ptr 0 v0 0 0, .list 1 (ts.map encBs)] (rd v0 l i d []) (fun r σ' => r = .ret (.v (.bool (isAt l ts i))) ∧ σ'.keep k0 = rd v0 l i d []) := by
 refine ac_enter 22 Tryz.func90 rfl rfl (by simp) ?_
 refine aw_seq ?_
 refine aw_region ?_
 refine al_op (op_assign rfl) rfl (by simp) ?_
 refine al_nil ?_
 refine aw_seq ?_
 refine aw_region ?_
 refine al_op (op_move rfl) rfl (by simp) ?_
 refine al_callp into91 rfl rfl rfl (e_tokenA v0 l hl hn i d (by omega) (by omega)  rfl rfl) (by simp) ?_
 (refine al_opR (op_alloc 5 info65 rfl rfl) rfl (by simp) ?_; rintro _ _ ⟨ver5, rfl, rfl⟩)
 refine al_op (op_store_ptr info65 rfl rfl rfl rfl rfl rfl (by first | rfl | exact live_one rfl | (repeat (first | exact all_live_nil | refine all_live_clo rfl ?_ | refine all_live_slice rfl ?_ | refine all_live_map rfl ?_ | refine all_live_ptr rfl ?_))) (Nat.le_of_ble_eq_true rfl)) rfl (by simp) ?_
 refine al_nil ?_
 refine aw_seq ?_
 refine aw_region ?_
 refine al_op (op_field_ptr Tryz.underlying65 rfl info63 (by decide) rfl rfl rfl) rfl (by simp) ?_
 refine al_op (op_load_ptr Tryz.underlying63 info63 rfl rfl rfl rfl) rfl (by simp) ?_
 refine al_op (op_eql rfl rfl) rfl (by simp) ?_
 refine al_op (op_move rfl) rfl (by simp) ?_
 apply al_or 4 11 15 rfl
 ·intro h1; have gh1 := h1
  try simp only [nrm] at h1
  refine al_take (op_field_ptr Tryz.underlying65 rfl info63 (by decide) rfl rfl rfl) rfl rfl rfl rfl (by simp) ?_
  refine al_take (op_load_ptr Tryz.underlying63 info63 rfl rfl rfl rfl) rfl rfl rfl rfl (by simp) ?_
  refine al_take (op_eql rfl rfl) rfl rfl rfl rfl (by simp) ?_
  refine al_op (op_pick rfl rfl) rfl (by simp) ?_
  refine al_nil ⟨rfl, rfl, rfl, keep_of ?_⟩
  repeat (first | exact subx_refl | exact subx_known rfl gh1 subx_refl | refine subx_put rfl ?_)
 ·intro h1; have gh1 := h1
  try simp only [nrm] at h1
  refine al_pass rfl rfl rfl rfl (by simp) ?_
  refine al_pass rfl rfl rfl rfl (by simp) ?_
  refine al_pass rfl rfl rfl rfl (by simp) ?_
  refine al_op (op_pick rfl rfl) rfl (by simp) ?_
  refine al_nil ⟨rfl, rfl, rfl, keep_of ?_⟩
  repeat (first | exact subx_refl | exact subx_known rfl gh1 subx_refl | refine subx_put rfl ?_)
 refine al_op (op_move rfl) rfl (by simp) ?_
 apply al_and 5 16 21 rfl
 ·intro h2; have gh2 := h2
  try simp only [nrm] at h2
  refine al_take (op_move rfl) rfl rfl rfl rfl (by simp) ?_
  refine al_take (op_field_ptr Tryz.underlying65 rfl info9 (by decide) rfl rfl rfl) rfl rfl rfl rfl (by simp) ?_
  refine al_take (op_load_ptr Tryz.underlying9 info9 rfl rfl rfl rfl) rfl rfl rfl rfl (by simp) ?_
  refine al_callp_take into61 rfl rfl rfl rfl rfl rfl ((q_member _ _ (by first | assumption | omega | (simp; done) | (simp; omega) | decide)) _) (by simp) ?_
  refine al_op (op_pick rfl rfl) rfl (by simp) ?_
  refine al_nil ⟨rfl, rfl, rfl, keep_of ?_⟩
  repeat (first | exact subx_refl | exact subx_known rfl gh2 subx_refl | refine subx_put rfl ?_)
 ·intro h2; have gh2 := h2
  try simp only [nrm] at h2
  refine al_pass rfl rfl rfl rfl (by simp) ?_
  refine al_pass rfl rfl rfl rfl (by simp) ?_
  refine al_pass rfl rfl rfl rfl (by simp) ?_
  refine al_pass rfl rfl rfl rfl (by simp) ?_
  refine al_op (op_pick rfl rfl) rfl (by simp) ?_
  refine al_nil ⟨rfl, rfl, rfl, keep_of ?_⟩
  repeat (first | exact subx_refl | exact subx_known rfl gh2 subx_refl | refine subx_put rfl ?_)
 refine al_op (op_assign rfl) rfl (by simp) ?_
 refine al_nil ?_
 refine aw_ret ?_
 refine ⟨_, res_1 rfl rfl, ?_⟩
 exact ⟨rfl, rfl⟩
theorem e_isA {σ : Store} (v0 : Nat) (l : List Tk) (hl : OKTs l) (hn : l.length ≤ 1000000000) (i d : Nat) (hd : d ≤ 40) (hi : i ≤ l.length) (ts : List Bs) (hts : ts.length ≤ 1000000)(h1 : σ.get 0 = some (v0, .row 7 [rdr l i d])) (hb : σ.below 1000 = true) : AC Tryz.prog 90 [.ptr 0 v0 0 0, .list 1 (ts.map encBs)] σ (fun r σ' => r = .ret (.v (.bool (isAt l ts i))) ∧ σ' = σ) :=
  rd_look rfl rfl (e_is v0 l hl hn i d hd hi ts hts) h1 hb
theorem e_take (v0 : Nat) (l : List Tk) (hl : OKTs l) (hn : l.length ≤ 1000000000) (i d : Nat) (hd : d ≤ 40) (hi : i ≤ l.length) (ts : List Bs) (hts : ts.length ≤ 1000000) : AC Tryz.prog 140 [.ptr 0 v0 0 0, .list 1 (ts.map encBs)] (rd v0 l i d []) (fun r σ' => RdK v0 l (d) (fun b => .v (.bool b)) (.ok (isAt l ts i) (if isAt l ts i = true then i + 1 else i)) r σ') := by
 refine ac_enter 16 Tryz.func140 rfl rfl (by simp) ?_
 refine aw_seq ?_
 refine aw_region ?_
 refine al_op (op_assign rfl) rfl (by simp) ?_
 refine al_nil ?_
 refine aw_seq ?_
 refine aw_seq ?_
 refine aw_region ?_
 refine al_op (op_move rfl) rfl (by simp) ?_
 refine al_op (op_move rfl) rfl (by simp) ?_
 refine al_callp into90 rfl rfl rfl (e_isA v0 l hl hn i d (by omega) (by omega) ts hts rfl rfl) (by simp) ?_
 refine al_op (op_not rfl) rfl (by simp) ?_
 refine al_nil ?_
 refine aw_cond rfl (fun h1 => ?_) (fun h1 => ?_)
 ·have gh1 := h1
  try simp only [nrm] at h1
  refine aw_seq ?_
  refine aw_region ?_
  refine al_op (op_assign rfl) rfl (by simp) ?_
  refine al_nil ?_
  refine aw_ret ?_
  refine ⟨_, res_1 rfl rfl, ?_⟩
  have g : isAt l ts i = false := by simpa using gh1
  rw [g]; exact rdk_ok false i rfl rfl
 ·have gh1 := h1
  try simp only [nrm] at h1
  refine aw_skip ?_
  refine aw_seq ?_
  refine aw_region ?_
  refine al_op (op_move rfl) rfl (by simp) ?_
  refine al_op (op_nilCheck_ptr rfl rfl) rfl (by simp) ?_
  refine al_op (op_field_ptr Tryz.underlying105 rfl info3 (by decide) rfl rfl rfl) rfl (by simp) ?_
  refine al_op (op_load_ptr Tryz.underlying3 info3 rfl rfl rfl rfl) rfl (by simp) ?_
  refine al_op (op_add rfl rfl (by first | exact wrap_i64 (by omega) (by omega))) rfl (by simp) ?_
  refine al_op (op_nilCheck_ptr rfl rfl) rfl (by simp) ?_
  refine al_op (op_field_ptr Tryz.underlying105 rfl info3 (by decide) rfl rfl rfl) rfl (by simp) ?_
  refine al_op (op_store_ptr info3 rfl rfl rfl rfl rfl rfl (by first | rfl | exact live_one rfl | (repeat (first | exact all_live_nil | refine all_live_clo rfl ?_ | refine all_live_slice rfl ?_ | refine all_live_map rfl ?_ | refine all_live_ptr rfl ?_))) (Nat.le_of_ble_eq_true rfl)) rfl (by simp) ?_
  refine al_nil ?_
  refine aw_seq ?_
  refine aw_region ?_
  refine al_op (op_assign rfl) rfl (by simp) ?_
  refine al_nil ?_
  refine aw_ret ?_
  refine ⟨_, res_1 rfl rfl, ?_⟩
  have g : isAt l ts i = true := by simpa using gh1
  rw [g]; exact rdk_ok true (i + 1) rfl rfl
theorem e_want (v0 : Nat) (l : List Tk) (hl : OKTs l) (hn : l.length ≤ 1000000000) (i d : Nat) (hd : d ≤ 40) (hi : i ≤ l.length) (s : Bs) : AC Tryz.prog 95 [.ptr 0 v0 0 0, .v (.string (str (s)))] (rd v0 l i d []) (fun r σ' => RdK v0 l (d) encUnit (wantP l s i) r σ') := by
 refine ac_enter 11 Tryz.func95 rfl rfl (by simp) ?_
 refine aw_seq ?_
 refine aw_region ?_
 refine al_op (op_move rfl) rfl (by simp) ?_
 refine al_op (op_move rfl) rfl (by simp) ?_
 refine al_op (op_list encBs [s] Tryz.underlying32 info9 rfl rfl (by decide) rfl (by decide) rfl (by first | rfl | (repeat (first | exact parts_nil | refine parts_cons rfl (by repeat (first | exact all_live_nil | refine all_live_clo rfl ?_ | refine all_live_slice rfl ?_ | refine all_live_map rfl ?_ | refine all_live_ptr rfl ?_)) ?_))) rfl rfl rfl rfl) rfl (by simp) ?_
 refine al_call into140 rfl rfl rfl (rd_lift rfl (fun _ => rfl) (e_take v0 l hl hn i d hd hi [s] (by simp)) _ (by rfl)) (by simp) ?_; rintro _ _ (⟨g7, i7, d7, hx7, rfl, rfl⟩ | ⟨a7, j7, hx7, rfl, rfl⟩)
 ·cases hx7
 cases hx7
 refine al_op (op_not rfl) rfl (by simp) ?_
 refine al_nil ?_
 refine aw_cond rfl (fun h1 => ?_) (fun h1 => ?_)
 ·have gh1 := h1
  try simp only [nrm] at h1
  refine aw_region ?_
  refine al_op (op_move rfl) rfl (by simp) ?_
  have g : isAt l [s] i = false := by simpa using gh1
  rw [if_neg (by rw [g]; exact Bool.false_ne_true)]
  refine al_call into96 rfl rfl rfl (rd_lift rfl (fun _ => rfl) (e_fail v0 l hl hn i d hd hi 11) _ (by rfl)) (by simp) ?_; rintro _ _ (⟨g10, i10, d10, ⟨⟩, rfl, rfl⟩ | ⟨_, _, ⟨⟩, _⟩)
  exact rdk_bad (by rw [wantP, g]; rfl) rfl
 ·have gh1 := h1
  try simp only [nrm] at h1
  refine aw_skip ?_
  refine ⟨_, res_0 rfl, ?_⟩
  have g : isAt l [s] i = true := by simpa using gh1
  exact rdk_ok () (i + 1) (want_yes g) (by rw [g]; rfl)
theorem e_kind (v0 : Nat) (l : List Tk) (hl : OKTs l) (hn : l.length ≤ 1000000000) (i d : Nat) (hd : d ≤ 40) (hi : i ≤ l.length) (k : Int) (hk : k ≠ 0) : AC Tryz.prog 81 [.ptr 0 v0 0 0, .v (.int .i64 (k))] (rd v0 l i d []) (fun r σ' => RdK v0 l (d) (fun t => .agg (encK t)) (kindP l k i) r σ') := by
 refine ac_enter 22 Tryz.func81 rfl rfl (by simp) ?_
 refine aw_seq ?_
 refine aw_region ?_
 (refine al_opR (op_alloc 4 info65 rfl rfl) rfl (by simp) ?_; rintro _ _ ⟨ver4, rfl, rfl⟩)
 refine al_nil ?_
 refine aw_seq ?_
 refine aw_region ?_
 refine al_op (op_move rfl) rfl (by simp) ?_
 refine al_callp into91 rfl rfl rfl (e_tokenA v0 l hl hn i d (by omega) (by omega)  rfl rfl) (by simp) ?_
 (refine al_opR (op_alloc 5 info65 rfl rfl) rfl (by simp) ?_; rintro _ _ ⟨ver5, rfl, rfl⟩)
 refine al_op (op_store_ptr info65 rfl rfl rfl rfl rfl rfl (by first | rfl | exact live_one rfl | (repeat (first | exact all_live_nil | refine all_live_clo rfl ?_ | refine all_live_slice rfl ?_ | refine all_live_map rfl ?_ | refine all_live_ptr rfl ?_))) (Nat.le_of_ble_eq_true rfl)) rfl (by simp) ?_
 refine al_nil ?_
 refine aw_seq ?_
 refine aw_seq ?_
 refine aw_region ?_
 refine al_op (op_field_ptr Tryz.underlying65 rfl info63 (by decide) rfl rfl rfl) rfl (by simp) ?_
 refine al_op (op_load_ptr Tryz.underlying63 info63 rfl rfl rfl rfl) rfl (by simp) ?_
 refine al_op (op_move rfl) rfl (by simp) ?_
 refine al_op (op_neq rfl rfl) rfl (by simp) ?_
 refine al_nil ?_
 refine aw_cond rfl (fun h1 => ?_) (fun h1 => ?_)
 ·have gh1 := h1
  try simp only [nrm] at h1
  refine aw_region ?_
  refine al_op (op_move rfl) rfl (by simp) ?_
  refine al_call into96 rfl rfl rfl (rd_lift rfl (fun _ => rfl) (e_fail v0 l hl hn (i) (d) (by omega) (by omega) 11) _ (by rfl)) (by simp) ?_; rintro _ _ (⟨g13, i13, d13, ⟨⟩, rfl, rfl⟩ | ⟨_, _, ⟨⟩, _⟩)
  have g : ((tokAt l i).op == k) = false := by simpa using gh1
  exact rdk_bad (by rw [kindP, g]; rfl) rfl
 ·have gh1 := h1
  try simp only [nrm] at h1
  refine aw_skip ?_
  refine aw_seq ?_
  have g : ((tokAt l i).op == k) = true := by simpa using gh1
  have hlt := op_lt (l := l) (i := i) (k := k) (by simpa using g) hk
  refine aw_region ?_
  refine al_op (op_move rfl) rfl (by simp) ?_
  refine al_op (op_nilCheck_ptr rfl rfl) rfl (by simp) ?_
  refine al_op (op_field_ptr Tryz.underlying105 rfl info3 (by decide) rfl rfl rfl) rfl (by simp) ?_
  refine al_op (op_load_ptr Tryz.underlying3 info3 rfl rfl rfl rfl) rfl (by simp) ?_
  refine al_op (op_add rfl rfl (by first | exact wrap_i64 (by omega) (by omega))) rfl (by simp) ?_
  refine al_op (op_nilCheck_ptr rfl rfl) rfl (by simp) ?_
  refine al_op (op_field_ptr Tryz.underlying105 rfl info3 (by decide) rfl rfl rfl) rfl (by simp) ?_
  refine al_op (op_store_ptr info3 rfl rfl rfl rfl rfl rfl (by first | rfl | exact live_one rfl | (repeat (first | exact all_live_nil | refine all_live_clo rfl ?_ | refine all_live_slice rfl ?_ | refine all_live_map rfl ?_ | refine all_live_ptr rfl ?_))) (Nat.le_of_ble_eq_true rfl)) rfl (by simp) ?_
  refine al_nil ?_
  refine aw_seq ?_
  refine aw_region ?_
  refine al_op (op_load_ptr Tryz.underlying65 info65 rfl rfl rfl rfl) rfl (by simp) ?_
  refine al_op (op_store_ptr info65 rfl rfl rfl rfl rfl rfl (by first | rfl | exact live_one rfl | (repeat (first | exact all_live_nil | refine all_live_clo rfl ?_ | refine all_live_slice rfl ?_ | refine all_live_map rfl ?_ | refine all_live_ptr rfl ?_))) (Nat.le_of_ble_eq_true rfl)) rfl (by simp) ?_
  refine al_nil ?_
  refine aw_ret ?_
  refine ⟨_, res_cell rfl Tryz.underlying65 info65 rfl rfl rfl rfl, ?_⟩
  exact rdk_ok (tokAt l i) (i + 1) (by rw [kindP, g]; rfl) rfl
theorem e_name (v0 : Nat) (l : List Tk) (hl : OKTs l) (hn : l.length ≤ 1000000000) (i d : Nat) (hd : d ≤ 40) (hi : i ≤ l.length)  : AC Tryz.prog 94 [.ptr 0 v0 0 0] (rd v0 l i d []) (fun r σ' => RdK v0 l (d) (fun t => .v (.string (str t.text))) (kindP l 1 i) r σ') := by
 refine ac_enter 6 Tryz.func94 rfl rfl (by simp) ?_
 refine aw_seq ?_
 refine aw_region ?_
 refine al_op (op_assign rfl) rfl (by simp) ?_
 refine al_nil ?_
 refine aw_seq ?_
 refine aw_region ?_
 refine al_op (op_move rfl) rfl (by simp) ?_
 refine al_call into81 rfl rfl rfl (rd_lift rfl (fun _ => rfl) (e_kind v0 l hl hn i d hd hi 1 (by decide)) _ (by rfl)) (by simp) ?_; rintro _ _ (⟨g4, i4, d4, hx4, rfl, rfl⟩ | ⟨a4, j4, hx4, rfl, rfl⟩)
 ·exact rdk_bad (hx4) rfl
 refine al_op (op_field Tryz.underlying65 rfl Tryz.underlying9 info9 rfl rfl rfl) rfl (by simp) ?_
 refine al_op (op_assign rfl) rfl (by simp) ?_
 refine al_nil ?_
 refine aw_ret ?_
 refine ⟨_, res_1 rfl rfl, ?_⟩
 exact rdk_ok a4 j4 hx4 rfl
theorem e_here (v0 : Nat) (l : List Tk) (hl : OKTs l) (hn : l.length ≤ 1000000000) (i d : Nat) (hd : d ≤ 40) (hi : i ≤ l.length)  : AC Tryz.prog 89 [.ptr 0 v0 0 0] (rd v0 l i d []) (fun r σ' => r = .ret (.tuple [.v (.int .i64 ((tokAt l i).line)), .v (.int .i64 ((tokAt l i).col))]) ∧ σ'.keep k0 = rd v0 l i d []) := by
 refine ac_enter 11 Tryz.func89 rfl rfl (by simp) ?_
 refine aw_seq ?_
 refine aw_region ?_
 refine al_op (op_assign rfl) rfl (by simp) ?_
 refine al_op (op_assign rfl) rfl (by simp) ?_
 refine al_nil ?_
 refine aw_seq ?_
 refine aw_region ?_
 refine al_op (op_move rfl) rfl (by simp) ?_
 refine al_callp into91 rfl rfl rfl (e_tokenA v0 l hl hn i d (by omega) (by omega)  rfl rfl) (by simp) ?_
 (refine al_opR (op_alloc 4 info65 rfl rfl) rfl (by simp) ?_; rintro _ _ ⟨ver4, rfl, rfl⟩)
 refine al_op (op_store_ptr info65 rfl rfl rfl rfl rfl rfl (by first | rfl | exact live_one rfl | (repeat (first | exact all_live_nil | refine all_live_clo rfl ?_ | refine all_live_slice rfl ?_ | refine all_live_map rfl ?_ | refine all_live_ptr rfl ?_))) (Nat.le_of_ble_eq_true rfl)) rfl (by simp) ?_
 refine al_nil ?_
 refine aw_seq ?_
 refine aw_any (Checked.mixed Tryz.checked) ?_
 apply aany_seg (p := 0) (q := 6) (by kernel_rfl) rfl (by decide)
 ·
  apply ql_plain rfl (op_field_ptr Tryz.underlying65 rfl info3 (by decide) rfl rfl rfl)
  apply ql_plain rfl (op_load_ptr Tryz.underlying3 info3 rfl rfl rfl rfl)
  apply ql_plain rfl (op_field_ptr Tryz.underlying65 rfl info3 (by decide) rfl rfl rfl)
  apply ql_plain rfl (op_load_ptr Tryz.underlying3 info3 rfl rfl rfl rfl)
  apply ql_plain rfl (op_assign rfl)
  apply ql_plain rfl (op_assign rfl)
  exact ql_nil
 ·simp
 refine aany_end rfl (by kernel_rfl) ?_
 refine aw_ret ?_
 refine ⟨_, res_2 rfl rfl rfl rfl rfl, ?_⟩
 exact ⟨rfl, rfl⟩
theorem e_hereA {σ : Store} (v0 : Nat) (l : List Tk) (hl : OKTs l) (hn : l.length ≤ 1000000000) (i d : Nat) (hd : d ≤ 40) (hi : i ≤ l.length) (h1 : σ.get 0 = some (v0, .row 7 [rdr l i d])) (hb : σ.below 1000 = true) : AC Tryz.prog 89 [.ptr 0 v0 0 0] σ (fun r σ' => r = .ret (.tuple [.v (.int .i64 ((tokAt l i).line)), .v (.int .i64 ((tokAt l i).col))]) ∧ σ' = σ) :=
  rd_look rfl rfl (e_here v0 l hl hn i d hd hi ) h1 hb
theorem e_into (v0 : Nat) (l : List Tk) (hl : OKTs l) (hn : l.length ≤ 1000000000) (i d : Nat) (hd : d ≤ 40) (hi : i ≤ l.length)  : AC Tryz.prog 139 [.ptr 0 v0 0 0] (rd v0 l i d []) (fun r σ' => RdK v0 l (d - 1) encUnit (intoP l d i) r σ') := by
 refine ac_enter 23 Tryz.func139 rfl rfl (by simp) ?_
 refine aw_seq ?_
 refine aw_seq ?_
 refine aw_region ?_
 refine al_op (op_move rfl) rfl (by simp) ?_
 refine al_op (op_nilCheck_ptr rfl rfl) rfl (by simp) ?_
 refine al_op (op_field_ptr Tryz.underlying105 rfl info3 (by decide) rfl rfl rfl) rfl (by simp) ?_
 refine al_op (op_load_ptr Tryz.underlying3 info3 rfl rfl rfl rfl) rfl (by simp) ?_
 refine al_op (op_eql rfl rfl) rfl (by simp) ?_
 refine al_nil ?_
 refine aw_cond rfl (fun h1 => ?_) (fun h1 => ?_)
 ·have gh1 := h1
  try simp only [nrm] at h1
  refine aw_region ?_
  refine al_op (op_move rfl) rfl (by simp) ?_
  refine al_call into96 rfl rfl rfl (rd_lift rfl (fun _ => rfl) (e_fail v0 l hl hn (i) (d) (by omega) (by omega) 23) _ (by rfl)) (by simp) ?_; rintro _ _ (⟨g8, i8, d8, ⟨⟩, rfl, rfl⟩ | ⟨_, _, ⟨⟩, _⟩)
  exact rdk_bad (by rw [intoP, if_pos (by omega)]) rfl
 ·have gh1 := h1
  try simp only [nrm] at h1
  refine aw_skip ?_
  refine aw_seq ?_
  refine aw_region ?_
  refine al_op (op_move rfl) rfl (by simp) ?_
  refine al_op (op_nilCheck_ptr rfl rfl) rfl (by simp) ?_
  refine al_op (op_field_ptr Tryz.underlying105 rfl info3 (by decide) rfl rfl rfl) rfl (by simp) ?_
  refine al_op (op_load_ptr Tryz.underlying3 info3 rfl rfl rfl rfl) rfl (by simp) ?_
  refine al_op (op_add rfl rfl (by first | exact wrap_i64 (by omega) (by omega))) rfl (by simp) ?_
  refine al_op (op_nilCheck_ptr rfl rfl) rfl (by simp) ?_
  refine al_op (op_field_ptr Tryz.underlying105 rfl info3 (by decide) rfl rfl rfl) rfl (by simp) ?_
  refine al_op (op_store_ptr info3 rfl rfl rfl rfl rfl rfl (by first | rfl | exact live_one rfl | (repeat (first | exact all_live_nil | refine all_live_clo rfl ?_ | refine all_live_slice rfl ?_ | refine all_live_map rfl ?_ | refine all_live_ptr rfl ?_))) (Nat.le_of_ble_eq_true rfl)) rfl (by simp) ?_
  refine al_nil ?_
  refine aw_region ?_
  refine al_op (op_move rfl) rfl (by simp) ?_
  refine al_op (op_nilCheck_ptr rfl rfl) rfl (by simp) ?_
  refine al_op (op_field_ptr Tryz.underlying105 rfl info3 (by decide) rfl rfl rfl) rfl (by simp) ?_
  refine al_op (op_load_ptr Tryz.underlying3 info3 rfl rfl rfl rfl) rfl (by simp) ?_
  refine al_op (op_add rfl rfl (by first | exact wrap_i64 (by omega) (by omega))) rfl (by simp) ?_
  refine al_op (op_nilCheck_ptr rfl rfl) rfl (by simp) ?_
  refine al_op (op_field_ptr Tryz.underlying105 rfl info3 (by decide) rfl rfl rfl) rfl (by simp) ?_
  refine al_op (op_store_ptr info3 rfl rfl rfl rfl rfl rfl (by first | rfl | exact live_one rfl | (repeat (first | exact all_live_nil | refine all_live_clo rfl ?_ | refine all_live_slice rfl ?_ | refine all_live_map rfl ?_ | refine all_live_ptr rfl ?_))) (Nat.le_of_ble_eq_true rfl)) rfl (by simp) ?_
  refine al_nil ?_
  refine ⟨_, res_0 rfl, ?_⟩
  have h0 : d ≠ 0 := by omega
  rw [rd_deep h0]; exact rdk_ok () (i + 1) (by rw [intoP, if_neg h0]) rfl
theorem e_open (v0 : Nat) (l : List Tk) (hl : OKTs l) (hn : l.length ≤ 1000000000) (i d : Nat) (hd : d ≤ 40) (hi : i ≤ l.length)  : AC Tryz.prog 92 [.ptr 0 v0 0 0] (rd v0 l i d []) (fun r σ' => RdK v0 l (d - 1) encUnit (openP l d i) r σ') := by
 refine ac_enter 10 Tryz.func92 rfl rfl (by simp) ?_
 refine aw_seq ?_
 refine aw_seq ?_
 refine aw_region ?_
 refine al_op (op_move rfl) rfl (by simp) ?_
 refine al_op (op_list encBs [sOpen] Tryz.underlying32 info9 rfl rfl (by decide) rfl (by decide) rfl (by first | rfl | (repeat (first | exact parts_nil | refine parts_cons rfl (by repeat (first | exact all_live_nil | refine all_live_clo rfl ?_ | refine all_live_slice rfl ?_ | refine all_live_map rfl ?_ | refine all_live_ptr rfl ?_)) ?_))) rfl rfl rfl rfl) rfl (by simp) ?_
 refine al_callp into90 rfl rfl rfl (e_isA v0 l hl hn i d (by omega) (by omega) [sOpen] (by decide) rfl rfl) (by simp) ?_
 refine al_op (op_not rfl) rfl (by simp) ?_
 refine al_nil ?_
 refine aw_cond rfl (fun h1 => ?_) (fun h1 => ?_)
 ·have gh1 := h1
  try simp only [nrm] at h1
  refine aw_region ?_
  refine al_op (op_move rfl) rfl (by simp) ?_
  refine al_call into96 rfl rfl rfl (rd_lift rfl (fun _ => rfl) (e_fail v0 l hl hn (i) (d) (by omega) (by omega) 11) _ (by rfl)) (by simp) ?_; rintro _ _ (⟨g7, i7, d7, ⟨⟩, rfl, rfl⟩ | ⟨_, _, ⟨⟩, _⟩)
  have g : isAt l [sOpen] i = false := by simpa using gh1
  exact rdk_bad (by rw [openP, g]; rfl) rfl
 ·have gh1 := h1
  try simp only [nrm] at h1
  refine aw_skip ?_
  refine aw_region ?_
  refine al_op (op_move rfl) rfl (by simp) ?_
  have g : isAt l [sOpen] i = true := by simpa using gh1
  refine al_call into139 rfl rfl rfl (rd_lift rfl (fun _ => rfl) (e_into v0 l hl hn i d hd hi) _ (by rfl)) (by simp) ?_; rintro _ _ (⟨g9, i9, d9, hx9, rfl, rfl⟩ | ⟨a9, j9, hx9, rfl, rfl⟩)
  ·exact rdk_bad (by rw [openP, g]; exact hx9) rfl
  refine al_nil ?_
  refine ⟨_, res_0 rfl, ?_⟩
  exact rdk_ok a9 j9 (by rw [openP, g]; exact hx9) rfl
theorem e_shut (v0 : Nat) (l : List Tk) (hl : OKTs l) (hn : l.length ≤ 1000000000) (i d : Nat) (hd : d ≤ 40) (hi : i ≤ l.length) (d' : Nat) (hdd : d' = d + 1) : AC Tryz.prog 93 [.ptr 0 v0 0 0] (rd v0 l i d []) (fun r σ' => RdK v0 l (d') encUnit (wantP l sShut i) r σ') := by
 refine ac_enter 11 Tryz.func93 rfl rfl (by simp) ?_
 refine aw_seq ?_
 refine aw_region ?_
 refine al_op (op_move rfl) rfl (by simp) ?_
 refine al_call into95 rfl rfl rfl (rd_lift rfl (fun _ => rfl) (e_want v0 l hl hn i d hd hi sShut) _ (by rfl)) (by simp) ?_; rintro _ _ (⟨g3, i3, d3, hx3, rfl, rfl⟩ | ⟨a3, j3, hx3, rfl, rfl⟩)
 ·exact rdk_bad (hx3) rfl
 refine al_nil ?_
 refine aw_region ?_
 refine al_op (op_move rfl) rfl (by simp) ?_
 refine al_op (op_nilCheck_ptr rfl rfl) rfl (by simp) ?_
 refine al_op (op_field_ptr Tryz.underlying105 rfl info3 (by decide) rfl rfl rfl) rfl (by simp) ?_
 refine al_op (op_load_ptr Tryz.underlying3 info3 rfl rfl rfl rfl) rfl (by simp) ?_
 refine al_op (op_sub rfl rfl (by first | exact wrap_i64 (by omega) (by omega))) rfl (by simp) ?_
 refine al_op (op_nilCheck_ptr rfl rfl) rfl (by simp) ?_
 refine al_op (op_field_ptr Tryz.underlying105 rfl info3 (by decide) rfl rfl rfl) rfl (by simp) ?_
 refine al_op (op_store_ptr info3 rfl rfl rfl rfl rfl rfl (by first | rfl | exact live_one rfl | (repeat (first | exact all_live_nil | refine all_live_clo rfl ?_ | refine all_live_slice rfl ?_ | refine all_live_map rfl ?_ | refine all_live_ptr rfl ?_))) (Nat.le_of_ble_eq_true rfl)) rfl (by simp) ?_
 refine al_nil ?_
 refine ⟨_, res_0 rfl, ?_⟩
 have e : (40 - (d : Int) - 1) = 40 - (d' : Int) := by omega
 rw [e]; exact rdk_ok a3 j3 hx3 rfl
theorem e_level (k : Nat) (hk : k < 4) : ACp Tryz.prog 131 [.v (.int .i64 ((k : Nat) : Int))] (.list 1 ((levelL k).map encBs)) := by
 refine acp_of rfl ?_
 refine ac_enter 11 Tryz.func131 rfl rfl (by simp) ?_
 refine aw_seq ?_
 refine aw_region ?_
 refine al_op (op_assign rfl) rfl (by simp) ?_
 refine al_nil ?_
 refine aw_seq ?_
 refine aw_region ?_
 refine al_op (op_list encBs (levelL 0) Tryz.underlying32 info9 rfl rfl (by decide) rfl (by decide) rfl (by first | rfl | (repeat (first | exact parts_nil | refine parts_cons rfl (by repeat (first | exact all_live_nil | refine all_live_clo rfl ?_ | refine all_live_slice rfl ?_ | refine all_live_map rfl ?_ | refine all_live_ptr rfl ?_)) ?_))) rfl rfl rfl rfl) rfl (by simp) ?_
 refine al_op (op_list encBs (levelL 1) Tryz.underlying32 info9 rfl rfl (by decide) rfl (by decide) rfl (by first | rfl | (repeat (first | exact parts_nil | refine parts_cons rfl (by repeat (first | exact all_live_nil | refine all_live_clo rfl ?_ | refine all_live_slice rfl ?_ | refine all_live_map rfl ?_ | refine all_live_ptr rfl ?_)) ?_))) rfl rfl rfl rfl) rfl (by simp) ?_
 refine al_op (op_list encBs (levelL 2) Tryz.underlying32 info9 rfl rfl (by decide) rfl (by decide) rfl (by first | rfl | (repeat (first | exact parts_nil | refine parts_cons rfl (by repeat (first | exact all_live_nil | refine all_live_clo rfl ?_ | refine all_live_slice rfl ?_ | refine all_live_map rfl ?_ | refine all_live_ptr rfl ?_)) ?_))) rfl rfl rfl rfl) rfl (by simp) ?_
 refine al_op (op_list encBs (levelL 3) Tryz.underlying32 info9 rfl rfl (by decide) rfl (by decide) rfl (by first | rfl | (repeat (first | exact parts_nil | refine parts_cons rfl (by repeat (first | exact all_live_nil | refine all_live_clo rfl ?_ | refine all_live_slice rfl ?_ | refine all_live_map rfl ?_ | refine all_live_ptr rfl ?_)) ?_))) rfl rfl rfl rfl) rfl (by simp) ?_
 refine al_op (op_list encSL levelsL Tryz.underlying177 info32 rfl rfl (by decide) rfl (by decide) rfl (by first | rfl | (repeat (first | exact parts_nil | refine parts_cons rfl (by repeat (first | exact all_live_nil | refine all_live_clo rfl ?_ | refine all_live_slice rfl ?_ | refine all_live_map rfl ?_ | refine all_live_ptr rfl ?_)) ?_))) rfl rfl rfl rfl) rfl (by simp) ?_
 refine al_op (op_move rfl) rfl (by simp) ?_
 refine al_op (op_index_map default Tryz.underlying177 info32 rfl rfl rfl (by first | (with_reducible exact Int.toNat_natCast _) | rfl) (by omega) (by show _ < 4; omega)) rfl (by simp) ?_
 refine al_op (op_load_rptr Tryz.underlying32 info32 rfl rfl) rfl (by simp) ?_
 refine al_op (op_assign rfl) rfl (by simp) ?_
 refine al_nil ?_
 refine aw_freeze (fun _ => false) (fsub_cons (t := 2) rfl (by first | exact .leaf _ _ (frz_whole rfl rfl (by first | rfl | (simp; done) | (simp; omega)) (clo_map (fun _ => rfl))) | exact .leaf _ _ (.vnil 1) | exact .leaf _ _ (.nil 1) | exact .leaf _ _ (.same _)) fsub_nil) ?_
 refine aw_ret ?_
 refine ⟨_, res_1 rfl rfl, ?_, rfl⟩
 rfl
end Go.Proofs.YtcgdlhkiecommaaGreatDoor
