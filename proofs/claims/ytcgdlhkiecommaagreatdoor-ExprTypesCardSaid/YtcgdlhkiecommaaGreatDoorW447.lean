import Derived.Test.YtcgdlhkiecommaaGreatDoorW427
import Derived.Test.YtcgdlhkiecommaaGreatDoorXRef3
import Derived.Test.YtcgdlhkiecommaaGreatDoorFacts
import Derived.Test.YtcgdlhkiecommaaGreatDoorEngNest

import Derived.Test.YtcgdlhkiecommaaGreatDoorXBld

import Derived.Test.YtcgdlhkiecommaaGreatDoorXTyp



/- Printed walks (gen.py, lexer_ann.py): part 430. -/




set_option linter.unusedVariables false
set_option linter.unusedSimpArgs false
set_option maxRecDepth 20000
set_option maxHeartbeats 40000000
namespace Go.Proofs.YtcgdlhkiecommaaGreatDoor
open Go
theorem r_strength (s : Bs) : ACp Tryz.prog 136 [.v (.string (str (s)))] (.v (.int .i64 (strR s))) := by
 refine acp_of rfl ?_
 refine ace 28 Tryz.func136 ?_
 refine aw_sr ?_
 refine al_gs ?_
 refine al_nil ?_
 refine aw_seq ?_
 refine aw_sr ?_
 refine al_mv ?_
 refine al_nil ?_
 refine aw_block ?_
 refine aw_seq ?_
 refine aw_sr ?_
 refine al_o (op_seql_str rfl rfl) ?_
 refine al_gs ?_
 refine al_nil ?_
 refine aw_cond rfl (fun h1 => ?_) (fun h1 => ?_)
 ·have gh1 := h1
  simp only [nrm] at h1
  refine aw_skip ?_
  refine aw_cond rfl (fun h2 => ?_) (fun h2 => ?_)
  ·have gh2 := h2
   simp only [nrm] at h2
   refine aw_sr ?_
   refine al_gs ?_
   refine al_nil ?_
   refine fz1 (t := 2) ?_
   refine aw_ret ?_
   refine ⟨_, res_1 rfl rfl, ?_, rfl⟩
   rw [strR_eq]; simp only [gh1, Bool.false_or, Bool.true_or, Bool.or_true, Bool.or_false, Bool.false_eq_true, if_true, if_false, reduceIte]
  have gh2 := h2
  simp only [nrm] at h2
  exact absurd (gh1.symm.trans gh2) (by decide)
 have gh1 := h1
 simp only [nrm] at h1
 refine aw_sr ?_
 refine al_o (op_seql_str rfl rfl) ?_
 refine al_gs ?_
 refine al_nil ?_
 refine aw_cond rfl (fun h3 => ?_) (fun h3 => ?_)
 ·have gh3 := h3
  simp only [nrm] at h3
  refine aw_skip ?_
  refine aw_cond rfl (fun h4 => ?_) (fun h4 => ?_)
  ·have gh4 := h4
   simp only [nrm] at h4
   refine aw_sr ?_
   refine al_gs ?_
   refine al_nil ?_
   refine fz1 (t := 2) ?_
   refine aw_ret ?_
   refine ⟨_, res_1 rfl rfl, ?_, rfl⟩
   rw [strR_eq]; simp only [gh1, gh3, Bool.false_or, Bool.true_or, Bool.or_true, Bool.or_false, Bool.false_eq_true, if_true, if_false, reduceIte]
  have gh4 := h4
  simp only [nrm] at h4
  exact absurd (gh3.symm.trans gh4) (by decide)
 have gh3 := h3
 simp only [nrm] at h3
 refine aw_sr ?_
 refine al_o (op_seql_str rfl rfl) ?_
 refine al_gs ?_
 refine al_nil ?_
 refine aw_cond rfl (fun h5 => ?_) (fun h5 => ?_)
 ·have gh5 := h5
  simp only [nrm] at h5
  refine aw_skip ?_
  refine aw_cond rfl (fun h6 => ?_) (fun h6 => ?_)
  ·have gh6 := h6
   simp only [nrm] at h6
   refine aw_sr ?_
   refine al_gs ?_
   refine al_nil ?_
   refine fz1 (t := 2) ?_
   refine aw_ret ?_
   refine ⟨_, res_1 rfl rfl, ?_, rfl⟩
   rw [strR_eq]; simp only [gh1, gh3, gh5, Bool.false_or, Bool.true_or, Bool.or_true, Bool.or_false, Bool.false_eq_true, if_true, if_false, reduceIte]
  have gh6 := h6
  simp only [nrm] at h6
  exact absurd (gh5.symm.trans gh6) (by decide)
 have gh5 := h5
 simp only [nrm] at h5
 refine aw_sr ?_
 refine al_o (op_seql_str rfl rfl) ?_
 refine al_gs ?_
 refine al_nil ?_
 refine aw_cond rfl (fun h7 => ?_) (fun h7 => ?_)
 ·have gh7 := h7
  simp only [nrm] at h7
  refine aw_skip ?_
  refine aw_cond rfl (fun h8 => ?_) (fun h8 => ?_)
  ·have gh8 := h8
   simp only [nrm] at h8
   refine aw_sr ?_
   refine al_gs ?_
   refine al_nil ?_
   refine fz1 (t := 2) ?_
   refine aw_ret ?_
   refine ⟨_, res_1 rfl rfl, ?_, rfl⟩
   rw [strR_eq]; simp only [gh1, gh3, gh5, gh7, Bool.false_or, Bool.true_or, Bool.or_true, Bool.or_false, Bool.false_eq_true, if_true, if_false, reduceIte]
  have gh8 := h8
  simp only [nrm] at h8
  exact absurd (gh7.symm.trans gh8) (by decide)
 have gh7 := h7
 simp only [nrm] at h7
 refine aw_sr ?_
 refine al_o (op_seql_str rfl rfl) ?_
 refine al_gs ?_
 refine al_nil ?_
 refine aw_cond rfl (fun h9 => ?_) (fun h9 => ?_)
 ·have gh9 := h9
  simp only [nrm] at h9
  refine aw_skip ?_
  refine aw_cond rfl (fun h10 => ?_) (fun h10 => ?_)
  ·have gh10 := h10
   simp only [nrm] at h10
   refine aw_sr ?_
   refine al_gs ?_
   refine al_nil ?_
   refine fz1 (t := 2) ?_
   refine aw_ret ?_
   refine ⟨_, res_1 rfl rfl, ?_, rfl⟩
   rw [strR_eq]; simp only [gh1, gh3, gh5, gh7, gh9, Bool.false_or, Bool.true_or, Bool.or_true, Bool.or_false, Bool.false_eq_true, if_true, if_false, reduceIte]
  have gh10 := h10
  simp only [nrm] at h10
  exact absurd (gh9.symm.trans gh10) (by decide)
 have gh9 := h9
 simp only [nrm] at h9
 refine aw_region ?_
 refine al_o (op_seql_str rfl rfl) ?_
 refine al_gs ?_
 refine al_nil ?_
 refine aw_cond rfl (fun h11 => ?_) (fun h11 => ?_)
 ·have gh11 := h11
  simp only [nrm] at h11
  refine aw_sr ?_
  refine al_gs ?_
  refine al_nil ?_
  refine fz1 (t := 2) ?_
  refine aw_ret ?_
  refine ⟨_, res_1 rfl rfl, ?_, rfl⟩
  rw [strR_eq]; simp only [gh1, gh3, gh5, gh7, gh9, gh11, Bool.false_or, Bool.true_or, Bool.or_true, Bool.or_false, Bool.false_eq_true, if_true, if_false, reduceIte]
 have gh11 := h11
 simp only [nrm] at h11
 refine aw_seq ?_
 refine aw_sr ?_
 refine al_o (op_seql_str rfl rfl) ?_
 refine al_gs ?_
 refine al_nil ?_
 refine aw_cond rfl (fun h12 => ?_) (fun h12 => ?_)
 ·have gh12 := h12
  simp only [nrm] at h12
  refine aw_skip ?_
  refine aw_cond rfl (fun h13 => ?_) (fun h13 => ?_)
  ·have gh13 := h13
   simp only [nrm] at h13
   refine aw_sr ?_
   refine al_gs ?_
   refine al_nil ?_
   refine fz1 (t := 2) ?_
   refine aw_ret ?_
   refine ⟨_, res_1 rfl rfl, ?_, rfl⟩
   rw [strR_eq]; simp only [gh1, gh3, gh5, gh7, gh9, gh11, gh12, Bool.false_or, Bool.true_or, Bool.or_true, Bool.or_false, Bool.false_eq_true, if_true, if_false, reduceIte]
  have gh13 := h13
  simp only [nrm] at h13
  exact absurd (gh12.symm.trans gh13) (by decide)
 have gh12 := h12
 simp only [nrm] at h12
 refine aw_sr ?_
 refine al_o (op_seql_str rfl rfl) ?_
 refine al_gs ?_
 refine al_nil ?_
 refine aw_cond rfl (fun h14 => ?_) (fun h14 => ?_)
 ·have gh14 := h14
  simp only [nrm] at h14
  refine aw_skip ?_
  refine aw_cond rfl (fun h15 => ?_) (fun h15 => ?_)
  ·have gh15 := h15
   simp only [nrm] at h15
   refine aw_sr ?_
   refine al_gs ?_
   refine al_nil ?_
   refine fz1 (t := 2) ?_
   refine aw_ret ?_
   refine ⟨_, res_1 rfl rfl, ?_, rfl⟩
   rw [strR_eq]; simp only [gh1, gh3, gh5, gh7, gh9, gh11, gh12, gh14, Bool.false_or, Bool.true_or, Bool.or_true, Bool.or_false, Bool.false_eq_true, if_true, if_false, reduceIte]
  have gh15 := h15
  simp only [nrm] at h15
  exact absurd (gh14.symm.trans gh15) (by decide)
 have gh14 := h14
 simp only [nrm] at h14
 refine aw_sr ?_
 refine al_o (op_seql_str rfl rfl) ?_
 refine al_gs ?_
 refine al_nil ?_
 refine aw_cond rfl (fun h16 => ?_) (fun h16 => ?_)
 ·have gh16 := h16
  simp only [nrm] at h16
  refine aw_skip ?_
  refine aw_cond rfl (fun h17 => ?_) (fun h17 => ?_)
  ·have gh17 := h17
   simp only [nrm] at h17
   refine aw_sr ?_
   refine al_gs ?_
   refine al_nil ?_
   refine fz1 (t := 2) ?_
   refine aw_ret ?_
   refine ⟨_, res_1 rfl rfl, ?_, rfl⟩
   rw [strR_eq]; simp only [gh1, gh3, gh5, gh7, gh9, gh11, gh12, gh14, gh16, Bool.false_or, Bool.true_or, Bool.or_true, Bool.or_false, Bool.false_eq_true, if_true, if_false, reduceIte]
  have gh17 := h17
  simp only [nrm] at h17
  exact absurd (gh16.symm.trans gh17) (by decide)
 have gh16 := h16
 simp only [nrm] at h16
 refine aw_sr ?_
 refine al_o (op_seql_str rfl rfl) ?_
 refine al_gs ?_
 refine al_nil ?_
 refine aw_cond rfl (fun h18 => ?_) (fun h18 => ?_)
 ·have gh18 := h18
  simp only [nrm] at h18
  refine aw_skip ?_
  refine aw_cond rfl (fun h19 => ?_) (fun h19 => ?_)
  ·have gh19 := h19
   simp only [nrm] at h19
   refine aw_sr ?_
   refine al_gs ?_
   refine al_nil ?_
   refine fz1 (t := 2) ?_
   refine aw_ret ?_
   refine ⟨_, res_1 rfl rfl, ?_, rfl⟩
   rw [strR_eq]; simp only [gh1, gh3, gh5, gh7, gh9, gh11, gh12, gh14, gh16, gh18, Bool.false_or, Bool.true_or, Bool.or_true, Bool.or_false, Bool.false_eq_true, if_true, if_false, reduceIte]
  have gh19 := h19
  simp only [nrm] at h19
  exact absurd (gh18.symm.trans gh19) (by decide)
 have gh18 := h18
 simp only [nrm] at h18
 refine aw_sr ?_
 refine al_o (op_seql_str rfl rfl) ?_
 refine al_gs ?_
 refine al_nil ?_
 refine aw_cond rfl (fun h20 => ?_) (fun h20 => ?_)
 ·have gh20 := h20
  simp only [nrm] at h20
  refine aw_skip ?_
  refine aw_cond rfl (fun h21 => ?_) (fun h21 => ?_)
  ·have gh21 := h21
   simp only [nrm] at h21
   refine aw_sr ?_
   refine al_gs ?_
   refine al_nil ?_
   refine fz1 (t := 2) ?_
   refine aw_ret ?_
   refine ⟨_, res_1 rfl rfl, ?_, rfl⟩
   rw [strR_eq]; simp only [gh1, gh3, gh5, gh7, gh9, gh11, gh12, gh14, gh16, gh18, gh20, Bool.false_or, Bool.true_or, Bool.or_true, Bool.or_false, Bool.false_eq_true, if_true, if_false, reduceIte]
  have gh21 := h21
  simp only [nrm] at h21
  exact absurd (gh20.symm.trans gh21) (by decide)
 have gh20 := h20
 simp only [nrm] at h20
 refine aw_region ?_
 refine al_o (op_seql_str rfl rfl) ?_
 refine al_gs ?_
 refine al_nil ?_
 refine aw_cond rfl (fun h22 => ?_) (fun h22 => ?_)
 ·have gh22 := h22
  simp only [nrm] at h22
  refine aw_sr ?_
  refine al_gs ?_
  refine al_nil ?_
  refine fz1 (t := 2) ?_
  refine aw_ret ?_
  refine ⟨_, res_1 rfl rfl, ?_, rfl⟩
  rw [strR_eq]; simp only [gh1, gh3, gh5, gh7, gh9, gh11, gh12, gh14, gh16, gh18, gh20, gh22, Bool.false_or, Bool.true_or, Bool.or_true, Bool.or_false, Bool.false_eq_true, if_true, if_false, reduceIte]
 have gh22 := h22
 simp only [nrm] at h22
 refine aw_seq ?_
 refine aw_sr ?_
 refine al_o (op_seql_str rfl rfl) ?_
 refine al_gs ?_
 refine al_nil ?_
 refine aw_cond rfl (fun h23 => ?_) (fun h23 => ?_)
 ·have gh23 := h23
  simp only [nrm] at h23
  refine aw_skip ?_
  refine aw_cond rfl (fun h24 => ?_) (fun h24 => ?_)
  ·have gh24 := h24
   simp only [nrm] at h24
   refine aw_sr ?_
   refine al_gs ?_
   refine al_nil ?_
   refine fz1 (t := 2) ?_
   refine aw_ret ?_
   refine ⟨_, res_1 rfl rfl, ?_, rfl⟩
   rw [strR_eq]; simp only [gh1, gh3, gh5, gh7, gh9, gh11, gh12, gh14, gh16, gh18, gh20, gh22, gh23, Bool.false_or, Bool.true_or, Bool.or_true, Bool.or_false, Bool.false_eq_true, if_true, if_false, reduceIte]
  have gh24 := h24
  simp only [nrm] at h24
  exact absurd (gh23.symm.trans gh24) (by decide)
 have gh23 := h23
 simp only [nrm] at h23
 refine aw_sr ?_
 refine al_o (op_seql_str rfl rfl) ?_
 refine al_gs ?_
 refine al_nil ?_
 refine aw_cond rfl (fun h25 => ?_) (fun h25 => ?_)
 ·have gh25 := h25
  simp only [nrm] at h25
  refine aw_skip ?_
  refine aw_cond rfl (fun h26 => ?_) (fun h26 => ?_)
  ·have gh26 := h26
   simp only [nrm] at h26
   refine aw_sr ?_
   refine al_gs ?_
   refine al_nil ?_
   refine fz1 (t := 2) ?_
   refine aw_ret ?_
   refine ⟨_, res_1 rfl rfl, ?_, rfl⟩
   rw [strR_eq]; simp only [gh1, gh3, gh5, gh7, gh9, gh11, gh12, gh14, gh16, gh18, gh20, gh22, gh23, gh25, Bool.false_or, Bool.true_or, Bool.or_true, Bool.or_false, Bool.false_eq_true, if_true, if_false, reduceIte]
  have gh26 := h26
  simp only [nrm] at h26
  exact absurd (gh25.symm.trans gh26) (by decide)
 have gh25 := h25
 simp only [nrm] at h25
 refine aw_region ?_
 refine al_o (op_seql_str rfl rfl) ?_
 refine al_gs ?_
 refine al_nil ?_
 refine aw_cond rfl (fun h27 => ?_) (fun h27 => ?_)
 ·have gh27 := h27
  simp only [nrm] at h27
  refine aw_sr ?_
  refine al_gs ?_
  refine al_nil ?_
  refine fz1 (t := 2) ?_
  refine aw_ret ?_
  refine ⟨_, res_1 rfl rfl, ?_, rfl⟩
  rw [strR_eq]; simp only [gh1, gh3, gh5, gh7, gh9, gh11, gh12, gh14, gh16, gh18, gh20, gh22, gh23, gh25, gh27, Bool.false_or, Bool.true_or, Bool.or_true, Bool.or_false, Bool.false_eq_true, if_true, if_false, reduceIte]
 have gh27 := h27
 simp only [nrm] at h27
 refine aw_seq ?_
 refine aw_sr ?_
 refine al_o (op_seql_str rfl rfl) ?_
 refine al_gs ?_
 refine al_nil ?_
 refine aw_cond rfl (fun h28 => ?_) (fun h28 => ?_)
 ·have gh28 := h28
  simp only [nrm] at h28
  refine aw_skip ?_
  refine aw_cond rfl (fun h29 => ?_) (fun h29 => ?_)
  ·have gh29 := h29
   simp only [nrm] at h29
   refine aw_sr ?_
   refine al_gs ?_
   refine al_nil ?_
   refine fz1 (t := 2) ?_
   refine aw_ret ?_
   refine ⟨_, res_1 rfl rfl, ?_, rfl⟩
   rw [strR_eq]; simp only [gh1, gh3, gh5, gh7, gh9, gh11, gh12, gh14, gh16, gh18, gh20, gh22, gh23, gh25, gh27, gh28, Bool.false_or, Bool.true_or, Bool.or_true, Bool.or_false, Bool.false_eq_true, if_true, if_false, reduceIte]
  have gh29 := h29
  simp only [nrm] at h29
  exact absurd (gh28.symm.trans gh29) (by decide)
 have gh28 := h28
 simp only [nrm] at h28
 refine aw_sr ?_
 refine al_o (op_seql_str rfl rfl) ?_
 refine al_gs ?_
 refine al_nil ?_
 refine aw_cond rfl (fun h30 => ?_) (fun h30 => ?_)
 ·have gh30 := h30
  simp only [nrm] at h30
  refine aw_skip ?_
  refine aw_cond rfl (fun h31 => ?_) (fun h31 => ?_)
  ·have gh31 := h31
   simp only [nrm] at h31
   refine aw_sr ?_
   refine al_gs ?_
   refine al_nil ?_
   refine fz1 (t := 2) ?_
   refine aw_ret ?_
   refine ⟨_, res_1 rfl rfl, ?_, rfl⟩
   rw [strR_eq]; simp only [gh1, gh3, gh5, gh7, gh9, gh11, gh12, gh14, gh16, gh18, gh20, gh22, gh23, gh25, gh27, gh28, gh30, Bool.false_or, Bool.true_or, Bool.or_true, Bool.or_false, Bool.false_eq_true, if_true, if_false, reduceIte]
  have gh31 := h31
  simp only [nrm] at h31
  exact absurd (gh30.symm.trans gh31) (by decide)
 have gh30 := h30
 simp only [nrm] at h30
 refine aw_sr ?_
 refine al_o (op_seql_str rfl rfl) ?_
 refine al_gs ?_
 refine al_nil ?_
 refine aw_cond rfl (fun h32 => ?_) (fun h32 => ?_)
 ·have gh32 := h32
  simp only [nrm] at h32
  refine aw_skip ?_
  refine aw_cond rfl (fun h33 => ?_) (fun h33 => ?_)
  ·have gh33 := h33
   simp only [nrm] at h33
   refine aw_sr ?_
   refine al_gs ?_
   refine al_nil ?_
   refine fz1 (t := 2) ?_
   refine aw_ret ?_
   refine ⟨_, res_1 rfl rfl, ?_, rfl⟩
   rw [strR_eq]; simp only [gh1, gh3, gh5, gh7, gh9, gh11, gh12, gh14, gh16, gh18, gh20, gh22, gh23, gh25, gh27, gh28, gh30, gh32, Bool.false_or, Bool.true_or, Bool.or_true, Bool.or_false, Bool.false_eq_true, if_true, if_false, reduceIte]
  have gh33 := h33
  simp only [nrm] at h33
  exact absurd (gh32.symm.trans gh33) (by decide)
 have gh32 := h32
 simp only [nrm] at h32
 refine aw_sr ?_
 refine al_o (op_seql_str rfl rfl) ?_
 refine al_gs ?_
 refine al_nil ?_
 refine aw_cond rfl (fun h34 => ?_) (fun h34 => ?_)
 ·have gh34 := h34
  simp only [nrm] at h34
  refine aw_skip ?_
  refine aw_cond rfl (fun h35 => ?_) (fun h35 => ?_)
  ·have gh35 := h35
   simp only [nrm] at h35
   refine aw_sr ?_
   refine al_gs ?_
   refine al_nil ?_
   refine fz1 (t := 2) ?_
   refine aw_ret ?_
   refine ⟨_, res_1 rfl rfl, ?_, rfl⟩
   rw [strR_eq]; simp only [gh1, gh3, gh5, gh7, gh9, gh11, gh12, gh14, gh16, gh18, gh20, gh22, gh23, gh25, gh27, gh28, gh30, gh32, gh34, Bool.false_or, Bool.true_or, Bool.or_true, Bool.or_false, Bool.false_eq_true, if_true, if_false, reduceIte]
  have gh35 := h35
  simp only [nrm] at h35
  exact absurd (gh34.symm.trans gh35) (by decide)
 have gh34 := h34
 simp only [nrm] at h34
 refine aw_region ?_
 refine al_o (op_seql_str rfl rfl) ?_
 refine al_gs ?_
 refine al_nil ?_
 refine aw_cond rfl (fun h36 => ?_) (fun h36 => ?_)
 ·have gh36 := h36
  simp only [nrm] at h36
  refine aw_sr ?_
  refine al_gs ?_
  refine al_nil ?_
  refine fz1 (t := 2) ?_
  refine aw_ret ?_
  refine ⟨_, res_1 rfl rfl, ?_, rfl⟩
  rw [strR_eq]; simp only [gh1, gh3, gh5, gh7, gh9, gh11, gh12, gh14, gh16, gh18, gh20, gh22, gh23, gh25, gh27, gh28, gh30, gh32, gh34, gh36, Bool.false_or, Bool.true_or, Bool.or_true, Bool.or_false, Bool.false_eq_true, if_true, if_false, reduceIte]
 have gh36 := h36
 simp only [nrm] at h36
 refine aw_skip ?_
 refine aw_sr ?_
 refine al_gs ?_
 refine al_nil ?_
 refine fz1 (t := 2) ?_
 refine aw_ret ?_
 refine ⟨_, res_1 rfl rfl, ?_, rfl⟩
 rw [strR_eq]; simp only [gh1, gh3, gh5, gh7, gh9, gh11, gh12, gh14, gh16, gh18, gh20, gh22, gh23, gh25, gh27, gh28, gh30, gh32, gh34, gh36, Bool.false_or, Bool.true_or, Bool.or_true, Bool.or_false, Bool.false_eq_true, if_true, if_false, reduceIte]
theorem q_sign (s : Bs) : AC Tryz.prog 117 [.v (.string (str (s)))] ([]) (fun r σ' => r = .ret (.agg (encK ⟨7, s, 0, 0, 0⟩)) ∧ σ'.keep (fun _ => false) = []) := by
 refine ace 5 Tryz.func117 ?_
 refine aw_sr ?_
 refine al_al 2 info65 fun ver2 => ?_
 refine al_sr ?_
 refine al_mv ?_
 refine al_o (op_bs u65 info65 place65) ?_
 refine al_sp info65 ?_
 refine al_nil ?_
 refine aw_ret ?_
 refine ⟨_, res_cell rfl u65 info65 rfl rfl rfl rfl, ?_⟩
 exact ⟨rfl, rfl⟩
theorem r_sign (s : Bs) : ACp Tryz.prog 117 [.v (.string (str (s)))] (.agg (encK ⟨7, s, 0, 0, 0⟩)) :=
  acp_of rfl (ac_mono (ac_keep (fun _ => false) (q_sign s)) (by rintro x σ1 ⟨σ2, ⟨rfl, e⟩, rfl⟩; exact ⟨rfl, e⟩))
theorem q_word (s : Bs) (hs : s.length ≤ 1000000000) : AC Tryz.prog 116 [.v (.string (str (s)))] ([]) (fun r σ' => r = .ret (.agg (encK (tkS s))) ∧ σ'.keep (fun _ => false) = []) := by
 refine ace 9 Tryz.func116 ?_
 refine aw_sr ?_
 refine al_al 2 info65 fun ver2 => ?_
 refine al_nil ?_
 refine aw_seq ?_
 refine aw_sr ?_
 refine al_mv ?_
 refine al_callp into123 rfl rfl rfl ((r_isWord _ (by first | assumption | omega | (simp; done) | (simp; omega) | decide)) _) (by simp) ?_
 refine al_nil ?_
 refine aw_cond rfl (fun gh1 => ?_) (fun gh1 => ?_)
 ·refine aw_sr ?_
  refine al_mv ?_
  refine al_o (op_bs u65 info65 place65) ?_
  refine al_sp info65 ?_
  refine al_nil ?_
  refine aw_ret ?_
  refine ⟨_, res_cell rfl u65 info65 rfl rfl rfl rfl, ?_⟩
  rw [tkS, gh1]; exact ⟨rfl, rfl⟩
 refine aw_skip ?_
 refine aw_sr ?_
 refine al_mv ?_
 refine al_callp into117 rfl rfl rfl ((r_sign _) _) (by simp) ?_
 refine al_sp info65 ?_
 refine al_nil ?_
 refine aw_ret ?_
 refine ⟨_, res_cell rfl u65 info65 rfl rfl rfl rfl, ?_⟩
 rw [tkS, gh1]; exact ⟨rfl, rfl⟩
theorem r_word (s : Bs) (hs : s.length ≤ 1000000000) : ACp Tryz.prog 116 [.v (.string (str (s)))] (.agg (encK (tkS s))) :=
  acp_of rfl (ac_mono (ac_keep (fun _ => false) (q_word s hs)) (by rintro x σ1 ⟨σ2, ⟨rfl, e⟩, rfl⟩; exact ⟨rfl, e⟩))
theorem r_level (e : Ex) (hs : e.name.length ≤ 1000000000) : ACp Tryz.prog 112 [.agg (cellsE (e))] (.v (.int .i64 (levelR e))) := by
 refine acp_of rfl ?_
 refine ace 20 Tryz.func112 ?_
 refine aw_sr ?_
 refine al_bx 1 fun ver1 => ?_
 refine al_gs ?_
 refine al_nil ?_
 refine aw_seq ?_
 refine aw_block ?_
 refine aw_sr ?_
 refine al_fp u37 info25 ?_
 refine al_ld u25 info25 ?_
 refine al_o (op_neq rfl rfl) ?_
 refine al_mv ?_
 apply al_or 4 7 11 rfl
 ·intro h1; have gh1 := h1
  simp only [nrm] at h1
  refine tk_fp u37 info9 ?_
  refine tk_ld u9 info9 ?_
  refine al_callp_take into67 rfl rfl rfl rfl rfl rfl (r_isName e.name (by omega) _) (by simp) ?_
  refine al_pk ?_
  exact al_nk gh1
 ·intro h1; have gh1 := h1
  simp only [nrm] at h1
  iterate 3 refine al_ps ?_
  refine al_pk ?_
  exact al_nk gh1
 refine al_gs ?_
 refine al_nil ?_
 refine aw_cond rfl (fun h2 => ?_) (fun h2 => ?_)
 ·have gh2 := h2
  simp only [nrm] at h2
  refine aw_sr ?_
  refine al_gs ?_
  refine al_nil ?_
  refine fz1 (t := 2) ?_
  refine aw_ret ?_
  refine ⟨_, res_1 rfl rfl, ?_, rfl⟩
  rw [levelR_6 gh2]
 have gh2 := h2
 simp only [nrm] at h2
 refine aw_sr ?_
 refine al_fp u37 info31 ?_
 refine al_ld u31 info31 ?_
 refine al_lm u31 ?_
 refine al_eq ?_
 refine al_gs ?_
 refine al_nil ?_
 refine aw_cond rfl (fun h3 => ?_) (fun h3 => ?_)
 ·have gh3 := h3
  simp only [nrm] at h3
  refine aw_sr ?_
  refine al_gs ?_
  refine al_nil ?_
  refine fz1 (t := 2) ?_
  refine aw_ret ?_
  refine ⟨_, res_1 rfl rfl, ?_, rfl⟩
  rw [levelR_5 gh2 gh3]
 have gh3 := h3
 simp only [nrm] at h3
 refine aw_skip ?_
 refine aw_sr ?_
 refine al_fp u37 info9 ?_
 refine al_ld u9 info9 ?_
 refine al_callp into136 rfl rfl rfl ((r_strength _) _) (by simp) ?_
 refine al_gs ?_
 refine al_nil ?_
 refine fz1 (t := 2) ?_
 refine aw_ret ?_
 refine ⟨_, res_1 rfl rfl, ?_, rfl⟩
 rw [levelR_s gh2 gh3]
theorem r_least (e : Ex) (hs : e.name.length ≤ 1000000000) (i : Nat) : ACp Tryz.prog 113 [.agg (cellsE (e)), .v (.int .i64 ((i : Nat) : Int))] (.v (.int .i64 (leastR e (i : Int)))) := by
 refine acp_of rfl ?_
 obtain ⟨s1, s2⟩ := strR_range e.name
 refine ace 46 Tryz.func113 ?_
 refine aw_sr ?_
 refine al_bx 2 fun ver2 => ?_
 refine al_gs ?_
 refine al_nil ?_
 refine aw_seq ?_
 refine aw_block ?_
 refine aw_sr ?_
 refine al_fp u37 info25 ?_
 refine al_ld u25 info25 ?_
 refine al_eq ?_
 refine al_mv ?_
 apply al_or 4 9 13 rfl
 ·intro h1; have gh1 := h1
  simp only [nrm] at h1
  refine tk_fp u37 info25 ?_
  refine tk_ld u25 info25 ?_
  refine tk_eq ?_
  refine al_pk ?_
  exact al_nk gh1
 ·intro h1; have gh1 := h1
  simp only [nrm] at h1
  iterate 3 refine al_ps ?_
  refine al_pk ?_
  exact al_nk gh1
 refine al_gs ?_
 refine al_nil ?_
 refine aw_cond rfl (fun h2 => ?_) (fun h2 => ?_)
 ·have gh2 := h2
  simp only [nrm] at h2
  refine aw_seq ?_
  refine aw_sr ?_
  refine al_mv ?_
  refine al_eq ?_
  refine al_nil ?_
  refine aw_cond rfl (fun h3 => ?_) (fun h3 => ?_)
  ·have gh3 := h3
   simp only [nrm] at h3
   refine aw_sr ?_
   refine al_gs ?_
   refine al_nil ?_
   refine fz1 (t := 4) ?_
   refine aw_ret ?_
   refine ⟨_, res_1 rfl rfl, ?_, rfl⟩
   rw [leastR, gh2, gh3]; rfl
  have gh3 := h3
  simp only [nrm] at h3
  refine aw_skip ?_
  refine aw_sr ?_
  refine al_gs ?_
  refine al_nil ?_
  refine fz1 (t := 4) ?_
  refine aw_ret ?_
  refine ⟨_, res_1 rfl rfl, ?_, rfl⟩
  rw [leastR, gh2, gh3]; rfl
 have gh2 := h2
 simp only [nrm] at h2
 refine aw_sr ?_
 refine al_fp u37 info25 ?_
 refine al_ld u25 info25 ?_
 refine al_o (op_neq rfl rfl) ?_
 refine al_mv ?_
 apply al_or 4 20 24 rfl
 ·intro h4; have gh4 := h4
  simp only [nrm] at h4
  refine tk_fp u37 info9 ?_
  refine tk_ld u9 info9 ?_
  refine al_callp_take into67 rfl rfl rfl rfl rfl rfl (r_isName e.name (by omega) _) (by simp) ?_
  refine al_pk ?_
  exact al_nk gh4
 ·intro h4; have gh4 := h4
  simp only [nrm] at h4
  iterate 3 refine al_ps ?_
  refine al_pk ?_
  exact al_nk gh4
 refine al_gs ?_
 refine al_nil ?_
 refine aw_cond rfl (fun h5 => ?_) (fun h5 => ?_)
 ·have gh5 := h5
  simp only [nrm] at h5
  refine aw_sr ?_
  refine al_gs ?_
  refine al_nil ?_
  refine fz1 (t := 4) ?_
  refine aw_ret ?_
  refine ⟨_, res_1 rfl rfl, ?_, rfl⟩
  rw [leastR, gh2, gh5]; rfl
 have gh5 := h5
 simp only [nrm] at h5
 refine aw_sr ?_
 refine al_fp u37 info31 ?_
 refine al_ld u31 info31 ?_
 refine al_lm u31 ?_
 refine al_eq ?_
 refine al_gs ?_
 refine al_nil ?_
 refine aw_cond rfl (fun h6 => ?_) (fun h6 => ?_)
 ·have gh6 := h6
  simp only [nrm] at h6
  refine aw_sr ?_
  refine al_gs ?_
  refine al_nil ?_
  refine fz1 (t := 4) ?_
  refine aw_ret ?_
  refine ⟨_, res_1 rfl rfl, ?_, rfl⟩
  rw [leastR, gh2, gh5, gh6]; rfl
 have gh6 := h6
 simp only [nrm] at h6
 refine aw_sr ?_
 refine al_mv ?_
 refine al_eq ?_
 refine al_mv ?_
 apply al_or 5 33 38 rfl
 ·intro h7; have gh7 := h7
  simp only [nrm] at h7
  refine tk_fp u37 info9 ?_
  refine tk_ld u9 info9 ?_
  refine al_callp_take into136 rfl rfl rfl rfl rfl rfl ((r_strength _) _) (by simp) ?_
  refine tk_eq ?_
  refine al_pk ?_
  exact al_nk gh7
 ·intro h7; have gh7 := h7
  simp only [nrm] at h7
  iterate 4 refine al_ps ?_
  refine al_pk ?_
  exact al_nk gh7
 refine al_gs ?_
 refine al_nil ?_
 refine aw_cond rfl (fun h8 => ?_) (fun h8 => ?_)
 ·have gh8 := h8
  simp only [nrm] at h8
  refine aw_sr ?_
  refine al_fp u37 info9 ?_
  refine al_ld u9 info9 ?_
  refine al_callp into136 rfl rfl rfl ((r_strength _) _) (by simp) ?_
  refine al_ad ?_
  refine al_gs ?_
  refine al_nil ?_
  refine fz1 (t := 4) ?_
  refine aw_ret ?_
  refine ⟨_, res_1 rfl rfl, ?_, rfl⟩
  rw [leastR, gh2, gh5, gh6, gh8]; rfl
 have gh8 := h8
 simp only [nrm] at h8
 refine aw_skip ?_
 refine aw_sr ?_
 refine al_fp u37 info9 ?_
 refine al_ld u9 info9 ?_
 refine al_callp into136 rfl rfl rfl ((r_strength _) _) (by simp) ?_
 refine al_gs ?_
 refine al_nil ?_
 refine fz1 (t := 4) ?_
 refine aw_ret ?_
 refine ⟨_, res_1 rfl rfl, ?_, rfl⟩
 rw [leastR, gh2, gh5, gh6, gh8]; rfl
theorem r_bare (e : Ex) : ACp Tryz.prog 109 [.agg (cellsE (e))] (.v (.bool (bareR e))) := by
 refine acp_of rfl ?_
 refine ace 56 Tryz.func109 ?_
 refine aw_sr ?_
 refine al_bx 1 fun ver1 => ?_
 refine al_gs ?_
 refine al_nil ?_
 refine aw_seq ?_
 refine aw_plan [0, 1, 2, 3, 4, 5, 6, 7] (Checked.mixed Tryz.checked) (by kernel_rfl) ?_
 refine afl_float rfl rfl (opk_of (op_field_ptr u37 rfl info35 (by decide) rfl rfl rfl)) (by simp) ?_
 refine afl_float rfl rfl (opk_of (op_load_ptr u35 info35 rfl rfl rfl rfl)) (by simp) ?_
 refine afl_float rfl rfl (opk_of (op_field_ptr u37 rfl info30 (by decide) rfl rfl rfl)) (by simp) ?_
 refine afl_float rfl rfl (opk_of (op_load_ptr u30 info30 rfl rfl rfl rfl)) (by simp) ?_
 refine afl_two 5 [4, 6, 7] rfl rfl rfl rfl (by kernel_rfl) (by kernel_rfl) (by simp) (by simp) (next_opR (op_alloc 3 info35 rfl rfl) ?_) (next_opR (op_alloc 4 info30 rfl rfl) ?_)
 ·rintro _ _ ⟨ver3, rfl, rfl⟩; refine ⟨?_, ?_⟩
  ·
   refine loose_k rfl (opk_of (op_load_ptr u30 info30 rfl rfl rfl rfl)) ?_
   refine loose_k rfl (opk_of (op_field_ptr u37 rfl info30 (by decide) rfl rfl rfl)) ?_
   refine loose_k rfl (opk_of (op_load_ptr u35 info35 rfl rfl rfl rfl)) ?_
   refine loose_k rfl (opk_of (op_field_ptr u37 rfl info35 (by decide) rfl rfl rfl)) ?_
   exact loose_nil
  (refine afl_effR rfl rfl (by kernel_rfl) (op_alloc 4 info30 rfl rfl) (by simp) ?_; rintro _ _ ⟨ver4, rfl, rfl⟩; refine ⟨?_, ?_⟩)
  ·
   refine loose_fix rfl ?_
   refine loose_k rfl (opk_of (op_load_ptr u30 info30 rfl rfl rfl rfl)) ?_
   refine loose_k rfl (opk_of (op_field_ptr u37 rfl info30 (by decide) rfl rfl rfl)) ?_
   refine loose_k rfl (opk_of (op_load_ptr u35 info35 rfl rfl rfl rfl)) ?_
   refine loose_k rfl (opk_of (op_field_ptr u37 rfl info35 (by decide) rfl rfl rfl)) ?_
   exact loose_nil
  (refine afl_eff rfl rfl (by kernel_rfl) (op_sp info35) (by simp) ?_ ?_)
  ·
   refine loose_fix rfl ?_
   refine loose_fix rfl ?_
   refine loose_k rfl (opk_of (op_load_ptr u30 info30 rfl rfl rfl rfl)) ?_
   refine loose_k rfl (opk_of (op_field_ptr u37 rfl info30 (by decide) rfl rfl rfl)) ?_
   refine loose_anc 1 rfl (by kernel_rfl) ?_
   refine loose_anc 0 rfl (by kernel_rfl) ?_
   exact loose_nil
  (refine afl_eff rfl rfl (by kernel_rfl) (op_sp info30) (by simp) ?_ ?_)
  ·
   refine loose_fix rfl ?_
   refine loose_fix rfl ?_
   refine loose_fix rfl ?_
   refine loose_anc 3 rfl (by kernel_rfl) ?_
   refine loose_anc 2 rfl (by kernel_rfl) ?_
   refine loose_anc 1 rfl (by kernel_rfl) ?_
   refine loose_anc 0 rfl (by kernel_rfl) ?_
   exact loose_nil
  refine afl_end ?_
  refine aw_sr ?_
  refine al_fp u35 info27 ?_
  refine al_ld u27 info27 ?_
  refine al_eq ?_
  refine al_mv ?_
  apply al_and 4 12 16 rfl
  ·intro h1; have gh1 := h1
   simp only [nrm] at h1
   refine tk_fp u35 info3 ?_
   refine tk_ld u3 info3 ?_
   refine tk_eq ?_
   refine al_pk ?_
   exact al_nk gh1
  ·intro h1; have gh1 := h1
   simp only [nrm] at h1
   iterate 3 refine al_ps ?_
   refine al_pk ?_
   exact al_nk gh1
  refine al_mv ?_
  apply al_and 4 17 21 rfl
  ·intro h2; have gh2 := h2
   simp only [nrm] at h2
   refine tk_fp u35 info9 ?_
   refine tk_ld u9 info9 ?_
   refine al_t (op_seql_str rfl rfl) ?_
   refine al_pk ?_
   exact al_nk gh2
  ·intro h2; have gh2 := h2
   iterate 3 refine al_ps ?_
   refine al_pk ?_
   exact al_nk gh2
  refine al_mv ?_
  apply al_and 5 22 27 rfl
  ·intro h3; have gh3 := h3
   simp only [nrm] at h3
   refine tk_fp u35 info32 ?_
   refine tk_ld u32 info32 ?_
   refine al_t (op_len_map u32 rfl) ?_
   refine tk_eq ?_
   refine al_pk ?_
   exact al_nk gh3
  ·intro h3; have gh3 := h3
   iterate 4 refine al_ps ?_
   refine al_pk ?_
   exact al_nk gh3
  refine al_mv ?_
  apply al_and 5 28 33 rfl
  ·intro h4; have gh4 := h4
   simp only [nrm] at h4
   refine tk_fp u35 info33 ?_
   refine tk_ld u33 info33 ?_
   refine al_t (op_len_map u33 rfl) ?_
   refine tk_eq ?_
   refine al_pk ?_
   exact al_nk gh4
  ·intro h4; have gh4 := h4
   iterate 4 refine al_ps ?_
   refine al_pk ?_
   exact al_nk gh4
  refine al_mv ?_
  apply al_and 4 34 38 rfl
  ·intro h5; have gh5 := h5
   simp only [nrm] at h5
   refine tk_fp u30 info27 ?_
   refine tk_ld u27 info27 ?_
   refine tk_eq ?_
   refine al_pk ?_
   exact al_nk gh5
  ·intro h5; have gh5 := h5
   iterate 3 refine al_ps ?_
   refine al_pk ?_
   exact al_nk gh5
  refine al_mv ?_
  apply al_and 4 39 43 rfl
  ·intro h6; have gh6 := h6
   simp only [nrm] at h6
   refine tk_fp u30 info3 ?_
   refine tk_ld u3 info3 ?_
   refine tk_eq ?_
   refine al_pk ?_
   exact al_nk gh6
  ·intro h6; have gh6 := h6
   iterate 3 refine al_ps ?_
   refine al_pk ?_
   exact al_nk gh6
  refine al_mv ?_
  apply al_and 5 44 49 rfl
  ·intro h7; have gh7 := h7
   simp only [nrm] at h7
   refine tk_fp u30 info26 ?_
   refine tk_ld u26 info26 ?_
   refine al_t (op_len_map u26 rfl) ?_
   refine tk_eq ?_
   refine al_pk ?_
   exact al_nk gh7
  ·intro h7; have gh7 := h7
   iterate 4 refine al_ps ?_
   refine al_pk ?_
   exact al_nk gh7
  refine al_mv ?_
  apply al_and 5 50 55 rfl
  ·intro h8; have gh8 := h8
   simp only [nrm] at h8
   refine tk_fp u30 info28 ?_
   refine tk_ld u28 info28 ?_
   refine al_t (op_len_map u28 rfl) ?_
   refine tk_eq ?_
   refine al_pk ?_
   exact al_nk gh8
  ·intro h8; have gh8 := h8
   iterate 4 refine al_ps ?_
   refine al_pk ?_
   exact al_nk gh8
  refine al_gs ?_
  refine al_nil ?_
  refine fz1 (t := 2) ?_
  refine aw_ret ?_
  refine ⟨_, res_1 rfl rfl, ?_, rfl⟩
  rw [bareR, untyped, noneV]; simp only [Bool.and_assoc]
 ·rintro _ _ ⟨ver4, rfl, rfl⟩; refine ⟨?_, ?_⟩
  ·
   refine loose_k rfl (opk_of (op_load_ptr u30 info30 rfl rfl rfl rfl)) ?_
   refine loose_k rfl (opk_of (op_field_ptr u37 rfl info30 (by decide) rfl rfl rfl)) ?_
   refine loose_k rfl (opk_of (op_load_ptr u35 info35 rfl rfl rfl rfl)) ?_
   refine loose_k rfl (opk_of (op_field_ptr u37 rfl info35 (by decide) rfl rfl rfl)) ?_
   exact loose_nil
  (refine afl_effR rfl rfl (by kernel_rfl) (op_alloc 3 info35 rfl rfl) (by simp) ?_; rintro _ _ ⟨ver3, rfl, rfl⟩; refine ⟨?_, ?_⟩)
  ·
   refine loose_fix rfl ?_
   refine loose_k rfl (opk_of (op_load_ptr u30 info30 rfl rfl rfl rfl)) ?_
   refine loose_k rfl (opk_of (op_field_ptr u37 rfl info30 (by decide) rfl rfl rfl)) ?_
   refine loose_k rfl (opk_of (op_load_ptr u35 info35 rfl rfl rfl rfl)) ?_
   refine loose_k rfl (opk_of (op_field_ptr u37 rfl info35 (by decide) rfl rfl rfl)) ?_
   exact loose_nil
  (refine afl_eff rfl rfl (by kernel_rfl) (op_sp info35) (by simp) ?_ ?_)
  ·
   refine loose_fix rfl ?_
   refine loose_fix rfl ?_
   refine loose_k rfl (opk_of (op_load_ptr u30 info30 rfl rfl rfl rfl)) ?_
   refine loose_k rfl (opk_of (op_field_ptr u37 rfl info30 (by decide) rfl rfl rfl)) ?_
   refine loose_anc 1 rfl (by kernel_rfl) ?_
   refine loose_anc 0 rfl (by kernel_rfl) ?_
   exact loose_nil
  (refine afl_eff rfl rfl (by kernel_rfl) (op_sp info30) (by simp) ?_ ?_)
  ·
   refine loose_fix rfl ?_
   refine loose_fix rfl ?_
   refine loose_fix rfl ?_
   refine loose_anc 3 rfl (by kernel_rfl) ?_
   refine loose_anc 2 rfl (by kernel_rfl) ?_
   refine loose_anc 1 rfl (by kernel_rfl) ?_
   refine loose_anc 0 rfl (by kernel_rfl) ?_
   exact loose_nil
  refine afl_end ?_
  refine aw_sr ?_
  refine al_fp u35 info27 ?_
  refine al_ld u27 info27 ?_
  refine al_eq ?_
  refine al_mv ?_
  apply al_and 4 12 16 rfl
  ·intro h9; have gh9 := h9
   simp only [nrm] at h9
   refine tk_fp u35 info3 ?_
   refine tk_ld u3 info3 ?_
   refine tk_eq ?_
   refine al_pk ?_
   exact al_nk gh9
  ·intro h9; have gh9 := h9
   simp only [nrm] at h9
   iterate 3 refine al_ps ?_
   refine al_pk ?_
   exact al_nk gh9
  refine al_mv ?_
  apply al_and 4 17 21 rfl
  ·intro h10; have gh10 := h10
   simp only [nrm] at h10
   refine tk_fp u35 info9 ?_
   refine tk_ld u9 info9 ?_
   refine al_t (op_seql_str rfl rfl) ?_
   refine al_pk ?_
   exact al_nk gh10
  ·intro h10; have gh10 := h10
   iterate 3 refine al_ps ?_
   refine al_pk ?_
   exact al_nk gh10
  refine al_mv ?_
  apply al_and 5 22 27 rfl
  ·intro h11; have gh11 := h11
   simp only [nrm] at h11
   refine tk_fp u35 info32 ?_
   refine tk_ld u32 info32 ?_
   refine al_t (op_len_map u32 rfl) ?_
   refine tk_eq ?_
   refine al_pk ?_
   exact al_nk gh11
  ·intro h11; have gh11 := h11
   iterate 4 refine al_ps ?_
   refine al_pk ?_
   exact al_nk gh11
  refine al_mv ?_
  apply al_and 5 28 33 rfl
  ·intro h12; have gh12 := h12
   simp only [nrm] at h12
   refine tk_fp u35 info33 ?_
   refine tk_ld u33 info33 ?_
   refine al_t (op_len_map u33 rfl) ?_
   refine tk_eq ?_
   refine al_pk ?_
   exact al_nk gh12
  ·intro h12; have gh12 := h12
   iterate 4 refine al_ps ?_
   refine al_pk ?_
   exact al_nk gh12
  refine al_mv ?_
  apply al_and 4 34 38 rfl
  ·intro h13; have gh13 := h13
   simp only [nrm] at h13
   refine tk_fp u30 info27 ?_
   refine tk_ld u27 info27 ?_
   refine tk_eq ?_
   refine al_pk ?_
   exact al_nk gh13
  ·intro h13; have gh13 := h13
   iterate 3 refine al_ps ?_
   refine al_pk ?_
   exact al_nk gh13
  refine al_mv ?_
  apply al_and 4 39 43 rfl
  ·intro h14; have gh14 := h14
   simp only [nrm] at h14
   refine tk_fp u30 info3 ?_
   refine tk_ld u3 info3 ?_
   refine tk_eq ?_
   refine al_pk ?_
   exact al_nk gh14
  ·intro h14; have gh14 := h14
   iterate 3 refine al_ps ?_
   refine al_pk ?_
   exact al_nk gh14
  refine al_mv ?_
  apply al_and 5 44 49 rfl
  ·intro h15; have gh15 := h15
   simp only [nrm] at h15
   refine tk_fp u30 info26 ?_
   refine tk_ld u26 info26 ?_
   refine al_t (op_len_map u26 rfl) ?_
   refine tk_eq ?_
   refine al_pk ?_
   exact al_nk gh15
  ·intro h15; have gh15 := h15
   iterate 4 refine al_ps ?_
   refine al_pk ?_
   exact al_nk gh15
  refine al_mv ?_
  apply al_and 5 50 55 rfl
  ·intro h16; have gh16 := h16
   simp only [nrm] at h16
   refine tk_fp u30 info28 ?_
   refine tk_ld u28 info28 ?_
   refine al_t (op_len_map u28 rfl) ?_
   refine tk_eq ?_
   refine al_pk ?_
   exact al_nk gh16
  ·intro h16; have gh16 := h16
   iterate 4 refine al_ps ?_
   refine al_pk ?_
   exact al_nk gh16
  refine al_gs ?_
  refine al_nil ?_
  refine fz1 (t := 2) ?_
  refine aw_ret ?_
  refine ⟨_, res_1 rfl rfl, ?_, rfl⟩
  rw [bareR, untyped, noneV]; simp only [Bool.and_assoc]
theorem r_operator (s : Bs) (k : Int) : ACp Tryz.prog 111 [.v (.string (str (s))), .v (.int .i64 (k))] (.v (.bool (operR s k))) := by
 refine acp_of rfl ?_
 refine ace 24 Tryz.func111 ?_
 refine aw_sr ?_
 refine al_gs ?_
 refine al_sr ?_
 refine al_mv ?_
 refine al_eq ?_
 refine al_mv ?_
 apply al_and 4 7 11 rfl
 ·intro h1; have gh1 := h1
  simp only [nrm] at h1
  refine tk_mv ?_
  refine al_callp_take into136 rfl rfl rfl rfl rfl rfl ((r_strength _) _) (by simp) ?_
  refine al_t (op_gtr rfl rfl) ?_
  refine al_pk ?_
  exact al_nk gh1
 ·intro h1; have gh1 := h1
  simp only [nrm] at h1
  iterate 3 refine al_ps ?_
  refine al_pk ?_
  exact al_nk gh1
 refine al_mv ?_
 apply al_or 11 12 23 rfl
 ·intro h2; have gh2 := h2
  simp only [nrm] at h2
  refine tk_mv ?_
  refine tk_eq ?_
  refine tk_mv ?_
  apply al_and 7 15 22 rfl
  ·intro h3; have gh3 := h3
   simp only [nrm] at h3
   refine tk_mv ?_
   refine al_t (op_seql_str rfl rfl) ?_
   refine tk_mv ?_
   apply al_or 3 18 21 rfl
   ·intro h4; have gh4 := h4
    simp only [nrm] at h4
    refine tk_mv ?_
    refine al_t (op_seql_str rfl rfl) ?_
    refine tk_pk ?_
    exact al_nk gh4
   ·intro h4; have gh4 := h4
    simp only [nrm] at h4
    iterate 2 refine al_ps ?_
    refine tk_pk ?_
    exact al_nk gh4
   refine tk_pk ?_
   exact al_nk gh3
  ·intro h3; have gh3 := h3
   simp only [nrm] at h3
   iterate 3 refine al_ps ?_
   refine al_pu ?_
   refine al_pu ?_
   refine al_ps ?_
   refine tk_pk ?_
   exact al_nk gh3
  refine al_pk ?_
  exact al_nk gh2
 ·intro h2; have gh2 := h2
  simp only [nrm] at h2
  iterate 3 refine al_ps ?_
  refine al_pu ?_
  refine al_pu ?_
  refine al_pu ?_
  refine al_pu ?_
  refine al_pu ?_
  refine al_pu ?_
  refine al_ps ?_
  refine al_pk ?_
  exact al_nk gh2
 refine al_gs ?_
 refine al_nil ?_
 refine fz1 (t := 4) ?_
 refine aw_ret ?_
 refine ⟨_, res_1 rfl rfl, ?_, rfl⟩
 rfl
theorem r_bitX (x : Int) (hx : 0 ≤ x) : ACp Tryz.prog 167 [.v (.int .u8 (x))] (.v (.bool (decide (x ≤ 3)))) := by
 refine acp_of rfl ?_
 refine ace 17 Tryz.func167 ?_
 refine aw_sr ?_
 refine al_gs ?_
 refine al_sr ?_
 refine al_mv ?_
 refine al_eq ?_
 refine al_mv ?_
 apply al_or 3 5 8 rfl
 ·intro h1; have gh1 := h1
  simp only [nrm] at h1
  refine tk_mv ?_
  refine tk_eq ?_
  refine al_pk ?_
  exact al_nk gh1
 ·intro h1; have gh1 := h1
  simp only [nrm] at h1
  iterate 2 refine al_ps ?_
  refine al_pk ?_
  exact al_nk gh1
 refine al_mv ?_
 apply al_or 3 9 12 rfl
 ·intro h2; have gh2 := h2
  simp only [nrm] at h2
  refine tk_mv ?_
  refine tk_eq ?_
  refine al_pk ?_
  exact al_nk gh2
 ·intro h2; have gh2 := h2
  simp only [nrm] at h2
  iterate 2 refine al_ps ?_
  refine al_pk ?_
  exact al_nk gh2
 refine al_mv ?_
 apply al_or 3 13 16 rfl
 ·intro h3; have gh3 := h3
  simp only [nrm] at h3
  refine tk_mv ?_
  refine tk_eq ?_
  refine al_pk ?_
  exact al_nk gh3
 ·intro h3; have gh3 := h3
  simp only [nrm] at h3
  iterate 2 refine al_ps ?_
  refine al_pk ?_
  exact al_nk gh3
 refine al_gs ?_
 refine al_nil ?_
 refine fz1 (t := 2) ?_
 refine aw_ret ?_
 refine ⟨_, res_1 rfl rfl, ?_, rfl⟩
 rw [bit_eq hx]
theorem r_IsB (b : List Int) (hb : b.length ≤ 1000000000) (hz : ∀ x ∈ b, 0 ≤ x) : ACp Tryz.prog 110 [.list 1 (b.map encB)] (.v (.bool (isBits b))) := by
 refine acp_of rfl ?_
 refine ace 23 Tryz.func110 ?_
 refine aw_sr ?_
 refine al_gs ?_
 refine al_nil ?_
 refine aw_seq ?_
 refine aw_sr ?_
 refine al_mv ?_
 refine al_lm u26 ?_
 refine al_mv ?_
 refine al_nil ?_
 refine aw_block ?_
 refine aw_forT (ι := Nat) [2, 7] [] (fun i => b.length - i) (fun i => i ≤ b.length ∧ ∀ k, k < i → (fun k => (!(decide (b.getD k default ≤ 3)))) k = false) (fun i => ([(7, .v (.int .i64 ((i : Nat) : Int)))] : Env)) (fun i s => s) (0) ?_ ?_ ?_ (fun i hinv => ?_)
 ·exact ⟨Nat.zero_le _, fun k hk => absurd hk (Nat.not_lt_zero k)⟩
 ·refine sub_1 ?_
  all_goals (first | rfl | simp)
 ·rfl
 have hi := hinv.1

 refine aw_sr ?_
 refine al_ls ?_
 refine al_nil ?_
 refine aw_seq ?_
 refine aw_cond rfl (fun h1 => ?_) (fun h1 => ?_)
 ·have gh1 := h1
  simp only [nrm] at h1
  refine aw_skip ?_
  refine aw_seq ?_
  refine aw_block ?_
  refine aw_sr ?_
  refine al_o (op_im u26 info97) ?_
  refine al_lr u97 info97 ?_
  refine al_gs ?_
  refine al_sr ?_
  refine al_mv ?_
  refine al_callp into167 rfl rfl rfl (r_bitX (b.getD i default) (hz _ (getD_mem (by omega))) _) (by simp) ?_
  refine al_o (op_not rfl) ?_
  refine al_nil ?_
  refine aw_cond rfl (fun h2 => ?_) (fun h2 => ?_)
  ·have gh2 := h2
   simp only [nrm] at h2
   refine aw_sr ?_
   refine al_gs ?_
   refine al_nil ?_
   refine fz1 (t := 2) ?_
   refine aw_ret ?_
   refine ⟨_, res_1 rfl rfl, ?_, rfl⟩
   rw [isBits_no i (by omega) gh2]
  have gh2 := h2
  simp only [nrm] at h2
  refine aw_skip ?_
  refine aw_region ?_
  refine al_ad ?_
  refine al_mv ?_
  refine al_nil ?_
  refine ⟨i + 1, ?_, ?_, ?_, ?_, ?_⟩
  ·omega
  ·exact ⟨by omega, idx_more (p := fun k => (!(decide (b.getD k default ≤ 3)))) hinv.2 gh2⟩
  ·refine sub_1 ?_
   all_goals (first | rfl | simp)
  ·exact sbl
  ·rfl
 have gh1 := h1
 simp only [nrm] at h1
 refine aw_exit ?_
 refine aw_sr ?_
 refine al_mv ?_
 refine al_lm u26 ?_
 refine al_o (op_geq rfl rfl) ?_
 refine al_mv ?_
 apply al_and 4 18 22 rfl
 ·intro h3; have gh3 := h3
  simp only [nrm] at h3
  refine tk_mv ?_
  refine al_t (op_len_map u26 rfl) ?_
  refine al_t (op_leq rfl rfl) ?_
  refine al_pk ?_
  exact al_nk gh3
 ·intro h3; have gh3 := h3
  simp only [nrm] at h3
  iterate 3 refine al_ps ?_
  refine al_pk ?_
  exact al_nk gh3
 refine al_gs ?_
 refine al_nil ?_
 refine fz1 (t := 2) ?_
 refine aw_ret ?_
 refine ⟨_, res_1 rfl rfl, ?_, rfl⟩
 rw [isBits_yes (fun k hk => hinv.2 k (by omega))]
end Go.Proofs.YtcgdlhkiecommaaGreatDoor
/- Printed walks (gen.py, lexer_ann.py): part 431. -/



namespace Go.Proofs.YtcgdlhkiecommaaGreatDoor
open Go
theorem r_TextB (b : List Int) (hb : b.length ≤ 1000000000) (hz : ∀ x ∈ b, 0 ≤ x) (hs : isBits b = true) : ACp Tryz.prog 190 [.list 1 (b.map encB)] (.tuple [.v (.string (str (bitsT b))), .v (.int .i64 (0))]) := by
 refine acp_of rfl ?_
 refine ace 24 Tryz.func190 ?_
 refine aw_sr ?_
 refine al_gs ?_
 refine al_gs ?_
 refine al_nil ?_
 refine aw_seq ?_
 refine aw_sr ?_
 refine al_mv ?_
 refine al_callp into110 rfl rfl rfl (r_IsB b hb hz _) (by simp) ?_
 refine al_o (op_not rfl) ?_
 refine al_nil ?_
 refine aw_cond rfl (fun h1 => ?_) (fun h1 => ?_)
 ·have gh1 := h1
  simp only [nrm] at h1
  rw [hs] at gh1; exact absurd gh1 (by decide)
 have gh1 := h1
 simp only [nrm] at h1
 refine aw_skip ?_
 refine aw_sr ?_
 refine al_gs ?_
 refine al_nil ?_
 refine aw_seq ?_
 refine aw_sr ?_
 refine al_mv ?_
 refine al_lm u26 ?_
 refine al_mv ?_
 refine al_nil ?_
 refine aw_block ?_
 refine aw_forT (ι := Nat) [4, 12] [] (fun i => b.length - i) (fun i => i ≤ b.length) (fun i => ([(4, .v (.string (str (bitsT (b.take i))))), (12, .v (.int .i64 ((i : Nat) : Int)))] : Env)) (fun i s => s) (0) ?_ ?_ ?_ (fun i hinv => ?_)
 ·exact Nat.zero_le _
 ·refine sub_2 ?_ ?_
  all_goals (first | rfl | simp)
 ·rfl
 have hi := hinv
 refine aw_sr ?_
 refine al_ls ?_
 refine al_nil ?_
 refine aw_seq ?_
 refine aw_cond rfl (fun h2 => ?_) (fun h2 => ?_)
 ·have gh2 := h2
  simp only [nrm] at h2
  refine aw_skip ?_
  refine aw_seq ?_
  refine aw_block ?_
  refine aw_sr ?_
  refine al_o (op_im u26 info97) ?_
  refine al_lr u97 info97 ?_
  refine al_gs ?_
  refine al_nil ?_
  have hx0 := hz (b.getD i default) (getD_mem (by omega))
  have hx3 := bits_le hs (b.getD i default) (getD_mem (by omega))
  have hbl := bits_len hs
  have hx5 : (b[i]?.getD 0) = b.getD i default := by rw [List.getD_eq_getElem?_getD]; rfl
  have htl : (bitsT (b.take i)).length = i := by rw [bitsT_len, List.length_take]; omega
  refine aw_region ?_
  refine al_mv ?_
  refine al_mv ?_
  refine al_o (op_add rfl rfl (by first | exact wrap_u8 (by omega) (by omega))) ?_
  refine al_o (val_as (.v (.string (str ([bitC (b.getD i default)])))) (op_cut_str u9 rfl (.of rfl (show _ = (((b.getD i default).toNat : Nat) : Int) from by omega)) (.of rfl (show _ = ((((b.getD i default).toNat + 1) : Nat) : Int) from by omega)) (by omega) (by first | omega | (simp; omega))) (by exact congrArg (fun s => AVal.v (.string (str s))) (cut_bit hx0 hx3))) ?_
  refine al_mv ?_
  refine al_o (op_sadd_str rfl rfl (by first | omega | (simp; omega) | (simp; done) | (simp only [List.length_append, List.length_cons, List.length_nil]; omega))) ?_
  refine al_gs ?_
  refine al_nil ?_
  refine aw_region ?_
  refine al_ad ?_
  refine al_mv ?_
  refine al_nil ?_
  refine ⟨i + 1, ?_, ?_, ?_, ?_, ?_⟩
  ·omega
  ·omega
  ·refine sub_2 ?_ ?_
   all_goals (first | rfl | (rw [bitsT_take (by omega)]; done) | (rw [bitsT_take (by omega)]; rfl) | simp)
  ·exact sbl
  ·rfl
 have gh2 := h2
 simp only [nrm] at h2
 refine aw_exit ?_
 refine aw_sr ?_
 refine al_mv ?_
 refine al_gs ?_
 refine al_gs ?_
 refine al_nil ?_
 refine fz2 (t := 2) (u := 3) ?_
 refine aw_ret ?_
 refine ⟨_, res_2 rfl rfl rfl rfl rfl, ?_, rfl⟩
 rw [List.take_of_length_le (by omega)]
theorem r_letters (b : List Int) (hb : b.length ≤ 1000000000) (hz : ∀ x ∈ b, 0 ≤ x) (hs : isBits b = true) : ACp Tryz.prog 159 [.list 1 (b.map encB)] (.v (.string (str (bitsT b)))) := by
 refine acp_of rfl ?_
 refine ace 11 Tryz.func159 ?_
 refine aw_sr ?_
 refine al_gs ?_
 refine al_sr ?_
 refine al_mv ?_
 refine al_callp into190 rfl rfl rfl ((r_TextB _ (by first | assumption | omega | (simp; done) | (simp; omega) | decide) (by assumption) (by assumption)) _) (by simp) ?_
 refine al_mv ?_
 refine al_xt ?_
 refine al_xt ?_
 refine al_gs ?_
 refine al_gs ?_
 refine al_sr ?_
 refine al_mv ?_
 refine al_gs ?_
 refine al_nil ?_
 refine fz1 (t := 2) ?_
 refine aw_ret ?_
 refine ⟨_, res_1 rfl rfl, ?_, rfl⟩
 rfl
end Go.Proofs.YtcgdlhkiecommaaGreatDoor
/- Printed walks (gen.py, lexer_ann.py): part 432. -/



namespace Go.Proofs.YtcgdlhkiecommaaGreatDoor
open Go
theorem r_formS (e : Ex) (hz : szE e = true) (ih : ∀ k ∈ e.kids, ACp Tryz.prog 57 [.agg (cellsE (k))] (.v (.bool (formP k)))) : ACp Tryz.prog 57 [.agg (cellsE (e))] (.v (.bool (formP e))) := by
 refine acp_of rfl ?_
 obtain ⟨z1, z2, z3, z4, z5⟩ := szE_facts hz
 refine ace 162 Tryz.func57 ?_
 refine aw_sr ?_
 refine al_bx 1 fun ver1 => ?_
 refine al_gs ?_
 refine al_nil ?_
 refine aw_seq ?_
 refine aw_sr ?_
 refine al_ld u37 info37 ?_
 refine al_callp into109 rfl rfl rfl (r_bare e _) (by simp) ?_
 refine al_o (op_not rfl) ?_
 refine al_mv ?_
 apply al_or 9 8 17 rfl
 ·intro h1; have gh1 := h1
  simp only [nrm] at h1
  refine tk_fp u37 info25 ?_
  refine tk_ld u25 info25 ?_
  refine al_t (op_neq rfl rfl) ?_
  refine tk_mv ?_
  apply al_and 4 12 16 rfl
  ·intro h2; have gh2 := h2
   simp only [nrm] at h2
   refine tk_fp u37 info3 ?_
   refine tk_ld u3 info3 ?_
   refine al_t (op_neq rfl rfl) ?_
   refine tk_pk ?_
   exact al_nk gh2
  ·intro h2; have gh2 := h2
   simp only [nrm] at h2
   iterate 3 refine al_ps ?_
   refine tk_pk ?_
   exact al_nk gh2
  refine al_pk ?_
  exact al_nk gh1
 ·intro h1; have gh1 := h1
  simp only [nrm] at h1
  iterate 4 refine al_ps ?_
  refine al_pu ?_
  refine al_pu ?_
  refine al_pu ?_
  refine al_ps ?_
  refine al_pk ?_
  exact al_nk gh1
 refine al_mv ?_
 apply al_or 14 18 32 rfl
 ·intro h3; have gh3 := h3
  simp only [nrm] at h3
  refine tk_fp u37 info25 ?_
  refine tk_ld u25 info25 ?_
  refine al_t (op_neq rfl rfl) ?_
  refine tk_mv ?_
  apply al_and 4 22 26 rfl
  ·intro h4; have gh4 := h4
   simp only [nrm] at h4
   refine tk_fp u37 info25 ?_
   refine tk_ld u25 info25 ?_
   refine al_t (op_neq rfl rfl) ?_
   refine tk_pk ?_
   exact al_nk gh4
  ·intro h4; have gh4 := h4
   simp only [nrm] at h4
   iterate 3 refine al_ps ?_
   refine tk_pk ?_
   exact al_nk gh4
  refine tk_mv ?_
  apply al_and 4 27 31 rfl
  ·intro h5; have gh5 := h5
   simp only [nrm] at h5
   refine tk_fp u37 info9 ?_
   refine tk_ld u9 info9 ?_
   refine al_t (op_sneq_str rfl rfl) ?_
   refine tk_pk ?_
   exact al_nk gh5
  ·intro h5; have gh5 := h5
   iterate 3 refine al_ps ?_
   refine tk_pk ?_
   exact al_nk gh5
  refine al_pk ?_
  exact al_nk gh3
 ·intro h3; have gh3 := h3
  simp only [nrm] at h3
  iterate 4 refine al_ps ?_
  refine al_pu ?_
  refine al_pu ?_
  refine al_pu ?_
  iterate 2 refine al_ps ?_
  refine al_pu ?_
  refine al_pu ?_
  refine al_pu ?_
  refine al_ps ?_
  refine al_pk ?_
  exact al_nk gh3
 refine al_mv ?_
 apply al_or 15 33 48 rfl
 ·intro h6; have gh6 := h6
  simp only [nrm] at h6
  refine tk_fp u37 info25 ?_
  refine tk_ld u25 info25 ?_
  refine al_t (op_neq rfl rfl) ?_
  refine tk_mv ?_
  apply al_and 4 37 41 rfl
  ·intro h7; have gh7 := h7
   simp only [nrm] at h7
   refine tk_fp u37 info25 ?_
   refine tk_ld u25 info25 ?_
   refine al_t (op_neq rfl rfl) ?_
   refine tk_pk ?_
   exact al_nk gh7
  ·intro h7; have gh7 := h7
   simp only [nrm] at h7
   iterate 3 refine al_ps ?_
   refine tk_pk ?_
   exact al_nk gh7
  refine tk_mv ?_
  apply al_and 5 42 47 rfl
  ·intro h8; have gh8 := h8
   simp only [nrm] at h8
   refine tk_fp u37 info26 ?_
   refine tk_ld u26 info26 ?_
   refine al_t (op_len_map u26 rfl) ?_
   refine al_t (op_gtr rfl rfl) ?_
   refine tk_pk ?_
   exact al_nk gh8
  ·intro h8; have gh8 := h8
   iterate 4 refine al_ps ?_
   refine tk_pk ?_
   exact al_nk gh8
  refine al_pk ?_
  exact al_nk gh6
 ·intro h6; have gh6 := h6
  simp only [nrm] at h6
  iterate 4 refine al_ps ?_
  refine al_pu ?_
  refine al_pu ?_
  refine al_pu ?_
  iterate 2 refine al_ps ?_
  refine al_pu ?_
  refine al_pu ?_
  refine al_pu ?_
  refine al_pu ?_
  refine al_ps ?_
  refine al_pk ?_
  exact al_nk gh6
 refine al_nil ?_
 refine aw_cond rfl (fun h9 => ?_) (fun h9 => ?_)
 ·have gh9 := h9
  simp only [nrm] at h9
  refine aw_sr ?_
  refine al_gs ?_
  refine al_nil ?_
  refine fz1 (t := 2) ?_
  refine aw_ret ?_
  refine ⟨_, res_1 rfl rfl, ?_, rfl⟩
  rw [formH_no gh9]
 have gh9 := h9
 simp only [nrm] at h9
 refine aw_skip ?_
 refine aw_seq ?_
 refine aw_sr ?_
 refine al_fp u37 info31 ?_
 refine al_ld u31 info31 ?_
 refine al_lm u31 ?_
 refine al_mv ?_
 refine al_nil ?_
 refine aw_block ?_
 refine aw_forT (ι := Nat) [2, 52] [4] (fun i => e.kids.length - i) (fun i => i ≤ e.kids.length ∧ ∀ k, k < i → (fun k => (!(formP (e.kids.getD k default)))) k = false) (fun i => ([(52, .v (.int .i64 ((i : Nat) : Int)))] : Env)) (fun i s => s) (0) ?_ ?_ ?_ (fun i hinv => ?_)
 ·exact ⟨Nat.zero_le _, fun k hk => absurd hk (Nat.not_lt_zero k)⟩
 ·refine sub_1 ?_
  all_goals (first | rfl | simp)
 ·rfl
 have hi := hinv.1

 refine aw_sr ?_
 refine al_ls ?_
 refine al_nil ?_
 refine aw_seq ?_
 refine aw_cond rfl (fun h10 => ?_) (fun h10 => ?_)
 ·have gh10 := h10
  simp only [nrm] at h10
  refine aw_skip ?_
  refine aw_seq ?_
  refine aw_block ?_
  refine aw_sr ?_
  refine al_o (val_as (.rptr (cellsE (e.kids.getD i default))) (op_im u31 info37) (by exact congrArg AVal.rptr (encE_cells _))) ?_
  refine al_lr u37 info37 ?_
  refine al_al 4 info37 fun ver4 => ?_
  refine al_sp info37 ?_
  refine al_sr ?_
  refine al_ld u37 info37 ?_
  refine al_callp into57 rfl rfl rfl (ih (e.kids.getD i default) (getD_mem (by omega)) _) (by simp) ?_
  refine al_o (op_not rfl) ?_
  refine al_nil ?_
  refine aw_cond rfl (fun h11 => ?_) (fun h11 => ?_)
  ·have gh11 := h11
   simp only [nrm] at h11
   refine aw_sr ?_
   refine al_gs ?_
   refine al_nil ?_
   refine fz1 (t := 2) ?_
   refine aw_ret ?_
   refine ⟨_, res_1 rfl rfl, ?_, rfl⟩
   rw [formH_kid i (by omega) gh11]
  have gh11 := h11
  simp only [nrm] at h11
  refine aw_skip ?_
  refine aw_region ?_
  refine al_ad ?_
  refine al_mv ?_
  refine al_nil ?_
  refine ⟨i + 1, ?_, ?_, ?_, ?_, ?_⟩
  ·omega
  ·exact ⟨by omega, idx_more (p := fun k => (!(formP (e.kids.getD k default)))) hinv.2 gh11⟩
  ·refine sub_1 ?_
   all_goals (first | rfl | simp)
  ·exact sbl
  ·rfl
 have gh10 := h10
 simp only [nrm] at h10
 refine aw_exit ?_
 have hall : ∀ k, k < e.kids.length → (!(formP (e.kids.getD k default))) = false := fun k hk => hinv.2 k (by omega)
 refine aw_seq ?_
 refine aw_sr ?_
 refine al_fp u37 info25 ?_
 refine al_ld u25 info25 ?_
 refine al_nil ?_
 refine aw_block ?_
 refine aw_sr ?_
 refine al_eq ?_
 refine al_gs ?_
 refine al_nil ?_
 refine aw_cond rfl (fun h12 => ?_) (fun h12 => ?_)
 ·have gh12 := h12
  simp only [nrm] at h12
  refine aw_sr ?_
  refine al_fp u37 info3 ?_
  refine al_ld u3 info3 ?_
  refine al_o (op_geq rfl rfl) ?_
  refine al_mv ?_
  apply al_and 4 67 71 rfl
  ·intro h13; have gh13 := h13
   simp only [nrm] at h13
   refine tk_fp u37 info3 ?_
   refine tk_ld u3 info3 ?_
   refine al_t (op_leq rfl rfl) ?_
   refine al_pk ?_
   exact al_nk gh13
  ·intro h13; have gh13 := h13
   simp only [nrm] at h13
   iterate 3 refine al_ps ?_
   refine al_pk ?_
   exact al_nk gh13
  refine al_mv ?_
  apply al_and 5 72 77 rfl
  ·intro h14; have gh14 := h14
   simp only [nrm] at h14
   refine tk_fp u37 info31 ?_
   refine tk_ld u31 info31 ?_
   refine al_t (op_len_map u31 rfl) ?_
   refine tk_eq ?_
   refine al_pk ?_
   exact al_nk gh14
  ·intro h14; have gh14 := h14
   simp only [nrm] at h14
   iterate 4 refine al_ps ?_
   refine al_pk ?_
   exact al_nk gh14
  refine al_gs ?_
  refine al_nil ?_
  refine fz1 (t := 2) ?_
  refine aw_ret ?_
  refine ⟨_, res_1 rfl rfl, ?_, rfl⟩
  rw [formH_yes gh9 hall, tailR, gh12]; rfl
 have gh12 := h12
 simp only [nrm] at h12
 refine aw_sr ?_
 refine al_eq ?_
 refine al_gs ?_
 refine al_nil ?_
 refine aw_cond rfl (fun h15 => ?_) (fun h15 => ?_)
 ·have gh15 := h15
  simp only [nrm] at h15
  refine aw_sr ?_
  refine al_fp u37 info26 ?_
  refine al_ld u26 info26 ?_
  refine al_lm u26 ?_
  refine al_eq ?_
  refine al_mv ?_
  apply al_and 4 84 88 rfl
  ·intro h16; have gh16 := h16
   simp only [nrm] at h16
   refine tk_fp u37 info26 ?_
   refine tk_ld u26 info26 ?_
   refine al_callp_take into110 rfl rfl rfl rfl rfl rfl (r_IsB e.bits z2 z4 _) (by simp) ?_
   refine al_pk ?_
   exact al_nk gh16
  ·intro h16; have gh16 := h16
   simp only [nrm] at h16
   iterate 3 refine al_ps ?_
   refine al_pk ?_
   exact al_nk gh16
  refine al_mv ?_
  apply al_and 5 89 94 rfl
  ·intro h17; have gh17 := h17
   simp only [nrm] at h17
   refine tk_fp u37 info31 ?_
   refine tk_ld u31 info31 ?_
   refine al_t (op_len_map u31 rfl) ?_
   refine tk_eq ?_
   refine al_pk ?_
   exact al_nk gh17
  ·intro h17; have gh17 := h17
   iterate 4 refine al_ps ?_
   refine al_pk ?_
   exact al_nk gh17
  refine al_gs ?_
  refine al_nil ?_
  refine fz1 (t := 2) ?_
  refine aw_ret ?_
  refine ⟨_, res_1 rfl rfl, ?_, rfl⟩
  rw [formH_yes gh9 hall, tailR, gh12, gh15]; rfl
 have gh15 := h15
 simp only [nrm] at h15
 refine aw_sr ?_
 refine al_eq ?_
 refine al_gs ?_
 refine al_nil ?_
 refine aw_cond rfl (fun h18 => ?_) (fun h18 => ?_)
 ·have gh18 := h18
  simp only [nrm] at h18
  refine aw_sr ?_
  refine al_fp u37 info26 ?_
  refine al_ld u26 info26 ?_
  refine al_callp into110 rfl rfl rfl (r_IsB e.bits z2 z4 _) (by simp) ?_
  refine al_mv ?_
  apply al_and 5 100 105 rfl
  ·intro gh19
   refine tk_fp u37 info31 ?_
   refine tk_ld u31 info31 ?_
   refine al_t (op_len_map u31 rfl) ?_
   refine tk_eq ?_
   refine al_pk ?_
   exact al_nk gh19
  ·intro gh19
   iterate 4 refine al_ps ?_
   refine al_pk ?_
   exact al_nk gh19
  refine al_gs ?_
  refine al_nil ?_
  refine fz1 (t := 2) ?_
  refine aw_ret ?_
  refine ⟨_, res_1 rfl rfl, ?_, rfl⟩
  rw [formH_yes gh9 hall, tailR, gh12, gh15, gh18]; rfl
 have gh18 := h18
 simp only [nrm] at h18
 refine aw_sr ?_
 refine al_eq ?_
 refine al_gs ?_
 refine al_nil ?_
 refine aw_cond rfl (fun h20 => ?_) (fun h20 => ?_)
 ·have gh20 := h20
  simp only [nrm] at h20
  refine aw_sr ?_
  refine al_fp u37 info9 ?_
  refine al_ld u9 info9 ?_
  refine al_callp into67 rfl rfl rfl (r_isName e.name (by omega) _) (by simp) ?_
  refine al_mv ?_
  apply al_and 5 111 116 rfl
  ·intro gh21
   refine tk_fp u37 info31 ?_
   refine tk_ld u31 info31 ?_
   refine al_t (op_len_map u31 rfl) ?_
   refine tk_eq ?_
   refine al_pk ?_
   exact al_nk gh21
  ·intro gh21
   iterate 4 refine al_ps ?_
   refine al_pk ?_
   exact al_nk gh21
  refine al_gs ?_
  refine al_nil ?_
  refine fz1 (t := 2) ?_
  refine aw_ret ?_
  refine ⟨_, res_1 rfl rfl, ?_, rfl⟩
  rw [formH_yes gh9 hall, tailR, gh12, gh15, gh18, gh20]; rfl
 have gh20 := h20
 simp only [nrm] at h20
 refine aw_sr ?_
 refine al_eq ?_
 refine al_gs ?_
 refine al_nil ?_
 refine aw_cond rfl (fun h22 => ?_) (fun h22 => ?_)
 ·have gh22 := h22
  simp only [nrm] at h22
  refine aw_sr ?_
  refine al_fp u37 info9 ?_
  refine al_ld u9 info9 ?_
  refine al_fp u37 info31 ?_
  refine al_ld u31 info31 ?_
  refine al_lm u31 ?_
  refine al_callp into111 rfl rfl rfl ((r_operator _ _) _) (by simp) ?_
  refine al_mv ?_
  apply al_or 16 125 141 rfl
  ·intro gh23
   refine tk_fp u37 info9 ?_
   refine tk_ld u9 info9 ?_
   refine al_callp_take into67 rfl rfl rfl rfl rfl rfl ((r_isName _ (by first | assumption | omega | (simp; done) | (simp; omega) | decide)) _) (by simp) ?_
   refine tk_mv ?_
   apply al_and 5 129 134 rfl
   ·intro gh24
    refine tk_fp u37 info31 ?_
    refine tk_ld u31 info31 ?_
    refine al_t (op_len_map u31 rfl) ?_
    refine al_t (op_geq rfl rfl) ?_
    refine tk_pk ?_
    exact al_nk gh24
   ·intro gh24
    iterate 4 refine al_ps ?_
    refine tk_pk ?_
    exact al_nk gh24
   refine tk_mv ?_
   apply al_and 5 135 140 rfl
   ·intro h25; have gh25 := h25
    simp only [nrm] at h25
    refine tk_fp u37 info31 ?_
    refine tk_ld u31 info31 ?_
    refine al_t (op_len_map u31 rfl) ?_
    refine al_t (op_leq rfl rfl) ?_
    refine tk_pk ?_
    exact al_nk gh25
   ·intro h25; have gh25 := h25
    simp only [nrm] at h25
    iterate 4 refine al_ps ?_
    refine tk_pk ?_
    exact al_nk gh25
   refine al_pk ?_
   exact al_nk gh23
  ·intro gh23
   iterate 4 refine al_ps ?_
   refine al_pu ?_
   refine al_pu ?_
   refine al_pu ?_
   refine al_pu ?_
   iterate 2 refine al_ps ?_
   refine al_pu ?_
   refine al_pu ?_
   refine al_pu ?_
   refine al_pu ?_
   refine al_ps ?_
   refine al_pk ?_
   exact al_nk gh23
  refine al_gs ?_
  refine al_nil ?_
  refine fz1 (t := 2) ?_
  refine aw_ret ?_
  refine ⟨_, res_1 rfl rfl, ?_, rfl⟩
  rw [formH_yes gh9 hall, tailR, gh12, gh15, gh18, gh20, gh22]; rfl
 have gh22 := h22
 simp only [nrm] at h22
 refine aw_sr ?_
 refine al_eq ?_
 refine al_gs ?_
 refine al_nil ?_
 refine aw_cond rfl (fun h26 => ?_) (fun h26 => ?_)
 ·have gh26 := h26
  simp only [nrm] at h26
  refine aw_sr ?_
  refine al_fp u37 info31 ?_
  refine al_ld u31 info31 ?_
  refine al_lm u31 ?_
  refine al_eq ?_
  refine al_mv ?_
  apply al_and 7 148 155 rfl
  ·intro h27; have gh27 := h27
   simp only [nrm] at h27
   refine tk_fp u37 info31 ?_
   refine tk_ld u31 info31 ?_
   refine al_t (op_im u31 info37) ?_
   refine al_t (val_as (.rptr (cellsE (e.kids.getD 0 default))) (op_field_rptr u37 rfl info25 (by decide) rfl rfl) (by exact congrArg AVal.rptr (encE_cells _))) ?_
   refine al_t (op_load_rptr u25 info25 rfl rfl) ?_
   refine al_t (op_neq rfl rfl) ?_
   refine al_pk ?_
   exact al_nk gh27
  ·intro h27; have gh27 := h27
   simp only [nrm] at h27
   iterate 6 refine al_ps ?_
   refine al_pk ?_
   exact al_nk gh27
  refine al_gs ?_
  refine al_nil ?_
  refine fz1 (t := 2) ?_
  refine aw_ret ?_
  refine ⟨_, res_1 rfl rfl, ?_, rfl⟩
  rw [formH_yes gh9 hall, tailR, gh12, gh15, gh18, gh20, gh22, gh26]; rfl
 have gh26 := h26
 simp only [nrm] at h26
 refine aw_sr ?_
 refine al_eq ?_
 refine al_gs ?_
 refine al_nil ?_
 refine aw_cond rfl (fun h28 => ?_) (fun h28 => ?_)
 ·have gh28 := h28
  simp only [nrm] at h28
  refine aw_sr ?_
  refine al_fp u37 info31 ?_
  refine al_ld u31 info31 ?_
  refine al_lm u31 ?_
  refine al_eq ?_
  refine al_gs ?_
  refine al_nil ?_
  refine fz1 (t := 2) ?_
  refine aw_ret ?_
  refine ⟨_, res_1 rfl rfl, ?_, rfl⟩
  rw [formH_yes gh9 hall, tailR, gh12, gh15, gh18, gh20, gh22, gh26, gh28]; rfl
 have gh28 := h28
 simp only [nrm] at h28
 refine aw_skip ?_
 refine aw_sr ?_
 refine al_gs ?_
 refine al_nil ?_
 refine fz1 (t := 2) ?_
 refine aw_ret ?_
 refine ⟨_, res_1 rfl rfl, ?_, rfl⟩
 rw [formH_yes gh9 hall, tailR, gh12, gh15, gh18, gh20, gh22, gh26, gh28]; rfl
theorem r_form (e : Ex) : szE e = true → ACp Tryz.prog 57 [.agg (cellsE (e))] (.v (.bool (formP e))) := by
  induction e using Ex.ind with
  | h e ih =>
    intro hz
    obtain ⟨z1, z2, z3, z4, z5⟩ := szE_facts hz
    exact r_formS e hz (fun k hk => ih k hk (z5 k hk))
end Go.Proofs.YtcgdlhkiecommaaGreatDoor
/- Printed walks (gen.py, lexer_ann.py): part 433. -/



namespace Go.Proofs.YtcgdlhkiecommaaGreatDoor
open Go
theorem r_depthS (e : Ex) (hz : szE e = true) (hB : depQ e ≤ 1000000000) (ih : ∀ k ∈ e.kids, ACp Tryz.prog 58 [.agg (cellsE (k))] (.v (.int .i64 ((depQ k : Nat) : Int)))) : ACp Tryz.prog 58 [.agg (cellsE (e))] (.v (.int .i64 ((depQ e : Nat) : Int))) := by
 refine acp_of rfl ?_
 obtain ⟨z1, z2, z3, z4, z5⟩ := szE_facts hz
 refine ace 60 Tryz.func58 ?_
 refine aw_sr ?_
 refine al_bx 1 fun ver1 => ?_
 refine al_gs ?_
 refine al_sr ?_
 refine al_gs ?_
 refine al_nil ?_
 refine aw_seq ?_
 refine aw_sr ?_
 refine al_fp u37 info31 ?_
 refine al_ld u31 info31 ?_
 refine al_lm u31 ?_
 refine al_mv ?_
 refine al_nil ?_
 refine aw_block ?_
 refine aw_forT (ι := Nat) [3, 10] [5] (fun i => e.kids.length - i) (fun i => i ≤ e.kids.length) (fun i => ([(3, .v (.int .i64 ((mostR e (e.kids.map depQ) i : Nat) : Int))), (10, .v (.int .i64 ((i : Nat) : Int)))] : Env)) (fun i s => s) (0) ?_ ?_ ?_ (fun i hinv => ?_)
 ·exact Nat.zero_le _
 ·refine sub_2 ?_ ?_
  all_goals (first | rfl | simp)
 ·rfl
 have hi := hinv
 refine aw_sr ?_
 refine al_ls ?_
 refine al_nil ?_
 refine aw_seq ?_
 refine aw_cond rfl (fun h1 => ?_) (fun h1 => ?_)
 ·have gh1 := h1
  simp only [nrm] at h1
  have hks := (szE_facts (z5 (e.kids.getD i default) (getD_mem (by omega)))).1
  have hkd := kid_depQ (e := e) (i := i) (by omega)
  have hmo := mostR_mono e (e.kids.map depQ) hi
  rw [← depQ_eq] at hmo
  refine aw_skip ?_
  refine aw_seq ?_
  refine aw_block ?_
  refine aw_sr ?_
  refine al_mv ?_
  refine al_o (val_as (.rptr (cellsE (e.kids.getD i default))) (op_im u31 info37) (by exact congrArg AVal.rptr (encE_cells _))) ?_
  refine al_lr u37 info37 ?_
  refine al_al 5 info37 fun ver5 => ?_
  refine al_gs ?_
  refine al_sp info37 ?_
  refine al_sr ?_
  refine al_ld u37 info37 ?_
  refine al_callp into58 rfl rfl rfl (ih (e.kids.getD i default) (getD_mem (by omega)) _) (by simp) ?_
  refine al_gs ?_
  refine al_nil ?_
  refine aw_seq ?_
  refine aw_seq ?_
  refine aw_any (Checked.mixed Tryz.checked) ?_
  apply aany_seg (p := 0) (q := 6) (by kernel_rfl) rfl (by decide)
  ·
   apply ql_plain rfl (op_load_ptr u37 info37 rfl rfl rfl rfl)
   apply ql_call into112 rfl rfl rfl (r_level (e.kids.getD i default) hks _)
   apply ql_plain rfl (op_load_ptr u37 info37 rfl rfl rfl rfl)
   apply ql_plain rfl (op_move rfl)
   apply ql_call into113 rfl rfl rfl (r_least e z1 i _)
   apply ql_plain rfl (op_lss rfl rfl)
   exact ql_nil
  ·simp
  refine aany_end rfl (by kernel_rfl) ?_
  refine aw_cond rfl (fun h2 => ?_) (fun h2 => ?_)
  ·have gh2 := h2
   simp only [nrm] at h2
   have gl := gh2
   refine aw_region ?_
   refine al_mv ?_
   refine al_ad ?_
   refine al_gs ?_
   refine al_nil ?_
   refine aw_seq ?_
   refine aw_sr ?_
   refine al_fp u37 info25 ?_
   refine al_ld u25 info25 ?_
   refine al_eq ?_
   refine al_mv ?_
   apply al_or 4 28 32 rfl
   ·intro h3; have gh3 := h3
    simp only [nrm] at h3
    refine tk_fp u37 info25 ?_
    refine tk_ld u25 info25 ?_
    refine tk_eq ?_
    refine al_pk ?_
    exact al_nk gh3
   ·intro h3; have gh3 := h3
    simp only [nrm] at h3
    iterate 3 refine al_ps ?_
    refine al_pk ?_
    exact al_nk gh3
   refine al_mv ?_
   apply al_and 3 33 36 rfl
   ·intro h4; have gh4 := h4
    simp only [nrm] at h4
    refine tk_mv ?_
    refine al_t (op_gtr rfl rfl) ?_
    refine al_pk ?_
    exact al_nk gh4
   ·intro h4; have gh4 := h4
    simp only [nrm] at h4
    iterate 2 refine al_ps ?_
    refine al_pk ?_
    exact al_nk gh4
   refine al_mv ?_
   apply al_or 15 37 52 rfl
   ·intro h5; have gh5 := h5
    simp only [nrm] at h5
    refine tk_fp u37 info25 ?_
    refine tk_ld u25 info25 ?_
    refine tk_eq ?_
    refine tk_mv ?_
    apply al_and 10 41 51 rfl
    ·intro h6; have gh6 := h6
     simp only [nrm] at h6
     refine tk_fp u37 info9 ?_
     refine tk_ld u9 info9 ?_
     refine al_callp_take into67 rfl rfl rfl rfl rfl rfl (r_isName e.name (by omega) _) (by simp) ?_
     refine tk_mv ?_
     apply al_or 5 45 50 rfl
     ·intro gh7
      refine tk_fp u37 info31 ?_
      refine tk_ld u31 info31 ?_
      refine al_t (op_len_map u31 rfl) ?_
      refine tk_eq ?_
      refine tk_pk ?_
      exact al_nk gh7
     ·intro gh7
      iterate 4 refine al_ps ?_
      refine tk_pk ?_
      exact al_nk gh7
     refine tk_pk ?_
     exact al_nk gh6
    ·intro h6; have gh6 := h6
     simp only [nrm] at h6
     iterate 4 refine al_ps ?_
     refine al_pu ?_
     refine al_pu ?_
     refine al_pu ?_
     refine al_pu ?_
     refine al_ps ?_
     refine tk_pk ?_
     exact al_nk gh6
    refine al_pk ?_
    exact al_nk gh5
   ·intro h5; have gh5 := h5
    simp only [nrm] at h5
    iterate 4 refine al_ps ?_
    refine al_pu ?_
    refine al_pu ?_
    refine al_pu ?_
    refine al_pu ?_
    refine al_pu ?_
    refine al_pu ?_
    refine al_pu ?_
    refine al_pu ?_
    refine al_pu ?_
    refine al_ps ?_
    refine al_pk ?_
    exact al_nk gh5
   refine al_nil ?_
   refine aw_cond rfl (fun h8 => ?_) (fun h8 => ?_)
   ·have gh8 := h8
    simp only [nrm] at h8
    have gn := gh8
    refine aw_region ?_
    refine al_mv ?_
    refine al_ad ?_
    refine al_gs ?_
    refine al_nil ?_
    refine aw_region ?_
    refine al_mv ?_
    refine al_mv ?_
    refine al_o (op_max rfl rfl) ?_
    refine al_gs ?_
    refine al_nil ?_
    refine aw_region ?_
    refine al_ad ?_
    refine al_mv ?_
    refine al_nil ?_
    refine ⟨i + 1, ?_, ?_, ?_, ?_, ?_⟩
    ·omega
    ·omega
    ·refine sub_2 ?_ ?_
     all_goals (first | rfl | (exact congrArg (fun x => AVal.v (.int .i64 x)) (most_00 (by omega) gl gn); done) | (exact congrArg (fun x => AVal.v (.int .i64 x)) (most_01 (by omega) gl gn); done) | (exact congrArg (fun x => AVal.v (.int .i64 x)) (most_10 (by omega) gl gn); done) | (exact congrArg (fun x => AVal.v (.int .i64 x)) (most_11 (by omega) gl gn); done) | simp)
    ·exact sbl
    ·rfl
   have gh8 := h8
   simp only [nrm] at h8
   have gn := gh8
   refine aw_skip ?_
   refine aw_region ?_
   refine al_mv ?_
   refine al_mv ?_
   refine al_o (op_max rfl rfl) ?_
   refine al_gs ?_
   refine al_nil ?_
   refine aw_region ?_
   refine al_ad ?_
   refine al_mv ?_
   refine al_nil ?_
   refine ⟨i + 1, ?_, ?_, ?_, ?_, ?_⟩
   ·omega
   ·omega
   ·refine sub_2 ?_ ?_
    all_goals (first | rfl | (exact congrArg (fun x => AVal.v (.int .i64 x)) (most_00 (by omega) gl gn); done) | (exact congrArg (fun x => AVal.v (.int .i64 x)) (most_01 (by omega) gl gn); done) | (exact congrArg (fun x => AVal.v (.int .i64 x)) (most_10 (by omega) gl gn); done) | (exact congrArg (fun x => AVal.v (.int .i64 x)) (most_11 (by omega) gl gn); done) | simp)
   ·exact sbl
   ·rfl
  have gh2 := h2
  simp only [nrm] at h2
  have gl := gh2
  refine aw_skip ?_
  refine aw_seq ?_
  refine aw_sr ?_
  refine al_fp u37 info25 ?_
  refine al_ld u25 info25 ?_
  refine al_eq ?_
  refine al_mv ?_
  apply al_or 4 28 32 rfl
  ·intro h9; have gh9 := h9
   simp only [nrm] at h9
   refine tk_fp u37 info25 ?_
   refine tk_ld u25 info25 ?_
   refine tk_eq ?_
   refine al_pk ?_
   exact al_nk gh9
  ·intro h9; have gh9 := h9
   simp only [nrm] at h9
   iterate 3 refine al_ps ?_
   refine al_pk ?_
   exact al_nk gh9
  refine al_mv ?_
  apply al_and 3 33 36 rfl
  ·intro h10; have gh10 := h10
   simp only [nrm] at h10
   refine tk_mv ?_
   refine al_t (op_gtr rfl rfl) ?_
   refine al_pk ?_
   exact al_nk gh10
  ·intro h10; have gh10 := h10
   simp only [nrm] at h10
   iterate 2 refine al_ps ?_
   refine al_pk ?_
   exact al_nk gh10
  refine al_mv ?_
  apply al_or 15 37 52 rfl
  ·intro h11; have gh11 := h11
   simp only [nrm] at h11
   refine tk_fp u37 info25 ?_
   refine tk_ld u25 info25 ?_
   refine tk_eq ?_
   refine tk_mv ?_
   apply al_and 10 41 51 rfl
   ·intro h12; have gh12 := h12
    simp only [nrm] at h12
    refine tk_fp u37 info9 ?_
    refine tk_ld u9 info9 ?_
    refine al_callp_take into67 rfl rfl rfl rfl rfl rfl (r_isName e.name (by omega) _) (by simp) ?_
    refine tk_mv ?_
    apply al_or 5 45 50 rfl
    ·intro gh13
     refine tk_fp u37 info31 ?_
     refine tk_ld u31 info31 ?_
     refine al_t (op_len_map u31 rfl) ?_
     refine tk_eq ?_
     refine tk_pk ?_
     exact al_nk gh13
    ·intro gh13
     iterate 4 refine al_ps ?_
     refine tk_pk ?_
     exact al_nk gh13
    refine tk_pk ?_
    exact al_nk gh12
   ·intro h12; have gh12 := h12
    simp only [nrm] at h12
    iterate 4 refine al_ps ?_
    refine al_pu ?_
    refine al_pu ?_
    refine al_pu ?_
    refine al_pu ?_
    refine al_ps ?_
    refine tk_pk ?_
    exact al_nk gh12
   refine al_pk ?_
   exact al_nk gh11
  ·intro h11; have gh11 := h11
   simp only [nrm] at h11
   iterate 4 refine al_ps ?_
   refine al_pu ?_
   refine al_pu ?_
   refine al_pu ?_
   refine al_pu ?_
   refine al_pu ?_
   refine al_pu ?_
   refine al_pu ?_
   refine al_pu ?_
   refine al_pu ?_
   refine al_ps ?_
   refine al_pk ?_
   exact al_nk gh11
  refine al_nil ?_
  refine aw_cond rfl (fun h14 => ?_) (fun h14 => ?_)
  ·have gh14 := h14
   simp only [nrm] at h14
   have gn := gh14
   refine aw_region ?_
   refine al_mv ?_
   refine al_ad ?_
   refine al_gs ?_
   refine al_nil ?_
   refine aw_region ?_
   refine al_mv ?_
   refine al_mv ?_
   refine al_o (op_max rfl rfl) ?_
   refine al_gs ?_
   refine al_nil ?_
   refine aw_region ?_
   refine al_ad ?_
   refine al_mv ?_
   refine al_nil ?_
   refine ⟨i + 1, ?_, ?_, ?_, ?_, ?_⟩
   ·omega
   ·omega
   ·refine sub_2 ?_ ?_
    all_goals (first | rfl | (exact congrArg (fun x => AVal.v (.int .i64 x)) (most_00 (by omega) gl gn); done) | (exact congrArg (fun x => AVal.v (.int .i64 x)) (most_01 (by omega) gl gn); done) | (exact congrArg (fun x => AVal.v (.int .i64 x)) (most_10 (by omega) gl gn); done) | (exact congrArg (fun x => AVal.v (.int .i64 x)) (most_11 (by omega) gl gn); done) | simp)
   ·exact sbl
   ·rfl
  have gh14 := h14
  simp only [nrm] at h14
  have gn := gh14
  refine aw_skip ?_
  refine aw_region ?_
  refine al_mv ?_
  refine al_mv ?_
  refine al_o (op_max rfl rfl) ?_
  refine al_gs ?_
  refine al_nil ?_
  refine aw_region ?_
  refine al_ad ?_
  refine al_mv ?_
  refine al_nil ?_
  refine ⟨i + 1, ?_, ?_, ?_, ?_, ?_⟩
  ·omega
  ·omega
  ·refine sub_2 ?_ ?_
   all_goals (first | rfl | (exact congrArg (fun x => AVal.v (.int .i64 x)) (most_00 (by omega) gl gn); done) | (exact congrArg (fun x => AVal.v (.int .i64 x)) (most_01 (by omega) gl gn); done) | (exact congrArg (fun x => AVal.v (.int .i64 x)) (most_10 (by omega) gl gn); done) | (exact congrArg (fun x => AVal.v (.int .i64 x)) (most_11 (by omega) gl gn); done) | simp)
  ·exact sbl
  ·rfl
 have gh1 := h1
 simp only [nrm] at h1
 refine aw_exit ?_
 refine aw_sr ?_
 refine al_mv ?_
 refine al_gs ?_
 refine al_nil ?_
 refine fz1 (t := 2) ?_
 refine aw_ret ?_
 refine ⟨_, res_1 rfl rfl, ?_, rfl⟩
 have hl : i = e.kids.length := by omega
 rw [depQ_eq, hl]
theorem r_depth (e : Ex) : szE e = true → depQ e ≤ 1000000000 → ACp Tryz.prog 58 [.agg (cellsE (e))] (.v (.int .i64 ((depQ e : Nat) : Int))) := by
  induction e using Ex.ind with
  | h e ih =>
    intro hz hB
    obtain ⟨z1, z2, z3, z4, z5⟩ := szE_facts hz
    refine r_depthS e hz hB (fun k hk => ?_)
    obtain ⟨i, hi, rfl⟩ := List.getElem_of_mem hk
    have hkd := kid_depQ (e := e) (i := i) hi
    rw [List.getD_eq_getElem?_getD, List.getElem?_eq_getElem hi, Option.getD_some] at hkd
    exact ih _ hk (z5 _ hk) (by omega)
end Go.Proofs.YtcgdlhkiecommaaGreatDoor
/- Printed walks (gen.py, lexer_ann.py): part 434. -/



namespace Go.Proofs.YtcgdlhkiecommaaGreatDoor
open Go
theorem r_Valid (e : Ex) (hz : szE e = true) (hB : depQ e ≤ 1000000000) : ACp Tryz.prog 26 [.agg (cellsE (e))] (.v (.bool (validQ e))) := by
 refine acp_of rfl ?_
 refine ace 10 Tryz.func26 ?_
 refine aw_sr ?_
 refine al_bx 1 fun ver1 => ?_
 refine al_gs ?_
 refine al_sr ?_
 refine al_ld u37 info37 ?_
 refine al_callp into57 rfl rfl rfl (r_form e hz _) (by simp) ?_
 refine al_mv ?_
 apply al_and 4 5 9 rfl
 ·intro gh1
  refine tk_ld u37 info37 ?_
  refine al_callp_take into58 rfl rfl rfl rfl rfl rfl (r_depth e hz hB _) (by simp) ?_
  refine al_t (op_leq rfl rfl) ?_
  refine al_pk ?_
  exact al_nk gh1
 ·intro gh1
  iterate 3 refine al_ps ?_
  refine al_pk ?_
  exact al_nk gh1
 refine al_gs ?_
 refine al_nil ?_
 refine fz1 (t := 2) ?_
 refine aw_ret ?_
 refine ⟨_, res_1 rfl rfl, ?_, rfl⟩
 rfl
end Go.Proofs.YtcgdlhkiecommaaGreatDoor
/- Printed walks (gen.py, lexer_ann.py): part 435. -/




namespace Go.Proofs.YtcgdlhkiecommaaGreatDoor
open Go
theorem r_kidF (e : Ex) (hz : szE e = true) (i : Nat) (hi : i < e.kids.length) (hb : decide (levelR (e.kids.getD i default) < leastR e (i : Int)) = false) (hT : TKN Tryz.prog 104 [.agg (cellsE ((e.kids.getD i default)))] (toks (e.kids.getD i default))) (hL : (kidQ e i).length ≤ 1000000000) : AC Tryz.prog 160 [.agg (cellsE (e)), .v (.int .i64 ((i : Nat) : Int))] ([]) (fun r σ' => ∃ ver, r = .ret (.slice 0 ver 0 (kidQ e i).length) ∧ σ'.keep (fun i => i == 0) = [(0, ver, .row 5 ((kidQ e i).map encK))]) := by
 obtain ⟨z1, z2, z3, z4, z5⟩ := szE_facts hz
 have hks := (szE_facts (z5 (e.kids.getD i default) (getD_mem hi))).1
 have hs6 : (toks (e.kids[i]?.getD default)).length = (toks (e.kids.getD i default)).length := by rw [List.getD_eq_getElem?_getD]
 have hq := kidQ_no hb
 refine ace 30 Tryz.func160 ?_
 refine aw_sr ?_
 refine al_bx 2 fun ver2 => ?_
 refine al_gs ?_
 refine al_sr ?_
 refine al_fp u37 info31 ?_
 refine al_ld u31 info31 ?_
 refine al_mv ?_
 refine al_o (val_as (.rptr (cellsE (e.kids.getD i default))) (op_im u31 info37) (by exact congrArg AVal.rptr (encE_cells _))) ?_
 refine al_lr u37 info37 ?_
 (refine al_call into104 rfl rfl rfl (tkn_at 0 (by decide) rfl (hT) rfl rfl) (by simp) ?_; rintro _ _ ⟨ver11, rfl, rfl⟩)
 refine al_gs ?_
 refine al_nil ?_
 refine aw_seq ?_
 refine aw_seq ?_
 refine aw_any (Checked.mixed Tryz.checked) ?_
 apply aany_seg (p := 0) (q := 10) (by kernel_rfl) rfl (by decide)
 ·
  apply ql_plain rfl (op_field_ptr u37 rfl info31 (by decide) rfl rfl rfl)
  apply ql_plain rfl (op_load_ptr u31 info31 rfl rfl rfl rfl)
  apply ql_plain rfl (op_move rfl)
  apply ql_plain rfl (val_as (.rptr (cellsE (e.kids.getD i default))) (op_im u31 info37) (by exact congrArg AVal.rptr (encE_cells _)))
  apply ql_plain rfl (op_load_rptr u37 info37 rfl rfl)
  apply ql_call into112 rfl rfl rfl (r_level (e.kids.getD i default) hks _)
  apply ql_plain rfl (op_load_ptr u37 info37 rfl rfl rfl rfl)
  apply ql_plain rfl (op_move rfl)
  apply ql_call into113 rfl rfl rfl (r_least e z1 i _)
  apply ql_plain rfl (op_lss rfl rfl)
  exact ql_nil
 ·simp
 refine aany_end rfl (by kernel_rfl) ?_
 refine aw_cond rfl (fun h1 => ?_) (fun h1 => ?_)
 ·have gh1 := h1
  simp only [nrm] at h1
  rw [hb] at gh1; cases gh1
 have gh1 := h1
 simp only [nrm] at h1
 refine aw_skip ?_
 refine aw_sr ?_
 refine al_mv ?_
 refine al_gs ?_
 refine al_nil ?_
 refine aw_ret ?_
 refine ⟨_, res_1 rfl rfl, ?_⟩
 rw [← hq]; exact ⟨ver11, rfl, rfl⟩
theorem r_kidT (e : Ex) (hz : szE e = true) (i : Nat) (hi : i < e.kids.length) (hb : decide (levelR (e.kids.getD i default) < leastR e (i : Int)) = true) (hT : TKN Tryz.prog 104 [.agg (cellsE ((e.kids.getD i default)))] (toks (e.kids.getD i default))) (hL : (kidQ e i).length ≤ 1000000000) : AC Tryz.prog 160 [.agg (cellsE (e)), .v (.int .i64 ((i : Nat) : Int))] ([]) (fun r σ' => ∃ ver, r = .ret (.slice 0 ver 0 (kidQ e i).length) ∧ σ'.keep (fun i => i == 0) = [(0, ver, .row 5 ((kidQ e i).map encK))]) := by
 obtain ⟨z1, z2, z3, z4, z5⟩ := szE_facts hz
 have hks := (szE_facts (z5 (e.kids.getD i default) (getD_mem hi))).1
 have hs6 : (toks (e.kids[i]?.getD default)).length = (toks (e.kids.getD i default)).length := by rw [List.getD_eq_getElem?_getD]
 have hq := kidQ_yes hb
 refine ace 30 Tryz.func160 ?_
 refine aw_sr ?_
 refine al_bx 2 fun ver2 => ?_
 refine al_gs ?_
 refine al_sr ?_
 refine al_fp u37 info31 ?_
 refine al_ld u31 info31 ?_
 refine al_mv ?_
 refine al_o (val_as (.rptr (cellsE (e.kids.getD i default))) (op_im u31 info37) (by exact congrArg AVal.rptr (encE_cells _))) ?_
 refine al_lr u37 info37 ?_
 (refine al_call into104 rfl rfl rfl (tkn_at 11 (by decide) rfl (hT) rfl rfl) (by simp) ?_; rintro _ _ ⟨ver11, rfl, rfl⟩)
 refine al_gs ?_
 refine al_nil ?_
 refine aw_seq ?_
 refine aw_seq ?_
 refine aw_any (Checked.mixed Tryz.checked) ?_
 apply aany_seg (p := 0) (q := 10) (by kernel_rfl) rfl (by decide)
 ·
  apply ql_plain rfl (op_field_ptr u37 rfl info31 (by decide) rfl rfl rfl)
  apply ql_plain rfl (op_load_ptr u31 info31 rfl rfl rfl rfl)
  apply ql_plain rfl (op_move rfl)
  apply ql_plain rfl (val_as (.rptr (cellsE (e.kids.getD i default))) (op_im u31 info37) (by exact congrArg AVal.rptr (encE_cells _)))
  apply ql_plain rfl (op_load_rptr u37 info37 rfl rfl)
  apply ql_call into112 rfl rfl rfl (r_level (e.kids.getD i default) hks _)
  apply ql_plain rfl (op_load_ptr u37 info37 rfl rfl rfl rfl)
  apply ql_plain rfl (op_move rfl)
  apply ql_call into113 rfl rfl rfl (r_least e z1 i _)
  apply ql_plain rfl (op_lss rfl rfl)
  exact ql_nil
 ·simp
 refine aany_end rfl (by kernel_rfl) ?_
 refine aw_cond rfl (fun h1 => ?_) (fun h1 => ?_)
 ·have gh1 := h1
  simp only [nrm] at h1
  rw [← hq] at hL
  simp only [List.length_append, List.length_cons, List.length_nil] at hL
  refine aw_region ?_
  refine al_callp into117 rfl rfl rfl ((r_sign _) _) (by simp) ?_
  (refine al_opR (op_list_own encK [tkO] 0 u22 info65 rfl rfl (by decide) rfl (by decide) rfl (by first | rfl | (repeat (first | exact parts_nil | refine parts_cons rfl (by repeat (first | exact all_live_nil | refine all_live_clo rfl ?_ | refine all_live_slice rfl ?_ | refine all_live_map rfl ?_ | refine all_live_ptr rfl ?_)) ?_))) rfl rfl (by first | rfl | (repeat (first | exact parts_nil | refine parts_cons rfl (by repeat (first | exact all_live_nil | refine all_live_clo rfl ?_ | refine all_live_slice rfl ?_ | refine all_live_map rfl ?_ | refine all_live_ptr rfl ?_)) ?_))) rfl rfl) rfl (by simp) ?_; rintro _ _ ⟨ver23, rfl, rfl⟩)
  refine al_mv ?_
  (refine al_opR (op_am u22 u22 info65 48) rfl (by simp) ?_; rintro _ _ ⟨ver25, rfl, rfl⟩)
  refine al_callp into117 rfl rfl rfl ((r_sign _) _) (by simp) ?_
  refine al_o (op_ol encK [tkC] u22 info65) ?_
  (refine al_opR (op_am u22 u22 info65 48) rfl (by simp) ?_; rintro _ _ ⟨ver28, rfl, rfl⟩)
  refine al_gs ?_
  refine al_sr ?_
  refine al_mv ?_
  refine al_gs ?_
  refine al_nil ?_
  refine aw_ret ?_
  refine ⟨_, res_1 rfl rfl, ?_⟩
  rw [← hq]; exact ⟨ver28, rfl, rfl⟩
 have gh1 := h1
 simp only [nrm] at h1
 rw [hb] at gh1; cases gh1
theorem r_kid (e : Ex) (hz : szE e = true) (i : Nat) (hi : i < e.kids.length) (hT : TKN Tryz.prog 104 [.agg (cellsE ((e.kids.getD i default)))] (toks (e.kids.getD i default))) (hL : (kidQ e i).length ≤ 1000000000) : TKN Tryz.prog 160 [.agg (cellsE (e)), .v (.int .i64 ((i : Nat) : Int))] (kidQ e i) := by
  cases hb : decide (levelR (e.kids.getD i default) < leastR e (i : Int)) with
  | false => exact tkn_of (r_kidF e hz i hi hb hT hL)
  | true => exact tkn_of (r_kidT e hz i hi hb hT hL)
end Go.Proofs.YtcgdlhkiecommaaGreatDoor
/- Printed walks (gen.py, lexer_ann.py): part 436. -/



namespace Go.Proofs.YtcgdlhkiecommaaGreatDoor
open Go
theorem r_tokensS (e : Ex) (hz : szE e = true) (hf : formP e = true) (hL : (toks e).length ≤ 1000000000) (ih : ∀ k ∈ e.kids, (toks k).length ≤ 1000000000 → TKN Tryz.prog 104 [.agg (cellsE (k))] (toks k)) : AC Tryz.prog 104 [.agg (cellsE (e))] ([]) (fun r σ' => ∃ ver, r = .ret (.slice 0 ver 0 (toks e).length) ∧ σ'.keep (fun i => i == 0) = [(0, ver, .row 5 ((toks e).map encK))]) := by
 obtain ⟨z1, z2, z3, z4, z5⟩ := szE_facts hz
 refine ace 126 Tryz.func104 ?_
 refine aw_sr ?_
 refine al_bx 1 fun ver1 => ?_
 refine al_gs ?_
 refine al_sr ?_
 refine al_gs ?_
 refine al_nil ?_
 refine aw_seq ?_
 refine aw_sr ?_
 refine al_fp u37 info25 ?_
 refine al_ld u25 info25 ?_
 refine al_nil ?_
 refine aw_block ?_
 refine aw_sr ?_
 refine al_eq ?_
 refine al_gs ?_
 refine al_nil ?_
 refine aw_cond rfl (fun h1 => ?_) (fun h1 => ?_)
 ·have gh1 := h1
  simp only [nrm] at h1
  refine aw_sr ?_
  refine al_fp u37 info3 ?_
  refine al_ld u3 info3 ?_
  refine al_o (op_bs u65 info65 place65) ?_
  (refine al_opR (op_list_own encK [⟨3, [], e.n, 0, 0⟩] 0 u22 info65 rfl rfl (by decide) rfl (by decide) rfl (by first | rfl | (repeat (first | exact parts_nil | refine parts_cons rfl (by repeat (first | exact all_live_nil | refine all_live_clo rfl ?_ | refine all_live_slice rfl ?_ | refine all_live_map rfl ?_ | refine all_live_ptr rfl ?_)) ?_))) rfl rfl (by first | rfl | (repeat (first | exact parts_nil | refine parts_cons rfl (by repeat (first | exact all_live_nil | refine all_live_clo rfl ?_ | refine all_live_slice rfl ?_ | refine all_live_map rfl ?_ | refine all_live_ptr rfl ?_)) ?_))) rfl rfl) rfl (by simp) ?_; rintro _ _ ⟨ver12, rfl, rfl⟩)
  refine al_gs ?_
  refine al_nil ?_
  refine aw_ret ?_
  refine ⟨_, res_1 rfl rfl, ?_⟩
  rw [(toks_int gh1).1]; exact ⟨ver12, rfl, rfl⟩
 have gh1 := h1
 simp only [nrm] at h1
 refine aw_sr ?_
 refine al_eq ?_
 refine al_gs ?_
 refine al_nil ?_
 refine aw_cond rfl (fun h2 => ?_) (fun h2 => ?_)
 ·have gh2 := h2
  simp only [nrm] at h2
  refine aw_sr ?_
  refine al_fp u37 info26 ?_
  refine al_ld u26 info26 ?_
  refine al_callp into159 rfl rfl rfl (r_letters e.bits z2 z4 (form_bits2 hf gh2) _) (by simp) ?_
  refine al_o (op_bs u65 info65 place65) ?_
  (refine al_opR (op_list_own encK [⟨4, bitsT e.bits, 0, 0, 0⟩] 0 u22 info65 rfl rfl (by decide) rfl (by decide) rfl (by first | rfl | (repeat (first | exact parts_nil | refine parts_cons rfl (by repeat (first | exact all_live_nil | refine all_live_clo rfl ?_ | refine all_live_slice rfl ?_ | refine all_live_map rfl ?_ | refine all_live_ptr rfl ?_)) ?_))) rfl rfl (by first | rfl | (repeat (first | exact parts_nil | refine parts_cons rfl (by repeat (first | exact all_live_nil | refine all_live_clo rfl ?_ | refine all_live_slice rfl ?_ | refine all_live_map rfl ?_ | refine all_live_ptr rfl ?_)) ?_))) rfl rfl) rfl (by simp) ?_; rintro _ _ ⟨ver19, rfl, rfl⟩)
  refine al_gs ?_
  refine al_nil ?_
  refine aw_ret ?_
  refine ⟨_, res_1 rfl rfl, ?_⟩
  rw [(toks_bit gh1 gh2).1]; exact ⟨ver19, rfl, rfl⟩
 have gh2 := h2
 simp only [nrm] at h2
 refine aw_sr ?_
 refine al_eq ?_
 refine al_gs ?_
 refine al_nil ?_
 refine aw_cond rfl (fun h3 => ?_) (fun h3 => ?_)
 ·have gh3 := h3
  simp only [nrm] at h3
  refine aw_sr ?_
  refine al_fp u37 info26 ?_
  refine al_ld u26 info26 ?_
  refine al_callp into159 rfl rfl rfl (r_letters e.bits z2 z4 (form_bits3 hf gh3) _) (by simp) ?_
  refine al_o (op_bs u65 info65 place65) ?_
  (refine al_opR (op_list_own encK [⟨5, bitsT e.bits, 0, 0, 0⟩] 0 u22 info65 rfl rfl (by decide) rfl (by decide) rfl (by first | rfl | (repeat (first | exact parts_nil | refine parts_cons rfl (by repeat (first | exact all_live_nil | refine all_live_clo rfl ?_ | refine all_live_slice rfl ?_ | refine all_live_map rfl ?_ | refine all_live_ptr rfl ?_)) ?_))) rfl rfl (by first | rfl | (repeat (first | exact parts_nil | refine parts_cons rfl (by repeat (first | exact all_live_nil | refine all_live_clo rfl ?_ | refine all_live_slice rfl ?_ | refine all_live_map rfl ?_ | refine all_live_ptr rfl ?_)) ?_))) rfl rfl) rfl (by simp) ?_; rintro _ _ ⟨ver26, rfl, rfl⟩)
  refine al_gs ?_
  refine al_nil ?_
  refine aw_ret ?_
  refine ⟨_, res_1 rfl rfl, ?_⟩
  rw [(toks_vec gh1 gh2 gh3).1]; exact ⟨ver26, rfl, rfl⟩
 have gh3 := h3
 simp only [nrm] at h3
 refine aw_sr ?_
 refine al_eq ?_
 refine al_gs ?_
 refine al_nil ?_
 refine aw_cond rfl (fun h4 => ?_) (fun h4 => ?_)
 ·have gh4 := h4
  simp only [nrm] at h4
  refine aw_sr ?_
  refine al_fp u37 info9 ?_
  refine al_ld u9 info9 ?_
  refine al_o (op_bs u65 info65 place65) ?_
  (refine al_opR (op_list_own encK [tkN e.name] 0 u22 info65 rfl rfl (by decide) rfl (by decide) rfl (by first | rfl | (repeat (first | exact parts_nil | refine parts_cons rfl (by repeat (first | exact all_live_nil | refine all_live_clo rfl ?_ | refine all_live_slice rfl ?_ | refine all_live_map rfl ?_ | refine all_live_ptr rfl ?_)) ?_))) rfl rfl (by first | rfl | (repeat (first | exact parts_nil | refine parts_cons rfl (by repeat (first | exact all_live_nil | refine all_live_clo rfl ?_ | refine all_live_slice rfl ?_ | refine all_live_map rfl ?_ | refine all_live_ptr rfl ?_)) ?_))) rfl rfl) rfl (by simp) ?_; rintro _ _ ⟨ver32, rfl, rfl⟩)
  refine al_gs ?_
  refine al_nil ?_
  refine aw_ret ?_
  refine ⟨_, res_1 rfl rfl, ?_⟩
  rw [(toks_name gh1 gh2 gh3 gh4).1]; exact ⟨ver32, rfl, rfl⟩
 have gh4 := h4
 simp only [nrm] at h4
 refine aw_sr ?_
 refine al_eq ?_
 refine al_gs ?_
 refine al_nil ?_
 refine aw_cond rfl (fun h5 => ?_) (fun h5 => ?_)
 ·have gh5 := h5
  simp only [nrm] at h5
  have hk := kids_6 hf gh5
  have ht := tokQ_index hf (by simpa using gh5) hk
  have hL2 := hL
  rw [← ht] at hL2
  simp only [List.length_append, List.length_cons, List.length_nil] at hL2
  refine aw_seq ?_
  refine aw_plan [0, 5, 1, 2, 3, 4, 6, 7, 8] (Checked.mixed Tryz.checked) (by kernel_rfl) ?_
  refine afl_float rfl rfl (opk_of (op_load_ptr u37 info37 rfl rfl rfl rfl)) (by simp) ?_
  refine afl_float rfl rfl (opk_of (op_load_ptr u37 info37 rfl rfl rfl rfl)) (by simp) ?_
  (refine afl_call rfl (by kernel_rfl) into160 rfl rfl rfl (tkn_at 0 (by decide) rfl (r_kid e hz 0 (by omega) (ih _ (getD_mem (by omega)) (by have := kidQ_len e 0; omega)) (by omega)) rfl rfl) (by simp) ?_; rintro _ _ ⟨ver36, rfl, rfl⟩; refine ⟨_, rfl, ?_, ?_⟩)
  ·
   refine loose_k rfl (opk_of (op_load_ptr u37 info37 rfl rfl rfl rfl)) ?_
   refine loose_anc 0 rfl (by kernel_rfl) ?_
   exact loose_nil
  refine afl_float rfl rfl (opk_call into117 rfl rfl rfl ((r_sign _) _)) (by simp) ?_
  refine afl_float rfl rfl (opk_of (op_ol encK [tkO] u22 info65)) (by simp) ?_
  (refine afl_effR rfl rfl (by kernel_rfl) (op_am u22 u22 info65 48) (by simp) ?_; rintro _ _ ⟨ver39, rfl, rfl⟩; refine ⟨?_, ?_⟩)
  ·
   refine loose_anc 3 rfl (by kernel_rfl) ?_
   refine loose_anc 2 rfl (by kernel_rfl) ?_
   refine loose_fix rfl ?_
   refine loose_k rfl (opk_of (op_load_ptr u37 info37 rfl rfl rfl rfl)) ?_
   refine loose_anc 0 rfl (by kernel_rfl) ?_
   exact loose_nil
  (refine afl_call rfl (by kernel_rfl) into160 rfl rfl rfl (tkn_at 41 (by decide) rfl (r_kid e hz 1 (by omega) (ih _ (getD_mem (by omega)) (by have := kidQ_len e 1; omega)) (by omega)) rfl rfl) (by simp) ?_; rintro _ _ ⟨ver41, rfl, rfl⟩; refine ⟨_, rfl, ?_, ?_⟩)
  ·
   refine loose_fix rfl ?_
   refine loose_anc 3 rfl (by kernel_rfl) ?_
   refine loose_anc 2 rfl (by kernel_rfl) ?_
   refine loose_fix rfl ?_
   refine loose_anc 5 rfl (by kernel_rfl) ?_
   refine loose_anc 0 rfl (by kernel_rfl) ?_
   exact loose_nil
  (refine afl_effR rfl rfl (by kernel_rfl) (op_am u22 u22 info65 48) (by simp) ?_; rintro _ _ ⟨ver42, rfl, rfl⟩; refine ⟨?_, ?_⟩)
  ·
   refine loose_fix rfl ?_
   refine loose_fix rfl ?_
   refine loose_anc 3 rfl (by kernel_rfl) ?_
   refine loose_anc 2 rfl (by kernel_rfl) ?_
   refine loose_fix rfl ?_
   refine loose_anc 5 rfl (by kernel_rfl) ?_
   refine loose_anc 0 rfl (by kernel_rfl) ?_
   exact loose_nil
  refine afl_float rfl rfl (opk_of (op_assign rfl)) (by simp) ?_
  refine afl_end ?_
  refine aw_sr ?_
  refine al_mv ?_
  refine al_callp into117 rfl rfl rfl ((r_sign _) _) (by simp) ?_
  refine al_o (op_ol encK [tkC] u22 info65) ?_
  (refine al_opR (op_am u22 u22 info65 48) rfl (by simp) ?_; rintro _ _ ⟨ver46, rfl, rfl⟩)
  refine al_gs ?_
  refine al_nil ?_
  refine aw_ret ?_
  refine ⟨_, res_1 rfl rfl, ?_⟩
  rw [← ht]; exact ⟨ver46, rfl, rfl⟩
 have gh5 := h5
 simp only [nrm] at h5
 refine aw_sr ?_
 refine al_eq ?_
 refine al_gs ?_
 refine al_nil ?_
 refine aw_cond rfl (fun h6 => ?_) (fun h6 => ?_)
 ·have gh6 := h6
  simp only [nrm] at h6
  have hk := kids_7 hf gh6
  have ht := tokQ_slice hf (by simpa using gh6) hk
  have hL2 := hL
  rw [← ht] at hL2
  simp only [List.length_append, List.length_cons, List.length_nil] at hL2
  refine aw_seq ?_
  refine aw_plan [0, 5, 1, 2, 3, 4, 6, 7, 8] (Checked.mixed Tryz.checked) (by kernel_rfl) ?_
  refine afl_float rfl rfl (opk_of (op_load_ptr u37 info37 rfl rfl rfl rfl)) (by simp) ?_
  refine afl_float rfl rfl (opk_of (op_load_ptr u37 info37 rfl rfl rfl rfl)) (by simp) ?_
  (refine afl_call rfl (by kernel_rfl) into160 rfl rfl rfl (tkn_at 0 (by decide) rfl (r_kid e hz 0 (by omega) (ih _ (getD_mem (by omega)) (by have := kidQ_len e 0; omega)) (by omega)) rfl rfl) (by simp) ?_; rintro _ _ ⟨ver50, rfl, rfl⟩; refine ⟨_, rfl, ?_, ?_⟩)
  ·
   refine loose_k rfl (opk_of (op_load_ptr u37 info37 rfl rfl rfl rfl)) ?_
   refine loose_anc 0 rfl (by kernel_rfl) ?_
   exact loose_nil
  refine afl_float rfl rfl (opk_call into117 rfl rfl rfl ((r_sign _) _)) (by simp) ?_
  refine afl_float rfl rfl (opk_of (op_ol encK [tkO] u22 info65)) (by simp) ?_
  (refine afl_effR rfl rfl (by kernel_rfl) (op_am u22 u22 info65 48) (by simp) ?_; rintro _ _ ⟨ver53, rfl, rfl⟩; refine ⟨?_, ?_⟩)
  ·
   refine loose_anc 3 rfl (by kernel_rfl) ?_
   refine loose_anc 2 rfl (by kernel_rfl) ?_
   refine loose_fix rfl ?_
   refine loose_k rfl (opk_of (op_load_ptr u37 info37 rfl rfl rfl rfl)) ?_
   refine loose_anc 0 rfl (by kernel_rfl) ?_
   exact loose_nil
  (refine afl_call rfl (by kernel_rfl) into160 rfl rfl rfl (tkn_at 55 (by decide) rfl (r_kid e hz 1 (by omega) (ih _ (getD_mem (by omega)) (by have := kidQ_len e 1; omega)) (by omega)) rfl rfl) (by simp) ?_; rintro _ _ ⟨ver55, rfl, rfl⟩; refine ⟨_, rfl, ?_, ?_⟩)
  ·
   refine loose_fix rfl ?_
   refine loose_anc 3 rfl (by kernel_rfl) ?_
   refine loose_anc 2 rfl (by kernel_rfl) ?_
   refine loose_fix rfl ?_
   refine loose_anc 5 rfl (by kernel_rfl) ?_
   refine loose_anc 0 rfl (by kernel_rfl) ?_
   exact loose_nil
  (refine afl_effR rfl rfl (by kernel_rfl) (op_am u22 u22 info65 48) (by simp) ?_; rintro _ _ ⟨ver56, rfl, rfl⟩; refine ⟨?_, ?_⟩)
  ·
   refine loose_fix rfl ?_
   refine loose_fix rfl ?_
   refine loose_anc 3 rfl (by kernel_rfl) ?_
   refine loose_anc 2 rfl (by kernel_rfl) ?_
   refine loose_fix rfl ?_
   refine loose_anc 5 rfl (by kernel_rfl) ?_
   refine loose_anc 0 rfl (by kernel_rfl) ?_
   exact loose_nil
  refine afl_float rfl rfl (opk_of (op_assign rfl)) (by simp) ?_
  refine afl_end ?_
  refine aw_seq ?_
  refine aw_plan [0, 1, 2, 4, 3, 5, 6, 7] (Checked.mixed Tryz.checked) (by kernel_rfl) ?_
  refine afl_float rfl rfl (opk_of (op_move rfl)) (by simp) ?_
  refine afl_float rfl rfl (opk_call into116 rfl rfl rfl (r_word sDownto (by decide) _)) (by simp) ?_
  refine afl_float rfl rfl (opk_of (op_ol encK [tkS sDownto] u22 info65)) (by simp) ?_
  refine afl_float rfl rfl (opk_of (op_load_ptr u37 info37 rfl rfl rfl rfl)) (by simp) ?_
  (refine afl_effR rfl rfl (by kernel_rfl) (op_am u22 u22 info65 48) (by simp) ?_; rintro _ _ ⟨ver60, rfl, rfl⟩; refine ⟨?_, ?_⟩)
  ·
   refine loose_k rfl (opk_of (op_load_ptr u37 info37 rfl rfl rfl rfl)) ?_
   refine loose_anc 2 rfl (by kernel_rfl) ?_
   refine loose_anc 1 rfl (by kernel_rfl) ?_
   refine loose_anc 0 rfl (by kernel_rfl) ?_
   exact loose_nil
  (refine afl_call rfl (by kernel_rfl) into160 rfl rfl rfl (tkn_at 62 (by decide) rfl (r_kid e hz 2 (by omega) (ih _ (getD_mem (by omega)) (by have := kidQ_len e 2; omega)) (by omega)) rfl rfl) (by simp) ?_; rintro _ _ ⟨ver62, rfl, rfl⟩; refine ⟨_, rfl, ?_, ?_⟩)
  ·
   refine loose_fix rfl ?_
   refine loose_anc 4 rfl (by kernel_rfl) ?_
   refine loose_anc 2 rfl (by kernel_rfl) ?_
   refine loose_anc 1 rfl (by kernel_rfl) ?_
   refine loose_anc 0 rfl (by kernel_rfl) ?_
   exact loose_nil
  (refine afl_effR rfl rfl (by kernel_rfl) (op_am u22 u22 info65 48) (by simp) ?_; rintro _ _ ⟨ver63, rfl, rfl⟩; refine ⟨?_, ?_⟩)
  ·
   refine loose_fix rfl ?_
   refine loose_fix rfl ?_
   refine loose_anc 4 rfl (by kernel_rfl) ?_
   refine loose_anc 2 rfl (by kernel_rfl) ?_
   refine loose_anc 1 rfl (by kernel_rfl) ?_
   refine loose_anc 0 rfl (by kernel_rfl) ?_
   exact loose_nil
  refine afl_float rfl rfl (opk_of (op_assign rfl)) (by simp) ?_
  refine afl_end ?_
  refine aw_sr ?_
  refine al_mv ?_
  refine al_callp into117 rfl rfl rfl ((r_sign _) _) (by simp) ?_
  refine al_o (op_ol encK [tkC] u22 info65) ?_
  (refine al_opR (op_am u22 u22 info65 48) rfl (by simp) ?_; rintro _ _ ⟨ver67, rfl, rfl⟩)
  refine al_gs ?_
  refine al_nil ?_
  refine aw_ret ?_
  refine ⟨_, res_1 rfl rfl, ?_⟩
  rw [← ht]; exact ⟨ver67, rfl, rfl⟩
 have gh6 := h6
 simp only [nrm] at h6
 refine aw_skip ?_
 refine aw_seq ?_
 refine aw_block ?_
 refine aw_sr ?_
 refine al_fp u37 info9 ?_
 refine al_ld u9 info9 ?_
 refine al_callp into67 rfl rfl rfl (r_isName e.name (by omega) _) (by simp) ?_
 refine al_gs ?_
 refine al_nil ?_
 refine aw_cond rfl (fun gh7 => ?_) (fun gh7 => ?_)
 ·have h5 := op_5 hf gh1 gh2 gh3 gh4 gh5 gh6
  have hk := kids_call hf h5 gh7
  have ht := tokQ_call hf h5 gh7 hk
  have hL2 := hL
  rw [← ht] at hL2
  simp only [List.length_append, List.length_cons, List.length_nil] at hL2
  refine aw_seq ?_
  refine aw_own_map encK 0 5 3 rfl rfl (fun ver3 => ?_)
  refine aw_region ?_
  refine al_mv ?_
  refine al_fp u37 info9 ?_
  refine al_ld u9 info9 ?_
  refine al_o (op_bs u65 info65 place65) ?_
  refine al_o (op_ol encK [tkN e.name] u22 info65) ?_
  (refine al_opR (op_am u22 u22 info65 48) rfl (by simp) ?_; rintro _ _ ⟨ver77, rfl, rfl⟩)
  refine al_gs ?_
  refine al_nil ?_
  refine aw_seq ?_
  refine aw_sr ?_
  refine al_fp u37 info31 ?_
  refine al_ld u31 info31 ?_
  refine al_lm u31 ?_
  refine al_mv ?_
  refine al_nil ?_
  refine aw_block ?_
  refine aw_for2T (α := Nat) (β := Nat) [3, 81] [96] (fun i v => e.kids.length - i) (fun i v => i ≤ e.kids.length) (fun i v => ([(3, .slice 0 v 0 (callQ e i).length), (81, .v (.int .i64 ((i : Nat) : Int)))] : Env)) (fun i v s => [(1, ver1, .row 16 [cellsE e]), (0, v, .row 5 ((callQ e i).map encK))]) (0) (ver77) ?_ ?_ ?_ (fun i v hinv => ?_)
  ·exact Nat.zero_le _
  ·refine sub_2 ?_ ?_
   all_goals (first | rfl | simp)
  ·rfl
  have hi := hinv
  refine aw_sr ?_
  refine al_ls ?_
  refine al_nil ?_
  refine aw_seq ?_
  refine aw_cond rfl (fun h8 => ?_) (fun h8 => ?_)
  ·have gh8 := h8
   simp only [nrm] at h8
   have hcl := callQ_len (e := e) (i + 1) e.kids.length (by omega)
   rw [callQ] at hcl
   simp only [List.length_append, List.length_cons, List.length_nil] at hcl
   refine aw_skip ?_
   refine aw_seq ?_
   refine aw_block ?_
   refine aw_sr ?_
   refine al_mv ?_
   refine al_gs ?_
   refine al_sr ?_
   refine al_mv ?_
   refine al_o (op_ol encBs [sOpen, sComma] u32 info9) ?_
   refine al_mv ?_
   refine al_o (val_as (.v (.int .i64 (((min i 1 : Nat) : Nat) : Int))) (op_min rfl rfl) (by rw [show min (i : Int) 1 = ((min i 1 : Nat) : Int) by omega])) ?_
   refine al_o (val_as (.rptr (encBs (if i = 0 then sOpen else sComma))) (op_index_map default u32 info9 rfl rfl rfl (by first | (with_reducible exact Int.toNat_natCast _) | rfl) (by omega) (by show _ < 2; omega)) (by by_cases h0 : i = 0; (subst h0; rfl); rw [if_neg h0, show min i 1 = 1 by omega]; rfl)) ?_
   refine al_lr u9 info9 ?_
   refine al_callp into117 rfl rfl rfl ((r_sign _) _) (by simp) ?_
   refine al_o (op_ol encK [⟨7, if i = 0 then sOpen else sComma, 0, 0, 0⟩] u22 info65) ?_
   (refine al_opR (op_am u22 u22 info65 48) rfl (by simp) ?_; rintro _ _ ⟨ver92, rfl, rfl⟩)
   refine al_gs ?_
   refine al_nil ?_
   refine aw_region ?_
   refine al_mv ?_
   refine al_ld u37 info37 ?_
   refine al_mv ?_
   (refine al_call into160 rfl rfl rfl (tkn_at 96 (by decide) rfl (r_kid e hz i (by omega) (ih _ (getD_mem (by omega)) (by have := kidQ_len e i; omega)) (by omega)) rfl rfl) (by simp) ?_; rintro _ _ ⟨ver96, rfl, rfl⟩)
   (refine al_opR (op_am u22 u22 info65 48) rfl (by simp) ?_; rintro _ _ ⟨ver97, rfl, rfl⟩)
   refine al_gs ?_
   refine al_nil ?_
   refine aw_region ?_
   refine al_ad ?_
   refine al_mv ?_
   refine al_nil ?_
   refine ⟨i + 1, ver97, ?_, ?_, ?_, ?_, ?_⟩
   ·omega
   ·omega
   ·refine sub_2 ?_ ?_
    all_goals (first | rfl | simp)
   ·exact sbl
   ·rfl
  have gh8 := h8
  simp only [nrm] at h8
  refine aw_exit ?_
  have hie : i = e.kids.length := by omega
  subst hie
  refine aw_sr ?_
  refine al_mv ?_
  refine al_callp into117 rfl rfl rfl ((r_sign _) _) (by simp) ?_
  refine al_o (op_ol encK [tkC] u22 info65) ?_
  (refine al_opR (op_am u22 u22 info65 48) rfl (by simp) ?_; rintro _ _ ⟨ver102, rfl, rfl⟩)
  refine al_gs ?_
  refine al_nil ?_
  refine aw_ret ?_
  refine ⟨_, res_1 rfl rfl, ?_⟩
  rw [← ht]; exact ⟨ver102, rfl, rfl⟩
 refine aw_sr ?_
 refine al_fp u37 info31 ?_
 refine al_ld u31 info31 ?_
 refine al_lm u31 ?_
 refine al_eq ?_
 refine al_gs ?_
 refine al_nil ?_
 refine aw_cond rfl (fun h9 => ?_) (fun h9 => ?_)
 ·have gh9 := h9
  simp only [nrm] at h9
  have h5 := op_5 hf gh1 gh2 gh3 gh4 gh5 gh6
  have hk : e.kids.length = 1 := by have := gh9; rw [beq_iff_eq] at this; omega
  have ht := tokQ_unary h5 gh7 hk
  have hL2 := hL
  rw [← ht] at hL2
  simp only [List.length_append, List.length_cons, List.length_nil] at hL2
  refine aw_seq ?_
  refine aw_plan [0, 1, 2, 4, 3, 5, 6, 7] (Checked.mixed Tryz.checked) (by kernel_rfl) ?_
  refine afl_float rfl rfl (opk_of (op_field_ptr u37 rfl info9 (by decide) rfl rfl rfl)) (by simp) ?_
  refine afl_float rfl rfl (opk_of (op_load_ptr u9 info9 rfl rfl rfl rfl)) (by simp) ?_
  refine afl_float rfl rfl (opk_call into116 rfl rfl rfl (r_word e.name z1 _)) (by simp) ?_
  refine afl_float rfl rfl (opk_of (op_load_ptr u37 info37 rfl rfl rfl rfl)) (by simp) ?_
  refine afl_two 5 [3, 6, 7] rfl rfl rfl rfl (by kernel_rfl) (by kernel_rfl) (by simp) (by simp) (next_opR (op_list_own encK [tkS e.name] 0 u22 info65 rfl rfl (by decide) rfl (by decide) rfl (by first | rfl | (repeat (first | exact parts_nil | refine parts_cons rfl (by repeat (first | exact all_live_nil | refine all_live_clo rfl ?_ | refine all_live_slice rfl ?_ | refine all_live_map rfl ?_ | refine all_live_ptr rfl ?_)) ?_))) rfl rfl (by first | rfl | (repeat (first | exact parts_nil | refine parts_cons rfl (by repeat (first | exact all_live_nil | refine all_live_clo rfl ?_ | refine all_live_slice rfl ?_ | refine all_live_map rfl ?_ | refine all_live_ptr rfl ?_)) ?_))) rfl rfl) ?_) (next_call into160 rfl rfl rfl (tkn_at 113 (by decide) rfl (r_kid e hz 0 (by omega) (ih _ (getD_mem (by omega)) (by have := kidQ_len e 0; omega)) (by omega)) rfl rfl) ?_)
  ·rintro _ _ ⟨ver111, rfl, rfl⟩; refine ⟨?_, ?_⟩
   ·
    refine loose_k rfl (opk_of (op_load_ptr u37 info37 rfl rfl rfl rfl)) ?_
    refine loose_anc 2 rfl (by kernel_rfl) ?_
    refine loose_anc 1 rfl (by kernel_rfl) ?_
    refine loose_anc 0 rfl (by kernel_rfl) ?_
    exact loose_nil
   (refine afl_call rfl (by kernel_rfl) into160 rfl rfl rfl (tkn_at 113 (by decide) rfl (r_kid e hz 0 (by omega) (ih _ (getD_mem (by omega)) (by have := kidQ_len e 0; omega)) (by omega)) rfl rfl) (by simp) ?_; rintro _ _ ⟨ver113, rfl, rfl⟩; refine ⟨_, rfl, ?_, ?_⟩)
   ·
    refine loose_fix rfl ?_
    refine loose_anc 4 rfl (by kernel_rfl) ?_
    refine loose_anc 2 rfl (by kernel_rfl) ?_
    refine loose_anc 1 rfl (by kernel_rfl) ?_
    refine loose_anc 0 rfl (by kernel_rfl) ?_
    exact loose_nil
   (refine afl_effR rfl rfl (by kernel_rfl) (op_am u22 u22 info65 48) (by simp) ?_; rintro _ _ ⟨ver114, rfl, rfl⟩; refine ⟨?_, ?_⟩)
   ·
    refine loose_fix rfl ?_
    refine loose_fix rfl ?_
    refine loose_anc 4 rfl (by kernel_rfl) ?_
    refine loose_anc 2 rfl (by kernel_rfl) ?_
    refine loose_anc 1 rfl (by kernel_rfl) ?_
    refine loose_anc 0 rfl (by kernel_rfl) ?_
    exact loose_nil
   refine afl_float rfl rfl (opk_of (op_assign rfl)) (by simp) ?_
   refine afl_end ?_
   refine aw_ret ?_
   refine ⟨_, res_1 rfl rfl, ?_⟩
   rw [← ht]; exact ⟨ver114, rfl, rfl⟩
  ·rintro _ _ ⟨ver113, rfl, rfl⟩; refine ⟨_, rfl, ?_, ?_⟩
   ·
    refine loose_anc 4 rfl (by kernel_rfl) ?_
    refine loose_anc 2 rfl (by kernel_rfl) ?_
    refine loose_anc 1 rfl (by kernel_rfl) ?_
    refine loose_anc 0 rfl (by kernel_rfl) ?_
    exact loose_nil
   (refine afl_effR rfl rfl (by kernel_rfl) (op_list_own encK [tkS e.name] 0 u22 info65 rfl rfl (by decide) rfl (by decide) rfl (by first | rfl | (repeat (first | exact parts_nil | refine parts_cons rfl (by repeat (first | exact all_live_nil | refine all_live_clo rfl ?_ | refine all_live_slice rfl ?_ | refine all_live_map rfl ?_ | refine all_live_ptr rfl ?_)) ?_))) rfl rfl (by first | rfl | (repeat (first | exact parts_nil | refine parts_cons rfl (by repeat (first | exact all_live_nil | refine all_live_clo rfl ?_ | refine all_live_slice rfl ?_ | refine all_live_map rfl ?_ | refine all_live_ptr rfl ?_)) ?_))) rfl rfl) (by simp) ?_; rintro _ _ ⟨ver111, rfl, rfl⟩; refine ⟨?_, ?_⟩)
   ·
    refine loose_fix rfl ?_
    refine loose_k rfl (opk_of (op_load_ptr u37 info37 rfl rfl rfl rfl)) ?_
    refine loose_anc 2 rfl (by kernel_rfl) ?_
    refine loose_anc 1 rfl (by kernel_rfl) ?_
    refine loose_anc 0 rfl (by kernel_rfl) ?_
    exact loose_nil
   (refine afl_effR rfl rfl (by kernel_rfl) (op_am u22 u22 info65 48) (by simp) ?_; rintro _ _ ⟨ver114, rfl, rfl⟩; refine ⟨?_, ?_⟩)
   ·
    refine loose_fix rfl ?_
    refine loose_fix rfl ?_
    refine loose_anc 4 rfl (by kernel_rfl) ?_
    refine loose_anc 2 rfl (by kernel_rfl) ?_
    refine loose_anc 1 rfl (by kernel_rfl) ?_
    refine loose_anc 0 rfl (by kernel_rfl) ?_
    exact loose_nil
   refine afl_float rfl rfl (opk_of (op_assign rfl)) (by simp) ?_
   refine afl_end ?_
   refine aw_ret ?_
   refine ⟨_, res_1 rfl rfl, ?_⟩
   rw [← ht]; exact ⟨ver114, rfl, rfl⟩
 have gh9 := h9
 simp only [nrm] at h9
 have h5 := op_5 hf gh1 gh2 gh3 gh4 gh5 gh6
 have hk := kids_two hf h5 gh7 gh9
 have ht := tokQ_binary h5 gh7 hk
 have hL2 := hL
 rw [← ht] at hL2
 simp only [List.length_append, List.length_cons, List.length_nil] at hL2
 refine aw_skip ?_
 refine aw_seq ?_
 refine aw_plan [0, 2, 3, 1, 4, 5, 6, 7] (Checked.mixed Tryz.checked) (by kernel_rfl) ?_
 refine afl_float rfl rfl (opk_of (op_load_ptr u37 info37 rfl rfl rfl rfl)) (by simp) ?_
 refine afl_float rfl rfl (opk_of (op_field_ptr u37 rfl info9 (by decide) rfl rfl rfl)) (by simp) ?_
 refine afl_float rfl rfl (opk_of (op_load_ptr u9 info9 rfl rfl rfl rfl)) (by simp) ?_
 (refine afl_call rfl (by kernel_rfl) into160 rfl rfl rfl (tkn_at 0 (by decide) rfl (r_kid e hz 0 (by omega) (ih _ (getD_mem (by omega)) (by have := kidQ_len e 0; omega)) (by omega)) rfl rfl) (by simp) ?_; rintro _ _ ⟨ver116, rfl, rfl⟩; refine ⟨_, rfl, ?_, ?_⟩)
 ·
  refine loose_k rfl (opk_of (op_load_ptr u9 info9 rfl rfl rfl rfl)) ?_
  refine loose_k rfl (opk_of (op_field_ptr u37 rfl info9 (by decide) rfl rfl rfl)) ?_
  refine loose_anc 0 rfl (by kernel_rfl) ?_
  exact loose_nil
 refine afl_float rfl rfl (opk_call into116 rfl rfl rfl (r_word e.name z1 _)) (by simp) ?_
 refine afl_float rfl rfl (opk_of (op_ol encK [tkS e.name] u22 info65)) (by simp) ?_
 (refine afl_effR rfl rfl (by kernel_rfl) (op_am u22 u22 info65 48) (by simp) ?_; rintro _ _ ⟨ver121, rfl, rfl⟩; refine ⟨?_, ?_⟩)
 ·
  refine loose_anc 5 rfl (by kernel_rfl) ?_
  refine loose_anc 4 rfl (by kernel_rfl) ?_
  refine loose_fix rfl ?_
  refine loose_anc 3 rfl (by kernel_rfl) ?_
  refine loose_anc 2 rfl (by kernel_rfl) ?_
  refine loose_anc 0 rfl (by kernel_rfl) ?_
  exact loose_nil
 refine afl_float rfl rfl (opk_of (op_assign rfl)) (by simp) ?_
 refine afl_end ?_
 refine aw_sr ?_
 refine al_mv ?_
 refine al_ld u37 info37 ?_
 (refine al_call into160 rfl rfl rfl (tkn_at 124 (by decide) rfl (r_kid e hz 1 (by omega) (ih _ (getD_mem (by omega)) (by have := kidQ_len e 1; omega)) (by omega)) rfl rfl) (by simp) ?_; rintro _ _ ⟨ver124, rfl, rfl⟩)
 (refine al_opR (op_am u22 u22 info65 48) rfl (by simp) ?_; rintro _ _ ⟨ver125, rfl, rfl⟩)
 refine al_gs ?_
 refine al_nil ?_
 refine aw_ret ?_
 refine ⟨_, res_1 rfl rfl, ?_⟩
 rw [← ht]; exact ⟨ver125, rfl, rfl⟩
theorem r_toks (e : Ex) : szE e = true → formP e = true → (toks e).length ≤ 1000000000 → TKN Tryz.prog 104 [.agg (cellsE (e))] (toks e) := by
  induction e using Ex.ind with
  | h e ih =>
    intro hz hf hL
    obtain ⟨z1, z2, z3, z4, z5⟩ := szE_facts hz
    exact tkn_of (r_tokensS e hz hf hL (fun k hk hl => ih k hk (z5 k hk) (form_kid hf k hk) hl))
end Go.Proofs.YtcgdlhkiecommaaGreatDoor
/- Printed walks (gen.py, lexer_ann.py): part 437. -/




namespace Go.Proofs.YtcgdlhkiecommaaGreatDoor
open Go
theorem r_Tokens (e : Ex) (hz : szE e = true) (hB : depQ e ≤ 1000000000) (hL : validQ e = true → (toks e).length ≤ 1000000000) : ACp Tryz.prog 54 [.agg (cellsE (e))] (.tuple [.list 5 ((tokQ e).map encK), .v (.bool (validQ e))]) := by
 refine acp_of rfl ?_
 refine ace 9 Tryz.func54 ?_
 refine aw_sr ?_
 refine al_bx 1 fun ver1 => ?_
 refine al_gs ?_
 refine al_gs ?_
 refine al_nil ?_
 refine aw_seq ?_
 refine aw_sr ?_
 refine al_ld u37 info37 ?_
 refine al_callp into26 rfl rfl rfl (r_Valid e hz hB _) (by simp) ?_
 refine al_o (op_not rfl) ?_
 refine al_nil ?_
 refine aw_cond rfl (fun h1 => ?_) (fun h1 => ?_)
 ·have gh1 := h1
  simp only [nrm] at h1
  refine aw_sr ?_
  refine al_gs ?_
  refine al_gs ?_
  refine al_nil ?_
  refine aw_freeze (fun _ => false) (fsub_cons (t := 2) rfl (by first | exact .leaf _ _ (frz_whole rfl rfl (by first | rfl | (simp; done) | (simp; omega)) (clo_map (fun _ => rfl))) | exact .leaf _ _ (.vnil 5) | exact .leaf _ _ (.nil 5) | exact .leaf _ _ (.same _)) (fsub_cons (t := 3) rfl (.leaf _ _ (.same _)) fsub_nil)) ?_
  refine aw_ret ?_
  refine ⟨_, res_2 rfl rfl rfl rfl rfl, ?_, rfl⟩
  have hv : validQ e = false := by simpa using gh1
  rw [tokQ, hv]; rfl
 have gh1 := h1
 simp only [nrm] at h1
 have hv : validQ e = true := by simpa using gh1
 refine aw_skip ?_
 refine aw_sr ?_
 refine al_ld u37 info37 ?_
 (refine al_call into104 rfl rfl rfl (tkn_at 8 (by decide) rfl (r_toks e hz (validQ_form hv) (hL hv)) rfl rfl) (by simp) ?_; rintro _ _ ⟨ver8, rfl, rfl⟩)
 refine al_gs ?_
 refine al_gs ?_
 refine al_nil ?_
 refine aw_freeze (fun _ => false) (fsub_cons (t := 2) rfl (by first | exact .leaf _ _ (frz_whole rfl rfl (by first | rfl | (simp; done) | (simp; omega)) (clo_map (fun _ => rfl))) | exact .leaf _ _ (.vnil 5) | exact .leaf _ _ (.nil 5) | exact .leaf _ _ (.same _)) (fsub_cons (t := 3) rfl (.leaf _ _ (.same _)) fsub_nil)) ?_
 refine aw_ret ?_
 refine ⟨_, res_2 rfl rfl rfl rfl rfl, ?_, rfl⟩
 rw [tokQ, hv]; rfl
theorem r_joined (l : List Tk) (hk : ∀ t ∈ l, OKk t) (hn : l.length ≤ 1000000000) : ACp Tryz.prog 55 [.list 5 (l.map encK)] (.v (.string (str (joinT l)))) := by
 refine acp_of rfl ?_
 refine ace 23 Tryz.func55 ?_
 refine aw_sr ?_
 refine al_gs ?_
 refine al_sr ?_
 refine al_gs ?_
 refine al_nil ?_
 refine aw_seq ?_
 refine aw_sr ?_
 refine al_mv ?_
 refine al_lm u22 ?_
 refine al_mv ?_
 refine al_nil ?_
 refine aw_block ?_
 refine aw_forT (ι := Nat) [3, 8] [5] (fun i => l.length - i) (fun i => i ≤ l.length) (fun i => ([(3, .v (.string (str (joinT (l.take i))))), (8, .v (.int .i64 ((i : Nat) : Int)))] : Env)) (fun i s => s) (0) ?_ ?_ ?_ (fun i hinv => ?_)
 ·exact Nat.zero_le _
 ·refine sub_2 ?_ ?_
  all_goals (first | rfl | simp)
 ·rfl
 have hi := hinv
 refine aw_sr ?_
 refine al_ls ?_
 refine al_nil ?_
 refine aw_seq ?_
 refine aw_cond rfl (fun h1 => ?_) (fun h1 => ?_)
 ·have gh1 := h1
  simp only [nrm] at h1
  refine aw_skip ?_
  refine aw_seq ?_
  refine aw_block ?_
  refine aw_sr ?_
  refine al_mv ?_
  refine al_o (op_im u22 info65) ?_
  refine al_lr u65 info65 ?_
  refine al_al 5 info65 fun ver5 => ?_
  refine al_gs ?_
  refine al_sp info65 ?_
  refine al_nil ?_
  refine aw_seq ?_
  refine aw_seq ?_
  have hti := hk (l.getD i default) (getD_mem (by omega))
  have hwl := poss_small hti.poss
  have hjb := joinT_bound (l := l) (i := i) (by omega) (fun k hk2 => (hk (l.getD k default) (getD_mem (by omega))).poss)
  refine aw_region ?_
  refine al_mv ?_
  refine al_o (op_gtr rfl rfl) ?_
  refine al_nil ?_
  refine aw_cond rfl (fun h2 => ?_) (fun h2 => ?_)
  ·have gh2 := h2
   simp only [nrm] at h2
   refine aw_region ?_
   refine al_mv ?_
   refine al_o (op_sadd_str rfl rfl (by first | omega | (simp; omega) | (simp; done) | (simp only [List.length_append, List.length_cons, List.length_nil]; omega))) ?_
   refine al_gs ?_
   refine al_nil ?_
   refine aw_region ?_
   refine al_mv ?_
   refine al_ld u65 info65 ?_
   refine al_callp into105 rfl rfl rfl (r_wri (l.getD i default) hti.okt hti.int _) (by simp) ?_
   refine al_o (op_sadd_str rfl rfl (by first | omega | (simp; omega) | (simp; done) | (simp only [List.length_append, List.length_cons, List.length_nil]; omega))) ?_
   refine al_gs ?_
   refine al_nil ?_
   refine aw_region ?_
   refine al_ad ?_
   refine al_mv ?_
   refine al_nil ?_
   refine ⟨i + 1, ?_, ?_, ?_, ?_, ?_⟩
   ·omega
   ·omega
   ·refine sub_2 ?_ ?_
    all_goals (first | rfl | (rw [joinT_more (by omega) (by omega)] <;> rfl) | (rw [joinT_zero (by omega) (by omega)] <;> rfl) | simp)
   ·exact sbl
   ·rfl
  have gh2 := h2
  simp only [nrm] at h2
  refine aw_skip ?_
  refine aw_region ?_
  refine al_mv ?_
  refine al_ld u65 info65 ?_
  refine al_callp into105 rfl rfl rfl (r_wri (l.getD i default) hti.okt hti.int _) (by simp) ?_
  refine al_o (op_sadd_str rfl rfl (by first | omega | (simp; omega) | (simp; done) | (simp only [List.length_append, List.length_cons, List.length_nil]; omega))) ?_
  refine al_gs ?_
  refine al_nil ?_
  refine aw_region ?_
  refine al_ad ?_
  refine al_mv ?_
  refine al_nil ?_
  refine ⟨i + 1, ?_, ?_, ?_, ?_, ?_⟩
  ·omega
  ·omega
  ·refine sub_2 ?_ ?_
   all_goals (first | rfl | (rw [joinT_more (by omega) (by omega)] <;> rfl) | (rw [joinT_zero (by omega) (by omega)] <;> rfl) | simp)
  ·exact sbl
  ·rfl
 have gh1 := h1
 simp only [nrm] at h1
 refine aw_exit ?_
 obtain rfl : i = l.length := by omega
 refine aw_sr ?_
 refine al_mv ?_
 refine al_gs ?_
 refine al_nil ?_
 refine fz1 (t := 2) ?_
 refine aw_ret ?_
 refine ⟨_, res_1 rfl rfl, ?_, rfl⟩
 rw [List.take_length]
end Go.Proofs.YtcgdlhkiecommaaGreatDoor
/- Printed walks (gen.py, lexer_ann.py): part 438. -/




namespace Go.Proofs.YtcgdlhkiecommaaGreatDoor
open Go
end Go.Proofs.YtcgdlhkiecommaaGreatDoor
/- Printed walks (gen.py, lexer_ann.py): part 439. -/





namespace Go.Proofs.YtcgdlhkiecommaaGreatDoor
open Go
end Go.Proofs.YtcgdlhkiecommaaGreatDoor
/- Printed walks (gen.py, lexer_ann.py): part 440. -/



namespace Go.Proofs.YtcgdlhkiecommaaGreatDoor
open Go
end Go.Proofs.YtcgdlhkiecommaaGreatDoor
/- Printed walks (gen.py, lexer_ann.py): part 443. -/




namespace Go.Proofs.YtcgdlhkiecommaaGreatDoor
open Go
end Go.Proofs.YtcgdlhkiecommaaGreatDoor
/- Printed walks (gen.py, lexer_ann.py): part 446. -/




namespace Go.Proofs.YtcgdlhkiecommaaGreatDoor
open Go
theorem e_valid1 (r : Tr) (ho : OK1 Tryz.prog r) (hne : (r.name == sArray) = false) : ACp Tryz.prog 33 [.agg (cellsR r)] (.v (.bool (validR r))) := by
 refine acp_of rfl ?_
 have o1 := ho.n
 have o2 := ho.ln
 have o3 := ho.en
 refine ace 81 Tryz.func33 ?_
 refine aw_sr ?_
 refine al_bx 1 fun ver1 => ?_
 refine al_gs ?_
 refine al_nil ?_
 refine aw_seq ?_
 refine aw_sr ?_
 refine al_fp u46 info9 ?_
 refine al_ld u9 info9 ?_
 refine al_nil ?_
 refine aw_block ?_
 refine aw_sr ?_
 refine al_o (op_seql_str rfl rfl) ?_
 refine al_gs ?_
 refine al_nil ?_
 refine aw_cond rfl (fun h1 => ?_) (fun h1 => ?_)
 ·have gh1 := h1
  simp only [nrm] at h1
  refine aw_sr ?_
  refine al_fp u46 info31 ?_
  refine al_ld u31 info31 ?_
  refine al_lm u31 ?_
  refine al_eq ?_
  refine al_mv ?_
  apply al_and 5 11 16 rfl
  ·intro h2; have gh2 := h2
   simp only [nrm] at h2
   refine tk_fp u46 info44 ?_
   refine tk_ld u44 info44 ?_
   refine al_t (op_len_map u44 rfl) ?_
   refine tk_eq ?_
   refine al_pk ?_
   exact al_nk gh2
  ·intro h2; have gh2 := h2
   simp only [nrm] at h2
   iterate 4 refine al_ps ?_
   refine al_pk ?_
   exact al_nk gh2
  refine al_mv ?_
  apply al_and 6 17 23 rfl
  ·intro h3; have gh3 := h3
   simp only [nrm] at h3
   refine tk_fp u46 info31 ?_
   refine tk_ld u31 info31 ?_
   refine al_t (val_as (.rptr (cellsE (r.len.getD 0 default))) (op_im u31 info37) (by exact congrArg AVal.rptr (encE_cells _))) ?_
   refine al_t (op_load_rptr u37 info37 rfl rfl) ?_
   refine al_callp_take into25 rfl rfl rfl rfl rfl rfl (e_valid (r.len.getD 0 default) (ho.w _ (getD_mem (by omega))).w _) (by simp) ?_
   refine al_pk ?_
   exact al_nk gh3
  ·intro h3; have gh3 := h3
   iterate 5 refine al_ps ?_
   refine al_pk ?_
   exact al_nk gh3
  refine al_mv ?_
  apply al_and 3 24 27 rfl
  ·intro h4; have gh4 := h4
   simp only [nrm] at h4
   refine tk_ld u46 info46 ?_
   refine al_callp_take into65 rfl rfl rfl rfl rfl rfl (e_deepest r (vec_okr ho (by assumption)) (sh_vec (by assumption)) _) (by simp) ?_
   refine al_pk ?_
   exact al_nk gh4
  ·intro h4; have gh4 := h4
   iterate 2 refine al_ps ?_
   refine al_pk ?_
   exact al_nk gh4
  refine al_gs ?_
  refine al_nil ?_
  refine fz1 (t := 2) ?_
  refine aw_ret ?_
  refine ⟨_, res_1 rfl rfl, ?_, rfl⟩
  rw [validR_eq, show (r.name == sVec) = true from gh1]; rfl
 have gh1 := h1
 simp only [nrm] at h1
 refine aw_sr ?_
 refine al_o (op_seql_str rfl rfl) ?_
 refine al_gs ?_
 refine al_nil ?_
 refine aw_cond rfl (fun h5 => ?_) (fun h5 => ?_)
 ·have gh5 := h5
  simp only [nrm] at h5
  exact absurd (hne.symm.trans gh5) (by decide)
 have gh5 := h5
 simp only [nrm] at h5
 refine aw_skip ?_
 refine aw_sr ?_
 refine al_fp u46 info9 ?_
 refine al_ld u9 info9 ?_
 refine al_callp into66 rfl rfl rfl (c_isName r.name (by omega) _) (by simp) ?_
 refine al_mv ?_
 apply al_and 5 69 74 rfl
 ·intro gh6
  refine tk_fp u46 info31 ?_
  refine tk_ld u31 info31 ?_
  refine al_t (op_len_map u31 rfl) ?_
  refine tk_eq ?_
  refine al_pk ?_
  exact al_nk gh6
 ·intro gh6
  iterate 4 refine al_ps ?_
  refine al_pk ?_
  exact al_nk gh6
 refine al_mv ?_
 apply al_and 5 75 80 rfl
 ·intro h7; have gh7 := h7
  simp only [nrm] at h7
  refine tk_fp u46 info44 ?_
  refine tk_ld u44 info44 ?_
  refine al_t (op_len_map u44 rfl) ?_
  refine tk_eq ?_
  refine al_pk ?_
  exact al_nk gh7
 ·intro h7; have gh7 := h7
  iterate 4 refine al_ps ?_
  refine al_pk ?_
  exact al_nk gh7
 refine al_gs ?_
 refine al_nil ?_
 refine fz1 (t := 2) ?_
 refine aw_ret ?_
 refine ⟨_, res_1 rfl rfl, ?_, rfl⟩
 rw [validR_eq, show (r.name == sVec) = false from gh1, hne]; rfl
theorem e_valid2 (r : Tr) (ho2 : OK2 Tryz.prog r) : ACp Tryz.prog 33 [.agg (cellsR r)] (.v (.bool (validR r))) := by
 refine acp_of rfl ?_
 have ho := ho2.o
 have o1 := ho.n
 have o2 := ho.ln
 have o3 := ho.en
 refine ace 81 Tryz.func33 ?_
 refine aw_sr ?_
 refine al_bx 1 fun ver1 => ?_
 refine al_gs ?_
 refine al_nil ?_
 refine aw_seq ?_
 refine aw_sr ?_
 refine al_fp u46 info9 ?_
 refine al_ld u9 info9 ?_
 refine al_nil ?_
 refine aw_block ?_
 refine aw_sr ?_
 refine al_o (op_seql_str rfl rfl) ?_
 refine al_gs ?_
 refine al_nil ?_
 refine aw_cond rfl (fun h1 => ?_) (fun h1 => ?_)
 ·have gh1 := h1
  simp only [nrm] at h1
  refine aw_sr ?_
  refine al_fp u46 info31 ?_
  refine al_ld u31 info31 ?_
  refine al_lm u31 ?_
  refine al_eq ?_
  refine al_mv ?_
  apply al_and 5 11 16 rfl
  ·intro h2; have gh2 := h2
   simp only [nrm] at h2
   refine tk_fp u46 info44 ?_
   refine tk_ld u44 info44 ?_
   refine al_t (op_len_map u44 rfl) ?_
   refine tk_eq ?_
   refine al_pk ?_
   exact al_nk gh2
  ·intro h2; have gh2 := h2
   simp only [nrm] at h2
   iterate 4 refine al_ps ?_
   refine al_pk ?_
   exact al_nk gh2
  refine al_mv ?_
  apply al_and 6 17 23 rfl
  ·intro h3; have gh3 := h3
   simp only [nrm] at h3
   refine tk_fp u46 info31 ?_
   refine tk_ld u31 info31 ?_
   refine al_t (val_as (.rptr (cellsE (r.len.getD 0 default))) (op_im u31 info37) (by exact congrArg AVal.rptr (encE_cells _))) ?_
   refine al_t (op_load_rptr u37 info37 rfl rfl) ?_
   refine al_callp_take into25 rfl rfl rfl rfl rfl rfl (e_valid (r.len.getD 0 default) (ho.w _ (getD_mem (by omega))).w _) (by simp) ?_
   refine al_pk ?_
   exact al_nk gh3
  ·intro h3; have gh3 := h3
   iterate 5 refine al_ps ?_
   refine al_pk ?_
   exact al_nk gh3
  refine al_mv ?_
  apply al_and 3 24 27 rfl
  ·intro h4; have gh4 := h4
   simp only [nrm] at h4
   refine tk_ld u46 info46 ?_
   refine al_callp_take into65 rfl rfl rfl rfl rfl rfl (e_deepest r (vec_okr ho (by assumption)) (sh_vec (by assumption)) _) (by simp) ?_
   refine al_pk ?_
   exact al_nk gh4
  ·intro h4; have gh4 := h4
   iterate 2 refine al_ps ?_
   refine al_pk ?_
   exact al_nk gh4
  refine al_gs ?_
  refine al_nil ?_
  refine fz1 (t := 2) ?_
  refine aw_ret ?_
  refine ⟨_, res_1 rfl rfl, ?_, rfl⟩
  rw [validR_eq, show (r.name == sVec) = true from gh1]; rfl
 have gh1 := h1
 simp only [nrm] at h1
 refine aw_sr ?_
 refine al_o (op_seql_str rfl rfl) ?_
 refine al_gs ?_
 refine al_nil ?_
 refine aw_cond rfl (fun h5 => ?_) (fun h5 => ?_)
 ·have gh5 := h5
  simp only [nrm] at h5
  refine aw_sr ?_
  refine al_fp u46 info31 ?_
  refine al_ld u31 info31 ?_
  refine al_lm u31 ?_
  refine al_eq ?_
  refine al_mv ?_
  apply al_and 5 34 39 rfl
  ·intro h6; have gh6 := h6
   simp only [nrm] at h6
   refine tk_fp u46 info44 ?_
   refine tk_ld u44 info44 ?_
   refine al_t (op_len_map u44 rfl) ?_
   refine tk_eq ?_
   refine al_pk ?_
   exact al_nk gh6
  ·intro h6; have gh6 := h6
   simp only [nrm] at h6
   iterate 4 refine al_ps ?_
   refine al_pk ?_
   exact al_nk gh6
  refine al_mv ?_
  apply al_and 6 40 46 rfl
  ·intro h7; have gh7 := h7
   simp only [nrm] at h7
   refine tk_fp u46 info31 ?_
   refine tk_ld u31 info31 ?_
   refine al_t (val_as (.rptr (cellsE (r.len.getD 0 default))) (op_im u31 info37) (by exact congrArg AVal.rptr (encE_cells _))) ?_
   refine al_t (op_load_rptr u37 info37 rfl rfl) ?_
   refine al_callp_take into25 rfl rfl rfl rfl rfl rfl (e_valid (r.len.getD 0 default) (ho.w _ (getD_mem (by omega))).w _) (by simp) ?_
   refine al_pk ?_
   exact al_nk gh7
  ·intro h7; have gh7 := h7
   iterate 5 refine al_ps ?_
   refine al_pk ?_
   exact al_nk gh7
  refine al_mv ?_
  apply al_and 7 47 54 rfl
  ·intro h8; have gh8 := h8
   simp only [nrm] at h8
   refine tk_fp u46 info44 ?_
   refine tk_ld u44 info44 ?_
   refine al_t (val_as (.rptr (cellsR (r.elem.getD 0 default))) (op_im u44 info46) (by exact congrArg AVal.rptr (encR_cells _))) ?_
   refine al_t (op_field_rptr u46 rfl info9 (by decide) rfl rfl) ?_
   refine al_t (op_load_rptr u9 info9 rfl rfl) ?_
   refine al_t (op_sneq_str rfl rfl) ?_
   refine al_pk ?_
   exact al_nk gh8
  ·intro h8; have gh8 := h8
   iterate 6 refine al_ps ?_
   refine al_pk ?_
   exact al_nk gh8
  refine al_mv ?_
  apply al_and 6 55 61 rfl
  ·intro h9; have gh9 := h9
   simp only [nrm] at h9
   refine tk_fp u46 info44 ?_
   refine tk_ld u44 info44 ?_
   refine al_t (val_as (.rptr (cellsR (r.elem.getD 0 default))) (op_im u44 info46) (by exact congrArg AVal.rptr (encR_cells _))) ?_
   refine al_t (op_load_rptr u46 info46 rfl rfl) ?_
   refine al_callp_take into33 rfl rfl rfl rfl rfl rfl (e_valid1 (r.elem.getD 0 default) (ho2.u _ (getD_mem (by omega))) (arr_ne (by assumption)) _) (by simp) ?_
   refine al_pk ?_
   exact al_nk gh9
  ·intro h9; have gh9 := h9
   iterate 5 refine al_ps ?_
   refine al_pk ?_
   exact al_nk gh9
  refine al_mv ?_
  apply al_and 3 62 65 rfl
  ·intro h10; have gh10 := h10
   simp only [nrm] at h10
   refine tk_ld u46 info46 ?_
   refine al_callp_take into65 rfl rfl rfl rfl rfl rfl (e_deepest r (arr_okr ho2 (by assumption)) (sh_arr (by assumption)) _) (by simp) ?_
   refine al_pk ?_
   exact al_nk gh10
  ·intro h10; have gh10 := h10
   iterate 2 refine al_ps ?_
   refine al_pk ?_
   exact al_nk gh10
  refine al_gs ?_
  refine al_nil ?_
  refine fz1 (t := 2) ?_
  refine aw_ret ?_
  refine ⟨_, res_1 rfl rfl, ?_, rfl⟩
  rw [validR_arr (show (r.name == sVec) = false from gh1) (show (r.name == sArray) = true from gh5)]; rfl
 have gh5 := h5
 simp only [nrm] at h5
 refine aw_skip ?_
 refine aw_sr ?_
 refine al_fp u46 info9 ?_
 refine al_ld u9 info9 ?_
 refine al_callp into66 rfl rfl rfl (c_isName r.name (by omega) _) (by simp) ?_
 refine al_mv ?_
 apply al_and 5 69 74 rfl
 ·intro gh11
  refine tk_fp u46 info31 ?_
  refine tk_ld u31 info31 ?_
  refine al_t (op_len_map u31 rfl) ?_
  refine tk_eq ?_
  refine al_pk ?_
  exact al_nk gh11
 ·intro gh11
  iterate 4 refine al_ps ?_
  refine al_pk ?_
  exact al_nk gh11
 refine al_mv ?_
 apply al_and 5 75 80 rfl
 ·intro h12; have gh12 := h12
  simp only [nrm] at h12
  refine tk_fp u46 info44 ?_
  refine tk_ld u44 info44 ?_
  refine al_t (op_len_map u44 rfl) ?_
  refine tk_eq ?_
  refine al_pk ?_
  exact al_nk gh12
 ·intro h12; have gh12 := h12
  iterate 4 refine al_ps ?_
  refine al_pk ?_
  exact al_nk gh12
 refine al_gs ?_
 refine al_nil ?_
 refine fz1 (t := 2) ?_
 refine aw_ret ?_
 refine ⟨_, res_1 rfl rfl, ?_, rfl⟩
 rw [validR_eq, show (r.name == sVec) = false from gh1, show (r.name == sArray) = false from gh5]; rfl
theorem e_textR2 (r : Tr) (ho : OK2 Tryz.prog r) : ACp Tryz.prog 31 [.agg (cellsR r)] (.tuple [.v (.string (str ((textR r).1))), .v (.int .i64 ((textR r).2))]) := by
 refine acp_of rfl ?_
 refine ace 18 Tryz.func31 ?_
 refine aw_sr ?_
 refine al_bx 1 fun ver1 => ?_
 refine al_gs ?_
 refine al_gs ?_
 refine al_nil ?_
 refine aw_seq ?_
 refine aw_sr ?_
 refine al_ld u46 info46 ?_
 refine al_callp into33 rfl rfl rfl (e_valid2 r ho _) (by simp) ?_
 refine al_o (op_not rfl) ?_
 refine al_nil ?_
 refine aw_cond rfl (fun h1 => ?_) (fun h1 => ?_)
 ·have gh1 := h1
  simp only [nrm] at h1
  refine aw_sr ?_
  refine al_gs ?_
  refine al_gs ?_
  refine al_nil ?_
  refine fz2 (t := 2) (u := 3) ?_
  refine aw_ret ?_
  refine ⟨_, res_2 rfl rfl rfl rfl rfl, ?_, rfl⟩
  rw [textR, show validR r = false by simpa using gh1]; rfl
 have gh1 := h1
 simp only [nrm] at h1
 refine aw_skip ?_
 refine aw_seq ?_
 have hv : validR r = true := by simpa using gh1
 refine aw_region ?_
 refine al_ld u46 info46 ?_
 refine al_callp into63 rfl rfl rfl (e_writeT r (e_ref r (valid_okr ho hv).1 (validR_sh r hv)) (by have := (valid_okr ho hv).2.1; omega) (by have := (valid_okr ho hv).2.2; omega) _) (by simp) ?_
 refine al_mv ?_
 refine al_xt ?_
 refine al_xt ?_
 refine al_gs ?_
 refine al_gs ?_
 refine al_sr ?_
 refine al_mv ?_
 refine al_callp into53 rfl rfl rfl (c_Text (toksR r) (fun t ht => (okk_all ho hv t ht).okt) (by have := (valid_okr ho hv).2.1; omega) _) (by simp) ?_
 refine al_xt ?_
 refine al_xt ?_
 refine al_gs ?_
 refine al_gs ?_
 refine al_nil ?_
 refine fz2 (t := 2) (u := 3) ?_
 refine aw_ret ?_
 refine ⟨_, res_2 rfl rfl rfl rfl rfl, ?_, rfl⟩
 rw [textR, hv]; rfl
end Go.Proofs.YtcgdlhkiecommaaGreatDoor
/- Printed walks (gen.py, lexer_ann.py): part 447. -/



namespace Go.Proofs.YtcgdlhkiecommaaGreatDoor
open Go
theorem r_valid1 (r : Tr) (ho : OK1 Tryz.prog r) (hne : (r.name == sArray) = false) : ACp Tryz.prog 34 [.agg (cellsR r)] (.v (.bool (validR r))) := by
 refine acp_of rfl ?_
 skip
 have o1 := ho.n
 have o2 := ho.ln
 have o3 := ho.en
 have hz0 : szE (r.len.getD 0 default) = true := by
   rcases Nat.lt_or_ge 0 r.len.length with h | h
   · exact (ho.w _ (getD_mem h)).z
   · rw [List.getD_eq_getElem?_getD, List.getElem?_eq_none h]; rfl
 have hq0 : depQ (r.len.getD 0 default) ≤ 600 := by
   rcases Nat.lt_or_ge 0 r.len.length with h | h
   · exact (ho.w _ (getD_mem h)).dq
   · rw [List.getD_eq_getElem?_getD, List.getElem?_eq_none h]; decide
 refine ace 71 Tryz.func34 ?_
 refine aw_sr ?_
 refine al_bx 1 fun ver1 => ?_
 refine al_gs ?_
 refine al_nil ?_
 refine aw_seq ?_
 refine aw_block ?_
 refine aw_sr ?_
 refine al_fp u46 info31 ?_
 refine al_ld u31 info31 ?_
 refine al_lm u31 ?_
 refine al_eq ?_
 refine al_gs ?_
 refine al_nil ?_
 refine aw_cond rfl (fun h1 => ?_) (fun h1 => ?_)
 ·have gh1 := h1
  simp only [nrm] at h1
  have gl := gh1
  refine aw_sr ?_
  refine al_fp u46 info9 ?_
  refine al_ld u9 info9 ?_
  refine al_callp into67 rfl rfl rfl (r_isName r.name (by omega) _) (by simp) ?_
  refine al_mv ?_
  apply al_and 5 11 16 rfl
  ·intro gh2
   refine tk_fp u46 info44 ?_
   refine tk_ld u44 info44 ?_
   refine al_t (op_len_map u44 rfl) ?_
   refine tk_eq ?_
   refine al_pk ?_
   exact al_nk gh2
  ·intro gh2
   iterate 4 refine al_ps ?_
   refine al_pk ?_
   exact al_nk gh2
  refine al_gs ?_
  refine al_nil ?_
  refine fz1 (t := 2) ?_
  refine aw_ret ?_
  refine ⟨_, res_1 rfl rfl, ?_, rfl⟩
  rw [vr_name gl]
 have gh1 := h1
 simp only [nrm] at h1
 have gl := gh1
 refine aw_sr ?_
 refine al_fp u46 info31 ?_
 refine al_ld u31 info31 ?_
 refine al_lm u31 ?_
 refine al_o (op_gtr rfl rfl) ?_
 refine al_mv ?_
 apply al_or 7 22 29 rfl
 ·intro h3; have gh3 := h3
  simp only [nrm] at h3
  refine tk_fp u46 info31 ?_
  refine tk_ld u31 info31 ?_
  refine al_t (val_as (.rptr (cellsE (r.len.getD 0 default))) (op_im u31 info37) (by exact congrArg AVal.rptr (encE_cells _))) ?_
  refine al_t (op_load_rptr u37 info37 rfl rfl) ?_
  refine al_callp_take into57 rfl rfl rfl rfl rfl rfl (r_form (r.len.getD 0 default) hz0 _) (by simp) ?_
  refine al_t (op_not rfl) ?_
  refine al_pk ?_
  exact al_nk gh3
 ·intro h3; have gh3 := h3
  simp only [nrm] at h3
  iterate 6 refine al_ps ?_
  refine al_pk ?_
  exact al_nk gh3
 refine al_mv ?_
 apply al_or 8 30 38 rfl
 ·intro h4; have gh4 := h4
  simp only [nrm] at h4
  refine tk_fp u46 info31 ?_
  refine tk_ld u31 info31 ?_
  refine al_t (val_as (.rptr (cellsE (r.len.getD 0 default))) (op_im u31 info37) (by exact congrArg AVal.rptr (encE_cells _))) ?_
  refine al_t (op_load_rptr u37 info37 rfl rfl) ?_
  refine al_callp_take into58 rfl rfl rfl rfl rfl rfl (r_depth (r.len.getD 0 default) hz0 (by omega) _) (by simp) ?_
  refine al_t (op_add rfl rfl (by first | exact wrap_i64 (by omega) (by omega))) ?_
  refine al_t (op_gtr rfl rfl) ?_
  refine al_pk ?_
  exact al_nk gh4
 ·intro h4; have gh4 := h4
  simp only [nrm] at h4
  iterate 7 refine al_ps ?_
  refine al_pk ?_
  exact al_nk gh4
 refine al_gs ?_
 refine al_nil ?_
 refine aw_cond rfl (fun h5 => ?_) (fun h5 => ?_)
 ·have gh5 := h5
  simp only [nrm] at h5
  have gg := gh5
  refine aw_sr ?_
  refine al_gs ?_
  refine al_nil ?_
  refine fz1 (t := 2) ?_
  refine aw_ret ?_
  refine ⟨_, res_1 rfl rfl, ?_, rfl⟩
  rw [vr_no ho gl gg]
 have gh5 := h5
 simp only [nrm] at h5
 have gg := gh5
 refine aw_sr ?_
 refine al_fp u46 info9 ?_
 refine al_ld u9 info9 ?_
 refine al_o (op_seql_str rfl rfl) ?_
 refine al_gs ?_
 refine al_nil ?_
 refine aw_cond rfl (fun h6 => ?_) (fun h6 => ?_)
 ·have gh6 := h6
  simp only [nrm] at h6
  have gv := gh6
  refine aw_sr ?_
  refine al_fp u46 info44 ?_
  refine al_ld u44 info44 ?_
  refine al_lm u44 ?_
  refine al_eq ?_
  refine al_gs ?_
  refine al_nil ?_
  refine fz1 (t := 2) ?_
  refine aw_ret ?_
  refine ⟨_, res_1 rfl rfl, ?_, rfl⟩
  rw [vr_vec ho gl gg gv]
 have gh6 := h6
 simp only [nrm] at h6
 have gv := gh6
 refine aw_skip ?_
 refine aw_sr ?_
 refine al_fp u46 info9 ?_
 refine al_ld u9 info9 ?_
 refine al_o (op_seql_str rfl rfl) ?_
 refine al_mv ?_
 refine al_as 50 (.v (.bool false)) rfl (by exact congrArg (fun b => AVal.v (.bool b)) hne) ?_
 iterate 4 refine al_ps ?_
 refine al_pk ?_
 refine al_mv ?_
 refine al_as 56 (.v (.bool false)) rfl (by rfl) ?_
 iterate 6 refine al_ps ?_
 refine al_pk ?_
 refine al_mv ?_
 refine al_as 64 (.v (.bool false)) rfl (by rfl) ?_
 iterate 5 refine al_ps ?_
 refine al_pk ?_
 refine al_gs ?_
 refine al_nil ?_
 refine fz1 (t := 2) ?_
 refine aw_ret ?_
 refine ⟨_, res_1 rfl rfl, ?_, rfl⟩
 rw [vr_other gl gv hne]
theorem r_valid2 (r : Tr) (ho2 : OK2 Tryz.prog r) : ACp Tryz.prog 34 [.agg (cellsR r)] (.v (.bool (validR r))) := by
 refine acp_of rfl ?_
 have ho := ho2.o
 have o1 := ho.n
 have o2 := ho.ln
 have o3 := ho.en
 have hz0 : szE (r.len.getD 0 default) = true := by
   rcases Nat.lt_or_ge 0 r.len.length with h | h
   · exact (ho.w _ (getD_mem h)).z
   · rw [List.getD_eq_getElem?_getD, List.getElem?_eq_none h]; rfl
 have hq0 : depQ (r.len.getD 0 default) ≤ 600 := by
   rcases Nat.lt_or_ge 0 r.len.length with h | h
   · exact (ho.w _ (getD_mem h)).dq
   · rw [List.getD_eq_getElem?_getD, List.getElem?_eq_none h]; decide
 refine ace 71 Tryz.func34 ?_
 refine aw_sr ?_
 refine al_bx 1 fun ver1 => ?_
 refine al_gs ?_
 refine al_nil ?_
 refine aw_seq ?_
 refine aw_block ?_
 refine aw_sr ?_
 refine al_fp u46 info31 ?_
 refine al_ld u31 info31 ?_
 refine al_lm u31 ?_
 refine al_eq ?_
 refine al_gs ?_
 refine al_nil ?_
 refine aw_cond rfl (fun h1 => ?_) (fun h1 => ?_)
 ·have gh1 := h1
  simp only [nrm] at h1
  have gl := gh1
  refine aw_sr ?_
  refine al_fp u46 info9 ?_
  refine al_ld u9 info9 ?_
  refine al_callp into67 rfl rfl rfl (r_isName r.name (by omega) _) (by simp) ?_
  refine al_mv ?_
  apply al_and 5 11 16 rfl
  ·intro gh2
   refine tk_fp u46 info44 ?_
   refine tk_ld u44 info44 ?_
   refine al_t (op_len_map u44 rfl) ?_
   refine tk_eq ?_
   refine al_pk ?_
   exact al_nk gh2
  ·intro gh2
   iterate 4 refine al_ps ?_
   refine al_pk ?_
   exact al_nk gh2
  refine al_gs ?_
  refine al_nil ?_
  refine fz1 (t := 2) ?_
  refine aw_ret ?_
  refine ⟨_, res_1 rfl rfl, ?_, rfl⟩
  rw [vr_name gl]
 have gh1 := h1
 simp only [nrm] at h1
 have gl := gh1
 refine aw_sr ?_
 refine al_fp u46 info31 ?_
 refine al_ld u31 info31 ?_
 refine al_lm u31 ?_
 refine al_o (op_gtr rfl rfl) ?_
 refine al_mv ?_
 apply al_or 7 22 29 rfl
 ·intro h3; have gh3 := h3
  simp only [nrm] at h3
  refine tk_fp u46 info31 ?_
  refine tk_ld u31 info31 ?_
  refine al_t (val_as (.rptr (cellsE (r.len.getD 0 default))) (op_im u31 info37) (by exact congrArg AVal.rptr (encE_cells _))) ?_
  refine al_t (op_load_rptr u37 info37 rfl rfl) ?_
  refine al_callp_take into57 rfl rfl rfl rfl rfl rfl (r_form (r.len.getD 0 default) hz0 _) (by simp) ?_
  refine al_t (op_not rfl) ?_
  refine al_pk ?_
  exact al_nk gh3
 ·intro h3; have gh3 := h3
  simp only [nrm] at h3
  iterate 6 refine al_ps ?_
  refine al_pk ?_
  exact al_nk gh3
 refine al_mv ?_
 apply al_or 8 30 38 rfl
 ·intro h4; have gh4 := h4
  simp only [nrm] at h4
  refine tk_fp u46 info31 ?_
  refine tk_ld u31 info31 ?_
  refine al_t (val_as (.rptr (cellsE (r.len.getD 0 default))) (op_im u31 info37) (by exact congrArg AVal.rptr (encE_cells _))) ?_
  refine al_t (op_load_rptr u37 info37 rfl rfl) ?_
  refine al_callp_take into58 rfl rfl rfl rfl rfl rfl (r_depth (r.len.getD 0 default) hz0 (by omega) _) (by simp) ?_
  refine al_t (op_add rfl rfl (by first | exact wrap_i64 (by omega) (by omega))) ?_
  refine al_t (op_gtr rfl rfl) ?_
  refine al_pk ?_
  exact al_nk gh4
 ·intro h4; have gh4 := h4
  simp only [nrm] at h4
  iterate 7 refine al_ps ?_
  refine al_pk ?_
  exact al_nk gh4
 refine al_gs ?_
 refine al_nil ?_
 refine aw_cond rfl (fun h5 => ?_) (fun h5 => ?_)
 ·have gh5 := h5
  simp only [nrm] at h5
  have gg := gh5
  refine aw_sr ?_
  refine al_gs ?_
  refine al_nil ?_
  refine fz1 (t := 2) ?_
  refine aw_ret ?_
  refine ⟨_, res_1 rfl rfl, ?_, rfl⟩
  rw [vr_no ho gl gg]
 have gh5 := h5
 simp only [nrm] at h5
 have gg := gh5
 refine aw_sr ?_
 refine al_fp u46 info9 ?_
 refine al_ld u9 info9 ?_
 refine al_o (op_seql_str rfl rfl) ?_
 refine al_gs ?_
 refine al_nil ?_
 refine aw_cond rfl (fun h6 => ?_) (fun h6 => ?_)
 ·have gh6 := h6
  simp only [nrm] at h6
  have gv := gh6
  refine aw_sr ?_
  refine al_fp u46 info44 ?_
  refine al_ld u44 info44 ?_
  refine al_lm u44 ?_
  refine al_eq ?_
  refine al_gs ?_
  refine al_nil ?_
  refine fz1 (t := 2) ?_
  refine aw_ret ?_
  refine ⟨_, res_1 rfl rfl, ?_, rfl⟩
  rw [vr_vec ho gl gg gv]
 have gh6 := h6
 simp only [nrm] at h6
 have gv := gh6
 refine aw_skip ?_
 refine aw_sr ?_
 refine al_fp u46 info9 ?_
 refine al_ld u9 info9 ?_
 refine al_o (op_seql_str rfl rfl) ?_
 refine al_mv ?_
 apply al_and 5 50 55 rfl
 ·intro h7; have gh7 := h7
  simp only [nrm] at h7
  refine tk_fp u46 info44 ?_
  refine tk_ld u44 info44 ?_
  refine al_t (op_len_map u44 rfl) ?_
  refine tk_eq ?_
  refine al_pk ?_
  exact al_nk gh7
 ·intro h7; have gh7 := h7
  simp only [nrm] at h7
  iterate 4 refine al_ps ?_
  refine al_pk ?_
  exact al_nk gh7
 refine al_mv ?_
 apply al_and 7 56 63 rfl
 ·intro h8; have gh8 := h8
  simp only [nrm] at h8
  refine tk_fp u46 info44 ?_
  refine tk_ld u44 info44 ?_
  refine al_t (val_as (.rptr (cellsR (r.elem.getD 0 default))) (op_im u44 info46) (by exact congrArg AVal.rptr (encR_cells _))) ?_
  refine al_t (op_field_rptr u46 rfl info9 (by decide) rfl rfl) ?_
  refine al_t (op_load_rptr u9 info9 rfl rfl) ?_
  refine al_t (op_sneq_str rfl rfl) ?_
  refine al_pk ?_
  exact al_nk gh8
 ·intro h8; have gh8 := h8
  iterate 6 refine al_ps ?_
  refine al_pk ?_
  exact al_nk gh8
 refine al_mv ?_
 apply al_and 6 64 70 rfl
 ·intro h9; have gh9 := h9
  simp only [nrm] at h9
  refine tk_fp u46 info44 ?_
  refine tk_ld u44 info44 ?_
  refine al_t (val_as (.rptr (cellsR (r.elem.getD 0 default))) (op_im u44 info46) (by exact congrArg AVal.rptr (encR_cells _))) ?_
  refine al_t (op_load_rptr u46 info46 rfl rfl) ?_
  refine al_callp_take into34 rfl rfl rfl rfl rfl rfl (r_valid1 (r.elem.getD 0 default) (ho2.u _ (getD_mem (by omega))) (arr_ne2 (by assumption)) _) (by simp) ?_
  refine al_pk ?_
  exact al_nk gh9
 ·intro h9; have gh9 := h9
  iterate 5 refine al_ps ?_
  refine al_pk ?_
  exact al_nk gh9
 refine al_gs ?_
 refine al_nil ?_
 refine fz1 (t := 2) ?_
 refine aw_ret ?_
 refine ⟨_, res_1 rfl rfl, ?_, rfl⟩
 rw [vr_arr ho2 gl gg gv]; rfl
end Go.Proofs.YtcgdlhkiecommaaGreatDoor
