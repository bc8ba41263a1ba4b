import Derived.Test.YtcgdlhkiecommaaGreatDoorXTop
import Derived.Test.YtcgdlhkiecommaaGreatDoorW320


import Derived.Test.YtcgdlhkiecommaaGreatDoorFacts
import Derived.Test.YtcgdlhkiecommaaGreatDoorEngNest




/- Printed walks (gen.py, lexer_ann.py): part 401. -/






set_option linter.unusedVariables false
set_option linter.unusedSimpArgs false
set_option maxRecDepth 20000
set_option maxHeartbeats 40000000
namespace Go.Proofs.YtcgdlhkiecommaaGreatDoor
open Go
theorem e_text (t : Tk) (ht : OKT t) : ACp Tryz.prog 141 [.agg (encK t)] (.v (.string (str (textT t)))) := by
 refine acp_of rfl ?_
 obtain ⟨t1, t2, t3⟩ := ht
 refine ace 11 Tryz.func141 ?_
 refine aw_sr ?_
 refine al_bx 1 fun ver1 => ?_
 refine al_gs ?_
 refine al_nil ?_
 refine aw_seq ?_
 refine aw_sr ?_
 refine al_fp u65 info63 ?_
 refine al_ld u63 info63 ?_
 refine al_eq ?_
 refine al_nil ?_
 refine aw_cond rfl (fun h1 => ?_) (fun h1 => ?_)
 ·have gh1 := h1
  simp only [nrm] at h1
  refine aw_sr ?_
  refine al_fp u65 info3 ?_
  refine al_ld u3 info3 ?_
  refine al_callp into151 rfl rfl rfl ((q_itoa _ (by first | assumption | omega | (simp; done) | (simp; omega) | decide) (by first | assumption | omega | (simp; done) | (simp; omega) | decide)) _) (by simp) ?_
  refine al_gs ?_
  refine al_nil ?_
  refine fz1 (t := 2) ?_
  refine aw_ret ?_
  refine ⟨_, res_1 rfl rfl, ?_, rfl⟩
  rw [textT, gh1]; rfl
 have gh1 := h1
 simp only [nrm] at h1
 refine aw_skip ?_
 refine aw_sr ?_
 refine al_fp u65 info9 ?_
 refine al_ld u9 info9 ?_
 refine al_gs ?_
 refine al_nil ?_
 refine fz1 (t := 2) ?_
 refine aw_ret ?_
 refine ⟨_, res_1 rfl rfl, ?_, rfl⟩
 rw [textT, gh1]; rfl
theorem e_token (v0 : Nat) (l : List Tk) (hl : OKTs l) (hn : l.length ≤ 1000000000) (i d : Nat) (hd : d ≤ 40) (hi : i ≤ l.length)  : AC Tryz.prog 91 [.ptr 0 v0 0 0] (rd v0 l i d []) (fun r σ' => r = .ret (.agg (encK (tokAt l i))) ∧ σ'.keep k0 = rd v0 l i d []) := by
 refine ace 24 Tryz.func91 ?_
 refine aw_sr ?_
 refine al_al 2 info65 fun ver2 => ?_
 refine al_nil ?_
 refine aw_seq ?_
 refine aw_seq ?_
 refine aw_any (Checked.mixed Tryz.checked) ?_
 apply aany_seg (p := 0) (q := 10) (by kernel_rfl) rfl (by decide)
 ·
  apply ql_plain rfl (op_move rfl)
  apply ql_plain rfl (op_nilCheck_ptr rfl rfl)
  apply ql_plain rfl (op_field_ptr u105 rfl info3 (by decide) rfl rfl rfl)
  apply ql_plain rfl (op_load_ptr u3 info3 rfl rfl rfl rfl)
  apply ql_plain rfl (op_move rfl)
  apply ql_plain rfl (op_nilCheck_ptr rfl rfl)
  apply ql_plain rfl (op_field_ptr u105 rfl info22 (by decide) rfl rfl rfl)
  apply ql_plain rfl (op_load_ptr u22 info22 rfl rfl rfl rfl)
  apply ql_plain rfl (op_len_map u22 rfl)
  apply ql_plain rfl (op_lss rfl rfl)
  exact ql_nil
 ·simp
 refine aany_end rfl (by kernel_rfl) ?_
 refine aw_cond rfl (fun h1 => ?_) (fun h1 => ?_)
 ·have gh1 := h1
  simp only [nrm] at h1
  refine aw_seq ?_
  refine aw_any (Checked.mixed Tryz.checked) ?_
  apply aany_seg (p := 0) (q := 10) (by kernel_rfl) rfl (by decide)
  ·
   apply ql_plain rfl (op_move rfl)
   apply ql_plain rfl (op_nilCheck_ptr rfl rfl)
   apply ql_plain rfl (op_field_ptr u105 rfl info22 (by decide) rfl rfl rfl)
   apply ql_plain rfl (op_load_ptr u22 info22 rfl rfl rfl rfl)
   apply ql_plain rfl (op_move rfl)
   apply ql_plain rfl (op_nilCheck_ptr rfl rfl)
   apply ql_plain rfl (op_field_ptr u105 rfl info3 (by decide) rfl rfl rfl)
   apply ql_plain rfl (op_load_ptr u3 info3 rfl rfl rfl rfl)
   apply ql_plain rfl (op_im u22 info65)
   apply ql_plain rfl (op_load_rptr u65 info65 rfl rfl)
   exact ql_nil
  ·simp
  refine aany_op (by kernel_rfl) rfl rfl (op_sp info65) (by simp) ?_
  refine aany_end rfl (by kernel_rfl) ?_
  refine aw_ret ?_
  refine ⟨_, res_cell rfl u65 info65 rfl rfl rfl rfl, ?_⟩
  exact ⟨rfl, rfl⟩
 have gh1 := h1
 simp only [nrm] at h1
 refine aw_skip ?_
 refine aw_sr ?_
 refine al_o (op_bs u65 info65 place65) ?_
 refine al_sp info65 ?_
 refine al_nil ?_
 refine aw_ret ?_
 refine ⟨_, res_cell rfl u65 info65 rfl rfl rfl rfl, ?_⟩
 rw [tokAt_out (by omega)]; exact ⟨rfl, rfl⟩
theorem e_tokenA {σ : Store} (v0 : Nat) (l : List Tk) (hl : OKTs l) (hn : l.length ≤ 1000000000) (i d : Nat) (hd : d ≤ 40) (hi : i ≤ l.length) (h1 : σ.get 0 = some (v0, .row 7 [rdr l i d])) (hb : σ.below 1000 = true) : AC Tryz.prog 91 [.ptr 0 v0 0 0] σ (fun r σ' => r = .ret (.agg (encK (tokAt l i))) ∧ σ' = σ) :=
  rd_look rfl rfl (e_token v0 l hl hn i d hd hi ) h1 hb
theorem e_fail (v0 : Nat) (l : List Tk) (hl : OKTs l) (hn : l.length ≤ 1000000000) (i d : Nat) (hd : d ≤ 40) (hi : i ≤ l.length) (c : Int) : AC Tryz.prog 96 [.ptr 0 v0 0 0, .v (.int .i64 (c))] (rd v0 l i d []) (fun r σ' => RdK v0 l (d) encUnit (.bad (fltAt l c i)) r σ') := by
 refine ace 31 Tryz.func96 ?_
 refine aw_seq ?_
 refine aw_seq ?_
 refine aw_any (Checked.mixed Tryz.checked) ?_
 apply aany_seg (p := 0) (q := 10) (by kernel_rfl) rfl (by decide)
 ·
  apply ql_plain rfl (op_move rfl)
  apply ql_plain rfl (op_nilCheck_ptr rfl rfl)
  apply ql_plain rfl (op_field_ptr u105 rfl info3 (by decide) rfl rfl rfl)
  apply ql_plain rfl (op_load_ptr u3 info3 rfl rfl rfl rfl)
  apply ql_plain rfl (op_move rfl)
  apply ql_plain rfl (op_nilCheck_ptr rfl rfl)
  apply ql_plain rfl (op_field_ptr u105 rfl info22 (by decide) rfl rfl rfl)
  apply ql_plain rfl (op_load_ptr u22 info22 rfl rfl rfl rfl)
  apply ql_plain rfl (op_len_map u22 rfl)
  apply ql_plain rfl (op_geq rfl rfl)
  exact ql_nil
 ·simp
 refine aany_end rfl (by kernel_rfl) ?_
 refine aw_cond rfl (fun h1 => ?_) (fun h1 => ?_)
 ·have gh1 := h1
  simp only [nrm] at h1
  refine aw_region ?_
  refine al_mv ?_
  refine al_o (op_nilCheck_ptr rfl rfl) ?_
  refine al_fp u105 info40 ?_
  refine al_ld u40 info40 ?_
  refine al_o (op_iface_agg (vals := [.int .i64 12, .string (str []), .int .i64 0, .int .i64 0]) (by kernel_rfl) rfl) ?_
  refine al_panic rfl ?_
  rw [fltAt_end _ (by omega)]; exact rdk_bad (g := eofF) rfl rfl
 have gh1 := h1
 simp only [nrm] at h1
 refine aw_skip ?_
 refine aw_seq ?_
 have htk := tokAt_ok hl i
 refine aw_region ?_
 refine al_mv ?_
 refine al_callp into91 rfl rfl rfl (e_tokenA v0 l hl hn i d (by omega) (by omega)  rfl rfl) (by simp) ?_
 refine al_al 4 info65 fun ver4 => ?_
 refine al_sp info65 ?_
 refine al_nil ?_
 refine aw_any (Checked.mixed Tryz.checked) ?_
 apply aany_seg (p := 0) (q := 9) (by kernel_rfl) rfl (by decide)
 ·
  apply ql_plain rfl (op_move rfl)
  apply ql_plain rfl (op_load_ptr u65 info65 rfl rfl rfl rfl)
  apply ql_call into141 rfl rfl rfl (e_text (tokAt l i) htk _)
  apply ql_plain rfl (op_field_ptr u65 rfl info3 (by decide) rfl rfl rfl)
  apply ql_plain rfl (op_load_ptr u3 info3 rfl rfl rfl rfl)
  apply ql_plain rfl (op_field_ptr u65 rfl info3 (by decide) rfl rfl rfl)
  apply ql_plain rfl (op_load_ptr u3 info3 rfl rfl rfl rfl)
  apply ql_plain rfl (op_bs u40 info40 place40)
  apply ql_plain rfl (op_iface_agg (vals := [.int .i64 c, .string (str (textT (tokAt l i))), .int .i64 (tokAt l i).line, .int .i64 (tokAt l i).col]) (by kernel_rfl) rfl)
  exact ql_nil
 ·simp
 refine aany_panic (by kernel_rfl) rfl rfl ?_
 rw [fltAt_in _ (by omega)]; exact rdk_bad (g := ⟨c, textT (tokAt l i), (tokAt l i).line, (tokAt l i).col⟩) rfl rfl
theorem e_is (v0 : Nat) (l : List Tk) (hl : OKTs l) (hn : l.length ≤ 1000000000) (i d : Nat) (hd : d ≤ 40) (hi : i ≤ l.length) (ts : List Bs) (hts : ts.length ≤ 1000000) : AC Tryz.prog 90 [.ptr 0 v0 0 0, .list 1 (ts.map encBs)] (rd v0 l i d []) (fun r σ' => r = .ret (.v (.bool (isAt l ts i))) ∧ σ'.keep k0 = rd v0 l i d []) := by
 refine ace 22 Tryz.func90 ?_
 refine aw_sr ?_
 refine al_gs ?_
 refine al_sr ?_
 refine al_mv ?_
 refine al_callp into91 rfl rfl rfl (e_tokenA v0 l hl hn i d (by omega) (by omega)  rfl rfl) (by simp) ?_
 refine al_al 5 info65 fun ver5 => ?_
 refine al_sp info65 ?_
 refine al_sr ?_
 refine al_fp u65 info63 ?_
 refine al_ld u63 info63 ?_
 refine al_eq ?_
 refine al_mv ?_
 apply al_or 4 11 15 rfl
 ·intro h1; have gh1 := h1
  simp only [nrm] at h1
  refine tk_fp u65 info63 ?_
  refine tk_ld u63 info63 ?_
  refine tk_eq ?_
  refine al_pk ?_
  exact al_nk gh1
 ·intro h1; have gh1 := h1
  simp only [nrm] at h1
  iterate 3 refine al_ps ?_
  refine al_pk ?_
  exact al_nk gh1
 refine al_mv ?_
 apply al_and 5 16 21 rfl
 ·intro h2; have gh2 := h2
  simp only [nrm] at h2
  refine tk_mv ?_
  refine tk_fp u65 info9 ?_
  refine tk_ld u9 info9 ?_
  refine al_callp_take into61 rfl rfl rfl rfl rfl rfl ((q_member _ _ (by first | assumption | omega | (simp; done) | (simp; omega) | decide)) _) (by simp) ?_
  refine al_pk ?_
  exact al_nk gh2
 ·intro h2; have gh2 := h2
  simp only [nrm] at h2
  iterate 4 refine al_ps ?_
  refine al_pk ?_
  exact al_nk gh2
 refine al_gs ?_
 refine al_nil ?_
 refine aw_ret ?_
 refine ⟨_, res_1 rfl rfl, ?_⟩
 exact ⟨rfl, rfl⟩
theorem e_isA {σ : Store} (v0 : Nat) (l : List Tk) (hl : OKTs l) (hn : l.length ≤ 1000000000) (i d : Nat) (hd : d ≤ 40) (hi : i ≤ l.length) (ts : List Bs) (hts : ts.length ≤ 1000000)(h1 : σ.get 0 = some (v0, .row 7 [rdr l i d])) (hb : σ.below 1000 = true) : AC Tryz.prog 90 [.ptr 0 v0 0 0, .list 1 (ts.map encBs)] σ (fun r σ' => r = .ret (.v (.bool (isAt l ts i))) ∧ σ' = σ) :=
  rd_look rfl rfl (e_is v0 l hl hn i d hd hi ts hts) h1 hb
theorem e_take (v0 : Nat) (l : List Tk) (hl : OKTs l) (hn : l.length ≤ 1000000000) (i d : Nat) (hd : d ≤ 40) (hi : i ≤ l.length) (ts : List Bs) (hts : ts.length ≤ 1000000) : AC Tryz.prog 140 [.ptr 0 v0 0 0, .list 1 (ts.map encBs)] (rd v0 l i d []) (fun r σ' => RdK v0 l (d) (fun b => .v (.bool b)) (.ok (isAt l ts i) (if isAt l ts i = true then i + 1 else i)) r σ') := by
 refine ace 16 Tryz.func140 ?_
 refine aw_sr ?_
 refine al_gs ?_
 refine al_nil ?_
 refine aw_seq ?_
 refine aw_sr ?_
 refine al_mv ?_
 refine al_mv ?_
 refine al_callp into90 rfl rfl rfl (e_isA v0 l hl hn i d (by omega) (by omega) ts hts rfl rfl) (by simp) ?_
 refine al_o (op_not rfl) ?_
 refine al_nil ?_
 refine aw_cond rfl (fun h1 => ?_) (fun h1 => ?_)
 ·have gh1 := h1
  simp only [nrm] at h1
  refine aw_sr ?_
  refine al_gs ?_
  refine al_nil ?_
  refine aw_ret ?_
  refine ⟨_, res_1 rfl rfl, ?_⟩
  have g : isAt l ts i = false := by simpa using gh1
  rw [g]; exact rdk_ok false i rfl rfl
 have gh1 := h1
 simp only [nrm] at h1
 refine aw_skip ?_
 refine aw_sr ?_
 refine al_mv ?_
 refine al_o (op_nilCheck_ptr rfl rfl) ?_
 refine al_fp u105 info3 ?_
 refine al_ld u3 info3 ?_
 refine al_ad ?_
 refine al_o (op_nilCheck_ptr rfl rfl) ?_
 refine al_fp u105 info3 ?_
 refine al_sp info3 ?_
 refine al_sr ?_
 refine al_gs ?_
 refine al_nil ?_
 refine aw_ret ?_
 refine ⟨_, res_1 rfl rfl, ?_⟩
 have g : isAt l ts i = true := by simpa using gh1
 rw [g]; exact rdk_ok true (i + 1) rfl rfl
theorem e_want (v0 : Nat) (l : List Tk) (hl : OKTs l) (hn : l.length ≤ 1000000000) (i d : Nat) (hd : d ≤ 40) (hi : i ≤ l.length) (s : Bs) : AC Tryz.prog 95 [.ptr 0 v0 0 0, .v (.string (str (s)))] (rd v0 l i d []) (fun r σ' => RdK v0 l (d) encUnit (wantP l s i) r σ') := by
 refine ace 11 Tryz.func95 ?_
 refine aw_sr ?_
 refine al_mv ?_
 refine al_mv ?_
 refine al_o (op_ol encBs [s] u32 info9) ?_
 refine al_call into140 rfl rfl rfl (rd_lift rfl (fun _ => rfl) (e_take v0 l hl hn i d hd hi [s] (by simp)) _ (by rfl)) (by simp) ?_; rintro _ _ (⟨g7, i7, d7, hx7, rfl, rfl⟩ | ⟨a7, j7, hx7, rfl, rfl⟩)
 ·cases hx7
 cases hx7
 refine al_o (op_not rfl) ?_
 refine al_nil ?_
 refine aw_cond rfl (fun h1 => ?_) (fun h1 => ?_)
 ·have gh1 := h1
  simp only [nrm] at h1
  refine aw_region ?_
  refine al_mv ?_
  have g : isAt l [s] i = false := by simpa using gh1
  rw [if_neg (by rw [g]; exact Bool.false_ne_true)]
  refine al_call into96 rfl rfl rfl (rd_lift rfl (fun _ => rfl) (e_fail v0 l hl hn i d hd hi 11) _ (by rfl)) (by simp) ?_; rintro _ _ (⟨g10, i10, d10, ⟨⟩, rfl, rfl⟩ | ⟨_, _, ⟨⟩, _⟩)
  exact rdk_bad (by rw [wantP, g]; rfl) rfl
 have gh1 := h1
 simp only [nrm] at h1
 refine aw_skip ?_
 refine ⟨_, res_0 rfl, ?_⟩
 have g : isAt l [s] i = true := by simpa using gh1
 exact rdk_ok () (i + 1) (want_yes g) (by rw [g]; rfl)
theorem e_kind (v0 : Nat) (l : List Tk) (hl : OKTs l) (hn : l.length ≤ 1000000000) (i d : Nat) (hd : d ≤ 40) (hi : i ≤ l.length) (k : Int) (hk : k ≠ 0) : AC Tryz.prog 81 [.ptr 0 v0 0 0, .v (.int .i64 (k))] (rd v0 l i d []) (fun r σ' => RdK v0 l (d) (fun t => .agg (encK t)) (kindP l k i) r σ') := by
 refine ace 22 Tryz.func81 ?_
 refine aw_sr ?_
 refine al_al 4 info65 fun ver4 => ?_
 refine al_sr ?_
 refine al_mv ?_
 refine al_callp into91 rfl rfl rfl (e_tokenA v0 l hl hn i d (by omega) (by omega)  rfl rfl) (by simp) ?_
 refine al_al 5 info65 fun ver5 => ?_
 refine al_sp info65 ?_
 refine al_nil ?_
 refine aw_seq ?_
 refine aw_sr ?_
 refine al_fp u65 info63 ?_
 refine al_ld u63 info63 ?_
 refine al_mv ?_
 refine al_o (op_neq rfl rfl) ?_
 refine al_nil ?_
 refine aw_cond rfl (fun h1 => ?_) (fun h1 => ?_)
 ·have gh1 := h1
  simp only [nrm] at h1
  refine aw_region ?_
  refine al_mv ?_
  refine al_call into96 rfl rfl rfl (rd_lift rfl (fun _ => rfl) (e_fail v0 l hl hn (i) (d) (by omega) (by omega) 11) _ (by rfl)) (by simp) ?_; rintro _ _ (⟨g13, i13, d13, ⟨⟩, rfl, rfl⟩ | ⟨_, _, ⟨⟩, _⟩)
  have g : ((tokAt l i).op == k) = false := by simpa using gh1
  exact rdk_bad (by rw [kindP, g]; rfl) rfl
 have gh1 := h1
 simp only [nrm] at h1
 refine aw_skip ?_
 refine aw_seq ?_
 have g : ((tokAt l i).op == k) = true := by simpa using gh1
 have hlt := op_lt (l := l) (i := i) (k := k) (by simpa using g) hk
 refine aw_region ?_
 refine al_mv ?_
 refine al_o (op_nilCheck_ptr rfl rfl) ?_
 refine al_fp u105 info3 ?_
 refine al_ld u3 info3 ?_
 refine al_ad ?_
 refine al_o (op_nilCheck_ptr rfl rfl) ?_
 refine al_fp u105 info3 ?_
 refine al_sp info3 ?_
 refine al_sr ?_
 refine al_ld u65 info65 ?_
 refine al_sp info65 ?_
 refine al_nil ?_
 refine aw_ret ?_
 refine ⟨_, res_cell rfl u65 info65 rfl rfl rfl rfl, ?_⟩
 exact rdk_ok (tokAt l i) (i + 1) (by rw [kindP, g]; rfl) rfl
theorem e_name (v0 : Nat) (l : List Tk) (hl : OKTs l) (hn : l.length ≤ 1000000000) (i d : Nat) (hd : d ≤ 40) (hi : i ≤ l.length)  : AC Tryz.prog 94 [.ptr 0 v0 0 0] (rd v0 l i d []) (fun r σ' => RdK v0 l (d) (fun t => .v (.string (str t.text))) (kindP l 1 i) r σ') := by
 refine ace 6 Tryz.func94 ?_
 refine aw_sr ?_
 refine al_gs ?_
 refine al_sr ?_
 refine al_mv ?_
 refine al_call into81 rfl rfl rfl (rd_lift rfl (fun _ => rfl) (e_kind v0 l hl hn i d hd hi 1 (by decide)) _ (by rfl)) (by simp) ?_; rintro _ _ (⟨g4, i4, d4, hx4, rfl, rfl⟩ | ⟨a4, j4, hx4, rfl, rfl⟩)
 ·exact rdk_bad (hx4) rfl
 refine al_o (op_field u65 rfl u9 info9 rfl rfl rfl) ?_
 refine al_gs ?_
 refine al_nil ?_
 refine aw_ret ?_
 refine ⟨_, res_1 rfl rfl, ?_⟩
 exact rdk_ok a4 j4 hx4 rfl
theorem e_here (v0 : Nat) (l : List Tk) (hl : OKTs l) (hn : l.length ≤ 1000000000) (i d : Nat) (hd : d ≤ 40) (hi : i ≤ l.length)  : AC Tryz.prog 89 [.ptr 0 v0 0 0] (rd v0 l i d []) (fun r σ' => r = .ret (.tuple [.v (.int .i64 ((tokAt l i).line)), .v (.int .i64 ((tokAt l i).col))]) ∧ σ'.keep k0 = rd v0 l i d []) := by
 refine ace 11 Tryz.func89 ?_
 refine aw_sr ?_
 refine al_gs ?_
 refine al_gs ?_
 refine al_sr ?_
 refine al_mv ?_
 refine al_callp into91 rfl rfl rfl (e_tokenA v0 l hl hn i d (by omega) (by omega)  rfl rfl) (by simp) ?_
 refine al_al 4 info65 fun ver4 => ?_
 refine al_sp info65 ?_
 refine al_nil ?_
 refine aw_seq ?_
 refine aw_any (Checked.mixed Tryz.checked) ?_
 apply aany_seg (p := 0) (q := 6) (by kernel_rfl) rfl (by decide)
 ·
  apply ql_plain rfl (op_field_ptr u65 rfl info3 (by decide) rfl rfl rfl)
  apply ql_plain rfl (op_load_ptr u3 info3 rfl rfl rfl rfl)
  apply ql_plain rfl (op_field_ptr u65 rfl info3 (by decide) rfl rfl rfl)
  apply ql_plain rfl (op_load_ptr u3 info3 rfl rfl rfl rfl)
  apply ql_plain rfl (op_assign rfl)
  apply ql_plain rfl (op_assign rfl)
  exact ql_nil
 ·simp
 refine aany_end rfl (by kernel_rfl) ?_
 refine aw_ret ?_
 refine ⟨_, res_2 rfl rfl rfl rfl rfl, ?_⟩
 exact ⟨rfl, rfl⟩
theorem e_hereA {σ : Store} (v0 : Nat) (l : List Tk) (hl : OKTs l) (hn : l.length ≤ 1000000000) (i d : Nat) (hd : d ≤ 40) (hi : i ≤ l.length) (h1 : σ.get 0 = some (v0, .row 7 [rdr l i d])) (hb : σ.below 1000 = true) : AC Tryz.prog 89 [.ptr 0 v0 0 0] σ (fun r σ' => r = .ret (.tuple [.v (.int .i64 ((tokAt l i).line)), .v (.int .i64 ((tokAt l i).col))]) ∧ σ' = σ) :=
  rd_look rfl rfl (e_here v0 l hl hn i d hd hi ) h1 hb
theorem e_into (v0 : Nat) (l : List Tk) (hl : OKTs l) (hn : l.length ≤ 1000000000) (i d : Nat) (hd : d ≤ 40) (hi : i ≤ l.length)  : AC Tryz.prog 139 [.ptr 0 v0 0 0] (rd v0 l i d []) (fun r σ' => RdK v0 l (d - 1) encUnit (intoP l d i) r σ') := by
 refine ace 23 Tryz.func139 ?_
 refine aw_seq ?_
 refine aw_sr ?_
 refine al_mv ?_
 refine al_o (op_nilCheck_ptr rfl rfl) ?_
 refine al_fp u105 info3 ?_
 refine al_ld u3 info3 ?_
 refine al_eq ?_
 refine al_nil ?_
 refine aw_cond rfl (fun h1 => ?_) (fun h1 => ?_)
 ·have gh1 := h1
  simp only [nrm] at h1
  refine aw_region ?_
  refine al_mv ?_
  refine al_call into96 rfl rfl rfl (rd_lift rfl (fun _ => rfl) (e_fail v0 l hl hn (i) (d) (by omega) (by omega) 23) _ (by rfl)) (by simp) ?_; rintro _ _ (⟨g8, i8, d8, ⟨⟩, rfl, rfl⟩ | ⟨_, _, ⟨⟩, _⟩)
  exact rdk_bad (by rw [intoP, if_pos (by omega)]) rfl
 have gh1 := h1
 simp only [nrm] at h1
 refine aw_skip ?_
 refine aw_sr ?_
 refine al_mv ?_
 refine al_o (op_nilCheck_ptr rfl rfl) ?_
 refine al_fp u105 info3 ?_
 refine al_ld u3 info3 ?_
 refine al_ad ?_
 refine al_o (op_nilCheck_ptr rfl rfl) ?_
 refine al_fp u105 info3 ?_
 refine al_sp info3 ?_
 refine al_nil ?_
 refine aw_region ?_
 refine al_mv ?_
 refine al_o (op_nilCheck_ptr rfl rfl) ?_
 refine al_fp u105 info3 ?_
 refine al_ld u3 info3 ?_
 refine al_ad ?_
 refine al_o (op_nilCheck_ptr rfl rfl) ?_
 refine al_fp u105 info3 ?_
 refine al_sp info3 ?_
 refine al_nil ?_
 refine ⟨_, res_0 rfl, ?_⟩
 have h0 : d ≠ 0 := by omega
 rw [rd_deep h0]; exact rdk_ok () (i + 1) (by rw [intoP, if_neg h0]) rfl
theorem e_open (v0 : Nat) (l : List Tk) (hl : OKTs l) (hn : l.length ≤ 1000000000) (i d : Nat) (hd : d ≤ 40) (hi : i ≤ l.length)  : AC Tryz.prog 92 [.ptr 0 v0 0 0] (rd v0 l i d []) (fun r σ' => RdK v0 l (d - 1) encUnit (openP l d i) r σ') := by
 refine ace 10 Tryz.func92 ?_
 refine aw_seq ?_
 refine aw_sr ?_
 refine al_mv ?_
 refine al_o (op_ol encBs [sOpen] u32 info9) ?_
 refine al_callp into90 rfl rfl rfl (e_isA v0 l hl hn i d (by omega) (by omega) [sOpen] (by decide) rfl rfl) (by simp) ?_
 refine al_o (op_not rfl) ?_
 refine al_nil ?_
 refine aw_cond rfl (fun h1 => ?_) (fun h1 => ?_)
 ·have gh1 := h1
  simp only [nrm] at h1
  refine aw_region ?_
  refine al_mv ?_
  refine al_call into96 rfl rfl rfl (rd_lift rfl (fun _ => rfl) (e_fail v0 l hl hn (i) (d) (by omega) (by omega) 11) _ (by rfl)) (by simp) ?_; rintro _ _ (⟨g7, i7, d7, ⟨⟩, rfl, rfl⟩ | ⟨_, _, ⟨⟩, _⟩)
  have g : isAt l [sOpen] i = false := by simpa using gh1
  exact rdk_bad (by rw [openP, g]; rfl) rfl
 have gh1 := h1
 simp only [nrm] at h1
 refine aw_skip ?_
 refine aw_region ?_
 refine al_mv ?_
 have g : isAt l [sOpen] i = true := by simpa using gh1
 refine al_call into139 rfl rfl rfl (rd_lift rfl (fun _ => rfl) (e_into v0 l hl hn i d hd hi) _ (by rfl)) (by simp) ?_; rintro _ _ (⟨g9, i9, d9, hx9, rfl, rfl⟩ | ⟨a9, j9, hx9, rfl, rfl⟩)
 ·exact rdk_bad (by rw [openP, g]; exact hx9) rfl
 refine al_nil ?_
 refine ⟨_, res_0 rfl, ?_⟩
 exact rdk_ok a9 j9 (by rw [openP, g]; exact hx9) rfl
theorem e_shut (v0 : Nat) (l : List Tk) (hl : OKTs l) (hn : l.length ≤ 1000000000) (i d : Nat) (hd : d ≤ 40) (hi : i ≤ l.length) (d' : Nat) (hdd : d' = d + 1) : AC Tryz.prog 93 [.ptr 0 v0 0 0] (rd v0 l i d []) (fun r σ' => RdK v0 l (d') encUnit (wantP l sShut i) r σ') := by
 refine ace 11 Tryz.func93 ?_
 refine aw_sr ?_
 refine al_mv ?_
 refine al_call into95 rfl rfl rfl (rd_lift rfl (fun _ => rfl) (e_want v0 l hl hn i d hd hi sShut) _ (by rfl)) (by simp) ?_; rintro _ _ (⟨g3, i3, d3, hx3, rfl, rfl⟩ | ⟨a3, j3, hx3, rfl, rfl⟩)
 ·exact rdk_bad (hx3) rfl
 refine al_nil ?_
 refine aw_region ?_
 refine al_mv ?_
 refine al_o (op_nilCheck_ptr rfl rfl) ?_
 refine al_fp u105 info3 ?_
 refine al_ld u3 info3 ?_
 refine al_o (op_sub rfl rfl (by first | exact wrap_i64 (by omega) (by omega))) ?_
 refine al_o (op_nilCheck_ptr rfl rfl) ?_
 refine al_fp u105 info3 ?_
 refine al_sp info3 ?_
 refine al_nil ?_
 refine ⟨_, res_0 rfl, ?_⟩
 have e : (40 - (d : Int) - 1) = 40 - (d' : Int) := by omega
 rw [e]; exact rdk_ok a3 j3 hx3 rfl
theorem e_level (k : Nat) (hk : k < 4) : ACp Tryz.prog 131 [.v (.int .i64 ((k : Nat) : Int))] (.list 1 ((levelL k).map encBs)) := by
 refine acp_of rfl ?_
 refine ace 11 Tryz.func131 ?_
 refine aw_sr ?_
 refine al_gs ?_
 refine al_sr ?_
 refine al_o (op_ol encBs (levelL 0) u32 info9) ?_
 refine al_o (op_ol encBs (levelL 1) u32 info9) ?_
 refine al_o (op_ol encBs (levelL 2) u32 info9) ?_
 refine al_o (op_ol encBs (levelL 3) u32 info9) ?_
 refine al_o (op_ol encSL levelsL u177 info32) ?_
 refine al_mv ?_
 refine al_o (op_index_map default u177 info32 rfl rfl rfl (by first | (with_reducible exact Int.toNat_natCast _) | rfl) (by omega) (by show _ < 4; omega)) ?_
 refine al_lr u32 info32 ?_
 refine al_gs ?_
 refine al_nil ?_
 refine aw_freeze (fun _ => false) (fsub_cons (t := 2) rfl (by first | exact .leaf _ _ (frz_whole rfl rfl (by first | rfl | (simp; done) | (simp; omega)) (clo_map (fun _ => rfl))) | exact .leaf _ _ (.vnil 1) | exact .leaf _ _ (.nil 1) | exact .leaf _ _ (.same _)) fsub_nil) ?_
 refine aw_ret ?_
 refine ⟨_, res_1 rfl rfl, ?_, rfl⟩
 rfl
end Go.Proofs.YtcgdlhkiecommaaGreatDoor
/- Printed walks (gen.py, lexer_ann.py): part 403. -/



namespace Go.Proofs.YtcgdlhkiecommaaGreatDoor
open Go
theorem e_slice (v0 : Nat) (l : List Tk) (hl : OKTs l) (hn : l.length ≤ 1000000000) (j d : Nat) (hd : d ≤ 40) (hj : j ≤ l.length) (hd0 : d ≠ 0) (hE : d ≠ 0 → ∀ v0 i, i ≤ l.length → AC Tryz.prog 40 [.ptr 0 v0 0 0] (rd v0 l i (d - 1) []) (RdK v0 l (d - 1) encX (rowD l (d - 1) 4 i))) (e high : Ex) (t : Tk) : AC Tryz.prog 177 [.ptr 0 v0 0 0, .agg (cellsE (e)), .agg (cellsE (high)), .v (.int .i64 (t.line)), .v (.int .i64 (t.col))] (rd v0 l j (d - 1) []) (fun r σ' => RdK v0 l (d) encX (sliceP l (innerD l d) e high t j) r σ') := by
 refine ace 25 Tryz.func177 ?_
 refine aw_sr ?_
 refine al_bx 6 fun ver6 => ?_
 refine al_bx 7 fun ver7 => ?_
 refine al_al 10 info37 fun ver10 => ?_
 refine al_sr ?_
 refine al_mv ?_
 refine al_call into95 rfl rfl rfl (rd_lift rfl (fun _ => rfl) (e_want v0 l hl hn j (d - 1) (by omega) hj sDownto) _ (by rfl)) (by simp) ?_; rintro _ _ (⟨g13, i13, d13, hx13, rfl, rfl⟩ | ⟨a13, j13, hx13, rfl, rfl⟩)
 ·exact rdk_bad (by rw [sliceP, hx13]) rfl
 obtain ⟨rfl, hat13⟩ := want_ok hx13
 have hlt13 := isAt_lt hat13
 refine al_sr ?_
 refine al_mv ?_
 refine al_call into40 rfl rfl rfl (rd_lift rfl (fun _ => rfl) (hE hd0 v0 (j + 1) (by omega)) _ (by rfl)) (by simp) ?_; rintro _ _ (⟨g15, i15, d15, hx15, rfl, rfl⟩ | ⟨a15, j15, hx15, rfl, rfl⟩)
 ·exact rdk_bad (by rw [sliceP, hx13]; simp only; rw [innerD_pos hd0, hx15]) rfl
 have hgt15 := innerD_gt (l := l) d _ _ _ (by rw [innerD_pos hd0]; exact hx15)
 have hy15 : innerD l d (j + 1) = .ok a15 j15 := by rw [innerD_pos hd0]; exact hx15
 refine al_al 11 info37 fun ver11 => ?_
 refine al_sp info37 ?_
 refine al_sr ?_
 refine al_mv ?_
 refine al_call into93 rfl rfl rfl (rd_lift rfl (fun _ => rfl) (e_shut v0 l hl hn j15 (d - 1) (by omega) (by omega) d (by omega)) _ (by rfl)) (by simp) ?_; rintro _ _ (⟨g17, i17, d17, hx17, rfl, rfl⟩ | ⟨a17, j17, hx17, rfl, rfl⟩)
 ·exact rdk_bad (by rw [sliceP, hx13]; simp only; rw [hy15]; simp only; rw [hx17]) rfl
 refine al_sr ?_
 refine al_ld u37 info37 ?_
 refine al_ld u37 info37 ?_
 refine al_ld u37 info37 ?_
 refine al_o (op_list encE [e, high, a15] u31 info37 rfl rfl (by decide) rfl (by decide) rfl (by first | rfl | (repeat (first | exact parts_nil | refine parts_cons rfl (by repeat (first | exact all_live_nil | refine all_live_clo rfl ?_ | refine all_live_slice rfl ?_ | refine all_live_map rfl ?_ | refine all_live_ptr rfl ?_)) ?_))) rfl rfl rfl (kids3 _ _ _)) ?_
 refine al_mv ?_
 refine al_mv ?_
 refine al_o (val_re (.agg (cellsE (mkE 7 [] 0 [] [e, high, a15] t))) (op_bs u37 info37 place37) (.agg _ _ (by repeat (first | exact reL_nil | refine reL_cons (.same _) ?_ | refine reL_cons (.vnil _) ?_)))) ?_
 refine al_sp info37 ?_
 refine al_nil ?_
 refine aw_ret ?_
 refine ⟨_, res_cell rfl u37 info37 rfl rfl rfl rfl, ?_⟩
 exact rdk_ok (mkE 7 [] 0 [] [e, high, a15] t) j17 (by rw [sliceP, hx13]; simp only; rw [hy15]; simp only; rw [hx17]) rfl
theorem e_part (v0 : Nat) (l : List Tk) (hl : OKTs l) (hn : l.length ≤ 1000000000) (i d : Nat) (hd : d ≤ 40) (hi : i ≤ l.length) (hE : d ≠ 0 → ∀ v0 i, i ≤ l.length → AC Tryz.prog 40 [.ptr 0 v0 0 0] (rd v0 l i (d - 1) []) (RdK v0 l (d - 1) encX (rowD l (d - 1) 4 i))) (e : Ex) : AC Tryz.prog 137 [.ptr 0 v0 0 0, .agg (cellsE (e))] (rd v0 l i d []) (fun r σ' => RdK v0 l (d) encX (partP l d (innerD l d) e i) r σ') := by
 refine ace 46 Tryz.func137 ?_
 refine aw_sr ?_
 refine al_bx 3 fun ver3 => ?_
 refine al_al 4 info37 fun ver4 => ?_
 refine al_sr ?_
 refine al_mv ?_
 refine al_callp into89 rfl rfl rfl (e_hereA v0 l hl hn i d (by omega) (by omega)  rfl rfl) (by simp) ?_
 refine al_mv ?_
 refine al_xt ?_
 refine al_xt ?_
 refine al_gs ?_
 refine al_gs ?_
 refine al_sr ?_
 refine al_mv ?_
 refine al_call into92 rfl rfl rfl (rd_lift rfl (fun _ => rfl) (e_open v0 l hl hn (i) d hd (by omega)) _ (by rfl)) (by simp) ?_; rintro _ _ (⟨g14, i14, d14, hx14, rfl, rfl⟩ | ⟨a14, j14, hx14, rfl, rfl⟩)
 ·exact rdk_bad (by rw [partP, hx14]) rfl
 obtain ⟨hd0, rfl, hop14⟩ := open_ok hx14
 have hlt14 := isAt_lt hop14
 refine al_sr ?_
 refine al_mv ?_
 refine al_call into40 rfl rfl rfl (rd_lift rfl (fun _ => rfl) (hE hd0 v0 (i + 1) (by omega)) _ (by rfl)) (by simp) ?_; rintro _ _ (⟨g16, i16, d16, hx16, rfl, rfl⟩ | ⟨a16, j16, hx16, rfl, rfl⟩)
 ·exact rdk_bad (by rw [partP, hx14]; simp only; rw [innerD_pos hd0, hx16]) rfl
 have hgt16 := innerD_gt (l := l) d _ _ _ (by rw [innerD_pos hd0]; exact hx16)
 have hy16 : innerD l d (i + 1) = .ok a16 j16 := by rw [innerD_pos hd0]; exact hx16
 refine al_al 7 info37 fun ver7 => ?_
 refine al_sp info37 ?_
 refine al_nil ?_
 refine aw_seq ?_
 refine aw_sr ?_
 refine al_mv ?_
 refine al_o (op_ol encBs [sDownto] u32 info9) ?_
 refine al_callp into90 rfl rfl rfl (e_isA v0 l hl hn j16 (d - 1) (by omega) (by omega) [sDownto] (by decide) rfl rfl) (by simp) ?_
 refine al_nil ?_
 refine aw_cond rfl (fun h1 => ?_) (fun h1 => ?_)
 ·have gh1 := h1
  refine aw_sr ?_
  refine al_mv ?_
  refine al_ld u37 info37 ?_
  refine al_ld u37 info37 ?_
  refine al_mv ?_
  refine al_mv ?_
  refine al_call into177 rfl rfl rfl (rd_lift rfl (fun _ => rfl) (e_slice v0 l hl hn j16 d hd (by omega) hd0 hE e a16 (tokAt l i)) _ (by rfl)) (by simp) ?_; rintro _ _ (⟨g25, i25, d25, hx25, rfl, rfl⟩ | ⟨a25, j25, hx25, rfl, rfl⟩)
  ·exact rdk_bad (by rw [partP, hx14]; simp only; rw [hy16]; simp only; rw [if_pos h1]; exact hx25) rfl
  refine al_sp info37 ?_
  refine al_nil ?_
  refine aw_ret ?_
  refine ⟨_, res_cell rfl u37 info37 rfl rfl rfl rfl, ?_⟩
  exact rdk_ok a25 j25 (by rw [partP, hx14]; simp only; rw [hy16]; simp only; rw [if_pos h1]; exact hx25) rfl
 have gh1 := h1
 refine aw_skip ?_
 refine aw_sr ?_
 refine al_mv ?_
 refine al_call into93 rfl rfl rfl (rd_lift rfl (fun _ => rfl) (e_shut v0 l hl hn j16 (d - 1) (by omega) (by omega) d (by omega)) _ (by rfl)) (by simp) ?_; rintro _ _ (⟨g27, i27, d27, hx27, rfl, rfl⟩ | ⟨a27, j27, hx27, rfl, rfl⟩)
 ·exact rdk_bad (by rw [partP, hx14]; simp only; rw [hy16]; simp only; rw [h1, if_neg Bool.false_ne_true, hx27]) rfl
 refine al_nil ?_
 refine aw_seq ?_
 refine aw_sr ?_
 refine al_fp u37 info25 ?_
 refine al_ld u25 info25 ?_
 refine al_eq ?_
 refine al_nil ?_
 refine aw_cond rfl (fun h2 => ?_) (fun h2 => ?_)
 ·have gh2 := h2
  simp only [nrm] at h2
  refine aw_sr ?_
  refine al_fp u37 info9 ?_
  refine al_ld u9 info9 ?_
  refine al_ld u37 info37 ?_
  refine al_o (op_list encE [a16] u31 info37 rfl rfl (by decide) rfl (by decide) rfl (by first | rfl | (repeat (first | exact parts_nil | refine parts_cons rfl (by repeat (first | exact all_live_nil | refine all_live_clo rfl ?_ | refine all_live_slice rfl ?_ | refine all_live_map rfl ?_ | refine all_live_ptr rfl ?_)) ?_))) rfl rfl rfl (kids1 _)) ?_
  refine al_fp u37 info3 ?_
  refine al_ld u3 info3 ?_
  refine al_fp u37 info3 ?_
  refine al_ld u3 info3 ?_
  refine al_o (val_re (.agg (cellsE (Ex.mk 5 e.name 0 [] va0 [a16] ty0 e.line e.col))) (op_bs u37 info37 place37) (.agg _ _ (by repeat (first | exact reL_nil | refine reL_cons (.same _) ?_ | refine reL_cons (.vnil _) ?_)))) ?_
  refine al_sp info37 ?_
  refine al_nil ?_
  refine aw_ret ?_
  refine ⟨_, res_cell rfl u37 info37 rfl rfl rfl rfl, ?_⟩
  exact rdk_ok (Ex.mk 5 e.name 0 [] va0 [a16] ty0 e.line e.col) j27 (by rw [partP, hx14]; simp only; rw [hy16]; simp only; rw [h1, if_neg Bool.false_ne_true, hx27]; simp only; rw [partE, gh2]; rfl) rfl
 have gh2 := h2
 simp only [nrm] at h2
 refine aw_skip ?_
 refine aw_sr ?_
 refine al_ld u37 info37 ?_
 refine al_ld u37 info37 ?_
 refine al_o (op_list encE [e, a16] u31 info37 rfl rfl (by decide) rfl (by decide) rfl (by first | rfl | (repeat (first | exact parts_nil | refine parts_cons rfl (by repeat (first | exact all_live_nil | refine all_live_clo rfl ?_ | refine all_live_slice rfl ?_ | refine all_live_map rfl ?_ | refine all_live_ptr rfl ?_)) ?_))) rfl rfl rfl (kids2 _ _)) ?_
 refine al_mv ?_
 refine al_mv ?_
 refine al_o (val_re (.agg (cellsE (mkE 6 [] 0 [] [e, a16] (tokAt l i)))) (op_bs u37 info37 place37) (.agg _ _ (by repeat (first | exact reL_nil | refine reL_cons (.same _) ?_ | refine reL_cons (.vnil _) ?_)))) ?_
 refine al_sp info37 ?_
 refine al_nil ?_
 refine aw_ret ?_
 refine ⟨_, res_cell rfl u37 info37 rfl rfl rfl rfl, ?_⟩
 exact rdk_ok (mkE 6 [] 0 [] [e, a16] (tokAt l i)) j27 (by rw [partP, hx14]; simp only; rw [hy16]; simp only; rw [h1, if_neg Bool.false_ne_true, hx27]; simp only; rw [partE, gh2]; rfl) rfl
theorem e_parts (v0 : Nat) (l : List Tk) (hl : OKTs l) (hn : l.length ≤ 1000000000) (i d : Nat) (hd : d ≤ 40) (hi : i ≤ l.length) (hE : d ≠ 0 → ∀ v0 i, i ≤ l.length → AC Tryz.prog 40 [.ptr 0 v0 0 0] (rd v0 l i (d - 1) []) (RdK v0 l (d - 1) encX (rowD l (d - 1) 4 i))) (e : Ex) : AC Tryz.prog 82 [.ptr 0 v0 0 0, .agg (cellsE (e))] (rd v0 l i d []) (fun r σ' => RdK v0 l (d) encX (partsP l d (innerD l d) (l.length - i) e i) r σ') := by
 refine ace 12 Tryz.func82 ?_
 refine aw_sr ?_
 refine al_bx 3 fun ver3 => ?_
 refine al_al 4 info37 fun ver4 => ?_
 refine al_nil ?_
 refine aw_seq ?_
 refine aw_block ?_
 refine aw_for2T (α := Ex) (β := Nat) [] [] (fun e2 j => l.length - j) (fun e2 j => j ≤ l.length ∧ partsP l d (innerD l d) (l.length - j) e2 j = partsP l d (innerD l d) (l.length - i) e i) (fun e2 j => ([] : Env)) (fun e2 j st => ([(0, v0, .row 7 [rdr l j d]), (3, ver3, .row 16 [cellsE e2]), (4, ver4, .row 16 [zeroE])] : Store)) (e) (i) ?_ ?_ ?_ (fun e2 j hinv => ?_)
 ·exact ⟨hi, rfl⟩
 ·exact sub_nil
 ·rfl
 refine aw_seq ?_
 refine aw_sr ?_
 refine al_mv ?_
 refine al_o (op_ol encBs [sOpen] u32 info9) ?_
 refine al_callp into90 rfl rfl rfl (e_isA v0 l hl hn j d (by omega) (by omega) [sOpen] (by decide) rfl rfl) (by simp) ?_
 refine al_nil ?_
 refine aw_cond rfl (fun h1 => ?_) (fun h1 => ?_)
 ·have gh1 := h1
  refine aw_skip ?_
  refine aw_block ?_
  refine aw_region ?_
  refine al_mv ?_
  refine al_ld u37 info37 ?_
  refine al_call into137 rfl rfl rfl (rd_lift rfl (fun _ => rfl) (e_part v0 l hl hn j d hd hinv.1 hE e2) _ (by rfl)) (by simp) ?_; rintro _ _ (⟨g10, i10, d10, hx10, rfl, rfl⟩ | ⟨a10, j10, hx10, rfl, rfl⟩)
  ·exact rdk_bad (by rw [← hinv.2]; exact parts_bad h1 hx10) rfl
  have hgt10 := part_gt (innerD_gt d) _ _ hx10
  refine al_sp info37 ?_
  refine al_nil ?_
  refine ⟨a10, j10, ?_, ?_, ?_, ?_, ?_⟩
  ·have := isAt_lt h1; omega
  ·exact ⟨by omega, (parts_step (innerD_gt d) h1 hx10).trans hinv.2⟩
  ·exact sub_nil
  ·exact sbl
  ·rfl
 have gh1 := h1
 refine aw_exit ?_
 refine aw_sr ?_
 refine al_ld u37 info37 ?_
 refine al_sp info37 ?_
 refine al_nil ?_
 refine aw_ret ?_
 refine ⟨_, res_cell rfl u37 info37 rfl rfl rfl rfl, ?_⟩
 exact rdk_ok e2 j (by rw [← hinv.2]; exact parts_stop h1) rfl
end Go.Proofs.YtcgdlhkiecommaaGreatDoor
/- Printed walks (gen.py, lexer_ann.py): part 404. -/



namespace Go.Proofs.YtcgdlhkiecommaaGreatDoor
open Go
theorem e_namedF (v0 : Nat) (l : List Tk) (hl : OKTs l) (hn : l.length ≤ 1000000000) (i d : Nat) (hd : d ≤ 40) (hi : i ≤ l.length) (hE : d ≠ 0 → ∀ v0 i, i ≤ l.length → AC Tryz.prog 40 [.ptr 0 v0 0 0] (rd v0 l i (d - 1) []) (RdK v0 l (d - 1) encX (rowD l (d - 1) 4 i)))  : AC Tryz.prog 196 [.ptr 0 v0 0 0] (rd v0 l i d []) (fun r σ' => RdF v0 l d (namedP l d (innerD l d) i) r σ') := by
 refine ace 70 Tryz.func196 ?_
 refine aw_sr ?_
 refine al_al 2 info37 fun ver2 => ?_
 refine al_sr ?_
 refine al_mv ?_
 refine al_call into81 rfl rfl rfl (rd_lift rfl (fun _ => rfl) (e_kind v0 l hl hn i d hd hi 1 (by decide)) _ (by rfl)) (by simp) ?_; rintro _ _ (⟨g9, i9, d9, hx9, rfl, rfl⟩ | ⟨a9, j9, hx9, rfl, rfl⟩)
 ·exact rdf_bad (by obtain ⟨g, rfl⟩ := kind_bad hx9; rw [namedP, g]; rfl) rfl
 obtain ⟨rfl, rfl, hop9⟩ := kind_ok hx9
 have hlt9 := op_lt (l := l) (i := i) (k := 1) (by simpa using hop9) (by decide)
 refine al_al 3 info65 fun ver3 => ?_
 refine al_sp info65 ?_
 refine al_sr ?_
 refine al_fp u65 info9 ?_
 refine al_ld u9 info9 ?_
 refine al_fp u65 info3 ?_
 refine al_ld u3 info3 ?_
 refine al_fp u65 info3 ?_
 refine al_ld u3 info3 ?_
 refine al_o (val_re (.agg (cellsE (mkE 4 (tokAt l i).text 0 [] [] (tokAt l i)))) (op_bs u37 info37 place37) (.agg _ _ (by repeat (first | exact reL_nil | refine reL_cons (.same _) ?_ | refine reL_cons (.vnil _) ?_)))) ?_
 refine al_al 4 info37 fun ver4 => ?_
 refine al_sp info37 ?_
 refine al_nil ?_
 refine aw_seq ?_
 refine aw_sr ?_
 refine al_mv ?_
 refine al_o (op_ol encBs [sOpen] u32 info9) ?_
 refine al_callp into90 rfl rfl rfl (e_isA v0 l hl hn (i + 1) d (by omega) (by omega) [sOpen] (by decide) rfl rfl) (by simp) ?_
 refine al_o (op_not rfl) ?_
 refine al_nil ?_
 refine aw_cond rfl (fun h1 => ?_) (fun h1 => ?_)
 ·have gh1 := h1
  simp only [nrm] at h1
  refine aw_sr ?_
  refine al_ld u37 info37 ?_
  refine al_sp info37 ?_
  refine al_nil ?_
  refine aw_ret ?_
  refine ⟨_, res_cell rfl u37 info37 rfl rfl rfl rfl, ?_⟩
  exact rdf_ok (mkE 4 (tokAt l i).text 0 [] [] (tokAt l i)) (i + 1) (by rw [namedP, if_pos hop9]; rw [show isAt l [sOpen] (i + 1) = false by simpa using gh1]; rfl) (.one _ _ (.leaf _ _ (.same _))) rfl
 have gh1 := h1
 simp only [nrm] at h1
 refine aw_skip ?_
 refine aw_sr ?_
 refine al_mv ?_
 refine al_callp into89 rfl rfl rfl (e_hereA v0 l hl hn (i + 1) d (by omega) (by omega)  rfl rfl) (by simp) ?_
 refine al_mv ?_
 refine al_xt ?_
 refine al_xt ?_
 refine al_gs ?_
 refine al_gs ?_
 refine al_sr ?_
 refine al_mv ?_
 have hb : isAt l [sOpen] (i + 1) = true := by simpa using gh1
 refine al_call into92 rfl rfl rfl (rd_lift rfl (fun _ => rfl) (e_open v0 l hl hn (i + 1) d hd (by omega)) _ (by rfl)) (by simp) ?_; rintro _ _ (⟨g28, i28, d28, hx28, rfl, rfl⟩ | ⟨a28, j28, hx28, rfl, rfl⟩)
 ·exact rdf_bad (by rw [namedP, if_pos hop9]; rw [if_pos hb]; rw [hx28]) rfl
 obtain ⟨hd0, rfl, hop28⟩ := open_ok hx28
 have hlt28 := isAt_lt hop28
 refine al_sr ?_
 refine al_mv ?_
 refine al_call into40 rfl rfl rfl (rd_lift rfl (fun _ => rfl) (hE hd0 v0 (i + 1 + 1) (by omega)) _ (by rfl)) (by simp) ?_; rintro _ _ (⟨g30, i30, d30, hx30, rfl, rfl⟩ | ⟨a30, j30, hx30, rfl, rfl⟩)
 ·exact rdf_bad (by rw [namedP, if_pos hop9]; rw [if_pos hb]; rw [hx28]; simp only; rw [innerD_pos hd0, hx30]) rfl
 have hgt30 := innerD_gt (l := l) d _ _ _ (by rw [innerD_pos hd0]; exact hx30)
 have hy30 : innerD l d (i + 1 + 1) = .ok a30 j30 := by rw [innerD_pos hd0]; exact hx30
 refine al_al 7 info37 fun ver7 => ?_
 refine al_sp info37 ?_
 refine al_nil ?_
 refine aw_seq ?_
 refine aw_sr ?_
 refine al_mv ?_
 refine al_o (op_ol encBs [sDownto] u32 info9) ?_
 refine al_callp into90 rfl rfl rfl (e_isA v0 l hl hn j30 (d - 1) (by omega) (by omega) [sDownto] (by decide) rfl rfl) (by simp) ?_
 refine al_nil ?_
 refine aw_cond rfl (fun h2 => ?_) (fun h2 => ?_)
 ·have gh2 := h2
  refine aw_sr ?_
  refine al_mv ?_
  refine al_ld u37 info37 ?_
  refine al_ld u37 info37 ?_
  refine al_mv ?_
  refine al_mv ?_
  refine al_call into177 rfl rfl rfl (rd_lift rfl (fun _ => rfl) (e_slice v0 l hl hn j30 d hd (by omega) hd0 hE (mkE 4 (tokAt l i).text 0 [] [] (tokAt l i)) a30 (tokAt l (i + 1))) _ (by rfl)) (by simp) ?_; rintro _ _ (⟨g39, i39, d39, hx39, rfl, rfl⟩ | ⟨a39, j39, hx39, rfl, rfl⟩)
  ·exact rdf_bad (by rw [namedP, if_pos hop9]; rw [if_pos hb]; rw [hx28]; simp only; rw [hy30]; simp only; rw [if_pos h2]; exact hx39) rfl
  refine al_sp info37 ?_
  refine al_nil ?_
  refine aw_ret ?_
  refine ⟨_, res_cell rfl u37 info37 rfl rfl rfl rfl, ?_⟩
  exact rdf_ok a39 j39 (by rw [namedP, if_pos hop9]; rw [if_pos hb]; rw [hx28]; simp only; rw [hy30]; simp only; rw [if_pos h2]; exact hx39) (.one _ _ (.leaf _ _ (.same _))) rfl
 have gh2 := h2
 refine aw_skip ?_
 refine aw_seq ?_
 refine aw_plan [0, 2, 1, 3, 4, 5] (Checked.mixed Tryz.checked) (by kernel_rfl) ?_
 refine afl_float rfl rfl (opk_of (op_load_ptr u37 info37 rfl rfl rfl rfl)) (by simp) ?_
 refine afl_float rfl rfl (opk_of (op_field_ptr u37 rfl info25 (by decide) rfl rfl rfl)) (by simp) ?_
 refine afl_two 3 [1, 4, 5] rfl rfl rfl rfl (by kernel_rfl) (by kernel_rfl) (by simp) (by simp) (next_opR (op_list_own encE [a30] 41 u31 info37 rfl rfl (by decide) rfl (by decide) rfl (by first | rfl | (repeat (first | exact parts_nil | refine parts_cons rfl (by repeat (first | exact all_live_nil | refine all_live_clo rfl ?_ | refine all_live_slice rfl ?_ | refine all_live_map rfl ?_ | refine all_live_ptr rfl ?_)) ?_))) rfl rfl (by first | rfl | (repeat (first | exact parts_nil | refine parts_cons rfl (by repeat (first | exact all_live_nil | refine all_live_clo rfl ?_ | refine all_live_slice rfl ?_ | refine all_live_map rfl ?_ | refine all_live_ptr rfl ?_)) ?_))) (kids1 _) rfl) ?_) (next_opR (opR_of (op_sp info25)) ?_)
 ·rintro _ _ ⟨ver41, rfl, rfl⟩; refine ⟨?_, ?_⟩
  ·
   refine loose_k rfl (opk_of (op_field_ptr u37 rfl info25 (by decide) rfl rfl rfl)) ?_
   refine loose_anc 0 rfl (by kernel_rfl) ?_
   exact loose_nil
  (refine afl_eff rfl rfl (by kernel_rfl) (op_sp info25) (by simp) ?_ ?_)
  ·
   refine loose_fix rfl ?_
   refine loose_anc 2 rfl (by kernel_rfl) ?_
   refine loose_k rfl (opk_of (op_load_ptr u37 info37 rfl rfl rfl rfl)) ?_
   exact loose_nil
  refine afl_float rfl rfl (opk_of (op_field_ptr u37 rfl info31 (by decide) rfl rfl rfl)) (by simp) ?_
  (refine afl_eff rfl rfl (by kernel_rfl) (op_sp info31) (by simp) ?_ ?_)
  ·
   refine loose_anc 4 rfl (by kernel_rfl) ?_
   refine loose_fix rfl ?_
   refine loose_fix rfl ?_
   refine loose_anc 2 rfl (by kernel_rfl) ?_
   refine loose_anc 0 rfl (by kernel_rfl) ?_
   exact loose_nil
  refine afl_end ?_
  refine aw_seq ?_
  refine aw_block ?_
  refine aw_for3T (α := List Ex) (β := Nat) (γ := Nat) [] [] (fun kids j ver => l.length - j) (fun kids j ver => j ≤ l.length ∧ kids.length ≤ 20 ∧ argsP l (innerD l d) (20 - kids.length) kids j = argsP l (innerD l d) 19 [a30] j30) (fun kids j ver => ([] : Env)) (fun kids j ver st => ([(0, v0, .row 7 [rdr l j (d - 1)]), (2, ver2, .row 16 [zeroE]), (3, ver3, .row 5 [encK (tokAt l i)]), (4, ver4, .row 16 [[.v (.int .i64 5), .v (.string (str (tokAt l i).text)), .v (.int .i64 0), .list 1 [], .v (.int .i64 0), .v (.int .i64 0), .list 1 [], .list 4 [], .slice 41 ver 0 (kids).length, .v (.int .i64 0), .v (.int .i64 0), .v (.string (str [])), .list 1 [], .list 5 [], .v (.int .i64 (tokAt l i).line), .v (.int .i64 (tokAt l i).col)]]), (7, ver7, .row 16 [cellsE a30]), (41, ver, .row 16 (kids.map encE))] : Store)) ([a30]) (j30) (ver41) ?_ ?_ ?_ (fun kids j ver hinv => ?_)
  ·exact ⟨by omega, by simp, rfl⟩
  ·exact sub_nil
  ·rfl
  refine aw_seq ?_
  refine aw_sr ?_
  refine al_mv ?_
  refine al_o (op_ol encBs [sComma] u32 info9) ?_
  refine al_callp into90 rfl rfl rfl (e_isA v0 l hl hn j (d - 1) (by omega) (by omega) [sComma] (by decide) rfl rfl) (by simp) ?_
  refine al_nil ?_
  refine aw_cond rfl (fun h3 => ?_) (fun h3 => ?_)
  ·have gh3 := h3
   refine aw_skip ?_
   refine aw_block ?_
   refine aw_seq ?_
   refine aw_sr ?_
   refine al_fp u37 info31 ?_
   refine al_ld u31 info31 ?_
   refine al_o (op_len_slice u31 rfl rfl) ?_
   refine al_eq ?_
   refine al_nil ?_
   refine aw_cond rfl (fun h4 => ?_) (fun h4 => ?_)
   ·have gh4 := h4
    simp only [nrm] at h4
    refine aw_region ?_
    refine al_mv ?_
    refine al_call into96 rfl rfl rfl (rd_lift rfl (fun _ => rfl) (e_fail v0 l hl hn j (d - 1) (by omega) hinv.1 11) _ (by rfl)) (by simp) ?_; rintro _ _ (⟨g52, i52, d52, ⟨⟩, rfl, rfl⟩ | ⟨_, _, ⟨⟩, _⟩)
    exact rdf_bad (by rw [namedP, if_pos hop9]; rw [if_pos hb]; rw [hx28]; simp only; rw [hy30]; simp only; rw [h2, if_neg Bool.false_ne_true]; rw [← hinv.2.2, args_full h3 (by omega)]) rfl
   have gh4 := h4
   simp only [nrm] at h4
   refine aw_skip ?_
   refine aw_seq ?_
   have hltj := isAt_lt h3
   have hk20 : kids.length < 20 := by omega
   refine aw_region ?_
   refine al_mv ?_
   refine al_o (op_nilCheck_ptr rfl rfl) ?_
   refine al_fp u105 info3 ?_
   refine al_ld u3 info3 ?_
   refine al_ad ?_
   refine al_o (op_nilCheck_ptr rfl rfl) ?_
   refine al_fp u105 info3 ?_
   refine al_sp info3 ?_
   refine al_nil ?_
   refine aw_plan [0, 1, 2, 3, 4, 5, 6, 7] (Checked.mixed Tryz.checked) (by kernel_rfl) ?_
   refine afl_float rfl rfl (opk_of (op_field_ptr u37 rfl info31 (by decide) rfl rfl rfl)) (by simp) ?_
   refine afl_float rfl rfl (opk_of (op_load_ptr u31 info31 rfl rfl rfl rfl)) (by simp) ?_
   refine afl_float rfl rfl (opk_of (op_move rfl)) (by simp) ?_
   refine afl_callP rfl (by kernel_rfl) into40 rfl rfl rfl (rd_lift rfl (fun _ => rfl) (hE hd0 v0 (j + 1) (by omega)) _ (by rfl)) (by simp) ?_; rintro _ _ (⟨g63, i63, d63, hx63, rfl, rfl⟩ | ⟨a63, j63, hx63, rfl, rfl⟩)
   ·exact rdf_bad (by rw [namedP, if_pos hop9]; rw [if_pos hb]; rw [hx28]; simp only; rw [hy30]; simp only; rw [h2, if_neg Bool.false_ne_true]; rw [← hinv.2.2, args_bad h3 (by omega) (g := g63) (by rw [innerD_pos hd0]; exact hx63)]) rfl
   have hgt63 := innerD_gt (l := l) d _ _ _ (by rw [innerD_pos hd0]; exact hx63)
   have hy63 : innerD l d (j + 1) = .ok a63 j63 := by rw [innerD_pos hd0]; exact hx63
   refine ⟨?_, ?_⟩
   ·
    refine loose_anc 2 rfl (by kernel_rfl) ?_
    refine loose_k rfl (opk_of (op_load_ptr u31 info31 rfl rfl rfl rfl)) ?_
    refine loose_k rfl (opk_of (op_field_ptr u37 rfl info31 (by decide) rfl rfl rfl)) ?_
    exact loose_nil
   refine afl_float rfl rfl (opk_of (op_list encE [a63] u31 info37 rfl rfl (by decide) rfl (by decide) rfl (by first | rfl | (repeat (first | exact parts_nil | refine parts_cons rfl (by repeat (first | exact all_live_nil | refine all_live_clo rfl ?_ | refine all_live_slice rfl ?_ | refine all_live_map rfl ?_ | refine all_live_ptr rfl ?_)) ?_))) rfl rfl rfl (kids1 _))) (by simp) ?_
   (refine afl_effR rfl rfl (by kernel_rfl) (op_append_one a63 u31 u31 rfl info37 rfl rfl (by decide) rfl rfl rfl (by first | rfl | simp) rfl rfl (by first | omega | (simp; done) | (simp; omega)) (by show _ * 240 ≤ _; first | omega | (simp; done) | (simp; omega))) (by simp) ?_; rintro _ _ ⟨ver65, rfl, rfl⟩; refine ⟨?_, ?_⟩)
   ·
    refine loose_anc 4 rfl (by kernel_rfl) ?_
    refine loose_fix rfl ?_
    refine loose_anc 2 rfl (by kernel_rfl) ?_
    refine loose_anc 1 rfl (by kernel_rfl) ?_
    refine loose_anc 0 rfl (by kernel_rfl) ?_
    exact loose_nil
   refine afl_float rfl rfl (opk_of (op_field_ptr u37 rfl info31 (by decide) rfl rfl rfl)) (by simp) ?_
   (refine afl_eff rfl rfl (by kernel_rfl) (op_sp info31) (by simp) ?_ ?_)
   ·
    refine loose_anc 6 rfl (by kernel_rfl) ?_
    refine loose_fix rfl ?_
    refine loose_anc 4 rfl (by kernel_rfl) ?_
    refine loose_fix rfl ?_
    refine loose_anc 2 rfl (by kernel_rfl) ?_
    refine loose_anc 1 rfl (by kernel_rfl) ?_
    refine loose_anc 0 rfl (by kernel_rfl) ?_
    exact loose_nil
   refine afl_end ?_
   refine ⟨kids ++ [a63], j63, ver65, ?_, ?_, ?_, ?_, ?_⟩
   ·omega
   ·exact ⟨by omega, by simp; omega, (args_step h3 hk20 hy63).trans hinv.2.2⟩
   ·exact sub_nil
   ·exact sbl
   ·rfl
  have gh3 := h3
  refine aw_exit ?_
  refine aw_sr ?_
  refine al_mv ?_
  refine al_call into93 rfl rfl rfl (rd_lift rfl (fun _ => rfl) (e_shut v0 l hl hn j (d - 1) (by omega) hinv.1 d (by omega)) _ (by rfl)) (by simp) ?_; rintro _ _ (⟨g68, i68, d68, hx68, rfl, rfl⟩ | ⟨a68, j68, hx68, rfl, rfl⟩)
  ·exact rdf_bad (by rw [namedP, if_pos hop9]; rw [if_pos hb]; rw [hx28]; simp only; rw [hy30]; simp only; rw [h2, if_neg Bool.false_ne_true]; rw [← hinv.2.2, args_stop h3]; simp only; rw [hx68]) rfl
  refine al_sr ?_
  refine al_ld u37 info37 ?_
  refine al_sp info37 ?_
  refine al_nil ?_
  refine aw_ret ?_
  refine ⟨_, res_cell rfl u37 info37 rfl rfl rfl rfl, ?_⟩
  exact rdf_ok (mkE 5 (tokAt l i).text 0 [] kids (tokAt l i)) j68 (by rw [namedP, if_pos hop9]; rw [if_pos hb]; rw [hx28]; simp only; rw [hy30]; simp only; rw [h2, if_neg Bool.false_ne_true]; rw [← hinv.2.2, args_stop h3]; simp only; rw [hx68]) (.one _ _ (.agg _ _ (by repeat (first | exact frz2_nil | refine frz2_cons (.same _) ?_ | refine frz2_cons (frz_whole rfl rfl (by first | exact (List.length_map _).symm | rfl | (simp; done)) (clo_map encE_clo)) ?_)))) rfl
 ·rintro _ _ ⟨rfl, rfl⟩; refine ⟨?_, ?_⟩
  ·
   refine loose_anc 2 rfl (by kernel_rfl) ?_
   refine loose_k rfl (opk_of (op_load_ptr u37 info37 rfl rfl rfl rfl)) ?_
   exact loose_nil
  (refine afl_effR rfl rfl (by kernel_rfl) (op_list_own encE [a30] 41 u31 info37 rfl rfl (by decide) rfl (by decide) rfl (by first | rfl | (repeat (first | exact parts_nil | refine parts_cons rfl (by repeat (first | exact all_live_nil | refine all_live_clo rfl ?_ | refine all_live_slice rfl ?_ | refine all_live_map rfl ?_ | refine all_live_ptr rfl ?_)) ?_))) rfl rfl (by first | rfl | (repeat (first | exact parts_nil | refine parts_cons rfl (by repeat (first | exact all_live_nil | refine all_live_clo rfl ?_ | refine all_live_slice rfl ?_ | refine all_live_map rfl ?_ | refine all_live_ptr rfl ?_)) ?_))) (kids1 _) rfl) (by simp) ?_; rintro _ _ ⟨ver41, rfl, rfl⟩; refine ⟨?_, ?_⟩)
  ·
   refine loose_fix rfl ?_
   refine loose_k rfl (opk_of (op_field_ptr u37 rfl info25 (by decide) rfl rfl rfl)) ?_
   refine loose_anc 0 rfl (by kernel_rfl) ?_
   exact loose_nil
  refine afl_float rfl rfl (opk_of (op_field_ptr u37 rfl info31 (by decide) rfl rfl rfl)) (by simp) ?_
  (refine afl_eff rfl rfl (by kernel_rfl) (op_sp info31) (by simp) ?_ ?_)
  ·
   refine loose_anc 4 rfl (by kernel_rfl) ?_
   refine loose_fix rfl ?_
   refine loose_fix rfl ?_
   refine loose_anc 2 rfl (by kernel_rfl) ?_
   refine loose_anc 0 rfl (by kernel_rfl) ?_
   exact loose_nil
  refine afl_end ?_
  refine aw_seq ?_
  refine aw_block ?_
  refine aw_for3T (α := List Ex) (β := Nat) (γ := Nat) [44, 45, 46, 47, 48, 49, 50, 51, 52, 53, 54, 55, 56, 57, 58, 59, 60, 61, 62, 63, 64, 65, 66] [] (fun kids j ver => l.length - j) (fun kids j ver => j ≤ l.length ∧ kids.length ≤ 20 ∧ argsP l (innerD l d) (20 - kids.length) kids j = argsP l (innerD l d) 19 [a30] j30) (fun kids j ver => ([] : Env)) (fun kids j ver st => ([(0, v0, .row 7 [rdr l j (d - 1)]), (2, ver2, .row 16 [zeroE]), (3, ver3, .row 5 [encK (tokAt l i)]), (4, ver4, .row 16 [[.v (.int .i64 5), .v (.string (str (tokAt l i).text)), .v (.int .i64 0), .list 1 [], .v (.int .i64 0), .v (.int .i64 0), .list 1 [], .list 4 [], .slice 41 ver 0 (kids).length, .v (.int .i64 0), .v (.int .i64 0), .v (.string (str [])), .list 1 [], .list 5 [], .v (.int .i64 (tokAt l i).line), .v (.int .i64 (tokAt l i).col)]]), (7, ver7, .row 16 [cellsE a30]), (41, ver, .row 16 (kids.map encE))] : Store)) ([a30]) (j30) (ver41) ?_ ?_ ?_ (fun kids j ver hinv => ?_)
  ·exact ⟨by omega, by simp, rfl⟩
  ·exact sub_nil
  ·rfl
  refine aw_seq ?_
  refine aw_sr ?_
  refine al_mv ?_
  refine al_o (op_ol encBs [sComma] u32 info9) ?_
  refine al_callp into90 rfl rfl rfl (e_isA v0 l hl hn j (d - 1) (by omega) (by omega) [sComma] (by decide) rfl rfl) (by simp) ?_
  refine al_nil ?_
  refine aw_cond rfl (fun h5 => ?_) (fun h5 => ?_)
  ·have gh5 := h5
   have h3 := h5
   refine aw_skip ?_
   refine aw_block ?_
   refine aw_seq ?_
   refine aw_sr ?_
   refine al_fp u37 info31 ?_
   refine al_ld u31 info31 ?_
   refine al_o (op_len_slice u31 rfl rfl) ?_
   refine al_eq ?_
   refine al_nil ?_
   refine aw_cond rfl (fun h6 => ?_) (fun h6 => ?_)
   ·have gh6 := h6
    simp only [nrm] at h6
    have h4 := h6
    refine aw_region ?_
    refine al_mv ?_
    refine al_call into96 rfl rfl rfl (rd_lift rfl (fun _ => rfl) (e_fail v0 l hl hn j (d - 1) (by omega) hinv.1 11) _ (by rfl)) (by simp) ?_; rintro _ _ (⟨g52, i52, d52, ⟨⟩, rfl, rfl⟩ | ⟨_, _, ⟨⟩, _⟩)
    exact rdf_bad (by rw [namedP, if_pos hop9]; rw [if_pos hb]; rw [hx28]; simp only; rw [hy30]; simp only; rw [h2, if_neg Bool.false_ne_true]; rw [← hinv.2.2, args_full h3 (by omega)]) rfl
   have gh6 := h6
   simp only [nrm] at h6
   have h4 := h6
   refine aw_skip ?_
   refine aw_seq ?_
   have hltj := isAt_lt h3
   have hk20 : kids.length < 20 := by omega
   refine aw_region ?_
   refine al_mv ?_
   refine al_o (op_nilCheck_ptr rfl rfl) ?_
   refine al_fp u105 info3 ?_
   refine al_ld u3 info3 ?_
   refine al_ad ?_
   refine al_o (op_nilCheck_ptr rfl rfl) ?_
   refine al_fp u105 info3 ?_
   refine al_sp info3 ?_
   refine al_nil ?_
   refine aw_plan [0, 1, 2, 3, 4, 5, 6, 7] (Checked.mixed Tryz.checked) (by kernel_rfl) ?_
   refine afl_float rfl rfl (opk_of (op_field_ptr u37 rfl info31 (by decide) rfl rfl rfl)) (by simp) ?_
   refine afl_float rfl rfl (opk_of (op_load_ptr u31 info31 rfl rfl rfl rfl)) (by simp) ?_
   refine afl_float rfl rfl (opk_of (op_move rfl)) (by simp) ?_
   refine afl_callP rfl (by kernel_rfl) into40 rfl rfl rfl (rd_lift rfl (fun _ => rfl) (hE hd0 v0 (j + 1) (by omega)) _ (by rfl)) (by simp) ?_; rintro _ _ (⟨g63, i63, d63, hx63, rfl, rfl⟩ | ⟨a63, j63, hx63, rfl, rfl⟩)
   ·exact rdf_bad (by rw [namedP, if_pos hop9]; rw [if_pos hb]; rw [hx28]; simp only; rw [hy30]; simp only; rw [h2, if_neg Bool.false_ne_true]; rw [← hinv.2.2, args_bad h3 (by omega) (g := g63) (by rw [innerD_pos hd0]; exact hx63)]) rfl
   have hgt63 := innerD_gt (l := l) d _ _ _ (by rw [innerD_pos hd0]; exact hx63)
   have hy63 : innerD l d (j + 1) = .ok a63 j63 := by rw [innerD_pos hd0]; exact hx63
   refine ⟨?_, ?_⟩
   ·
    refine loose_anc 2 rfl (by kernel_rfl) ?_
    refine loose_k rfl (opk_of (op_load_ptr u31 info31 rfl rfl rfl rfl)) ?_
    refine loose_k rfl (opk_of (op_field_ptr u37 rfl info31 (by decide) rfl rfl rfl)) ?_
    exact loose_nil
   refine afl_float rfl rfl (opk_of (op_list encE [a63] u31 info37 rfl rfl (by decide) rfl (by decide) rfl (by first | rfl | (repeat (first | exact parts_nil | refine parts_cons rfl (by repeat (first | exact all_live_nil | refine all_live_clo rfl ?_ | refine all_live_slice rfl ?_ | refine all_live_map rfl ?_ | refine all_live_ptr rfl ?_)) ?_))) rfl rfl rfl (kids1 _))) (by simp) ?_
   (refine afl_effR rfl rfl (by kernel_rfl) (op_append_one a63 u31 u31 rfl info37 rfl rfl (by decide) rfl rfl rfl (by first | rfl | simp) rfl rfl (by first | omega | (simp; done) | (simp; omega)) (by show _ * 240 ≤ _; first | omega | (simp; done) | (simp; omega))) (by simp) ?_; rintro _ _ ⟨ver65, rfl, rfl⟩; refine ⟨?_, ?_⟩)
   ·
    refine loose_anc 4 rfl (by kernel_rfl) ?_
    refine loose_fix rfl ?_
    refine loose_anc 2 rfl (by kernel_rfl) ?_
    refine loose_anc 1 rfl (by kernel_rfl) ?_
    refine loose_anc 0 rfl (by kernel_rfl) ?_
    exact loose_nil
   refine afl_float rfl rfl (opk_of (op_field_ptr u37 rfl info31 (by decide) rfl rfl rfl)) (by simp) ?_
   (refine afl_eff rfl rfl (by kernel_rfl) (op_sp info31) (by simp) ?_ ?_)
   ·
    refine loose_anc 6 rfl (by kernel_rfl) ?_
    refine loose_fix rfl ?_
    refine loose_anc 4 rfl (by kernel_rfl) ?_
    refine loose_fix rfl ?_
    refine loose_anc 2 rfl (by kernel_rfl) ?_
    refine loose_anc 1 rfl (by kernel_rfl) ?_
    refine loose_anc 0 rfl (by kernel_rfl) ?_
    exact loose_nil
   refine afl_end ?_
   refine ⟨kids ++ [a63], j63, ver65, ?_, ?_, ?_, ?_, ?_⟩
   ·omega
   ·exact ⟨by omega, by simp; omega, (args_step h3 hk20 hy63).trans hinv.2.2⟩
   ·exact sub_nil
   ·exact sbl
   ·rfl
  have gh5 := h5
  have h3 := h5
  refine aw_exit ?_
  refine aw_sr ?_
  refine al_mv ?_
  refine al_call into93 rfl rfl rfl (rd_lift rfl (fun _ => rfl) (e_shut v0 l hl hn j (d - 1) (by omega) hinv.1 d (by omega)) _ (by rfl)) (by simp) ?_; rintro _ _ (⟨g68, i68, d68, hx68, rfl, rfl⟩ | ⟨a68, j68, hx68, rfl, rfl⟩)
  ·exact rdf_bad (by rw [namedP, if_pos hop9]; rw [if_pos hb]; rw [hx28]; simp only; rw [hy30]; simp only; rw [h2, if_neg Bool.false_ne_true]; rw [← hinv.2.2, args_stop h3]; simp only; rw [hx68]) rfl
  refine al_sr ?_
  refine al_ld u37 info37 ?_
  refine al_sp info37 ?_
  refine al_nil ?_
  refine aw_ret ?_
  refine ⟨_, res_cell rfl u37 info37 rfl rfl rfl rfl, ?_⟩
  exact rdf_ok (mkE 5 (tokAt l i).text 0 [] kids (tokAt l i)) j68 (by rw [namedP, if_pos hop9]; rw [if_pos hb]; rw [hx28]; simp only; rw [hy30]; simp only; rw [h2, if_neg Bool.false_ne_true]; rw [← hinv.2.2, args_stop h3]; simp only; rw [hx68]) (.one _ _ (.agg _ _ (by repeat (first | exact frz2_nil | refine frz2_cons (.same _) ?_ | refine frz2_cons (frz_whole rfl rfl (by first | exact (List.length_map _).symm | rfl | (simp; done)) (clo_map encE_clo)) ?_)))) rfl
theorem e_named (v0 : Nat) (l : List Tk) (hl : OKTs l) (hn : l.length ≤ 1000000000) (i d : Nat) (hd : d ≤ 40) (hi : i ≤ l.length) (hE : d ≠ 0 → ∀ v0 i, i ≤ l.length → AC Tryz.prog 40 [.ptr 0 v0 0 0] (rd v0 l i (d - 1) []) (RdK v0 l (d - 1) encX (rowD l (d - 1) 4 i))) : AC Tryz.prog 196 [.ptr 0 v0 0 0] (rd v0 l i d []) (RdK v0 l d encX (namedP l d (innerD l d) i)) := ac_rdf (e_namedF v0 l hl hn i d hd hi hE)
end Go.Proofs.YtcgdlhkiecommaaGreatDoor
/- Printed walks (gen.py, lexer_ann.py): part 405. -/



namespace Go.Proofs.YtcgdlhkiecommaaGreatDoor
open Go
theorem e_prim (v0 : Nat) (l : List Tk) (hl : OKTs l) (hn : l.length ≤ 1000000000) (i d : Nat) (hd : d ≤ 40) (hi : i ≤ l.length) (hE : d ≠ 0 → ∀ v0 i, i ≤ l.length → AC Tryz.prog 40 [.ptr 0 v0 0 0] (rd v0 l i (d - 1) []) (RdK v0 l (d - 1) encX (rowD l (d - 1) 4 i)))  : AC Tryz.prog 175 [.ptr 0 v0 0 0] (rd v0 l i d []) (fun r σ' => RdK v0 l (d) encX (primP l d (innerD l d) i) r σ') := by
 refine ace 65 Tryz.func175 ?_
 refine aw_sr ?_
 refine al_al 2 info37 fun ver2 => ?_
 refine al_sr ?_
 refine al_mv ?_
 refine al_callp into91 rfl rfl rfl (e_tokenA v0 l hl hn i d (by omega) (by omega)  rfl rfl) (by simp) ?_
 refine al_al 3 info65 fun ver3 => ?_
 refine al_sp info65 ?_
 refine al_sr ?_
 refine al_fp u65 info3 ?_
 refine al_ld u3 info3 ?_
 refine al_fp u65 info3 ?_
 refine al_ld u3 info3 ?_
 refine al_o (val_re (.agg (cellsE (mkE 0 [] 0 [] [] (tokAt l i)))) (op_bs u37 info37 place37) (.agg _ _ (by repeat (first | exact reL_nil | refine reL_cons (.same _) ?_ | refine reL_cons (.vnil _) ?_)))) ?_
 refine al_al 4 info37 fun ver4 => ?_
 refine al_sp info37 ?_
 refine al_nil ?_
 refine aw_seq ?_
 refine aw_sr ?_
 refine al_fp u65 info63 ?_
 refine al_ld u63 info63 ?_
 refine al_nil ?_
 refine aw_block ?_
 refine aw_sr ?_
 refine al_eq ?_
 refine al_gs ?_
 refine al_nil ?_
 refine aw_cond rfl (fun h1 => ?_) (fun h1 => ?_)
 ·have gh1 := h1
  simp only [nrm] at h1
  refine aw_plan [0, 1, 2, 3, 4, 5] (Checked.mixed Tryz.checked) (by kernel_rfl) ?_
  refine afl_float rfl rfl (opk_of (op_field_ptr u65 rfl info3 (by decide) rfl rfl rfl)) (by simp) ?_
  refine afl_float rfl rfl (opk_of (op_load_ptr u3 info3 rfl rfl rfl rfl)) (by simp) ?_
  refine afl_float rfl rfl (opk_of (op_field_ptr u37 rfl info25 (by decide) rfl rfl rfl)) (by simp) ?_
  (refine afl_eff rfl rfl (by kernel_rfl) (op_sp info25) (by simp) ?_ ?_)
  ·
   refine loose_anc 2 rfl (by kernel_rfl) ?_
   refine loose_k rfl (opk_of (op_load_ptr u3 info3 rfl rfl rfl rfl)) ?_
   refine loose_k rfl (opk_of (op_field_ptr u65 rfl info3 (by decide) rfl rfl rfl)) ?_
   exact loose_nil
  refine afl_float rfl rfl (opk_of (op_field_ptr u37 rfl info3 (by decide) rfl rfl rfl)) (by simp) ?_
  (refine afl_eff rfl rfl (by kernel_rfl) (op_sp info3) (by simp) ?_ ?_)
  ·
   refine loose_anc 4 rfl (by kernel_rfl) ?_
   refine loose_fix rfl ?_
   refine loose_anc 2 rfl (by kernel_rfl) ?_
   refine loose_anc 1 rfl (by kernel_rfl) ?_
   refine loose_anc 0 rfl (by kernel_rfl) ?_
   exact loose_nil
  refine afl_end ?_
  refine aw_seq ?_
  have hlt := prim_lt (l := l) (i := i) (by first | exact .inl gh1 | exact .inr (.inl gh2) | exact .inr (.inr gh3))
  refine aw_region ?_
  refine al_mv ?_
  refine al_o (op_nilCheck_ptr rfl rfl) ?_
  refine al_fp u105 info3 ?_
  refine al_ld u3 info3 ?_
  refine al_ad ?_
  refine al_o (op_nilCheck_ptr rfl rfl) ?_
  refine al_fp u105 info3 ?_
  refine al_sp info3 ?_
  refine al_sr ?_
  refine al_mv ?_
  refine al_ld u37 info37 ?_
  refine al_call into82 rfl rfl rfl (rd_lift rfl (fun _ => rfl) (e_parts v0 l hl hn (i + 1) d hd (by omega) hE (mkE 1 [] (tokAt l i).n [] [] (tokAt l i))) _ (by rfl)) (by simp) ?_; rintro _ _ (⟨g64, i64, d64, hx64, rfl, rfl⟩ | ⟨a64, j64, hx64, rfl, rfl⟩)
  ·exact rdk_bad (by rw [primP]; rw [gh1, if_pos rfl]; exact hx64) rfl
  refine al_sp info37 ?_
  refine al_nil ?_
  refine aw_ret ?_
  refine ⟨_, res_cell rfl u37 info37 rfl rfl rfl rfl, ?_⟩
  exact rdk_ok a64 j64 (by rw [primP]; rw [gh1, if_pos rfl]; exact hx64) rfl
 have gh1 := h1
 simp only [nrm] at h1
 refine aw_sr ?_
 refine al_eq ?_
 refine al_gs ?_
 refine al_nil ?_
 refine aw_cond rfl (fun h2 => ?_) (fun h2 => ?_)
 ·have gh2 := h2
  simp only [nrm] at h2
  refine aw_sr ?_
  refine al_fp u37 info25 ?_
  refine al_sp info25 ?_
  refine al_nil ?_
  refine aw_region ?_
  refine al_fp u65 info9 ?_
  refine al_ld u9 info9 ?_
  refine al_callp into153 rfl rfl rfl (c_parse (tokAt l i).text (by have := (tokAt_ok hl i).len; omega) _) (by simp) ?_
  refine al_mv ?_
  refine al_xt ?_
  refine al_xt ?_
  refine al_fp u37 info26 ?_
  refine al_sp info26 ?_
  refine al_nil ?_
  refine aw_seq ?_
  have hlt := prim_lt (l := l) (i := i) (by first | exact .inl gh1 | exact .inr (.inl gh2) | exact .inr (.inr gh3))
  refine aw_region ?_
  refine al_mv ?_
  refine al_o (op_nilCheck_ptr rfl rfl) ?_
  refine al_fp u105 info3 ?_
  refine al_ld u3 info3 ?_
  refine al_ad ?_
  refine al_o (op_nilCheck_ptr rfl rfl) ?_
  refine al_fp u105 info3 ?_
  refine al_sp info3 ?_
  refine al_sr ?_
  refine al_mv ?_
  refine al_ld u37 info37 ?_
  refine al_call into82 rfl rfl rfl (rd_lift rfl (fun _ => rfl) (e_parts v0 l hl hn (i + 1) d hd (by omega) hE (mkE 2 [] 0 (parseBits (tokAt l i).text) [] (tokAt l i))) _ (by rfl)) (by simp) ?_; rintro _ _ (⟨g64, i64, d64, hx64, rfl, rfl⟩ | ⟨a64, j64, hx64, rfl, rfl⟩)
  ·exact rdk_bad (by rw [primP]; rw [gh1, if_neg Bool.false_ne_true]; rw [gh2, if_pos rfl]; exact hx64) rfl
  refine al_sp info37 ?_
  refine al_nil ?_
  refine aw_ret ?_
  refine ⟨_, res_cell rfl u37 info37 rfl rfl rfl rfl, ?_⟩
  exact rdk_ok a64 j64 (by rw [primP]; rw [gh1, if_neg Bool.false_ne_true]; rw [gh2, if_pos rfl]; exact hx64) rfl
 have gh2 := h2
 simp only [nrm] at h2
 refine aw_sr ?_
 refine al_eq ?_
 refine al_gs ?_
 refine al_nil ?_
 refine aw_cond rfl (fun h3 => ?_) (fun h3 => ?_)
 ·have gh3 := h3
  simp only [nrm] at h3
  refine aw_sr ?_
  refine al_fp u37 info25 ?_
  refine al_sp info25 ?_
  refine al_nil ?_
  refine aw_region ?_
  refine al_fp u65 info9 ?_
  refine al_ld u9 info9 ?_
  refine al_callp into153 rfl rfl rfl (c_parse (tokAt l i).text (by have := (tokAt_ok hl i).len; omega) _) (by simp) ?_
  refine al_mv ?_
  refine al_xt ?_
  refine al_xt ?_
  refine al_fp u37 info26 ?_
  refine al_sp info26 ?_
  refine al_nil ?_
  refine aw_seq ?_
  have hlt := prim_lt (l := l) (i := i) (by first | exact .inl gh1 | exact .inr (.inl gh2) | exact .inr (.inr gh3))
  refine aw_region ?_
  refine al_mv ?_
  refine al_o (op_nilCheck_ptr rfl rfl) ?_
  refine al_fp u105 info3 ?_
  refine al_ld u3 info3 ?_
  refine al_ad ?_
  refine al_o (op_nilCheck_ptr rfl rfl) ?_
  refine al_fp u105 info3 ?_
  refine al_sp info3 ?_
  refine al_sr ?_
  refine al_mv ?_
  refine al_ld u37 info37 ?_
  refine al_call into82 rfl rfl rfl (rd_lift rfl (fun _ => rfl) (e_parts v0 l hl hn (i + 1) d hd (by omega) hE (mkE 3 [] 0 (parseBits (tokAt l i).text) [] (tokAt l i))) _ (by rfl)) (by simp) ?_; rintro _ _ (⟨g64, i64, d64, hx64, rfl, rfl⟩ | ⟨a64, j64, hx64, rfl, rfl⟩)
  ·exact rdk_bad (by rw [primP]; rw [gh1, if_neg Bool.false_ne_true]; rw [gh2, if_neg Bool.false_ne_true]; rw [gh3, if_pos rfl]; exact hx64) rfl
  refine al_sp info37 ?_
  refine al_nil ?_
  refine aw_ret ?_
  refine ⟨_, res_cell rfl u37 info37 rfl rfl rfl rfl, ?_⟩
  exact rdk_ok a64 j64 (by rw [primP]; rw [gh1, if_neg Bool.false_ne_true]; rw [gh2, if_neg Bool.false_ne_true]; rw [gh3, if_pos rfl]; exact hx64) rfl
 have gh3 := h3
 simp only [nrm] at h3
 refine aw_sr ?_
 refine al_eq ?_
 refine al_gs ?_
 refine al_nil ?_
 refine aw_cond rfl (fun h4 => ?_) (fun h4 => ?_)
 ·have gh4 := h4
  simp only [nrm] at h4
  refine aw_sr ?_
  refine al_mv ?_
  refine al_mv ?_
  refine al_call into196 rfl rfl rfl (rd_lift rfl (fun _ => rfl) (e_named v0 l hl hn i d hd hi hE) _ (by rfl)) (by simp) ?_; rintro _ _ (⟨g53, i53, d53, hx53, rfl, rfl⟩ | ⟨a53, j53, hx53, rfl, rfl⟩)
  ·exact rdk_bad (by rw [primP]; rw [gh1, if_neg Bool.false_ne_true]; rw [gh2, if_neg Bool.false_ne_true]; rw [gh3, if_neg Bool.false_ne_true]; rw [gh4, if_pos rfl]; rw [hx53]) rfl
  have hgt53 := named_gt (innerD_gt d) _ _ hx53
  refine al_call into82 rfl rfl rfl (rd_lift rfl (fun _ => rfl) (e_parts v0 l hl hn j53 d hd (by omega) hE a53) _ (by rfl)) (by simp) ?_; rintro _ _ (⟨g54, i54, d54, hx54, rfl, rfl⟩ | ⟨a54, j54, hx54, rfl, rfl⟩)
  ·exact rdk_bad (by rw [primP]; rw [gh1, if_neg Bool.false_ne_true]; rw [gh2, if_neg Bool.false_ne_true]; rw [gh3, if_neg Bool.false_ne_true]; rw [gh4, if_pos rfl]; rw [hx53]; exact hx54) rfl
  refine al_sp info37 ?_
  refine al_nil ?_
  refine aw_ret ?_
  refine ⟨_, res_cell rfl u37 info37 rfl rfl rfl rfl, ?_⟩
  exact rdk_ok a54 j54 (by rw [primP]; rw [gh1, if_neg Bool.false_ne_true]; rw [gh2, if_neg Bool.false_ne_true]; rw [gh3, if_neg Bool.false_ne_true]; rw [gh4, if_pos rfl]; rw [hx53]; exact hx54) rfl
 have gh4 := h4
 simp only [nrm] at h4
 refine aw_sr ?_
 refine al_mv ?_
 refine al_call into92 rfl rfl rfl (rd_lift rfl (fun _ => rfl) (e_open v0 l hl hn i d hd hi) _ (by rfl)) (by simp) ?_; rintro _ _ (⟨g15, i15, d15, hx15, rfl, rfl⟩ | ⟨a15, j15, hx15, rfl, rfl⟩)
 ·exact rdk_bad (by rw [primP]; rw [gh1, if_neg Bool.false_ne_true]; rw [gh2, if_neg Bool.false_ne_true]; rw [gh3, if_neg Bool.false_ne_true]; rw [gh4, if_neg Bool.false_ne_true]; rw [hx15]) rfl
 obtain ⟨hd0, rfl, hop15⟩ := open_ok hx15
 have hlt15 := isAt_lt hop15
 refine al_sr ?_
 refine al_mv ?_
 refine al_call into40 rfl rfl rfl (rd_lift rfl (fun _ => rfl) (hE hd0 v0 (i + 1) (by omega)) _ (by rfl)) (by simp) ?_; rintro _ _ (⟨g17, i17, d17, hx17, rfl, rfl⟩ | ⟨a17, j17, hx17, rfl, rfl⟩)
 ·exact rdk_bad (by rw [primP]; rw [gh1, if_neg Bool.false_ne_true]; rw [gh2, if_neg Bool.false_ne_true]; rw [gh3, if_neg Bool.false_ne_true]; rw [gh4, if_neg Bool.false_ne_true]; rw [hx15]; simp only; rw [innerD_pos hd0, hx17]) rfl
 have hgt17 := innerD_gt (l := l) d _ _ _ (by rw [innerD_pos hd0]; exact hx17)
 have hy17 : innerD l d (i + 1) = .ok a17 j17 := by rw [innerD_pos hd0]; exact hx17
 refine al_sp info37 ?_
 refine al_sr ?_
 refine al_mv ?_
 refine al_call into93 rfl rfl rfl (rd_lift rfl (fun _ => rfl) (e_shut v0 l hl hn j17 (d - 1) (by omega) (by omega) d (by omega)) _ (by rfl)) (by simp) ?_; rintro _ _ (⟨g19, i19, d19, hx19, rfl, rfl⟩ | ⟨a19, j19, hx19, rfl, rfl⟩)
 ·exact rdk_bad (by rw [primP]; rw [gh1, if_neg Bool.false_ne_true]; rw [gh2, if_neg Bool.false_ne_true]; rw [gh3, if_neg Bool.false_ne_true]; rw [gh4, if_neg Bool.false_ne_true]; rw [hx15]; simp only; rw [hy17]; simp only; rw [hx19]) rfl
 obtain ⟨rfl, hat19⟩ := want_ok hx19
 have hlt19 := isAt_lt hat19
 refine al_sr ?_
 refine al_mv ?_
 refine al_ld u37 info37 ?_
 refine al_call into82 rfl rfl rfl (rd_lift rfl (fun _ => rfl) (e_parts v0 l hl hn (j17 + 1) d hd (by omega) hE a17) _ (by rfl)) (by simp) ?_; rintro _ _ (⟨g22, i22, d22, hx22, rfl, rfl⟩ | ⟨a22, j22, hx22, rfl, rfl⟩)
 ·exact rdk_bad (by rw [primP]; rw [gh1, if_neg Bool.false_ne_true]; rw [gh2, if_neg Bool.false_ne_true]; rw [gh3, if_neg Bool.false_ne_true]; rw [gh4, if_neg Bool.false_ne_true]; rw [hx15]; simp only; rw [hy17]; simp only; rw [hx19]; exact hx22) rfl
 refine al_sp info37 ?_
 refine al_nil ?_
 refine aw_ret ?_
 refine ⟨_, res_cell rfl u37 info37 rfl rfl rfl rfl, ?_⟩
 exact rdk_ok a22 j22 (by rw [primP]; rw [gh1, if_neg Bool.false_ne_true]; rw [gh2, if_neg Bool.false_ne_true]; rw [gh3, if_neg Bool.false_ne_true]; rw [gh4, if_neg Bool.false_ne_true]; rw [hx15]; simp only; rw [hy17]; simp only; rw [hx19]; exact hx22) rfl
end Go.Proofs.YtcgdlhkiecommaaGreatDoor
/- Printed walks (gen.py, lexer_ann.py): part 406. -/



namespace Go.Proofs.YtcgdlhkiecommaaGreatDoor
open Go
theorem e_factor (v0 : Nat) (l : List Tk) (hl : OKTs l) (hn : l.length ≤ 1000000000) (i d : Nat) (hd : d ≤ 40) (hi : i ≤ l.length) (hF : d ≠ 0 → ∀ v0 i, i ≤ l.length → AC Tryz.prog 130 [.ptr 0 v0 0 0] (rd v0 l i (d - 1) []) (RdK v0 l (d - 1) encX (factor l (d - 1) i))) (hP : AC Tryz.prog 175 [.ptr 0 v0 0 0] (rd v0 l i (d) []) (RdK v0 l (d) encX (primP l d (innerD l d) i))) : AC Tryz.prog 130 [.ptr 0 v0 0 0] (rd v0 l i d []) (fun r σ' => RdK v0 l (d) encX (factor l d i) r σ') := by
 refine ace 33 Tryz.func130 ?_
 refine aw_sr ?_
 refine al_al 2 info37 fun ver2 => ?_
 refine al_nil ?_
 refine aw_seq ?_
 refine aw_sr ?_
 refine al_mv ?_
 refine al_o (op_ol encBs [sNot, sMinus] u32 info9) ?_
 refine al_callp into90 rfl rfl rfl (e_isA v0 l hl hn i d (by omega) (by omega) [sNot, sMinus] (by decide) rfl rfl) (by simp) ?_
 refine al_o (op_not rfl) ?_
 refine al_nil ?_
 refine aw_cond rfl (fun h1 => ?_) (fun h1 => ?_)
 ·have gh1 := h1
  simp only [nrm] at h1
  refine aw_sr ?_
  refine al_mv ?_
  refine al_call into175 rfl rfl rfl (rd_lift rfl (fun _ => rfl) (hP) _ (by rfl)) (by simp) ?_; rintro _ _ (⟨g10, i10, d10, hx10, rfl, rfl⟩ | ⟨a10, j10, hx10, rfl, rfl⟩)
  ·exact rdk_bad (by rw [factor_not l d i (by simpa using gh1)]; exact hx10) rfl
  refine al_sp info37 ?_
  refine al_nil ?_
  refine aw_ret ?_
  refine ⟨_, res_cell rfl u37 info37 rfl rfl rfl rfl, ?_⟩
  exact rdk_ok a10 j10 (by rw [factor_not l d i (by simpa using gh1)]; exact hx10) rfl
 have gh1 := h1
 simp only [nrm] at h1
 refine aw_skip ?_
 refine aw_sr ?_
 refine al_mv ?_
 refine al_callp into91 rfl rfl rfl (e_tokenA v0 l hl hn i d (by omega) (by omega)  rfl rfl) (by simp) ?_
 refine al_al 3 info65 fun ver3 => ?_
 refine al_sp info65 ?_
 refine al_sr ?_
 refine al_mv ?_
 have hat : isAt l [sNot, sMinus] i = true := by simpa using gh1
 have hlt := isAt_lt hat
 refine al_call into139 rfl rfl rfl (rd_lift rfl (fun _ => rfl) (e_into v0 l hl hn i d hd hi) _ (by rfl)) (by simp) ?_; rintro _ _ (⟨g14, i14, d14, hx14, rfl, rfl⟩ | ⟨a14, j14, hx14, rfl, rfl⟩)
 ·exact rdk_bad (fac_into hat hx14) rfl
 obtain ⟨hd0, rfl⟩ := into_ok hx14
 refine al_sr ?_
 refine al_mv ?_
 refine al_call into130 rfl rfl rfl (rd_lift rfl (fun _ => rfl) (hF hd0 v0 (i + 1) (by omega)) _ (by rfl)) (by simp) ?_; rintro _ _ (⟨g16, i16, d16, hx16, rfl, rfl⟩ | ⟨a16, j16, hx16, rfl, rfl⟩)
 ·exact rdk_bad (fac_bad hat hd0 hx16) rfl
 refine al_al 4 info37 fun ver4 => ?_
 refine al_sp info37 ?_
 refine al_sr ?_
 refine al_mv ?_
 refine al_o (op_nilCheck_ptr rfl rfl) ?_
 refine al_fp u105 info3 ?_
 refine al_ld u3 info3 ?_
 refine al_o (op_sub rfl rfl (by first | exact wrap_i64 (by omega) (by omega))) ?_
 refine al_o (op_nilCheck_ptr rfl rfl) ?_
 refine al_fp u105 info3 ?_
 refine al_sp info3 ?_
 refine al_sr ?_
 refine al_fp u65 info9 ?_
 refine al_ld u9 info9 ?_
 refine al_ld u37 info37 ?_
 refine al_o (op_list encE [a16] u31 info37 rfl rfl (by decide) rfl (by decide) rfl (by first | rfl | (repeat (first | exact parts_nil | refine parts_cons rfl (by repeat (first | exact all_live_nil | refine all_live_clo rfl ?_ | refine all_live_slice rfl ?_ | refine all_live_map rfl ?_ | refine all_live_ptr rfl ?_)) ?_))) rfl rfl rfl (kids1 _)) ?_
 refine al_fp u65 info3 ?_
 refine al_ld u3 info3 ?_
 refine al_fp u65 info3 ?_
 refine al_ld u3 info3 ?_
 refine al_o (val_re (.agg (cellsE (mkE 5 (tokAt l i).text 0 [] [a16] (tokAt l i)))) (op_bs u37 info37 place37) (.agg _ _ (by repeat (first | exact reL_nil | refine reL_cons (.same _) ?_ | refine reL_cons (.vnil _) ?_)))) ?_
 refine al_sp info37 ?_
 refine al_nil ?_
 refine aw_ret ?_
 refine ⟨_, res_cell rfl u37 info37 rfl rfl rfl rfl, ?_⟩
 rw [rd_back hd0]; exact rdk_ok (mkE 5 (tokAt l i).text 0 [] [a16] (tokAt l i)) j16 (fac_ok hat hd0 hx16) rfl
theorem e_row (v0 : Nat) (l : List Tk) (hl : OKTs l) (hn : l.length ≤ 1000000000) (i d : Nat) (hd : d ≤ 40) (hi : i ≤ l.length) (hF : ∀ v0 i, i ≤ l.length → AC Tryz.prog 130 [.ptr 0 v0 0 0] (rd v0 l i (d) []) (RdK v0 l (d) encX (factor l d i))) (m k : Nat) (hk : k + m = 4) (hR : m ≠ 0 → ∀ v0 i, i ≤ l.length → AC Tryz.prog 78 [.ptr 0 v0 0 0, .v (.int .i64 ((k + 1 : Nat) : Int))] (rd v0 l i (d) []) (RdK v0 l (d) encX (rowP l (factor l d) (m - 1) i))) : AC Tryz.prog 78 [.ptr 0 v0 0 0, .v (.int .i64 ((k : Nat) : Int))] (rd v0 l i d []) (fun r σ' => RdK v0 l (d) encX (rowP l (factor l d) m i) r σ') := by
 refine ace 44 Tryz.func78 ?_
 refine aw_sr ?_
 refine al_al 4 info37 fun ver4 => ?_
 refine al_nil ?_
 refine aw_seq ?_
 refine aw_sr ?_
 refine al_mv ?_
 refine al_eq ?_
 refine al_nil ?_
 refine aw_cond rfl (fun h1 => ?_) (fun h1 => ?_)
 ·have gh1 := h1
  simp only [nrm] at h1
  refine aw_sr ?_
  refine al_mv ?_
  refine al_call into130 rfl rfl rfl (rd_lift rfl (fun _ => rfl) (hF v0 i hi) _ (by rfl)) (by simp) ?_; rintro _ _ (⟨g10, i10, d10, hx10, rfl, rfl⟩ | ⟨a10, j10, hx10, rfl, rfl⟩)
  ·exact rdk_bad (by rw [show m = 0 by omega]; exact hx10) rfl
  refine al_sp info37 ?_
  refine al_nil ?_
  refine aw_ret ?_
  refine ⟨_, res_cell rfl u37 info37 rfl rfl rfl rfl, ?_⟩
  exact rdk_ok a10 j10 (by rw [show m = 0 by omega]; exact hx10) rfl
 have gh1 := h1
 simp only [nrm] at h1
 refine aw_skip ?_
 refine aw_sr ?_
 refine al_mv ?_
 refine al_mv ?_
 refine al_ad ?_
 have hm : m ≠ 0 := by omega
 refine al_call into78 rfl rfl rfl (rd_lift rfl (fun _ => rfl) (hR hm v0 i hi) _ (by rfl)) (by simp) ?_; rintro _ _ (⟨g14, i14, d14, hx14, rfl, rfl⟩ | ⟨a14, j14, hx14, rfl, rfl⟩)
 ·exact rdk_bad (row_bad hm hx14) rfl
 have hgt14 := row_gt (factor_gt d) _ _ _ _ hx14
 refine al_al 5 info37 fun ver5 => ?_
 refine al_sp info37 ?_
 refine al_nil ?_
 refine aw_seq ?_
 refine aw_block ?_
 refine aw_for2T (α := Ex) (β := Nat) [] [6] (fun left j => l.length - j) (fun left j => j ≤ l.length ∧ rowLoop l (rowP l (factor l d) (m - 1)) k (l.length - j) left j = rowP l (factor l d) m i) (fun left j => ([] : Env)) (fun left j st => ([(0, v0, .row 7 [rdr l j d]), (4, ver4, .row 16 [zeroE]), (5, ver5, .row 16 [cellsE left])] : Store)) (a14) (j14) ?_ ?_ ?_ (fun left j hinv => ?_)
 ·exact ⟨by omega, row_ok hm hk hx14⟩
 ·exact sub_nil
 ·rfl
 refine aw_seq ?_
 refine aw_sr ?_
 refine al_mv ?_
 refine al_mv ?_
 refine al_callp into131 rfl rfl rfl (e_level k (by omega) _) (by simp) ?_
 refine al_callp into90 rfl rfl rfl (e_isA v0 l hl hn j d (by omega) (by omega) (levelL k) (level_len k) rfl rfl) (by simp) ?_
 refine al_nil ?_
 refine aw_cond rfl (fun h2 => ?_) (fun h2 => ?_)
 ·have gh2 := h2
  refine aw_skip ?_
  refine aw_block ?_
  refine aw_seq ?_
  have hltj := isAt_lt h2
  refine aw_region ?_
  refine al_mv ?_
  refine al_callp into91 rfl rfl rfl (e_tokenA v0 l hl hn j d (by omega) (by omega)  rfl rfl) (by simp) ?_
  refine al_al 6 info65 fun ver6 => ?_
  refine al_sp info65 ?_
  refine al_sr ?_
  refine al_mv ?_
  refine al_o (op_nilCheck_ptr rfl rfl) ?_
  refine al_fp u105 info3 ?_
  refine al_ld u3 info3 ?_
  refine al_ad ?_
  refine al_o (op_nilCheck_ptr rfl rfl) ?_
  refine al_fp u105 info3 ?_
  refine al_sp info3 ?_
  refine al_nil ?_
  refine aw_seq ?_
  refine aw_plan [0, 1, 2, 3, 4, 5, 8, 9, 10, 11, 6, 7, 12, 13] (Checked.mixed Tryz.checked) (by kernel_rfl) ?_
  refine afl_float rfl rfl (opk_of (op_field_ptr u65 rfl info9 (by decide) rfl rfl rfl)) (by simp) ?_
  refine afl_float rfl rfl (opk_of (op_load_ptr u9 info9 rfl rfl rfl rfl)) (by simp) ?_
  refine afl_float rfl rfl (opk_of (op_load_ptr u37 info37 rfl rfl rfl rfl)) (by simp) ?_
  refine afl_float rfl rfl (opk_of (op_move rfl)) (by simp) ?_
  refine afl_float rfl rfl (opk_of (op_move rfl)) (by simp) ?_
  refine afl_float rfl rfl (opk_of (op_add rfl rfl (by first | exact wrap_i64 (by omega) (by omega)))) (by simp) ?_
  refine afl_float rfl rfl (opk_of (op_field_ptr u65 rfl info3 (by decide) rfl rfl rfl)) (by simp) ?_
  refine afl_float rfl rfl (opk_of (op_load_ptr u3 info3 rfl rfl rfl rfl)) (by simp) ?_
  refine afl_float rfl rfl (opk_of (op_field_ptr u65 rfl info3 (by decide) rfl rfl rfl)) (by simp) ?_
  refine afl_float rfl rfl (opk_of (op_load_ptr u3 info3 rfl rfl rfl rfl)) (by simp) ?_
  refine afl_callP rfl (by kernel_rfl) into78 rfl rfl rfl (rd_lift rfl (fun _ => rfl) (hR hm v0 (j + 1) (by omega)) _ (by rfl)) (by simp) ?_; rintro _ _ (⟨g34, i34, d34, hx34, rfl, rfl⟩ | ⟨a34, j34, hx34, rfl, rfl⟩)
  ·exact rdk_bad (by rw [← hinv.2]; exact loop_bad h2 hx34) rfl
  have hgt34 := row_gt (factor_gt d) _ _ _ _ hx34
  refine ⟨?_, ?_⟩
  ·
   refine loose_k rfl (opk_of (op_load_ptr u3 info3 rfl rfl rfl rfl)) ?_
   refine loose_k rfl (opk_of (op_field_ptr u65 rfl info3 (by decide) rfl rfl rfl)) ?_
   refine loose_k rfl (opk_of (op_load_ptr u3 info3 rfl rfl rfl rfl)) ?_
   refine loose_k rfl (opk_of (op_field_ptr u65 rfl info3 (by decide) rfl rfl rfl)) ?_
   refine loose_anc 5 rfl (by kernel_rfl) ?_
   refine loose_anc 4 rfl (by kernel_rfl) ?_
   refine loose_anc 3 rfl (by kernel_rfl) ?_
   refine loose_k rfl (opk_of (op_load_ptr u37 info37 rfl rfl rfl rfl)) ?_
   refine loose_k rfl (opk_of (op_load_ptr u9 info9 rfl rfl rfl rfl)) ?_
   refine loose_k rfl (opk_of (op_field_ptr u65 rfl info9 (by decide) rfl rfl rfl)) ?_
   exact loose_nil
  refine afl_float rfl rfl (opk_of (op_list encE [left, a34] u31 info37 rfl rfl (by decide) rfl (by decide) rfl (by first | rfl | (repeat (first | exact parts_nil | refine parts_cons rfl (by repeat (first | exact all_live_nil | refine all_live_clo rfl ?_ | refine all_live_slice rfl ?_ | refine all_live_map rfl ?_ | refine all_live_ptr rfl ?_)) ?_))) rfl rfl rfl (kids2 _ _))) (by simp) ?_
  refine afl_float rfl rfl (opk_of (val_re (.agg (cellsE (mkE 5 (tokAt l j).text 0 [] [left, a34] (tokAt l j)))) (op_bs u37 info37 place37) (.agg _ _ (by repeat (first | exact reL_nil | refine reL_cons (.same _) ?_ | refine reL_cons (.vnil _) ?_))))) (by simp) ?_
  (refine afl_eff rfl rfl (by kernel_rfl) (op_sp info37) (by simp) ?_ ?_)
  ·
   refine loose_anc 12 rfl (by kernel_rfl) ?_
   refine loose_anc 7 rfl (by kernel_rfl) ?_
   refine loose_fix rfl ?_
   refine loose_anc 11 rfl (by kernel_rfl) ?_
   refine loose_anc 10 rfl (by kernel_rfl) ?_
   refine loose_anc 9 rfl (by kernel_rfl) ?_
   refine loose_anc 8 rfl (by kernel_rfl) ?_
   refine loose_anc 5 rfl (by kernel_rfl) ?_
   refine loose_anc 4 rfl (by kernel_rfl) ?_
   refine loose_anc 3 rfl (by kernel_rfl) ?_
   refine loose_anc 2 rfl (by kernel_rfl) ?_
   refine loose_anc 1 rfl (by kernel_rfl) ?_
   refine loose_anc 0 rfl (by kernel_rfl) ?_
   exact loose_nil
  refine afl_end ?_
  refine aw_sr ?_
  refine al_mv ?_
  refine al_eq ?_
  refine al_nil ?_
  refine aw_cond rfl (fun h3 => ?_) (fun h3 => ?_)
  ·have gh3 := h3
   simp only [nrm] at h3
   refine aw_exit ?_
   refine aw_sr ?_
   refine al_ld u37 info37 ?_
   refine al_sp info37 ?_
   refine al_nil ?_
   refine aw_ret ?_
   refine ⟨_, res_cell rfl u37 info37 rfl rfl rfl rfl, ?_⟩
   exact rdk_ok (mkE 5 (tokAt l j).text 0 [] [left, a34] (tokAt l j)) j34 (by rw [← hinv.2]; exact loop_one h2 hx34 (by omega)) rfl
  have gh3 := h3
  simp only [nrm] at h3
  refine aw_skip ?_
  refine ⟨mkE 5 (tokAt l j).text 0 [] [left, a34] (tokAt l j), j34, ?_, ?_, ?_, ?_, ?_⟩
  ·omega
  ·exact ⟨by omega, (loop_step (row_gt (factor_gt d) _) h2 hx34 (by omega)).trans hinv.2⟩
  ·exact sub_nil
  ·exact sbl
  ·rfl
 have gh2 := h2
 refine aw_exit ?_
 refine aw_sr ?_
 refine al_ld u37 info37 ?_
 refine al_sp info37 ?_
 refine al_nil ?_
 refine aw_ret ?_
 refine ⟨_, res_cell rfl u37 info37 rfl rfl rfl rfl, ?_⟩
 exact rdk_ok left j (by rw [← hinv.2]; exact loop_stop h2) rfl
theorem e_expr (v0 : Nat) (l : List Tk) (hl : OKTs l) (hn : l.length ≤ 1000000000) (i d : Nat) (hd : d ≤ 40) (hi : i ≤ l.length) (hR : AC Tryz.prog 78 [.ptr 0 v0 0 0, .v (.int .i64 (0))] (rd v0 l i (d) []) (RdK v0 l (d) encX (rowP l (factor l d) 4 i))) : AC Tryz.prog 40 [.ptr 0 v0 0 0] (rd v0 l i d []) (fun r σ' => RdK v0 l (d) encX (rowD l d 4 i) r σ') := by
 refine ace 5 Tryz.func40 ?_
 refine aw_sr ?_
 refine al_al 2 info37 fun ver2 => ?_
 refine al_sr ?_
 refine al_mv ?_
 refine al_call into78 rfl rfl rfl (rd_lift rfl (fun _ => rfl) (hR) _ (by rfl)) (by simp) ?_; rintro _ _ (⟨g4, i4, d4, hx4, rfl, rfl⟩ | ⟨a4, j4, hx4, rfl, rfl⟩)
 ·exact rdk_bad (hx4) rfl
 refine al_sp info37 ?_
 refine al_nil ?_
 refine aw_ret ?_
 refine ⟨_, res_cell rfl u37 info37 rfl rfl rfl rfl, ?_⟩
 exact rdk_ok a4 j4 hx4 rfl
theorem e_all (l : List Tk) (hl : OKTs l) (hn : l.length ≤ 1000000000)  : ∀ d, d ≤ 40 → (∀ v0 i, i ≤ l.length → AC Tryz.prog 130 [.ptr 0 v0 0 0] (rd v0 l i (d) []) (RdK v0 l (d) encX (factor l d i))) ∧ (∀ v0 i, i ≤ l.length → AC Tryz.prog 40 [.ptr 0 v0 0 0] (rd v0 l i (d) []) (RdK v0 l (d) encX (rowD l d 4 i))) := by
  intro d
  induction d with
  | zero =>
    intro hd
    have hA : ∀ v0 i, i ≤ l.length → AC Tryz.prog 130 [.ptr 0 v0 0 0] (rd v0 l i (0) []) (RdK v0 l (0) encX (factor l 0 i)) := fun v0 i hi => e_factor v0 l hl hn i 0 hd hi (fun h => absurd rfl h) (e_prim v0 l hl hn i 0 hd hi (fun h => absurd rfl h))
    have hW : ∀ m k, k + m = 4 → ∀ v0 i, i ≤ l.length → AC Tryz.prog 78 [.ptr 0 v0 0 0, .v (.int .i64 ((k : Nat) : Int))] (rd v0 l i (0) []) (RdK v0 l (0) encX (rowP l (factor l 0) m i)) := by
      intro m
      induction m with
      | zero => exact fun k hk v0 i hi => e_row v0 l hl hn i 0 hd hi hA 0 k hk (fun h => absurd rfl h)
      | succ m ih => exact fun k hk v0 i hi => e_row v0 l hl hn i 0 hd hi hA (m + 1) k hk (fun _ => ih (k + 1) (by omega))
    exact ⟨hA, fun v0 i hi => e_expr v0 l hl hn i 0 hd hi (hW 4 0 rfl v0 i hi)⟩
  | succ d ih =>
    intro hd
    obtain ⟨h1, h2⟩ := ih (by omega)
    have hA : ∀ v0 i, i ≤ l.length → AC Tryz.prog 130 [.ptr 0 v0 0 0] (rd v0 l i (d + 1) []) (RdK v0 l (d + 1) encX (factor l (d + 1) i)) := fun v0 i hi => e_factor v0 l hl hn i (d + 1) hd hi (fun _ => h1) (e_prim v0 l hl hn i (d + 1) hd hi (fun _ => h2))
    have hW : ∀ m k, k + m = 4 → ∀ v0 i, i ≤ l.length → AC Tryz.prog 78 [.ptr 0 v0 0 0, .v (.int .i64 ((k : Nat) : Int))] (rd v0 l i (d + 1) []) (RdK v0 l (d + 1) encX (rowP l (factor l (d + 1)) m i)) := by
      intro m
      induction m with
      | zero => exact fun k hk v0 i hi => e_row v0 l hl hn i (d + 1) hd hi hA 0 k hk (fun h => absurd rfl h)
      | succ m ih => exact fun k hk v0 i hi => e_row v0 l hl hn i (d + 1) hd hi hA (m + 1) k hk (fun _ => ih (k + 1) (by omega))
    exact ⟨hA, fun v0 i hi => e_expr v0 l hl hn i (d + 1) hd hi (hW 4 0 rfl v0 i hi)⟩
theorem e_inner (l : List Tk) (hl : OKTs l) (hn : l.length ≤ 1000000000)  (hd : 40 ≠ 0) : ∀ v0 i, i ≤ l.length → AC Tryz.prog 40 [.ptr 0 v0 0 0] (rd v0 l i (40 - 1) []) (RdK v0 l (40 - 1) encX (rowD l (40 - 1) 4 i)) := (e_all l hl hn 39 (by decide)).2
end Go.Proofs.YtcgdlhkiecommaaGreatDoor
/- Printed walks (gen.py, lexer_ann.py): part 407. -/



namespace Go.Proofs.YtcgdlhkiecommaaGreatDoor
open Go
theorem e_target (v0 : Nat) (l : List Tk) (hl : OKTs l) (hn : l.length ≤ 1000000000) (i : Nat) (hi : i ≤ l.length)  : AC Tryz.prog 44 [.ptr 0 v0 0 0] (rd v0 l i 40 []) (fun r σ' => RdK v0 l (40) encX (targetP l i) r σ') := by
 refine ace 15 Tryz.func44 ?_
 refine aw_sr ?_
 refine al_al 2 info37 fun ver2 => ?_
 refine al_sr ?_
 refine al_mv ?_
 refine al_call into81 rfl rfl rfl (rd_lift rfl (fun _ => rfl) (e_kind v0 l hl hn i 40 (by decide) hi 1 (by decide)) _ (by rfl)) (by simp) ?_; rintro _ _ (⟨g5, i5, d5, hx5, rfl, rfl⟩ | ⟨a5, j5, hx5, rfl, rfl⟩)
 ·exact rdk_bad (by obtain ⟨g, rfl⟩ := kind_bad hx5; rw [targetP, g]; rfl) rfl
 obtain ⟨rfl, rfl, hop5⟩ := kind_ok hx5
 have hlt5 := op_lt (l := l) (i := i) (k := 1) (by simpa using hop5) (by decide)
 refine al_al 3 info65 fun ver3 => ?_
 refine al_sp info65 ?_
 refine al_sr ?_
 refine al_mv ?_
 refine al_fp u65 info9 ?_
 refine al_ld u9 info9 ?_
 refine al_fp u65 info3 ?_
 refine al_ld u3 info3 ?_
 refine al_fp u65 info3 ?_
 refine al_ld u3 info3 ?_
 refine al_o (val_re (.agg (cellsE (mkE 4 (tokAt l i).text 0 [] [] (tokAt l i)))) (op_bs u37 info37 place37) (.agg _ _ (by repeat (first | exact reL_nil | refine reL_cons (.same _) ?_ | refine reL_cons (.vnil _) ?_)))) ?_
 refine al_call into82 rfl rfl rfl (rd_lift rfl (fun _ => rfl) (e_parts v0 l hl hn (i + 1) 40 (by decide) (by omega) (e_inner l hl hn) (mkE 4 (tokAt l i).text 0 [] [] (tokAt l i))) _ (by rfl)) (by simp) ?_; rintro _ _ (⟨g14, i14, d14, hx14, rfl, rfl⟩ | ⟨a14, j14, hx14, rfl, rfl⟩)
 ·exact rdk_bad (by rw [targetP, if_pos hop5]; exact hx14) rfl
 refine al_sp info37 ?_
 refine al_nil ?_
 refine aw_ret ?_
 refine ⟨_, res_cell rfl u37 info37 rfl rfl rfl rfl, ?_⟩
 exact rdk_ok a14 j14 (by rw [targetP, if_pos hop5]; exact hx14) rfl
theorem e_typeF (v0 : Nat) (l : List Tk) (hl : OKTs l) (hn : l.length ≤ 1000000000) (hnm : ∀ i, ((tokAt l i).op == 1) = true → ((tokAt l i).text == sArray) = false) (i : Nat) (hi : i ≤ l.length) (sub : Nat → Rd Tr) (hS : isAt l [sArray] i = true → ∀ v0 j, j ≤ l.length → isAt l [sArray] j = false → AC Tryz.prog 47 [.ptr 0 v0 0 0] (rd v0 l j (40) []) (RdK v0 l (40) encRr (sub j))) : AC Tryz.prog 47 [.ptr 0 v0 0 0] (rd v0 l i 40 []) (fun r σ' => RdK v0 l (40) encRr (typeF l sub i) r σ') := by
 refine ace 55 Tryz.func47 ?_
 refine aw_sr ?_
 refine al_al 2 info46 fun ver2 => ?_
 refine al_sr ?_
 refine al_mv ?_
 refine al_callp into89 rfl rfl rfl (e_hereA v0 l hl hn i 40 (by omega) (by omega)  rfl rfl) (by simp) ?_
 refine al_mv ?_
 refine al_xt ?_
 refine al_xt ?_
 refine al_gs ?_
 refine al_gs ?_
 refine al_sr ?_
 refine al_mv ?_
 refine al_mv ?_
 refine al_o (val_re (.agg (cellsR (Tr.mk [] [] [] (tokAt l i).line (tokAt l i).col))) (op_bs u46 info46 place46) (.agg _ _ (by repeat (first | exact reL_nil | refine reL_cons (.same _) ?_ | refine reL_cons (.vnil _) ?_)))) ?_
 refine al_al 5 info46 fun ver5 => ?_
 refine al_sp info46 ?_
 refine al_nil ?_
 refine aw_seq ?_
 refine aw_block ?_
 refine aw_sr ?_
 refine al_mv ?_
 refine al_o (op_ol encBs [sVec, sArray] u32 info9) ?_
 refine al_callp into90 rfl rfl rfl (e_isA v0 l hl hn i 40 (by omega) (by omega) [sVec, sArray] (by decide) rfl rfl) (by simp) ?_
 refine al_gs ?_
 refine al_nil ?_
 refine aw_cond rfl (fun h1 => ?_) (fun h1 => ?_)
 ·have gh1 := h1
  have hva := h1
  have hlt := isAt_lt h1
  refine aw_sr ?_
  refine al_mv ?_
  refine al_callp into91 rfl rfl rfl (e_tokenA v0 l hl hn i 40 (by omega) (by omega)  rfl rfl) (by simp) ?_
  refine al_o (op_field u65 rfl u9 info9 rfl rfl rfl) ?_
  refine al_fp u46 info9 ?_
  refine al_sp info9 ?_
  refine al_sr ?_
  refine al_mv ?_
  refine al_o (op_nilCheck_ptr rfl rfl) ?_
  refine al_fp u105 info3 ?_
  refine al_ld u3 info3 ?_
  refine al_ad ?_
  refine al_o (op_nilCheck_ptr rfl rfl) ?_
  refine al_fp u105 info3 ?_
  refine al_sp info3 ?_
  refine al_sr ?_
  refine al_mv ?_
  refine al_call into92 rfl rfl rfl (rd_lift rfl (fun _ => rfl) (e_open v0 l hl hn (i + 1) 40 (by decide) (by omega)) _ (by rfl)) (by simp) ?_; rintro _ _ (⟨g33, i33, d33, hx33, rfl, rfl⟩ | ⟨a33, j33, hx33, rfl, rfl⟩)
  ·exact rdk_bad (by rw [typeF, if_pos hva]; rw [hx33]) rfl
  obtain ⟨hd0, rfl, hop33⟩ := open_ok hx33
  have hlt33 := isAt_lt hop33
  refine al_sr ?_
  refine al_mv ?_
  refine al_call into40 rfl rfl rfl (rd_lift rfl (fun _ => rfl) (e_inner l hl hn (by decide) v0 (i + 1 + 1) (by omega)) _ (by rfl)) (by simp) ?_; rintro _ _ (⟨g35, i35, d35, hx35, rfl, rfl⟩ | ⟨a35, j35, hx35, rfl, rfl⟩)
  ·exact rdk_bad (by rw [typeF, if_pos hva]; rw [hx33]; simp only; rw [innerD_pos (by decide), hx35]) rfl
  have hi35 : innerD l 40 (i + 1 + 1) = .ok a35 j35 := by rw [innerD_pos (by decide)]; exact hx35
  have hgt35 := innerD_gt (l := l) 40 _ _ _ hi35
  refine al_o (op_list encE [a35] u31 info37 rfl rfl (by decide) rfl (by decide) rfl (by first | rfl | (repeat (first | exact parts_nil | refine parts_cons rfl (by repeat (first | exact all_live_nil | refine all_live_clo rfl ?_ | refine all_live_slice rfl ?_ | refine all_live_map rfl ?_ | refine all_live_ptr rfl ?_)) ?_))) rfl rfl rfl (kids1 _)) ?_
  refine al_fp u46 info31 ?_
  refine al_sp info31 ?_
  refine al_nil ?_
  refine aw_region ?_
  refine al_mv ?_
  refine al_call into93 rfl rfl rfl (rd_lift rfl (fun _ => rfl) (e_shut v0 l hl hn j35 39 (by decide) (by omega) 40 rfl) _ (by rfl)) (by simp) ?_; rintro _ _ (⟨g39, i39, d39, hx39, rfl, rfl⟩ | ⟨a39, j39, hx39, rfl, rfl⟩)
  ·exact rdk_bad (by rw [typeF, if_pos hva]; rw [hx33]; simp only; rw [hi35]; simp only; rw [hx39]) rfl
  obtain ⟨rfl, hat39⟩ := want_ok hx39
  have hlt39 := isAt_lt hat39
  refine al_nil ?_
  refine aw_seq ?_
  refine aw_sr ?_
  refine al_fp u46 info9 ?_
  refine al_ld u9 info9 ?_
  refine al_o (op_seql_str rfl rfl) ?_
  refine al_nil ?_
  refine aw_cond rfl (fun h2 => ?_) (fun h2 => ?_)
  ·have gh2 := h2
   simp only [nrm] at h2
   have hsa : ((tokAt l i).text == sArray) = true := gh2
   refine aw_sr ?_
   refine al_mv ?_
   refine al_call into95 rfl rfl rfl (rd_lift rfl (fun _ => rfl) (e_want v0 l hl hn (j35 + 1) 40 (by decide) (by omega) sOf) _ (by rfl)) (by simp) ?_; rintro _ _ (⟨g44, i44, d44, hx44, rfl, rfl⟩ | ⟨a44, j44, hx44, rfl, rfl⟩)
   ·exact rdk_bad (by rw [typeF, if_pos hva]; rw [hx33]; simp only; rw [hi35]; simp only; rw [hx39]; simp only; rw [if_pos hsa]; rw [hx44]) rfl
   obtain ⟨rfl, hat44⟩ := want_ok hx44
   have hlt44 := isAt_lt hat44
   refine al_nil ?_
   refine aw_seq ?_
   refine aw_sr ?_
   refine al_mv ?_
   refine al_o (op_ol encBs [sArray] u32 info9) ?_
   refine al_callp into90 rfl rfl rfl (e_isA v0 l hl hn (j35 + 1 + 1) 40 (by omega) (by omega) [sArray] (by decide) rfl rfl) (by simp) ?_
   refine al_nil ?_
   refine aw_cond rfl (fun h3 => ?_) (fun h3 => ?_)
   ·have gh3 := h3
    refine aw_region ?_
    refine al_mv ?_
    refine al_call into96 rfl rfl rfl (rd_lift rfl (fun _ => rfl) (e_fail v0 l hl hn (j35 + 1 + 1) (40) (by omega) (by omega) 11) _ (by rfl)) (by simp) ?_; rintro _ _ (⟨g49, i49, d49, ⟨⟩, rfl, rfl⟩ | ⟨_, _, ⟨⟩, _⟩)
    exact rdk_bad (by rw [typeF, if_pos hva]; rw [hx33]; simp only; rw [hi35]; simp only; rw [hx39]; simp only; rw [if_pos hsa]; rw [hx44]; simp only; rw [if_pos h3]) rfl
   have gh3 := h3
   refine aw_skip ?_
   refine aw_region ?_
   refine al_mv ?_
   refine al_call into47 rfl rfl rfl (rd_lift rfl (fun _ => rfl) (hS (isAt_array h1 hsa) v0 (j35 + 1 + 1) (by omega) h3) _ (by rfl)) (by simp) ?_; rintro _ _ (⟨g51, i51, d51, hx51, rfl, rfl⟩ | ⟨a51, j51, hx51, rfl, rfl⟩)
   ·exact rdk_bad (by rw [typeF, if_pos hva]; rw [hx33]; simp only; rw [hi35]; simp only; rw [hx39]; simp only; rw [if_pos hsa]; rw [hx44]; simp only; rw [h3, if_neg Bool.false_ne_true, hx51]) rfl
   refine al_o (op_list encR [a51] u44 info46 rfl rfl (by decide) rfl (by decide) rfl (by first | rfl | (repeat (first | exact parts_nil | refine parts_cons rfl (by repeat (first | exact all_live_nil | refine all_live_clo rfl ?_ | refine all_live_slice rfl ?_ | refine all_live_map rfl ?_ | refine all_live_ptr rfl ?_)) ?_))) rfl rfl rfl (elem1 _)) ?_
   refine al_fp u46 info44 ?_
   refine al_sp info44 ?_
   refine al_sr ?_
   refine al_ld u46 info46 ?_
   refine al_sp info46 ?_
   refine al_nil ?_
   refine aw_ret ?_
   refine ⟨_, res_cell rfl u46 info46 rfl rfl rfl rfl, ?_⟩
   exact rdk_ok (Tr.mk (tokAt l i).text [a35] [a51] (tokAt l i).line (tokAt l i).col) j51 (by rw [typeF, if_pos hva]; rw [hx33]; simp only; rw [hi35]; simp only; rw [hx39]; simp only; rw [if_pos hsa]; rw [hx44]; simp only; rw [h3, if_neg Bool.false_ne_true, hx51]) rfl
  have gh2 := h2
  simp only [nrm] at h2
  have hsa : ((tokAt l i).text == sArray) = false := gh2
  refine aw_skip ?_
  refine aw_sr ?_
  refine al_ld u46 info46 ?_
  refine al_sp info46 ?_
  refine al_nil ?_
  refine aw_ret ?_
  refine ⟨_, res_cell rfl u46 info46 rfl rfl rfl rfl, ?_⟩
  exact rdk_ok (Tr.mk (tokAt l i).text [a35] [] (tokAt l i).line (tokAt l i).col) (j35 + 1) (by rw [typeF, if_pos hva]; rw [hx33]; simp only; rw [hi35]; simp only; rw [hx39]; simp only; rw [hsa, if_neg Bool.false_ne_true]) rfl
 have gh1 := h1
 refine aw_region ?_
 refine al_mv ?_
 refine al_call into94 rfl rfl rfl (rd_lift rfl (fun _ => rfl) (e_name v0 l hl hn i 40 (by decide) hi) _ (by rfl)) (by simp) ?_; rintro _ _ (⟨g15, i15, d15, hx15, rfl, rfl⟩ | ⟨a15, j15, hx15, rfl, rfl⟩)
 ·exact rdk_bad (by obtain ⟨g, rfl⟩ := kind_bad hx15; rw [typeF, h1, if_neg Bool.false_ne_true, g]; rfl) rfl
 obtain ⟨rfl, rfl, hop15⟩ := kind_ok hx15
 refine al_fp u46 info9 ?_
 refine al_sp info9 ?_
 refine al_nil ?_
 refine aw_seq ?_
 refine aw_sr ?_
 refine al_fp u46 info9 ?_
 refine al_ld u9 info9 ?_
 refine al_o (op_seql_str rfl rfl) ?_
 refine al_nil ?_
 refine aw_cond rfl (fun h4 => ?_) (fun h4 => ?_)
 ·have gh4 := h4
  simp only [nrm] at h4
  rw [show ((tokAt l i).text == [97, 114, 114, 97, 121]) = false from hnm i hop15] at gh4; cases gh4
 have gh4 := h4
 simp only [nrm] at h4
 refine aw_skip ?_
 refine aw_sr ?_
 refine al_ld u46 info46 ?_
 refine al_sp info46 ?_
 refine al_nil ?_
 refine aw_ret ?_
 refine ⟨_, res_cell rfl u46 info46 rfl rfl rfl rfl, ?_⟩
 exact rdk_ok (Tr.mk (tokAt l i).text [] [] (tokAt l i).line (tokAt l i).col) (i + 1) (by rw [typeF, h1, if_neg Bool.false_ne_true, if_pos hop15]) rfl
theorem e_type (v0 : Nat) (l : List Tk) (hl : OKTs l) (hn : l.length ≤ 1000000000) (hnm : ∀ i, ((tokAt l i).op == 1) = true → ((tokAt l i).text == sArray) = false) (i : Nat) (hi : i ≤ l.length) : AC Tryz.prog 47 [.ptr 0 v0 0 0] (rd v0 l i (40) []) (RdK v0 l (40) encRr (typeP l i)) :=
  e_typeF v0 l hl hn hnm i hi (type0 l) (fun _ v0 j hj hja => e_typeF v0 l hl hn hnm j hj (fun _ => .bad eofF) (fun h => by rw [hja] at h; cases h))
end Go.Proofs.YtcgdlhkiecommaaGreatDoor
/- Printed walks (gen.py, lexer_ann.py): part 408. -/



namespace Go.Proofs.YtcgdlhkiecommaaGreatDoor
open Go
theorem callk_pan {P : Program} {n : Nat} {ops : Array Oper} {rest : List Oper} {Q : APost} {env : Env} {d : Option Tmp} {a : AVal} {σ' : Store} (h : Q (.panic a) env σ') : CallK P n ops rest Q env d (.pan a) σ' := h
theorem thenD_pan {next : Env → Store → ADefs → Prop} {Q : DPost} {a : AVal} {env : Env} {σ : Store} {D : ADefs} (h : Q (.panic a) env σ D) : AExit.thenD next Q (.panic a) env σ D := h
theorem e_catch_p (g : Flt) (v6 v8 v36 : Nat) (o6 o36 : AObj) : ACDp Tryz.prog 77 [.ptr 8 v8 0 0] (faultI g) [(6, v6, o6), (8, v8, .row 4 [encF okF]), (36, v36, o36)] (fun σ' => ∃ v, σ' = [(6, v6, o6), (8, v8, .row 4 [encF g]), (36, v36, o36), (103, v, .row 4 [encF g])]) := by
 refine acdp_of (nt := 14) (t := 5) Tryz.func77 rfl rfl (by simp) (by decide) rfl ?_
 refine aw_block ?_
 refine aw_sr ?_
 refine al_o (op_ifn_eql (by kernel_rfl) rfl rfl (.inr ⟨⟨_, _, rfl⟩, rfl⟩)) ?_
 refine al_nil ?_
 refine aw_cond rfl (fun h1 => ?_) (fun h1 => ?_)
 ·have gh1 := h1
  cases gh1
 have gh1 := h1
 simp only [nrm] at h1
 refine aw_sr ?_
 refine al_o (op_assert_agg (vals := [.int .i64 g.code, .string (str g.name), .int .i64 g.line, .int .i64 g.col]) u40 rfl rfl) ?_
 refine al_xt ?_
 refine al_xt ?_
 refine al_nil ?_
 refine aw_cond rfl (fun h2 => ?_) (fun h2 => ?_)
 ·have gh2 := h2
  simp only [nrm] at h2
  refine aw_sr ?_
  refine al_al 103 info40 fun ver3 => ?_
  refine al_sp info40 ?_
  refine al_nil ?_
  refine aw_region ?_
  refine al_mv ?_
  refine al_ld u40 info40 ?_
  refine al_o (op_nilCheck_ptr rfl rfl) ?_
  refine al_sp info40 ?_
  refine al_nil ?_
  exact ⟨.inl rfl, _, rfl⟩
 have gh2 := h2
 cases gh2
theorem e_catch_r (σ : Store) (v8 : Nat) : ACDr Tryz.prog 77 [.ptr 8 v8 0 0] σ (fun σ' => σ' = σ) := by
 refine acdr_of (nt := 14) (t := 5) Tryz.func77 rfl rfl (by simp) (by decide) rfl ?_
 refine aw_block ?_
 refine aw_sr ?_
 refine al_o (op_ifn_eql (by kernel_rfl) rfl rfl (.inl ⟨rfl, rfl⟩)) ?_
 refine al_nil ?_
 refine aw_cond rfl (fun h1 => ?_) (fun h1 => ?_)
 ·have gh1 := h1
  simp only [nrm] at h1
  refine aw_region ?_
  refine al_gs ?_
  refine al_nil ?_
  exact ⟨.inl rfl, rfl⟩
 have gh1 := h1
 cases gh1
theorem e_readE (g : FuncId) (hin : Into Tryz.prog g) (l : List Tk) (hl : OKTs l) (hn : l.length ≤ 1000000000) (p : Int) (x : Nat → Rd Ex) (hw : (textP l).2 = 0 → ∀ v0 i, i ≤ l.length → AC Tryz.prog g [.ptr 0 v0 0 0] (rd v0 l i 40 []) (RdK v0 l 40 encX (x i))) : AC Tryz.prog 39 [.list 5 (l.map encK), .v (.int .i64 (p)), .v (.func (.func g) #[] #[])] ([]) (fun r σ' => r = .ret (encP encX (readP ex0 l p x)) ∧ σ'.keep (fun _ => false) = []) := by
 refine acd_enter 46 Tryz.func39 rfl rfl (by simp) ?_
 refine awd_seq ?_
 refine awd_region_l ?_
 refine al_al 6 info37 fun ver6 => ?_
 refine al_gs ?_
 refine al_al 8 info40 fun ver8 => ?_
 refine al_nil ?_
 refine awd_seq ?_
 refine awd_seq ?_
 refine awd_region_l ?_
 refine al_mv ?_
 refine al_callp into53 rfl rfl rfl (c_Text l hl (by omega) _) (by simp) ?_
 refine al_mv ?_
 refine al_xt ?_
 refine al_xt ?_
 refine al_gs ?_
 refine al_gs ?_
 refine al_nil ?_
 refine awd_seq ?_
 refine awd_region_l ?_
 refine al_mv ?_
 refine al_o (op_neq rfl rfl) ?_
 refine al_mv ?_
 apply al_or 3 20 23 rfl
 ·intro h1; have gh1 := h1
  simp only [nrm] at h1
  refine tk_mv ?_
  refine al_t (op_lss rfl rfl) ?_
  refine al_pk ?_
  exact al_nk gh1
 ·intro h1; have gh1 := h1
  simp only [nrm] at h1
  iterate 2 refine al_ps ?_
  refine al_pk ?_
  exact al_nk gh1
 refine al_mv ?_
 apply al_or 5 24 29 rfl
 ·intro h2; have gh2 := h2
  simp only [nrm] at h2
  refine tk_mv ?_
  refine tk_mv ?_
  refine al_t (op_len_map u22 rfl) ?_
  refine al_t (op_gtr rfl rfl) ?_
  refine al_pk ?_
  exact al_nk gh2
 ·intro h2; have gh2 := h2
  simp only [nrm] at h2
  iterate 4 refine al_ps ?_
  refine al_pk ?_
  exact al_nk gh2
 refine al_nil ?_
 refine awd_cond rfl (fun h3 => ?_) (fun h3 => ?_)
 ·have gh3 := h3
  simp only [nrm] at h3
  refine awd_seq ?_
  refine awd_region_l ?_
  refine al_ld u37 info37 ?_
  refine al_o (op_bs u40 info40 place40) ?_
  refine al_sp info37 ?_
  refine al_gs ?_
  refine al_sp info40 ?_
  refine al_nil ?_
  refine awd_ret ?_
  refine ⟨_, res_head (b := encX ex0) (res_cell_tmp_cell rfl u37 info37 u40 info40 rfl rfl rfl rfl rfl rfl rfl rfl rfl rfl rfl rfl) (.agg _ _ (by repeat (first | exact reL_nil | refine reL_cons (.same _) ?_ | refine reL_cons (.vnil _) ?_))) rfl rfl, ?_⟩
  exact ⟨by rw [readP_arg gh3] <;> rfl, rfl⟩
 have gh3 := h3
 simp only [nrm] at h3
 refine awd_skip ?_
 refine awd_seq ?_
 have hc : (((textP l).2 != 0 || decide (p < 0)) || decide (p > (l.length : Int))) = false := gh3
 have htx : (textP l).2 = 0 := by have := hc; simp at this; exact this.1.1
 obtain ⟨i, rfl⟩ := Int.eq_ofNat_of_zero_le (show 0 ≤ p by have := hc; simp at this; omega)
 have hil : i ≤ l.length := by have := hc; simp at this; omega
 refine awd_region ?_
 refine ald_defer rfl rfl ?_
 refine ald_nil ?_
 refine awd_seq ?_
 refine awd_region_l ?_
 refine al_mv ?_
 refine al_mv ?_
 refine al_o (op_bs u40 info40 place40) ?_
 refine al_o (op_bs u105 info105 place105) ?_
 refine al_bx 36 fun ver36 => ?_
 refine al_gs ?_
 refine al_nil ?_
 refine awd_seq ?_
 refine awd_region_l ?_
 refine al_mv ?_
 refine al_mv ?_
 refine al_call hin rfl rfl rfl (rd_call 36 (by decide) (fun _ => rfl) (hw htx ver36 i (by omega)) rfl (by rfl)) (by simp) ?_; rintro _ _ (⟨g39, i39, d39, hx39, rfl, rfl⟩ | ⟨a39, j39, hx39, rfl, rfl⟩)
 ·apply callk_pan; apply thenD_pan
  refine retd_pan2 into77 (e_catch_p g39 ver6 ver8 ver36 (.row 16 [zeroE]) (.row 7 [rdr l i39 d39])) ?_ ?_ ?_
  · rfl
  · rfl
  rintro _ ⟨v39, rfl⟩
  refine ⟨_, res_head (b := encX ex0) (res_cell_tmp_cell rfl u37 info37 u40 info40 rfl rfl rfl rfl rfl rfl rfl rfl rfl rfl rfl rfl) (.agg _ _ (by repeat (first | exact reL_nil | refine reL_cons (.same _) ?_ | refine reL_cons (.vnil _) ?_))) rfl rfl, ?_⟩
  exact ⟨by rw [readP_bad hc hx39] <;> rfl, rfl⟩
 refine al_al 12 info37 fun ver12 => ?_
 refine al_sp info37 ?_
 refine al_nil ?_
 refine awd_seq ?_
 refine awd_plan [0, 1, 2, 3, 4, 5, 6, 7, 8] (Checked.mixed Tryz.checked) (by kernel_rfl) ?_
 refine afl_float rfl rfl (opk_of (op_load_ptr u37 info37 rfl rfl rfl rfl)) (by simp) ?_
 refine afl_float rfl rfl (opk_of (op_move rfl)) (by simp) ?_
 refine afl_float rfl rfl (opk_of (op_nilCheck_ptr rfl rfl)) (by simp) ?_
 refine afl_float rfl rfl (opk_of (op_field_ptr u105 rfl info3 (by decide) rfl rfl rfl)) (by simp) ?_
 refine afl_float rfl rfl (opk_of (op_load_ptr u3 info3 rfl rfl rfl rfl)) (by simp) ?_
 refine afl_float rfl rfl (opk_of (op_load_ptr u40 info40 rfl rfl rfl rfl)) (by simp) ?_
 (refine afl_eff rfl rfl (by kernel_rfl) (op_sp info37) (by simp) ?_ ?_)
 ·
  refine loose_k rfl (opk_of (op_load_ptr u40 info40 rfl rfl rfl rfl)) ?_
  refine loose_k rfl (opk_of (op_load_ptr u3 info3 rfl rfl rfl rfl)) ?_
  refine loose_k rfl (opk_of (op_field_ptr u105 rfl info3 (by decide) rfl rfl rfl)) ?_
  refine loose_k rfl (opk_of (op_nilCheck_ptr rfl rfl)) ?_
  refine loose_k rfl (opk_of (op_move rfl)) ?_
  refine loose_anc 0 rfl (by kernel_rfl) ?_
  exact loose_nil
 refine afl_float rfl rfl (opk_of (op_assign rfl)) (by simp) ?_
 (refine afl_eff rfl rfl (by kernel_rfl) (op_sp info40) (by simp) ?_ ?_)
 ·
  refine loose_anc 7 rfl (by kernel_rfl) ?_
  refine loose_fix rfl ?_
  refine loose_anc 5 rfl (by kernel_rfl) ?_
  refine loose_anc 4 rfl (by kernel_rfl) ?_
  refine loose_anc 3 rfl (by kernel_rfl) ?_
  refine loose_anc 2 rfl (by kernel_rfl) ?_
  refine loose_anc 1 rfl (by kernel_rfl) ?_
  refine loose_anc 0 rfl (by kernel_rfl) ?_
  exact loose_nil
 refine afl_end ?_
 refine awd_ret ?_
 refine retd_ret into77 (e_catch_r _ ver8) ?_
 rintro _ rfl
 refine ⟨_, res_cell_tmp_cell rfl u37 info37 u40 info40 rfl rfl rfl rfl rfl rfl rfl rfl rfl rfl rfl rfl, ?_⟩
 exact ⟨by rw [readP_ok hc hx39] <;> rfl, rfl⟩
theorem e_readEP (g : FuncId) (hin : Into Tryz.prog g) (l : List Tk) (hl : OKTs l) (hn : l.length ≤ 1000000000) (p : Int) (x : Nat → Rd Ex) (hw : (textP l).2 = 0 → ∀ v0 i, i ≤ l.length → AC Tryz.prog g [.ptr 0 v0 0 0] (rd v0 l i 40 []) (RdK v0 l 40 encX (x i))) : ACp Tryz.prog 39 [.list 5 (l.map encK), .v (.int .i64 (p)), .v (.func (.func g) #[] #[])] (encP encX (readP ex0 l p x)) :=
  acp_of rfl (ac_mono (ac_keep (fun _ => false) (e_readE g hin l hl hn p x hw)) (by rintro x σ1 ⟨σ2, ⟨rfl, e⟩, rfl⟩; exact ⟨rfl, e⟩))
theorem e_readT (g : FuncId) (hin : Into Tryz.prog g) (l : List Tk) (hl : OKTs l) (hn : l.length ≤ 1000000000) (p : Int) (x : Nat → Rd Tr) (hw : (textP l).2 = 0 → ∀ v0 i, i ≤ l.length → AC Tryz.prog g [.ptr 0 v0 0 0] (rd v0 l i 40 []) (RdK v0 l 40 encRr (x i))) : AC Tryz.prog 46 [.list 5 (l.map encK), .v (.int .i64 (p)), .v (.func (.func g) #[] #[])] ([]) (fun r σ' => r = .ret (encP encRr (readP tr0 l p x)) ∧ σ'.keep (fun _ => false) = []) := by
 refine acd_enter 46 Tryz.func46 rfl rfl (by simp) ?_
 refine awd_seq ?_
 refine awd_region_l ?_
 refine al_al 6 info46 fun ver6 => ?_
 refine al_gs ?_
 refine al_al 8 info40 fun ver8 => ?_
 refine al_nil ?_
 refine awd_seq ?_
 refine awd_seq ?_
 refine awd_region_l ?_
 refine al_mv ?_
 refine al_callp into53 rfl rfl rfl (c_Text l hl (by omega) _) (by simp) ?_
 refine al_mv ?_
 refine al_xt ?_
 refine al_xt ?_
 refine al_gs ?_
 refine al_gs ?_
 refine al_nil ?_
 refine awd_seq ?_
 refine awd_region_l ?_
 refine al_mv ?_
 refine al_o (op_neq rfl rfl) ?_
 refine al_mv ?_
 apply al_or 3 20 23 rfl
 ·intro h1; have gh1 := h1
  simp only [nrm] at h1
  refine tk_mv ?_
  refine al_t (op_lss rfl rfl) ?_
  refine al_pk ?_
  exact al_nk gh1
 ·intro h1; have gh1 := h1
  simp only [nrm] at h1
  iterate 2 refine al_ps ?_
  refine al_pk ?_
  exact al_nk gh1
 refine al_mv ?_
 apply al_or 5 24 29 rfl
 ·intro h2; have gh2 := h2
  simp only [nrm] at h2
  refine tk_mv ?_
  refine tk_mv ?_
  refine al_t (op_len_map u22 rfl) ?_
  refine al_t (op_gtr rfl rfl) ?_
  refine al_pk ?_
  exact al_nk gh2
 ·intro h2; have gh2 := h2
  simp only [nrm] at h2
  iterate 4 refine al_ps ?_
  refine al_pk ?_
  exact al_nk gh2
 refine al_nil ?_
 refine awd_cond rfl (fun h3 => ?_) (fun h3 => ?_)
 ·have gh3 := h3
  simp only [nrm] at h3
  refine awd_seq ?_
  refine awd_region_l ?_
  refine al_ld u46 info46 ?_
  refine al_o (op_bs u40 info40 place40) ?_
  refine al_sp info46 ?_
  refine al_gs ?_
  refine al_sp info40 ?_
  refine al_nil ?_
  refine awd_ret ?_
  refine ⟨_, res_head (b := encRr tr0) (res_cell_tmp_cell rfl u46 info46 u40 info40 rfl rfl rfl rfl rfl rfl rfl rfl rfl rfl rfl rfl) (.agg _ _ (by repeat (first | exact reL_nil | refine reL_cons (.same _) ?_ | refine reL_cons (.vnil _) ?_))) rfl rfl, ?_⟩
  exact ⟨by rw [readP_arg gh3] <;> rfl, rfl⟩
 have gh3 := h3
 simp only [nrm] at h3
 refine awd_skip ?_
 refine awd_seq ?_
 have hc : (((textP l).2 != 0 || decide (p < 0)) || decide (p > (l.length : Int))) = false := gh3
 have htx : (textP l).2 = 0 := by have := hc; simp at this; exact this.1.1
 obtain ⟨i, rfl⟩ := Int.eq_ofNat_of_zero_le (show 0 ≤ p by have := hc; simp at this; omega)
 have hil : i ≤ l.length := by have := hc; simp at this; omega
 refine awd_region ?_
 refine ald_defer rfl rfl ?_
 refine ald_nil ?_
 refine awd_seq ?_
 refine awd_region_l ?_
 refine al_mv ?_
 refine al_mv ?_
 refine al_o (op_bs u40 info40 place40) ?_
 refine al_o (op_bs u105 info105 place105) ?_
 refine al_bx 36 fun ver36 => ?_
 refine al_gs ?_
 refine al_nil ?_
 refine awd_seq ?_
 refine awd_region_l ?_
 refine al_mv ?_
 refine al_mv ?_
 refine al_call hin rfl rfl rfl (rd_call 36 (by decide) (fun _ => rfl) (hw htx ver36 i (by omega)) rfl (by rfl)) (by simp) ?_; rintro _ _ (⟨g39, i39, d39, hx39, rfl, rfl⟩ | ⟨a39, j39, hx39, rfl, rfl⟩)
 ·apply callk_pan; apply thenD_pan
  refine retd_pan2 into77 (e_catch_p g39 ver6 ver8 ver36 (.row 5 [zeroR]) (.row 7 [rdr l i39 d39])) ?_ ?_ ?_
  · rfl
  · rfl
  rintro _ ⟨v39, rfl⟩
  refine ⟨_, res_head (b := encRr tr0) (res_cell_tmp_cell rfl u46 info46 u40 info40 rfl rfl rfl rfl rfl rfl rfl rfl rfl rfl rfl rfl) (.agg _ _ (by repeat (first | exact reL_nil | refine reL_cons (.same _) ?_ | refine reL_cons (.vnil _) ?_))) rfl rfl, ?_⟩
  exact ⟨by rw [readP_bad hc hx39] <;> rfl, rfl⟩
 refine al_al 12 info46 fun ver12 => ?_
 refine al_sp info46 ?_
 refine al_nil ?_
 refine awd_seq ?_
 refine awd_plan [0, 1, 2, 3, 4, 5, 6, 7, 8] (Checked.mixed Tryz.checked) (by kernel_rfl) ?_
 refine afl_float rfl rfl (opk_of (op_load_ptr u46 info46 rfl rfl rfl rfl)) (by simp) ?_
 refine afl_float rfl rfl (opk_of (op_move rfl)) (by simp) ?_
 refine afl_float rfl rfl (opk_of (op_nilCheck_ptr rfl rfl)) (by simp) ?_
 refine afl_float rfl rfl (opk_of (op_field_ptr u105 rfl info3 (by decide) rfl rfl rfl)) (by simp) ?_
 refine afl_float rfl rfl (opk_of (op_load_ptr u3 info3 rfl rfl rfl rfl)) (by simp) ?_
 refine afl_float rfl rfl (opk_of (op_load_ptr u40 info40 rfl rfl rfl rfl)) (by simp) ?_
 (refine afl_eff rfl rfl (by kernel_rfl) (op_sp info46) (by simp) ?_ ?_)
 ·
  refine loose_k rfl (opk_of (op_load_ptr u40 info40 rfl rfl rfl rfl)) ?_
  refine loose_k rfl (opk_of (op_load_ptr u3 info3 rfl rfl rfl rfl)) ?_
  refine loose_k rfl (opk_of (op_field_ptr u105 rfl info3 (by decide) rfl rfl rfl)) ?_
  refine loose_k rfl (opk_of (op_nilCheck_ptr rfl rfl)) ?_
  refine loose_k rfl (opk_of (op_move rfl)) ?_
  refine loose_anc 0 rfl (by kernel_rfl) ?_
  exact loose_nil
 refine afl_float rfl rfl (opk_of (op_assign rfl)) (by simp) ?_
 (refine afl_eff rfl rfl (by kernel_rfl) (op_sp info40) (by simp) ?_ ?_)
 ·
  refine loose_anc 7 rfl (by kernel_rfl) ?_
  refine loose_fix rfl ?_
  refine loose_anc 5 rfl (by kernel_rfl) ?_
  refine loose_anc 4 rfl (by kernel_rfl) ?_
  refine loose_anc 3 rfl (by kernel_rfl) ?_
  refine loose_anc 2 rfl (by kernel_rfl) ?_
  refine loose_anc 1 rfl (by kernel_rfl) ?_
  refine loose_anc 0 rfl (by kernel_rfl) ?_
  exact loose_nil
 refine afl_end ?_
 refine awd_ret ?_
 refine retd_ret into77 (e_catch_r _ ver8) ?_
 rintro _ rfl
 refine ⟨_, res_cell_tmp_cell rfl u46 info46 u40 info40 rfl rfl rfl rfl rfl rfl rfl rfl rfl rfl rfl rfl, ?_⟩
 exact ⟨by rw [readP_ok hc hx39] <;> rfl, rfl⟩
theorem e_readTP (g : FuncId) (hin : Into Tryz.prog g) (l : List Tk) (hl : OKTs l) (hn : l.length ≤ 1000000000) (p : Int) (x : Nat → Rd Tr) (hw : (textP l).2 = 0 → ∀ v0 i, i ≤ l.length → AC Tryz.prog g [.ptr 0 v0 0 0] (rd v0 l i 40 []) (RdK v0 l 40 encRr (x i))) : ACp Tryz.prog 46 [.list 5 (l.map encK), .v (.int .i64 (p)), .v (.func (.func g) #[] #[])] (encP encRr (readP tr0 l p x)) :=
  acp_of rfl (ac_mono (ac_keep (fun _ => false) (e_readT g hin l hl hn p x hw)) (by rintro x σ1 ⟨σ2, ⟨rfl, e⟩, rfl⟩; exact ⟨rfl, e⟩))
end Go.Proofs.YtcgdlhkiecommaaGreatDoor
/- Printed walks (gen.py, lexer_ann.py): part 409. -/




namespace Go.Proofs.YtcgdlhkiecommaaGreatDoor
open Go
theorem q_Parse (l : List Tk) (hl : OKTs l) (hn : l.length ≤ 1000000000) (p : Int) : AC Tryz.prog 13 [.list 5 (l.map encK), .v (.int .i64 (p))] ([]) (fun r σ' => r = .ret (encP encX (readP ex0 l p (fun i => rowD l 40 4 i))) ∧ σ'.keep (fun _ => false) = []) := by
 refine ace 13 Tryz.func13 ?_
 refine aw_sr ?_
 refine al_al 4 info37 fun ver4 => ?_
 refine al_gs ?_
 refine al_al 6 info40 fun ver6 => ?_
 refine al_sr ?_
 refine al_mv ?_
 refine al_mv ?_
 refine al_callp into39 rfl rfl rfl (e_readEP 40 into40 l hl hn p (fun i => rowD l 40 4 i) (fun _ => (e_all l hl hn 40 (by decide)).2) _) (by simp) ?_
 refine al_xt ?_
 refine al_xt ?_
 refine al_xt ?_
 refine al_sp info37 ?_
 refine al_gs ?_
 refine al_sp info40 ?_
 refine al_nil ?_
 refine aw_ret ?_
 refine ⟨_, res_cell_tmp_cell rfl u37 info37 u40 info40 rfl rfl rfl rfl rfl rfl rfl rfl rfl rfl rfl rfl, ?_⟩
 exact ⟨rfl, rfl⟩
theorem c_Parse (l : List Tk) (hl : OKTs l) (hn : l.length ≤ 1000000000) (p : Int) : ACp Tryz.prog 13 [.list 5 (l.map encK), .v (.int .i64 (p))] (encP encX (readP ex0 l p (fun i => rowD l 40 4 i))) :=
  acp_of rfl (ac_mono (ac_keep (fun _ => false) (q_Parse l hl hn p)) (by rintro x σ1 ⟨σ2, ⟨rfl, e⟩, rfl⟩; exact ⟨rfl, e⟩))
theorem q_Target (l : List Tk) (hl : OKTs l) (hn : l.length ≤ 1000000000) (p : Int) : AC Tryz.prog 16 [.list 5 (l.map encK), .v (.int .i64 (p))] ([]) (fun r σ' => r = .ret (encP encX (readP ex0 l p (fun i => targetP l i))) ∧ σ'.keep (fun _ => false) = []) := by
 refine ace 13 Tryz.func16 ?_
 refine aw_sr ?_
 refine al_al 4 info37 fun ver4 => ?_
 refine al_gs ?_
 refine al_al 6 info40 fun ver6 => ?_
 refine al_sr ?_
 refine al_mv ?_
 refine al_mv ?_
 refine al_callp into39 rfl rfl rfl (e_readEP 44 into44 l hl hn p (fun i => targetP l i) (fun _ v0 i hi => e_target v0 l hl hn i hi) _) (by simp) ?_
 refine al_xt ?_
 refine al_xt ?_
 refine al_xt ?_
 refine al_sp info37 ?_
 refine al_gs ?_
 refine al_sp info40 ?_
 refine al_nil ?_
 refine aw_ret ?_
 refine ⟨_, res_cell_tmp_cell rfl u37 info37 u40 info40 rfl rfl rfl rfl rfl rfl rfl rfl rfl rfl rfl rfl, ?_⟩
 exact ⟨rfl, rfl⟩
theorem c_Target (l : List Tk) (hl : OKTs l) (hn : l.length ≤ 1000000000) (p : Int) : ACp Tryz.prog 16 [.list 5 (l.map encK), .v (.int .i64 (p))] (encP encX (readP ex0 l p (fun i => targetP l i))) :=
  acp_of rfl (ac_mono (ac_keep (fun _ => false) (q_Target l hl hn p)) (by rintro x σ1 ⟨σ2, ⟨rfl, e⟩, rfl⟩; exact ⟨rfl, e⟩))
theorem q_Type (l : List Tk) (hl : OKTs l) (hn : l.length ≤ 1000000000) (p : Int) : AC Tryz.prog 18 [.list 5 (l.map encK), .v (.int .i64 (p))] ([]) (fun r σ' => r = .ret (encP encRr (readP tr0 l p (fun i => typeP l i))) ∧ σ'.keep (fun _ => false) = []) := by
 refine ace 13 Tryz.func18 ?_
 refine aw_sr ?_
 refine al_al 4 info46 fun ver4 => ?_
 refine al_gs ?_
 refine al_al 6 info40 fun ver6 => ?_
 refine al_sr ?_
 refine al_mv ?_
 refine al_mv ?_
 refine al_callp into46 rfl rfl rfl (e_readTP 47 into47 l hl hn p (fun i => typeP l i) (fun h v0 i hi => e_type v0 l hl hn (name_array h) i hi) _) (by simp) ?_
 refine al_xt ?_
 refine al_xt ?_
 refine al_xt ?_
 refine al_sp info46 ?_
 refine al_gs ?_
 refine al_sp info40 ?_
 refine al_nil ?_
 refine aw_ret ?_
 refine ⟨_, res_cell_tmp_cell rfl u46 info46 u40 info40 rfl rfl rfl rfl rfl rfl rfl rfl rfl rfl rfl rfl, ?_⟩
 exact ⟨rfl, rfl⟩
theorem c_Type (l : List Tk) (hl : OKTs l) (hn : l.length ≤ 1000000000) (p : Int) : ACp Tryz.prog 18 [.list 5 (l.map encK), .v (.int .i64 (p))] (encP encRr (readP tr0 l p (fun i => typeP l i))) :=
  acp_of rfl (ac_mono (ac_keep (fun _ => false) (q_Type l hl hn p)) (by rintro x σ1 ⟨σ2, ⟨rfl, e⟩, rfl⟩; exact ⟨rfl, e⟩))
end Go.Proofs.YtcgdlhkiecommaaGreatDoor
/- Printed walks (gen.py, lexer_ann.py): part 411. -/





namespace Go.Proofs.YtcgdlhkiecommaaGreatDoor
open Go
theorem e_strength (s : Bs) : ACp Tryz.prog 165 [.v (.string (str (s)))] (.v (.int .i64 (strengthI s))) := by
 refine acp_of rfl ?_
 refine ace 21 Tryz.func165 ?_
 refine aw_sr ?_
 refine al_gs ?_
 refine al_nil ?_
 refine aw_seq ?_
 refine aw_sr ?_
 refine al_o (op_ol encBs (levelL 0) u32 info9) ?_
 refine al_o (op_ol encBs (levelL 1) u32 info9) ?_
 refine al_o (op_ol encBs (levelL 2) u32 info9) ?_
 refine al_o (op_ol encBs (levelL 3) u32 info9) ?_
 refine al_o (op_ol encSL levelsL u177 info32) ?_
 refine al_lm u177 ?_
 refine al_mv ?_
 refine al_nil ?_
 refine aw_block ?_
 refine aw_forT (ι := Nat) [2, 11] [] (fun i => 4 - i) (fun i => i ≤ 4 ∧ ∀ k, k < i → (levelL k).contains s = false) (fun i => ([(11, .v (.int .i64 ((i : Nat) : Int)))] : Env)) (fun i s => s) (0) ?_ ?_ ?_ (fun i hinv => ?_)
 ·exact ⟨by omega, fun k hk => absurd hk (Nat.not_lt_zero k)⟩
 ·refine sub_1 ?_
  all_goals (first | rfl | simp)
 ·rfl
 have hi := hinv.1
 have hlen : (levelsL.length : Int) = 4 := rfl
 refine aw_sr ?_
 refine al_ls ?_
 refine al_nil ?_
 refine aw_seq ?_
 refine aw_cond rfl (fun h1 => ?_) (fun h1 => ?_)
 ·have gh1 := h1
  simp only [nrm] at h1
  refine aw_skip ?_
  refine aw_seq ?_
  refine aw_block ?_
  refine aw_sr ?_
  refine al_mv ?_
  refine al_o (op_index_map default u177 info32 rfl rfl rfl (by first | (with_reducible exact Int.toNat_natCast _) | rfl) (by omega) (by show _ < 4; omega)) ?_
  refine al_lr u32 info32 ?_
  refine al_gs ?_
  refine al_gs ?_
  refine al_sr ?_
  refine al_mv ?_
  refine al_mv ?_
  refine al_callp into61 rfl rfl rfl (q_member (levelL i) s (level_len i) _) (by simp) ?_
  refine al_nil ?_
  refine aw_cond rfl (fun gh2 => ?_) (fun gh2 => ?_)
  ·refine aw_sr ?_
   refine al_mv ?_
   refine al_gs ?_
   refine al_nil ?_
   refine fz1 (t := 2) ?_
   refine aw_ret ?_
   refine ⟨_, res_1 rfl rfl, ?_, rfl⟩
   rw [str_found i (by omega) hinv.2 gh2]
  refine aw_skip ?_
  refine aw_region ?_
  refine al_ad ?_
  refine al_mv ?_
  refine al_nil ?_
  refine ⟨i + 1, ?_, ?_, ?_, ?_, ?_⟩
  ·omega
  ·exact ⟨by omega, str_more hinv.2 gh2⟩
  ·refine sub_1 ?_
   all_goals (first | rfl | simp)
  ·exact sbl
  ·rfl
 have gh1 := h1
 simp only [nrm] at h1
 refine aw_exit ?_
 refine aw_sr ?_
 refine al_gs ?_
 refine al_nil ?_
 refine fz1 (t := 2) ?_
 refine aw_ret ?_
 refine ⟨_, res_1 rfl rfl, ?_, rfl⟩
 rw [str_none (fun k hk => hinv.2 k (by omega))]
theorem e_binds (e : Ex) (hs : e.name.length ≤ 1000000000) : ACp Tryz.prog 144 [.agg (cellsE (e))] (.v (.int .i64 (bindsP e))) := by
 refine acp_of rfl ?_
 refine ace 20 Tryz.func144 ?_
 refine aw_sr ?_
 refine al_bx 1 fun ver1 => ?_
 refine al_gs ?_
 refine al_nil ?_
 refine aw_seq ?_
 refine aw_block ?_
 refine aw_sr ?_
 refine al_fp u37 info25 ?_
 refine al_ld u25 info25 ?_
 refine al_o (op_neq rfl rfl) ?_
 refine al_mv ?_
 apply al_or 4 7 11 rfl
 ·intro h1; have gh1 := h1
  simp only [nrm] at h1
  refine tk_fp u37 info9 ?_
  refine tk_ld u9 info9 ?_
  refine al_callp_take into66 rfl rfl rfl rfl rfl rfl ((c_isName _ (by first | assumption | omega | (simp; done) | (simp; omega) | decide)) _) (by simp) ?_
  refine al_pk ?_
  exact al_nk gh1
 ·intro h1; have gh1 := h1
  simp only [nrm] at h1
  iterate 3 refine al_ps ?_
  refine al_pk ?_
  exact al_nk gh1
 refine al_gs ?_
 refine al_nil ?_
 refine aw_cond rfl (fun h2 => ?_) (fun h2 => ?_)
 ·have gh2 := h2
  simp only [nrm] at h2
  refine aw_sr ?_
  refine al_gs ?_
  refine al_nil ?_
  refine fz1 (t := 2) ?_
  refine aw_ret ?_
  refine ⟨_, res_1 rfl rfl, ?_, rfl⟩
  rw [bindsP, gh2]; rfl
 have gh2 := h2
 simp only [nrm] at h2
 refine aw_sr ?_
 refine al_fp u37 info31 ?_
 refine al_ld u31 info31 ?_
 refine al_lm u31 ?_
 refine al_eq ?_
 refine al_gs ?_
 refine al_nil ?_
 refine aw_cond rfl (fun h3 => ?_) (fun h3 => ?_)
 ·have gh3 := h3
  simp only [nrm] at h3
  refine aw_sr ?_
  refine al_gs ?_
  refine al_nil ?_
  refine fz1 (t := 2) ?_
  refine aw_ret ?_
  refine ⟨_, res_1 rfl rfl, ?_, rfl⟩
  rw [bindsP, gh2, gh3]; rfl
 have gh3 := h3
 simp only [nrm] at h3
 refine aw_skip ?_
 refine aw_sr ?_
 refine al_fp u37 info9 ?_
 refine al_ld u9 info9 ?_
 refine al_callp into165 rfl rfl rfl ((e_strength _) _) (by simp) ?_
 refine al_gs ?_
 refine al_nil ?_
 refine fz1 (t := 2) ?_
 refine aw_ret ?_
 refine ⟨_, res_1 rfl rfl, ?_, rfl⟩
 rw [bindsP, gh2, gh3]; rfl
theorem e_none (v : Va) : ACp Tryz.prog 162 [.agg (cellsV v)] (.v (.bool (noneV v))) := by
 refine acp_of rfl ?_
 refine ace 23 Tryz.func162 ?_
 refine aw_sr ?_
 refine al_bx 1 fun ver1 => ?_
 refine al_gs ?_
 refine al_sr ?_
 refine al_fp u30 info27 ?_
 refine al_ld u27 info27 ?_
 refine al_eq ?_
 refine al_mv ?_
 apply al_and 4 6 10 rfl
 ·intro h1; have gh1 := h1
  simp only [nrm] at h1
  refine tk_fp u30 info3 ?_
  refine tk_ld u3 info3 ?_
  refine tk_eq ?_
  refine al_pk ?_
  exact al_nk gh1
 ·intro h1; have gh1 := h1
  simp only [nrm] at h1
  iterate 3 refine al_ps ?_
  refine al_pk ?_
  exact al_nk gh1
 refine al_mv ?_
 apply al_and 5 11 16 rfl
 ·intro h2; have gh2 := h2
  simp only [nrm] at h2
  refine tk_fp u30 info26 ?_
  refine tk_ld u26 info26 ?_
  refine al_t (op_len_map u26 rfl) ?_
  refine tk_eq ?_
  refine al_pk ?_
  exact al_nk gh2
 ·intro h2; have gh2 := h2
  iterate 4 refine al_ps ?_
  refine al_pk ?_
  exact al_nk gh2
 refine al_mv ?_
 apply al_and 5 17 22 rfl
 ·intro h3; have gh3 := h3
  simp only [nrm] at h3
  refine tk_fp u30 info28 ?_
  refine tk_ld u28 info28 ?_
  refine al_t (op_len_map u28 rfl) ?_
  refine tk_eq ?_
  refine al_pk ?_
  exact al_nk gh3
 ·intro h3; have gh3 := h3
  iterate 4 refine al_ps ?_
  refine al_pk ?_
  exact al_nk gh3
 refine al_gs ?_
 refine al_nil ?_
 refine fz1 (t := 2) ?_
 refine aw_ret ?_
 refine ⟨_, res_1 rfl rfl, ?_, rfl⟩
 rfl
theorem e_untyped (t : Ty) : ACp Tryz.prog 163 [.agg (cellsT t)] (.v (.bool (untyped t))) := by
 refine acp_of rfl ?_
 refine ace 28 Tryz.func163 ?_
 refine aw_sr ?_
 refine al_bx 1 fun ver1 => ?_
 refine al_gs ?_
 refine al_sr ?_
 refine al_fp u35 info27 ?_
 refine al_ld u27 info27 ?_
 refine al_eq ?_
 refine al_mv ?_
 apply al_and 4 6 10 rfl
 ·intro h1; have gh1 := h1
  simp only [nrm] at h1
  refine tk_fp u35 info3 ?_
  refine tk_ld u3 info3 ?_
  refine tk_eq ?_
  refine al_pk ?_
  exact al_nk gh1
 ·intro h1; have gh1 := h1
  simp only [nrm] at h1
  iterate 3 refine al_ps ?_
  refine al_pk ?_
  exact al_nk gh1
 refine al_mv ?_
 apply al_and 4 11 15 rfl
 ·intro h2; have gh2 := h2
  simp only [nrm] at h2
  refine tk_fp u35 info9 ?_
  refine tk_ld u9 info9 ?_
  refine al_t (op_seql_str rfl rfl) ?_
  refine al_pk ?_
  exact al_nk gh2
 ·intro h2; have gh2 := h2
  iterate 3 refine al_ps ?_
  refine al_pk ?_
  exact al_nk gh2
 refine al_mv ?_
 apply al_and 5 16 21 rfl
 ·intro h3; have gh3 := h3
  simp only [nrm] at h3
  refine tk_fp u35 info32 ?_
  refine tk_ld u32 info32 ?_
  refine al_t (op_len_map u32 rfl) ?_
  refine tk_eq ?_
  refine al_pk ?_
  exact al_nk gh3
 ·intro h3; have gh3 := h3
  iterate 4 refine al_ps ?_
  refine al_pk ?_
  exact al_nk gh3
 refine al_mv ?_
 apply al_and 5 22 27 rfl
 ·intro h4; have gh4 := h4
  simp only [nrm] at h4
  refine tk_fp u35 info33 ?_
  refine tk_ld u33 info33 ?_
  refine al_t (op_len_map u33 rfl) ?_
  refine tk_eq ?_
  refine al_pk ?_
  exact al_nk gh4
 ·intro h4; have gh4 := h4
  iterate 4 refine al_ps ?_
  refine al_pk ?_
  exact al_nk gh4
 refine al_gs ?_
 refine al_nil ?_
 refine fz1 (t := 2) ?_
 refine aw_ret ?_
 refine ⟨_, res_1 rfl rfl, ?_, rfl⟩
 rfl
theorem e_isBit (x : Int) : ACp Tryz.prog 193 [.v (.int .u8 (x))] (.v (.bool (decide (x ≤ 3)))) := by
 refine acp_of rfl ?_
 refine ace 5 Tryz.func193 ?_
 refine aw_sr ?_
 refine al_gs ?_
 refine al_sr ?_
 refine al_mv ?_
 refine al_o (op_leq rfl rfl) ?_
 refine al_gs ?_
 refine al_nil ?_
 refine fz1 (t := 2) ?_
 refine aw_ret ?_
 refine ⟨_, res_1 rfl rfl, ?_, rfl⟩
 rfl
theorem e_is1 (x : Int) : ACp Tryz.prog 192 [.v (.int .u8 (x))] (.v (.bool (!decide (x ≤ 3)))) := by
 refine acp_of rfl ?_
 refine ace 6 Tryz.func192 ?_
 refine aw_sr ?_
 refine al_gs ?_
 refine al_sr ?_
 refine al_mv ?_
 refine al_callp into193 rfl rfl rfl ((e_isBit _) _) (by simp) ?_
 refine al_o (op_not rfl) ?_
 refine al_gs ?_
 refine al_nil ?_
 refine fz1 (t := 2) ?_
 refine aw_ret ?_
 refine ⟨_, res_1 rfl rfl, ?_, rfl⟩
 rfl
theorem e_idxB (b : List Int) (hb : b.length ≤ 1000000000) : ACp Tryz.prog 205 [.list 1 (b.map encB), .v (.func (.func 192) #[] #[])] (.v (.int .i64 ((if b.any (fun x => !(decide (x ≤ 3))) then ((b.findIdx (fun x => !(decide (x ≤ 3))) : Nat) : Int) else -1)))) := by
 refine acp_of rfl ?_
 refine ace 19 Tryz.func205 ?_
 refine aw_sr ?_
 refine al_gs ?_
 refine al_nil ?_
 refine aw_seq ?_
 refine aw_sr ?_
 refine al_mv ?_
 refine al_lm u26 ?_
 refine al_mv ?_
 refine al_nil ?_
 refine aw_block ?_
 refine aw_forT (ι := Nat) [4, 8] [] (fun i => b.length - i) (fun i => i ≤ b.length ∧ ∀ k, k < i → (fun x => !(decide (x ≤ 3))) (b.getD k default) = false) (fun i => ([(8, .v (.int .i64 ((i : Nat) : Int)))] : Env)) (fun i s => s) (0) ?_ ?_ ?_ (fun i hinv => ?_)
 ·exact ⟨Nat.zero_le _, fun k hk => absurd hk (Nat.not_lt_zero k)⟩
 ·refine sub_1 ?_
  all_goals (first | rfl | simp)
 ·rfl
 have hi := hinv.1
 refine aw_sr ?_
 refine al_ls ?_
 refine al_nil ?_
 refine aw_seq ?_
 refine aw_cond rfl (fun h1 => ?_) (fun h1 => ?_)
 ·have gh1 := h1
  simp only [nrm] at h1
  refine aw_skip ?_
  refine aw_seq ?_
  refine aw_block ?_
  refine aw_sr ?_
  refine al_mv ?_
  refine al_gs ?_
  refine al_sr ?_
  refine al_mv ?_
  refine al_mv ?_
  refine al_mv ?_
  refine al_o (op_im u26 info97) ?_
  refine al_lr u97 info97 ?_
  refine al_callp into192 rfl rfl rfl ((e_is1 _) _) (by simp) ?_
  refine al_nil ?_
  refine aw_cond rfl (fun h2 => ?_) (fun h2 => ?_)
  ·have gh2 := h2
   simp only [nrm] at h2
   refine aw_sr ?_
   refine al_mv ?_
   refine al_gs ?_
   refine al_nil ?_
   refine fz1 (t := 4) ?_
   refine aw_ret ?_
   refine ⟨_, res_1 rfl rfl, ?_, rfl⟩
   rw [if_pos (any_found i (by omega) gh2), findIdx_at i (by omega) hinv.2 gh2]
  have gh2 := h2
  simp only [nrm] at h2
  refine aw_skip ?_
  refine aw_region ?_
  refine al_ad ?_
  refine al_mv ?_
  refine al_nil ?_
  refine ⟨i + 1, ?_, ?_, ?_, ?_, ?_⟩
  ·omega
  ·exact ⟨by omega, idx_more (p := fun k => (fun x => !(decide (x ≤ 3))) (b.getD k default)) hinv.2 gh2⟩
  ·refine sub_1 ?_
   all_goals (first | rfl | simp)
  ·exact sbl
  ·rfl
 have gh1 := h1
 simp only [nrm] at h1
 refine aw_exit ?_
 refine aw_sr ?_
 refine al_gs ?_
 refine al_nil ?_
 refine fz1 (t := 4) ?_
 refine aw_ret ?_
 refine ⟨_, res_1 rfl rfl, ?_, rfl⟩
 rw [if_neg (by rw [any_none (p := fun x => !(decide (x ≤ 3))) (fun k hk => hinv.2 k (by omega))]; exact Bool.false_ne_true)]
theorem e_conB (b : List Int) (hb : b.length ≤ 1000000000) : ACp Tryz.prog 191 [.list 1 (b.map encB), .v (.func (.func 192) #[] #[])] (.v (.bool (b.any (fun x => !(decide (x ≤ 3)))))) := by
 refine acp_of rfl ?_
 refine ace 9 Tryz.func191 ?_
 refine aw_sr ?_
 refine al_gs ?_
 refine al_sr ?_
 refine al_mv ?_
 refine al_mv ?_
 refine al_callp into205 rfl rfl rfl ((e_idxB _ (by first | assumption | omega | (simp; done) | (simp; omega) | decide)) _) (by simp) ?_
 refine al_o (op_geq rfl rfl) ?_
 refine al_gs ?_
 refine al_nil ?_
 refine fz1 (t := 4) ?_
 refine aw_ret ?_
 refine ⟨_, res_1 rfl rfl, ?_, rfl⟩
 cases hany : b.any (fun x => !(decide (x ≤ 3))) <;> simp <;> omega
theorem e_isBits (b : List Int) (hb : b.length ≤ 1000000000) : ACp Tryz.prog 164 [.list 1 (b.map encB)] (.v (.bool (isBits b))) := by
 refine acp_of rfl ?_
 refine ace 16 Tryz.func164 ?_
 refine aw_sr ?_
 refine al_gs ?_
 refine al_sr ?_
 refine al_mv ?_
 refine al_lm u26 ?_
 refine al_o (op_geq rfl rfl) ?_
 refine al_mv ?_
 apply al_and 4 6 10 rfl
 ·intro h1; have gh1 := h1
  simp only [nrm] at h1
  refine tk_mv ?_
  refine al_t (op_len_map u26 rfl) ?_
  refine al_t (op_leq rfl rfl) ?_
  refine al_pk ?_
  exact al_nk gh1
 ·intro h1; have gh1 := h1
  simp only [nrm] at h1
  iterate 3 refine al_ps ?_
  refine al_pk ?_
  exact al_nk gh1
 refine al_mv ?_
 apply al_and 4 11 15 rfl
 ·intro h2; have gh2 := h2
  simp only [nrm] at h2
  refine tk_mv ?_
  refine al_callp_take into191 rfl rfl rfl rfl rfl rfl ((e_conB _ (by first | assumption | omega | (simp; done) | (simp; omega) | decide)) _) (by simp) ?_
  refine al_t (op_not rfl) ?_
  refine al_pk ?_
  exact al_nk gh2
 ·intro h2; have gh2 := h2
  simp only [nrm] at h2
  iterate 3 refine al_ps ?_
  refine al_pk ?_
  exact al_nk gh2
 refine al_gs ?_
 refine al_nil ?_
 refine fz1 (t := 2) ?_
 refine aw_ret ?_
 refine ⟨_, res_1 rfl rfl, ?_, rfl⟩
 rfl
theorem e_shape (e : Ex) (hs : e.name.length ≤ 1000000000) (hb : e.bits.length ≤ 1000000000) : ACp Tryz.prog 106 [.agg (cellsE (e))] (.v (.bool (shapeP e))) := by
 refine acp_of rfl ?_
 refine ace 175 Tryz.func106 ?_
 refine aw_sr ?_
 refine al_bx 1 fun ver1 => ?_
 refine al_gs ?_
 refine al_nil ?_
 refine aw_seq ?_
 refine aw_sr ?_
 refine al_fp u37 info30 ?_
 refine al_ld u30 info30 ?_
 refine al_callp into162 rfl rfl rfl ((e_none _) _) (by simp) ?_
 refine al_o (op_not rfl) ?_
 refine al_mv ?_
 apply al_or 5 11 16 rfl
 ·intro h1; have gh1 := h1
  simp only [nrm] at h1
  refine tk_fp u37 info35 ?_
  refine tk_ld u35 info35 ?_
  refine al_callp_take into163 rfl rfl rfl rfl rfl rfl ((e_untyped _) _) (by simp) ?_
  refine al_t (op_not rfl) ?_
  refine al_pk ?_
  exact al_nk gh1
 ·intro h1; have gh1 := h1
  simp only [nrm] at h1
  iterate 4 refine al_ps ?_
  refine al_pk ?_
  exact al_nk gh1
 refine al_mv ?_
 apply al_or 9 17 26 rfl
 ·intro h2; have gh2 := h2
  simp only [nrm] at h2
  refine tk_fp u37 info25 ?_
  refine tk_ld u25 info25 ?_
  refine al_t (op_neq rfl rfl) ?_
  refine tk_mv ?_
  apply al_and 4 21 25 rfl
  ·intro h3; have gh3 := h3
   simp only [nrm] at h3
   refine tk_fp u37 info3 ?_
   refine tk_ld u3 info3 ?_
   refine al_t (op_neq rfl rfl) ?_
   refine tk_pk ?_
   exact al_nk gh3
  ·intro h3; have gh3 := h3
   simp only [nrm] at h3
   iterate 3 refine al_ps ?_
   refine tk_pk ?_
   exact al_nk gh3
  refine al_pk ?_
  exact al_nk gh2
 ·intro h2; have gh2 := h2
  simp only [nrm] at h2
  iterate 4 refine al_ps ?_
  refine al_pu ?_
  refine al_pu ?_
  refine al_pu ?_
  refine al_ps ?_
  refine al_pk ?_
  exact al_nk gh2
 refine al_nil ?_
 refine aw_cond rfl (fun h4 => ?_) (fun h4 => ?_)
 ·have gh4 := h4
  simp only [nrm] at h4
  refine aw_sr ?_
  refine al_gs ?_
  refine al_nil ?_
  refine fz1 (t := 2) ?_
  refine aw_ret ?_
  refine ⟨_, res_1 rfl rfl, ?_, rfl⟩
  rw [shapeP, gh4]; rfl
 have gh4 := h4
 simp only [nrm] at h4
 refine aw_skip ?_
 refine aw_seq ?_
 refine aw_any (Checked.mixed Tryz.checked) ?_
 apply aany_seg (p := 0) (q := 12) (by kernel_rfl) rfl (by decide)
 ·
  apply ql_plain rfl (op_field_ptr u37 rfl info9 (by decide) rfl rfl rfl)
  apply ql_plain rfl (op_load_ptr u9 info9 rfl rfl rfl rfl)
  apply ql_plain rfl (op_sneq_str rfl rfl)
  apply ql_plain rfl (op_field_ptr u37 rfl info26 (by decide) rfl rfl rfl)
  apply ql_plain rfl (op_load_ptr u26 info26 rfl rfl rfl rfl)
  apply ql_plain rfl (op_len_map u26 rfl)
  apply ql_plain rfl (op_field_ptr u37 rfl info31 (by decide) rfl rfl rfl)
  apply ql_plain rfl (op_load_ptr u31 info31 rfl rfl rfl rfl)
  apply ql_plain rfl (op_len_map u31 rfl)
  apply ql_plain rfl (op_assign rfl)
  apply ql_plain rfl (op_assign rfl)
  apply ql_plain rfl (op_assign rfl)
  exact ql_nil
 ·simp
 refine aany_end rfl (by kernel_rfl) ?_
 refine aw_seq ?_
 refine aw_sr ?_
 refine al_fp u37 info25 ?_
 refine al_ld u25 info25 ?_
 refine al_nil ?_
 refine aw_block ?_
 refine aw_sr ?_
 refine al_eq ?_
 refine al_gs ?_
 refine al_nil ?_
 refine aw_cond rfl (fun h5 => ?_) (fun h5 => ?_)
 ·have gh5 := h5
  simp only [nrm] at h5
  refine aw_sr ?_
  refine al_mv ?_
  refine al_o (op_not rfl) ?_
  refine al_mv ?_
  apply al_and 3 42 45 rfl
  ·intro h6; have gh6 := h6
   simp only [nrm] at h6
   refine tk_mv ?_
   refine tk_eq ?_
   refine al_pk ?_
   exact al_nk gh6
  ·intro h6; have gh6 := h6
   simp only [nrm] at h6
   iterate 2 refine al_ps ?_
   refine al_pk ?_
   exact al_nk gh6
  refine al_mv ?_
  apply al_and 3 46 49 rfl
  ·intro h7; have gh7 := h7
   simp only [nrm] at h7
   refine tk_mv ?_
   refine tk_eq ?_
   refine al_pk ?_
   exact al_nk gh7
  ·intro h7; have gh7 := h7
   iterate 2 refine al_ps ?_
   refine al_pk ?_
   exact al_nk gh7
  refine al_mv ?_
  apply al_and 4 50 54 rfl
  ·intro h8; have gh8 := h8
   simp only [nrm] at h8
   refine tk_fp u37 info3 ?_
   refine tk_ld u3 info3 ?_
   refine al_t (op_geq rfl rfl) ?_
   refine al_pk ?_
   exact al_nk gh8
  ·intro h8; have gh8 := h8
   iterate 3 refine al_ps ?_
   refine al_pk ?_
   exact al_nk gh8
  refine al_mv ?_
  apply al_and 4 55 59 rfl
  ·intro h9; have gh9 := h9
   simp only [nrm] at h9
   refine tk_fp u37 info3 ?_
   refine tk_ld u3 info3 ?_
   refine al_t (op_leq rfl rfl) ?_
   refine al_pk ?_
   exact al_nk gh9
  ·intro h9; have gh9 := h9
   simp only [nrm] at h9
   iterate 3 refine al_ps ?_
   refine al_pk ?_
   exact al_nk gh9
  refine al_gs ?_
  refine al_nil ?_
  refine fz1 (t := 2) ?_
  refine aw_ret ?_
  refine ⟨_, res_1 rfl rfl, ?_, rfl⟩
  rw [shapeP, gh4, gh5]; rfl
 have gh5 := h5
 simp only [nrm] at h5
 refine aw_sr ?_
 refine al_eq ?_
 refine al_gs ?_
 refine al_nil ?_
 refine aw_cond rfl (fun h10 => ?_) (fun h10 => ?_)
 ·have gh10 := h10
  simp only [nrm] at h10
  refine aw_sr ?_
  refine al_mv ?_
  refine al_o (op_not rfl) ?_
  refine al_mv ?_
  apply al_and 3 64 67 rfl
  ·intro h11; have gh11 := h11
   simp only [nrm] at h11
   refine tk_mv ?_
   refine tk_eq ?_
   refine al_pk ?_
   exact al_nk gh11
  ·intro h11; have gh11 := h11
   simp only [nrm] at h11
   iterate 2 refine al_ps ?_
   refine al_pk ?_
   exact al_nk gh11
  refine al_mv ?_
  apply al_and 3 68 71 rfl
  ·intro h12; have gh12 := h12
   simp only [nrm] at h12
   refine tk_mv ?_
   refine tk_eq ?_
   refine al_pk ?_
   exact al_nk gh12
  ·intro h12; have gh12 := h12
   iterate 2 refine al_ps ?_
   refine al_pk ?_
   exact al_nk gh12
  refine al_mv ?_
  apply al_and 4 72 76 rfl
  ·intro h13; have gh13 := h13
   simp only [nrm] at h13
   refine tk_fp u37 info26 ?_
   refine tk_ld u26 info26 ?_
   refine al_callp_take into164 rfl rfl rfl rfl rfl rfl ((e_isBits _ (by first | assumption | omega)) _) (by simp) ?_
   refine al_pk ?_
   exact al_nk gh13
  ·intro h13; have gh13 := h13
   iterate 3 refine al_ps ?_
   refine al_pk ?_
   exact al_nk gh13
  refine al_gs ?_
  refine al_nil ?_
  refine fz1 (t := 2) ?_
  refine aw_ret ?_
  refine ⟨_, res_1 rfl rfl, ?_, rfl⟩
  rw [shapeP, gh4, gh5, gh10]; rfl
 have gh10 := h10
 simp only [nrm] at h10
 refine aw_sr ?_
 refine al_eq ?_
 refine al_gs ?_
 refine al_nil ?_
 refine aw_cond rfl (fun h14 => ?_) (fun h14 => ?_)
 ·have gh14 := h14
  simp only [nrm] at h14
  refine aw_sr ?_
  refine al_mv ?_
  refine al_o (op_not rfl) ?_
  refine al_mv ?_
  apply al_and 3 81 84 rfl
  ·intro h15; have gh15 := h15
   simp only [nrm] at h15
   refine tk_mv ?_
   refine tk_eq ?_
   refine al_pk ?_
   exact al_nk gh15
  ·intro h15; have gh15 := h15
   simp only [nrm] at h15
   iterate 2 refine al_ps ?_
   refine al_pk ?_
   exact al_nk gh15
  refine al_mv ?_
  apply al_and 4 85 89 rfl
  ·intro h16; have gh16 := h16
   simp only [nrm] at h16
   refine tk_fp u37 info26 ?_
   refine tk_ld u26 info26 ?_
   refine al_callp_take into164 rfl rfl rfl rfl rfl rfl ((e_isBits _ (by first | assumption | omega)) _) (by simp) ?_
   refine al_pk ?_
   exact al_nk gh16
  ·intro h16; have gh16 := h16
   iterate 3 refine al_ps ?_
   refine al_pk ?_
   exact al_nk gh16
  refine al_gs ?_
  refine al_nil ?_
  refine fz1 (t := 2) ?_
  refine aw_ret ?_
  refine ⟨_, res_1 rfl rfl, ?_, rfl⟩
  rw [shapeP, gh4, gh5, gh10, gh14]; rfl
 have gh14 := h14
 simp only [nrm] at h14
 refine aw_sr ?_
 refine al_eq ?_
 refine al_gs ?_
 refine al_nil ?_
 refine aw_cond rfl (fun h17 => ?_) (fun h17 => ?_)
 ·have gh17 := h17
  simp only [nrm] at h17
  refine aw_sr ?_
  refine al_mv ?_
  refine al_eq ?_
  refine al_mv ?_
  apply al_and 3 94 97 rfl
  ·intro h18; have gh18 := h18
   simp only [nrm] at h18
   refine tk_mv ?_
   refine tk_eq ?_
   refine al_pk ?_
   exact al_nk gh18
  ·intro h18; have gh18 := h18
   simp only [nrm] at h18
   iterate 2 refine al_ps ?_
   refine al_pk ?_
   exact al_nk gh18
  refine al_mv ?_
  apply al_and 4 98 102 rfl
  ·intro h19; have gh19 := h19
   simp only [nrm] at h19
   refine tk_fp u37 info9 ?_
   refine tk_ld u9 info9 ?_
   refine al_callp_take into66 rfl rfl rfl rfl rfl rfl ((c_isName _ (by first | assumption | omega | (simp; done) | (simp; omega) | decide)) _) (by simp) ?_
   refine al_pk ?_
   exact al_nk gh19
  ·intro h19; have gh19 := h19
   iterate 3 refine al_ps ?_
   refine al_pk ?_
   exact al_nk gh19
  refine al_gs ?_
  refine al_nil ?_
  refine fz1 (t := 2) ?_
  refine aw_ret ?_
  refine ⟨_, res_1 rfl rfl, ?_, rfl⟩
  rw [shapeP, gh4, gh5, gh10, gh14, gh17]; rfl
 have gh17 := h17
 simp only [nrm] at h17
 refine aw_sr ?_
 refine al_eq ?_
 refine al_gs ?_
 refine al_nil ?_
 refine aw_cond rfl (fun h20 => ?_) (fun h20 => ?_)
 ·have gh20 := h20
  simp only [nrm] at h20
  refine aw_seq ?_
  refine aw_sr ?_
  refine al_mv ?_
  refine al_o (op_gtr rfl rfl) ?_
  refine al_nil ?_
  refine aw_cond rfl (fun h21 => ?_) (fun h21 => ?_)
  ·have gh21 := h21
   simp only [nrm] at h21
   refine aw_sr ?_
   refine al_gs ?_
   refine al_nil ?_
   refine fz1 (t := 2) ?_
   refine aw_ret ?_
   refine ⟨_, res_1 rfl rfl, ?_, rfl⟩
   rw [shapeP, gh4, gh5, gh10, gh14, gh17, gh20, gh21]; rfl
  have gh21 := h21
  simp only [nrm] at h21
  refine aw_skip ?_
  refine aw_sr ?_
  refine al_mv ?_
  refine al_eq ?_
  refine al_mv ?_
  apply al_and 9 109 118 rfl
  ·intro h22; have gh22 := h22
   simp only [nrm] at h22
   refine tk_fp u37 info9 ?_
   refine tk_ld u9 info9 ?_
   refine al_t (op_seql_str rfl rfl) ?_
   refine tk_mv ?_
   apply al_or 4 113 117 rfl
   ·intro h23; have gh23 := h23
    simp only [nrm] at h23
    refine tk_fp u37 info9 ?_
    refine tk_ld u9 info9 ?_
    refine al_t (op_seql_str rfl rfl) ?_
    refine tk_pk ?_
    exact al_nk gh23
   ·intro h23; have gh23 := h23
    simp only [nrm] at h23
    iterate 3 refine al_ps ?_
    refine tk_pk ?_
    exact al_nk gh23
   refine al_pk ?_
   exact al_nk gh22
  ·intro h22; have gh22 := h22
   simp only [nrm] at h22
   iterate 4 refine al_ps ?_
   refine al_pu ?_
   refine al_pu ?_
   refine al_pu ?_
   refine al_ps ?_
   refine al_pk ?_
   exact al_nk gh22
  refine al_gs ?_
  refine al_sr ?_
  refine al_mv ?_
  refine al_mv ?_
  apply al_or 9 120 129 rfl
  ·intro h24; have gh24 := h24
   refine tk_mv ?_
   refine tk_eq ?_
   refine tk_mv ?_
   apply al_and 5 123 128 rfl
   ·intro h25; have gh25 := h25
    simp only [nrm] at h25
    refine tk_fp u37 info9 ?_
    refine tk_ld u9 info9 ?_
    refine al_callp_take into165 rfl rfl rfl rfl rfl rfl ((e_strength _) _) (by simp) ?_
    refine al_t (op_geq rfl rfl) ?_
    refine tk_pk ?_
    exact al_nk gh25
   ·intro h25; have gh25 := h25
    simp only [nrm] at h25
    iterate 4 refine al_ps ?_
    refine tk_pk ?_
    exact al_nk gh25
   refine al_pk ?_
   exact al_nk gh24
  ·intro h24; have gh24 := h24
   simp only [nrm] at h24
   iterate 3 refine al_ps ?_
   refine al_pu ?_
   refine al_pu ?_
   refine al_pu ?_
   refine al_pu ?_
   refine al_ps ?_
   refine al_pk ?_
   exact al_nk gh24
  refine al_mv ?_
  apply al_or 12 130 142 rfl
  ·intro h26; have gh26 := h26
   simp only [nrm] at h26
   refine tk_mv ?_
   refine al_t (op_geq rfl rfl) ?_
   refine tk_mv ?_
   apply al_and 3 133 136 rfl
   ·intro h27; have gh27 := h27
    simp only [nrm] at h27
    refine tk_mv ?_
    refine al_t (op_leq rfl rfl) ?_
    refine tk_pk ?_
    exact al_nk gh27
   ·intro h27; have gh27 := h27
    simp only [nrm] at h27
    iterate 2 refine al_ps ?_
    refine tk_pk ?_
    exact al_nk gh27
   refine tk_mv ?_
   apply al_and 4 137 141 rfl
   ·intro h28; have gh28 := h28
    simp only [nrm] at h28
    refine tk_fp u37 info9 ?_
    refine tk_ld u9 info9 ?_
    refine al_callp_take into66 rfl rfl rfl rfl rfl rfl ((c_isName _ (by first | assumption | omega | (simp; done) | (simp; omega) | decide)) _) (by simp) ?_
    refine tk_pk ?_
    exact al_nk gh28
   ·intro h28; have gh28 := h28
    simp only [nrm] at h28
    iterate 3 refine al_ps ?_
    refine tk_pk ?_
    exact al_nk gh28
   refine al_pk ?_
   exact al_nk gh26
  ·intro h26; have gh26 := h26
   simp only [nrm] at h26
   iterate 3 refine al_ps ?_
   refine al_pu ?_
   refine al_pu ?_
   iterate 2 refine al_ps ?_
   refine al_pu ?_
   refine al_pu ?_
   refine al_pu ?_
   refine al_ps ?_
   refine al_pk ?_
   exact al_nk gh26
  refine al_gs ?_
  refine al_nil ?_
  refine fz1 (t := 2) ?_
  refine aw_ret ?_
  refine ⟨_, res_1 rfl rfl, ?_, rfl⟩
  rw [shapeP, gh4, gh5, gh10, gh14, gh17, gh20, gh21]; rfl
 have gh20 := h20
 simp only [nrm] at h20
 refine aw_sr ?_
 refine al_eq ?_
 refine al_gs ?_
 refine al_nil ?_
 refine aw_cond rfl (fun h29 => ?_) (fun h29 => ?_)
 ·have gh29 := h29
  simp only [nrm] at h29
  refine aw_sr ?_
  refine al_mv ?_
  refine al_o (op_not rfl) ?_
  refine al_mv ?_
  apply al_and 3 147 150 rfl
  ·intro h30; have gh30 := h30
   simp only [nrm] at h30
   refine tk_mv ?_
   refine tk_eq ?_
   refine al_pk ?_
   exact al_nk gh30
  ·intro h30; have gh30 := h30
   simp only [nrm] at h30
   iterate 2 refine al_ps ?_
   refine al_pk ?_
   exact al_nk gh30
  refine al_mv ?_
  apply al_and 3 151 154 rfl
  ·intro h31; have gh31 := h31
   simp only [nrm] at h31
   refine tk_mv ?_
   refine tk_eq ?_
   refine al_pk ?_
   exact al_nk gh31
  ·intro h31; have gh31 := h31
   iterate 2 refine al_ps ?_
   refine al_pk ?_
   exact al_nk gh31
  refine al_mv ?_
  apply al_and 7 155 162 rfl
  ·intro h32; have gh32 := h32
   simp only [nrm] at h32
   refine tk_fp u37 info31 ?_
   refine tk_ld u31 info31 ?_
   refine al_t (val_as (.rptr (cellsE (e.kids.getD 0 default))) (op_im u31 info37) (by exact congrArg AVal.rptr (encE_cells _))) ?_
   refine al_t (op_field_rptr u37 rfl info25 (by decide) rfl rfl) ?_
   refine al_t (op_load_rptr u25 info25 rfl rfl) ?_
   refine al_t (op_neq rfl rfl) ?_
   refine al_pk ?_
   exact al_nk gh32
  ·intro h32; have gh32 := h32
   iterate 6 refine al_ps ?_
   refine al_pk ?_
   exact al_nk gh32
  refine al_gs ?_
  refine al_nil ?_
  refine fz1 (t := 2) ?_
  refine aw_ret ?_
  refine ⟨_, res_1 rfl rfl, ?_, rfl⟩
  rw [shapeP, gh4, gh5, gh10, gh14, gh17, gh20, gh29]; rfl
 have gh29 := h29
 simp only [nrm] at h29
 refine aw_sr ?_
 refine al_eq ?_
 refine al_gs ?_
 refine al_nil ?_
 refine aw_cond rfl (fun h33 => ?_) (fun h33 => ?_)
 ·have gh33 := h33
  simp only [nrm] at h33
  refine aw_sr ?_
  refine al_mv ?_
  refine al_o (op_not rfl) ?_
  refine al_mv ?_
  apply al_and 3 167 170 rfl
  ·intro h34; have gh34 := h34
   simp only [nrm] at h34
   refine tk_mv ?_
   refine tk_eq ?_
   refine al_pk ?_
   exact al_nk gh34
  ·intro h34; have gh34 := h34
   simp only [nrm] at h34
   iterate 2 refine al_ps ?_
   refine al_pk ?_
   exact al_nk gh34
  refine al_mv ?_
  apply al_and 3 171 174 rfl
  ·intro h35; have gh35 := h35
   simp only [nrm] at h35
   refine tk_mv ?_
   refine tk_eq ?_
   refine al_pk ?_
   exact al_nk gh35
  ·intro h35; have gh35 := h35
   iterate 2 refine al_ps ?_
   refine al_pk ?_
   exact al_nk gh35
  refine al_gs ?_
  refine al_nil ?_
  refine fz1 (t := 2) ?_
  refine aw_ret ?_
  refine ⟨_, res_1 rfl rfl, ?_, rfl⟩
  rw [shapeP, gh4, gh5, gh10, gh14, gh17, gh20, gh29, gh33]; rfl
 have gh33 := h33
 simp only [nrm] at h33
 refine aw_skip ?_
 refine aw_sr ?_
 refine al_gs ?_
 refine al_nil ?_
 refine fz1 (t := 2) ?_
 refine aw_ret ?_
 refine ⟨_, res_1 rfl rfl, ?_, rfl⟩
 rw [shapeP, gh4, gh5, gh10, gh14, gh17, gh20, gh29, gh33]; rfl
end Go.Proofs.YtcgdlhkiecommaaGreatDoor
/- Printed walks (gen.py, lexer_ann.py): part 412. -/




namespace Go.Proofs.YtcgdlhkiecommaaGreatDoor
open Go
theorem e_idxE (kids : List Ex) (hk : kids.length ≤ 1000000000) (v0 d : Nat) (hH : ∀ k ∈ kids, ∀ σ : Store, σ.get 0 = some (v0, .row 1 [[.v (.int .i64 ((d : Nat) : Int))]]) → σ.below 1000 = true → AC Tryz.prog 108 [.agg (cellsE (k)), .ptr 0 v0 0 0] σ (fun r σ' => r = .ret (.v (.bool (!(shapesP k (d + 1))))) ∧ σ' = σ)) : AC Tryz.prog 166 [.list 16 ((kids).map encE), .fn 108 [.ptr 0 v0 0 0]] ([(0, v0, .row 1 [[.v (.int .i64 ((d : Nat) : Int))]])]) (fun r σ' => r = .ret (.v (.int .i64 ((if kids.any (fun k => !(shapesP k (d + 1))) then ((kids.findIdx (fun k => !(shapesP k (d + 1))) : Nat) : Int) else -1)))) ∧ σ'.keep k0 = [(0, v0, .row 1 [[.v (.int .i64 ((d : Nat) : Int))]])]) := by
 refine ace 19 Tryz.func166 ?_
 refine aw_sr ?_
 refine al_gs ?_
 refine al_nil ?_
 refine aw_seq ?_
 refine aw_sr ?_
 refine al_mv ?_
 refine al_lm u31 ?_
 refine al_mv ?_
 refine al_nil ?_
 refine aw_block ?_
 refine aw_forT (ι := Nat) [4, 8] [] (fun i => kids.length - i) (fun i => i ≤ kids.length ∧ ∀ k, k < i → (fun k => !(shapesP k (d + 1))) (kids.getD k default) = false) (fun i => ([(8, .v (.int .i64 ((i : Nat) : Int)))] : Env)) (fun i s => s) (0) ?_ ?_ ?_ (fun i hinv => ?_)
 ·exact ⟨Nat.zero_le _, fun k hk => absurd hk (Nat.not_lt_zero k)⟩
 ·refine sub_1 ?_
  all_goals (first | rfl | simp)
 ·rfl
 have hi := hinv.1
 refine aw_sr ?_
 refine al_ls ?_
 refine al_nil ?_
 refine aw_seq ?_
 refine aw_cond rfl (fun h1 => ?_) (fun h1 => ?_)
 ·have gh1 := h1
  simp only [nrm] at h1
  refine aw_skip ?_
  refine aw_seq ?_
  refine aw_block ?_
  refine aw_sr ?_
  refine al_mv ?_
  refine al_gs ?_
  refine al_sr ?_
  refine al_mv ?_
  refine al_mv ?_
  refine al_mv ?_
  refine al_o (val_as (.rptr (cellsE (kids.getD i default))) (op_im u31 info37) (by exact congrArg AVal.rptr (encE_cells _))) ?_
  refine al_lr u37 info37 ?_
  refine al_callp into108 rfl rfl rfl (hH (kids.getD i default) (getD_mem (by omega)) _ rfl rfl) (by simp) ?_
  refine al_nil ?_
  refine aw_cond rfl (fun h2 => ?_) (fun h2 => ?_)
  ·have gh2 := h2
   simp only [nrm] at h2
   refine aw_sr ?_
   refine al_mv ?_
   refine al_gs ?_
   refine al_nil ?_
   refine aw_ret ?_
   refine ⟨_, res_1 rfl rfl, ?_⟩
   rw [if_pos (any_found i (by omega) gh2), findIdx_at i (by omega) hinv.2 gh2]; exact ⟨rfl, rfl⟩
  have gh2 := h2
  simp only [nrm] at h2
  refine aw_skip ?_
  refine aw_region ?_
  refine al_ad ?_
  refine al_mv ?_
  refine al_nil ?_
  refine ⟨i + 1, ?_, ?_, ?_, ?_, ?_⟩
  ·omega
  ·exact ⟨by omega, idx_more (p := fun k => (fun k => !(shapesP k (d + 1))) (kids.getD k default)) hinv.2 gh2⟩
  ·refine sub_1 ?_
   all_goals (first | rfl | simp)
  ·exact sbl
  ·rfl
 have gh1 := h1
 simp only [nrm] at h1
 refine aw_exit ?_
 refine aw_sr ?_
 refine al_gs ?_
 refine al_nil ?_
 refine aw_ret ?_
 refine ⟨_, res_1 rfl rfl, ?_⟩
 rw [if_neg (by rw [any_none (p := fun k => !(shapesP k (d + 1))) (fun k hk => hinv.2 k (by omega))]; exact Bool.false_ne_true)]; exact ⟨rfl, rfl⟩
theorem e_conE (kids : List Ex) (hk : kids.length ≤ 1000000000) (v0 d : Nat) (hH : ∀ k ∈ kids, ∀ σ : Store, σ.get 0 = some (v0, .row 1 [[.v (.int .i64 ((d : Nat) : Int))]]) → σ.below 1000 = true → AC Tryz.prog 108 [.agg (cellsE (k)), .ptr 0 v0 0 0] σ (fun r σ' => r = .ret (.v (.bool (!(shapesP k (d + 1))))) ∧ σ' = σ)) : AC Tryz.prog 107 [.list 16 ((kids).map encE), .fn 108 [.ptr 0 v0 0 0]] ([(0, v0, .row 1 [[.v (.int .i64 ((d : Nat) : Int))]])]) (fun r σ' => r = .ret (.v (.bool (kids.any (fun k => !(shapesP k (d + 1)))))) ∧ σ'.keep k0 = [(0, v0, .row 1 [[.v (.int .i64 ((d : Nat) : Int))]])]) := by
 refine ace 9 Tryz.func107 ?_
 refine aw_sr ?_
 refine al_gs ?_
 refine al_sr ?_
 refine al_mv ?_
 refine al_mv ?_
 refine al_callp into166 rfl rfl rfl (one_look 0 (by decide) rfl rfl (e_idxE kids hk v0 d hH) rfl rfl) (by simp) ?_
 refine al_o (op_geq rfl rfl) ?_
 refine al_gs ?_
 refine al_nil ?_
 refine aw_ret ?_
 refine ⟨_, res_1 rfl rfl, ?_⟩
 refine ⟨?_, rfl⟩
 cases hany : kids.any (fun k => !(shapesP k (d + 1))) <;> simp <;> omega
theorem e_shapes1 (k : Ex) (v0 d : Nat) (hd : d ≤ 20000) (ih : ACp Tryz.prog 56 [.agg (cellsE (k)), .v (.int .i64 ((d + 1 : Nat) : Int))] (.v (.bool (shapesP k (d + 1))))) : AC Tryz.prog 108 [.agg (cellsE (k)), .ptr 0 v0 0 0] ([(0, v0, .row 1 [[.v (.int .i64 ((d : Nat) : Int))]])]) (fun r σ' => r = .ret (.v (.bool (!(shapesP k (d + 1))))) ∧ σ'.keep k0 = [(0, v0, .row 1 [[.v (.int .i64 ((d : Nat) : Int))]])]) := by
 refine ace 9 Tryz.func108 ?_
 refine aw_sr ?_
 refine al_bx 2 fun ver2 => ?_
 refine al_gs ?_
 refine al_sr ?_
 refine al_ld u37 info37 ?_
 refine al_ld u3 info3 ?_
 refine al_ad ?_
 refine al_callp into56 rfl rfl rfl (ih _) (by simp) ?_
 refine al_o (op_not rfl) ?_
 refine al_gs ?_
 refine al_nil ?_
 refine aw_ret ?_
 refine ⟨_, res_1 rfl rfl, ?_⟩
 exact ⟨rfl, rfl⟩
theorem e_shapesS (e : Ex) (hz : szE e = true) (d : Nat) (ih : ∀ k ∈ e.kids, ∀ d, ACp Tryz.prog 56 [.agg (cellsE (k)), .v (.int .i64 ((d : Nat) : Int))] (.v (.bool (shapesP k d)))) : ACp Tryz.prog 56 [.agg (cellsE (e)), .v (.int .i64 ((d : Nat) : Int))] (.v (.bool (shapesP e d))) := by
 refine acp_of rfl ?_
 obtain ⟨z1, z2, z3, z4, z5⟩ := szE_facts hz
 refine ace 18 Tryz.func56 ?_
 refine aw_sr ?_
 refine al_bx 2 fun ver2 => ?_
 refine al_bx 3 fun ver3 => ?_
 refine al_gs ?_
 refine al_sr ?_
 refine al_ld u3 info3 ?_
 refine al_o (op_leq rfl rfl) ?_
 refine al_mv ?_
 apply al_and 3 7 10 rfl
 ·intro h1; have gh1 := h1
  simp only [nrm] at h1
  refine tk_ld u37 info37 ?_
  refine al_callp_take into106 rfl rfl rfl rfl rfl rfl ((e_shape _ (by first | assumption | omega) (by first | assumption | omega)) _) (by simp) ?_
  refine al_pk ?_
  exact al_nk gh1
 ·intro h1; have gh1 := h1
  simp only [nrm] at h1
  iterate 2 refine al_ps ?_
  refine al_pk ?_
  exact al_nk gh1
 refine al_mv ?_
 apply al_and 6 11 17 rfl
 ·intro h2; have gh2 := h2
  simp only [nrm] at h2
  refine tk_fp u37 info31 ?_
  refine tk_ld u31 info31 ?_
  refine al_t (op_closure rfl rfl) ?_
  refine al_callp_take into107 rfl rfl rfl rfl rfl rfl (one_look 3 (by decide) rfl rfl (e_conE e.kids z3 ver3 d (fun k hk σ h1 h2 => one_look 0 (by decide) rfl rfl (e_shapes1 k ver3 d (by omega) (ih k hk (d + 1))) h1 h2)) rfl rfl) (by simp) ?_
  refine al_t (op_not rfl) ?_
  refine al_pk ?_
  exact al_nk gh2
 ·intro h2; have gh2 := h2
  iterate 5 refine al_ps ?_
  refine al_pk ?_
  exact al_nk gh2
 refine al_gs ?_
 refine al_nil ?_
 refine fz1 (t := 4) ?_
 refine aw_ret ?_
 refine ⟨_, res_1 rfl rfl, ?_, rfl⟩
 rw [shapesP_eq] <;> rfl
theorem e_shapes (e : Ex) : szE e = true → ∀ d, ACp Tryz.prog 56 [.agg (cellsE (e)), .v (.int .i64 ((d : Nat) : Int))] (.v (.bool (shapesP e d))) := by
  induction e using Ex.ind with
  | h e ih =>
    intro hz d
    obtain ⟨z1, z2, z3, z4, z5⟩ := szE_facts hz
    exact e_shapesS e hz d (fun k hk d => ih k hk (z5 k hk) d)
end Go.Proofs.YtcgdlhkiecommaaGreatDoor
