import Derived.Test.YtcgdlhkiecommaaGreatDoorW406
import Derived.Test.YtcgdlhkiecommaaGreatDoorFacts
import Derived.Test.YtcgdlhkiecommaaGreatDoorEngNest
import Derived.Test.YtcgdlhkiecommaaGreatDoorXWr




import Derived.Test.YtcgdlhkiecommaaGreatDoorXRef3



/- Printed walks (gen.py, lexer_ann.py): part 407. -/



set_option linter.unusedVariables false
set_option linter.unusedSimpArgs false
set_option maxRecDepth 20000
set_option maxHeartbeats 40000000
namespace Go.Proofs.YtcgdlhkiecommaaGreatDoor
open Go
theorem e_target (v0 : Nat) (l : List Tk) (hl : OKTs l) (hn : l.length ≤ 1000000000) (i : Nat) (hi : i ≤ l.length)  : AC Tryz.prog 44 [.ptr 0 v0 0 0] (rd v0 l i 40 []) (fun r σ' => RdK v0 l (40) encX (targetP l i) r σ') := by
 refine ace 15 Tryz.func44 ?_
 refine aw_sr ?_
 refine al_al 2 info37 fun ver2 => ?_
 refine al_sr ?_
 refine al_mv ?_
 refine al_call into81 rfl rfl rfl (rd_lift rfl (fun _ => rfl) (e_kind v0 l hl hn i 40 (by decide) hi 1 (by decide)) _ (by rfl)) (by simp) ?_; rintro _ _ (⟨g5, i5, d5, hx5, rfl, rfl⟩ | ⟨a5, j5, hx5, rfl, rfl⟩)
 ·exact rdk_bad (by obtain ⟨g, rfl⟩ := kind_bad hx5; rw [targetP, g]; rfl) rfl
 obtain ⟨rfl, rfl, hop5⟩ := kind_ok hx5
 have hlt5 := op_lt (l := l) (i := i) (k := 1) (by simpa using hop5) (by decide)
 refine al_al 3 info65 fun ver3 => ?_
 refine al_sp info65 ?_
 refine al_sr ?_
 refine al_mv ?_
 refine al_fp u65 info9 ?_
 refine al_ld u9 info9 ?_
 refine al_fp u65 info3 ?_
 refine al_ld u3 info3 ?_
 refine al_fp u65 info3 ?_
 refine al_ld u3 info3 ?_
 refine al_o (val_re (.agg (cellsE (mkE 4 (tokAt l i).text 0 [] [] (tokAt l i)))) (op_bs u37 info37 place37) (.agg _ _ (by repeat (first | exact reL_nil | refine reL_cons (.same _) ?_ | refine reL_cons (.vnil _) ?_)))) ?_
 refine al_call into82 rfl rfl rfl (rd_lift rfl (fun _ => rfl) (e_parts v0 l hl hn (i + 1) 40 (by decide) (by omega) (e_inner l hl hn) (mkE 4 (tokAt l i).text 0 [] [] (tokAt l i))) _ (by rfl)) (by simp) ?_; rintro _ _ (⟨g14, i14, d14, hx14, rfl, rfl⟩ | ⟨a14, j14, hx14, rfl, rfl⟩)
 ·exact rdk_bad (by rw [targetP, if_pos hop5]; exact hx14) rfl
 refine al_sp info37 ?_
 refine al_nil ?_
 refine aw_ret ?_
 refine ⟨_, res_cell rfl u37 info37 rfl rfl rfl rfl, ?_⟩
 exact rdk_ok a14 j14 (by rw [targetP, if_pos hop5]; exact hx14) rfl
theorem e_typeF (v0 : Nat) (l : List Tk) (hl : OKTs l) (hn : l.length ≤ 1000000000) (hnm : ∀ i, ((tokAt l i).op == 1) = true → ((tokAt l i).text == sArray) = false) (i : Nat) (hi : i ≤ l.length) (sub : Nat → Rd Tr) (hS : isAt l [sArray] i = true → ∀ v0 j, j ≤ l.length → isAt l [sArray] j = false → AC Tryz.prog 47 [.ptr 0 v0 0 0] (rd v0 l j (40) []) (RdK v0 l (40) encRr (sub j))) : AC Tryz.prog 47 [.ptr 0 v0 0 0] (rd v0 l i 40 []) (fun r σ' => RdK v0 l (40) encRr (typeF l sub i) r σ') := by
 refine ace 55 Tryz.func47 ?_
 refine aw_sr ?_
 refine al_al 2 info46 fun ver2 => ?_
 refine al_sr ?_
 refine al_mv ?_
 refine al_callp into89 rfl rfl rfl (e_hereA v0 l hl hn i 40 (by omega) (by omega)  rfl rfl) (by simp) ?_
 refine al_mv ?_
 refine al_xt ?_
 refine al_xt ?_
 refine al_gs ?_
 refine al_gs ?_
 refine al_sr ?_
 refine al_mv ?_
 refine al_mv ?_
 refine al_o (val_re (.agg (cellsR (Tr.mk [] [] [] (tokAt l i).line (tokAt l i).col))) (op_bs u46 info46 place46) (.agg _ _ (by repeat (first | exact reL_nil | refine reL_cons (.same _) ?_ | refine reL_cons (.vnil _) ?_)))) ?_
 refine al_al 5 info46 fun ver5 => ?_
 refine al_sp info46 ?_
 refine al_nil ?_
 refine aw_seq ?_
 refine aw_block ?_
 refine aw_sr ?_
 refine al_mv ?_
 refine al_o (op_ol encBs [sVec, sArray] u32 info9) ?_
 refine al_callp into90 rfl rfl rfl (e_isA v0 l hl hn i 40 (by omega) (by omega) [sVec, sArray] (by decide) rfl rfl) (by simp) ?_
 refine al_gs ?_
 refine al_nil ?_
 refine aw_cond rfl (fun h1 => ?_) (fun h1 => ?_)
 ·have gh1 := h1
  have hva := h1
  have hlt := isAt_lt h1
  refine aw_sr ?_
  refine al_mv ?_
  refine al_callp into91 rfl rfl rfl (e_tokenA v0 l hl hn i 40 (by omega) (by omega)  rfl rfl) (by simp) ?_
  refine al_o (op_field u65 rfl u9 info9 rfl rfl rfl) ?_
  refine al_fp u46 info9 ?_
  refine al_sp info9 ?_
  refine al_sr ?_
  refine al_mv ?_
  refine al_o (op_nilCheck_ptr rfl rfl) ?_
  refine al_fp u105 info3 ?_
  refine al_ld u3 info3 ?_
  refine al_ad ?_
  refine al_o (op_nilCheck_ptr rfl rfl) ?_
  refine al_fp u105 info3 ?_
  refine al_sp info3 ?_
  refine al_sr ?_
  refine al_mv ?_
  refine al_call into92 rfl rfl rfl (rd_lift rfl (fun _ => rfl) (e_open v0 l hl hn (i + 1) 40 (by decide) (by omega)) _ (by rfl)) (by simp) ?_; rintro _ _ (⟨g33, i33, d33, hx33, rfl, rfl⟩ | ⟨a33, j33, hx33, rfl, rfl⟩)
  ·exact rdk_bad (by rw [typeF, if_pos hva]; rw [hx33]) rfl
  obtain ⟨hd0, rfl, hop33⟩ := open_ok hx33
  have hlt33 := isAt_lt hop33
  refine al_sr ?_
  refine al_mv ?_
  refine al_call into40 rfl rfl rfl (rd_lift rfl (fun _ => rfl) (e_inner l hl hn (by decide) v0 (i + 1 + 1) (by omega)) _ (by rfl)) (by simp) ?_; rintro _ _ (⟨g35, i35, d35, hx35, rfl, rfl⟩ | ⟨a35, j35, hx35, rfl, rfl⟩)
  ·exact rdk_bad (by rw [typeF, if_pos hva]; rw [hx33]; simp only; rw [innerD_pos (by decide), hx35]) rfl
  have hi35 : innerD l 40 (i + 1 + 1) = .ok a35 j35 := by rw [innerD_pos (by decide)]; exact hx35
  have hgt35 := innerD_gt (l := l) 40 _ _ _ hi35
  refine al_o (op_list encE [a35] u31 info37 rfl rfl (by decide) rfl (by decide) rfl (by first | rfl | (repeat (first | exact parts_nil | refine parts_cons rfl (by repeat (first | exact all_live_nil | refine all_live_clo rfl ?_ | refine all_live_slice rfl ?_ | refine all_live_map rfl ?_ | refine all_live_ptr rfl ?_)) ?_))) rfl rfl rfl (kids1 _)) ?_
  refine al_fp u46 info31 ?_
  refine al_sp info31 ?_
  refine al_nil ?_
  refine aw_region ?_
  refine al_mv ?_
  refine al_call into93 rfl rfl rfl (rd_lift rfl (fun _ => rfl) (e_shut v0 l hl hn j35 39 (by decide) (by omega) 40 rfl) _ (by rfl)) (by simp) ?_; rintro _ _ (⟨g39, i39, d39, hx39, rfl, rfl⟩ | ⟨a39, j39, hx39, rfl, rfl⟩)
  ·exact rdk_bad (by rw [typeF, if_pos hva]; rw [hx33]; simp only; rw [hi35]; simp only; rw [hx39]) rfl
  obtain ⟨rfl, hat39⟩ := want_ok hx39
  have hlt39 := isAt_lt hat39
  refine al_nil ?_
  refine aw_seq ?_
  refine aw_sr ?_
  refine al_fp u46 info9 ?_
  refine al_ld u9 info9 ?_
  refine al_o (op_seql_str rfl rfl) ?_
  refine al_nil ?_
  refine aw_cond rfl (fun h2 => ?_) (fun h2 => ?_)
  ·have gh2 := h2
   simp only [nrm] at h2
   have hsa : ((tokAt l i).text == sArray) = true := gh2
   refine aw_sr ?_
   refine al_mv ?_
   refine al_call into95 rfl rfl rfl (rd_lift rfl (fun _ => rfl) (e_want v0 l hl hn (j35 + 1) 40 (by decide) (by omega) sOf) _ (by rfl)) (by simp) ?_; rintro _ _ (⟨g44, i44, d44, hx44, rfl, rfl⟩ | ⟨a44, j44, hx44, rfl, rfl⟩)
   ·exact rdk_bad (by rw [typeF, if_pos hva]; rw [hx33]; simp only; rw [hi35]; simp only; rw [hx39]; simp only; rw [if_pos hsa]; rw [hx44]) rfl
   obtain ⟨rfl, hat44⟩ := want_ok hx44
   have hlt44 := isAt_lt hat44
   refine al_nil ?_
   refine aw_seq ?_
   refine aw_sr ?_
   refine al_mv ?_
   refine al_o (op_ol encBs [sArray] u32 info9) ?_
   refine al_callp into90 rfl rfl rfl (e_isA v0 l hl hn (j35 + 1 + 1) 40 (by omega) (by omega) [sArray] (by decide) rfl rfl) (by simp) ?_
   refine al_nil ?_
   refine aw_cond rfl (fun h3 => ?_) (fun h3 => ?_)
   ·have gh3 := h3
    refine aw_region ?_
    refine al_mv ?_
    refine al_call into96 rfl rfl rfl (rd_lift rfl (fun _ => rfl) (e_fail v0 l hl hn (j35 + 1 + 1) (40) (by omega) (by omega) 11) _ (by rfl)) (by simp) ?_; rintro _ _ (⟨g49, i49, d49, ⟨⟩, rfl, rfl⟩ | ⟨_, _, ⟨⟩, _⟩)
    exact rdk_bad (by rw [typeF, if_pos hva]; rw [hx33]; simp only; rw [hi35]; simp only; rw [hx39]; simp only; rw [if_pos hsa]; rw [hx44]; simp only; rw [if_pos h3]) rfl
   have gh3 := h3
   refine aw_skip ?_
   refine aw_region ?_
   refine al_mv ?_
   refine al_call into47 rfl rfl rfl (rd_lift rfl (fun _ => rfl) (hS (isAt_array h1 hsa) v0 (j35 + 1 + 1) (by omega) h3) _ (by rfl)) (by simp) ?_; rintro _ _ (⟨g51, i51, d51, hx51, rfl, rfl⟩ | ⟨a51, j51, hx51, rfl, rfl⟩)
   ·exact rdk_bad (by rw [typeF, if_pos hva]; rw [hx33]; simp only; rw [hi35]; simp only; rw [hx39]; simp only; rw [if_pos hsa]; rw [hx44]; simp only; rw [h3, if_neg Bool.false_ne_true, hx51]) rfl
   refine al_o (op_list encR [a51] u44 info46 rfl rfl (by decide) rfl (by decide) rfl (by first | rfl | (repeat (first | exact parts_nil | refine parts_cons rfl (by repeat (first | exact all_live_nil | refine all_live_clo rfl ?_ | refine all_live_slice rfl ?_ | refine all_live_map rfl ?_ | refine all_live_ptr rfl ?_)) ?_))) rfl rfl rfl (elem1 _)) ?_
   refine al_fp u46 info44 ?_
   refine al_sp info44 ?_
   refine al_sr ?_
   refine al_ld u46 info46 ?_
   refine al_sp info46 ?_
   refine al_nil ?_
   refine aw_ret ?_
   refine ⟨_, res_cell rfl u46 info46 rfl rfl rfl rfl, ?_⟩
   exact rdk_ok (Tr.mk (tokAt l i).text [a35] [a51] (tokAt l i).line (tokAt l i).col) j51 (by rw [typeF, if_pos hva]; rw [hx33]; simp only; rw [hi35]; simp only; rw [hx39]; simp only; rw [if_pos hsa]; rw [hx44]; simp only; rw [h3, if_neg Bool.false_ne_true, hx51]) rfl
  have gh2 := h2
  simp only [nrm] at h2
  have hsa : ((tokAt l i).text == sArray) = false := gh2
  refine aw_skip ?_
  refine aw_sr ?_
  refine al_ld u46 info46 ?_
  refine al_sp info46 ?_
  refine al_nil ?_
  refine aw_ret ?_
  refine ⟨_, res_cell rfl u46 info46 rfl rfl rfl rfl, ?_⟩
  exact rdk_ok (Tr.mk (tokAt l i).text [a35] [] (tokAt l i).line (tokAt l i).col) (j35 + 1) (by rw [typeF, if_pos hva]; rw [hx33]; simp only; rw [hi35]; simp only; rw [hx39]; simp only; rw [hsa, if_neg Bool.false_ne_true]) rfl
 have gh1 := h1
 refine aw_region ?_
 refine al_mv ?_
 refine al_call into94 rfl rfl rfl (rd_lift rfl (fun _ => rfl) (e_name v0 l hl hn i 40 (by decide) hi) _ (by rfl)) (by simp) ?_; rintro _ _ (⟨g15, i15, d15, hx15, rfl, rfl⟩ | ⟨a15, j15, hx15, rfl, rfl⟩)
 ·exact rdk_bad (by obtain ⟨g, rfl⟩ := kind_bad hx15; rw [typeF, h1, if_neg Bool.false_ne_true, g]; rfl) rfl
 obtain ⟨rfl, rfl, hop15⟩ := kind_ok hx15
 refine al_fp u46 info9 ?_
 refine al_sp info9 ?_
 refine al_nil ?_
 refine aw_seq ?_
 refine aw_sr ?_
 refine al_fp u46 info9 ?_
 refine al_ld u9 info9 ?_
 refine al_o (op_seql_str rfl rfl) ?_
 refine al_nil ?_
 refine aw_cond rfl (fun h4 => ?_) (fun h4 => ?_)
 ·have gh4 := h4
  simp only [nrm] at h4
  rw [show ((tokAt l i).text == [97, 114, 114, 97, 121]) = false from hnm i hop15] at gh4; cases gh4
 have gh4 := h4
 simp only [nrm] at h4
 refine aw_skip ?_
 refine aw_sr ?_
 refine al_ld u46 info46 ?_
 refine al_sp info46 ?_
 refine al_nil ?_
 refine aw_ret ?_
 refine ⟨_, res_cell rfl u46 info46 rfl rfl rfl rfl, ?_⟩
 exact rdk_ok (Tr.mk (tokAt l i).text [] [] (tokAt l i).line (tokAt l i).col) (i + 1) (by rw [typeF, h1, if_neg Bool.false_ne_true, if_pos hop15]) rfl
theorem e_type (v0 : Nat) (l : List Tk) (hl : OKTs l) (hn : l.length ≤ 1000000000) (hnm : ∀ i, ((tokAt l i).op == 1) = true → ((tokAt l i).text == sArray) = false) (i : Nat) (hi : i ≤ l.length) : AC Tryz.prog 47 [.ptr 0 v0 0 0] (rd v0 l i (40) []) (RdK v0 l (40) encRr (typeP l i)) :=
  e_typeF v0 l hl hn hnm i hi (type0 l) (fun _ v0 j hj hja => e_typeF v0 l hl hn hnm j hj (fun _ => .bad eofF) (fun h => by rw [hja] at h; cases h))
end Go.Proofs.YtcgdlhkiecommaaGreatDoor
/- Printed walks (gen.py, lexer_ann.py): part 408. -/



namespace Go.Proofs.YtcgdlhkiecommaaGreatDoor
open Go
theorem callk_pan {P : Program} {n : Nat} {ops : Array Oper} {rest : List Oper} {Q : APost} {env : Env} {d : Option Tmp} {a : AVal} {σ' : Store} (h : Q (.panic a) env σ') : CallK P n ops rest Q env d (.pan a) σ' := h
theorem thenD_pan {next : Env → Store → ADefs → Prop} {Q : DPost} {a : AVal} {env : Env} {σ : Store} {D : ADefs} (h : Q (.panic a) env σ D) : AExit.thenD next Q (.panic a) env σ D := h
theorem e_catch_p (g : Flt) (v6 v8 v36 : Nat) (o6 o36 : AObj) : ACDp Tryz.prog 77 [.ptr 8 v8 0 0] (faultI g) [(6, v6, o6), (8, v8, .row 4 [encF okF]), (36, v36, o36)] (fun σ' => ∃ v, σ' = [(6, v6, o6), (8, v8, .row 4 [encF g]), (36, v36, o36), (103, v, .row 4 [encF g])]) := by
 refine acdp_of (nt := 14) (t := 5) Tryz.func77 rfl rfl (by simp) (by decide) rfl ?_
 refine aw_block ?_
 refine aw_sr ?_
 refine al_o (op_ifn_eql (by kernel_rfl) rfl rfl (.inr ⟨⟨_, _, rfl⟩, rfl⟩)) ?_
 refine al_nil ?_
 refine aw_cond rfl (fun h1 => ?_) (fun h1 => ?_)
 ·have gh1 := h1
  cases gh1
 have gh1 := h1
 simp only [nrm] at h1
 refine aw_sr ?_
 refine al_o (op_assert_agg (vals := [.int .i64 g.code, .string (str g.name), .int .i64 g.line, .int .i64 g.col]) u40 rfl rfl) ?_
 refine al_xt ?_
 refine al_xt ?_
 refine al_nil ?_
 refine aw_cond rfl (fun h2 => ?_) (fun h2 => ?_)
 ·have gh2 := h2
  simp only [nrm] at h2
  refine aw_sr ?_
  refine al_al 103 info40 fun ver3 => ?_
  refine al_sp info40 ?_
  refine al_nil ?_
  refine aw_region ?_
  refine al_mv ?_
  refine al_ld u40 info40 ?_
  refine al_o (op_nilCheck_ptr rfl rfl) ?_
  refine al_sp info40 ?_
  refine al_nil ?_
  exact ⟨.inl rfl, _, rfl⟩
 have gh2 := h2
 cases gh2
theorem e_catch_r (σ : Store) (v8 : Nat) : ACDr Tryz.prog 77 [.ptr 8 v8 0 0] σ (fun σ' => σ' = σ) := by
 refine acdr_of (nt := 14) (t := 5) Tryz.func77 rfl rfl (by simp) (by decide) rfl ?_
 refine aw_block ?_
 refine aw_sr ?_
 refine al_o (op_ifn_eql (by kernel_rfl) rfl rfl (.inl ⟨rfl, rfl⟩)) ?_
 refine al_nil ?_
 refine aw_cond rfl (fun h1 => ?_) (fun h1 => ?_)
 ·have gh1 := h1
  simp only [nrm] at h1
  refine aw_region ?_
  refine al_gs ?_
  refine al_nil ?_
  exact ⟨.inl rfl, rfl⟩
 have gh1 := h1
 cases gh1
theorem e_readE (g : FuncId) (hin : Into Tryz.prog g) (l : List Tk) (hl : OKTs l) (hn : l.length ≤ 1000000000) (p : Int) (x : Nat → Rd Ex) (hw : (textP l).2 = 0 → ∀ v0 i, i ≤ l.length → AC Tryz.prog g [.ptr 0 v0 0 0] (rd v0 l i 40 []) (RdK v0 l 40 encX (x i))) : AC Tryz.prog 39 [.list 5 (l.map encK), .v (.int .i64 (p)), .v (.func (.func g) #[] #[])] ([]) (fun r σ' => r = .ret (encP encX (readP ex0 l p x)) ∧ σ'.keep (fun _ => false) = []) := by
 refine acd_enter 46 Tryz.func39 rfl rfl (by simp) ?_
 refine awd_seq ?_
 refine awd_region_l ?_
 refine al_al 6 info37 fun ver6 => ?_
 refine al_gs ?_
 refine al_al 8 info40 fun ver8 => ?_
 refine al_nil ?_
 refine awd_seq ?_
 refine awd_seq ?_
 refine awd_region_l ?_
 refine al_mv ?_
 refine al_callp into53 rfl rfl rfl (c_Text l hl (by omega) _) (by simp) ?_
 refine al_mv ?_
 refine al_xt ?_
 refine al_xt ?_
 refine al_gs ?_
 refine al_gs ?_
 refine al_nil ?_
 refine awd_seq ?_
 refine awd_region_l ?_
 refine al_mv ?_
 refine al_o (op_neq rfl rfl) ?_
 refine al_mv ?_
 apply al_or 3 20 23 rfl
 ·intro h1; have gh1 := h1
  simp only [nrm] at h1
  refine tk_mv ?_
  refine al_t (op_lss rfl rfl) ?_
  refine al_pk ?_
  exact al_nk gh1
 ·intro h1; have gh1 := h1
  simp only [nrm] at h1
  iterate 2 refine al_ps ?_
  refine al_pk ?_
  exact al_nk gh1
 refine al_mv ?_
 apply al_or 5 24 29 rfl
 ·intro h2; have gh2 := h2
  simp only [nrm] at h2
  refine tk_mv ?_
  refine tk_mv ?_
  refine al_t (op_len_map u22 rfl) ?_
  refine al_t (op_gtr rfl rfl) ?_
  refine al_pk ?_
  exact al_nk gh2
 ·intro h2; have gh2 := h2
  simp only [nrm] at h2
  iterate 4 refine al_ps ?_
  refine al_pk ?_
  exact al_nk gh2
 refine al_nil ?_
 refine awd_cond rfl (fun h3 => ?_) (fun h3 => ?_)
 ·have gh3 := h3
  simp only [nrm] at h3
  refine awd_seq ?_
  refine awd_region_l ?_
  refine al_ld u37 info37 ?_
  refine al_o (op_bs u40 info40 place40) ?_
  refine al_sp info37 ?_
  refine al_gs ?_
  refine al_sp info40 ?_
  refine al_nil ?_
  refine awd_ret ?_
  refine ⟨_, res_head (b := encX ex0) (res_cell_tmp_cell rfl u37 info37 u40 info40 rfl rfl rfl rfl rfl rfl rfl rfl rfl rfl rfl rfl) (.agg _ _ (by repeat (first | exact reL_nil | refine reL_cons (.same _) ?_ | refine reL_cons (.vnil _) ?_))) rfl rfl, ?_⟩
  exact ⟨by rw [readP_arg gh3] <;> rfl, rfl⟩
 have gh3 := h3
 simp only [nrm] at h3
 refine awd_skip ?_
 refine awd_seq ?_
 have hc : (((textP l).2 != 0 || decide (p < 0)) || decide (p > (l.length : Int))) = false := gh3
 have htx : (textP l).2 = 0 := by have := hc; simp at this; exact this.1.1
 obtain ⟨i, rfl⟩ := Int.eq_ofNat_of_zero_le (show 0 ≤ p by have := hc; simp at this; omega)
 have hil : i ≤ l.length := by have := hc; simp at this; omega
 refine awd_region ?_
 refine ald_defer rfl rfl ?_
 refine ald_nil ?_
 refine awd_seq ?_
 refine awd_region_l ?_
 refine al_mv ?_
 refine al_mv ?_
 refine al_o (op_bs u40 info40 place40) ?_
 refine al_o (op_bs u105 info105 place105) ?_
 refine al_bx 36 fun ver36 => ?_
 refine al_gs ?_
 refine al_nil ?_
 refine awd_seq ?_
 refine awd_region_l ?_
 refine al_mv ?_
 refine al_mv ?_
 refine al_call hin rfl rfl rfl (rd_call 36 (by decide) (fun _ => rfl) (hw htx ver36 i (by omega)) rfl (by rfl)) (by simp) ?_; rintro _ _ (⟨g39, i39, d39, hx39, rfl, rfl⟩ | ⟨a39, j39, hx39, rfl, rfl⟩)
 ·apply callk_pan; apply thenD_pan
  refine retd_pan2 into77 (e_catch_p g39 ver6 ver8 ver36 (.row 16 [zeroE]) (.row 7 [rdr l i39 d39])) ?_ ?_ ?_
  · rfl
  · rfl
  rintro _ ⟨v39, rfl⟩
  refine ⟨_, res_head (b := encX ex0) (res_cell_tmp_cell rfl u37 info37 u40 info40 rfl rfl rfl rfl rfl rfl rfl rfl rfl rfl rfl rfl) (.agg _ _ (by repeat (first | exact reL_nil | refine reL_cons (.same _) ?_ | refine reL_cons (.vnil _) ?_))) rfl rfl, ?_⟩
  exact ⟨by rw [readP_bad hc hx39] <;> rfl, rfl⟩
 refine al_al 12 info37 fun ver12 => ?_
 refine al_sp info37 ?_
 refine al_nil ?_
 refine awd_seq ?_
 refine awd_plan [0, 1, 2, 3, 4, 5, 6, 7, 8] (Checked.mixed Tryz.checked) (by kernel_rfl) ?_
 refine afl_float rfl rfl (opk_of (op_load_ptr u37 info37 rfl rfl rfl rfl)) (by simp) ?_
 refine afl_float rfl rfl (opk_of (op_move rfl)) (by simp) ?_
 refine afl_float rfl rfl (opk_of (op_nilCheck_ptr rfl rfl)) (by simp) ?_
 refine afl_float rfl rfl (opk_of (op_field_ptr u105 rfl info3 (by decide) rfl rfl rfl)) (by simp) ?_
 refine afl_float rfl rfl (opk_of (op_load_ptr u3 info3 rfl rfl rfl rfl)) (by simp) ?_
 refine afl_float rfl rfl (opk_of (op_load_ptr u40 info40 rfl rfl rfl rfl)) (by simp) ?_
 (refine afl_eff rfl rfl (by kernel_rfl) (op_sp info37) (by simp) ?_ ?_)
 ·
  refine loose_k rfl (opk_of (op_load_ptr u40 info40 rfl rfl rfl rfl)) ?_
  refine loose_k rfl (opk_of (op_load_ptr u3 info3 rfl rfl rfl rfl)) ?_
  refine loose_k rfl (opk_of (op_field_ptr u105 rfl info3 (by decide) rfl rfl rfl)) ?_
  refine loose_k rfl (opk_of (op_nilCheck_ptr rfl rfl)) ?_
  refine loose_k rfl (opk_of (op_move rfl)) ?_
  refine loose_anc 0 rfl (by kernel_rfl) ?_
  exact loose_nil
 refine afl_float rfl rfl (opk_of (op_assign rfl)) (by simp) ?_
 (refine afl_eff rfl rfl (by kernel_rfl) (op_sp info40) (by simp) ?_ ?_)
 ·
  refine loose_anc 7 rfl (by kernel_rfl) ?_
  refine loose_fix rfl ?_
  refine loose_anc 5 rfl (by kernel_rfl) ?_
  refine loose_anc 4 rfl (by kernel_rfl) ?_
  refine loose_anc 3 rfl (by kernel_rfl) ?_
  refine loose_anc 2 rfl (by kernel_rfl) ?_
  refine loose_anc 1 rfl (by kernel_rfl) ?_
  refine loose_anc 0 rfl (by kernel_rfl) ?_
  exact loose_nil
 refine afl_end ?_
 refine awd_ret ?_
 refine retd_ret into77 (e_catch_r _ ver8) ?_
 rintro _ rfl
 refine ⟨_, res_cell_tmp_cell rfl u37 info37 u40 info40 rfl rfl rfl rfl rfl rfl rfl rfl rfl rfl rfl rfl, ?_⟩
 exact ⟨by rw [readP_ok hc hx39] <;> rfl, rfl⟩
theorem e_readEP (g : FuncId) (hin : Into Tryz.prog g) (l : List Tk) (hl : OKTs l) (hn : l.length ≤ 1000000000) (p : Int) (x : Nat → Rd Ex) (hw : (textP l).2 = 0 → ∀ v0 i, i ≤ l.length → AC Tryz.prog g [.ptr 0 v0 0 0] (rd v0 l i 40 []) (RdK v0 l 40 encX (x i))) : ACp Tryz.prog 39 [.list 5 (l.map encK), .v (.int .i64 (p)), .v (.func (.func g) #[] #[])] (encP encX (readP ex0 l p x)) :=
  acp_of rfl (ac_mono (ac_keep (fun _ => false) (e_readE g hin l hl hn p x hw)) (by rintro x σ1 ⟨σ2, ⟨rfl, e⟩, rfl⟩; exact ⟨rfl, e⟩))
theorem e_readT (g : FuncId) (hin : Into Tryz.prog g) (l : List Tk) (hl : OKTs l) (hn : l.length ≤ 1000000000) (p : Int) (x : Nat → Rd Tr) (hw : (textP l).2 = 0 → ∀ v0 i, i ≤ l.length → AC Tryz.prog g [.ptr 0 v0 0 0] (rd v0 l i 40 []) (RdK v0 l 40 encRr (x i))) : AC Tryz.prog 46 [.list 5 (l.map encK), .v (.int .i64 (p)), .v (.func (.func g) #[] #[])] ([]) (fun r σ' => r = .ret (encP encRr (readP tr0 l p x)) ∧ σ'.keep (fun _ => false) = []) := by
 refine acd_enter 46 Tryz.func46 rfl rfl (by simp) ?_
 refine awd_seq ?_
 refine awd_region_l ?_
 refine al_al 6 info46 fun ver6 => ?_
 refine al_gs ?_
 refine al_al 8 info40 fun ver8 => ?_
 refine al_nil ?_
 refine awd_seq ?_
 refine awd_seq ?_
 refine awd_region_l ?_
 refine al_mv ?_
 refine al_callp into53 rfl rfl rfl (c_Text l hl (by omega) _) (by simp) ?_
 refine al_mv ?_
 refine al_xt ?_
 refine al_xt ?_
 refine al_gs ?_
 refine al_gs ?_
 refine al_nil ?_
 refine awd_seq ?_
 refine awd_region_l ?_
 refine al_mv ?_
 refine al_o (op_neq rfl rfl) ?_
 refine al_mv ?_
 apply al_or 3 20 23 rfl
 ·intro h1; have gh1 := h1
  simp only [nrm] at h1
  refine tk_mv ?_
  refine al_t (op_lss rfl rfl) ?_
  refine al_pk ?_
  exact al_nk gh1
 ·intro h1; have gh1 := h1
  simp only [nrm] at h1
  iterate 2 refine al_ps ?_
  refine al_pk ?_
  exact al_nk gh1
 refine al_mv ?_
 apply al_or 5 24 29 rfl
 ·intro h2; have gh2 := h2
  simp only [nrm] at h2
  refine tk_mv ?_
  refine tk_mv ?_
  refine al_t (op_len_map u22 rfl) ?_
  refine al_t (op_gtr rfl rfl) ?_
  refine al_pk ?_
  exact al_nk gh2
 ·intro h2; have gh2 := h2
  simp only [nrm] at h2
  iterate 4 refine al_ps ?_
  refine al_pk ?_
  exact al_nk gh2
 refine al_nil ?_
 refine awd_cond rfl (fun h3 => ?_) (fun h3 => ?_)
 ·have gh3 := h3
  simp only [nrm] at h3
  refine awd_seq ?_
  refine awd_region_l ?_
  refine al_ld u46 info46 ?_
  refine al_o (op_bs u40 info40 place40) ?_
  refine al_sp info46 ?_
  refine al_gs ?_
  refine al_sp info40 ?_
  refine al_nil ?_
  refine awd_ret ?_
  refine ⟨_, res_head (b := encRr tr0) (res_cell_tmp_cell rfl u46 info46 u40 info40 rfl rfl rfl rfl rfl rfl rfl rfl rfl rfl rfl rfl) (.agg _ _ (by repeat (first | exact reL_nil | refine reL_cons (.same _) ?_ | refine reL_cons (.vnil _) ?_))) rfl rfl, ?_⟩
  exact ⟨by rw [readP_arg gh3] <;> rfl, rfl⟩
 have gh3 := h3
 simp only [nrm] at h3
 refine awd_skip ?_
 refine awd_seq ?_
 have hc : (((textP l).2 != 0 || decide (p < 0)) || decide (p > (l.length : Int))) = false := gh3
 have htx : (textP l).2 = 0 := by have := hc; simp at this; exact this.1.1
 obtain ⟨i, rfl⟩ := Int.eq_ofNat_of_zero_le (show 0 ≤ p by have := hc; simp at this; omega)
 have hil : i ≤ l.length := by have := hc; simp at this; omega
 refine awd_region ?_
 refine ald_defer rfl rfl ?_
 refine ald_nil ?_
 refine awd_seq ?_
 refine awd_region_l ?_
 refine al_mv ?_
 refine al_mv ?_
 refine al_o (op_bs u40 info40 place40) ?_
 refine al_o (op_bs u105 info105 place105) ?_
 refine al_bx 36 fun ver36 => ?_
 refine al_gs ?_
 refine al_nil ?_
 refine awd_seq ?_
 refine awd_region_l ?_
 refine al_mv ?_
 refine al_mv ?_
 refine al_call hin rfl rfl rfl (rd_call 36 (by decide) (fun _ => rfl) (hw htx ver36 i (by omega)) rfl (by rfl)) (by simp) ?_; rintro _ _ (⟨g39, i39, d39, hx39, rfl, rfl⟩ | ⟨a39, j39, hx39, rfl, rfl⟩)
 ·apply callk_pan; apply thenD_pan
  refine retd_pan2 into77 (e_catch_p g39 ver6 ver8 ver36 (.row 5 [zeroR]) (.row 7 [rdr l i39 d39])) ?_ ?_ ?_
  · rfl
  · rfl
  rintro _ ⟨v39, rfl⟩
  refine ⟨_, res_head (b := encRr tr0) (res_cell_tmp_cell rfl u46 info46 u40 info40 rfl rfl rfl rfl rfl rfl rfl rfl rfl rfl rfl rfl) (.agg _ _ (by repeat (first | exact reL_nil | refine reL_cons (.same _) ?_ | refine reL_cons (.vnil _) ?_))) rfl rfl, ?_⟩
  exact ⟨by rw [readP_bad hc hx39] <;> rfl, rfl⟩
 refine al_al 12 info46 fun ver12 => ?_
 refine al_sp info46 ?_
 refine al_nil ?_
 refine awd_seq ?_
 refine awd_plan [0, 1, 2, 3, 4, 5, 6, 7, 8] (Checked.mixed Tryz.checked) (by kernel_rfl) ?_
 refine afl_float rfl rfl (opk_of (op_load_ptr u46 info46 rfl rfl rfl rfl)) (by simp) ?_
 refine afl_float rfl rfl (opk_of (op_move rfl)) (by simp) ?_
 refine afl_float rfl rfl (opk_of (op_nilCheck_ptr rfl rfl)) (by simp) ?_
 refine afl_float rfl rfl (opk_of (op_field_ptr u105 rfl info3 (by decide) rfl rfl rfl)) (by simp) ?_
 refine afl_float rfl rfl (opk_of (op_load_ptr u3 info3 rfl rfl rfl rfl)) (by simp) ?_
 refine afl_float rfl rfl (opk_of (op_load_ptr u40 info40 rfl rfl rfl rfl)) (by simp) ?_
 (refine afl_eff rfl rfl (by kernel_rfl) (op_sp info46) (by simp) ?_ ?_)
 ·
  refine loose_k rfl (opk_of (op_load_ptr u40 info40 rfl rfl rfl rfl)) ?_
  refine loose_k rfl (opk_of (op_load_ptr u3 info3 rfl rfl rfl rfl)) ?_
  refine loose_k rfl (opk_of (op_field_ptr u105 rfl info3 (by decide) rfl rfl rfl)) ?_
  refine loose_k rfl (opk_of (op_nilCheck_ptr rfl rfl)) ?_
  refine loose_k rfl (opk_of (op_move rfl)) ?_
  refine loose_anc 0 rfl (by kernel_rfl) ?_
  exact loose_nil
 refine afl_float rfl rfl (opk_of (op_assign rfl)) (by simp) ?_
 (refine afl_eff rfl rfl (by kernel_rfl) (op_sp info40) (by simp) ?_ ?_)
 ·
  refine loose_anc 7 rfl (by kernel_rfl) ?_
  refine loose_fix rfl ?_
  refine loose_anc 5 rfl (by kernel_rfl) ?_
  refine loose_anc 4 rfl (by kernel_rfl) ?_
  refine loose_anc 3 rfl (by kernel_rfl) ?_
  refine loose_anc 2 rfl (by kernel_rfl) ?_
  refine loose_anc 1 rfl (by kernel_rfl) ?_
  refine loose_anc 0 rfl (by kernel_rfl) ?_
  exact loose_nil
 refine afl_end ?_
 refine awd_ret ?_
 refine retd_ret into77 (e_catch_r _ ver8) ?_
 rintro _ rfl
 refine ⟨_, res_cell_tmp_cell rfl u46 info46 u40 info40 rfl rfl rfl rfl rfl rfl rfl rfl rfl rfl rfl rfl, ?_⟩
 exact ⟨by rw [readP_ok hc hx39] <;> rfl, rfl⟩
theorem e_readTP (g : FuncId) (hin : Into Tryz.prog g) (l : List Tk) (hl : OKTs l) (hn : l.length ≤ 1000000000) (p : Int) (x : Nat → Rd Tr) (hw : (textP l).2 = 0 → ∀ v0 i, i ≤ l.length → AC Tryz.prog g [.ptr 0 v0 0 0] (rd v0 l i 40 []) (RdK v0 l 40 encRr (x i))) : ACp Tryz.prog 46 [.list 5 (l.map encK), .v (.int .i64 (p)), .v (.func (.func g) #[] #[])] (encP encRr (readP tr0 l p x)) :=
  acp_of rfl (ac_mono (ac_keep (fun _ => false) (e_readT g hin l hl hn p x hw)) (by rintro x σ1 ⟨σ2, ⟨rfl, e⟩, rfl⟩; exact ⟨rfl, e⟩))
end Go.Proofs.YtcgdlhkiecommaaGreatDoor
/- Printed walks (gen.py, lexer_ann.py): part 409. -/




namespace Go.Proofs.YtcgdlhkiecommaaGreatDoor
open Go
theorem q_Parse (l : List Tk) (hl : OKTs l) (hn : l.length ≤ 1000000000) (p : Int) : AC Tryz.prog 13 [.list 5 (l.map encK), .v (.int .i64 (p))] ([]) (fun r σ' => r = .ret (encP encX (readP ex0 l p (fun i => rowD l 40 4 i))) ∧ σ'.keep (fun _ => false) = []) := by
 refine ace 13 Tryz.func13 ?_
 refine aw_sr ?_
 refine al_al 4 info37 fun ver4 => ?_
 refine al_gs ?_
 refine al_al 6 info40 fun ver6 => ?_
 refine al_sr ?_
 refine al_mv ?_
 refine al_mv ?_
 refine al_callp into39 rfl rfl rfl (e_readEP 40 into40 l hl hn p (fun i => rowD l 40 4 i) (fun _ => (e_all l hl hn 40 (by decide)).2) _) (by simp) ?_
 refine al_xt ?_
 refine al_xt ?_
 refine al_xt ?_
 refine al_sp info37 ?_
 refine al_gs ?_
 refine al_sp info40 ?_
 refine al_nil ?_
 refine aw_ret ?_
 refine ⟨_, res_cell_tmp_cell rfl u37 info37 u40 info40 rfl rfl rfl rfl rfl rfl rfl rfl rfl rfl rfl rfl, ?_⟩
 exact ⟨rfl, rfl⟩
theorem c_Parse (l : List Tk) (hl : OKTs l) (hn : l.length ≤ 1000000000) (p : Int) : ACp Tryz.prog 13 [.list 5 (l.map encK), .v (.int .i64 (p))] (encP encX (readP ex0 l p (fun i => rowD l 40 4 i))) :=
  acp_of rfl (ac_mono (ac_keep (fun _ => false) (q_Parse l hl hn p)) (by rintro x σ1 ⟨σ2, ⟨rfl, e⟩, rfl⟩; exact ⟨rfl, e⟩))
theorem q_Target (l : List Tk) (hl : OKTs l) (hn : l.length ≤ 1000000000) (p : Int) : AC Tryz.prog 16 [.list 5 (l.map encK), .v (.int .i64 (p))] ([]) (fun r σ' => r = .ret (encP encX (readP ex0 l p (fun i => targetP l i))) ∧ σ'.keep (fun _ => false) = []) := by
 refine ace 13 Tryz.func16 ?_
 refine aw_sr ?_
 refine al_al 4 info37 fun ver4 => ?_
 refine al_gs ?_
 refine al_al 6 info40 fun ver6 => ?_
 refine al_sr ?_
 refine al_mv ?_
 refine al_mv ?_
 refine al_callp into39 rfl rfl rfl (e_readEP 44 into44 l hl hn p (fun i => targetP l i) (fun _ v0 i hi => e_target v0 l hl hn i hi) _) (by simp) ?_
 refine al_xt ?_
 refine al_xt ?_
 refine al_xt ?_
 refine al_sp info37 ?_
 refine al_gs ?_
 refine al_sp info40 ?_
 refine al_nil ?_
 refine aw_ret ?_
 refine ⟨_, res_cell_tmp_cell rfl u37 info37 u40 info40 rfl rfl rfl rfl rfl rfl rfl rfl rfl rfl rfl rfl, ?_⟩
 exact ⟨rfl, rfl⟩
theorem c_Target (l : List Tk) (hl : OKTs l) (hn : l.length ≤ 1000000000) (p : Int) : ACp Tryz.prog 16 [.list 5 (l.map encK), .v (.int .i64 (p))] (encP encX (readP ex0 l p (fun i => targetP l i))) :=
  acp_of rfl (ac_mono (ac_keep (fun _ => false) (q_Target l hl hn p)) (by rintro x σ1 ⟨σ2, ⟨rfl, e⟩, rfl⟩; exact ⟨rfl, e⟩))
theorem q_Type (l : List Tk) (hl : OKTs l) (hn : l.length ≤ 1000000000) (p : Int) : AC Tryz.prog 18 [.list 5 (l.map encK), .v (.int .i64 (p))] ([]) (fun r σ' => r = .ret (encP encRr (readP tr0 l p (fun i => typeP l i))) ∧ σ'.keep (fun _ => false) = []) := by
 refine ace 13 Tryz.func18 ?_
 refine aw_sr ?_
 refine al_al 4 info46 fun ver4 => ?_
 refine al_gs ?_
 refine al_al 6 info40 fun ver6 => ?_
 refine al_sr ?_
 refine al_mv ?_
 refine al_mv ?_
 refine al_callp into46 rfl rfl rfl (e_readTP 47 into47 l hl hn p (fun i => typeP l i) (fun h v0 i hi => e_type v0 l hl hn (name_array h) i hi) _) (by simp) ?_
 refine al_xt ?_
 refine al_xt ?_
 refine al_xt ?_
 refine al_sp info46 ?_
 refine al_gs ?_
 refine al_sp info40 ?_
 refine al_nil ?_
 refine aw_ret ?_
 refine ⟨_, res_cell_tmp_cell rfl u46 info46 u40 info40 rfl rfl rfl rfl rfl rfl rfl rfl rfl rfl rfl rfl, ?_⟩
 exact ⟨rfl, rfl⟩
theorem c_Type (l : List Tk) (hl : OKTs l) (hn : l.length ≤ 1000000000) (p : Int) : ACp Tryz.prog 18 [.list 5 (l.map encK), .v (.int .i64 (p))] (encP encRr (readP tr0 l p (fun i => typeP l i))) :=
  acp_of rfl (ac_mono (ac_keep (fun _ => false) (q_Type l hl hn p)) (by rintro x σ1 ⟨σ2, ⟨rfl, e⟩, rfl⟩; exact ⟨rfl, e⟩))
end Go.Proofs.YtcgdlhkiecommaaGreatDoor
/- Printed walks (gen.py, lexer_ann.py): part 411. -/





namespace Go.Proofs.YtcgdlhkiecommaaGreatDoor
open Go
theorem e_strength (s : Bs) : ACp Tryz.prog 165 [.v (.string (str (s)))] (.v (.int .i64 (strengthI s))) := by
 refine acp_of rfl ?_
 refine ace 21 Tryz.func165 ?_
 refine aw_sr ?_
 refine al_gs ?_
 refine al_nil ?_
 refine aw_seq ?_
 refine aw_sr ?_
 refine al_o (op_ol encBs (levelL 0) u32 info9) ?_
 refine al_o (op_ol encBs (levelL 1) u32 info9) ?_
 refine al_o (op_ol encBs (levelL 2) u32 info9) ?_
 refine al_o (op_ol encBs (levelL 3) u32 info9) ?_
 refine al_o (op_ol encSL levelsL u177 info32) ?_
 refine al_lm u177 ?_
 refine al_mv ?_
 refine al_nil ?_
 refine aw_block ?_
 refine aw_forT (ι := Nat) [2, 11] [] (fun i => 4 - i) (fun i => i ≤ 4 ∧ ∀ k, k < i → (levelL k).contains s = false) (fun i => ([(11, .v (.int .i64 ((i : Nat) : Int)))] : Env)) (fun i s => s) (0) ?_ ?_ ?_ (fun i hinv => ?_)
 ·exact ⟨by omega, fun k hk => absurd hk (Nat.not_lt_zero k)⟩
 ·refine sub_1 ?_
  all_goals (first | rfl | simp)
 ·rfl
 have hi := hinv.1
 have hlen : (levelsL.length : Int) = 4 := rfl
 refine aw_sr ?_
 refine al_ls ?_
 refine al_nil ?_
 refine aw_seq ?_
 refine aw_cond rfl (fun h1 => ?_) (fun h1 => ?_)
 ·have gh1 := h1
  simp only [nrm] at h1
  refine aw_skip ?_
  refine aw_seq ?_
  refine aw_block ?_
  refine aw_sr ?_
  refine al_mv ?_
  refine al_o (op_index_map default u177 info32 rfl rfl rfl (by first | (with_reducible exact Int.toNat_natCast _) | rfl) (by omega) (by show _ < 4; omega)) ?_
  refine al_lr u32 info32 ?_
  refine al_gs ?_
  refine al_gs ?_
  refine al_sr ?_
  refine al_mv ?_
  refine al_mv ?_
  refine al_callp into61 rfl rfl rfl (q_member (levelL i) s (level_len i) _) (by simp) ?_
  refine al_nil ?_
  refine aw_cond rfl (fun gh2 => ?_) (fun gh2 => ?_)
  ·refine aw_sr ?_
   refine al_mv ?_
   refine al_gs ?_
   refine al_nil ?_
   refine fz1 (t := 2) ?_
   refine aw_ret ?_
   refine ⟨_, res_1 rfl rfl, ?_, rfl⟩
   rw [str_found i (by omega) hinv.2 gh2]
  refine aw_skip ?_
  refine aw_region ?_
  refine al_ad ?_
  refine al_mv ?_
  refine al_nil ?_
  refine ⟨i + 1, ?_, ?_, ?_, ?_, ?_⟩
  ·omega
  ·exact ⟨by omega, str_more hinv.2 gh2⟩
  ·refine sub_1 ?_
   all_goals (first | rfl | simp)
  ·exact sbl
  ·rfl
 have gh1 := h1
 simp only [nrm] at h1
 refine aw_exit ?_
 refine aw_sr ?_
 refine al_gs ?_
 refine al_nil ?_
 refine fz1 (t := 2) ?_
 refine aw_ret ?_
 refine ⟨_, res_1 rfl rfl, ?_, rfl⟩
 rw [str_none (fun k hk => hinv.2 k (by omega))]
theorem e_binds (e : Ex) (hs : e.name.length ≤ 1000000000) : ACp Tryz.prog 144 [.agg (cellsE (e))] (.v (.int .i64 (bindsP e))) := by
 refine acp_of rfl ?_
 refine ace 20 Tryz.func144 ?_
 refine aw_sr ?_
 refine al_bx 1 fun ver1 => ?_
 refine al_gs ?_
 refine al_nil ?_
 refine aw_seq ?_
 refine aw_block ?_
 refine aw_sr ?_
 refine al_fp u37 info25 ?_
 refine al_ld u25 info25 ?_
 refine al_o (op_neq rfl rfl) ?_
 refine al_mv ?_
 apply al_or 4 7 11 rfl
 ·intro h1; have gh1 := h1
  simp only [nrm] at h1
  refine tk_fp u37 info9 ?_
  refine tk_ld u9 info9 ?_
  refine al_callp_take into66 rfl rfl rfl rfl rfl rfl ((c_isName _ (by first | assumption | omega | (simp; done) | (simp; omega) | decide)) _) (by simp) ?_
  refine al_pk ?_
  exact al_nk gh1
 ·intro h1; have gh1 := h1
  simp only [nrm] at h1
  iterate 3 refine al_ps ?_
  refine al_pk ?_
  exact al_nk gh1
 refine al_gs ?_
 refine al_nil ?_
 refine aw_cond rfl (fun h2 => ?_) (fun h2 => ?_)
 ·have gh2 := h2
  simp only [nrm] at h2
  refine aw_sr ?_
  refine al_gs ?_
  refine al_nil ?_
  refine fz1 (t := 2) ?_
  refine aw_ret ?_
  refine ⟨_, res_1 rfl rfl, ?_, rfl⟩
  rw [bindsP, gh2]; rfl
 have gh2 := h2
 simp only [nrm] at h2
 refine aw_sr ?_
 refine al_fp u37 info31 ?_
 refine al_ld u31 info31 ?_
 refine al_lm u31 ?_
 refine al_eq ?_
 refine al_gs ?_
 refine al_nil ?_
 refine aw_cond rfl (fun h3 => ?_) (fun h3 => ?_)
 ·have gh3 := h3
  simp only [nrm] at h3
  refine aw_sr ?_
  refine al_gs ?_
  refine al_nil ?_
  refine fz1 (t := 2) ?_
  refine aw_ret ?_
  refine ⟨_, res_1 rfl rfl, ?_, rfl⟩
  rw [bindsP, gh2, gh3]; rfl
 have gh3 := h3
 simp only [nrm] at h3
 refine aw_skip ?_
 refine aw_sr ?_
 refine al_fp u37 info9 ?_
 refine al_ld u9 info9 ?_
 refine al_callp into165 rfl rfl rfl ((e_strength _) _) (by simp) ?_
 refine al_gs ?_
 refine al_nil ?_
 refine fz1 (t := 2) ?_
 refine aw_ret ?_
 refine ⟨_, res_1 rfl rfl, ?_, rfl⟩
 rw [bindsP, gh2, gh3]; rfl
theorem e_none (v : Va) : ACp Tryz.prog 162 [.agg (cellsV v)] (.v (.bool (noneV v))) := by
 refine acp_of rfl ?_
 refine ace 23 Tryz.func162 ?_
 refine aw_sr ?_
 refine al_bx 1 fun ver1 => ?_
 refine al_gs ?_
 refine al_sr ?_
 refine al_fp u30 info27 ?_
 refine al_ld u27 info27 ?_
 refine al_eq ?_
 refine al_mv ?_
 apply al_and 4 6 10 rfl
 ·intro h1; have gh1 := h1
  simp only [nrm] at h1
  refine tk_fp u30 info3 ?_
  refine tk_ld u3 info3 ?_
  refine tk_eq ?_
  refine al_pk ?_
  exact al_nk gh1
 ·intro h1; have gh1 := h1
  simp only [nrm] at h1
  iterate 3 refine al_ps ?_
  refine al_pk ?_
  exact al_nk gh1
 refine al_mv ?_
 apply al_and 5 11 16 rfl
 ·intro h2; have gh2 := h2
  simp only [nrm] at h2
  refine tk_fp u30 info26 ?_
  refine tk_ld u26 info26 ?_
  refine al_t (op_len_map u26 rfl) ?_
  refine tk_eq ?_
  refine al_pk ?_
  exact al_nk gh2
 ·intro h2; have gh2 := h2
  iterate 4 refine al_ps ?_
  refine al_pk ?_
  exact al_nk gh2
 refine al_mv ?_
 apply al_and 5 17 22 rfl
 ·intro h3; have gh3 := h3
  simp only [nrm] at h3
  refine tk_fp u30 info28 ?_
  refine tk_ld u28 info28 ?_
  refine al_t (op_len_map u28 rfl) ?_
  refine tk_eq ?_
  refine al_pk ?_
  exact al_nk gh3
 ·intro h3; have gh3 := h3
  iterate 4 refine al_ps ?_
  refine al_pk ?_
  exact al_nk gh3
 refine al_gs ?_
 refine al_nil ?_
 refine fz1 (t := 2) ?_
 refine aw_ret ?_
 refine ⟨_, res_1 rfl rfl, ?_, rfl⟩
 rfl
theorem e_untyped (t : Ty) : ACp Tryz.prog 163 [.agg (cellsT t)] (.v (.bool (untyped t))) := by
 refine acp_of rfl ?_
 refine ace 28 Tryz.func163 ?_
 refine aw_sr ?_
 refine al_bx 1 fun ver1 => ?_
 refine al_gs ?_
 refine al_sr ?_
 refine al_fp u35 info27 ?_
 refine al_ld u27 info27 ?_
 refine al_eq ?_
 refine al_mv ?_
 apply al_and 4 6 10 rfl
 ·intro h1; have gh1 := h1
  simp only [nrm] at h1
  refine tk_fp u35 info3 ?_
  refine tk_ld u3 info3 ?_
  refine tk_eq ?_
  refine al_pk ?_
  exact al_nk gh1
 ·intro h1; have gh1 := h1
  simp only [nrm] at h1
  iterate 3 refine al_ps ?_
  refine al_pk ?_
  exact al_nk gh1
 refine al_mv ?_
 apply al_and 4 11 15 rfl
 ·intro h2; have gh2 := h2
  simp only [nrm] at h2
  refine tk_fp u35 info9 ?_
  refine tk_ld u9 info9 ?_
  refine al_t (op_seql_str rfl rfl) ?_
  refine al_pk ?_
  exact al_nk gh2
 ·intro h2; have gh2 := h2
  iterate 3 refine al_ps ?_
  refine al_pk ?_
  exact al_nk gh2
 refine al_mv ?_
 apply al_and 5 16 21 rfl
 ·intro h3; have gh3 := h3
  simp only [nrm] at h3
  refine tk_fp u35 info32 ?_
  refine tk_ld u32 info32 ?_
  refine al_t (op_len_map u32 rfl) ?_
  refine tk_eq ?_
  refine al_pk ?_
  exact al_nk gh3
 ·intro h3; have gh3 := h3
  iterate 4 refine al_ps ?_
  refine al_pk ?_
  exact al_nk gh3
 refine al_mv ?_
 apply al_and 5 22 27 rfl
 ·intro h4; have gh4 := h4
  simp only [nrm] at h4
  refine tk_fp u35 info33 ?_
  refine tk_ld u33 info33 ?_
  refine al_t (op_len_map u33 rfl) ?_
  refine tk_eq ?_
  refine al_pk ?_
  exact al_nk gh4
 ·intro h4; have gh4 := h4
  iterate 4 refine al_ps ?_
  refine al_pk ?_
  exact al_nk gh4
 refine al_gs ?_
 refine al_nil ?_
 refine fz1 (t := 2) ?_
 refine aw_ret ?_
 refine ⟨_, res_1 rfl rfl, ?_, rfl⟩
 rfl
theorem e_isBit (x : Int) : ACp Tryz.prog 193 [.v (.int .u8 (x))] (.v (.bool (decide (x ≤ 3)))) := by
 refine acp_of rfl ?_
 refine ace 5 Tryz.func193 ?_
 refine aw_sr ?_
 refine al_gs ?_
 refine al_sr ?_
 refine al_mv ?_
 refine al_o (op_leq rfl rfl) ?_
 refine al_gs ?_
 refine al_nil ?_
 refine fz1 (t := 2) ?_
 refine aw_ret ?_
 refine ⟨_, res_1 rfl rfl, ?_, rfl⟩
 rfl
theorem e_is1 (x : Int) : ACp Tryz.prog 192 [.v (.int .u8 (x))] (.v (.bool (!decide (x ≤ 3)))) := by
 refine acp_of rfl ?_
 refine ace 6 Tryz.func192 ?_
 refine aw_sr ?_
 refine al_gs ?_
 refine al_sr ?_
 refine al_mv ?_
 refine al_callp into193 rfl rfl rfl ((e_isBit _) _) (by simp) ?_
 refine al_o (op_not rfl) ?_
 refine al_gs ?_
 refine al_nil ?_
 refine fz1 (t := 2) ?_
 refine aw_ret ?_
 refine ⟨_, res_1 rfl rfl, ?_, rfl⟩
 rfl
theorem e_idxB (b : List Int) (hb : b.length ≤ 1000000000) : ACp Tryz.prog 205 [.list 1 (b.map encB), .v (.func (.func 192) #[] #[])] (.v (.int .i64 ((if b.any (fun x => !(decide (x ≤ 3))) then ((b.findIdx (fun x => !(decide (x ≤ 3))) : Nat) : Int) else -1)))) := by
 refine acp_of rfl ?_
 refine ace 19 Tryz.func205 ?_
 refine aw_sr ?_
 refine al_gs ?_
 refine al_nil ?_
 refine aw_seq ?_
 refine aw_sr ?_
 refine al_mv ?_
 refine al_lm u26 ?_
 refine al_mv ?_
 refine al_nil ?_
 refine aw_block ?_
 refine aw_forT (ι := Nat) [4, 8] [] (fun i => b.length - i) (fun i => i ≤ b.length ∧ ∀ k, k < i → (fun x => !(decide (x ≤ 3))) (b.getD k default) = false) (fun i => ([(8, .v (.int .i64 ((i : Nat) : Int)))] : Env)) (fun i s => s) (0) ?_ ?_ ?_ (fun i hinv => ?_)
 ·exact ⟨Nat.zero_le _, fun k hk => absurd hk (Nat.not_lt_zero k)⟩
 ·refine sub_1 ?_
  all_goals (first | rfl | simp)
 ·rfl
 have hi := hinv.1
 refine aw_sr ?_
 refine al_ls ?_
 refine al_nil ?_
 refine aw_seq ?_
 refine aw_cond rfl (fun h1 => ?_) (fun h1 => ?_)
 ·have gh1 := h1
  simp only [nrm] at h1
  refine aw_skip ?_
  refine aw_seq ?_
  refine aw_block ?_
  refine aw_sr ?_
  refine al_mv ?_
  refine al_gs ?_
  refine al_sr ?_
  refine al_mv ?_
  refine al_mv ?_
  refine al_mv ?_
  refine al_o (op_im u26 info97) ?_
  refine al_lr u97 info97 ?_
  refine al_callp into192 rfl rfl rfl ((e_is1 _) _) (by simp) ?_
  refine al_nil ?_
  refine aw_cond rfl (fun h2 => ?_) (fun h2 => ?_)
  ·have gh2 := h2
   simp only [nrm] at h2
   refine aw_sr ?_
   refine al_mv ?_
   refine al_gs ?_
   refine al_nil ?_
   refine fz1 (t := 4) ?_
   refine aw_ret ?_
   refine ⟨_, res_1 rfl rfl, ?_, rfl⟩
   rw [if_pos (any_found i (by omega) gh2), findIdx_at i (by omega) hinv.2 gh2]
  have gh2 := h2
  simp only [nrm] at h2
  refine aw_skip ?_
  refine aw_region ?_
  refine al_ad ?_
  refine al_mv ?_
  refine al_nil ?_
  refine ⟨i + 1, ?_, ?_, ?_, ?_, ?_⟩
  ·omega
  ·exact ⟨by omega, idx_more (p := fun k => (fun x => !(decide (x ≤ 3))) (b.getD k default)) hinv.2 gh2⟩
  ·refine sub_1 ?_
   all_goals (first | rfl | simp)
  ·exact sbl
  ·rfl
 have gh1 := h1
 simp only [nrm] at h1
 refine aw_exit ?_
 refine aw_sr ?_
 refine al_gs ?_
 refine al_nil ?_
 refine fz1 (t := 4) ?_
 refine aw_ret ?_
 refine ⟨_, res_1 rfl rfl, ?_, rfl⟩
 rw [if_neg (by rw [any_none (p := fun x => !(decide (x ≤ 3))) (fun k hk => hinv.2 k (by omega))]; exact Bool.false_ne_true)]
theorem e_conB (b : List Int) (hb : b.length ≤ 1000000000) : ACp Tryz.prog 191 [.list 1 (b.map encB), .v (.func (.func 192) #[] #[])] (.v (.bool (b.any (fun x => !(decide (x ≤ 3)))))) := by
 refine acp_of rfl ?_
 refine ace 9 Tryz.func191 ?_
 refine aw_sr ?_
 refine al_gs ?_
 refine al_sr ?_
 refine al_mv ?_
 refine al_mv ?_
 refine al_callp into205 rfl rfl rfl ((e_idxB _ (by first | assumption | omega | (simp; done) | (simp; omega) | decide)) _) (by simp) ?_
 refine al_o (op_geq rfl rfl) ?_
 refine al_gs ?_
 refine al_nil ?_
 refine fz1 (t := 4) ?_
 refine aw_ret ?_
 refine ⟨_, res_1 rfl rfl, ?_, rfl⟩
 cases hany : b.any (fun x => !(decide (x ≤ 3))) <;> simp <;> omega
theorem e_isBits (b : List Int) (hb : b.length ≤ 1000000000) : ACp Tryz.prog 164 [.list 1 (b.map encB)] (.v (.bool (isBits b))) := by
 refine acp_of rfl ?_
 refine ace 16 Tryz.func164 ?_
 refine aw_sr ?_
 refine al_gs ?_
 refine al_sr ?_
 refine al_mv ?_
 refine al_lm u26 ?_
 refine al_o (op_geq rfl rfl) ?_
 refine al_mv ?_
 apply al_and 4 6 10 rfl
 ·intro h1; have gh1 := h1
  simp only [nrm] at h1
  refine tk_mv ?_
  refine al_t (op_len_map u26 rfl) ?_
  refine al_t (op_leq rfl rfl) ?_
  refine al_pk ?_
  exact al_nk gh1
 ·intro h1; have gh1 := h1
  simp only [nrm] at h1
  iterate 3 refine al_ps ?_
  refine al_pk ?_
  exact al_nk gh1
 refine al_mv ?_
 apply al_and 4 11 15 rfl
 ·intro h2; have gh2 := h2
  simp only [nrm] at h2
  refine tk_mv ?_
  refine al_callp_take into191 rfl rfl rfl rfl rfl rfl ((e_conB _ (by first | assumption | omega | (simp; done) | (simp; omega) | decide)) _) (by simp) ?_
  refine al_t (op_not rfl) ?_
  refine al_pk ?_
  exact al_nk gh2
 ·intro h2; have gh2 := h2
  simp only [nrm] at h2
  iterate 3 refine al_ps ?_
  refine al_pk ?_
  exact al_nk gh2
 refine al_gs ?_
 refine al_nil ?_
 refine fz1 (t := 2) ?_
 refine aw_ret ?_
 refine ⟨_, res_1 rfl rfl, ?_, rfl⟩
 rfl
theorem e_shape (e : Ex) (hs : e.name.length ≤ 1000000000) (hb : e.bits.length ≤ 1000000000) : ACp Tryz.prog 106 [.agg (cellsE (e))] (.v (.bool (shapeP e))) := by
 refine acp_of rfl ?_
 refine ace 175 Tryz.func106 ?_
 refine aw_sr ?_
 refine al_bx 1 fun ver1 => ?_
 refine al_gs ?_
 refine al_nil ?_
 refine aw_seq ?_
 refine aw_sr ?_
 refine al_fp u37 info30 ?_
 refine al_ld u30 info30 ?_
 refine al_callp into162 rfl rfl rfl ((e_none _) _) (by simp) ?_
 refine al_o (op_not rfl) ?_
 refine al_mv ?_
 apply al_or 5 11 16 rfl
 ·intro h1; have gh1 := h1
  simp only [nrm] at h1
  refine tk_fp u37 info35 ?_
  refine tk_ld u35 info35 ?_
  refine al_callp_take into163 rfl rfl rfl rfl rfl rfl ((e_untyped _) _) (by simp) ?_
  refine al_t (op_not rfl) ?_
  refine al_pk ?_
  exact al_nk gh1
 ·intro h1; have gh1 := h1
  simp only [nrm] at h1
  iterate 4 refine al_ps ?_
  refine al_pk ?_
  exact al_nk gh1
 refine al_mv ?_
 apply al_or 9 17 26 rfl
 ·intro h2; have gh2 := h2
  simp only [nrm] at h2
  refine tk_fp u37 info25 ?_
  refine tk_ld u25 info25 ?_
  refine al_t (op_neq rfl rfl) ?_
  refine tk_mv ?_
  apply al_and 4 21 25 rfl
  ·intro h3; have gh3 := h3
   simp only [nrm] at h3
   refine tk_fp u37 info3 ?_
   refine tk_ld u3 info3 ?_
   refine al_t (op_neq rfl rfl) ?_
   refine tk_pk ?_
   exact al_nk gh3
  ·intro h3; have gh3 := h3
   simp only [nrm] at h3
   iterate 3 refine al_ps ?_
   refine tk_pk ?_
   exact al_nk gh3
  refine al_pk ?_
  exact al_nk gh2
 ·intro h2; have gh2 := h2
  simp only [nrm] at h2
  iterate 4 refine al_ps ?_
  refine al_pu ?_
  refine al_pu ?_
  refine al_pu ?_
  refine al_ps ?_
  refine al_pk ?_
  exact al_nk gh2
 refine al_nil ?_
 refine aw_cond rfl (fun h4 => ?_) (fun h4 => ?_)
 ·have gh4 := h4
  simp only [nrm] at h4
  refine aw_sr ?_
  refine al_gs ?_
  refine al_nil ?_
  refine fz1 (t := 2) ?_
  refine aw_ret ?_
  refine ⟨_, res_1 rfl rfl, ?_, rfl⟩
  rw [shapeP, gh4]; rfl
 have gh4 := h4
 simp only [nrm] at h4
 refine aw_skip ?_
 refine aw_seq ?_
 refine aw_any (Checked.mixed Tryz.checked) ?_
 apply aany_seg (p := 0) (q := 12) (by kernel_rfl) rfl (by decide)
 ·
  apply ql_plain rfl (op_field_ptr u37 rfl info9 (by decide) rfl rfl rfl)
  apply ql_plain rfl (op_load_ptr u9 info9 rfl rfl rfl rfl)
  apply ql_plain rfl (op_sneq_str rfl rfl)
  apply ql_plain rfl (op_field_ptr u37 rfl info26 (by decide) rfl rfl rfl)
  apply ql_plain rfl (op_load_ptr u26 info26 rfl rfl rfl rfl)
  apply ql_plain rfl (op_len_map u26 rfl)
  apply ql_plain rfl (op_field_ptr u37 rfl info31 (by decide) rfl rfl rfl)
  apply ql_plain rfl (op_load_ptr u31 info31 rfl rfl rfl rfl)
  apply ql_plain rfl (op_len_map u31 rfl)
  apply ql_plain rfl (op_assign rfl)
  apply ql_plain rfl (op_assign rfl)
  apply ql_plain rfl (op_assign rfl)
  exact ql_nil
 ·simp
 refine aany_end rfl (by kernel_rfl) ?_
 refine aw_seq ?_
 refine aw_sr ?_
 refine al_fp u37 info25 ?_
 refine al_ld u25 info25 ?_
 refine al_nil ?_
 refine aw_block ?_
 refine aw_sr ?_
 refine al_eq ?_
 refine al_gs ?_
 refine al_nil ?_
 refine aw_cond rfl (fun h5 => ?_) (fun h5 => ?_)
 ·have gh5 := h5
  simp only [nrm] at h5
  refine aw_sr ?_
  refine al_mv ?_
  refine al_o (op_not rfl) ?_
  refine al_mv ?_
  apply al_and 3 42 45 rfl
  ·intro h6; have gh6 := h6
   simp only [nrm] at h6
   refine tk_mv ?_
   refine tk_eq ?_
   refine al_pk ?_
   exact al_nk gh6
  ·intro h6; have gh6 := h6
   simp only [nrm] at h6
   iterate 2 refine al_ps ?_
   refine al_pk ?_
   exact al_nk gh6
  refine al_mv ?_
  apply al_and 3 46 49 rfl
  ·intro h7; have gh7 := h7
   simp only [nrm] at h7
   refine tk_mv ?_
   refine tk_eq ?_
   refine al_pk ?_
   exact al_nk gh7
  ·intro h7; have gh7 := h7
   iterate 2 refine al_ps ?_
   refine al_pk ?_
   exact al_nk gh7
  refine al_mv ?_
  apply al_and 4 50 54 rfl
  ·intro h8; have gh8 := h8
   simp only [nrm] at h8
   refine tk_fp u37 info3 ?_
   refine tk_ld u3 info3 ?_
   refine al_t (op_geq rfl rfl) ?_
   refine al_pk ?_
   exact al_nk gh8
  ·intro h8; have gh8 := h8
   iterate 3 refine al_ps ?_
   refine al_pk ?_
   exact al_nk gh8
  refine al_mv ?_
  apply al_and 4 55 59 rfl
  ·intro h9; have gh9 := h9
   simp only [nrm] at h9
   refine tk_fp u37 info3 ?_
   refine tk_ld u3 info3 ?_
   refine al_t (op_leq rfl rfl) ?_
   refine al_pk ?_
   exact al_nk gh9
  ·intro h9; have gh9 := h9
   simp only [nrm] at h9
   iterate 3 refine al_ps ?_
   refine al_pk ?_
   exact al_nk gh9
  refine al_gs ?_
  refine al_nil ?_
  refine fz1 (t := 2) ?_
  refine aw_ret ?_
  refine ⟨_, res_1 rfl rfl, ?_, rfl⟩
  rw [shapeP, gh4, gh5]; rfl
 have gh5 := h5
 simp only [nrm] at h5
 refine aw_sr ?_
 refine al_eq ?_
 refine al_gs ?_
 refine al_nil ?_
 refine aw_cond rfl (fun h10 => ?_) (fun h10 => ?_)
 ·have gh10 := h10
  simp only [nrm] at h10
  refine aw_sr ?_
  refine al_mv ?_
  refine al_o (op_not rfl) ?_
  refine al_mv ?_
  apply al_and 3 64 67 rfl
  ·intro h11; have gh11 := h11
   simp only [nrm] at h11
   refine tk_mv ?_
   refine tk_eq ?_
   refine al_pk ?_
   exact al_nk gh11
  ·intro h11; have gh11 := h11
   simp only [nrm] at h11
   iterate 2 refine al_ps ?_
   refine al_pk ?_
   exact al_nk gh11
  refine al_mv ?_
  apply al_and 3 68 71 rfl
  ·intro h12; have gh12 := h12
   simp only [nrm] at h12
   refine tk_mv ?_
   refine tk_eq ?_
   refine al_pk ?_
   exact al_nk gh12
  ·intro h12; have gh12 := h12
   iterate 2 refine al_ps ?_
   refine al_pk ?_
   exact al_nk gh12
  refine al_mv ?_
  apply al_and 4 72 76 rfl
  ·intro h13; have gh13 := h13
   simp only [nrm] at h13
   refine tk_fp u37 info26 ?_
   refine tk_ld u26 info26 ?_
   refine al_callp_take into164 rfl rfl rfl rfl rfl rfl ((e_isBits _ (by first | assumption | omega)) _) (by simp) ?_
   refine al_pk ?_
   exact al_nk gh13
  ·intro h13; have gh13 := h13
   iterate 3 refine al_ps ?_
   refine al_pk ?_
   exact al_nk gh13
  refine al_gs ?_
  refine al_nil ?_
  refine fz1 (t := 2) ?_
  refine aw_ret ?_
  refine ⟨_, res_1 rfl rfl, ?_, rfl⟩
  rw [shapeP, gh4, gh5, gh10]; rfl
 have gh10 := h10
 simp only [nrm] at h10
 refine aw_sr ?_
 refine al_eq ?_
 refine al_gs ?_
 refine al_nil ?_
 refine aw_cond rfl (fun h14 => ?_) (fun h14 => ?_)
 ·have gh14 := h14
  simp only [nrm] at h14
  refine aw_sr ?_
  refine al_mv ?_
  refine al_o (op_not rfl) ?_
  refine al_mv ?_
  apply al_and 3 81 84 rfl
  ·intro h15; have gh15 := h15
   simp only [nrm] at h15
   refine tk_mv ?_
   refine tk_eq ?_
   refine al_pk ?_
   exact al_nk gh15
  ·intro h15; have gh15 := h15
   simp only [nrm] at h15
   iterate 2 refine al_ps ?_
   refine al_pk ?_
   exact al_nk gh15
  refine al_mv ?_
  apply al_and 4 85 89 rfl
  ·intro h16; have gh16 := h16
   simp only [nrm] at h16
   refine tk_fp u37 info26 ?_
   refine tk_ld u26 info26 ?_
   refine al_callp_take into164 rfl rfl rfl rfl rfl rfl ((e_isBits _ (by first | assumption | omega)) _) (by simp) ?_
   refine al_pk ?_
   exact al_nk gh16
  ·intro h16; have gh16 := h16
   iterate 3 refine al_ps ?_
   refine al_pk ?_
   exact al_nk gh16
  refine al_gs ?_
  refine al_nil ?_
  refine fz1 (t := 2) ?_
  refine aw_ret ?_
  refine ⟨_, res_1 rfl rfl, ?_, rfl⟩
  rw [shapeP, gh4, gh5, gh10, gh14]; rfl
 have gh14 := h14
 simp only [nrm] at h14
 refine aw_sr ?_
 refine al_eq ?_
 refine al_gs ?_
 refine al_nil ?_
 refine aw_cond rfl (fun h17 => ?_) (fun h17 => ?_)
 ·have gh17 := h17
  simp only [nrm] at h17
  refine aw_sr ?_
  refine al_mv ?_
  refine al_eq ?_
  refine al_mv ?_
  apply al_and 3 94 97 rfl
  ·intro h18; have gh18 := h18
   simp only [nrm] at h18
   refine tk_mv ?_
   refine tk_eq ?_
   refine al_pk ?_
   exact al_nk gh18
  ·intro h18; have gh18 := h18
   simp only [nrm] at h18
   iterate 2 refine al_ps ?_
   refine al_pk ?_
   exact al_nk gh18
  refine al_mv ?_
  apply al_and 4 98 102 rfl
  ·intro h19; have gh19 := h19
   simp only [nrm] at h19
   refine tk_fp u37 info9 ?_
   refine tk_ld u9 info9 ?_
   refine al_callp_take into66 rfl rfl rfl rfl rfl rfl ((c_isName _ (by first | assumption | omega | (simp; done) | (simp; omega) | decide)) _) (by simp) ?_
   refine al_pk ?_
   exact al_nk gh19
  ·intro h19; have gh19 := h19
   iterate 3 refine al_ps ?_
   refine al_pk ?_
   exact al_nk gh19
  refine al_gs ?_
  refine al_nil ?_
  refine fz1 (t := 2) ?_
  refine aw_ret ?_
  refine ⟨_, res_1 rfl rfl, ?_, rfl⟩
  rw [shapeP, gh4, gh5, gh10, gh14, gh17]; rfl
 have gh17 := h17
 simp only [nrm] at h17
 refine aw_sr ?_
 refine al_eq ?_
 refine al_gs ?_
 refine al_nil ?_
 refine aw_cond rfl (fun h20 => ?_) (fun h20 => ?_)
 ·have gh20 := h20
  simp only [nrm] at h20
  refine aw_seq ?_
  refine aw_sr ?_
  refine al_mv ?_
  refine al_o (op_gtr rfl rfl) ?_
  refine al_nil ?_
  refine aw_cond rfl (fun h21 => ?_) (fun h21 => ?_)
  ·have gh21 := h21
   simp only [nrm] at h21
   refine aw_sr ?_
   refine al_gs ?_
   refine al_nil ?_
   refine fz1 (t := 2) ?_
   refine aw_ret ?_
   refine ⟨_, res_1 rfl rfl, ?_, rfl⟩
   rw [shapeP, gh4, gh5, gh10, gh14, gh17, gh20, gh21]; rfl
  have gh21 := h21
  simp only [nrm] at h21
  refine aw_skip ?_
  refine aw_sr ?_
  refine al_mv ?_
  refine al_eq ?_
  refine al_mv ?_
  apply al_and 9 109 118 rfl
  ·intro h22; have gh22 := h22
   simp only [nrm] at h22
   refine tk_fp u37 info9 ?_
   refine tk_ld u9 info9 ?_
   refine al_t (op_seql_str rfl rfl) ?_
   refine tk_mv ?_
   apply al_or 4 113 117 rfl
   ·intro h23; have gh23 := h23
    simp only [nrm] at h23
    refine tk_fp u37 info9 ?_
    refine tk_ld u9 info9 ?_
    refine al_t (op_seql_str rfl rfl) ?_
    refine tk_pk ?_
    exact al_nk gh23
   ·intro h23; have gh23 := h23
    simp only [nrm] at h23
    iterate 3 refine al_ps ?_
    refine tk_pk ?_
    exact al_nk gh23
   refine al_pk ?_
   exact al_nk gh22
  ·intro h22; have gh22 := h22
   simp only [nrm] at h22
   iterate 4 refine al_ps ?_
   refine al_pu ?_
   refine al_pu ?_
   refine al_pu ?_
   refine al_ps ?_
   refine al_pk ?_
   exact al_nk gh22
  refine al_gs ?_
  refine al_sr ?_
  refine al_mv ?_
  refine al_mv ?_
  apply al_or 9 120 129 rfl
  ·intro h24; have gh24 := h24
   refine tk_mv ?_
   refine tk_eq ?_
   refine tk_mv ?_
   apply al_and 5 123 128 rfl
   ·intro h25; have gh25 := h25
    simp only [nrm] at h25
    refine tk_fp u37 info9 ?_
    refine tk_ld u9 info9 ?_
    refine al_callp_take into165 rfl rfl rfl rfl rfl rfl ((e_strength _) _) (by simp) ?_
    refine al_t (op_geq rfl rfl) ?_
    refine tk_pk ?_
    exact al_nk gh25
   ·intro h25; have gh25 := h25
    simp only [nrm] at h25
    iterate 4 refine al_ps ?_
    refine tk_pk ?_
    exact al_nk gh25
   refine al_pk ?_
   exact al_nk gh24
  ·intro h24; have gh24 := h24
   simp only [nrm] at h24
   iterate 3 refine al_ps ?_
   refine al_pu ?_
   refine al_pu ?_
   refine al_pu ?_
   refine al_pu ?_
   refine al_ps ?_
   refine al_pk ?_
   exact al_nk gh24
  refine al_mv ?_
  apply al_or 12 130 142 rfl
  ·intro h26; have gh26 := h26
   simp only [nrm] at h26
   refine tk_mv ?_
   refine al_t (op_geq rfl rfl) ?_
   refine tk_mv ?_
   apply al_and 3 133 136 rfl
   ·intro h27; have gh27 := h27
    simp only [nrm] at h27
    refine tk_mv ?_
    refine al_t (op_leq rfl rfl) ?_
    refine tk_pk ?_
    exact al_nk gh27
   ·intro h27; have gh27 := h27
    simp only [nrm] at h27
    iterate 2 refine al_ps ?_
    refine tk_pk ?_
    exact al_nk gh27
   refine tk_mv ?_
   apply al_and 4 137 141 rfl
   ·intro h28; have gh28 := h28
    simp only [nrm] at h28
    refine tk_fp u37 info9 ?_
    refine tk_ld u9 info9 ?_
    refine al_callp_take into66 rfl rfl rfl rfl rfl rfl ((c_isName _ (by first | assumption | omega | (simp; done) | (simp; omega) | decide)) _) (by simp) ?_
    refine tk_pk ?_
    exact al_nk gh28
   ·intro h28; have gh28 := h28
    simp only [nrm] at h28
    iterate 3 refine al_ps ?_
    refine tk_pk ?_
    exact al_nk gh28
   refine al_pk ?_
   exact al_nk gh26
  ·intro h26; have gh26 := h26
   simp only [nrm] at h26
   iterate 3 refine al_ps ?_
   refine al_pu ?_
   refine al_pu ?_
   iterate 2 refine al_ps ?_
   refine al_pu ?_
   refine al_pu ?_
   refine al_pu ?_
   refine al_ps ?_
   refine al_pk ?_
   exact al_nk gh26
  refine al_gs ?_
  refine al_nil ?_
  refine fz1 (t := 2) ?_
  refine aw_ret ?_
  refine ⟨_, res_1 rfl rfl, ?_, rfl⟩
  rw [shapeP, gh4, gh5, gh10, gh14, gh17, gh20, gh21]; rfl
 have gh20 := h20
 simp only [nrm] at h20
 refine aw_sr ?_
 refine al_eq ?_
 refine al_gs ?_
 refine al_nil ?_
 refine aw_cond rfl (fun h29 => ?_) (fun h29 => ?_)
 ·have gh29 := h29
  simp only [nrm] at h29
  refine aw_sr ?_
  refine al_mv ?_
  refine al_o (op_not rfl) ?_
  refine al_mv ?_
  apply al_and 3 147 150 rfl
  ·intro h30; have gh30 := h30
   simp only [nrm] at h30
   refine tk_mv ?_
   refine tk_eq ?_
   refine al_pk ?_
   exact al_nk gh30
  ·intro h30; have gh30 := h30
   simp only [nrm] at h30
   iterate 2 refine al_ps ?_
   refine al_pk ?_
   exact al_nk gh30
  refine al_mv ?_
  apply al_and 3 151 154 rfl
  ·intro h31; have gh31 := h31
   simp only [nrm] at h31
   refine tk_mv ?_
   refine tk_eq ?_
   refine al_pk ?_
   exact al_nk gh31
  ·intro h31; have gh31 := h31
   iterate 2 refine al_ps ?_
   refine al_pk ?_
   exact al_nk gh31
  refine al_mv ?_
  apply al_and 7 155 162 rfl
  ·intro h32; have gh32 := h32
   simp only [nrm] at h32
   refine tk_fp u37 info31 ?_
   refine tk_ld u31 info31 ?_
   refine al_t (val_as (.rptr (cellsE (e.kids.getD 0 default))) (op_im u31 info37) (by exact congrArg AVal.rptr (encE_cells _))) ?_
   refine al_t (op_field_rptr u37 rfl info25 (by decide) rfl rfl) ?_
   refine al_t (op_load_rptr u25 info25 rfl rfl) ?_
   refine al_t (op_neq rfl rfl) ?_
   refine al_pk ?_
   exact al_nk gh32
  ·intro h32; have gh32 := h32
   iterate 6 refine al_ps ?_
   refine al_pk ?_
   exact al_nk gh32
  refine al_gs ?_
  refine al_nil ?_
  refine fz1 (t := 2) ?_
  refine aw_ret ?_
  refine ⟨_, res_1 rfl rfl, ?_, rfl⟩
  rw [shapeP, gh4, gh5, gh10, gh14, gh17, gh20, gh29]; rfl
 have gh29 := h29
 simp only [nrm] at h29
 refine aw_sr ?_
 refine al_eq ?_
 refine al_gs ?_
 refine al_nil ?_
 refine aw_cond rfl (fun h33 => ?_) (fun h33 => ?_)
 ·have gh33 := h33
  simp only [nrm] at h33
  refine aw_sr ?_
  refine al_mv ?_
  refine al_o (op_not rfl) ?_
  refine al_mv ?_
  apply al_and 3 167 170 rfl
  ·intro h34; have gh34 := h34
   simp only [nrm] at h34
   refine tk_mv ?_
   refine tk_eq ?_
   refine al_pk ?_
   exact al_nk gh34
  ·intro h34; have gh34 := h34
   simp only [nrm] at h34
   iterate 2 refine al_ps ?_
   refine al_pk ?_
   exact al_nk gh34
  refine al_mv ?_
  apply al_and 3 171 174 rfl
  ·intro h35; have gh35 := h35
   simp only [nrm] at h35
   refine tk_mv ?_
   refine tk_eq ?_
   refine al_pk ?_
   exact al_nk gh35
  ·intro h35; have gh35 := h35
   iterate 2 refine al_ps ?_
   refine al_pk ?_
   exact al_nk gh35
  refine al_gs ?_
  refine al_nil ?_
  refine fz1 (t := 2) ?_
  refine aw_ret ?_
  refine ⟨_, res_1 rfl rfl, ?_, rfl⟩
  rw [shapeP, gh4, gh5, gh10, gh14, gh17, gh20, gh29, gh33]; rfl
 have gh33 := h33
 simp only [nrm] at h33
 refine aw_skip ?_
 refine aw_sr ?_
 refine al_gs ?_
 refine al_nil ?_
 refine fz1 (t := 2) ?_
 refine aw_ret ?_
 refine ⟨_, res_1 rfl rfl, ?_, rfl⟩
 rw [shapeP, gh4, gh5, gh10, gh14, gh17, gh20, gh29, gh33]; rfl
end Go.Proofs.YtcgdlhkiecommaaGreatDoor
/- Printed walks (gen.py, lexer_ann.py): part 412. -/




namespace Go.Proofs.YtcgdlhkiecommaaGreatDoor
open Go
theorem e_idxE (kids : List Ex) (hk : kids.length ≤ 1000000000) (v0 d : Nat) (hH : ∀ k ∈ kids, ∀ σ : Store, σ.get 0 = some (v0, .row 1 [[.v (.int .i64 ((d : Nat) : Int))]]) → σ.below 1000 = true → AC Tryz.prog 108 [.agg (cellsE (k)), .ptr 0 v0 0 0] σ (fun r σ' => r = .ret (.v (.bool (!(shapesP k (d + 1))))) ∧ σ' = σ)) : AC Tryz.prog 166 [.list 16 ((kids).map encE), .fn 108 [.ptr 0 v0 0 0]] ([(0, v0, .row 1 [[.v (.int .i64 ((d : Nat) : Int))]])]) (fun r σ' => r = .ret (.v (.int .i64 ((if kids.any (fun k => !(shapesP k (d + 1))) then ((kids.findIdx (fun k => !(shapesP k (d + 1))) : Nat) : Int) else -1)))) ∧ σ'.keep k0 = [(0, v0, .row 1 [[.v (.int .i64 ((d : Nat) : Int))]])]) := by
 refine ace 19 Tryz.func166 ?_
 refine aw_sr ?_
 refine al_gs ?_
 refine al_nil ?_
 refine aw_seq ?_
 refine aw_sr ?_
 refine al_mv ?_
 refine al_lm u31 ?_
 refine al_mv ?_
 refine al_nil ?_
 refine aw_block ?_
 refine aw_forT (ι := Nat) [4, 8] [] (fun i => kids.length - i) (fun i => i ≤ kids.length ∧ ∀ k, k < i → (fun k => !(shapesP k (d + 1))) (kids.getD k default) = false) (fun i => ([(8, .v (.int .i64 ((i : Nat) : Int)))] : Env)) (fun i s => s) (0) ?_ ?_ ?_ (fun i hinv => ?_)
 ·exact ⟨Nat.zero_le _, fun k hk => absurd hk (Nat.not_lt_zero k)⟩
 ·refine sub_1 ?_
  all_goals (first | rfl | simp)
 ·rfl
 have hi := hinv.1
 refine aw_sr ?_
 refine al_ls ?_
 refine al_nil ?_
 refine aw_seq ?_
 refine aw_cond rfl (fun h1 => ?_) (fun h1 => ?_)
 ·have gh1 := h1
  simp only [nrm] at h1
  refine aw_skip ?_
  refine aw_seq ?_
  refine aw_block ?_
  refine aw_sr ?_
  refine al_mv ?_
  refine al_gs ?_
  refine al_sr ?_
  refine al_mv ?_
  refine al_mv ?_
  refine al_mv ?_
  refine al_o (val_as (.rptr (cellsE (kids.getD i default))) (op_im u31 info37) (by exact congrArg AVal.rptr (encE_cells _))) ?_
  refine al_lr u37 info37 ?_
  refine al_callp into108 rfl rfl rfl (hH (kids.getD i default) (getD_mem (by omega)) _ rfl rfl) (by simp) ?_
  refine al_nil ?_
  refine aw_cond rfl (fun h2 => ?_) (fun h2 => ?_)
  ·have gh2 := h2
   simp only [nrm] at h2
   refine aw_sr ?_
   refine al_mv ?_
   refine al_gs ?_
   refine al_nil ?_
   refine aw_ret ?_
   refine ⟨_, res_1 rfl rfl, ?_⟩
   rw [if_pos (any_found i (by omega) gh2), findIdx_at i (by omega) hinv.2 gh2]; exact ⟨rfl, rfl⟩
  have gh2 := h2
  simp only [nrm] at h2
  refine aw_skip ?_
  refine aw_region ?_
  refine al_ad ?_
  refine al_mv ?_
  refine al_nil ?_
  refine ⟨i + 1, ?_, ?_, ?_, ?_, ?_⟩
  ·omega
  ·exact ⟨by omega, idx_more (p := fun k => (fun k => !(shapesP k (d + 1))) (kids.getD k default)) hinv.2 gh2⟩
  ·refine sub_1 ?_
   all_goals (first | rfl | simp)
  ·exact sbl
  ·rfl
 have gh1 := h1
 simp only [nrm] at h1
 refine aw_exit ?_
 refine aw_sr ?_
 refine al_gs ?_
 refine al_nil ?_
 refine aw_ret ?_
 refine ⟨_, res_1 rfl rfl, ?_⟩
 rw [if_neg (by rw [any_none (p := fun k => !(shapesP k (d + 1))) (fun k hk => hinv.2 k (by omega))]; exact Bool.false_ne_true)]; exact ⟨rfl, rfl⟩
theorem e_conE (kids : List Ex) (hk : kids.length ≤ 1000000000) (v0 d : Nat) (hH : ∀ k ∈ kids, ∀ σ : Store, σ.get 0 = some (v0, .row 1 [[.v (.int .i64 ((d : Nat) : Int))]]) → σ.below 1000 = true → AC Tryz.prog 108 [.agg (cellsE (k)), .ptr 0 v0 0 0] σ (fun r σ' => r = .ret (.v (.bool (!(shapesP k (d + 1))))) ∧ σ' = σ)) : AC Tryz.prog 107 [.list 16 ((kids).map encE), .fn 108 [.ptr 0 v0 0 0]] ([(0, v0, .row 1 [[.v (.int .i64 ((d : Nat) : Int))]])]) (fun r σ' => r = .ret (.v (.bool (kids.any (fun k => !(shapesP k (d + 1)))))) ∧ σ'.keep k0 = [(0, v0, .row 1 [[.v (.int .i64 ((d : Nat) : Int))]])]) := by
 refine ace 9 Tryz.func107 ?_
 refine aw_sr ?_
 refine al_gs ?_
 refine al_sr ?_
 refine al_mv ?_
 refine al_mv ?_
 refine al_callp into166 rfl rfl rfl (one_look 0 (by decide) rfl rfl (e_idxE kids hk v0 d hH) rfl rfl) (by simp) ?_
 refine al_o (op_geq rfl rfl) ?_
 refine al_gs ?_
 refine al_nil ?_
 refine aw_ret ?_
 refine ⟨_, res_1 rfl rfl, ?_⟩
 refine ⟨?_, rfl⟩
 cases hany : kids.any (fun k => !(shapesP k (d + 1))) <;> simp <;> omega
theorem e_shapes1 (k : Ex) (v0 d : Nat) (hd : d ≤ 20000) (ih : ACp Tryz.prog 56 [.agg (cellsE (k)), .v (.int .i64 ((d + 1 : Nat) : Int))] (.v (.bool (shapesP k (d + 1))))) : AC Tryz.prog 108 [.agg (cellsE (k)), .ptr 0 v0 0 0] ([(0, v0, .row 1 [[.v (.int .i64 ((d : Nat) : Int))]])]) (fun r σ' => r = .ret (.v (.bool (!(shapesP k (d + 1))))) ∧ σ'.keep k0 = [(0, v0, .row 1 [[.v (.int .i64 ((d : Nat) : Int))]])]) := by
 refine ace 9 Tryz.func108 ?_
 refine aw_sr ?_
 refine al_bx 2 fun ver2 => ?_
 refine al_gs ?_
 refine al_sr ?_
 refine al_ld u37 info37 ?_
 refine al_ld u3 info3 ?_
 refine al_ad ?_
 refine al_callp into56 rfl rfl rfl (ih _) (by simp) ?_
 refine al_o (op_not rfl) ?_
 refine al_gs ?_
 refine al_nil ?_
 refine aw_ret ?_
 refine ⟨_, res_1 rfl rfl, ?_⟩
 exact ⟨rfl, rfl⟩
theorem e_shapesS (e : Ex) (hz : szE e = true) (d : Nat) (ih : ∀ k ∈ e.kids, ∀ d, ACp Tryz.prog 56 [.agg (cellsE (k)), .v (.int .i64 ((d : Nat) : Int))] (.v (.bool (shapesP k d)))) : ACp Tryz.prog 56 [.agg (cellsE (e)), .v (.int .i64 ((d : Nat) : Int))] (.v (.bool (shapesP e d))) := by
 refine acp_of rfl ?_
 obtain ⟨z1, z2, z3, z4, z5⟩ := szE_facts hz
 refine ace 18 Tryz.func56 ?_
 refine aw_sr ?_
 refine al_bx 2 fun ver2 => ?_
 refine al_bx 3 fun ver3 => ?_
 refine al_gs ?_
 refine al_sr ?_
 refine al_ld u3 info3 ?_
 refine al_o (op_leq rfl rfl) ?_
 refine al_mv ?_
 apply al_and 3 7 10 rfl
 ·intro h1; have gh1 := h1
  simp only [nrm] at h1
  refine tk_ld u37 info37 ?_
  refine al_callp_take into106 rfl rfl rfl rfl rfl rfl ((e_shape _ (by first | assumption | omega) (by first | assumption | omega)) _) (by simp) ?_
  refine al_pk ?_
  exact al_nk gh1
 ·intro h1; have gh1 := h1
  simp only [nrm] at h1
  iterate 2 refine al_ps ?_
  refine al_pk ?_
  exact al_nk gh1
 refine al_mv ?_
 apply al_and 6 11 17 rfl
 ·intro h2; have gh2 := h2
  simp only [nrm] at h2
  refine tk_fp u37 info31 ?_
  refine tk_ld u31 info31 ?_
  refine al_t (op_closure rfl rfl) ?_
  refine al_callp_take into107 rfl rfl rfl rfl rfl rfl (one_look 3 (by decide) rfl rfl (e_conE e.kids z3 ver3 d (fun k hk σ h1 h2 => one_look 0 (by decide) rfl rfl (e_shapes1 k ver3 d (by omega) (ih k hk (d + 1))) h1 h2)) rfl rfl) (by simp) ?_
  refine al_t (op_not rfl) ?_
  refine al_pk ?_
  exact al_nk gh2
 ·intro h2; have gh2 := h2
  iterate 5 refine al_ps ?_
  refine al_pk ?_
  exact al_nk gh2
 refine al_gs ?_
 refine al_nil ?_
 refine fz1 (t := 4) ?_
 refine aw_ret ?_
 refine ⟨_, res_1 rfl rfl, ?_, rfl⟩
 rw [shapesP_eq] <;> rfl
theorem e_shapes (e : Ex) : szE e = true → ∀ d, ACp Tryz.prog 56 [.agg (cellsE (e)), .v (.int .i64 ((d : Nat) : Int))] (.v (.bool (shapesP e d))) := by
  induction e using Ex.ind with
  | h e ih =>
    intro hz d
    obtain ⟨z1, z2, z3, z4, z5⟩ := szE_facts hz
    exact e_shapesS e hz d (fun k hk d => ih k hk (z5 k hk) d)
end Go.Proofs.YtcgdlhkiecommaaGreatDoor
/- Printed walks (gen.py, lexer_ann.py): part 413. -/




namespace Go.Proofs.YtcgdlhkiecommaaGreatDoor
open Go
theorem e_eqB (a b : List Int) (ha : a.length ≤ 140737488355328) : ACp Tryz.prog 68 [.list 1 (a.map encB), .list 1 (b.map encB)] (.v (.bool (a == b))) := by
 refine acp_of rfl ?_
 refine ace 26 Tryz.func68 ?_
 refine aw_sr ?_
 refine al_gs ?_
 refine al_nil ?_
 refine aw_seq ?_
 refine aw_sr ?_
 refine al_mv ?_
 refine al_lm u26 ?_
 refine al_mv ?_
 refine al_lm u26 ?_
 refine al_o (op_neq rfl rfl) ?_
 refine al_nil ?_
 refine aw_cond rfl (fun h1 => ?_) (fun h1 => ?_)
 ·have gh1 := h1
  simp only [nrm] at h1
  refine aw_sr ?_
  refine al_gs ?_
  refine al_nil ?_
  refine fz1 (t := 4) ?_
  refine aw_ret ?_
  refine ⟨_, res_1 rfl rfl, ?_, rfl⟩
  rw [leq_len gh1]
 have gh1 := h1
 simp only [nrm] at h1
 refine aw_skip ?_
 refine aw_seq ?_
 refine aw_sr ?_
 refine al_mv ?_
 refine al_lm u26 ?_
 refine al_mv ?_
 refine al_nil ?_
 refine aw_block ?_
 refine aw_forT (ι := Nat) [4, 13] [] (fun i => a.length - i) (fun i => i ≤ a.length ∧ ∀ k, k < i → (a.getD k default != b.getD k default) = false) (fun i => ([(13, .v (.int .i64 ((i : Nat) : Int)))] : Env)) (fun i s => s) (0) ?_ ?_ ?_ (fun i hinv => ?_)
 ·exact ⟨Nat.zero_le _, fun k hk => absurd hk (Nat.not_lt_zero k)⟩
 ·refine sub_1 ?_
  all_goals (first | rfl | simp)
 ·rfl
 have hi := hinv.1
 have hll : a.length = b.length := by have := bne_eq_false_iff_eq.1 gh1; omega
 refine aw_sr ?_
 refine al_ls ?_
 refine al_nil ?_
 refine aw_seq ?_
 refine aw_cond rfl (fun h2 => ?_) (fun h2 => ?_)
 ·have gh2 := h2
  simp only [nrm] at h2
  refine aw_skip ?_
  refine aw_seq ?_
  refine aw_block ?_
  refine aw_sr ?_
  refine al_mv ?_
  refine al_gs ?_
  refine al_nil ?_
  refine aw_seq ?_
  refine aw_any (Checked.mixed Tryz.checked) ?_
  apply aany_seg (p := 0) (q := 9) (by kernel_rfl) rfl (by decide)
  ·
   apply ql_plain rfl (op_move rfl)
   apply ql_plain rfl (op_move rfl)
   apply ql_plain rfl (op_im u26 info97)
   apply ql_plain rfl (op_load_rptr u97 info97 rfl rfl)
   apply ql_plain rfl (op_move rfl)
   apply ql_plain rfl (op_move rfl)
   apply ql_plain rfl (op_im u26 info97)
   apply ql_plain rfl (op_load_rptr u97 info97 rfl rfl)
   apply ql_plain rfl (op_neq rfl rfl)
   exact ql_nil
  ·simp
  refine aany_end rfl (by kernel_rfl) ?_
  refine aw_cond rfl (fun h3 => ?_) (fun h3 => ?_)
  ·have gh3 := h3
   simp only [nrm] at h3
   refine aw_sr ?_
   refine al_gs ?_
   refine al_nil ?_
   refine fz1 (t := 4) ?_
   refine aw_ret ?_
   refine ⟨_, res_1 rfl rfl, ?_, rfl⟩
   rw [leq_no i (by omega) (by omega) gh3]
  have gh3 := h3
  simp only [nrm] at h3
  refine aw_skip ?_
  refine aw_region ?_
  refine al_ad ?_
  refine al_mv ?_
  refine al_nil ?_
  refine ⟨i + 1, ?_, ?_, ?_, ?_, ?_⟩
  ·omega
  ·exact ⟨by omega, idx_more (p := fun k => (a.getD k default != b.getD k default)) hinv.2 gh3⟩
  ·refine sub_1 ?_
   all_goals (first | rfl | simp)
  ·exact sbl
  ·rfl
 have gh2 := h2
 simp only [nrm] at h2
 refine aw_exit ?_
 refine aw_sr ?_
 refine al_gs ?_
 refine al_nil ?_
 refine fz1 (t := 4) ?_
 refine aw_ret ?_
 refine ⟨_, res_1 rfl rfl, ?_, rfl⟩
 rw [leq_yes gh1 (fun k hk => hinv.2 k (by omega))]
theorem e_eqS (a b : List Bs) (ha : a.length ≤ 140737488355328) : ACp Tryz.prog 125 [.list 1 (a.map encBs), .list 1 (b.map encBs)] (.v (.bool (a == b))) := by
 refine acp_of rfl ?_
 refine ace 26 Tryz.func125 ?_
 refine aw_sr ?_
 refine al_gs ?_
 refine al_nil ?_
 refine aw_seq ?_
 refine aw_sr ?_
 refine al_mv ?_
 refine al_lm u32 ?_
 refine al_mv ?_
 refine al_lm u32 ?_
 refine al_o (op_neq rfl rfl) ?_
 refine al_nil ?_
 refine aw_cond rfl (fun h1 => ?_) (fun h1 => ?_)
 ·have gh1 := h1
  simp only [nrm] at h1
  refine aw_sr ?_
  refine al_gs ?_
  refine al_nil ?_
  refine fz1 (t := 4) ?_
  refine aw_ret ?_
  refine ⟨_, res_1 rfl rfl, ?_, rfl⟩
  rw [leq_len gh1]
 have gh1 := h1
 simp only [nrm] at h1
 refine aw_skip ?_
 refine aw_seq ?_
 refine aw_sr ?_
 refine al_mv ?_
 refine al_lm u32 ?_
 refine al_mv ?_
 refine al_nil ?_
 refine aw_block ?_
 refine aw_forT (ι := Nat) [4, 13] [] (fun i => a.length - i) (fun i => i ≤ a.length ∧ ∀ k, k < i → (a.getD k default != b.getD k default) = false) (fun i => ([(13, .v (.int .i64 ((i : Nat) : Int)))] : Env)) (fun i s => s) (0) ?_ ?_ ?_ (fun i hinv => ?_)
 ·exact ⟨Nat.zero_le _, fun k hk => absurd hk (Nat.not_lt_zero k)⟩
 ·refine sub_1 ?_
  all_goals (first | rfl | simp)
 ·rfl
 have hi := hinv.1
 have hll : a.length = b.length := by have := bne_eq_false_iff_eq.1 gh1; omega
 refine aw_sr ?_
 refine al_ls ?_
 refine al_nil ?_
 refine aw_seq ?_
 refine aw_cond rfl (fun h2 => ?_) (fun h2 => ?_)
 ·have gh2 := h2
  simp only [nrm] at h2
  refine aw_skip ?_
  refine aw_seq ?_
  refine aw_block ?_
  refine aw_sr ?_
  refine al_mv ?_
  refine al_gs ?_
  refine al_nil ?_
  refine aw_seq ?_
  refine aw_any (Checked.mixed Tryz.checked) ?_
  apply aany_seg (p := 0) (q := 9) (by kernel_rfl) rfl (by decide)
  ·
   apply ql_plain rfl (op_move rfl)
   apply ql_plain rfl (op_move rfl)
   apply ql_plain rfl (op_im u32 info9)
   apply ql_plain rfl (op_load_rptr u9 info9 rfl rfl)
   apply ql_plain rfl (op_move rfl)
   apply ql_plain rfl (op_move rfl)
   apply ql_plain rfl (op_im u32 info9)
   apply ql_plain rfl (op_load_rptr u9 info9 rfl rfl)
   apply ql_plain rfl (op_sneq_str rfl rfl)
   exact ql_nil
  ·simp
  refine aany_end rfl (by kernel_rfl) ?_
  refine aw_cond rfl (fun h3 => ?_) (fun h3 => ?_)
  ·have gh3 := h3
   simp only [nrm] at h3
   refine aw_sr ?_
   refine al_gs ?_
   refine al_nil ?_
   refine fz1 (t := 4) ?_
   refine aw_ret ?_
   refine ⟨_, res_1 rfl rfl, ?_, rfl⟩
   rw [leq_no i (by omega) (by omega) gh3]
  have gh3 := h3
  simp only [nrm] at h3
  refine aw_skip ?_
  refine aw_region ?_
  refine al_ad ?_
  refine al_mv ?_
  refine al_nil ?_
  refine ⟨i + 1, ?_, ?_, ?_, ?_, ?_⟩
  ·omega
  ·exact ⟨by omega, idx_more (p := fun k => (a.getD k default != b.getD k default)) hinv.2 gh3⟩
  ·refine sub_1 ?_
   all_goals (first | rfl | simp)
  ·exact sbl
  ·rfl
 have gh2 := h2
 simp only [nrm] at h2
 refine aw_exit ?_
 refine aw_sr ?_
 refine al_gs ?_
 refine al_nil ?_
 refine fz1 (t := 4) ?_
 refine aw_ret ?_
 refine ⟨_, res_1 rfl rfl, ?_, rfl⟩
 rw [leq_yes gh1 (fun k hk => hinv.2 k (by omega))]
theorem e_eqfV (a b : List Va) (ha : a.length ≤ 140737488355328) (ih : ∀ x ∈ a, ∀ y ∈ b, ACp Tryz.prog 69 [.agg (cellsV x), .agg (cellsV y)] (.v (.bool (sameV x y)))) : ACp Tryz.prog 124 [.list 4 (a.map encVa), .list 4 (b.map encVa), .v (.func (.func 69) #[] #[])] (.v (.bool (allSame sameV a b))) := by
 refine acp_of rfl ?_
 refine ace 32 Tryz.func124 ?_
 refine aw_sr ?_
 refine al_gs ?_
 refine al_nil ?_
 refine aw_seq ?_
 refine aw_sr ?_
 refine al_mv ?_
 refine al_lm u28 ?_
 refine al_mv ?_
 refine al_lm u28 ?_
 refine al_o (op_neq rfl rfl) ?_
 refine al_nil ?_
 refine aw_cond rfl (fun h1 => ?_) (fun h1 => ?_)
 ·have gh1 := h1
  simp only [nrm] at h1
  refine aw_sr ?_
  refine al_gs ?_
  refine al_nil ?_
  refine fz1 (t := 6) ?_
  refine aw_ret ?_
  refine ⟨_, res_1 rfl rfl, ?_, rfl⟩
  rw [alls_len gh1]
 have gh1 := h1
 simp only [nrm] at h1
 refine aw_skip ?_
 refine aw_seq ?_
 refine aw_sr ?_
 refine al_mv ?_
 refine al_lm u28 ?_
 refine al_mv ?_
 refine al_nil ?_
 refine aw_block ?_
 refine aw_forT (ι := Nat) [6, 17] [8, 9] (fun i => a.length - i) (fun i => i ≤ a.length ∧ ∀ k, k < i → (!(sameV (a.getD k default) (b.getD k default))) = false) (fun i => ([(17, .v (.int .i64 ((i : Nat) : Int)))] : Env)) (fun i s => s) (0) ?_ ?_ ?_ (fun i hinv => ?_)
 ·exact ⟨Nat.zero_le _, fun k hk => absurd hk (Nat.not_lt_zero k)⟩
 ·refine sub_1 ?_
  all_goals (first | rfl | simp)
 ·rfl
 have hi := hinv.1
 have hll : a.length = b.length := by have := bne_eq_false_iff_eq.1 gh1; omega
 refine aw_sr ?_
 refine al_ls ?_
 refine al_nil ?_
 refine aw_seq ?_
 refine aw_cond rfl (fun h2 => ?_) (fun h2 => ?_)
 ·have gh2 := h2
  simp only [nrm] at h2
  refine aw_skip ?_
  refine aw_seq ?_
  refine aw_block ?_
  refine aw_sr ?_
  refine al_mv ?_
  refine al_o (val_as (.rptr (cellsV (a.getD i default))) (op_im u28 info30) (by exact congrArg AVal.rptr (encVa_cells _))) ?_
  refine al_lr u30 info30 ?_
  refine al_al 8 info30 fun ver8 => ?_
  refine al_gs ?_
  refine al_sp info30 ?_
  refine al_sr ?_
  refine al_mv ?_
  refine al_mv ?_
  refine al_o (val_as (.rptr (cellsV (b.getD i default))) (op_im u28 info30) (by exact congrArg AVal.rptr (encVa_cells _))) ?_
  refine al_lr u30 info30 ?_
  refine al_al 9 info30 fun ver9 => ?_
  refine al_sp info30 ?_
  refine al_sr ?_
  refine al_mv ?_
  refine al_ld u30 info30 ?_
  refine al_ld u30 info30 ?_
  refine al_callp into69 rfl rfl rfl (ih (a.getD i default) (getD_mem (by omega)) (b.getD i default) (getD_mem (by omega)) _) (by simp) ?_
  refine al_o (op_not rfl) ?_
  refine al_nil ?_
  refine aw_cond rfl (fun h3 => ?_) (fun h3 => ?_)
  ·have gh3 := h3
   simp only [nrm] at h3
   refine aw_sr ?_
   refine al_gs ?_
   refine al_nil ?_
   refine fz1 (t := 6) ?_
   refine aw_ret ?_
   refine ⟨_, res_1 rfl rfl, ?_, rfl⟩
   rw [alls_no i (by omega) (by omega) gh3]
  have gh3 := h3
  simp only [nrm] at h3
  refine aw_skip ?_
  refine aw_region ?_
  refine al_ad ?_
  refine al_mv ?_
  refine al_nil ?_
  refine ⟨i + 1, ?_, ?_, ?_, ?_, ?_⟩
  ·omega
  ·exact ⟨by omega, idx_more (p := fun k => (!(sameV (a.getD k default) (b.getD k default)))) hinv.2 gh3⟩
  ·refine sub_1 ?_
   all_goals (first | rfl | simp)
  ·exact sbl
  ·rfl
 have gh2 := h2
 simp only [nrm] at h2
 refine aw_exit ?_
 refine aw_sr ?_
 refine al_gs ?_
 refine al_nil ?_
 refine fz1 (t := 6) ?_
 refine aw_ret ?_
 refine ⟨_, res_1 rfl rfl, ?_, rfl⟩
 rw [alls_yes gh1 (fun k hk => hinv.2 k (by omega))]
theorem e_eqfT (a b : List Ty) (ha : a.length ≤ 140737488355328) (ih : ∀ x ∈ a, ∀ y ∈ b, ACp Tryz.prog 70 [.agg (cellsT x), .agg (cellsT y)] (.v (.bool (sameT x y)))) : ACp Tryz.prog 126 [.list 5 (a.map encTy), .list 5 (b.map encTy), .v (.func (.func 70) #[] #[])] (.v (.bool (allSame sameT a b))) := by
 refine acp_of rfl ?_
 refine ace 32 Tryz.func126 ?_
 refine aw_sr ?_
 refine al_gs ?_
 refine al_nil ?_
 refine aw_seq ?_
 refine aw_sr ?_
 refine al_mv ?_
 refine al_lm u33 ?_
 refine al_mv ?_
 refine al_lm u33 ?_
 refine al_o (op_neq rfl rfl) ?_
 refine al_nil ?_
 refine aw_cond rfl (fun h1 => ?_) (fun h1 => ?_)
 ·have gh1 := h1
  simp only [nrm] at h1
  refine aw_sr ?_
  refine al_gs ?_
  refine al_nil ?_
  refine fz1 (t := 6) ?_
  refine aw_ret ?_
  refine ⟨_, res_1 rfl rfl, ?_, rfl⟩
  rw [alls_len gh1]
 have gh1 := h1
 simp only [nrm] at h1
 refine aw_skip ?_
 refine aw_seq ?_
 refine aw_sr ?_
 refine al_mv ?_
 refine al_lm u33 ?_
 refine al_mv ?_
 refine al_nil ?_
 refine aw_block ?_
 refine aw_forT (ι := Nat) [6, 17] [8, 9] (fun i => a.length - i) (fun i => i ≤ a.length ∧ ∀ k, k < i → (!(sameT (a.getD k default) (b.getD k default))) = false) (fun i => ([(17, .v (.int .i64 ((i : Nat) : Int)))] : Env)) (fun i s => s) (0) ?_ ?_ ?_ (fun i hinv => ?_)
 ·exact ⟨Nat.zero_le _, fun k hk => absurd hk (Nat.not_lt_zero k)⟩
 ·refine sub_1 ?_
  all_goals (first | rfl | simp)
 ·rfl
 have hi := hinv.1
 have hll : a.length = b.length := by have := bne_eq_false_iff_eq.1 gh1; omega
 refine aw_sr ?_
 refine al_ls ?_
 refine al_nil ?_
 refine aw_seq ?_
 refine aw_cond rfl (fun h2 => ?_) (fun h2 => ?_)
 ·have gh2 := h2
  simp only [nrm] at h2
  refine aw_skip ?_
  refine aw_seq ?_
  refine aw_block ?_
  refine aw_sr ?_
  refine al_mv ?_
  refine al_o (val_as (.rptr (cellsT (a.getD i default))) (op_im u33 info35) (by exact congrArg AVal.rptr (encTy_cells _))) ?_
  refine al_lr u35 info35 ?_
  refine al_al 8 info35 fun ver8 => ?_
  refine al_gs ?_
  refine al_sp info35 ?_
  refine al_sr ?_
  refine al_mv ?_
  refine al_mv ?_
  refine al_o (val_as (.rptr (cellsT (b.getD i default))) (op_im u33 info35) (by exact congrArg AVal.rptr (encTy_cells _))) ?_
  refine al_lr u35 info35 ?_
  refine al_al 9 info35 fun ver9 => ?_
  refine al_sp info35 ?_
  refine al_sr ?_
  refine al_mv ?_
  refine al_ld u35 info35 ?_
  refine al_ld u35 info35 ?_
  refine al_callp into70 rfl rfl rfl (ih (a.getD i default) (getD_mem (by omega)) (b.getD i default) (getD_mem (by omega)) _) (by simp) ?_
  refine al_o (op_not rfl) ?_
  refine al_nil ?_
  refine aw_cond rfl (fun h3 => ?_) (fun h3 => ?_)
  ·have gh3 := h3
   simp only [nrm] at h3
   refine aw_sr ?_
   refine al_gs ?_
   refine al_nil ?_
   refine fz1 (t := 6) ?_
   refine aw_ret ?_
   refine ⟨_, res_1 rfl rfl, ?_, rfl⟩
   rw [alls_no i (by omega) (by omega) gh3]
  have gh3 := h3
  simp only [nrm] at h3
  refine aw_skip ?_
  refine aw_region ?_
  refine al_ad ?_
  refine al_mv ?_
  refine al_nil ?_
  refine ⟨i + 1, ?_, ?_, ?_, ?_, ?_⟩
  ·omega
  ·exact ⟨by omega, idx_more (p := fun k => (!(sameT (a.getD k default) (b.getD k default)))) hinv.2 gh3⟩
  ·refine sub_1 ?_
   all_goals (first | rfl | simp)
  ·exact sbl
  ·rfl
 have gh2 := h2
 simp only [nrm] at h2
 refine aw_exit ?_
 refine aw_sr ?_
 refine al_gs ?_
 refine al_nil ?_
 refine fz1 (t := 6) ?_
 refine aw_ret ?_
 refine ⟨_, res_1 rfl rfl, ?_, rfl⟩
 rw [alls_yes gh1 (fun k hk => hinv.2 k (by omega))]
theorem e_eqfE (a b : List Ex) (ha : a.length ≤ 140737488355328) (ih : ∀ x ∈ a, ∀ y ∈ b, ACp Tryz.prog 35 [.agg (cellsE x), .agg (cellsE y)] (.v (.bool (sameE x y)))) : ACp Tryz.prog 71 [.list 16 (a.map encE), .list 16 (b.map encE), .v (.func (.func 35) #[] #[])] (.v (.bool (allSame sameE a b))) := by
 refine acp_of rfl ?_
 refine ace 32 Tryz.func71 ?_
 refine aw_sr ?_
 refine al_gs ?_
 refine al_nil ?_
 refine aw_seq ?_
 refine aw_sr ?_
 refine al_mv ?_
 refine al_lm u31 ?_
 refine al_mv ?_
 refine al_lm u31 ?_
 refine al_o (op_neq rfl rfl) ?_
 refine al_nil ?_
 refine aw_cond rfl (fun h1 => ?_) (fun h1 => ?_)
 ·have gh1 := h1
  simp only [nrm] at h1
  refine aw_sr ?_
  refine al_gs ?_
  refine al_nil ?_
  refine fz1 (t := 6) ?_
  refine aw_ret ?_
  refine ⟨_, res_1 rfl rfl, ?_, rfl⟩
  rw [alls_len gh1]
 have gh1 := h1
 simp only [nrm] at h1
 refine aw_skip ?_
 refine aw_seq ?_
 refine aw_sr ?_
 refine al_mv ?_
 refine al_lm u31 ?_
 refine al_mv ?_
 refine al_nil ?_
 refine aw_block ?_
 refine aw_forT (ι := Nat) [6, 17] [8, 9] (fun i => a.length - i) (fun i => i ≤ a.length ∧ ∀ k, k < i → (!(sameE (a.getD k default) (b.getD k default))) = false) (fun i => ([(17, .v (.int .i64 ((i : Nat) : Int)))] : Env)) (fun i s => s) (0) ?_ ?_ ?_ (fun i hinv => ?_)
 ·exact ⟨Nat.zero_le _, fun k hk => absurd hk (Nat.not_lt_zero k)⟩
 ·refine sub_1 ?_
  all_goals (first | rfl | simp)
 ·rfl
 have hi := hinv.1
 have hll : a.length = b.length := by have := bne_eq_false_iff_eq.1 gh1; omega
 refine aw_sr ?_
 refine al_ls ?_
 refine al_nil ?_
 refine aw_seq ?_
 refine aw_cond rfl (fun h2 => ?_) (fun h2 => ?_)
 ·have gh2 := h2
  simp only [nrm] at h2
  refine aw_skip ?_
  refine aw_seq ?_
  refine aw_block ?_
  refine aw_sr ?_
  refine al_mv ?_
  refine al_o (val_as (.rptr (cellsE (a.getD i default))) (op_im u31 info37) (by exact congrArg AVal.rptr (encE_cells _))) ?_
  refine al_lr u37 info37 ?_
  refine al_al 8 info37 fun ver8 => ?_
  refine al_gs ?_
  refine al_sp info37 ?_
  refine al_sr ?_
  refine al_mv ?_
  refine al_mv ?_
  refine al_o (val_as (.rptr (cellsE (b.getD i default))) (op_im u31 info37) (by exact congrArg AVal.rptr (encE_cells _))) ?_
  refine al_lr u37 info37 ?_
  refine al_al 9 info37 fun ver9 => ?_
  refine al_sp info37 ?_
  refine al_sr ?_
  refine al_mv ?_
  refine al_ld u37 info37 ?_
  refine al_ld u37 info37 ?_
  refine al_callp into35 rfl rfl rfl (ih (a.getD i default) (getD_mem (by omega)) (b.getD i default) (getD_mem (by omega)) _) (by simp) ?_
  refine al_o (op_not rfl) ?_
  refine al_nil ?_
  refine aw_cond rfl (fun h3 => ?_) (fun h3 => ?_)
  ·have gh3 := h3
   simp only [nrm] at h3
   refine aw_sr ?_
   refine al_gs ?_
   refine al_nil ?_
   refine fz1 (t := 6) ?_
   refine aw_ret ?_
   refine ⟨_, res_1 rfl rfl, ?_, rfl⟩
   rw [alls_no i (by omega) (by omega) gh3]
  have gh3 := h3
  simp only [nrm] at h3
  refine aw_skip ?_
  refine aw_region ?_
  refine al_ad ?_
  refine al_mv ?_
  refine al_nil ?_
  refine ⟨i + 1, ?_, ?_, ?_, ?_, ?_⟩
  ·omega
  ·exact ⟨by omega, idx_more (p := fun k => (!(sameE (a.getD k default) (b.getD k default)))) hinv.2 gh3⟩
  ·refine sub_1 ?_
   all_goals (first | rfl | simp)
  ·exact sbl
  ·rfl
 have gh2 := h2
 simp only [nrm] at h2
 refine aw_exit ?_
 refine aw_sr ?_
 refine al_gs ?_
 refine al_nil ?_
 refine fz1 (t := 6) ?_
 refine aw_ret ?_
 refine ⟨_, res_1 rfl rfl, ?_, rfl⟩
 rw [alls_yes gh1 (fun k hk => hinv.2 k (by omega))]
end Go.Proofs.YtcgdlhkiecommaaGreatDoor
/- Printed walks (gen.py, lexer_ann.py): part 414. -/



namespace Go.Proofs.YtcgdlhkiecommaaGreatDoor
open Go
theorem e_sameVS (a b : Va) (ha : szV a = true) (hb : szV b = true) (ih : ∀ x ∈ a.list, ∀ y ∈ b.list, ACp Tryz.prog 69 [.agg (cellsV x), .agg (cellsV y)] (.v (.bool (sameV x y)))) : ACp Tryz.prog 69 [.agg (cellsV a), .agg (cellsV b)] (.v (.bool (sameV a b))) := by
 refine acp_of rfl ?_
 obtain ⟨a1, a2, a3⟩ := szV_facts ha
 obtain ⟨b1, b2, b3⟩ := szV_facts hb
 refine ace 31 Tryz.func69 ?_
 refine aw_sr ?_
 refine al_bx 2 fun ver2 => ?_
 refine al_bx 3 fun ver3 => ?_
 refine al_gs ?_
 refine al_sr ?_
 refine al_fp u30 info27 ?_
 refine al_ld u27 info27 ?_
 refine al_fp u30 info27 ?_
 refine al_ld u27 info27 ?_
 refine al_eq ?_
 refine al_mv ?_
 apply al_and 6 10 16 rfl
 ·intro h1; have gh1 := h1
  simp only [nrm] at h1
  refine tk_fp u30 info3 ?_
  refine tk_ld u3 info3 ?_
  refine tk_fp u30 info3 ?_
  refine tk_ld u3 info3 ?_
  refine tk_eq ?_
  refine al_pk ?_
  exact al_nk gh1
 ·intro h1; have gh1 := h1
  simp only [nrm] at h1
  iterate 5 refine al_ps ?_
  refine al_pk ?_
  exact al_nk gh1
 refine al_mv ?_
 apply al_and 6 17 23 rfl
 ·intro h2; have gh2 := h2
  simp only [nrm] at h2
  refine tk_fp u30 info26 ?_
  refine tk_ld u26 info26 ?_
  refine tk_fp u30 info26 ?_
  refine tk_ld u26 info26 ?_
  refine al_callp_take into68 rfl rfl rfl rfl rfl rfl (e_eqB a.bits b.bits a1 _) (by simp) ?_
  refine al_pk ?_
  exact al_nk gh2
 ·intro h2; have gh2 := h2
  iterate 5 refine al_ps ?_
  refine al_pk ?_
  exact al_nk gh2
 refine al_mv ?_
 apply al_and 6 24 30 rfl
 ·intro h3; have gh3 := h3
  simp only [nrm] at h3
  refine tk_fp u30 info28 ?_
  refine tk_ld u28 info28 ?_
  refine tk_fp u30 info28 ?_
  refine tk_ld u28 info28 ?_
  refine al_callp_take into124 rfl rfl rfl rfl rfl rfl (e_eqfV a.list b.list a2 ih _) (by simp) ?_
  refine al_pk ?_
  exact al_nk gh3
 ·intro h3; have gh3 := h3
  iterate 5 refine al_ps ?_
  refine al_pk ?_
  exact al_nk gh3
 refine al_gs ?_
 refine al_nil ?_
 refine fz1 (t := 4) ?_
 refine aw_ret ?_
 refine ⟨_, res_1 rfl rfl, ?_, rfl⟩
 rw [sameV_eq, sameVs_all]; simp only [Bool.and_assoc]
theorem e_sameV (a : Va) : ∀ b, szV a = true → szV b = true → ACp Tryz.prog 69 [.agg (cellsV a), .agg (cellsV b)] (.v (.bool (sameV a b))) := by
  induction a using Va.ind with
  | h a ih =>
    intro b ha hb
    obtain ⟨a1, a2, a3⟩ := szV_facts ha
    obtain ⟨b1, b2, b3⟩ := szV_facts hb
    exact e_sameVS a b ha hb (fun x hx y hy => ih x hx y (a3 x hx) (b3 y hy))
theorem e_sameTS (a b : Ty) (ha : szT a = true) (hb : szT b = true) (ih : ∀ x ∈ a.elem, ∀ y ∈ b.elem, ACp Tryz.prog 70 [.agg (cellsT x), .agg (cellsT y)] (.v (.bool (sameT x y)))) : ACp Tryz.prog 70 [.agg (cellsT a), .agg (cellsT b)] (.v (.bool (sameT a b))) := by
 refine acp_of rfl ?_
 obtain ⟨a0, a1, a2, a3⟩ := szT_facts ha
 obtain ⟨b0, b1, b2, b3⟩ := szT_facts hb
 refine ace 38 Tryz.func70 ?_
 refine aw_sr ?_
 refine al_bx 2 fun ver2 => ?_
 refine al_bx 3 fun ver3 => ?_
 refine al_gs ?_
 refine al_sr ?_
 refine al_fp u35 info27 ?_
 refine al_ld u27 info27 ?_
 refine al_fp u35 info27 ?_
 refine al_ld u27 info27 ?_
 refine al_eq ?_
 refine al_mv ?_
 apply al_and 6 10 16 rfl
 ·intro h1; have gh1 := h1
  simp only [nrm] at h1
  refine tk_fp u35 info3 ?_
  refine tk_ld u3 info3 ?_
  refine tk_fp u35 info3 ?_
  refine tk_ld u3 info3 ?_
  refine tk_eq ?_
  refine al_pk ?_
  exact al_nk gh1
 ·intro h1; have gh1 := h1
  simp only [nrm] at h1
  iterate 5 refine al_ps ?_
  refine al_pk ?_
  exact al_nk gh1
 refine al_mv ?_
 apply al_and 6 17 23 rfl
 ·intro h2; have gh2 := h2
  simp only [nrm] at h2
  refine tk_fp u35 info9 ?_
  refine tk_ld u9 info9 ?_
  refine tk_fp u35 info9 ?_
  refine tk_ld u9 info9 ?_
  refine al_t (op_seql_str rfl rfl) ?_
  refine al_pk ?_
  exact al_nk gh2
 ·intro h2; have gh2 := h2
  iterate 5 refine al_ps ?_
  refine al_pk ?_
  exact al_nk gh2
 refine al_mv ?_
 apply al_and 6 24 30 rfl
 ·intro h3; have gh3 := h3
  simp only [nrm] at h3
  refine tk_fp u35 info32 ?_
  refine tk_ld u32 info32 ?_
  refine tk_fp u35 info32 ?_
  refine tk_ld u32 info32 ?_
  refine al_callp_take into125 rfl rfl rfl rfl rfl rfl (e_eqS a.names b.names a1 _) (by simp) ?_
  refine al_pk ?_
  exact al_nk gh3
 ·intro h3; have gh3 := h3
  iterate 5 refine al_ps ?_
  refine al_pk ?_
  exact al_nk gh3
 refine al_mv ?_
 apply al_and 6 31 37 rfl
 ·intro h4; have gh4 := h4
  simp only [nrm] at h4
  refine tk_fp u35 info33 ?_
  refine tk_ld u33 info33 ?_
  refine tk_fp u35 info33 ?_
  refine tk_ld u33 info33 ?_
  refine al_callp_take into126 rfl rfl rfl rfl rfl rfl (e_eqfT a.elem b.elem a2 ih _) (by simp) ?_
  refine al_pk ?_
  exact al_nk gh4
 ·intro h4; have gh4 := h4
  iterate 5 refine al_ps ?_
  refine al_pk ?_
  exact al_nk gh4
 refine al_gs ?_
 refine al_nil ?_
 refine fz1 (t := 4) ?_
 refine aw_ret ?_
 refine ⟨_, res_1 rfl rfl, ?_, rfl⟩
 rw [sameT_eq, sameTs_all]; simp only [Bool.and_assoc]
theorem e_sameT (a : Ty) : ∀ b, szT a = true → szT b = true → ACp Tryz.prog 70 [.agg (cellsT a), .agg (cellsT b)] (.v (.bool (sameT a b))) := by
  induction a using Ty.ind with
  | h a ih =>
    intro b ha hb
    obtain ⟨a0, a1, a2, a3⟩ := szT_facts ha
    obtain ⟨b0, b1, b2, b3⟩ := szT_facts hb
    exact e_sameTS a b ha hb (fun x hx y hy => ih x hx y (a3 x hx) (b3 y hy))
theorem e_sameS (a b : Ex) (ha : szX a = true) (hb : szX b = true) (ih : ∀ x ∈ a.kids, ∀ y ∈ b.kids, ACp Tryz.prog 35 [.agg (cellsE x), .agg (cellsE y)] (.v (.bool (sameE x y)))) : ACp Tryz.prog 35 [.agg (cellsE a), .agg (cellsE b)] (.v (.bool (sameE a b))) := by
 refine acp_of rfl ?_
 obtain ⟨a1, a2, a3, a6, a7, a8⟩ := szX_facts ha
 obtain ⟨b1, b2, b3, b6, b7, b8⟩ := szX_facts hb
 refine ace 62 Tryz.func35 ?_
 refine aw_sr ?_
 refine al_bx 2 fun ver2 => ?_
 refine al_bx 3 fun ver3 => ?_
 refine al_gs ?_
 refine al_nil ?_
 refine aw_seq ?_
 refine aw_sr ?_
 refine al_fp u37 info25 ?_
 refine al_ld u25 info25 ?_
 refine al_fp u37 info25 ?_
 refine al_ld u25 info25 ?_
 refine al_o (op_neq rfl rfl) ?_
 refine al_mv ?_
 apply al_or 6 10 16 rfl
 ·intro h1; have gh1 := h1
  simp only [nrm] at h1
  refine tk_fp u37 info9 ?_
  refine tk_ld u9 info9 ?_
  refine tk_fp u37 info9 ?_
  refine tk_ld u9 info9 ?_
  refine al_t (op_sneq_str rfl rfl) ?_
  refine al_pk ?_
  exact al_nk gh1
 ·intro h1; have gh1 := h1
  simp only [nrm] at h1
  iterate 5 refine al_ps ?_
  refine al_pk ?_
  exact al_nk gh1
 refine al_mv ?_
 apply al_or 6 17 23 rfl
 ·intro h2; have gh2 := h2
  simp only [nrm] at h2
  refine tk_fp u37 info3 ?_
  refine tk_ld u3 info3 ?_
  refine tk_fp u37 info3 ?_
  refine tk_ld u3 info3 ?_
  refine al_t (op_neq rfl rfl) ?_
  refine al_pk ?_
  exact al_nk gh2
 ·intro h2; have gh2 := h2
  simp only [nrm] at h2
  iterate 5 refine al_ps ?_
  refine al_pk ?_
  exact al_nk gh2
 refine al_mv ?_
 apply al_or 8 24 32 rfl
 ·intro h3; have gh3 := h3
  simp only [nrm] at h3
  refine tk_fp u37 info31 ?_
  refine tk_ld u31 info31 ?_
  refine al_t (op_len_map u31 rfl) ?_
  refine tk_fp u37 info31 ?_
  refine tk_ld u31 info31 ?_
  refine al_t (op_len_map u31 rfl) ?_
  refine al_t (op_neq rfl rfl) ?_
  refine al_pk ?_
  exact al_nk gh3
 ·intro h3; have gh3 := h3
  simp only [nrm] at h3
  iterate 7 refine al_ps ?_
  refine al_pk ?_
  exact al_nk gh3
 refine al_mv ?_
 apply al_or 7 33 40 rfl
 ·intro h4; have gh4 := h4
  simp only [nrm] at h4
  refine tk_fp u37 info26 ?_
  refine tk_ld u26 info26 ?_
  refine tk_fp u37 info26 ?_
  refine tk_ld u26 info26 ?_
  refine al_callp_take into68 rfl rfl rfl rfl rfl rfl (e_eqB a.bits b.bits a2 _) (by simp) ?_
  refine al_t (op_not rfl) ?_
  refine al_pk ?_
  exact al_nk gh4
 ·intro h4; have gh4 := h4
  simp only [nrm] at h4
  iterate 6 refine al_ps ?_
  refine al_pk ?_
  exact al_nk gh4
 refine al_mv ?_
 apply al_or 7 41 48 rfl
 ·intro h5; have gh5 := h5
  simp only [nrm] at h5
  refine tk_fp u37 info30 ?_
  refine tk_ld u30 info30 ?_
  refine tk_fp u37 info30 ?_
  refine tk_ld u30 info30 ?_
  refine al_callp_take into69 rfl rfl rfl rfl rfl rfl (e_sameV a.val b.val a6 b6 _) (by simp) ?_
  refine al_t (op_not rfl) ?_
  refine al_pk ?_
  exact al_nk gh5
 ·intro h5; have gh5 := h5
  simp only [nrm] at h5
  iterate 6 refine al_ps ?_
  refine al_pk ?_
  exact al_nk gh5
 refine al_mv ?_
 apply al_or 7 49 56 rfl
 ·intro h6; have gh6 := h6
  simp only [nrm] at h6
  refine tk_fp u37 info35 ?_
  refine tk_ld u35 info35 ?_
  refine tk_fp u37 info35 ?_
  refine tk_ld u35 info35 ?_
  refine al_callp_take into70 rfl rfl rfl rfl rfl rfl (e_sameT a.type b.type a7 b7 _) (by simp) ?_
  refine al_t (op_not rfl) ?_
  refine al_pk ?_
  exact al_nk gh6
 ·intro h6; have gh6 := h6
  simp only [nrm] at h6
  iterate 6 refine al_ps ?_
  refine al_pk ?_
  exact al_nk gh6
 refine al_nil ?_
 refine aw_cond rfl (fun h7 => ?_) (fun h7 => ?_)
 ·have gh7 := h7
  simp only [nrm] at h7
  refine aw_sr ?_
  refine al_gs ?_
  refine al_nil ?_
  refine fz1 (t := 4) ?_
  refine aw_ret ?_
  refine ⟨_, res_1 rfl rfl, ?_, rfl⟩
  rw [sameE_no gh7]
 have gh7 := h7
 simp only [nrm] at h7
 refine aw_skip ?_
 refine aw_sr ?_
 refine al_fp u37 info31 ?_
 refine al_ld u31 info31 ?_
 refine al_fp u37 info31 ?_
 refine al_ld u31 info31 ?_
 refine al_callp into71 rfl rfl rfl (e_eqfE a.kids b.kids a3 ih _) (by simp) ?_
 refine al_gs ?_
 refine al_nil ?_
 refine fz1 (t := 4) ?_
 refine aw_ret ?_
 refine ⟨_, res_1 rfl rfl, ?_, rfl⟩
 rw [sameE_yes gh7]
theorem e_same (a : Ex) : ∀ b, szX a = true → szX b = true → ACp Tryz.prog 35 [.agg (cellsE a), .agg (cellsE b)] (.v (.bool (sameE a b))) := by
  induction a using Ex.ind with
  | h a ih =>
    intro b ha hb
    obtain ⟨a1, a2, a3, a6, a7, a8⟩ := szX_facts ha
    obtain ⟨b1, b2, b3, b6, b7, b8⟩ := szX_facts hb
    exact e_sameS a b ha hb (fun x hx y hy => ih x hx y (a8 x hx) (b8 y hy))
end Go.Proofs.YtcgdlhkiecommaaGreatDoor
/- Printed walks (gen.py, lexer_ann.py): part 415. -/




namespace Go.Proofs.YtcgdlhkiecommaaGreatDoor
open Go
theorem e_put (v0 v1 : Nat) (out : List Tk) (d m : Int) (t : Tk) (hno : out.length ≤ 1000000000) : AC Tryz.prog 145 [.ptr 0 v0 0 0, .agg (encK t)] (wr v0 v1 out d m []) (fun r σ' => WrK v0 (out ++ [t]) (d) (m) r σ') := by
 refine ace 14 Tryz.func145 ?_
 refine aw_sr ?_
 refine al_bx 3 fun ver3 => ?_
 refine al_nil ?_
 refine aw_plan [0, 1, 2, 3, 4, 5, 6, 7, 8, 9, 10] (Checked.mixed Tryz.checked) (by kernel_rfl) ?_
 refine afl_float rfl rfl (opk_of (op_move rfl)) (by simp) ?_
 refine afl_float rfl rfl (opk_of (op_move rfl)) (by simp) ?_
 refine afl_float rfl rfl (opk_of (op_nilCheck_ptr rfl rfl)) (by simp) ?_
 refine afl_float rfl rfl (opk_of (op_field_ptr u123 rfl info22 (by decide) rfl rfl rfl)) (by simp) ?_
 refine afl_float rfl rfl (opk_of (op_load_ptr u22 info22 rfl rfl rfl rfl)) (by simp) ?_
 refine afl_float rfl rfl (opk_of (op_load_ptr u65 info65 rfl rfl rfl rfl)) (by simp) ?_
 refine afl_float rfl rfl (opk_of (op_buildSlice u22 info65 rfl rfl (by decide) rfl (by decide) rfl (by first | rfl | (repeat (first | exact parts_nil | refine parts_cons rfl (by repeat (first | exact all_live_nil | refine all_live_clo rfl ?_ | refine all_live_slice rfl ?_ | refine all_live_map rfl ?_ | refine all_live_ptr rfl ?_)) ?_))) rfl rfl rfl)) (by simp) ?_
 (refine afl_effR rfl rfl (by kernel_rfl) (op_append_one t u22 u22 rfl info65 rfl rfl (by decide) rfl rfl rfl (by first | rfl | simp) rfl rfl (by first | omega | (simp; done) | (simp; omega)) (by show _ * 48 ≤ _; first | omega | (simp; done) | (simp; omega))) (by simp) ?_; rintro _ _ ⟨ver11, rfl, rfl⟩; refine ⟨?_, ?_⟩)
 ·
  refine loose_anc 6 rfl (by kernel_rfl) ?_
  refine loose_anc 5 rfl (by kernel_rfl) ?_
  refine loose_anc 4 rfl (by kernel_rfl) ?_
  refine loose_anc 3 rfl (by kernel_rfl) ?_
  refine loose_anc 2 rfl (by kernel_rfl) ?_
  refine loose_anc 1 rfl (by kernel_rfl) ?_
  refine loose_k rfl (opk_of (op_move rfl)) ?_
  exact loose_nil
 refine afl_float rfl rfl (opk_of (op_nilCheck_ptr rfl rfl)) (by simp) ?_
 refine afl_float rfl rfl (opk_of (op_field_ptr u123 rfl info22 (by decide) rfl rfl rfl)) (by simp) ?_
 (refine afl_eff rfl rfl (by kernel_rfl) (op_sp info22) (by simp) ?_ ?_)
 ·
  refine loose_anc 9 rfl (by kernel_rfl) ?_
  refine loose_anc 8 rfl (by kernel_rfl) ?_
  refine loose_fix rfl ?_
  refine loose_anc 6 rfl (by kernel_rfl) ?_
  refine loose_anc 5 rfl (by kernel_rfl) ?_
  refine loose_anc 4 rfl (by kernel_rfl) ?_
  refine loose_anc 3 rfl (by kernel_rfl) ?_
  refine loose_anc 2 rfl (by kernel_rfl) ?_
  refine loose_anc 1 rfl (by kernel_rfl) ?_
  refine loose_anc 0 rfl (by kernel_rfl) ?_
  exact loose_nil
 refine afl_end ?_
 refine ⟨_, res_0 rfl, ?_⟩
 exact ⟨ver11, rfl, rfl⟩
theorem e_symbol (v0 v1 : Nat) (out : List Tk) (d m : Int) (s : Bs) (hs : s.length ≤ 1000000000) (hno : out.length ≤ 1000000000) : AC Tryz.prog 150 [.ptr 0 v0 0 0, .v (.string (str (s)))] (wr v0 v1 out d m []) (fun r σ' => WrK v0 (out ++ [tkS s]) (d) (m) r σ') := by
 refine ace 12 Tryz.func150 ?_
 refine aw_sr ?_
 refine al_gs ?_
 refine al_nil ?_
 refine aw_seq ?_
 refine aw_sr ?_
 refine al_mv ?_
 refine al_callp into119 rfl rfl rfl ((c_isWord _ (by first | assumption | omega | (simp; done) | (simp; omega) | decide)) _) (by simp) ?_
 refine al_nil ?_
 refine aw_cond rfl (fun gh1 => ?_) (fun gh1 => ?_)
 ·refine aw_region ?_
  refine al_gs ?_
  refine al_nil ?_
  refine aw_region ?_
  refine al_mv ?_
  refine al_mv ?_
  refine al_mv ?_
  refine al_o (op_bs u65 info65 place65) ?_
  (refine al_call into145 rfl rfl rfl (wr_lift rfl (e_put v0 v1 out d m ⟨2, s, 0, 0, 0⟩ hno) _ (wr_below (by rfl))) (by simp) ?_; rintro _ _ ⟨v11, rfl, rfl⟩)
  refine al_nil ?_
  refine ⟨_, res_0 rfl, ?_⟩
  exact ⟨_, rfl, by rw [tkS, gh1]; rfl⟩
 refine aw_skip ?_
 refine aw_region ?_
 refine al_mv ?_
 refine al_mv ?_
 refine al_mv ?_
 refine al_o (op_bs u65 info65 place65) ?_
 (refine al_call into145 rfl rfl rfl (wr_lift rfl (e_put v0 v1 out d m ⟨7, s, 0, 0, 0⟩ hno) _ (wr_below (by rfl))) (by simp) ?_; rintro _ _ ⟨v11, rfl, rfl⟩)
 refine al_nil ?_
 refine ⟨_, res_0 rfl, ?_⟩
 exact ⟨_, rfl, by rw [tkS, gh1]; rfl⟩
theorem e_within (v0 v1 : Nat) (out : List Tk) (d m : Int) (hd0 : 0 ≤ d) (hdm : d ≤ m) (hm : m ≤ 1000000000) (hno : out.length ≤ 1000000000) (s : Bs) (hs : s.length ≤ 1000000000) (τ : Store) (hτ : τ.below 1000 = true) (f : FuncId) (hin : Into Tryz.prog f) (caps : List AVal) (T : List Tk) (D : Nat) (H : ∀ v1, AC Tryz.prog f caps (wr v0 v1 (out ++ [tkS s]) (d + 1) (max m (d + 1)) τ) (WrT v0 (out ++ [tkS s] ++ T) (d + 1) (max (max m (d + 1)) (d + 1 + (D : Nat))) τ)) : AC Tryz.prog 148 [.ptr 0 v0 0 0, .v (.string (str (s))), .fn f caps] (wr v0 v1 out d m τ) (fun r σ' => WrT v0 (out ++ tkS s :: T) d (max m (d + (D + 1 : Nat))) τ r σ') := by
 refine ace 37 Tryz.func148 ?_
 refine aw_sr ?_
 refine al_mv ?_
 refine al_mv ?_
 (refine al_call into150 rfl rfl rfl (wr_lift rfl (e_symbol v0 v1 out d m s hs hno) _ (wr_below hτ)) (by simp) ?_; rintro _ _ ⟨v8, rfl, rfl⟩)
 refine al_sr ?_
 refine al_mv ?_
 refine al_o (op_nilCheck_ptr rfl rfl) ?_
 refine al_fp u123 info3 ?_
 refine al_ld u3 info3 ?_
 refine al_ad ?_
 refine al_o (op_nilCheck_ptr rfl rfl) ?_
 refine al_fp u123 info3 ?_
 refine al_sp info3 ?_
 refine al_nil ?_
 refine aw_seq ?_
 refine aw_any (Checked.mixed Tryz.checked) ?_
 apply aany_seg (p := 0) (q := 12) (by kernel_rfl) rfl (by decide)
 ·
  apply ql_plain rfl (op_move rfl)
  apply ql_plain rfl (op_move rfl)
  apply ql_plain rfl (op_nilCheck_ptr rfl rfl)
  apply ql_plain rfl (op_field_ptr u123 rfl info3 (by decide) rfl rfl rfl)
  apply ql_plain rfl (op_load_ptr u3 info3 rfl rfl rfl rfl)
  apply ql_plain rfl (op_move rfl)
  apply ql_plain rfl (op_nilCheck_ptr rfl rfl)
  apply ql_plain rfl (op_field_ptr u123 rfl info3 (by decide) rfl rfl rfl)
  apply ql_plain rfl (op_load_ptr u3 info3 rfl rfl rfl rfl)
  apply ql_plain rfl (op_max rfl rfl)
  apply ql_plain rfl (op_nilCheck_ptr rfl rfl)
  apply ql_plain rfl (op_field_ptr u123 rfl info3 (by decide) rfl rfl rfl)
  exact ql_nil
 ·simp
 refine aany_op (by kernel_rfl) rfl rfl (op_sp info3) (by simp) ?_
 refine aany_end rfl (by kernel_rfl) ?_
 refine aw_sr ?_
 refine al_mv ?_
 (refine al_call hin rfl rfl rfl (H v8) (by simp) ?_; rintro _ _ ⟨v29, rfl, rfl⟩)
 refine al_nil ?_
 refine aw_region ?_
 refine al_mv ?_
 refine al_o (op_nilCheck_ptr rfl rfl) ?_
 refine al_fp u123 info3 ?_
 refine al_ld u3 info3 ?_
 refine al_o (op_sub rfl rfl (by first | exact wrap_i64 (by omega) (by omega))) ?_
 refine al_o (op_nilCheck_ptr rfl rfl) ?_
 refine al_fp u123 info3 ?_
 refine al_sp info3 ?_
 refine al_nil ?_
 refine ⟨_, res_0 rfl, ?_⟩
 have e1 : d + 1 - 1 = d := by omega
 have e2 : max (max m (d + 1)) (d + 1 + (D : Nat)) = max m (d + (D + 1 : Nat)) := by omega
 have e3 : out ++ [tkS s] ++ T = out ++ tkS s :: T := by simp
 rw [e1, e2, e3]; exact ⟨_, rfl, rfl⟩
end Go.Proofs.YtcgdlhkiecommaaGreatDoor
/- Printed walks (gen.py, lexer_ann.py): part 416. -/




namespace Go.Proofs.YtcgdlhkiecommaaGreatDoor
open Go
theorem e_brk1 (v0 v1 : Nat) (out : List Tk) (d m : Int) (hd0 : 0 ≤ d) (hdm : d ≤ m) (hm : m ≤ 1000000000) (s : Bs) (hs : s.length ≤ 1000000000) (l : List Ex) (hl : l.length ≤ 1000000000) (ih : ∀ k ∈ l, WX Tryz.prog k) (hno : out.length + (sepT s (l.map toks)).length ≤ 1000000000) (hdd : d + (maxL (l.map dep) : Nat) ≤ 1000000000) (v3 v4 v5 : Nat) : AC Tryz.prog 180 [.ptr 5 v5 0 0, .ptr 3 v3 0 0, .ptr 4 v4 0 0] (wr v0 v1 out d m [(3, v3, .row 1 [[.ptr 0 v0 0 0]]), (4, v4, .row 1 [[.v (.string (str (s)))]]), (5, v5, .row 1 [[.list 16 ((l).map encE)]])]) (fun r σ' => WrT v0 (out ++ sepT s (l.map toks)) d (max m (d + (maxL (l.map dep) : Nat))) [(3, v3, .row 1 [[.ptr 0 v0 0 0]]), (4, v4, .row 1 [[.v (.string (str (s)))]]), (5, v5, .row 1 [[.list 16 ((l).map encE)]])] r σ') := by
 refine ace 21 Tryz.func180 ?_
 refine aw_sr ?_
 refine al_ld u31 info31 ?_
 refine al_lm u31 ?_
 refine al_mv ?_
 refine al_nil ?_
 refine aw_block ?_
 refine aw_for2T (α := Nat) (β := Nat) [7] [104] (fun i w => l.length - i) (fun i w => i ≤ l.length) (fun i w => ([(7, .v (.int .i64 ((i : Nat) : Int)))] : Env)) (fun i w st => wr v0 w (out ++ sepT s ((l.map toks).take i)) d (max m (d + (maxL ((l.map dep).take i) : Nat))) [(3, v3, .row 1 [[.ptr 0 v0 0 0]]), (4, v4, .row 1 [[.v (.string (str (s)))]]), (5, v5, .row 1 [[.list 16 ((l).map encE)]])]) (0) (v1) ?_ ?_ ?_ (fun i w hinv => ?_)
 ·exact Nat.zero_le _
 ·refine sub_1 ?_
  all_goals (first | rfl | simp)
 ·exact wr_start s l hdm
 refine aw_sr ?_
 refine al_ls ?_
 refine al_nil ?_
 refine aw_seq ?_
 refine aw_cond rfl (fun h1 => ?_) (fun h1 => ?_)
 ·have gh1 := h1
  simp only [nrm] at h1
  refine aw_skip ?_
  refine aw_seq ?_
  refine aw_block ?_
  refine aw_seq ?_
  have hil : i < l.length := by omega
  obtain ⟨hb1, hb2, hb3⟩ := row_bounds (s := s) hil hno
  have hb4 := dep_bound hil
  have hb5 := maxL_take_le (l.map dep) i
  refine aw_region ?_
  refine al_mv ?_
  refine al_o (val_as (.rptr (cellsE (l.getD i default))) (op_im u31 info37) (by exact congrArg AVal.rptr (encE_cells _))) ?_
  refine al_lr u37 info37 ?_
  refine al_al 104 info37 fun ver4 => ?_
  refine al_gs ?_
  refine al_sp info37 ?_
  refine al_nil ?_
  refine aw_seq ?_
  refine aw_sr ?_
  refine al_mv ?_
  refine al_o (op_gtr rfl rfl) ?_
  refine al_nil ?_
  refine aw_cond rfl (fun h2 => ?_) (fun h2 => ?_)
  ·have gh2 := h2
   simp only [nrm] at h2
   refine aw_region ?_
   refine al_ld u149 info149 ?_
   refine al_ld u9 info9 ?_
   (refine al_call into150 rfl rfl rfl (wr_lift rfl (e_symbol v0 w (out ++ sepT s ((l.map toks).take i)) d (max m (d + (maxL ((l.map dep).take i) : Nat))) s hs hb1) _ (wr_below (by rfl))) (by simp) ?_; rintro _ _ ⟨v16, rfl, rfl⟩)
   refine al_nil ?_
   refine aw_region ?_
   refine al_ld u149 info149 ?_
   refine al_ld u37 info37 ?_
   (refine al_call into101 rfl rfl rfl (ih (l.getD i default) (getD_mem hil) v0 v16 ((out ++ sepT s ((l.map toks).take i)) ++ [tkS s]) d (max m (d + (maxL ((l.map dep).take i) : Nat))) _ (wr_below (by rfl)) hd0 (by omega) (by omega) (hb2 (by omega)) (by omega)) (by simp) ?_; rintro _ _ ⟨v19, rfl, rfl⟩)
   refine al_nil ?_
   refine aw_region ?_
   refine al_ad ?_
   refine al_mv ?_
   refine al_nil ?_
   refine ⟨i + 1, v19, ?_, ?_, ?_, ?_, ?_⟩
   ·omega
   ·omega
   ·refine sub_1 ?_
    all_goals (first | rfl | simp)
   ·exact sbl
   ·first | exact wr_pos s l i hil (by omega) | exact wr_zero s l i hil (by omega)
  have gh2 := h2
  simp only [nrm] at h2
  refine aw_skip ?_
  refine aw_region ?_
  refine al_ld u149 info149 ?_
  refine al_ld u37 info37 ?_
  (refine al_call into101 rfl rfl rfl (ih (l.getD i default) (getD_mem hil) v0 w (out ++ sepT s ((l.map toks).take i)) d (max m (d + (maxL ((l.map dep).take i) : Nat))) _ (wr_below (by rfl)) hd0 (by omega) (by omega) (hb3 (by omega)) (by omega)) (by simp) ?_; rintro _ _ ⟨v19, rfl, rfl⟩)
  refine al_nil ?_
  refine aw_region ?_
  refine al_ad ?_
  refine al_mv ?_
  refine al_nil ?_
  refine ⟨i + 1, v19, ?_, ?_, ?_, ?_, ?_⟩
  ·omega
  ·omega
  ·refine sub_1 ?_
   all_goals (first | rfl | simp)
  ·exact sbl
  ·first | exact wr_pos s l i hil (by omega) | exact wr_zero s l i hil (by omega)
 have gh1 := h1
 simp only [nrm] at h1
 refine aw_exit ?_
 refine ⟨_, res_0 rfl, ?_⟩
 obtain rfl : i = l.length := by omega
 rw [List.take_of_length_le (by simp), List.take_of_length_le (by simp)]; exact ⟨w, rfl, rfl⟩
theorem e_brackets (v0 v1 : Nat) (out : List Tk) (d m : Int) (hd0 : 0 ≤ d) (hdm : d ≤ m) (hm : m ≤ 1000000000) (s : Bs) (hs : s.length ≤ 1000000000) (l : List Ex) (hl : l.length ≤ 1000000000) (ih : ∀ k ∈ l, WX Tryz.prog k) (hno : out.length + (inBr (sepT s (l.map toks))).length ≤ 1000000000) (hdd : d + (maxL (l.map dep) + 1 : Nat) ≤ 1000000000) : AC Tryz.prog 147 [.ptr 0 v0 0 0, .v (.string (str (s))), .list 16 ((l).map encE)] (wr v0 v1 out d m []) (fun r σ' => WrK v0 (out ++ inBr (sepT s (l.map toks))) (d) (max m (d + (maxL (l.map dep) + 1 : Nat))) r σ') := by
 have hno2 := hno
 simp only [inBr, List.length_cons, List.length_append, List.length_nil] at hno2
 refine ace 11 Tryz.func147 ?_
 refine aw_sr ?_
 refine al_bx 3 fun ver3 => ?_
 refine al_bx 4 fun ver4 => ?_
 refine al_bx 5 fun ver5 => ?_
 refine al_sr ?_
 refine al_ld u149 info149 ?_
 refine al_o (op_closure rfl rfl) ?_
 (refine al_call into148 rfl rfl rfl (e_within v0 v1 out d m hd0 hdm hm (by omega) sOpen (by decide) _ (by rfl) 180 into180 _ (sepT s (l.map toks)) (maxL (l.map dep)) (fun w => e_brk1 v0 w (out ++ [tkS sOpen]) (d + 1) (max m (d + 1)) (by omega) (by omega) (by omega) s hs l hl ih (by simp only [List.length_append, List.length_cons, List.length_nil]; omega) (by omega) ver3 ver4 ver5)) (by simp) ?_; rintro _ _ ⟨v8, rfl, rfl⟩)
 refine al_nil ?_
 refine aw_region ?_
 refine al_ld u149 info149 ?_
 (refine al_call into150 rfl rfl rfl (wr_lift rfl (e_symbol v0 v8 (out ++ tkS sOpen :: sepT s (l.map toks)) d (max m (d + (maxL (l.map dep) + 1 : Nat))) sShut (by decide) (by simp only [List.length_append, List.length_cons]; omega)) _ (wr_below (by rfl))) (by simp) ?_; rintro _ _ ⟨v10, rfl, rfl⟩)
 refine al_nil ?_
 refine ⟨_, res_0 rfl, ?_⟩
 exact ⟨v10, rfl, wr_eq (by simp [inBr]) rfl⟩
theorem e_kid (v0 v1 : Nat) (out : List Tk) (d m : Int) (hd0 : 0 ≤ d) (hdm : d ≤ m) (hm : m ≤ 1000000000) (e : Ex) (hz : szE e = true) (least : Int) (ih : WX Tryz.prog e) (hno : out.length + (kidTk e least).length ≤ 1000000000) (hdd : d + (kidDp e least : Nat) ≤ 1000000000) : AC Tryz.prog 146 [.ptr 0 v0 0 0, .agg (cellsE (e)), .v (.int .i64 (least))] (wr v0 v1 out d m []) (fun r σ' => WrK v0 (out ++ kidTk e least) (d) (max m (d + (kidDp e least : Nat))) r σ') := by
 obtain ⟨z1, z2, z3, z4, z5⟩ := szE_facts hz
 refine ace 17 Tryz.func146 ?_
 refine aw_sr ?_
 refine al_bx 4 fun ver4 => ?_
 refine al_sr ?_
 refine al_ld u37 info37 ?_
 refine al_callp into144 rfl rfl rfl (e_binds e z1 _) (by simp) ?_
 refine al_mv ?_
 refine al_ls ?_
 refine al_nil ?_
 refine aw_cond rfl (fun h1 => ?_) (fun h1 => ?_)
 ·have gh1 := h1
  simp only [nrm] at h1
  refine aw_region ?_
  refine al_mv ?_
  refine al_ld u37 info37 ?_
  refine al_o (op_list encE [e] u31 info37 rfl rfl (by decide) rfl (by decide) rfl (by first | rfl | (repeat (first | exact parts_nil | refine parts_cons rfl (by repeat (first | exact all_live_nil | refine all_live_clo rfl ?_ | refine all_live_slice rfl ?_ | refine all_live_map rfl ?_ | refine all_live_ptr rfl ?_)) ?_))) rfl rfl rfl (kids1 _)) ?_
  have hno2 := hno
  rw [kidTk, if_pos h1] at hno2
  have hdd2 := hdd
  rw [kidDp, if_pos h1] at hdd2
  (refine al_call into147 rfl rfl rfl (wr_lift rfl (e_brackets v0 v1 out d m hd0 hdm hm [] (by decide) [e] (by simp) (fun k hk => by rw [List.mem_singleton.1 hk]; exact ih) hno2 (by simp only [List.map_cons, List.map_nil, maxL]; omega)) _ (wr_below (by rfl))) (by simp) ?_; rintro _ _ ⟨v13, rfl, rfl⟩)
  refine al_nil ?_
  refine ⟨_, res_0 rfl, ?_⟩
  rw [kidTk, if_pos h1, kidDp, if_pos h1]; exact ⟨v13, rfl, wr_eq (by simp [sepT]) (by simp [maxL])⟩
 have gh1 := h1
 simp only [nrm] at h1
 refine aw_region ?_
 refine al_mv ?_
 refine al_ld u37 info37 ?_
 have hno2 := hno
 rw [kidTk, if_neg h1] at hno2
 have hdd2 := hdd
 rw [kidDp, if_neg h1] at hdd2
 (refine al_call into101 rfl rfl rfl (ih v0 v1 out d m _ (wr_below (by rfl)) hd0 hdm hm hno2 hdd2) (by simp) ?_; rintro _ _ ⟨v16, rfl, rfl⟩)
 refine al_nil ?_
 refine ⟨_, res_0 rfl, ?_⟩
 rw [kidTk, if_neg h1, kidDp, if_neg h1]; exact ⟨v16, rfl, rfl⟩
theorem e_unary (v0 v1 : Nat) (out : List Tk) (d m : Int) (hd0 : 0 ≤ d) (hdm : d ≤ m) (hm : m ≤ 1000000000) (e : Ex) (hk : e.kids.length = 1) (hz : szE (e.kids.getD 0 default) = true) (ih : WX Tryz.prog (e.kids.getD 0 default)) (hno : out.length + (kidTk (e.kids.getD 0 default) 4).length ≤ 1000000000) (hdd : d + (kidDp (e.kids.getD 0 default) 4 : Nat) ≤ 1000000000) (v2 v3 : Nat) : AC Tryz.prog 149 [.ptr 2 v2 0 0, .ptr 3 v3 0 0] (wr v0 v1 out d m [(2, v2, .row 1 [[.ptr 0 v0 0 0]]), (3, v3, .row 16 [cellsE e])]) (fun r σ' => WrT v0 (out ++ kidTk (e.kids.getD 0 default) 4) d (max m (d + (kidDp (e.kids.getD 0 default) 4 : Nat))) [(2, v2, .row 1 [[.ptr 0 v0 0 0]]), (3, v3, .row 16 [cellsE e])] r σ') := by
 refine ace 8 Tryz.func149 ?_
 refine aw_plan [0, 1, 2, 3, 4, 5] (Checked.mixed Tryz.checked) (by kernel_rfl) ?_
 refine afl_float rfl rfl (opk_of (op_load_ptr u149 info149 rfl rfl rfl rfl)) (by simp) ?_
 refine afl_float rfl rfl (opk_of (op_field_ptr u37 rfl info31 (by decide) rfl rfl rfl)) (by simp) ?_
 refine afl_float rfl rfl (opk_of (op_load_ptr u31 info31 rfl rfl rfl rfl)) (by simp) ?_
 refine afl_float rfl rfl (opk_of (val_as (.rptr (cellsE (e.kids.getD 0 default))) (op_im u31 info37) (by exact congrArg AVal.rptr (encE_cells _)))) (by simp) ?_
 refine afl_float rfl rfl (opk_of (op_load_rptr u37 info37 rfl rfl)) (by simp) ?_
 (refine afl_call rfl (by kernel_rfl) into146 rfl rfl rfl (wr_lift rfl (e_kid v0 v1 out d m hd0 hdm hm (e.kids.getD 0 default) hz 4 ih hno hdd) _ (wr_below (by rfl))) (by simp) ?_; rintro _ _ ⟨v7, rfl, rfl⟩; refine ⟨_, rfl, ?_, ?_⟩)
 ·
  refine loose_anc 4 rfl (by kernel_rfl) ?_
  refine loose_anc 3 rfl (by kernel_rfl) ?_
  refine loose_anc 2 rfl (by kernel_rfl) ?_
  refine loose_anc 1 rfl (by kernel_rfl) ?_
  refine loose_anc 0 rfl (by kernel_rfl) ?_
  exact loose_nil
 refine afl_end ?_
 refine ⟨_, res_0 rfl, ?_⟩
 exact ⟨v7, rfl, rfl⟩
end Go.Proofs.YtcgdlhkiecommaaGreatDoor
/- Printed walks (gen.py, lexer_ann.py): part 417. -/




namespace Go.Proofs.YtcgdlhkiecommaaGreatDoor
open Go
theorem e_text1 (v0 : Nat) (e : Ex) (hbt : BTx Tryz.prog e.bits) : AC Tryz.prog 142 [.ptr 0 v0 0 0] ([(0, v0, .row 16 [cellsE e])]) (fun r σ' => r = .ret (.v (.string (str (bitsT e.bits)))) ∧ σ'.keep k0 = [(0, v0, .row 16 [cellsE e])]) := by
 refine ace 11 Tryz.func142 ?_
 refine aw_sr ?_
 refine al_gs ?_
 refine al_sr ?_
 refine al_fp u37 info26 ?_
 refine al_ld u26 info26 ?_
 refine al_callp into143 rfl rfl rfl (hbt _) (by simp) ?_
 refine al_mv ?_
 refine al_xt ?_
 refine al_xt ?_
 refine al_gs ?_
 refine al_gs ?_
 refine al_sr ?_
 refine al_mv ?_
 refine al_gs ?_
 refine al_nil ?_
 refine aw_ret ?_
 refine ⟨_, res_1 rfl rfl, ?_⟩
 exact ⟨rfl, rfl⟩
theorem e_textA (v3 : Nat) (e : Ex) (hbt : BTx Tryz.prog e.bits) {σ : Store} (h1 : σ.get 3 = some (v3, .row 16 [cellsE e])) (hb : σ.below 1000 = true) : AC Tryz.prog 142 [.ptr 3 v3 0 0] σ (fun r σ' => r = .ret (.v (.string (str (bitsT e.bits)))) ∧ σ' = σ) := one_look 3 (by decide) rfl rfl (e_text1 v3 e hbt) h1 hb
end Go.Proofs.YtcgdlhkiecommaaGreatDoor
/- Printed walks (gen.py, lexer_ann.py): part 418. -/



namespace Go.Proofs.YtcgdlhkiecommaaGreatDoor
open Go
theorem e_wexprS (v0 v1 : Nat) (out : List Tk) (d m : Int) (hd0 : 0 ≤ d) (hdm : d ≤ m) (hm : m ≤ 1000000000) (e : Ex) (hz : szE e = true) (hsh : shapeP e = true) (hBT : BTok Tryz.prog e) (ih : ∀ k ∈ e.kids, WX Tryz.prog k) (hno : out.length + (toks e).length ≤ 1000000000) (hdd : d + (dep e : Nat) ≤ 1000000000) : AC Tryz.prog 101 [.ptr 0 v0 0 0, .agg (cellsE (e))] (wr v0 v1 out d m []) (fun r σ' => WrK v0 (out ++ toks e) (d) (max m (d + (dep e : Nat))) r σ') := by
 obtain ⟨z1, z2, z3, z4, z5⟩ := szE_facts hz
 refine ace 122 Tryz.func101 ?_
 refine aw_sr ?_
 refine al_bx 2 fun ver2 => ?_
 refine al_bx 3 fun ver3 => ?_
 refine al_sr ?_
 refine al_o (op_closure rfl rfl) ?_
 refine al_gs ?_
 refine al_sr ?_
 refine al_ld u37 info37 ?_
 refine al_callp into144 rfl rfl rfl (e_binds e z1 _) (by simp) ?_
 refine al_gs ?_
 refine al_nil ?_
 refine aw_block ?_
 refine aw_sr ?_
 refine al_fp u37 info25 ?_
 refine al_ld u25 info25 ?_
 refine al_eq ?_
 refine al_gs ?_
 refine al_nil ?_
 refine aw_cond rfl (fun h1 => ?_) (fun h1 => ?_)
 ·have gh1 := h1
  simp only [nrm] at h1
  obtain ⟨ht, hdp⟩ := toks_int gh1
  have hno2 := hno
  rw [ht] at hno2
  simp only [List.length_append, List.length_cons, List.length_nil] at hno2
  have hdd2 := hdd
  rw [hdp] at hdd2
  refine aw_region ?_
  refine al_ld u149 info149 ?_
  refine al_fp u37 info3 ?_
  refine al_ld u3 info3 ?_
  refine al_o (op_bs u65 info65 place65) ?_
  (refine al_call into145 rfl rfl rfl (wr_lift rfl (e_put v0 v1 (out) d (m) (⟨3, [], e.n, 0, 0⟩) (by first | omega | (simp only [List.length_append, List.length_cons, List.length_nil]; omega))) _ (wr_below (by rfl))) (by simp) ?_; rintro _ _ ⟨v42, rfl, rfl⟩)
  refine al_nil ?_
  refine ⟨_, res_0 rfl, ?_⟩
  rw [ht, hdp]; exact ⟨v42, rfl, wr_eq rfl (by omega)⟩
 have gh1 := h1
 simp only [nrm] at h1
 refine aw_sr ?_
 refine al_fp u37 info25 ?_
 refine al_ld u25 info25 ?_
 refine al_eq ?_
 refine al_gs ?_
 refine al_nil ?_
 refine aw_cond rfl (fun h2 => ?_) (fun h2 => ?_)
 ·have gh2 := h2
  simp only [nrm] at h2
  obtain ⟨ht, hdp⟩ := toks_bit gh1 gh2
  have hno2 := hno
  rw [ht] at hno2
  simp only [List.length_append, List.length_cons, List.length_nil] at hno2
  have hdd2 := hdd
  rw [hdp] at hdd2
  refine aw_any (Checked.mixed Tryz.checked) ?_
  apply aany_seg (p := 0) (q := 4) (by kernel_rfl) rfl (by decide)
  ·
   apply ql_plain rfl (op_load_ptr u149 info149 rfl rfl rfl rfl)
   apply ql_plain rfl (op_move rfl)
   apply ql_call into142 rfl rfl rfl (e_textA ver3 e (hBT.at (.inl gh2) (shape_bits hsh gh1 (.inl gh2)) z4) rfl rfl)
   apply ql_plain rfl (op_bs u65 info65 place65)
   exact ql_nil
  ·simp
  (refine aany_call (by kernel_rfl) rfl into145 rfl rfl rfl (wr_lift rfl (e_put v0 v1 (out) d (m) (⟨4, bitsT e.bits, 0, 0, 0⟩) (by first | omega | (simp only [List.length_append, List.length_cons, List.length_nil]; omega))) _ (wr_below (by rfl))) (by simp) ?_; rintro _ _ ⟨v51, rfl, rfl⟩)
  refine aany_end rfl (by kernel_rfl) ?_
  refine ⟨_, res_0 rfl, ?_⟩
  rw [ht, hdp]; exact ⟨v51, rfl, wr_eq rfl (by omega)⟩
 have gh2 := h2
 simp only [nrm] at h2
 refine aw_sr ?_
 refine al_fp u37 info25 ?_
 refine al_ld u25 info25 ?_
 refine al_eq ?_
 refine al_gs ?_
 refine al_nil ?_
 refine aw_cond rfl (fun h3 => ?_) (fun h3 => ?_)
 ·have gh3 := h3
  simp only [nrm] at h3
  obtain ⟨ht, hdp⟩ := toks_vec gh1 gh2 gh3
  have hno2 := hno
  rw [ht] at hno2
  simp only [List.length_append, List.length_cons, List.length_nil] at hno2
  have hdd2 := hdd
  rw [hdp] at hdd2
  refine aw_any (Checked.mixed Tryz.checked) ?_
  apply aany_seg (p := 0) (q := 4) (by kernel_rfl) rfl (by decide)
  ·
   apply ql_plain rfl (op_load_ptr u149 info149 rfl rfl rfl rfl)
   apply ql_plain rfl (op_move rfl)
   apply ql_call into142 rfl rfl rfl (e_textA ver3 e (hBT.at (.inr gh3) (shape_bits hsh gh1 (.inr ⟨gh2, gh3⟩)) z4) rfl rfl)
   apply ql_plain rfl (op_bs u65 info65 place65)
   exact ql_nil
  ·simp
  (refine aany_call (by kernel_rfl) rfl into145 rfl rfl rfl (wr_lift rfl (e_put v0 v1 (out) d (m) (⟨5, bitsT e.bits, 0, 0, 0⟩) (by first | omega | (simp only [List.length_append, List.length_cons, List.length_nil]; omega))) _ (wr_below (by rfl))) (by simp) ?_; rintro _ _ ⟨v60, rfl, rfl⟩)
  refine aany_end rfl (by kernel_rfl) ?_
  refine ⟨_, res_0 rfl, ?_⟩
  rw [ht, hdp]; exact ⟨v60, rfl, wr_eq rfl (by omega)⟩
 have gh3 := h3
 simp only [nrm] at h3
 refine aw_sr ?_
 refine al_fp u37 info25 ?_
 refine al_ld u25 info25 ?_
 refine al_eq ?_
 refine al_gs ?_
 refine al_nil ?_
 refine aw_cond rfl (fun h4 => ?_) (fun h4 => ?_)
 ·have gh4 := h4
  simp only [nrm] at h4
  obtain ⟨ht, hdp⟩ := toks_name gh1 gh2 gh3 gh4
  have hno2 := hno
  rw [ht] at hno2
  simp only [List.length_append, List.length_cons, List.length_nil] at hno2
  have hdd2 := hdd
  rw [hdp] at hdd2
  refine aw_region ?_
  refine al_ld u149 info149 ?_
  refine al_fp u37 info9 ?_
  refine al_ld u9 info9 ?_
  refine al_o (op_bs u65 info65 place65) ?_
  (refine al_call into145 rfl rfl rfl (wr_lift rfl (e_put v0 v1 (out) d (m) (tkN e.name) (by first | omega | (simp only [List.length_append, List.length_cons, List.length_nil]; omega))) _ (wr_below (by rfl))) (by simp) ?_; rintro _ _ ⟨v69, rfl, rfl⟩)
  refine al_nil ?_
  refine ⟨_, res_0 rfl, ?_⟩
  rw [ht, hdp]; exact ⟨v69, rfl, wr_eq rfl (by omega)⟩
 have gh4 := h4
 simp only [nrm] at h4
 refine aw_sr ?_
 refine al_fp u37 info25 ?_
 refine al_ld u25 info25 ?_
 refine al_eq ?_
 refine al_gs ?_
 refine al_nil ?_
 refine aw_cond rfl (fun h5 => ?_) (fun h5 => ?_)
 ·have gh5 := h5
  simp only [nrm] at h5
  have hk := shape_index hsh gh1 gh2 gh3 gh4 gh5
  obtain ⟨ht, hdp⟩ := toks_index gh1 gh2 gh3 gh4 gh5 hk
  have hno2 := hno
  rw [ht] at hno2
  simp only [List.length_append, List.length_cons, List.length_nil] at hno2
  have hdd2 := hdd
  rw [hdp] at hdd2
  have hm0 : e.kids.getD 0 default ∈ e.kids := getD_mem (by omega)
  have hm1 : e.kids.getD 1 default ∈ e.kids := getD_mem (by omega)
  refine aw_seq ?_
  refine aw_any (Checked.mixed Tryz.checked) ?_
  apply aany_seg (p := 0) (q := 5) (by kernel_rfl) rfl (by decide)
  ·
   apply ql_plain rfl (op_load_ptr u149 info149 rfl rfl rfl rfl)
   apply ql_plain rfl (op_field_ptr u37 rfl info31 (by decide) rfl rfl rfl)
   apply ql_plain rfl (op_load_ptr u31 info31 rfl rfl rfl rfl)
   apply ql_plain rfl (val_as (.rptr (cellsE (e.kids.getD 0 default))) (op_im u31 info37) (by exact congrArg AVal.rptr (encE_cells _)))
   apply ql_plain rfl (op_load_rptr u37 info37 rfl rfl)
   exact ql_nil
  ·simp
  (refine aany_call (by kernel_rfl) rfl into146 rfl rfl rfl (wr_lift rfl (e_kid v0 v1 (out) d (m) hd0 (by omega) (by omega) (e.kids.getD 0 default) (z5 _ hm0) (5) (ih _ hm0) (by first | omega | (simp only [List.length_append, List.length_cons, List.length_nil]; omega)) (by omega)) _ (wr_below (by rfl))) (by simp) ?_; rintro _ _ ⟨v79, rfl, rfl⟩)
  refine aany_end rfl (by kernel_rfl) ?_
  refine aw_any (Checked.mixed Tryz.checked) ?_
  apply aany_seg (p := 0) (q := 6) (by kernel_rfl) rfl (by decide)
  ·
   apply ql_plain rfl (op_load_ptr u149 info149 rfl rfl rfl rfl)
   apply ql_plain rfl (op_field_ptr u37 rfl info31 (by decide) rfl rfl rfl)
   apply ql_plain rfl (op_load_ptr u31 info31 rfl rfl rfl rfl)
   apply ql_plain rfl (val_as (.rptr (cellsE (e.kids.getD 1 default))) (op_im u31 info37) (by exact congrArg AVal.rptr (encE_cells _)))
   apply ql_plain rfl (op_load_rptr u37 info37 rfl rfl)
   apply ql_plain rfl (op_list encE [e.kids.getD 1 default] u31 info37 rfl rfl (by decide) rfl (by decide) rfl (by first | rfl | (repeat (first | exact parts_nil | refine parts_cons rfl (by repeat (first | exact all_live_nil | refine all_live_clo rfl ?_ | refine all_live_slice rfl ?_ | refine all_live_map rfl ?_ | refine all_live_ptr rfl ?_)) ?_))) rfl rfl rfl (by exact kids1 _))
   exact ql_nil
  ·simp
  (refine aany_call (by kernel_rfl) rfl into147 rfl rfl rfl (wr_lift rfl (e_brackets v0 v79 (out ++ kidTk (e.kids.getD 0 default) (5)) d (max m (d + (kidDp (e.kids.getD 0 default) (5) : Nat))) hd0 (by omega) (by omega) [] (by decide) [e.kids.getD 1 default] (by simp) (fun k hk => by rw [List.mem_singleton.1 hk]; exact ih _ hm1) (show _ + (inBr (toks (e.kids.getD 1 default))).length ≤ _ by simp only [List.length_append]; omega) (by simp only [List.map_cons, List.map_nil, maxL]; omega)) _ (wr_below (by rfl))) (by simp) ?_; rintro _ _ ⟨v86, rfl, rfl⟩)
  refine aany_end rfl (by kernel_rfl) ?_
  refine ⟨_, res_0 rfl, ?_⟩
  rw [ht, hdp]; exact ⟨v86, rfl, wr_eq (by simp [sepT]) (by simp only [List.map_cons, List.map_nil, maxL]; omega)⟩
 have gh5 := h5
 simp only [nrm] at h5
 refine aw_sr ?_
 refine al_fp u37 info25 ?_
 refine al_ld u25 info25 ?_
 refine al_eq ?_
 refine al_gs ?_
 refine al_nil ?_
 refine aw_cond rfl (fun h6 => ?_) (fun h6 => ?_)
 ·have gh6 := h6
  simp only [nrm] at h6
  have hk := shape_slice hsh gh1 gh2 gh3 gh4 gh5 gh6
  obtain ⟨ht, hdp⟩ := toks_slice gh1 gh2 gh3 gh4 gh5 gh6 hk
  have hno2 := hno
  rw [ht] at hno2
  simp only [List.length_append, List.length_cons, List.length_nil] at hno2
  have hdd2 := hdd
  rw [hdp] at hdd2
  have hm0 : e.kids.getD 0 default ∈ e.kids := getD_mem (by omega)
  refine aw_seq ?_
  refine aw_any (Checked.mixed Tryz.checked) ?_
  apply aany_seg (p := 0) (q := 5) (by kernel_rfl) rfl (by decide)
  ·
   apply ql_plain rfl (op_load_ptr u149 info149 rfl rfl rfl rfl)
   apply ql_plain rfl (op_field_ptr u37 rfl info31 (by decide) rfl rfl rfl)
   apply ql_plain rfl (op_load_ptr u31 info31 rfl rfl rfl rfl)
   apply ql_plain rfl (val_as (.rptr (cellsE (e.kids.getD 0 default))) (op_im u31 info37) (by exact congrArg AVal.rptr (encE_cells _)))
   apply ql_plain rfl (op_load_rptr u37 info37 rfl rfl)
   exact ql_nil
  ·simp
  (refine aany_call (by kernel_rfl) rfl into146 rfl rfl rfl (wr_lift rfl (e_kid v0 v1 (out) d (m) hd0 (by omega) (by omega) (e.kids.getD 0 default) (z5 _ hm0) (5) (ih _ hm0) (by first | omega | (simp only [List.length_append, List.length_cons, List.length_nil]; omega)) (by omega)) _ (wr_below (by rfl))) (by simp) ?_; rintro _ _ ⟨v96, rfl, rfl⟩)
  refine aany_end rfl (by kernel_rfl) ?_
  refine aw_any (Checked.mixed Tryz.checked) ?_
  apply aany_seg (p := 0) (q := 4) (by kernel_rfl) rfl (by decide)
  ·
   apply ql_plain rfl (op_load_ptr u149 info149 rfl rfl rfl rfl)
   apply ql_plain rfl (op_field_ptr u37 rfl info31 (by decide) rfl rfl rfl)
   apply ql_plain rfl (op_load_ptr u31 info31 rfl rfl rfl rfl)
   apply ql_plain rfl (val_as (.list 16 ((e.kids.drop 1).map encE)) (op_cut_map (f := encE) (l := 1) (h := e.kids.length) u31 info37 rfl rfl (OptI.of rfl rfl) OptI.none (by omega) (by omega)) (by rw [List.take_of_length_le (by simp)]; rfl))
   exact ql_nil
  ·simp
  (refine aany_call (by kernel_rfl) rfl into147 rfl rfl rfl (wr_lift rfl (e_brackets v0 v96 (out ++ kidTk (e.kids.getD 0 default) (5)) d (max m (d + (kidDp (e.kids.getD 0 default) (5) : Nat))) hd0 (by omega) (by omega) sDownto (by decide) (e.kids.drop 1) (by rw [List.length_drop]; omega) (fun k hk => ih k (List.mem_of_mem_drop hk)) (by simp only [List.length_append]; omega) (by omega)) _ (wr_below (by rfl))) (by simp) ?_; rintro _ _ ⟨v101, rfl, rfl⟩)
  refine aany_end rfl (by kernel_rfl) ?_
  refine ⟨_, res_0 rfl, ?_⟩
  rw [ht, hdp]; exact ⟨v101, rfl, wr_eq (by simp) (by omega)⟩
 have gh6 := h6
 simp only [nrm] at h6
 refine aw_sr ?_
 refine al_mv ?_
 refine al_eq ?_
 refine al_gs ?_
 refine al_nil ?_
 refine aw_cond rfl (fun h7 => ?_) (fun h7 => ?_)
 ·have gh7 := h7
  simp only [nrm] at h7
  obtain ⟨ht, hdp⟩ := toks_call gh1 gh2 gh3 gh4 gh5 gh6 gh7
  have hno2 := hno
  rw [ht] at hno2
  simp only [List.length_append, List.length_cons, List.length_nil] at hno2
  have hdd2 := hdd
  rw [hdp] at hdd2
  refine aw_sr ?_
  refine al_ld u149 info149 ?_
  refine al_fp u37 info9 ?_
  refine al_ld u9 info9 ?_
  refine al_o (op_bs u65 info65 place65) ?_
  (refine al_call into145 rfl rfl rfl (wr_lift rfl (e_put v0 v1 (out) d (m) (tkN e.name) (by first | omega | (simp only [List.length_append, List.length_cons, List.length_nil]; omega))) _ (wr_below (by rfl))) (by simp) ?_; rintro _ _ ⟨v109, rfl, rfl⟩)
  refine al_nil ?_
  refine aw_region ?_
  refine al_ld u149 info149 ?_
  refine al_fp u37 info31 ?_
  refine al_ld u31 info31 ?_
  (refine al_call into147 rfl rfl rfl (wr_lift rfl (e_brackets v0 v109 (out ++ [tkN e.name]) d m hd0 hdm hm sComma (by decide) e.kids z3 ih (by first | omega | (simp only [List.length_append, List.length_cons, List.length_nil]; omega)) (by omega)) _ (wr_below (by rfl))) (by simp) ?_; rintro _ _ ⟨v113, rfl, rfl⟩)
  refine al_nil ?_
  refine ⟨_, res_0 rfl, ?_⟩
  rw [ht, hdp]; exact ⟨v113, rfl, wr_eq (by simp) rfl⟩
 have gh7 := h7
 simp only [nrm] at h7
 refine aw_sr ?_
 refine al_mv ?_
 refine al_eq ?_
 refine al_gs ?_
 refine al_nil ?_
 refine aw_cond rfl (fun h8 => ?_) (fun h8 => ?_)
 ·have gh8 := h8
  simp only [nrm] at h8
  have hk := shape_one hsh gh1 gh2 gh3 gh4 gh5 gh6 gh7 gh8
  obtain ⟨ht, hdp⟩ := toks_one gh1 gh2 gh3 gh4 gh5 gh6 gh7 gh8 hk
  have hno2 := hno
  rw [ht] at hno2
  simp only [List.length_append, List.length_cons, List.length_nil] at hno2
  have hdd2 := hdd
  rw [hdp] at hdd2
  have hm0 : e.kids.getD 0 default ∈ e.kids := getD_mem (by omega)
  refine aw_region ?_
  refine al_ld u149 info149 ?_
  refine al_fp u37 info9 ?_
  refine al_ld u9 info9 ?_
  refine al_o (op_closure rfl rfl) ?_
  (refine al_call into148 rfl rfl rfl (e_within v0 v1 out d m hd0 hdm hm (by omega) e.name z1 _ (by rfl) 149 into149 _ (kidTk (e.kids.getD 0 default) 4) (kidDp (e.kids.getD 0 default) 4) (fun w => e_unary v0 w (out ++ [tkS e.name]) (d + 1) (max m (d + 1)) (by omega) (by omega) (by omega) e hk (z5 _ hm0) (ih _ hm0) (by first | omega | (simp only [List.length_append, List.length_cons, List.length_nil]; omega)) (by omega) ver2 ver3)) (by simp) ?_; rintro _ _ ⟨v121, rfl, rfl⟩)
  refine al_nil ?_
  refine ⟨_, res_0 rfl, ?_⟩
  rw [ht, hdp]; exact ⟨v121, rfl, rfl⟩
 have gh8 := h8
 simp only [nrm] at h8
 refine aw_sr ?_
 refine al_mv ?_
 refine al_gs ?_
 refine al_nil ?_
 refine aw_seq ?_
 refine aw_sr ?_
 refine al_mv ?_
 refine al_eq ?_
 refine al_nil ?_
 refine aw_cond rfl (fun h9 => ?_) (fun h9 => ?_)
 ·have gh9 := h9
  simp only [nrm] at h9
  have hk := shape_two hsh gh1 gh2 gh3 gh4 gh5 gh6 gh7 gh8
  have hl : leftP (bindsP e) = bindsP e + 1 := by rw [leftP, gh9]; rfl
  have hbr := binds_range e
  obtain ⟨ht, hdp⟩ := (show _ from hl ▸ toks_two gh1 gh2 gh3 gh4 gh5 gh6 gh7 gh8 hk)
  have hno2 := hno
  rw [ht] at hno2
  simp only [List.length_append, List.length_cons, List.length_nil] at hno2
  have hdd2 := hdd
  rw [hdp] at hdd2
  have hm0 : e.kids.getD 0 default ∈ e.kids := getD_mem (by omega)
  have hm1 : e.kids.getD 1 default ∈ e.kids := getD_mem (by omega)
  refine aw_region ?_
  refine al_mv ?_
  refine al_ad ?_
  refine al_gs ?_
  refine al_nil ?_
  refine aw_seq ?_
  refine aw_any (Checked.mixed Tryz.checked) ?_
  apply aany_seg (p := 0) (q := 6) (by kernel_rfl) rfl (by decide)
  ·
   apply ql_plain rfl (op_load_ptr u149 info149 rfl rfl rfl rfl)
   apply ql_plain rfl (op_field_ptr u37 rfl info31 (by decide) rfl rfl rfl)
   apply ql_plain rfl (op_load_ptr u31 info31 rfl rfl rfl rfl)
   apply ql_plain rfl (val_as (.rptr (cellsE (e.kids.getD 0 default))) (op_im u31 info37) (by exact congrArg AVal.rptr (encE_cells _)))
   apply ql_plain rfl (op_load_rptr u37 info37 rfl rfl)
   apply ql_plain rfl (op_move rfl)
   exact ql_nil
  ·simp
  (refine aany_call (by kernel_rfl) rfl into146 rfl rfl rfl (wr_lift rfl (e_kid v0 v1 (out) d (m) hd0 (by omega) (by omega) (e.kids.getD 0 default) (z5 _ hm0) (bindsP e + 1) (ih _ hm0) (by first | omega | (simp only [List.length_append, List.length_cons, List.length_nil]; omega)) (by omega)) _ (wr_below (by rfl))) (by simp) ?_; rintro _ _ ⟨v21, rfl, rfl⟩)
  refine aany_end rfl (by kernel_rfl) ?_
  refine aw_sr ?_
  refine al_ld u149 info149 ?_
  refine al_fp u37 info9 ?_
  refine al_ld u9 info9 ?_
  (refine al_call into150 rfl rfl rfl (wr_lift rfl (e_symbol v0 v21 (out ++ kidTk (e.kids.getD 0 default) (bindsP e + 1)) d (max m (d + (kidDp (e.kids.getD 0 default) (bindsP e + 1) : Nat))) e.name z1 (by first | omega | (simp only [List.length_append, List.length_cons, List.length_nil]; omega))) _ (wr_below (by rfl))) (by simp) ?_; rintro _ _ ⟨v25, rfl, rfl⟩)
  refine al_nil ?_
  refine aw_any (Checked.mixed Tryz.checked) ?_
  apply aany_seg (p := 0) (q := 7) (by kernel_rfl) rfl (by decide)
  ·
   apply ql_plain rfl (op_load_ptr u149 info149 rfl rfl rfl rfl)
   apply ql_plain rfl (op_field_ptr u37 rfl info31 (by decide) rfl rfl rfl)
   apply ql_plain rfl (op_load_ptr u31 info31 rfl rfl rfl rfl)
   apply ql_plain rfl (val_as (.rptr (cellsE (e.kids.getD 1 default))) (op_im u31 info37) (by exact congrArg AVal.rptr (encE_cells _)))
   apply ql_plain rfl (op_load_rptr u37 info37 rfl rfl)
   apply ql_plain rfl (op_move rfl)
   apply ql_plain rfl (op_add rfl rfl (by first | exact wrap_i64 (by omega) (by omega)))
   exact ql_nil
  ·simp
  (refine aany_call (by kernel_rfl) rfl into146 rfl rfl rfl (wr_lift rfl (e_kid v0 v25 ((out ++ kidTk (e.kids.getD 0 default) (bindsP e + 1)) ++ [tkS e.name]) d (max m (d + (kidDp (e.kids.getD 0 default) (bindsP e + 1) : Nat))) hd0 (by omega) (by omega) (e.kids.getD 1 default) (z5 _ hm1) (bindsP e + 1) (ih _ hm1) (by first | omega | (simp only [List.length_append, List.length_cons, List.length_nil]; omega)) (by omega)) _ (wr_below (by rfl))) (by simp) ?_; rintro _ _ ⟨v33, rfl, rfl⟩)
  refine aany_end rfl (by kernel_rfl) ?_
  refine ⟨_, res_0 rfl, ?_⟩
  rw [ht, hdp]; exact ⟨v33, rfl, wr_eq (by simp) (by omega)⟩
 have gh9 := h9
 simp only [nrm] at h9
 have hk := shape_two hsh gh1 gh2 gh3 gh4 gh5 gh6 gh7 gh8
 have hl : leftP (bindsP e) = bindsP e := by rw [leftP, gh9]; rfl
 have hbr := binds_range e
 obtain ⟨ht, hdp⟩ := (show _ from hl ▸ toks_two gh1 gh2 gh3 gh4 gh5 gh6 gh7 gh8 hk)
 have hno2 := hno
 rw [ht] at hno2
 simp only [List.length_append, List.length_cons, List.length_nil] at hno2
 have hdd2 := hdd
 rw [hdp] at hdd2
 have hm0 : e.kids.getD 0 default ∈ e.kids := getD_mem (by omega)
 have hm1 : e.kids.getD 1 default ∈ e.kids := getD_mem (by omega)
 refine aw_skip ?_
 refine aw_seq ?_
 refine aw_any (Checked.mixed Tryz.checked) ?_
 apply aany_seg (p := 0) (q := 6) (by kernel_rfl) rfl (by decide)
 ·
  apply ql_plain rfl (op_load_ptr u149 info149 rfl rfl rfl rfl)
  apply ql_plain rfl (op_field_ptr u37 rfl info31 (by decide) rfl rfl rfl)
  apply ql_plain rfl (op_load_ptr u31 info31 rfl rfl rfl rfl)
  apply ql_plain rfl (val_as (.rptr (cellsE (e.kids.getD 0 default))) (op_im u31 info37) (by exact congrArg AVal.rptr (encE_cells _)))
  apply ql_plain rfl (op_load_rptr u37 info37 rfl rfl)
  apply ql_plain rfl (op_move rfl)
  exact ql_nil
 ·simp
 (refine aany_call (by kernel_rfl) rfl into146 rfl rfl rfl (wr_lift rfl (e_kid v0 v1 (out) d (m) hd0 (by omega) (by omega) (e.kids.getD 0 default) (z5 _ hm0) (bindsP e) (ih _ hm0) (by first | omega | (simp only [List.length_append, List.length_cons, List.length_nil]; omega)) (by omega)) _ (wr_below (by rfl))) (by simp) ?_; rintro _ _ ⟨v21, rfl, rfl⟩)
 refine aany_end rfl (by kernel_rfl) ?_
 refine aw_sr ?_
 refine al_ld u149 info149 ?_
 refine al_fp u37 info9 ?_
 refine al_ld u9 info9 ?_
 (refine al_call into150 rfl rfl rfl (wr_lift rfl (e_symbol v0 v21 (out ++ kidTk (e.kids.getD 0 default) (bindsP e)) d (max m (d + (kidDp (e.kids.getD 0 default) (bindsP e) : Nat))) e.name z1 (by first | omega | (simp only [List.length_append, List.length_cons, List.length_nil]; omega))) _ (wr_below (by rfl))) (by simp) ?_; rintro _ _ ⟨v25, rfl, rfl⟩)
 refine al_nil ?_
 refine aw_any (Checked.mixed Tryz.checked) ?_
 apply aany_seg (p := 0) (q := 7) (by kernel_rfl) rfl (by decide)
 ·
  apply ql_plain rfl (op_load_ptr u149 info149 rfl rfl rfl rfl)
  apply ql_plain rfl (op_field_ptr u37 rfl info31 (by decide) rfl rfl rfl)
  apply ql_plain rfl (op_load_ptr u31 info31 rfl rfl rfl rfl)
  apply ql_plain rfl (val_as (.rptr (cellsE (e.kids.getD 1 default))) (op_im u31 info37) (by exact congrArg AVal.rptr (encE_cells _)))
  apply ql_plain rfl (op_load_rptr u37 info37 rfl rfl)
  apply ql_plain rfl (op_move rfl)
  apply ql_plain rfl (op_add rfl rfl (by first | exact wrap_i64 (by omega) (by omega)))
  exact ql_nil
 ·simp
 (refine aany_call (by kernel_rfl) rfl into146 rfl rfl rfl (wr_lift rfl (e_kid v0 v25 ((out ++ kidTk (e.kids.getD 0 default) (bindsP e)) ++ [tkS e.name]) d (max m (d + (kidDp (e.kids.getD 0 default) (bindsP e) : Nat))) hd0 (by omega) (by omega) (e.kids.getD 1 default) (z5 _ hm1) (bindsP e + 1) (ih _ hm1) (by first | omega | (simp only [List.length_append, List.length_cons, List.length_nil]; omega)) (by omega)) _ (wr_below (by rfl))) (by simp) ?_; rintro _ _ ⟨v33, rfl, rfl⟩)
 refine aany_end rfl (by kernel_rfl) ?_
 refine ⟨_, res_0 rfl, ?_⟩
 rw [ht, hdp]; exact ⟨v33, rfl, wr_eq (by simp) (by omega)⟩
theorem e_wexpr (e : Ex) : szE e = true → BTok Tryz.prog e → (∃ n, shapesP e n = true) → WX Tryz.prog e := by
  induction e using Ex.ind with
  | h e ih =>
    rintro hz hBT ⟨n, hs⟩
    obtain ⟨z1, z2, z3, z4, z5⟩ := szE_facts hz
    rw [shapesP_eq] at hs
    simp only [Bool.and_eq_true, Bool.not_eq_true'] at hs
    intro v0 v1 out d m τ hb hd0 hdm hm hno hdd
    refine wr_lift rfl (e_wexprS v0 v1 out d m hd0 hdm hm e hz hs.1.2 hBT (fun k hk => ih k hk (z5 k hk) (hBT.kid hk) ⟨n + 1, ?_⟩) hno hdd) τ hb
    have := List.any_eq_false.1 hs.2 k hk
    simpa using this
end Go.Proofs.YtcgdlhkiecommaaGreatDoor
/- Printed walks (gen.py, lexer_ann.py): part 419. -/




namespace Go.Proofs.YtcgdlhkiecommaaGreatDoor
open Go
theorem e_refS (v0 v1 : Nat) (out : List Tk) (d m : Int) (hd0 : 0 ≤ d) (hdm : d ≤ m) (hm : m ≤ 1000000000) (t : Tr) (hs : t.name.length ≤ 1000000000) (hl : t.len.length ≤ 1000000000) (he : t.elem.length ≤ 1000000000) (hW : ∀ e ∈ t.len, WX Tryz.prog e) (ih : ∀ u ∈ t.elem, WRX Tryz.prog u) (hno : out.length + (toksR t).length ≤ 1000000000) (hdd : d + (depR t : Nat) ≤ 1000000000) : AC Tryz.prog 115 [.ptr 0 v0 0 0, .agg (cellsR t)] (wr v0 v1 out d m []) (fun r σ' => WrK v0 (out ++ toksR t) (d) (max m (d + (depR t : Nat))) r σ') := by
 refine ace 36 Tryz.func115 ?_
 refine aw_sr ?_
 refine al_bx 3 fun ver3 => ?_
 refine al_nil ?_
 refine aw_seq ?_
 refine aw_sr ?_
 refine al_fp u46 info31 ?_
 refine al_ld u31 info31 ?_
 refine al_lm u31 ?_
 refine al_eq ?_
 refine al_nil ?_
 refine aw_cond rfl (fun h1 => ?_) (fun h1 => ?_)
 ·have gh1 := h1
  simp only [nrm] at h1
  refine aw_seq ?_
  have hno2 := hno
  rw [toksR_eq, gh1] at hno2
  simp only [cond_true, List.length_cons, List.length_nil] at hno2
  refine aw_region ?_
  refine al_mv ?_
  refine al_fp u46 info9 ?_
  refine al_ld u9 info9 ?_
  refine al_o (op_bs u65 info65 place65) ?_
  (refine al_call into145 rfl rfl rfl (wr_lift rfl (e_put v0 v1 (out) d (m) (tkN t.name) (by first | omega | (simp only [List.length_append, List.length_cons, List.length_nil]; omega))) _ (wr_below (by rfl))) (by simp) ?_; rintro _ _ ⟨v14, rfl, rfl⟩)
  refine al_nil ?_
  refine aw_ret ?_
  refine ⟨_, res_0 rfl, ?_⟩
  rw [toksR_eq, depR_eq, gh1]; exact ⟨v14, rfl, wr_eq rfl (by simp only [cond_true]; omega)⟩
 have gh1 := h1
 simp only [nrm] at h1
 refine aw_skip ?_
 refine aw_seq ?_
 have hno2 := hno
 rw [toksR_eq, gh1] at hno2
 simp only [cond_false, List.length_cons, List.length_append] at hno2
 have hdd2 := hdd
 rw [depR_eq, gh1] at hdd2
 simp only [cond_false] at hdd2
 refine aw_region ?_
 refine al_mv ?_
 refine al_fp u46 info9 ?_
 refine al_ld u9 info9 ?_
 (refine al_call into150 rfl rfl rfl (wr_lift rfl (e_symbol v0 v1 out d m t.name hs (by omega)) _ (wr_below (by rfl))) (by simp) ?_; rintro _ _ ⟨v18, rfl, rfl⟩)
 refine al_sr ?_
 refine al_mv ?_
 refine al_fp u46 info31 ?_
 refine al_ld u31 info31 ?_
 (refine al_call into147 rfl rfl rfl (wr_lift rfl (e_brackets v0 v18 (out ++ [tkS t.name]) d m hd0 hdm hm [] (by decide) t.len hl hW (by first | omega | (simp only [List.length_append, List.length_cons, List.length_nil]; omega)) (by omega)) _ (wr_below (by rfl))) (by simp) ?_; rintro _ _ ⟨v22, rfl, rfl⟩)
 refine al_sr ?_
 refine al_fp u46 info44 ?_
 refine al_ld u44 info44 ?_
 refine al_lm u44 ?_
 refine al_mv ?_
 refine al_nil ?_
 refine aw_block ?_
 refine aw_for2T (α := Nat) (β := Nat) [26] [5] (fun i w => t.elem.length - i) (fun i w => i ≤ t.elem.length) (fun i w => ([(26, .v (.int .i64 ((i : Nat) : Int)))] : Env)) (fun i w st => wr v0 w ((out ++ tkS t.name :: inBr (sepT [] (t.len.map toks))) ++ toksRs (t.elem.take i)) d (max (max m (d + (maxL (t.len.map dep) + 1 : Nat))) (d + (depRs (t.elem.take i) : Nat))) [(3, ver3, .row 5 [cellsR t])]) (0) (v22) ?_ ?_ ?_ (fun i w hinv => ?_)
 ·exact Nat.zero_le _
 ·refine sub_1 ?_
  all_goals (first | rfl | simp)
 ·exact (wr_eq (by simp) rfl).trans (wr_rs0 t.elem (by omega))
 refine aw_sr ?_
 refine al_ls ?_
 refine al_nil ?_
 refine aw_seq ?_
 refine aw_cond rfl (fun h2 => ?_) (fun h2 => ?_)
 ·have gh2 := h2
  simp only [nrm] at h2
  refine aw_skip ?_
  refine aw_seq ?_
  refine aw_block ?_
  refine aw_seq ?_
  have hil : i < t.elem.length := by omega
  have hr1 := rs_len t.elem i (by omega)
  have hr2 := rs_len t.elem (i + 1) (by omega)
  have hr3 := rs_dep t.elem i
  have hr4 := rs_dep t.elem (i + 1)
  rw [rs_take hil, List.length_append, List.length_cons] at hr2
  rw [rsd_take hil] at hr4
  refine aw_region ?_
  refine al_o (val_as (.rptr (cellsR (t.elem.getD i default))) (op_im u44 info46) (by exact congrArg AVal.rptr (encR_cells _))) ?_
  refine al_lr u46 info46 ?_
  refine al_al 5 info46 fun ver5 => ?_
  refine al_sp info46 ?_
  refine al_sr ?_
  refine al_mv ?_
  (refine al_call into150 rfl rfl rfl (wr_lift rfl (e_symbol v0 w ((out ++ tkS t.name :: inBr (sepT [] (t.len.map toks))) ++ toksRs (t.elem.take i)) d (max (max m (d + (maxL (t.len.map dep) + 1 : Nat))) (d + (depRs (t.elem.take i) : Nat))) sOf (by decide) (by first | omega | (simp only [List.length_append, List.length_cons, List.length_nil]; omega))) _ (wr_below (by rfl))) (by simp) ?_; rintro _ _ ⟨v31, rfl, rfl⟩)
  refine al_nil ?_
  refine aw_region ?_
  refine al_mv ?_
  refine al_ld u46 info46 ?_
  (refine al_call into115 rfl rfl rfl (ih (t.elem.getD i default) (getD_mem hil) v0 v31 (((out ++ tkS t.name :: inBr (sepT [] (t.len.map toks))) ++ toksRs (t.elem.take i)) ++ [tkS sOf]) d (max (max m (d + (maxL (t.len.map dep) + 1 : Nat))) (d + (depRs (t.elem.take i) : Nat))) _ (wr_below (by rfl)) hd0 (by omega) (by omega) (by first | omega | (simp only [List.length_append, List.length_cons, List.length_nil]; omega)) (by omega)) (by simp) ?_; rintro _ _ ⟨v34, rfl, rfl⟩)
  refine al_nil ?_
  refine aw_region ?_
  refine al_ad ?_
  refine al_mv ?_
  refine al_nil ?_
  refine ⟨i + 1, v34, ?_, ?_, ?_, ?_, ?_⟩
  ·omega
  ·omega
  ·refine sub_1 ?_
   all_goals (first | rfl | simp)
  ·exact sbl
  ·exact wr_rs t.elem i hil
 have gh2 := h2
 simp only [nrm] at h2
 refine aw_exit ?_
 refine ⟨_, res_0 rfl, ?_⟩
 obtain rfl : i = t.elem.length := by omega
 rw [toksR_eq, depR_eq, gh1]
 exact ⟨w, rfl, wr_eq (by rw [List.take_length]; simp) (by rw [List.take_length]; simp only [cond_false]; omega)⟩
end Go.Proofs.YtcgdlhkiecommaaGreatDoor
/- Printed walks (gen.py, lexer_ann.py): part 420. -/




namespace Go.Proofs.YtcgdlhkiecommaaGreatDoor
open Go
theorem e_write (e : Ex) (hw : OKW Tryz.prog e) (hs : ∃ n, shapesP e n = true) : ACp Tryz.prog 52 [.agg (cellsE (e))] (.tuple [.list 5 ((toks e).map encK), .v (.int .i64 ((dep e : Nat) : Int))]) := by
 refine acp_of rfl ?_
 have hl := hw.l
 have hd := hw.d
 refine ace 11 Tryz.func52 ?_
 refine aw_sr ?_
 refine al_bx 1 fun ver1 => ?_
 refine al_gs ?_
 refine al_gs ?_
 refine al_sr ?_
 refine al_al 4 info123 fun ver4 => ?_
 refine al_nil ?_
 refine aw_seq ?_
 refine aw_own_in encK 4 5 5 0 (by decide) rfl rfl rfl (fun vo => ?_)
 refine aw_region ?_
 refine al_ld u37 info37 ?_
 (refine al_call into101 rfl rfl rfl (wr_call 4 5 rfl rfl (e_wexpr e hw.z hw.b hs ver4 vo [] 0 0 [] rfl (by omega) (by omega) (by omega) (by simpa using hw.l) (by omega)) rfl rfl (by rfl)) (by simp) ?_; rintro _ _ ⟨v6, rfl, rfl⟩)
 refine al_nil ?_
 refine aw_seq ?_
 refine aw_plan [0, 1, 2, 3, 4, 5] (Checked.mixed Tryz.checked) (by kernel_rfl) ?_
 refine afl_float rfl rfl (opk_of (op_field_ptr u123 rfl info22 (by decide) rfl rfl rfl)) (by simp) ?_
 refine afl_float rfl rfl (opk_of (op_load_ptr u22 info22 rfl rfl rfl rfl)) (by simp) ?_
 refine afl_float rfl rfl (opk_of (op_field_ptr u123 rfl info3 (by decide) rfl rfl rfl)) (by simp) ?_
 refine afl_float rfl rfl (opk_of (op_load_ptr u3 info3 rfl rfl rfl rfl)) (by simp) ?_
 refine afl_float rfl rfl (opk_of (op_assign rfl)) (by simp) ?_
 refine afl_float rfl rfl (opk_of (op_assign rfl)) (by simp) ?_
 refine afl_end ?_
 refine aw_freeze (fun _ => false) (fsub_cons (t := 2) rfl (by first | exact .leaf _ _ (frz_whole rfl rfl (by first | rfl | (simp; done) | (simp; omega)) (clo_map (fun _ => rfl))) | exact .leaf _ _ (.vnil 5) | exact .leaf _ _ (.nil 5) | exact .leaf _ _ (.same _)) (fsub_cons (t := 3) rfl (.leaf _ _ (.same _)) fsub_nil)) ?_
 refine aw_ret ?_
 refine ⟨_, res_2 rfl rfl rfl rfl rfl, ?_, rfl⟩
 rw [show max (0 : Int) (0 + (dep e : Nat)) = (dep e : Nat) by omega]; rfl
theorem e_writeT (t : Tr) (hw : WRX Tryz.prog t) (hl : (toksR t).length ≤ 1000000000) (hd : depR t ≤ 1000000000) : ACp Tryz.prog 63 [.agg (cellsR t)] (.tuple [.list 5 ((toksR t).map encK), .v (.int .i64 ((depR t : Nat) : Int))]) := by
 refine acp_of rfl ?_
 refine ace 11 Tryz.func63 ?_
 refine aw_sr ?_
 refine al_bx 1 fun ver1 => ?_
 refine al_gs ?_
 refine al_gs ?_
 refine al_sr ?_
 refine al_al 4 info123 fun ver4 => ?_
 refine al_nil ?_
 refine aw_seq ?_
 refine aw_own_in encK 4 5 5 0 (by decide) rfl rfl rfl (fun vo => ?_)
 refine aw_region ?_
 refine al_ld u46 info46 ?_
 (refine al_call into115 rfl rfl rfl (wr_call 4 5 rfl rfl (hw ver4 vo [] 0 0 [] rfl (by omega) (by omega) (by omega) (by simpa using hl) (by omega)) rfl rfl (by rfl)) (by simp) ?_; rintro _ _ ⟨v6, rfl, rfl⟩)
 refine al_nil ?_
 refine aw_seq ?_
 refine aw_plan [0, 1, 2, 3, 4, 5] (Checked.mixed Tryz.checked) (by kernel_rfl) ?_
 refine afl_float rfl rfl (opk_of (op_field_ptr u123 rfl info22 (by decide) rfl rfl rfl)) (by simp) ?_
 refine afl_float rfl rfl (opk_of (op_load_ptr u22 info22 rfl rfl rfl rfl)) (by simp) ?_
 refine afl_float rfl rfl (opk_of (op_field_ptr u123 rfl info3 (by decide) rfl rfl rfl)) (by simp) ?_
 refine afl_float rfl rfl (opk_of (op_load_ptr u3 info3 rfl rfl rfl rfl)) (by simp) ?_
 refine afl_float rfl rfl (opk_of (op_assign rfl)) (by simp) ?_
 refine afl_float rfl rfl (opk_of (op_assign rfl)) (by simp) ?_
 refine afl_end ?_
 refine aw_freeze (fun _ => false) (fsub_cons (t := 2) rfl (by first | exact .leaf _ _ (frz_whole rfl rfl (by first | rfl | (simp; done) | (simp; omega)) (clo_map (fun _ => rfl))) | exact .leaf _ _ (.vnil 5) | exact .leaf _ _ (.nil 5) | exact .leaf _ _ (.same _)) (fsub_cons (t := 3) rfl (.leaf _ _ (.same _)) fsub_nil)) ?_
 refine aw_ret ?_
 refine ⟨_, res_2 rfl rfl rfl rfl rfl, ?_, rfl⟩
 rw [show max (0 : Int) (0 + (depR t : Nat)) = (depR t : Nat) by omega]; rfl
theorem e_valid (e : Ex) (hw : OKW Tryz.prog e) : ACp Tryz.prog 25 [.agg (cellsE (e))] (.v (.bool (validP e))) := by
 refine acp_of rfl ?_
 refine ace 15 Tryz.func25 ?_
 refine aw_sr ?_
 refine al_bx 1 fun ver1 => ?_
 refine al_gs ?_
 refine al_nil ?_
 refine aw_seq ?_
 refine aw_sr ?_
 refine al_ld u37 info37 ?_
 refine al_callp into56 rfl rfl rfl (e_shapes e hw.z 0 _) (by simp) ?_
 refine al_o (op_not rfl) ?_
 refine al_nil ?_
 refine aw_cond rfl (fun h1 => ?_) (fun h1 => ?_)
 ·have gh1 := h1
  simp only [nrm] at h1
  refine aw_sr ?_
  refine al_gs ?_
  refine al_nil ?_
  refine fz1 (t := 2) ?_
  refine aw_ret ?_
  refine ⟨_, res_1 rfl rfl, ?_, rfl⟩
  rw [validP, show shapesP e 0 = false by simpa using gh1]; rfl
 have gh1 := h1
 simp only [nrm] at h1
 refine aw_skip ?_
 refine aw_sr ?_
 refine al_ld u37 info37 ?_
 refine al_callp into52 rfl rfl rfl (e_write e hw ⟨0, by simpa using gh1⟩ _) (by simp) ?_
 refine al_mv ?_
 refine al_xt ?_
 refine al_xt ?_
 refine al_gs ?_
 refine al_gs ?_
 refine al_sr ?_
 refine al_mv ?_
 refine al_o (op_leq rfl rfl) ?_
 refine al_gs ?_
 refine al_nil ?_
 refine fz1 (t := 2) ?_
 refine aw_ret ?_
 refine ⟨_, res_1 rfl rfl, ?_, rfl⟩
 rw [validP, show shapesP e 0 = true by simpa using gh1]; rfl
theorem e_textE (e : Ex) (hw : OKW Tryz.prog e) (ht : OKTs (toks e)) : ACp Tryz.prog 23 [.agg (cellsE (e))] (.tuple [.v (.string (str ((textE e).1))), .v (.int .i64 ((textE e).2))]) := by
 refine acp_of rfl ?_
 refine ace 18 Tryz.func23 ?_
 refine aw_sr ?_
 refine al_bx 1 fun ver1 => ?_
 refine al_gs ?_
 refine al_gs ?_
 refine al_nil ?_
 refine aw_seq ?_
 refine aw_sr ?_
 refine al_ld u37 info37 ?_
 refine al_callp into25 rfl rfl rfl (e_valid e hw _) (by simp) ?_
 refine al_o (op_not rfl) ?_
 refine al_nil ?_
 refine aw_cond rfl (fun h1 => ?_) (fun h1 => ?_)
 ·have gh1 := h1
  simp only [nrm] at h1
  refine aw_sr ?_
  refine al_gs ?_
  refine al_gs ?_
  refine al_nil ?_
  refine fz2 (t := 2) (u := 3) ?_
  refine aw_ret ?_
  refine ⟨_, res_2 rfl rfl rfl rfl rfl, ?_, rfl⟩
  rw [textE, show validP e = false by simpa using gh1]; rfl
 have gh1 := h1
 simp only [nrm] at h1
 refine aw_skip ?_
 refine aw_seq ?_
 have hv : validP e = true := by simpa using gh1
 have hv0 : shapesP e 0 = true := by rw [validP, Bool.and_eq_true] at hv; exact hv.1
 refine aw_region ?_
 refine al_ld u37 info37 ?_
 refine al_callp into52 rfl rfl rfl (e_write e hw ⟨0, hv0⟩ _) (by simp) ?_
 refine al_mv ?_
 refine al_xt ?_
 refine al_xt ?_
 refine al_gs ?_
 refine al_gs ?_
 refine al_sr ?_
 refine al_mv ?_
 refine al_callp into53 rfl rfl rfl (c_Text (toks e) ht (by have := hw.l; omega) _) (by simp) ?_
 refine al_xt ?_
 refine al_xt ?_
 refine al_gs ?_
 refine al_gs ?_
 refine al_nil ?_
 refine fz2 (t := 2) (u := 3) ?_
 refine aw_ret ?_
 refine ⟨_, res_2 rfl rfl rfl rfl rfl, ?_, rfl⟩
 rw [textE, hv]; rfl
end Go.Proofs.YtcgdlhkiecommaaGreatDoor
