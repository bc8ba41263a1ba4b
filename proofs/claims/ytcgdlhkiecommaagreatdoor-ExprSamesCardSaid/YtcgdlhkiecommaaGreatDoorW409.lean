import Derived.Test.YtcgdlhkiecommaaGreatDoorW406
import Derived.Test.YtcgdlhkiecommaaGreatDoorFacts
import Derived.Test.YtcgdlhkiecommaaGreatDoorXRead2

/- Printed walks (gen.py, lexer_ann.py): part 407. -/


set_option linter.unusedVariables false
set_option linter.unusedSimpArgs false
set_option maxRecDepth 20000
set_option maxHeartbeats 40000000
namespace Go.Proofs.YtcgdlhkiecommaaGreatDoor
open Go
theorem e_target (v0 : Nat) (l : List Tk) (hl : OKTs l) (hn : l.length ≤ 1000000000) (i : Nat) (hi : i ≤ l.length)  : AC Tryz.prog 44 [.ptr 0 v0 0 0] (rd v0 l i 40 []) (fun r σ' => RdK v0 l (40) encX (targetP l i) r σ') := by
 refine ac_enter 15 Tryz.func44 rfl rfl (by simp) ?_
 refine aw_seq ?_
 refine aw_region ?_
 (refine al_opR (op_alloc 2 info37 rfl rfl) rfl (by simp) ?_; rintro _ _ ⟨ver2, rfl, rfl⟩)
 refine al_nil ?_
 refine aw_seq ?_
 refine aw_region ?_
 refine al_op (op_move rfl) rfl (by simp) ?_
 refine al_call into81 rfl rfl rfl (rd_lift rfl (fun _ => rfl) (e_kind v0 l hl hn i 40 (by decide) hi 1 (by decide)) _ (by rfl)) (by simp) ?_; rintro _ _ (⟨g5, i5, d5, hx5, rfl, rfl⟩ | ⟨a5, j5, hx5, rfl, rfl⟩)
 ·exact rdk_bad (by obtain ⟨g, rfl⟩ := kind_bad hx5; rw [targetP, g]; rfl) rfl
 obtain ⟨rfl, rfl, hop5⟩ := kind_ok hx5
 have hlt5 := op_lt (l := l) (i := i) (k := 1) (by simpa using hop5) (by decide)
 (refine al_opR (op_alloc 3 info65 rfl rfl) rfl (by simp) ?_; rintro _ _ ⟨ver3, rfl, rfl⟩)
 refine al_op (op_store_ptr info65 rfl rfl rfl rfl rfl rfl (by first | rfl | exact live_one rfl | (repeat (first | exact all_live_nil | refine all_live_clo rfl ?_ | refine all_live_slice rfl ?_ | refine all_live_map rfl ?_ | refine all_live_ptr rfl ?_))) (Nat.le_of_ble_eq_true rfl)) rfl (by simp) ?_
 refine al_nil ?_
 refine aw_seq ?_
 refine aw_region ?_
 refine al_op (op_move rfl) rfl (by simp) ?_
 refine al_op (op_field_ptr Tryz.underlying65 rfl info9 (by decide) rfl rfl rfl) rfl (by simp) ?_
 refine al_op (op_load_ptr Tryz.underlying9 info9 rfl rfl rfl rfl) rfl (by simp) ?_
 refine al_op (op_field_ptr Tryz.underlying65 rfl info3 (by decide) rfl rfl rfl) rfl (by simp) ?_
 refine al_op (op_load_ptr Tryz.underlying3 info3 rfl rfl rfl rfl) rfl (by simp) ?_
 refine al_op (op_field_ptr Tryz.underlying65 rfl info3 (by decide) rfl rfl rfl) rfl (by simp) ?_
 refine al_op (op_load_ptr Tryz.underlying3 info3 rfl rfl rfl rfl) rfl (by simp) ?_
 refine al_op (val_re (.agg (cellsE (mkE 4 (tokAt l i).text 0 [] [] (tokAt l i)))) (op_build_struct Tryz.underlying37 info37 rfl place37 rfl (by first | rfl | (repeat (first | exact parts_nil | refine parts_cons rfl (by repeat (first | exact all_live_nil | refine all_live_clo rfl ?_ | refine all_live_slice rfl ?_ | refine all_live_map rfl ?_ | refine all_live_ptr rfl ?_)) ?_))) rfl) (.agg _ _ (by repeat (first | exact reL_nil | refine reL_cons (.same _) ?_ | refine reL_cons (.vnil _) ?_)))) rfl (by simp) ?_
 refine al_call into82 rfl rfl rfl (rd_lift rfl (fun _ => rfl) (e_parts v0 l hl hn (i + 1) 40 (by decide) (by omega) (e_inner l hl hn) (mkE 4 (tokAt l i).text 0 [] [] (tokAt l i))) _ (by rfl)) (by simp) ?_; rintro _ _ (⟨g14, i14, d14, hx14, rfl, rfl⟩ | ⟨a14, j14, hx14, rfl, rfl⟩)
 ·exact rdk_bad (by rw [targetP, if_pos hop5]; exact hx14) rfl
 refine al_op (op_store_ptr info37 rfl rfl rfl rfl rfl rfl (by first | rfl | exact live_one rfl | (repeat (first | exact all_live_nil | refine all_live_clo rfl ?_ | refine all_live_slice rfl ?_ | refine all_live_map rfl ?_ | refine all_live_ptr rfl ?_))) (Nat.le_of_ble_eq_true rfl)) rfl (by simp) ?_
 refine al_nil ?_
 refine aw_ret ?_
 refine ⟨_, res_cell rfl Tryz.underlying37 info37 rfl rfl rfl rfl, ?_⟩
 exact rdk_ok a14 j14 (by rw [targetP, if_pos hop5]; exact hx14) rfl
theorem e_typeF (v0 : Nat) (l : List Tk) (hl : OKTs l) (hn : l.length ≤ 1000000000) (hnm : ∀ i, ((tokAt l i).op == 1) = true → ((tokAt l i).text == sArray) = false) (i : Nat) (hi : i ≤ l.length) (sub : Nat → Rd Tr) (hS : isAt l [sArray] i = true → ∀ v0 j, j ≤ l.length → isAt l [sArray] j = false → AC Tryz.prog 47 [.ptr 0 v0 0 0] (rd v0 l j (40) []) (RdK v0 l (40) encRr (sub j))) : AC Tryz.prog 47 [.ptr 0 v0 0 0] (rd v0 l i 40 []) (fun r σ' => RdK v0 l (40) encRr (typeF l sub i) r σ') := by
 refine ac_enter 55 Tryz.func47 rfl rfl (by simp) ?_
 refine aw_seq ?_
 refine aw_region ?_
 (refine al_opR (op_alloc 2 info46 rfl rfl) rfl (by simp) ?_; rintro _ _ ⟨ver2, rfl, rfl⟩)
 refine al_nil ?_
 refine aw_seq ?_
 refine aw_region ?_
 refine al_op (op_move rfl) rfl (by simp) ?_
 refine al_callp into89 rfl rfl rfl (e_hereA v0 l hl hn i 40 (by omega) (by omega)  rfl rfl) (by simp) ?_
 refine al_op (op_move rfl) rfl (by simp) ?_
 refine al_op (op_extract rfl rfl rfl) rfl (by simp) ?_
 refine al_op (op_extract rfl rfl rfl) rfl (by simp) ?_
 refine al_op (op_assign rfl) rfl (by simp) ?_
 refine al_op (op_assign rfl) rfl (by simp) ?_
 refine al_nil ?_
 refine aw_seq ?_
 refine aw_region ?_
 refine al_op (op_move rfl) rfl (by simp) ?_
 refine al_op (op_move rfl) rfl (by simp) ?_
 refine al_op (val_re (.agg (cellsR (Tr.mk [] [] [] (tokAt l i).line (tokAt l i).col))) (op_build_struct Tryz.underlying46 info46 rfl place46 rfl (by first | rfl | (repeat (first | exact parts_nil | refine parts_cons rfl (by repeat (first | exact all_live_nil | refine all_live_clo rfl ?_ | refine all_live_slice rfl ?_ | refine all_live_map rfl ?_ | refine all_live_ptr rfl ?_)) ?_))) rfl) (.agg _ _ (by repeat (first | exact reL_nil | refine reL_cons (.same _) ?_ | refine reL_cons (.vnil _) ?_)))) rfl (by simp) ?_
 (refine al_opR (op_alloc 5 info46 rfl rfl) rfl (by simp) ?_; rintro _ _ ⟨ver5, rfl, rfl⟩)
 refine al_op (op_store_ptr info46 rfl rfl rfl rfl rfl rfl (by first | rfl | exact live_one rfl | (repeat (first | exact all_live_nil | refine all_live_clo rfl ?_ | refine all_live_slice rfl ?_ | refine all_live_map rfl ?_ | refine all_live_ptr rfl ?_))) (Nat.le_of_ble_eq_true rfl)) rfl (by simp) ?_
 refine al_nil ?_
 refine aw_seq ?_
 refine aw_block ?_
 refine aw_seq ?_
 refine aw_region ?_
 refine al_op (op_move rfl) rfl (by simp) ?_
 refine al_op (op_list encBs [sVec, sArray] Tryz.underlying32 info9 rfl rfl (by decide) rfl (by decide) rfl (by first | rfl | (repeat (first | exact parts_nil | refine parts_cons rfl (by repeat (first | exact all_live_nil | refine all_live_clo rfl ?_ | refine all_live_slice rfl ?_ | refine all_live_map rfl ?_ | refine all_live_ptr rfl ?_)) ?_))) rfl rfl rfl rfl) rfl (by simp) ?_
 refine al_callp into90 rfl rfl rfl (e_isA v0 l hl hn i 40 (by omega) (by omega) [sVec, sArray] (by decide) rfl rfl) (by simp) ?_
 refine al_op (op_assign rfl) rfl (by simp) ?_
 refine al_nil ?_
 refine aw_cond rfl (fun h1 => ?_) (fun h1 => ?_)
 ·have gh1 := h1
  try simp only [nrm] at h1
  have hva := h1
  have hlt := isAt_lt h1
  refine aw_seq ?_
  refine aw_region ?_
  refine al_op (op_move rfl) rfl (by simp) ?_
  refine al_callp into91 rfl rfl rfl (e_tokenA v0 l hl hn i 40 (by omega) (by omega)  rfl rfl) (by simp) ?_
  refine al_op (op_field Tryz.underlying65 rfl Tryz.underlying9 info9 rfl rfl rfl) rfl (by simp) ?_
  refine al_op (op_field_ptr Tryz.underlying46 rfl info9 (by decide) rfl rfl rfl) rfl (by simp) ?_
  refine al_op (op_store_ptr info9 rfl rfl rfl rfl rfl rfl (by first | rfl | exact live_one rfl | (repeat (first | exact all_live_nil | refine all_live_clo rfl ?_ | refine all_live_slice rfl ?_ | refine all_live_map rfl ?_ | refine all_live_ptr rfl ?_))) (Nat.le_of_ble_eq_true rfl)) rfl (by simp) ?_
  refine al_nil ?_
  refine aw_seq ?_
  refine aw_region ?_
  refine al_op (op_move rfl) rfl (by simp) ?_
  refine al_op (op_nilCheck_ptr rfl rfl) rfl (by simp) ?_
  refine al_op (op_field_ptr Tryz.underlying105 rfl info3 (by decide) rfl rfl rfl) rfl (by simp) ?_
  refine al_op (op_load_ptr Tryz.underlying3 info3 rfl rfl rfl rfl) rfl (by simp) ?_
  refine al_op (op_add rfl rfl (by first | exact wrap_i64 (by omega) (by omega))) rfl (by simp) ?_
  refine al_op (op_nilCheck_ptr rfl rfl) rfl (by simp) ?_
  refine al_op (op_field_ptr Tryz.underlying105 rfl info3 (by decide) rfl rfl rfl) rfl (by simp) ?_
  refine al_op (op_store_ptr info3 rfl rfl rfl rfl rfl rfl (by first | rfl | exact live_one rfl | (repeat (first | exact all_live_nil | refine all_live_clo rfl ?_ | refine all_live_slice rfl ?_ | refine all_live_map rfl ?_ | refine all_live_ptr rfl ?_))) (Nat.le_of_ble_eq_true rfl)) rfl (by simp) ?_
  refine al_nil ?_
  refine aw_seq ?_
  refine aw_region ?_
  refine al_op (op_move rfl) rfl (by simp) ?_
  refine al_call into92 rfl rfl rfl (rd_lift rfl (fun _ => rfl) (e_open v0 l hl hn (i + 1) 40 (by decide) (by omega)) _ (by rfl)) (by simp) ?_; rintro _ _ (⟨g33, i33, d33, hx33, rfl, rfl⟩ | ⟨a33, j33, hx33, rfl, rfl⟩)
  ·exact rdk_bad (by rw [typeF, if_pos hva]; rw [hx33]) rfl
  obtain ⟨hd0, rfl, hop33⟩ := open_ok hx33
  have hlt33 := isAt_lt hop33
  refine al_nil ?_
  refine aw_seq ?_
  refine aw_region ?_
  refine al_op (op_move rfl) rfl (by simp) ?_
  refine al_call into40 rfl rfl rfl (rd_lift rfl (fun _ => rfl) (e_inner l hl hn (by decide) v0 (i + 1 + 1) (by omega)) _ (by rfl)) (by simp) ?_; rintro _ _ (⟨g35, i35, d35, hx35, rfl, rfl⟩ | ⟨a35, j35, hx35, rfl, rfl⟩)
  ·exact rdk_bad (by rw [typeF, if_pos hva]; rw [hx33]; simp only; rw [innerD_pos (by decide), hx35]) rfl
  have hi35 : innerD l 40 (i + 1 + 1) = .ok a35 j35 := by rw [innerD_pos (by decide)]; exact hx35
  have hgt35 := innerD_gt (l := l) 40 _ _ _ hi35
  refine al_op (op_list encE [a35] Tryz.underlying31 info37 rfl rfl (by decide) rfl (by decide) rfl (by first | rfl | (repeat (first | exact parts_nil | refine parts_cons rfl (by repeat (first | exact all_live_nil | refine all_live_clo rfl ?_ | refine all_live_slice rfl ?_ | refine all_live_map rfl ?_ | refine all_live_ptr rfl ?_)) ?_))) rfl rfl rfl (kids1 _)) rfl (by simp) ?_
  refine al_op (op_field_ptr Tryz.underlying46 rfl info31 (by decide) rfl rfl rfl) rfl (by simp) ?_
  refine al_op (op_store_ptr info31 rfl rfl rfl rfl rfl rfl (by first | rfl | exact live_one rfl | (repeat (first | exact all_live_nil | refine all_live_clo rfl ?_ | refine all_live_slice rfl ?_ | refine all_live_map rfl ?_ | refine all_live_ptr rfl ?_))) (Nat.le_of_ble_eq_true rfl)) rfl (by simp) ?_
  refine al_nil ?_
  refine aw_region ?_
  refine al_op (op_move rfl) rfl (by simp) ?_
  refine al_call into93 rfl rfl rfl (rd_lift rfl (fun _ => rfl) (e_shut v0 l hl hn j35 39 (by decide) (by omega) 40 rfl) _ (by rfl)) (by simp) ?_; rintro _ _ (⟨g39, i39, d39, hx39, rfl, rfl⟩ | ⟨a39, j39, hx39, rfl, rfl⟩)
  ·exact rdk_bad (by rw [typeF, if_pos hva]; rw [hx33]; simp only; rw [hi35]; simp only; rw [hx39]) rfl
  obtain ⟨rfl, hat39⟩ := want_ok hx39
  have hlt39 := isAt_lt hat39
  refine al_nil ?_
  refine aw_seq ?_
  refine aw_seq ?_
  refine aw_region ?_
  refine al_op (op_field_ptr Tryz.underlying46 rfl info9 (by decide) rfl rfl rfl) rfl (by simp) ?_
  refine al_op (op_load_ptr Tryz.underlying9 info9 rfl rfl rfl rfl) rfl (by simp) ?_
  refine al_op (op_seql_str rfl rfl) rfl (by simp) ?_
  refine al_nil ?_
  refine aw_cond rfl (fun h2 => ?_) (fun h2 => ?_)
  ·have gh2 := h2
   try simp only [nrm] at h2
   have hsa : ((tokAt l i).text == sArray) = true := gh2
   refine aw_seq ?_
   refine aw_region ?_
   refine al_op (op_move rfl) rfl (by simp) ?_
   refine al_call into95 rfl rfl rfl (rd_lift rfl (fun _ => rfl) (e_want v0 l hl hn (j35 + 1) 40 (by decide) (by omega) sOf) _ (by rfl)) (by simp) ?_; rintro _ _ (⟨g44, i44, d44, hx44, rfl, rfl⟩ | ⟨a44, j44, hx44, rfl, rfl⟩)
   ·exact rdk_bad (by rw [typeF, if_pos hva]; rw [hx33]; simp only; rw [hi35]; simp only; rw [hx39]; simp only; rw [if_pos hsa]; rw [hx44]) rfl
   obtain ⟨rfl, hat44⟩ := want_ok hx44
   have hlt44 := isAt_lt hat44
   refine al_nil ?_
   refine aw_seq ?_
   refine aw_seq ?_
   refine aw_region ?_
   refine al_op (op_move rfl) rfl (by simp) ?_
   refine al_op (op_list encBs [sArray] Tryz.underlying32 info9 rfl rfl (by decide) rfl (by decide) rfl (by first | rfl | (repeat (first | exact parts_nil | refine parts_cons rfl (by repeat (first | exact all_live_nil | refine all_live_clo rfl ?_ | refine all_live_slice rfl ?_ | refine all_live_map rfl ?_ | refine all_live_ptr rfl ?_)) ?_))) rfl rfl rfl rfl) rfl (by simp) ?_
   refine al_callp into90 rfl rfl rfl (e_isA v0 l hl hn (j35 + 1 + 1) 40 (by omega) (by omega) [sArray] (by decide) rfl rfl) (by simp) ?_
   refine al_nil ?_
   refine aw_cond rfl (fun h3 => ?_) (fun h3 => ?_)
   ·have gh3 := h3
    try simp only [nrm] at h3
    refine aw_region ?_
    refine al_op (op_move rfl) rfl (by simp) ?_
    refine al_call into96 rfl rfl rfl (rd_lift rfl (fun _ => rfl) (e_fail v0 l hl hn (j35 + 1 + 1) (40) (by omega) (by omega) 11) _ (by rfl)) (by simp) ?_; rintro _ _ (⟨g49, i49, d49, ⟨⟩, rfl, rfl⟩ | ⟨_, _, ⟨⟩, _⟩)
    exact rdk_bad (by rw [typeF, if_pos hva]; rw [hx33]; simp only; rw [hi35]; simp only; rw [hx39]; simp only; rw [if_pos hsa]; rw [hx44]; simp only; rw [if_pos h3]) rfl
   ·have gh3 := h3
    try simp only [nrm] at h3
    refine aw_skip ?_
    refine aw_region ?_
    refine al_op (op_move rfl) rfl (by simp) ?_
    refine al_call into47 rfl rfl rfl (rd_lift rfl (fun _ => rfl) (hS (isAt_array h1 hsa) v0 (j35 + 1 + 1) (by omega) h3) _ (by rfl)) (by simp) ?_; rintro _ _ (⟨g51, i51, d51, hx51, rfl, rfl⟩ | ⟨a51, j51, hx51, rfl, rfl⟩)
    ·exact rdk_bad (by rw [typeF, if_pos hva]; rw [hx33]; simp only; rw [hi35]; simp only; rw [hx39]; simp only; rw [if_pos hsa]; rw [hx44]; simp only; rw [h3, if_neg Bool.false_ne_true, hx51]) rfl
    refine al_op (op_list encR [a51] Tryz.underlying44 info46 rfl rfl (by decide) rfl (by decide) rfl (by first | rfl | (repeat (first | exact parts_nil | refine parts_cons rfl (by repeat (first | exact all_live_nil | refine all_live_clo rfl ?_ | refine all_live_slice rfl ?_ | refine all_live_map rfl ?_ | refine all_live_ptr rfl ?_)) ?_))) rfl rfl rfl (elem1 _)) rfl (by simp) ?_
    refine al_op (op_field_ptr Tryz.underlying46 rfl info44 (by decide) rfl rfl rfl) rfl (by simp) ?_
    refine al_op (op_store_ptr info44 rfl rfl rfl rfl rfl rfl (by first | rfl | exact live_one rfl | (repeat (first | exact all_live_nil | refine all_live_clo rfl ?_ | refine all_live_slice rfl ?_ | refine all_live_map rfl ?_ | refine all_live_ptr rfl ?_))) (Nat.le_of_ble_eq_true rfl)) rfl (by simp) ?_
    refine al_nil ?_
    refine aw_seq ?_
    refine aw_region ?_
    refine al_op (op_load_ptr Tryz.underlying46 info46 rfl rfl rfl rfl) rfl (by simp) ?_
    refine al_op (op_store_ptr info46 rfl rfl rfl rfl rfl rfl (by first | rfl | exact live_one rfl | (repeat (first | exact all_live_nil | refine all_live_clo rfl ?_ | refine all_live_slice rfl ?_ | refine all_live_map rfl ?_ | refine all_live_ptr rfl ?_))) (Nat.le_of_ble_eq_true rfl)) rfl (by simp) ?_
    refine al_nil ?_
    refine aw_ret ?_
    refine ⟨_, res_cell rfl Tryz.underlying46 info46 rfl rfl rfl rfl, ?_⟩
    exact rdk_ok (Tr.mk (tokAt l i).text [a35] [a51] (tokAt l i).line (tokAt l i).col) j51 (by rw [typeF, if_pos hva]; rw [hx33]; simp only; rw [hi35]; simp only; rw [hx39]; simp only; rw [if_pos hsa]; rw [hx44]; simp only; rw [h3, if_neg Bool.false_ne_true, hx51]) rfl
  ·have gh2 := h2
   try simp only [nrm] at h2
   have hsa : ((tokAt l i).text == sArray) = false := gh2
   refine aw_skip ?_
   refine aw_seq ?_
   refine aw_region ?_
   refine al_op (op_load_ptr Tryz.underlying46 info46 rfl rfl rfl rfl) rfl (by simp) ?_
   refine al_op (op_store_ptr info46 rfl rfl rfl rfl rfl rfl (by first | rfl | exact live_one rfl | (repeat (first | exact all_live_nil | refine all_live_clo rfl ?_ | refine all_live_slice rfl ?_ | refine all_live_map rfl ?_ | refine all_live_ptr rfl ?_))) (Nat.le_of_ble_eq_true rfl)) rfl (by simp) ?_
   refine al_nil ?_
   refine aw_ret ?_
   refine ⟨_, res_cell rfl Tryz.underlying46 info46 rfl rfl rfl rfl, ?_⟩
   exact rdk_ok (Tr.mk (tokAt l i).text [a35] [] (tokAt l i).line (tokAt l i).col) (j35 + 1) (by rw [typeF, if_pos hva]; rw [hx33]; simp only; rw [hi35]; simp only; rw [hx39]; simp only; rw [hsa, if_neg Bool.false_ne_true]) rfl
 ·have gh1 := h1
  try simp only [nrm] at h1
  refine aw_region ?_
  refine al_op (op_move rfl) rfl (by simp) ?_
  refine al_call into94 rfl rfl rfl (rd_lift rfl (fun _ => rfl) (e_name v0 l hl hn i 40 (by decide) hi) _ (by rfl)) (by simp) ?_; rintro _ _ (⟨g15, i15, d15, hx15, rfl, rfl⟩ | ⟨a15, j15, hx15, rfl, rfl⟩)
  ·exact rdk_bad (by obtain ⟨g, rfl⟩ := kind_bad hx15; rw [typeF, h1, if_neg Bool.false_ne_true, g]; rfl) rfl
  obtain ⟨rfl, rfl, hop15⟩ := kind_ok hx15
  refine al_op (op_field_ptr Tryz.underlying46 rfl info9 (by decide) rfl rfl rfl) rfl (by simp) ?_
  refine al_op (op_store_ptr info9 rfl rfl rfl rfl rfl rfl (by first | rfl | exact live_one rfl | (repeat (first | exact all_live_nil | refine all_live_clo rfl ?_ | refine all_live_slice rfl ?_ | refine all_live_map rfl ?_ | refine all_live_ptr rfl ?_))) (Nat.le_of_ble_eq_true rfl)) rfl (by simp) ?_
  refine al_nil ?_
  refine aw_seq ?_
  refine aw_seq ?_
  refine aw_region ?_
  refine al_op (op_field_ptr Tryz.underlying46 rfl info9 (by decide) rfl rfl rfl) rfl (by simp) ?_
  refine al_op (op_load_ptr Tryz.underlying9 info9 rfl rfl rfl rfl) rfl (by simp) ?_
  refine al_op (op_seql_str rfl rfl) rfl (by simp) ?_
  refine al_nil ?_
  refine aw_cond rfl (fun h4 => ?_) (fun h4 => ?_)
  ·have gh4 := h4
   try simp only [nrm] at h4
   rw [show ((tokAt l i).text == [97, 114, 114, 97, 121]) = false from hnm i hop15] at gh4; cases gh4
  ·have gh4 := h4
   try simp only [nrm] at h4
   refine aw_skip ?_
   refine aw_seq ?_
   refine aw_region ?_
   refine al_op (op_load_ptr Tryz.underlying46 info46 rfl rfl rfl rfl) rfl (by simp) ?_
   refine al_op (op_store_ptr info46 rfl rfl rfl rfl rfl rfl (by first | rfl | exact live_one rfl | (repeat (first | exact all_live_nil | refine all_live_clo rfl ?_ | refine all_live_slice rfl ?_ | refine all_live_map rfl ?_ | refine all_live_ptr rfl ?_))) (Nat.le_of_ble_eq_true rfl)) rfl (by simp) ?_
   refine al_nil ?_
   refine aw_ret ?_
   refine ⟨_, res_cell rfl Tryz.underlying46 info46 rfl rfl rfl rfl, ?_⟩
   exact rdk_ok (Tr.mk (tokAt l i).text [] [] (tokAt l i).line (tokAt l i).col) (i + 1) (by rw [typeF, h1, if_neg Bool.false_ne_true, if_pos hop15]) rfl
theorem e_type (v0 : Nat) (l : List Tk) (hl : OKTs l) (hn : l.length ≤ 1000000000) (hnm : ∀ i, ((tokAt l i).op == 1) = true → ((tokAt l i).text == sArray) = false) (i : Nat) (hi : i ≤ l.length) : AC Tryz.prog 47 [.ptr 0 v0 0 0] (rd v0 l i (40) []) (RdK v0 l (40) encRr (typeP l i)) :=
  e_typeF v0 l hl hn hnm i hi (type0 l) (fun _ v0 j hj hja => e_typeF v0 l hl hn hnm j hj (fun _ => .bad eofF) (fun h => by rw [hja] at h; cases h))
end Go.Proofs.YtcgdlhkiecommaaGreatDoor

/- Printed walks (gen.py, lexer_ann.py): part 408. -/


set_option linter.unusedVariables false
set_option linter.unusedSimpArgs false
set_option maxRecDepth 20000
set_option maxHeartbeats 40000000
namespace Go.Proofs.YtcgdlhkiecommaaGreatDoor
open Go
theorem callk_pan {P : Program} {n : Nat} {ops : Array Oper} {rest : List Oper} {Q : APost} {env : Env} {d : Option Tmp} {a : AVal} {σ' : Store} (h : Q (.panic a) env σ') : CallK P n ops rest Q env d (.pan a) σ' := h
theorem thenD_pan {next : Env → Store → ADefs → Prop} {Q : DPost} {a : AVal} {env : Env} {σ : Store} {D : ADefs} (h : Q (.panic a) env σ D) : AExit.thenD next Q (.panic a) env σ D := h
theorem e_catch_p (g : Flt) (v6 v8 v36 : Nat) (o6 o36 : AObj) : ACDp Tryz.prog 77 [.ptr 8 v8 0 0] (faultI g) [(6, v6, o6), (8, v8, .row 4 [encF okF]), (36, v36, o36)] (fun σ' => ∃ v, σ' = [(6, v6, o6), (8, v8, .row 4 [encF g]), (36, v36, o36), (103, v, .row 4 [encF g])]) := by
 refine acdp_of (nt := 14) (t := 5) Tryz.func77 rfl rfl (by simp) (by decide) rfl ?_
 refine aw_block ?_
 refine aw_seq ?_
 refine aw_region ?_
 refine al_op (op_ifn_eql (by kernel_rfl) rfl rfl (.inr ⟨⟨_, _, rfl⟩, rfl⟩)) rfl (by simp) ?_
 refine al_nil ?_
 refine aw_cond rfl (fun h1 => ?_) (fun h1 => ?_)
 ·have gh1 := h1
  try simp only [nrm] at h1
  cases gh1
 ·have gh1 := h1
  try simp only [nrm] at h1
  refine aw_seq ?_
  refine aw_region ?_
  refine al_op (op_assert_agg (vals := [.int .i64 g.code, .string (str g.name), .int .i64 g.line, .int .i64 g.col]) Tryz.underlying40 rfl rfl) rfl (by simp) ?_
  refine al_op (op_extract rfl rfl rfl) rfl (by simp) ?_
  refine al_op (op_extract rfl rfl rfl) rfl (by simp) ?_
  refine al_nil ?_
  refine aw_cond rfl (fun h2 => ?_) (fun h2 => ?_)
  ·have gh2 := h2
   try simp only [nrm] at h2
   refine aw_seq ?_
   refine aw_region ?_
   (refine al_opR (op_alloc 103 info40 rfl rfl) rfl (by simp) ?_; rintro _ _ ⟨ver3, rfl, rfl⟩)
   refine al_op (op_store_ptr info40 rfl rfl rfl rfl rfl rfl (by first | rfl | exact live_one rfl | (repeat (first | exact all_live_nil | refine all_live_clo rfl ?_ | refine all_live_slice rfl ?_ | refine all_live_map rfl ?_ | refine all_live_ptr rfl ?_))) (Nat.le_of_ble_eq_true rfl)) rfl (by simp) ?_
   refine al_nil ?_
   refine aw_region ?_
   refine al_op (op_move rfl) rfl (by simp) ?_
   refine al_op (op_load_ptr Tryz.underlying40 info40 rfl rfl rfl rfl) rfl (by simp) ?_
   refine al_op (op_nilCheck_ptr rfl rfl) rfl (by simp) ?_
   refine al_op (op_store_ptr info40 rfl rfl rfl rfl rfl rfl (by first | rfl | exact live_one rfl | (repeat (first | exact all_live_nil | refine all_live_clo rfl ?_ | refine all_live_slice rfl ?_ | refine all_live_map rfl ?_ | refine all_live_ptr rfl ?_))) (Nat.le_of_ble_eq_true rfl)) rfl (by simp) ?_
   refine al_nil ?_
   exact ⟨.inl rfl, _, rfl⟩
  ·have gh2 := h2
   try simp only [nrm] at h2
   cases gh2
theorem e_catch_r (σ : Store) (v8 : Nat) : ACDr Tryz.prog 77 [.ptr 8 v8 0 0] σ (fun σ' => σ' = σ) := by
 refine acdr_of (nt := 14) (t := 5) Tryz.func77 rfl rfl (by simp) (by decide) rfl ?_
 refine aw_block ?_
 refine aw_seq ?_
 refine aw_region ?_
 refine al_op (op_ifn_eql (by kernel_rfl) rfl rfl (.inl ⟨rfl, rfl⟩)) rfl (by simp) ?_
 refine al_nil ?_
 refine aw_cond rfl (fun h1 => ?_) (fun h1 => ?_)
 ·have gh1 := h1
  try simp only [nrm] at h1
  refine aw_region ?_
  refine al_op (op_assign rfl) rfl (by simp) ?_
  refine al_nil ?_
  exact ⟨.inl rfl, rfl⟩
 ·have gh1 := h1
  try simp only [nrm] at h1
  cases gh1
theorem e_readE (g : FuncId) (hin : Into Tryz.prog g) (l : List Tk) (hl : OKTs l) (hn : l.length ≤ 1000000000) (p : Int) (x : Nat → Rd Ex) (hw : (textP l).2 = 0 → ∀ v0 i, i ≤ l.length → AC Tryz.prog g [.ptr 0 v0 0 0] (rd v0 l i 40 []) (RdK v0 l 40 encX (x i))) : AC Tryz.prog 39 [.list 5 (l.map encK), .v (.int .i64 (p)), .v (.func (.func g) #[] #[])] ([]) (fun r σ' => r = .ret (encP encX (readP ex0 l p x)) ∧ σ'.keep (fun _ => false) = []) := by
 refine acd_enter 46 Tryz.func39 rfl rfl (by simp) ?_
 refine awd_seq ?_
 refine awd_region_l ?_
 (refine al_opR (op_alloc 6 info37 rfl rfl) rfl (by simp) ?_; rintro _ _ ⟨ver6, rfl, rfl⟩)
 refine al_op (op_assign rfl) rfl (by simp) ?_
 (refine al_opR (op_alloc 8 info40 rfl rfl) rfl (by simp) ?_; rintro _ _ ⟨ver8, rfl, rfl⟩)
 refine al_nil ?_
 refine awd_seq ?_
 refine awd_seq ?_
 refine awd_region_l ?_
 refine al_op (op_move rfl) rfl (by simp) ?_
 refine al_callp into53 rfl rfl rfl (c_Text l hl (by omega) _) (by simp) ?_
 refine al_op (op_move rfl) rfl (by simp) ?_
 refine al_op (op_extract rfl rfl rfl) rfl (by simp) ?_
 refine al_op (op_extract rfl rfl rfl) rfl (by simp) ?_
 refine al_op (op_assign rfl) rfl (by simp) ?_
 refine al_op (op_assign rfl) rfl (by simp) ?_
 refine al_nil ?_
 refine awd_seq ?_
 refine awd_region_l ?_
 refine al_op (op_move rfl) rfl (by simp) ?_
 refine al_op (op_neq rfl rfl) rfl (by simp) ?_
 refine al_op (op_move rfl) rfl (by simp) ?_
 apply al_or 3 20 23 rfl
 ·intro h1; have gh1 := h1
  try simp only [nrm] at h1
  refine al_take (op_move rfl) rfl rfl rfl rfl (by simp) ?_
  refine al_take (op_lss rfl rfl) rfl rfl rfl rfl (by simp) ?_
  refine al_op (op_pick rfl rfl) rfl (by simp) ?_
  refine al_nil ⟨rfl, rfl, rfl, keep_of ?_⟩
  repeat (first | exact subx_refl | exact subx_known rfl gh1 subx_refl | refine subx_put rfl ?_)
 ·intro h1; have gh1 := h1
  try simp only [nrm] at h1
  refine al_pass rfl rfl rfl rfl (by simp) ?_
  refine al_pass rfl rfl rfl rfl (by simp) ?_
  refine al_op (op_pick rfl rfl) rfl (by simp) ?_
  refine al_nil ⟨rfl, rfl, rfl, keep_of ?_⟩
  repeat (first | exact subx_refl | exact subx_known rfl gh1 subx_refl | refine subx_put rfl ?_)
 refine al_op (op_move rfl) rfl (by simp) ?_
 apply al_or 5 24 29 rfl
 ·intro h2; have gh2 := h2
  try simp only [nrm] at h2
  refine al_take (op_move rfl) rfl rfl rfl rfl (by simp) ?_
  refine al_take (op_move rfl) rfl rfl rfl rfl (by simp) ?_
  refine al_take (op_len_map Tryz.underlying22 rfl) rfl rfl rfl rfl (by simp) ?_
  refine al_take (op_gtr rfl rfl) rfl rfl rfl rfl (by simp) ?_
  refine al_op (op_pick rfl rfl) rfl (by simp) ?_
  refine al_nil ⟨rfl, rfl, rfl, keep_of ?_⟩
  repeat (first | exact subx_refl | exact subx_known rfl gh2 subx_refl | refine subx_put rfl ?_)
 ·intro h2; have gh2 := h2
  try simp only [nrm] at h2
  refine al_pass rfl rfl rfl rfl (by simp) ?_
  refine al_pass rfl rfl rfl rfl (by simp) ?_
  refine al_pass rfl rfl rfl rfl (by simp) ?_
  refine al_pass rfl rfl rfl rfl (by simp) ?_
  refine al_op (op_pick rfl rfl) rfl (by simp) ?_
  refine al_nil ⟨rfl, rfl, rfl, keep_of ?_⟩
  repeat (first | exact subx_refl | exact subx_known rfl gh2 subx_refl | refine subx_put rfl ?_)
 refine al_nil ?_
 refine awd_cond rfl (fun h3 => ?_) (fun h3 => ?_)
 ·have gh3 := h3
  try simp only [nrm] at h3
  refine awd_seq ?_
  refine awd_region_l ?_
  refine al_op (op_load_ptr Tryz.underlying37 info37 rfl rfl rfl rfl) rfl (by simp) ?_
  refine al_op (op_build_struct Tryz.underlying40 info40 rfl place40 rfl (by first | rfl | (repeat (first | exact parts_nil | refine parts_cons rfl (by repeat (first | exact all_live_nil | refine all_live_clo rfl ?_ | refine all_live_slice rfl ?_ | refine all_live_map rfl ?_ | refine all_live_ptr rfl ?_)) ?_))) rfl) rfl (by simp) ?_
  refine al_op (op_store_ptr info37 rfl rfl rfl rfl rfl rfl (by first | rfl | exact live_one rfl | (repeat (first | exact all_live_nil | refine all_live_clo rfl ?_ | refine all_live_slice rfl ?_ | refine all_live_map rfl ?_ | refine all_live_ptr rfl ?_))) (by decide)) rfl (by simp) ?_
  refine al_op (op_assign rfl) rfl (by simp) ?_
  refine al_op (op_store_ptr info40 rfl rfl rfl rfl rfl rfl (by first | rfl | exact live_one rfl | (repeat (first | exact all_live_nil | refine all_live_clo rfl ?_ | refine all_live_slice rfl ?_ | refine all_live_map rfl ?_ | refine all_live_ptr rfl ?_))) (by decide)) rfl (by simp) ?_
  refine al_nil ?_
  refine awd_ret ?_
  refine ⟨_, res_head (b := encX ex0) (res_cell_tmp_cell rfl Tryz.underlying37 info37 Tryz.underlying40 info40 rfl rfl rfl rfl rfl rfl rfl rfl rfl rfl rfl rfl) (.agg _ _ (by repeat (first | exact reL_nil | refine reL_cons (.same _) ?_ | refine reL_cons (.vnil _) ?_))) rfl rfl, ?_⟩
  exact ⟨by rw [readP_arg gh3] <;> rfl, rfl⟩
 ·have gh3 := h3
  try simp only [nrm] at h3
  refine awd_skip ?_
  refine awd_seq ?_
  have hc : (((textP l).2 != 0 || decide (p < 0)) || decide (p > (l.length : Int))) = false := gh3
  have htx : (textP l).2 = 0 := by have := hc; simp at this; exact this.1.1
  obtain ⟨i, rfl⟩ := Int.eq_ofNat_of_zero_le (show 0 ≤ p by have := hc; simp at this; omega)
  have hil : i ≤ l.length := by have := hc; simp at this; omega
  refine awd_region ?_
  refine ald_defer rfl rfl ?_
  refine ald_nil ?_
  refine awd_seq ?_
  refine awd_region_l ?_
  refine al_op (op_move rfl) rfl (by simp) ?_
  refine al_op (op_move rfl) rfl (by simp) ?_
  refine al_op (op_build_struct Tryz.underlying40 info40 rfl place40 rfl (by first | rfl | (repeat (first | exact parts_nil | refine parts_cons rfl (by repeat (first | exact all_live_nil | refine all_live_clo rfl ?_ | refine all_live_slice rfl ?_ | refine all_live_map rfl ?_ | refine all_live_ptr rfl ?_)) ?_))) rfl) rfl (by simp) ?_
  refine al_op (op_build_struct Tryz.underlying105 info105 rfl place105 rfl (by first | rfl | (repeat (first | exact parts_nil | refine parts_cons rfl (by repeat (first | exact all_live_nil | refine all_live_clo rfl ?_ | refine all_live_slice rfl ?_ | refine all_live_map rfl ?_ | refine all_live_ptr rfl ?_)) ?_))) rfl) rfl (by simp) ?_
  (refine al_opR (op_box 36 rfl rfl (by first | rfl | exact live_one rfl | (repeat (first | exact all_live_nil | refine all_live_clo rfl ?_ | refine all_live_slice rfl ?_ | refine all_live_map rfl ?_ | refine all_live_ptr rfl ?_)))) rfl (by simp) ?_; rintro _ _ ⟨ver36, rfl, rfl⟩)
  refine al_op (op_assign rfl) rfl (by simp) ?_
  refine al_nil ?_
  refine awd_seq ?_
  refine awd_region_l ?_
  refine al_op (op_move rfl) rfl (by simp) ?_
  refine al_op (op_move rfl) rfl (by simp) ?_
  refine al_call hin rfl rfl rfl (rd_call 36 (by decide) (fun _ => rfl) (hw htx ver36 i (by omega)) rfl (by rfl)) (by simp) ?_; rintro _ _ (⟨g39, i39, d39, hx39, rfl, rfl⟩ | ⟨a39, j39, hx39, rfl, rfl⟩)
  ·apply callk_pan; apply thenD_pan
   refine retd_pan2 into77 (e_catch_p g39 ver6 ver8 ver36 (.row 16 [zeroE]) (.row 7 [rdr l i39 d39])) ?_ ?_ ?_
   · rfl
   · rfl
   rintro _ ⟨v39, rfl⟩
   refine ⟨_, res_head (b := encX ex0) (res_cell_tmp_cell rfl Tryz.underlying37 info37 Tryz.underlying40 info40 rfl rfl rfl rfl rfl rfl rfl rfl rfl rfl rfl rfl) (.agg _ _ (by repeat (first | exact reL_nil | refine reL_cons (.same _) ?_ | refine reL_cons (.vnil _) ?_))) rfl rfl, ?_⟩
   exact ⟨by rw [readP_bad hc hx39] <;> rfl, rfl⟩
  (refine al_opR (op_alloc 12 info37 rfl rfl) rfl (by simp) ?_; rintro _ _ ⟨ver12, rfl, rfl⟩)
  refine al_op (op_store_ptr info37 rfl rfl rfl rfl rfl rfl (by first | rfl | exact live_one rfl | (repeat (first | exact all_live_nil | refine all_live_clo rfl ?_ | refine all_live_slice rfl ?_ | refine all_live_map rfl ?_ | refine all_live_ptr rfl ?_))) (Nat.le_of_ble_eq_true rfl)) rfl (by simp) ?_
  refine al_nil ?_
  refine awd_seq ?_
  refine awd_plan [0, 1, 2, 3, 4, 5, 6, 7, 8] (Checked.mixed Tryz.checked) (by kernel_rfl) ?_
  refine afl_float rfl rfl (opk_of (op_load_ptr Tryz.underlying37 info37 rfl rfl rfl rfl)) (by simp) ?_
  refine afl_float rfl rfl (opk_of (op_move rfl)) (by simp) ?_
  refine afl_float rfl rfl (opk_of (op_nilCheck_ptr rfl rfl)) (by simp) ?_
  refine afl_float rfl rfl (opk_of (op_field_ptr Tryz.underlying105 rfl info3 (by decide) rfl rfl rfl)) (by simp) ?_
  refine afl_float rfl rfl (opk_of (op_load_ptr Tryz.underlying3 info3 rfl rfl rfl rfl)) (by simp) ?_
  refine afl_float rfl rfl (opk_of (op_load_ptr Tryz.underlying40 info40 rfl rfl rfl rfl)) (by simp) ?_
  (refine afl_eff rfl rfl (by kernel_rfl) (op_store_ptr info37 rfl rfl rfl rfl rfl rfl (by first | rfl | exact live_one rfl | (repeat (first | exact all_live_nil | refine all_live_clo rfl ?_ | refine all_live_slice rfl ?_ | refine all_live_map rfl ?_ | refine all_live_ptr rfl ?_))) (Nat.le_of_ble_eq_true rfl)) (by simp) ?_ ?_)
  ·
   refine loose_k rfl (opk_of (op_load_ptr Tryz.underlying40 info40 rfl rfl rfl rfl)) ?_
   refine loose_k rfl (opk_of (op_load_ptr Tryz.underlying3 info3 rfl rfl rfl rfl)) ?_
   refine loose_k rfl (opk_of (op_field_ptr Tryz.underlying105 rfl info3 (by decide) rfl rfl rfl)) ?_
   refine loose_k rfl (opk_of (op_nilCheck_ptr rfl rfl)) ?_
   refine loose_k rfl (opk_of (op_move rfl)) ?_
   refine loose_anc 0 rfl (by kernel_rfl) ?_
   exact loose_nil
  refine afl_float rfl rfl (opk_of (op_assign rfl)) (by simp) ?_
  (refine afl_eff rfl rfl (by kernel_rfl) (op_store_ptr info40 rfl rfl rfl rfl rfl rfl (by first | rfl | exact live_one rfl | (repeat (first | exact all_live_nil | refine all_live_clo rfl ?_ | refine all_live_slice rfl ?_ | refine all_live_map rfl ?_ | refine all_live_ptr rfl ?_))) (by decide)) (by simp) ?_ ?_)
  ·
   refine loose_anc 7 rfl (by kernel_rfl) ?_
   refine loose_fix rfl ?_
   refine loose_anc 5 rfl (by kernel_rfl) ?_
   refine loose_anc 4 rfl (by kernel_rfl) ?_
   refine loose_anc 3 rfl (by kernel_rfl) ?_
   refine loose_anc 2 rfl (by kernel_rfl) ?_
   refine loose_anc 1 rfl (by kernel_rfl) ?_
   refine loose_anc 0 rfl (by kernel_rfl) ?_
   exact loose_nil
  refine afl_end ?_
  refine awd_ret ?_
  refine retd_ret into77 (e_catch_r _ ver8) ?_
  rintro _ rfl
  refine ⟨_, res_cell_tmp_cell rfl Tryz.underlying37 info37 Tryz.underlying40 info40 rfl rfl rfl rfl rfl rfl rfl rfl rfl rfl rfl rfl, ?_⟩
  exact ⟨by rw [readP_ok hc hx39] <;> rfl, rfl⟩
theorem e_readEP (g : FuncId) (hin : Into Tryz.prog g) (l : List Tk) (hl : OKTs l) (hn : l.length ≤ 1000000000) (p : Int) (x : Nat → Rd Ex) (hw : (textP l).2 = 0 → ∀ v0 i, i ≤ l.length → AC Tryz.prog g [.ptr 0 v0 0 0] (rd v0 l i 40 []) (RdK v0 l 40 encX (x i))) : ACp Tryz.prog 39 [.list 5 (l.map encK), .v (.int .i64 (p)), .v (.func (.func g) #[] #[])] (encP encX (readP ex0 l p x)) :=
  acp_of rfl (ac_mono (ac_keep (fun _ => false) (e_readE g hin l hl hn p x hw)) (by rintro x σ1 ⟨σ2, ⟨rfl, e⟩, rfl⟩; exact ⟨rfl, e⟩))
theorem e_readT (g : FuncId) (hin : Into Tryz.prog g) (l : List Tk) (hl : OKTs l) (hn : l.length ≤ 1000000000) (p : Int) (x : Nat → Rd Tr) (hw : (textP l).2 = 0 → ∀ v0 i, i ≤ l.length → AC Tryz.prog g [.ptr 0 v0 0 0] (rd v0 l i 40 []) (RdK v0 l 40 encRr (x i))) : AC Tryz.prog 46 [.list 5 (l.map encK), .v (.int .i64 (p)), .v (.func (.func g) #[] #[])] ([]) (fun r σ' => r = .ret (encP encRr (readP tr0 l p x)) ∧ σ'.keep (fun _ => false) = []) := by
 refine acd_enter 46 Tryz.func46 rfl rfl (by simp) ?_
 refine awd_seq ?_
 refine awd_region_l ?_
 (refine al_opR (op_alloc 6 info46 rfl rfl) rfl (by simp) ?_; rintro _ _ ⟨ver6, rfl, rfl⟩)
 refine al_op (op_assign rfl) rfl (by simp) ?_
 (refine al_opR (op_alloc 8 info40 rfl rfl) rfl (by simp) ?_; rintro _ _ ⟨ver8, rfl, rfl⟩)
 refine al_nil ?_
 refine awd_seq ?_
 refine awd_seq ?_
 refine awd_region_l ?_
 refine al_op (op_move rfl) rfl (by simp) ?_
 refine al_callp into53 rfl rfl rfl (c_Text l hl (by omega) _) (by simp) ?_
 refine al_op (op_move rfl) rfl (by simp) ?_
 refine al_op (op_extract rfl rfl rfl) rfl (by simp) ?_
 refine al_op (op_extract rfl rfl rfl) rfl (by simp) ?_
 refine al_op (op_assign rfl) rfl (by simp) ?_
 refine al_op (op_assign rfl) rfl (by simp) ?_
 refine al_nil ?_
 refine awd_seq ?_
 refine awd_region_l ?_
 refine al_op (op_move rfl) rfl (by simp) ?_
 refine al_op (op_neq rfl rfl) rfl (by simp) ?_
 refine al_op (op_move rfl) rfl (by simp) ?_
 apply al_or 3 20 23 rfl
 ·intro h1; have gh1 := h1
  try simp only [nrm] at h1
  refine al_take (op_move rfl) rfl rfl rfl rfl (by simp) ?_
  refine al_take (op_lss rfl rfl) rfl rfl rfl rfl (by simp) ?_
  refine al_op (op_pick rfl rfl) rfl (by simp) ?_
  refine al_nil ⟨rfl, rfl, rfl, keep_of ?_⟩
  repeat (first | exact subx_refl | exact subx_known rfl gh1 subx_refl | refine subx_put rfl ?_)
 ·intro h1; have gh1 := h1
  try simp only [nrm] at h1
  refine al_pass rfl rfl rfl rfl (by simp) ?_
  refine al_pass rfl rfl rfl rfl (by simp) ?_
  refine al_op (op_pick rfl rfl) rfl (by simp) ?_
  refine al_nil ⟨rfl, rfl, rfl, keep_of ?_⟩
  repeat (first | exact subx_refl | exact subx_known rfl gh1 subx_refl | refine subx_put rfl ?_)
 refine al_op (op_move rfl) rfl (by simp) ?_
 apply al_or 5 24 29 rfl
 ·intro h2; have gh2 := h2
  try simp only [nrm] at h2
  refine al_take (op_move rfl) rfl rfl rfl rfl (by simp) ?_
  refine al_take (op_move rfl) rfl rfl rfl rfl (by simp) ?_
  refine al_take (op_len_map Tryz.underlying22 rfl) rfl rfl rfl rfl (by simp) ?_
  refine al_take (op_gtr rfl rfl) rfl rfl rfl rfl (by simp) ?_
  refine al_op (op_pick rfl rfl) rfl (by simp) ?_
  refine al_nil ⟨rfl, rfl, rfl, keep_of ?_⟩
  repeat (first | exact subx_refl | exact subx_known rfl gh2 subx_refl | refine subx_put rfl ?_)
 ·intro h2; have gh2 := h2
  try simp only [nrm] at h2
  refine al_pass rfl rfl rfl rfl (by simp) ?_
  refine al_pass rfl rfl rfl rfl (by simp) ?_
  refine al_pass rfl rfl rfl rfl (by simp) ?_
  refine al_pass rfl rfl rfl rfl (by simp) ?_
  refine al_op (op_pick rfl rfl) rfl (by simp) ?_
  refine al_nil ⟨rfl, rfl, rfl, keep_of ?_⟩
  repeat (first | exact subx_refl | exact subx_known rfl gh2 subx_refl | refine subx_put rfl ?_)
 refine al_nil ?_
 refine awd_cond rfl (fun h3 => ?_) (fun h3 => ?_)
 ·have gh3 := h3
  try simp only [nrm] at h3
  refine awd_seq ?_
  refine awd_region_l ?_
  refine al_op (op_load_ptr Tryz.underlying46 info46 rfl rfl rfl rfl) rfl (by simp) ?_
  refine al_op (op_build_struct Tryz.underlying40 info40 rfl place40 rfl (by first | rfl | (repeat (first | exact parts_nil | refine parts_cons rfl (by repeat (first | exact all_live_nil | refine all_live_clo rfl ?_ | refine all_live_slice rfl ?_ | refine all_live_map rfl ?_ | refine all_live_ptr rfl ?_)) ?_))) rfl) rfl (by simp) ?_
  refine al_op (op_store_ptr info46 rfl rfl rfl rfl rfl rfl (by first | rfl | exact live_one rfl | (repeat (first | exact all_live_nil | refine all_live_clo rfl ?_ | refine all_live_slice rfl ?_ | refine all_live_map rfl ?_ | refine all_live_ptr rfl ?_))) (by decide)) rfl (by simp) ?_
  refine al_op (op_assign rfl) rfl (by simp) ?_
  refine al_op (op_store_ptr info40 rfl rfl rfl rfl rfl rfl (by first | rfl | exact live_one rfl | (repeat (first | exact all_live_nil | refine all_live_clo rfl ?_ | refine all_live_slice rfl ?_ | refine all_live_map rfl ?_ | refine all_live_ptr rfl ?_))) (by decide)) rfl (by simp) ?_
  refine al_nil ?_
  refine awd_ret ?_
  refine ⟨_, res_head (b := encRr tr0) (res_cell_tmp_cell rfl Tryz.underlying46 info46 Tryz.underlying40 info40 rfl rfl rfl rfl rfl rfl rfl rfl rfl rfl rfl rfl) (.agg _ _ (by repeat (first | exact reL_nil | refine reL_cons (.same _) ?_ | refine reL_cons (.vnil _) ?_))) rfl rfl, ?_⟩
  exact ⟨by rw [readP_arg gh3] <;> rfl, rfl⟩
 ·have gh3 := h3
  try simp only [nrm] at h3
  refine awd_skip ?_
  refine awd_seq ?_
  have hc : (((textP l).2 != 0 || decide (p < 0)) || decide (p > (l.length : Int))) = false := gh3
  have htx : (textP l).2 = 0 := by have := hc; simp at this; exact this.1.1
  obtain ⟨i, rfl⟩ := Int.eq_ofNat_of_zero_le (show 0 ≤ p by have := hc; simp at this; omega)
  have hil : i ≤ l.length := by have := hc; simp at this; omega
  refine awd_region ?_
  refine ald_defer rfl rfl ?_
  refine ald_nil ?_
  refine awd_seq ?_
  refine awd_region_l ?_
  refine al_op (op_move rfl) rfl (by simp) ?_
  refine al_op (op_move rfl) rfl (by simp) ?_
  refine al_op (op_build_struct Tryz.underlying40 info40 rfl place40 rfl (by first | rfl | (repeat (first | exact parts_nil | refine parts_cons rfl (by repeat (first | exact all_live_nil | refine all_live_clo rfl ?_ | refine all_live_slice rfl ?_ | refine all_live_map rfl ?_ | refine all_live_ptr rfl ?_)) ?_))) rfl) rfl (by simp) ?_
  refine al_op (op_build_struct Tryz.underlying105 info105 rfl place105 rfl (by first | rfl | (repeat (first | exact parts_nil | refine parts_cons rfl (by repeat (first | exact all_live_nil | refine all_live_clo rfl ?_ | refine all_live_slice rfl ?_ | refine all_live_map rfl ?_ | refine all_live_ptr rfl ?_)) ?_))) rfl) rfl (by simp) ?_
  (refine al_opR (op_box 36 rfl rfl (by first | rfl | exact live_one rfl | (repeat (first | exact all_live_nil | refine all_live_clo rfl ?_ | refine all_live_slice rfl ?_ | refine all_live_map rfl ?_ | refine all_live_ptr rfl ?_)))) rfl (by simp) ?_; rintro _ _ ⟨ver36, rfl, rfl⟩)
  refine al_op (op_assign rfl) rfl (by simp) ?_
  refine al_nil ?_
  refine awd_seq ?_
  refine awd_region_l ?_
  refine al_op (op_move rfl) rfl (by simp) ?_
  refine al_op (op_move rfl) rfl (by simp) ?_
  refine al_call hin rfl rfl rfl (rd_call 36 (by decide) (fun _ => rfl) (hw htx ver36 i (by omega)) rfl (by rfl)) (by simp) ?_; rintro _ _ (⟨g39, i39, d39, hx39, rfl, rfl⟩ | ⟨a39, j39, hx39, rfl, rfl⟩)
  ·apply callk_pan; apply thenD_pan
   refine retd_pan2 into77 (e_catch_p g39 ver6 ver8 ver36 (.row 5 [zeroR]) (.row 7 [rdr l i39 d39])) ?_ ?_ ?_
   · rfl
   · rfl
   rintro _ ⟨v39, rfl⟩
   refine ⟨_, res_head (b := encRr tr0) (res_cell_tmp_cell rfl Tryz.underlying46 info46 Tryz.underlying40 info40 rfl rfl rfl rfl rfl rfl rfl rfl rfl rfl rfl rfl) (.agg _ _ (by repeat (first | exact reL_nil | refine reL_cons (.same _) ?_ | refine reL_cons (.vnil _) ?_))) rfl rfl, ?_⟩
   exact ⟨by rw [readP_bad hc hx39] <;> rfl, rfl⟩
  (refine al_opR (op_alloc 12 info46 rfl rfl) rfl (by simp) ?_; rintro _ _ ⟨ver12, rfl, rfl⟩)
  refine al_op (op_store_ptr info46 rfl rfl rfl rfl rfl rfl (by first | rfl | exact live_one rfl | (repeat (first | exact all_live_nil | refine all_live_clo rfl ?_ | refine all_live_slice rfl ?_ | refine all_live_map rfl ?_ | refine all_live_ptr rfl ?_))) (Nat.le_of_ble_eq_true rfl)) rfl (by simp) ?_
  refine al_nil ?_
  refine awd_seq ?_
  refine awd_plan [0, 1, 2, 3, 4, 5, 6, 7, 8] (Checked.mixed Tryz.checked) (by kernel_rfl) ?_
  refine afl_float rfl rfl (opk_of (op_load_ptr Tryz.underlying46 info46 rfl rfl rfl rfl)) (by simp) ?_
  refine afl_float rfl rfl (opk_of (op_move rfl)) (by simp) ?_
  refine afl_float rfl rfl (opk_of (op_nilCheck_ptr rfl rfl)) (by simp) ?_
  refine afl_float rfl rfl (opk_of (op_field_ptr Tryz.underlying105 rfl info3 (by decide) rfl rfl rfl)) (by simp) ?_
  refine afl_float rfl rfl (opk_of (op_load_ptr Tryz.underlying3 info3 rfl rfl rfl rfl)) (by simp) ?_
  refine afl_float rfl rfl (opk_of (op_load_ptr Tryz.underlying40 info40 rfl rfl rfl rfl)) (by simp) ?_
  (refine afl_eff rfl rfl (by kernel_rfl) (op_store_ptr info46 rfl rfl rfl rfl rfl rfl (by first | rfl | exact live_one rfl | (repeat (first | exact all_live_nil | refine all_live_clo rfl ?_ | refine all_live_slice rfl ?_ | refine all_live_map rfl ?_ | refine all_live_ptr rfl ?_))) (Nat.le_of_ble_eq_true rfl)) (by simp) ?_ ?_)
  ·
   refine loose_k rfl (opk_of (op_load_ptr Tryz.underlying40 info40 rfl rfl rfl rfl)) ?_
   refine loose_k rfl (opk_of (op_load_ptr Tryz.underlying3 info3 rfl rfl rfl rfl)) ?_
   refine loose_k rfl (opk_of (op_field_ptr Tryz.underlying105 rfl info3 (by decide) rfl rfl rfl)) ?_
   refine loose_k rfl (opk_of (op_nilCheck_ptr rfl rfl)) ?_
   refine loose_k rfl (opk_of (op_move rfl)) ?_
   refine loose_anc 0 rfl (by kernel_rfl) ?_
   exact loose_nil
  refine afl_float rfl rfl (opk_of (op_assign rfl)) (by simp) ?_
  (refine afl_eff rfl rfl (by kernel_rfl) (op_store_ptr info40 rfl rfl rfl rfl rfl rfl (by first | rfl | exact live_one rfl | (repeat (first | exact all_live_nil | refine all_live_clo rfl ?_ | refine all_live_slice rfl ?_ | refine all_live_map rfl ?_ | refine all_live_ptr rfl ?_))) (by decide)) (by simp) ?_ ?_)
  ·
   refine loose_anc 7 rfl (by kernel_rfl) ?_
   refine loose_fix rfl ?_
   refine loose_anc 5 rfl (by kernel_rfl) ?_
   refine loose_anc 4 rfl (by kernel_rfl) ?_
   refine loose_anc 3 rfl (by kernel_rfl) ?_
   refine loose_anc 2 rfl (by kernel_rfl) ?_
   refine loose_anc 1 rfl (by kernel_rfl) ?_
   refine loose_anc 0 rfl (by kernel_rfl) ?_
   exact loose_nil
  refine afl_end ?_
  refine awd_ret ?_
  refine retd_ret into77 (e_catch_r _ ver8) ?_
  rintro _ rfl
  refine ⟨_, res_cell_tmp_cell rfl Tryz.underlying46 info46 Tryz.underlying40 info40 rfl rfl rfl rfl rfl rfl rfl rfl rfl rfl rfl rfl, ?_⟩
  exact ⟨by rw [readP_ok hc hx39] <;> rfl, rfl⟩
theorem e_readTP (g : FuncId) (hin : Into Tryz.prog g) (l : List Tk) (hl : OKTs l) (hn : l.length ≤ 1000000000) (p : Int) (x : Nat → Rd Tr) (hw : (textP l).2 = 0 → ∀ v0 i, i ≤ l.length → AC Tryz.prog g [.ptr 0 v0 0 0] (rd v0 l i 40 []) (RdK v0 l 40 encRr (x i))) : ACp Tryz.prog 46 [.list 5 (l.map encK), .v (.int .i64 (p)), .v (.func (.func g) #[] #[])] (encP encRr (readP tr0 l p x)) :=
  acp_of rfl (ac_mono (ac_keep (fun _ => false) (e_readT g hin l hl hn p x hw)) (by rintro x σ1 ⟨σ2, ⟨rfl, e⟩, rfl⟩; exact ⟨rfl, e⟩))
end Go.Proofs.YtcgdlhkiecommaaGreatDoor

/- Printed walks (gen.py, lexer_ann.py): part 409. -/



set_option linter.unusedVariables false
set_option linter.unusedSimpArgs false
set_option maxRecDepth 20000
set_option maxHeartbeats 40000000
namespace Go.Proofs.YtcgdlhkiecommaaGreatDoor
open Go
theorem q_Parse (l : List Tk) (hl : OKTs l) (hn : l.length ≤ 1000000000) (p : Int) : AC Tryz.prog 13 [.list 5 (l.map encK), .v (.int .i64 (p))] ([]) (fun r σ' => r = .ret (encP encX (readP ex0 l p (fun i => rowD l 40 4 i))) ∧ σ'.keep (fun _ => false) = []) := by
 refine ac_enter 13 Tryz.func13 rfl rfl (by simp) ?_
 refine aw_seq ?_
 refine aw_region ?_
 (refine al_opR (op_alloc 4 info37 rfl rfl) rfl (by simp) ?_; rintro _ _ ⟨ver4, rfl, rfl⟩)
 refine al_op (op_assign rfl) rfl (by simp) ?_
 (refine al_opR (op_alloc 6 info40 rfl rfl) rfl (by simp) ?_; rintro _ _ ⟨ver6, rfl, rfl⟩)
 refine al_nil ?_
 refine aw_seq ?_
 refine aw_region ?_
 refine al_op (op_move rfl) rfl (by simp) ?_
 refine al_op (op_move rfl) rfl (by simp) ?_
 refine al_callp into39 rfl rfl rfl (e_readEP 40 into40 l hl hn p (fun i => rowD l 40 4 i) (fun _ => (e_all l hl hn 40 (by decide)).2) _) (by simp) ?_
 refine al_op (op_extract rfl rfl rfl) rfl (by simp) ?_
 refine al_op (op_extract rfl rfl rfl) rfl (by simp) ?_
 refine al_op (op_extract rfl rfl rfl) rfl (by simp) ?_
 refine al_op (op_store_ptr info37 rfl rfl rfl rfl rfl rfl (by first | rfl | exact live_one rfl | (repeat (first | exact all_live_nil | refine all_live_clo rfl ?_ | refine all_live_slice rfl ?_ | refine all_live_map rfl ?_ | refine all_live_ptr rfl ?_))) (Nat.le_of_ble_eq_true rfl)) rfl (by simp) ?_
 refine al_op (op_assign rfl) rfl (by simp) ?_
 refine al_op (op_store_ptr info40 rfl rfl rfl rfl rfl rfl (by first | rfl | exact live_one rfl | (repeat (first | exact all_live_nil | refine all_live_clo rfl ?_ | refine all_live_slice rfl ?_ | refine all_live_map rfl ?_ | refine all_live_ptr rfl ?_))) (Nat.le_of_ble_eq_true rfl)) rfl (by simp) ?_
 refine al_nil ?_
 refine aw_ret ?_
 refine ⟨_, res_cell_tmp_cell rfl Tryz.underlying37 info37 Tryz.underlying40 info40 rfl rfl rfl rfl rfl rfl rfl rfl rfl rfl rfl rfl, ?_⟩
 exact ⟨rfl, rfl⟩
theorem c_Parse (l : List Tk) (hl : OKTs l) (hn : l.length ≤ 1000000000) (p : Int) : ACp Tryz.prog 13 [.list 5 (l.map encK), .v (.int .i64 (p))] (encP encX (readP ex0 l p (fun i => rowD l 40 4 i))) :=
  acp_of rfl (ac_mono (ac_keep (fun _ => false) (q_Parse l hl hn p)) (by rintro x σ1 ⟨σ2, ⟨rfl, e⟩, rfl⟩; exact ⟨rfl, e⟩))
theorem q_Target (l : List Tk) (hl : OKTs l) (hn : l.length ≤ 1000000000) (p : Int) : AC Tryz.prog 16 [.list 5 (l.map encK), .v (.int .i64 (p))] ([]) (fun r σ' => r = .ret (encP encX (readP ex0 l p (fun i => targetP l i))) ∧ σ'.keep (fun _ => false) = []) := by
 refine ac_enter 13 Tryz.func16 rfl rfl (by simp) ?_
 refine aw_seq ?_
 refine aw_region ?_
 (refine al_opR (op_alloc 4 info37 rfl rfl) rfl (by simp) ?_; rintro _ _ ⟨ver4, rfl, rfl⟩)
 refine al_op (op_assign rfl) rfl (by simp) ?_
 (refine al_opR (op_alloc 6 info40 rfl rfl) rfl (by simp) ?_; rintro _ _ ⟨ver6, rfl, rfl⟩)
 refine al_nil ?_
 refine aw_seq ?_
 refine aw_region ?_
 refine al_op (op_move rfl) rfl (by simp) ?_
 refine al_op (op_move rfl) rfl (by simp) ?_
 refine al_callp into39 rfl rfl rfl (e_readEP 44 into44 l hl hn p (fun i => targetP l i) (fun _ v0 i hi => e_target v0 l hl hn i hi) _) (by simp) ?_
 refine al_op (op_extract rfl rfl rfl) rfl (by simp) ?_
 refine al_op (op_extract rfl rfl rfl) rfl (by simp) ?_
 refine al_op (op_extract rfl rfl rfl) rfl (by simp) ?_
 refine al_op (op_store_ptr info37 rfl rfl rfl rfl rfl rfl (by first | rfl | exact live_one rfl | (repeat (first | exact all_live_nil | refine all_live_clo rfl ?_ | refine all_live_slice rfl ?_ | refine all_live_map rfl ?_ | refine all_live_ptr rfl ?_))) (Nat.le_of_ble_eq_true rfl)) rfl (by simp) ?_
 refine al_op (op_assign rfl) rfl (by simp) ?_
 refine al_op (op_store_ptr info40 rfl rfl rfl rfl rfl rfl (by first | rfl | exact live_one rfl | (repeat (first | exact all_live_nil | refine all_live_clo rfl ?_ | refine all_live_slice rfl ?_ | refine all_live_map rfl ?_ | refine all_live_ptr rfl ?_))) (Nat.le_of_ble_eq_true rfl)) rfl (by simp) ?_
 refine al_nil ?_
 refine aw_ret ?_
 refine ⟨_, res_cell_tmp_cell rfl Tryz.underlying37 info37 Tryz.underlying40 info40 rfl rfl rfl rfl rfl rfl rfl rfl rfl rfl rfl rfl, ?_⟩
 exact ⟨rfl, rfl⟩
theorem c_Target (l : List Tk) (hl : OKTs l) (hn : l.length ≤ 1000000000) (p : Int) : ACp Tryz.prog 16 [.list 5 (l.map encK), .v (.int .i64 (p))] (encP encX (readP ex0 l p (fun i => targetP l i))) :=
  acp_of rfl (ac_mono (ac_keep (fun _ => false) (q_Target l hl hn p)) (by rintro x σ1 ⟨σ2, ⟨rfl, e⟩, rfl⟩; exact ⟨rfl, e⟩))
theorem q_Type (l : List Tk) (hl : OKTs l) (hn : l.length ≤ 1000000000) (p : Int) : AC Tryz.prog 18 [.list 5 (l.map encK), .v (.int .i64 (p))] ([]) (fun r σ' => r = .ret (encP encRr (readP tr0 l p (fun i => typeP l i))) ∧ σ'.keep (fun _ => false) = []) := by
 refine ac_enter 13 Tryz.func18 rfl rfl (by simp) ?_
 refine aw_seq ?_
 refine aw_region ?_
 (refine al_opR (op_alloc 4 info46 rfl rfl) rfl (by simp) ?_; rintro _ _ ⟨ver4, rfl, rfl⟩)
 refine al_op (op_assign rfl) rfl (by simp) ?_
 (refine al_opR (op_alloc 6 info40 rfl rfl) rfl (by simp) ?_; rintro _ _ ⟨ver6, rfl, rfl⟩)
 refine al_nil ?_
 refine aw_seq ?_
 refine aw_region ?_
 refine al_op (op_move rfl) rfl (by simp) ?_
 refine al_op (op_move rfl) rfl (by simp) ?_
 refine al_callp into46 rfl rfl rfl (e_readTP 47 into47 l hl hn p (fun i => typeP l i) (fun h v0 i hi => e_type v0 l hl hn (name_array h) i hi) _) (by simp) ?_
 refine al_op (op_extract rfl rfl rfl) rfl (by simp) ?_
 refine al_op (op_extract rfl rfl rfl) rfl (by simp) ?_
 refine al_op (op_extract rfl rfl rfl) rfl (by simp) ?_
 refine al_op (op_store_ptr info46 rfl rfl rfl rfl rfl rfl (by first | rfl | exact live_one rfl | (repeat (first | exact all_live_nil | refine all_live_clo rfl ?_ | refine all_live_slice rfl ?_ | refine all_live_map rfl ?_ | refine all_live_ptr rfl ?_))) (Nat.le_of_ble_eq_true rfl)) rfl (by simp) ?_
 refine al_op (op_assign rfl) rfl (by simp) ?_
 refine al_op (op_store_ptr info40 rfl rfl rfl rfl rfl rfl (by first | rfl | exact live_one rfl | (repeat (first | exact all_live_nil | refine all_live_clo rfl ?_ | refine all_live_slice rfl ?_ | refine all_live_map rfl ?_ | refine all_live_ptr rfl ?_))) (Nat.le_of_ble_eq_true rfl)) rfl (by simp) ?_
 refine al_nil ?_
 refine aw_ret ?_
 refine ⟨_, res_cell_tmp_cell rfl Tryz.underlying46 info46 Tryz.underlying40 info40 rfl rfl rfl rfl rfl rfl rfl rfl rfl rfl rfl rfl, ?_⟩
 exact ⟨rfl, rfl⟩
theorem c_Type (l : List Tk) (hl : OKTs l) (hn : l.length ≤ 1000000000) (p : Int) : ACp Tryz.prog 18 [.list 5 (l.map encK), .v (.int .i64 (p))] (encP encRr (readP tr0 l p (fun i => typeP l i))) :=
  acp_of rfl (ac_mono (ac_keep (fun _ => false) (q_Type l hl hn p)) (by rintro x σ1 ⟨σ2, ⟨rfl, e⟩, rfl⟩; exact ⟨rfl, e⟩))
end Go.Proofs.YtcgdlhkiecommaaGreatDoor
