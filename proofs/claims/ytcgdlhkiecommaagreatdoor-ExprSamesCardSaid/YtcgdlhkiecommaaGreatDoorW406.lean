import Derived.Test.YtcgdlhkiecommaaGreatDoorW401
import Derived.Test.YtcgdlhkiecommaaGreatDoorFacts

/- Printed walks (gen.py, lexer_ann.py): part 403. -/


set_option linter.unusedVariables false
set_option linter.unusedSimpArgs false
set_option maxRecDepth 20000
set_option maxHeartbeats 40000000
namespace Go.Proofs.YtcgdlhkiecommaaGreatDoor
open Go
theorem e_slice (v0 : Nat) (l : List Tk) (hl : OKTs l) (hn : l.length ≤ 1000000000) (j d : Nat) (hd : d ≤ 40) (hj : j ≤ l.length) (hd0 : d ≠ 0) (hE : d ≠ 0 → ∀ v0 i, i ≤ l.length → AC Tryz.prog 40 [.ptr 0 v0 0 0] (rd v0 l i (d - 1) []) (RdK v0 l (d - 1) encX (rowD l (d - 1) 4 i))) (e high : Ex) (t : Tk) : AC Tryz.prog 177 [.ptr 0 v0 0 0, .agg (cellsE (e)), .agg (cellsE (high)), .v (.int .i64 (t.line)), .v (.int .i64 (t.col))] (rd v0 l j (d - 1) []) (fun r σ' => RdK v0 l (d) encX (sliceP l (innerD l d) e high t j) r σ') := by
 refine ac_enter 25 Tryz.func177 rfl rfl (by simp) ?_
 refine aw_seq ?_
 refine aw_region ?_
 (refine al_opR (op_box 6 rfl rfl (by first | rfl | exact live_one rfl | (repeat (first | exact all_live_nil | refine all_live_clo rfl ?_ | refine all_live_slice rfl ?_ | refine all_live_map rfl ?_ | refine all_live_ptr rfl ?_)))) rfl (by simp) ?_; rintro _ _ ⟨ver6, rfl, rfl⟩)
 (refine al_opR (op_box 7 rfl rfl (by first | rfl | exact live_one rfl | (repeat (first | exact all_live_nil | refine all_live_clo rfl ?_ | refine all_live_slice rfl ?_ | refine all_live_map rfl ?_ | refine all_live_ptr rfl ?_)))) rfl (by simp) ?_; rintro _ _ ⟨ver7, rfl, rfl⟩)
 (refine al_opR (op_alloc 10 info37 rfl rfl) rfl (by simp) ?_; rintro _ _ ⟨ver10, rfl, rfl⟩)
 refine al_nil ?_
 refine aw_seq ?_
 refine aw_region ?_
 refine al_op (op_move rfl) rfl (by simp) ?_
 refine al_call into95 rfl rfl rfl (rd_lift rfl (fun _ => rfl) (e_want v0 l hl hn j (d - 1) (by omega) hj sDownto) _ (by rfl)) (by simp) ?_; rintro _ _ (⟨g13, i13, d13, hx13, rfl, rfl⟩ | ⟨a13, j13, hx13, rfl, rfl⟩)
 ·exact rdk_bad (by rw [sliceP, hx13]) rfl
 obtain ⟨rfl, hat13⟩ := want_ok hx13
 have hlt13 := isAt_lt hat13
 refine al_nil ?_
 refine aw_seq ?_
 refine aw_region ?_
 refine al_op (op_move rfl) rfl (by simp) ?_
 refine al_call into40 rfl rfl rfl (rd_lift rfl (fun _ => rfl) (hE hd0 v0 (j + 1) (by omega)) _ (by rfl)) (by simp) ?_; rintro _ _ (⟨g15, i15, d15, hx15, rfl, rfl⟩ | ⟨a15, j15, hx15, rfl, rfl⟩)
 ·exact rdk_bad (by rw [sliceP, hx13]; simp only; rw [innerD_pos hd0, hx15]) rfl
 have hgt15 := innerD_gt (l := l) d _ _ _ (by rw [innerD_pos hd0]; exact hx15)
 have hy15 : innerD l d (j + 1) = .ok a15 j15 := by rw [innerD_pos hd0]; exact hx15
 (refine al_opR (op_alloc 11 info37 rfl rfl) rfl (by simp) ?_; rintro _ _ ⟨ver11, rfl, rfl⟩)
 refine al_op (op_store_ptr info37 rfl rfl rfl rfl rfl rfl (by first | rfl | exact live_one rfl | (repeat (first | exact all_live_nil | refine all_live_clo rfl ?_ | refine all_live_slice rfl ?_ | refine all_live_map rfl ?_ | refine all_live_ptr rfl ?_))) (Nat.le_of_ble_eq_true rfl)) rfl (by simp) ?_
 refine al_nil ?_
 refine aw_seq ?_
 refine aw_region ?_
 refine al_op (op_move rfl) rfl (by simp) ?_
 refine al_call into93 rfl rfl rfl (rd_lift rfl (fun _ => rfl) (e_shut v0 l hl hn j15 (d - 1) (by omega) (by omega) d (by omega)) _ (by rfl)) (by simp) ?_; rintro _ _ (⟨g17, i17, d17, hx17, rfl, rfl⟩ | ⟨a17, j17, hx17, rfl, rfl⟩)
 ·exact rdk_bad (by rw [sliceP, hx13]; simp only; rw [hy15]; simp only; rw [hx17]) rfl
 refine al_nil ?_
 refine aw_seq ?_
 refine aw_region ?_
 refine al_op (op_load_ptr Tryz.underlying37 info37 rfl rfl rfl rfl) rfl (by simp) ?_
 refine al_op (op_load_ptr Tryz.underlying37 info37 rfl rfl rfl rfl) rfl (by simp) ?_
 refine al_op (op_load_ptr Tryz.underlying37 info37 rfl rfl rfl rfl) rfl (by simp) ?_
 refine al_op (op_list encE [e, high, a15] Tryz.underlying31 info37 rfl rfl (by decide) rfl (by decide) rfl (by first | rfl | (repeat (first | exact parts_nil | refine parts_cons rfl (by repeat (first | exact all_live_nil | refine all_live_clo rfl ?_ | refine all_live_slice rfl ?_ | refine all_live_map rfl ?_ | refine all_live_ptr rfl ?_)) ?_))) rfl rfl rfl (kids3 _ _ _)) rfl (by simp) ?_
 refine al_op (op_move rfl) rfl (by simp) ?_
 refine al_op (op_move rfl) rfl (by simp) ?_
 refine al_op (val_re (.agg (cellsE (mkE 7 [] 0 [] [e, high, a15] t))) (op_build_struct Tryz.underlying37 info37 rfl place37 rfl (by first | rfl | (repeat (first | exact parts_nil | refine parts_cons rfl (by repeat (first | exact all_live_nil | refine all_live_clo rfl ?_ | refine all_live_slice rfl ?_ | refine all_live_map rfl ?_ | refine all_live_ptr rfl ?_)) ?_))) rfl) (.agg _ _ (by repeat (first | exact reL_nil | refine reL_cons (.same _) ?_ | refine reL_cons (.vnil _) ?_)))) rfl (by simp) ?_
 refine al_op (op_store_ptr info37 rfl rfl rfl rfl rfl rfl (by first | rfl | exact live_one rfl | (repeat (first | exact all_live_nil | refine all_live_clo rfl ?_ | refine all_live_slice rfl ?_ | refine all_live_map rfl ?_ | refine all_live_ptr rfl ?_))) (Nat.le_of_ble_eq_true rfl)) rfl (by simp) ?_
 refine al_nil ?_
 refine aw_ret ?_
 refine ⟨_, res_cell rfl Tryz.underlying37 info37 rfl rfl rfl rfl, ?_⟩
 exact rdk_ok (mkE 7 [] 0 [] [e, high, a15] t) j17 (by rw [sliceP, hx13]; simp only; rw [hy15]; simp only; rw [hx17]) rfl
theorem e_part (v0 : Nat) (l : List Tk) (hl : OKTs l) (hn : l.length ≤ 1000000000) (i d : Nat) (hd : d ≤ 40) (hi : i ≤ l.length) (hE : d ≠ 0 → ∀ v0 i, i ≤ l.length → AC Tryz.prog 40 [.ptr 0 v0 0 0] (rd v0 l i (d - 1) []) (RdK v0 l (d - 1) encX (rowD l (d - 1) 4 i))) (e : Ex) : AC Tryz.prog 137 [.ptr 0 v0 0 0, .agg (cellsE (e))] (rd v0 l i d []) (fun r σ' => RdK v0 l (d) encX (partP l d (innerD l d) e i) r σ') := by
 refine ac_enter 46 Tryz.func137 rfl rfl (by simp) ?_
 refine aw_seq ?_
 refine aw_region ?_
 (refine al_opR (op_box 3 rfl rfl (by first | rfl | exact live_one rfl | (repeat (first | exact all_live_nil | refine all_live_clo rfl ?_ | refine all_live_slice rfl ?_ | refine all_live_map rfl ?_ | refine all_live_ptr rfl ?_)))) rfl (by simp) ?_; rintro _ _ ⟨ver3, rfl, rfl⟩)
 (refine al_opR (op_alloc 4 info37 rfl rfl) rfl (by simp) ?_; rintro _ _ ⟨ver4, rfl, rfl⟩)
 refine al_nil ?_
 refine aw_seq ?_
 refine aw_region ?_
 refine al_op (op_move rfl) rfl (by simp) ?_
 refine al_callp into89 rfl rfl rfl (e_hereA v0 l hl hn i d (by omega) (by omega)  rfl rfl) (by simp) ?_
 refine al_op (op_move rfl) rfl (by simp) ?_
 refine al_op (op_extract rfl rfl rfl) rfl (by simp) ?_
 refine al_op (op_extract rfl rfl rfl) rfl (by simp) ?_
 refine al_op (op_assign rfl) rfl (by simp) ?_
 refine al_op (op_assign rfl) rfl (by simp) ?_
 refine al_nil ?_
 refine aw_seq ?_
 refine aw_region ?_
 refine al_op (op_move rfl) rfl (by simp) ?_
 refine al_call into92 rfl rfl rfl (rd_lift rfl (fun _ => rfl) (e_open v0 l hl hn (i) d hd (by omega)) _ (by rfl)) (by simp) ?_; rintro _ _ (⟨g14, i14, d14, hx14, rfl, rfl⟩ | ⟨a14, j14, hx14, rfl, rfl⟩)
 ·exact rdk_bad (by rw [partP, hx14]) rfl
 obtain ⟨hd0, rfl, hop14⟩ := open_ok hx14
 have hlt14 := isAt_lt hop14
 refine al_nil ?_
 refine aw_seq ?_
 refine aw_region ?_
 refine al_op (op_move rfl) rfl (by simp) ?_
 refine al_call into40 rfl rfl rfl (rd_lift rfl (fun _ => rfl) (hE hd0 v0 (i + 1) (by omega)) _ (by rfl)) (by simp) ?_; rintro _ _ (⟨g16, i16, d16, hx16, rfl, rfl⟩ | ⟨a16, j16, hx16, rfl, rfl⟩)
 ·exact rdk_bad (by rw [partP, hx14]; simp only; rw [innerD_pos hd0, hx16]) rfl
 have hgt16 := innerD_gt (l := l) d _ _ _ (by rw [innerD_pos hd0]; exact hx16)
 have hy16 : innerD l d (i + 1) = .ok a16 j16 := by rw [innerD_pos hd0]; exact hx16
 (refine al_opR (op_alloc 7 info37 rfl rfl) rfl (by simp) ?_; rintro _ _ ⟨ver7, rfl, rfl⟩)
 refine al_op (op_store_ptr info37 rfl rfl rfl rfl rfl rfl (by first | rfl | exact live_one rfl | (repeat (first | exact all_live_nil | refine all_live_clo rfl ?_ | refine all_live_slice rfl ?_ | refine all_live_map rfl ?_ | refine all_live_ptr rfl ?_))) (Nat.le_of_ble_eq_true rfl)) rfl (by simp) ?_
 refine al_nil ?_
 refine aw_seq ?_
 refine aw_seq ?_
 refine aw_region ?_
 refine al_op (op_move rfl) rfl (by simp) ?_
 refine al_op (op_list encBs [sDownto] Tryz.underlying32 info9 rfl rfl (by decide) rfl (by decide) rfl (by first | rfl | (repeat (first | exact parts_nil | refine parts_cons rfl (by repeat (first | exact all_live_nil | refine all_live_clo rfl ?_ | refine all_live_slice rfl ?_ | refine all_live_map rfl ?_ | refine all_live_ptr rfl ?_)) ?_))) rfl rfl rfl rfl) rfl (by simp) ?_
 refine al_callp into90 rfl rfl rfl (e_isA v0 l hl hn j16 (d - 1) (by omega) (by omega) [sDownto] (by decide) rfl rfl) (by simp) ?_
 refine al_nil ?_
 refine aw_cond rfl (fun h1 => ?_) (fun h1 => ?_)
 ·have gh1 := h1
  try simp only [nrm] at h1
  refine aw_seq ?_
  refine aw_region ?_
  refine al_op (op_move rfl) rfl (by simp) ?_
  refine al_op (op_load_ptr Tryz.underlying37 info37 rfl rfl rfl rfl) rfl (by simp) ?_
  refine al_op (op_load_ptr Tryz.underlying37 info37 rfl rfl rfl rfl) rfl (by simp) ?_
  refine al_op (op_move rfl) rfl (by simp) ?_
  refine al_op (op_move rfl) rfl (by simp) ?_
  refine al_call into177 rfl rfl rfl (rd_lift rfl (fun _ => rfl) (e_slice v0 l hl hn j16 d hd (by omega) hd0 hE e a16 (tokAt l i)) _ (by rfl)) (by simp) ?_; rintro _ _ (⟨g25, i25, d25, hx25, rfl, rfl⟩ | ⟨a25, j25, hx25, rfl, rfl⟩)
  ·exact rdk_bad (by rw [partP, hx14]; simp only; rw [hy16]; simp only; rw [if_pos h1]; exact hx25) rfl
  refine al_op (op_store_ptr info37 rfl rfl rfl rfl rfl rfl (by first | rfl | exact live_one rfl | (repeat (first | exact all_live_nil | refine all_live_clo rfl ?_ | refine all_live_slice rfl ?_ | refine all_live_map rfl ?_ | refine all_live_ptr rfl ?_))) (Nat.le_of_ble_eq_true rfl)) rfl (by simp) ?_
  refine al_nil ?_
  refine aw_ret ?_
  refine ⟨_, res_cell rfl Tryz.underlying37 info37 rfl rfl rfl rfl, ?_⟩
  exact rdk_ok a25 j25 (by rw [partP, hx14]; simp only; rw [hy16]; simp only; rw [if_pos h1]; exact hx25) rfl
 ·have gh1 := h1
  try simp only [nrm] at h1
  refine aw_skip ?_
  refine aw_seq ?_
  refine aw_region ?_
  refine al_op (op_move rfl) rfl (by simp) ?_
  refine al_call into93 rfl rfl rfl (rd_lift rfl (fun _ => rfl) (e_shut v0 l hl hn j16 (d - 1) (by omega) (by omega) d (by omega)) _ (by rfl)) (by simp) ?_; rintro _ _ (⟨g27, i27, d27, hx27, rfl, rfl⟩ | ⟨a27, j27, hx27, rfl, rfl⟩)
  ·exact rdk_bad (by rw [partP, hx14]; simp only; rw [hy16]; simp only; rw [h1, if_neg Bool.false_ne_true, hx27]) rfl
  refine al_nil ?_
  refine aw_seq ?_
  refine aw_seq ?_
  refine aw_region ?_
  refine al_op (op_field_ptr Tryz.underlying37 rfl info25 (by decide) rfl rfl rfl) rfl (by simp) ?_
  refine al_op (op_load_ptr Tryz.underlying25 info25 rfl rfl rfl rfl) rfl (by simp) ?_
  refine al_op (op_eql rfl rfl) rfl (by simp) ?_
  refine al_nil ?_
  refine aw_cond rfl (fun h2 => ?_) (fun h2 => ?_)
  ·have gh2 := h2
   try simp only [nrm] at h2
   refine aw_seq ?_
   refine aw_region ?_
   refine al_op (op_field_ptr Tryz.underlying37 rfl info9 (by decide) rfl rfl rfl) rfl (by simp) ?_
   refine al_op (op_load_ptr Tryz.underlying9 info9 rfl rfl rfl rfl) rfl (by simp) ?_
   refine al_op (op_load_ptr Tryz.underlying37 info37 rfl rfl rfl rfl) rfl (by simp) ?_
   refine al_op (op_list encE [a16] Tryz.underlying31 info37 rfl rfl (by decide) rfl (by decide) rfl (by first | rfl | (repeat (first | exact parts_nil | refine parts_cons rfl (by repeat (first | exact all_live_nil | refine all_live_clo rfl ?_ | refine all_live_slice rfl ?_ | refine all_live_map rfl ?_ | refine all_live_ptr rfl ?_)) ?_))) rfl rfl rfl (kids1 _)) rfl (by simp) ?_
   refine al_op (op_field_ptr Tryz.underlying37 rfl info3 (by decide) rfl rfl rfl) rfl (by simp) ?_
   refine al_op (op_load_ptr Tryz.underlying3 info3 rfl rfl rfl rfl) rfl (by simp) ?_
   refine al_op (op_field_ptr Tryz.underlying37 rfl info3 (by decide) rfl rfl rfl) rfl (by simp) ?_
   refine al_op (op_load_ptr Tryz.underlying3 info3 rfl rfl rfl rfl) rfl (by simp) ?_
   refine al_op (val_re (.agg (cellsE (Ex.mk 5 e.name 0 [] va0 [a16] ty0 e.line e.col))) (op_build_struct Tryz.underlying37 info37 rfl place37 rfl (by first | rfl | (repeat (first | exact parts_nil | refine parts_cons rfl (by repeat (first | exact all_live_nil | refine all_live_clo rfl ?_ | refine all_live_slice rfl ?_ | refine all_live_map rfl ?_ | refine all_live_ptr rfl ?_)) ?_))) rfl) (.agg _ _ (by repeat (first | exact reL_nil | refine reL_cons (.same _) ?_ | refine reL_cons (.vnil _) ?_)))) rfl (by simp) ?_
   refine al_op (op_store_ptr info37 rfl rfl rfl rfl rfl rfl (by first | rfl | exact live_one rfl | (repeat (first | exact all_live_nil | refine all_live_clo rfl ?_ | refine all_live_slice rfl ?_ | refine all_live_map rfl ?_ | refine all_live_ptr rfl ?_))) (Nat.le_of_ble_eq_true rfl)) rfl (by simp) ?_
   refine al_nil ?_
   refine aw_ret ?_
   refine ⟨_, res_cell rfl Tryz.underlying37 info37 rfl rfl rfl rfl, ?_⟩
   exact rdk_ok (Ex.mk 5 e.name 0 [] va0 [a16] ty0 e.line e.col) j27 (by rw [partP, hx14]; simp only; rw [hy16]; simp only; rw [h1, if_neg Bool.false_ne_true, hx27]; simp only; rw [partE, gh2]; rfl) rfl
  ·have gh2 := h2
   try simp only [nrm] at h2
   refine aw_skip ?_
   refine aw_seq ?_
   refine aw_region ?_
   refine al_op (op_load_ptr Tryz.underlying37 info37 rfl rfl rfl rfl) rfl (by simp) ?_
   refine al_op (op_load_ptr Tryz.underlying37 info37 rfl rfl rfl rfl) rfl (by simp) ?_
   refine al_op (op_list encE [e, a16] Tryz.underlying31 info37 rfl rfl (by decide) rfl (by decide) rfl (by first | rfl | (repeat (first | exact parts_nil | refine parts_cons rfl (by repeat (first | exact all_live_nil | refine all_live_clo rfl ?_ | refine all_live_slice rfl ?_ | refine all_live_map rfl ?_ | refine all_live_ptr rfl ?_)) ?_))) rfl rfl rfl (kids2 _ _)) rfl (by simp) ?_
   refine al_op (op_move rfl) rfl (by simp) ?_
   refine al_op (op_move rfl) rfl (by simp) ?_
   refine al_op (val_re (.agg (cellsE (mkE 6 [] 0 [] [e, a16] (tokAt l i)))) (op_build_struct Tryz.underlying37 info37 rfl place37 rfl (by first | rfl | (repeat (first | exact parts_nil | refine parts_cons rfl (by repeat (first | exact all_live_nil | refine all_live_clo rfl ?_ | refine all_live_slice rfl ?_ | refine all_live_map rfl ?_ | refine all_live_ptr rfl ?_)) ?_))) rfl) (.agg _ _ (by repeat (first | exact reL_nil | refine reL_cons (.same _) ?_ | refine reL_cons (.vnil _) ?_)))) rfl (by simp) ?_
   refine al_op (op_store_ptr info37 rfl rfl rfl rfl rfl rfl (by first | rfl | exact live_one rfl | (repeat (first | exact all_live_nil | refine all_live_clo rfl ?_ | refine all_live_slice rfl ?_ | refine all_live_map rfl ?_ | refine all_live_ptr rfl ?_))) (Nat.le_of_ble_eq_true rfl)) rfl (by simp) ?_
   refine al_nil ?_
   refine aw_ret ?_
   refine ⟨_, res_cell rfl Tryz.underlying37 info37 rfl rfl rfl rfl, ?_⟩
   exact rdk_ok (mkE 6 [] 0 [] [e, a16] (tokAt l i)) j27 (by rw [partP, hx14]; simp only; rw [hy16]; simp only; rw [h1, if_neg Bool.false_ne_true, hx27]; simp only; rw [partE, gh2]; rfl) rfl
theorem e_parts (v0 : Nat) (l : List Tk) (hl : OKTs l) (hn : l.length ≤ 1000000000) (i d : Nat) (hd : d ≤ 40) (hi : i ≤ l.length) (hE : d ≠ 0 → ∀ v0 i, i ≤ l.length → AC Tryz.prog 40 [.ptr 0 v0 0 0] (rd v0 l i (d - 1) []) (RdK v0 l (d - 1) encX (rowD l (d - 1) 4 i))) (e : Ex) : AC Tryz.prog 82 [.ptr 0 v0 0 0, .agg (cellsE (e))] (rd v0 l i d []) (fun r σ' => RdK v0 l (d) encX (partsP l d (innerD l d) (l.length - i) e i) r σ') := by
 refine ac_enter 12 Tryz.func82 rfl rfl (by simp) ?_
 refine aw_seq ?_
 refine aw_region ?_
 (refine al_opR (op_box 3 rfl rfl (by first | rfl | exact live_one rfl | (repeat (first | exact all_live_nil | refine all_live_clo rfl ?_ | refine all_live_slice rfl ?_ | refine all_live_map rfl ?_ | refine all_live_ptr rfl ?_)))) rfl (by simp) ?_; rintro _ _ ⟨ver3, rfl, rfl⟩)
 (refine al_opR (op_alloc 4 info37 rfl rfl) rfl (by simp) ?_; rintro _ _ ⟨ver4, rfl, rfl⟩)
 refine al_nil ?_
 refine aw_seq ?_
 refine aw_block ?_
 refine aw_for2T (α := Ex) (β := Nat) [] [] (fun e2 j => l.length - j) (fun e2 j => j ≤ l.length ∧ partsP l d (innerD l d) (l.length - j) e2 j = partsP l d (innerD l d) (l.length - i) e i) (fun e2 j => ([] : Env)) (fun e2 j st => ([(0, v0, .row 7 [rdr l j d]), (3, ver3, .row 16 [cellsE e2]), (4, ver4, .row 16 [zeroE])] : Store)) (e) (i) ?_ ?_ ?_ (fun e2 j hinv => ?_)
 ·exact ⟨hi, rfl⟩
 ·exact sub_nil
 ·rfl
 refine aw_seq ?_
 refine aw_seq ?_
 refine aw_region ?_
 refine al_op (op_move rfl) rfl (by simp) ?_
 refine al_op (op_list encBs [sOpen] Tryz.underlying32 info9 rfl rfl (by decide) rfl (by decide) rfl (by first | rfl | (repeat (first | exact parts_nil | refine parts_cons rfl (by repeat (first | exact all_live_nil | refine all_live_clo rfl ?_ | refine all_live_slice rfl ?_ | refine all_live_map rfl ?_ | refine all_live_ptr rfl ?_)) ?_))) rfl rfl rfl rfl) rfl (by simp) ?_
 refine al_callp into90 rfl rfl rfl (e_isA v0 l hl hn j d (by omega) (by omega) [sOpen] (by decide) rfl rfl) (by simp) ?_
 refine al_nil ?_
 refine aw_cond rfl (fun h1 => ?_) (fun h1 => ?_)
 ·have gh1 := h1
  try simp only [nrm] at h1
  refine aw_skip ?_
  refine aw_block ?_
  refine aw_region ?_
  refine al_op (op_move rfl) rfl (by simp) ?_
  refine al_op (op_load_ptr Tryz.underlying37 info37 rfl rfl rfl rfl) rfl (by simp) ?_
  refine al_call into137 rfl rfl rfl (rd_lift rfl (fun _ => rfl) (e_part v0 l hl hn j d hd hinv.1 hE e2) _ (by rfl)) (by simp) ?_; rintro _ _ (⟨g10, i10, d10, hx10, rfl, rfl⟩ | ⟨a10, j10, hx10, rfl, rfl⟩)
  ·exact rdk_bad (by rw [← hinv.2]; exact parts_bad h1 hx10) rfl
  have hgt10 := part_gt (innerD_gt d) _ _ hx10
  refine al_op (op_store_ptr info37 rfl rfl rfl rfl rfl rfl (by first | rfl | exact live_one rfl | (repeat (first | exact all_live_nil | refine all_live_clo rfl ?_ | refine all_live_slice rfl ?_ | refine all_live_map rfl ?_ | refine all_live_ptr rfl ?_))) (Nat.le_of_ble_eq_true rfl)) rfl (by simp) ?_
  refine al_nil ?_
  refine ⟨a10, j10, ?_, ?_, ?_, ?_, ?_⟩
  ·have := isAt_lt h1; omega
  ·exact ⟨by omega, (parts_step (innerD_gt d) h1 hx10).trans hinv.2⟩
  ·exact sub_nil
  ·repeat (first | exact subx_refl | exact subx_del | refine subx_put rfl ?_)
  ·rfl
 ·have gh1 := h1
  try simp only [nrm] at h1
  refine aw_exit ?_
  refine aw_seq ?_
  refine aw_region ?_
  refine al_op (op_load_ptr Tryz.underlying37 info37 rfl rfl rfl rfl) rfl (by simp) ?_
  refine al_op (op_store_ptr info37 rfl rfl rfl rfl rfl rfl (by first | rfl | exact live_one rfl | (repeat (first | exact all_live_nil | refine all_live_clo rfl ?_ | refine all_live_slice rfl ?_ | refine all_live_map rfl ?_ | refine all_live_ptr rfl ?_))) (Nat.le_of_ble_eq_true rfl)) rfl (by simp) ?_
  refine al_nil ?_
  refine aw_ret ?_
  refine ⟨_, res_cell rfl Tryz.underlying37 info37 rfl rfl rfl rfl, ?_⟩
  exact rdk_ok e2 j (by rw [← hinv.2]; exact parts_stop h1) rfl
end Go.Proofs.YtcgdlhkiecommaaGreatDoor

/- Printed walks (gen.py, lexer_ann.py): part 404. -/


set_option linter.unusedVariables false
set_option linter.unusedSimpArgs false
set_option maxRecDepth 20000
set_option maxHeartbeats 40000000
namespace Go.Proofs.YtcgdlhkiecommaaGreatDoor
open Go
theorem e_namedF (v0 : Nat) (l : List Tk) (hl : OKTs l) (hn : l.length ≤ 1000000000) (i d : Nat) (hd : d ≤ 40) (hi : i ≤ l.length) (hE : d ≠ 0 → ∀ v0 i, i ≤ l.length → AC Tryz.prog 40 [.ptr 0 v0 0 0] (rd v0 l i (d - 1) []) (RdK v0 l (d - 1) encX (rowD l (d - 1) 4 i)))  : AC Tryz.prog 196 [.ptr 0 v0 0 0] (rd v0 l i d []) (fun r σ' => RdF v0 l d (namedP l d (innerD l d) i) r σ') := by
 refine ac_enter 70 Tryz.func196 rfl rfl (by simp) ?_
 refine aw_seq ?_
 refine aw_region ?_
 (refine al_opR (op_alloc 2 info37 rfl rfl) rfl (by simp) ?_; rintro _ _ ⟨ver2, rfl, rfl⟩)
 refine al_nil ?_
 refine aw_seq ?_
 refine aw_region ?_
 refine al_op (op_move rfl) rfl (by simp) ?_
 refine al_call into81 rfl rfl rfl (rd_lift rfl (fun _ => rfl) (e_kind v0 l hl hn i d hd hi 1 (by decide)) _ (by rfl)) (by simp) ?_; rintro _ _ (⟨g9, i9, d9, hx9, rfl, rfl⟩ | ⟨a9, j9, hx9, rfl, rfl⟩)
 ·exact rdf_bad (by obtain ⟨g, rfl⟩ := kind_bad hx9; rw [namedP, g]; rfl) rfl
 obtain ⟨rfl, rfl, hop9⟩ := kind_ok hx9
 have hlt9 := op_lt (l := l) (i := i) (k := 1) (by simpa using hop9) (by decide)
 (refine al_opR (op_alloc 3 info65 rfl rfl) rfl (by simp) ?_; rintro _ _ ⟨ver3, rfl, rfl⟩)
 refine al_op (op_store_ptr info65 rfl rfl rfl rfl rfl rfl (by first | rfl | exact live_one rfl | (repeat (first | exact all_live_nil | refine all_live_clo rfl ?_ | refine all_live_slice rfl ?_ | refine all_live_map rfl ?_ | refine all_live_ptr rfl ?_))) (Nat.le_of_ble_eq_true rfl)) rfl (by simp) ?_
 refine al_nil ?_
 refine aw_seq ?_
 refine aw_region ?_
 refine al_op (op_field_ptr Tryz.underlying65 rfl info9 (by decide) rfl rfl rfl) rfl (by simp) ?_
 refine al_op (op_load_ptr Tryz.underlying9 info9 rfl rfl rfl rfl) rfl (by simp) ?_
 refine al_op (op_field_ptr Tryz.underlying65 rfl info3 (by decide) rfl rfl rfl) rfl (by simp) ?_
 refine al_op (op_load_ptr Tryz.underlying3 info3 rfl rfl rfl rfl) rfl (by simp) ?_
 refine al_op (op_field_ptr Tryz.underlying65 rfl info3 (by decide) rfl rfl rfl) rfl (by simp) ?_
 refine al_op (op_load_ptr Tryz.underlying3 info3 rfl rfl rfl rfl) rfl (by simp) ?_
 refine al_op (val_re (.agg (cellsE (mkE 4 (tokAt l i).text 0 [] [] (tokAt l i)))) (op_build_struct Tryz.underlying37 info37 rfl place37 rfl (by first | rfl | (repeat (first | exact parts_nil | refine parts_cons rfl (by repeat (first | exact all_live_nil | refine all_live_clo rfl ?_ | refine all_live_slice rfl ?_ | refine all_live_map rfl ?_ | refine all_live_ptr rfl ?_)) ?_))) rfl) (.agg _ _ (by repeat (first | exact reL_nil | refine reL_cons (.same _) ?_ | refine reL_cons (.vnil _) ?_)))) rfl (by simp) ?_
 (refine al_opR (op_alloc 4 info37 rfl rfl) rfl (by simp) ?_; rintro _ _ ⟨ver4, rfl, rfl⟩)
 refine al_op (op_store_ptr info37 rfl rfl rfl rfl rfl rfl (by first | rfl | exact live_one rfl | (repeat (first | exact all_live_nil | refine all_live_clo rfl ?_ | refine all_live_slice rfl ?_ | refine all_live_map rfl ?_ | refine all_live_ptr rfl ?_))) (Nat.le_of_ble_eq_true rfl)) rfl (by simp) ?_
 refine al_nil ?_
 refine aw_seq ?_
 refine aw_seq ?_
 refine aw_region ?_
 refine al_op (op_move rfl) rfl (by simp) ?_
 refine al_op (op_list encBs [sOpen] Tryz.underlying32 info9 rfl rfl (by decide) rfl (by decide) rfl (by first | rfl | (repeat (first | exact parts_nil | refine parts_cons rfl (by repeat (first | exact all_live_nil | refine all_live_clo rfl ?_ | refine all_live_slice rfl ?_ | refine all_live_map rfl ?_ | refine all_live_ptr rfl ?_)) ?_))) rfl rfl rfl rfl) rfl (by simp) ?_
 refine al_callp into90 rfl rfl rfl (e_isA v0 l hl hn (i + 1) d (by omega) (by omega) [sOpen] (by decide) rfl rfl) (by simp) ?_
 refine al_op (op_not rfl) rfl (by simp) ?_
 refine al_nil ?_
 refine aw_cond rfl (fun h1 => ?_) (fun h1 => ?_)
 ·have gh1 := h1
  try simp only [nrm] at h1
  refine aw_seq ?_
  refine aw_region ?_
  refine al_op (op_load_ptr Tryz.underlying37 info37 rfl rfl rfl rfl) rfl (by simp) ?_
  refine al_op (op_store_ptr info37 rfl rfl rfl rfl rfl rfl (by first | rfl | exact live_one rfl | (repeat (first | exact all_live_nil | refine all_live_clo rfl ?_ | refine all_live_slice rfl ?_ | refine all_live_map rfl ?_ | refine all_live_ptr rfl ?_))) (Nat.le_of_ble_eq_true rfl)) rfl (by simp) ?_
  refine al_nil ?_
  refine aw_ret ?_
  refine ⟨_, res_cell rfl Tryz.underlying37 info37 rfl rfl rfl rfl, ?_⟩
  exact rdf_ok (mkE 4 (tokAt l i).text 0 [] [] (tokAt l i)) (i + 1) (by rw [namedP, if_pos hop9]; rw [show isAt l [sOpen] (i + 1) = false by simpa using gh1]; rfl) (.one _ _ (.leaf _ _ (.same _))) rfl
 ·have gh1 := h1
  try simp only [nrm] at h1
  refine aw_skip ?_
  refine aw_seq ?_
  refine aw_region ?_
  refine al_op (op_move rfl) rfl (by simp) ?_
  refine al_callp into89 rfl rfl rfl (e_hereA v0 l hl hn (i + 1) d (by omega) (by omega)  rfl rfl) (by simp) ?_
  refine al_op (op_move rfl) rfl (by simp) ?_
  refine al_op (op_extract rfl rfl rfl) rfl (by simp) ?_
  refine al_op (op_extract rfl rfl rfl) rfl (by simp) ?_
  refine al_op (op_assign rfl) rfl (by simp) ?_
  refine al_op (op_assign rfl) rfl (by simp) ?_
  refine al_nil ?_
  refine aw_seq ?_
  refine aw_region ?_
  refine al_op (op_move rfl) rfl (by simp) ?_
  have hb : isAt l [sOpen] (i + 1) = true := by simpa using gh1
  refine al_call into92 rfl rfl rfl (rd_lift rfl (fun _ => rfl) (e_open v0 l hl hn (i + 1) d hd (by omega)) _ (by rfl)) (by simp) ?_; rintro _ _ (⟨g28, i28, d28, hx28, rfl, rfl⟩ | ⟨a28, j28, hx28, rfl, rfl⟩)
  ·exact rdf_bad (by rw [namedP, if_pos hop9]; rw [if_pos hb]; rw [hx28]) rfl
  obtain ⟨hd0, rfl, hop28⟩ := open_ok hx28
  have hlt28 := isAt_lt hop28
  refine al_nil ?_
  refine aw_seq ?_
  refine aw_region ?_
  refine al_op (op_move rfl) rfl (by simp) ?_
  refine al_call into40 rfl rfl rfl (rd_lift rfl (fun _ => rfl) (hE hd0 v0 (i + 1 + 1) (by omega)) _ (by rfl)) (by simp) ?_; rintro _ _ (⟨g30, i30, d30, hx30, rfl, rfl⟩ | ⟨a30, j30, hx30, rfl, rfl⟩)
  ·exact rdf_bad (by rw [namedP, if_pos hop9]; rw [if_pos hb]; rw [hx28]; simp only; rw [innerD_pos hd0, hx30]) rfl
  have hgt30 := innerD_gt (l := l) d _ _ _ (by rw [innerD_pos hd0]; exact hx30)
  have hy30 : innerD l d (i + 1 + 1) = .ok a30 j30 := by rw [innerD_pos hd0]; exact hx30
  (refine al_opR (op_alloc 7 info37 rfl rfl) rfl (by simp) ?_; rintro _ _ ⟨ver7, rfl, rfl⟩)
  refine al_op (op_store_ptr info37 rfl rfl rfl rfl rfl rfl (by first | rfl | exact live_one rfl | (repeat (first | exact all_live_nil | refine all_live_clo rfl ?_ | refine all_live_slice rfl ?_ | refine all_live_map rfl ?_ | refine all_live_ptr rfl ?_))) (Nat.le_of_ble_eq_true rfl)) rfl (by simp) ?_
  refine al_nil ?_
  refine aw_seq ?_
  refine aw_seq ?_
  refine aw_region ?_
  refine al_op (op_move rfl) rfl (by simp) ?_
  refine al_op (op_list encBs [sDownto] Tryz.underlying32 info9 rfl rfl (by decide) rfl (by decide) rfl (by first | rfl | (repeat (first | exact parts_nil | refine parts_cons rfl (by repeat (first | exact all_live_nil | refine all_live_clo rfl ?_ | refine all_live_slice rfl ?_ | refine all_live_map rfl ?_ | refine all_live_ptr rfl ?_)) ?_))) rfl rfl rfl rfl) rfl (by simp) ?_
  refine al_callp into90 rfl rfl rfl (e_isA v0 l hl hn j30 (d - 1) (by omega) (by omega) [sDownto] (by decide) rfl rfl) (by simp) ?_
  refine al_nil ?_
  refine aw_cond rfl (fun h2 => ?_) (fun h2 => ?_)
  ·have gh2 := h2
   try simp only [nrm] at h2
   refine aw_seq ?_
   refine aw_region ?_
   refine al_op (op_move rfl) rfl (by simp) ?_
   refine al_op (op_load_ptr Tryz.underlying37 info37 rfl rfl rfl rfl) rfl (by simp) ?_
   refine al_op (op_load_ptr Tryz.underlying37 info37 rfl rfl rfl rfl) rfl (by simp) ?_
   refine al_op (op_move rfl) rfl (by simp) ?_
   refine al_op (op_move rfl) rfl (by simp) ?_
   refine al_call into177 rfl rfl rfl (rd_lift rfl (fun _ => rfl) (e_slice v0 l hl hn j30 d hd (by omega) hd0 hE (mkE 4 (tokAt l i).text 0 [] [] (tokAt l i)) a30 (tokAt l (i + 1))) _ (by rfl)) (by simp) ?_; rintro _ _ (⟨g39, i39, d39, hx39, rfl, rfl⟩ | ⟨a39, j39, hx39, rfl, rfl⟩)
   ·exact rdf_bad (by rw [namedP, if_pos hop9]; rw [if_pos hb]; rw [hx28]; simp only; rw [hy30]; simp only; rw [if_pos h2]; exact hx39) rfl
   refine al_op (op_store_ptr info37 rfl rfl rfl rfl rfl rfl (by first | rfl | exact live_one rfl | (repeat (first | exact all_live_nil | refine all_live_clo rfl ?_ | refine all_live_slice rfl ?_ | refine all_live_map rfl ?_ | refine all_live_ptr rfl ?_))) (Nat.le_of_ble_eq_true rfl)) rfl (by simp) ?_
   refine al_nil ?_
   refine aw_ret ?_
   refine ⟨_, res_cell rfl Tryz.underlying37 info37 rfl rfl rfl rfl, ?_⟩
   exact rdf_ok a39 j39 (by rw [namedP, if_pos hop9]; rw [if_pos hb]; rw [hx28]; simp only; rw [hy30]; simp only; rw [if_pos h2]; exact hx39) (.one _ _ (.leaf _ _ (.same _))) rfl
  ·have gh2 := h2
   try simp only [nrm] at h2
   refine aw_skip ?_
   refine aw_seq ?_
   refine aw_plan [0, 2, 1, 3, 4, 5] (Checked.mixed Tryz.checked) (by kernel_rfl) ?_
   refine afl_float rfl rfl (opk_of (op_load_ptr Tryz.underlying37 info37 rfl rfl rfl rfl)) (by simp) ?_
   refine afl_float rfl rfl (opk_of (op_field_ptr Tryz.underlying37 rfl info25 (by decide) rfl rfl rfl)) (by simp) ?_
   refine afl_two 3 [1, 4, 5] rfl rfl rfl rfl (by kernel_rfl) (by kernel_rfl) (by simp) (by simp) (next_opR (op_list_own encE [a30] 41 Tryz.underlying31 info37 rfl rfl (by decide) rfl (by decide) rfl (by first | rfl | (repeat (first | exact parts_nil | refine parts_cons rfl (by repeat (first | exact all_live_nil | refine all_live_clo rfl ?_ | refine all_live_slice rfl ?_ | refine all_live_map rfl ?_ | refine all_live_ptr rfl ?_)) ?_))) rfl rfl (by first | rfl | (repeat (first | exact parts_nil | refine parts_cons rfl (by repeat (first | exact all_live_nil | refine all_live_clo rfl ?_ | refine all_live_slice rfl ?_ | refine all_live_map rfl ?_ | refine all_live_ptr rfl ?_)) ?_))) (kids1 _) rfl) ?_) (next_opR (opR_of (op_store_ptr info25 rfl rfl rfl rfl rfl rfl (by first | rfl | exact live_one rfl | (repeat (first | exact all_live_nil | refine all_live_clo rfl ?_ | refine all_live_slice rfl ?_ | refine all_live_map rfl ?_ | refine all_live_ptr rfl ?_))) (Nat.le_of_ble_eq_true rfl))) ?_)
   ·rintro _ _ ⟨ver41, rfl, rfl⟩; refine ⟨?_, ?_⟩
    ·
     refine loose_k rfl (opk_of (op_field_ptr Tryz.underlying37 rfl info25 (by decide) rfl rfl rfl)) ?_
     refine loose_anc 0 rfl (by kernel_rfl) ?_
     exact loose_nil
    (refine afl_eff rfl rfl (by kernel_rfl) (op_store_ptr info25 rfl rfl rfl rfl rfl rfl (by first | rfl | exact live_one rfl | (repeat (first | exact all_live_nil | refine all_live_clo rfl ?_ | refine all_live_slice rfl ?_ | refine all_live_map rfl ?_ | refine all_live_ptr rfl ?_))) (Nat.le_of_ble_eq_true rfl)) (by simp) ?_ ?_)
    ·
     refine loose_fix rfl ?_
     refine loose_anc 2 rfl (by kernel_rfl) ?_
     refine loose_k rfl (opk_of (op_load_ptr Tryz.underlying37 info37 rfl rfl rfl rfl)) ?_
     exact loose_nil
    refine afl_float rfl rfl (opk_of (op_field_ptr Tryz.underlying37 rfl info31 (by decide) rfl rfl rfl)) (by simp) ?_
    (refine afl_eff rfl rfl (by kernel_rfl) (op_store_ptr info31 rfl rfl rfl rfl rfl rfl (by first | rfl | exact live_one rfl | (repeat (first | exact all_live_nil | refine all_live_clo rfl ?_ | refine all_live_slice rfl ?_ | refine all_live_map rfl ?_ | refine all_live_ptr rfl ?_))) (Nat.le_of_ble_eq_true rfl)) (by simp) ?_ ?_)
    ·
     refine loose_anc 4 rfl (by kernel_rfl) ?_
     refine loose_fix rfl ?_
     refine loose_fix rfl ?_
     refine loose_anc 2 rfl (by kernel_rfl) ?_
     refine loose_anc 0 rfl (by kernel_rfl) ?_
     exact loose_nil
    refine afl_end ?_
    refine aw_seq ?_
    refine aw_block ?_
    refine aw_for3T (α := List Ex) (β := Nat) (γ := Nat) [] [] (fun kids j ver => l.length - j) (fun kids j ver => j ≤ l.length ∧ kids.length ≤ 20 ∧ argsP l (innerD l d) (20 - kids.length) kids j = argsP l (innerD l d) 19 [a30] j30) (fun kids j ver => ([] : Env)) (fun kids j ver st => ([(0, v0, .row 7 [rdr l j (d - 1)]), (2, ver2, .row 16 [zeroE]), (3, ver3, .row 5 [encK (tokAt l i)]), (4, ver4, .row 16 [[.v (.int .i64 5), .v (.string (str (tokAt l i).text)), .v (.int .i64 0), .list 1 [], .v (.int .i64 0), .v (.int .i64 0), .list 1 [], .list 4 [], .slice 41 ver 0 (kids).length, .v (.int .i64 0), .v (.int .i64 0), .v (.string (str [])), .list 1 [], .list 5 [], .v (.int .i64 (tokAt l i).line), .v (.int .i64 (tokAt l i).col)]]), (7, ver7, .row 16 [cellsE a30]), (41, ver, .row 16 (kids.map encE))] : Store)) ([a30]) (j30) (ver41) ?_ ?_ ?_ (fun kids j ver hinv => ?_)
    ·exact ⟨by omega, by simp, rfl⟩
    ·exact sub_nil
    ·rfl
    refine aw_seq ?_
    refine aw_seq ?_
    refine aw_region ?_
    refine al_op (op_move rfl) rfl (by simp) ?_
    refine al_op (op_list encBs [sComma] Tryz.underlying32 info9 rfl rfl (by decide) rfl (by decide) rfl (by first | rfl | (repeat (first | exact parts_nil | refine parts_cons rfl (by repeat (first | exact all_live_nil | refine all_live_clo rfl ?_ | refine all_live_slice rfl ?_ | refine all_live_map rfl ?_ | refine all_live_ptr rfl ?_)) ?_))) rfl rfl rfl rfl) rfl (by simp) ?_
    refine al_callp into90 rfl rfl rfl (e_isA v0 l hl hn j (d - 1) (by omega) (by omega) [sComma] (by decide) rfl rfl) (by simp) ?_
    refine al_nil ?_
    refine aw_cond rfl (fun h3 => ?_) (fun h3 => ?_)
    ·have gh3 := h3
     try simp only [nrm] at h3
     refine aw_skip ?_
     refine aw_block ?_
     refine aw_seq ?_
     refine aw_seq ?_
     refine aw_region ?_
     refine al_op (op_field_ptr Tryz.underlying37 rfl info31 (by decide) rfl rfl rfl) rfl (by simp) ?_
     refine al_op (op_load_ptr Tryz.underlying31 info31 rfl rfl rfl rfl) rfl (by simp) ?_
     refine al_op (op_len_slice Tryz.underlying31 rfl rfl) rfl (by simp) ?_
     refine al_op (op_eql rfl rfl) rfl (by simp) ?_
     refine al_nil ?_
     refine aw_cond rfl (fun h4 => ?_) (fun h4 => ?_)
     ·have gh4 := h4
      try simp only [nrm] at h4
      refine aw_region ?_
      refine al_op (op_move rfl) rfl (by simp) ?_
      refine al_call into96 rfl rfl rfl (rd_lift rfl (fun _ => rfl) (e_fail v0 l hl hn j (d - 1) (by omega) hinv.1 11) _ (by rfl)) (by simp) ?_; rintro _ _ (⟨g52, i52, d52, ⟨⟩, rfl, rfl⟩ | ⟨_, _, ⟨⟩, _⟩)
      exact rdf_bad (by rw [namedP, if_pos hop9]; rw [if_pos hb]; rw [hx28]; simp only; rw [hy30]; simp only; rw [h2, if_neg Bool.false_ne_true]; rw [← hinv.2.2, args_full h3 (by omega)]) rfl
     ·have gh4 := h4
      try simp only [nrm] at h4
      refine aw_skip ?_
      refine aw_seq ?_
      have hltj := isAt_lt h3
      have hk20 : kids.length < 20 := by omega
      refine aw_region ?_
      refine al_op (op_move rfl) rfl (by simp) ?_
      refine al_op (op_nilCheck_ptr rfl rfl) rfl (by simp) ?_
      refine al_op (op_field_ptr Tryz.underlying105 rfl info3 (by decide) rfl rfl rfl) rfl (by simp) ?_
      refine al_op (op_load_ptr Tryz.underlying3 info3 rfl rfl rfl rfl) rfl (by simp) ?_
      refine al_op (op_add rfl rfl (by first | exact wrap_i64 (by omega) (by omega))) rfl (by simp) ?_
      refine al_op (op_nilCheck_ptr rfl rfl) rfl (by simp) ?_
      refine al_op (op_field_ptr Tryz.underlying105 rfl info3 (by decide) rfl rfl rfl) rfl (by simp) ?_
      refine al_op (op_store_ptr info3 rfl rfl rfl rfl rfl rfl (by first | rfl | exact live_one rfl | (repeat (first | exact all_live_nil | refine all_live_clo rfl ?_ | refine all_live_slice rfl ?_ | refine all_live_map rfl ?_ | refine all_live_ptr rfl ?_))) (Nat.le_of_ble_eq_true rfl)) rfl (by simp) ?_
      refine al_nil ?_
      refine aw_plan [0, 1, 2, 3, 4, 5, 6, 7] (Checked.mixed Tryz.checked) (by kernel_rfl) ?_
      refine afl_float rfl rfl (opk_of (op_field_ptr Tryz.underlying37 rfl info31 (by decide) rfl rfl rfl)) (by simp) ?_
      refine afl_float rfl rfl (opk_of (op_load_ptr Tryz.underlying31 info31 rfl rfl rfl rfl)) (by simp) ?_
      refine afl_float rfl rfl (opk_of (op_move rfl)) (by simp) ?_
      refine afl_callP rfl (by kernel_rfl) into40 rfl rfl rfl (rd_lift rfl (fun _ => rfl) (hE hd0 v0 (j + 1) (by omega)) _ (by rfl)) (by simp) ?_; rintro _ _ (⟨g63, i63, d63, hx63, rfl, rfl⟩ | ⟨a63, j63, hx63, rfl, rfl⟩)
      ·exact rdf_bad (by rw [namedP, if_pos hop9]; rw [if_pos hb]; rw [hx28]; simp only; rw [hy30]; simp only; rw [h2, if_neg Bool.false_ne_true]; rw [← hinv.2.2, args_bad h3 (by omega) (g := g63) (by rw [innerD_pos hd0]; exact hx63)]) rfl
      have hgt63 := innerD_gt (l := l) d _ _ _ (by rw [innerD_pos hd0]; exact hx63)
      have hy63 : innerD l d (j + 1) = .ok a63 j63 := by rw [innerD_pos hd0]; exact hx63
      refine ⟨?_, ?_⟩
      ·
       refine loose_anc 2 rfl (by kernel_rfl) ?_
       refine loose_k rfl (opk_of (op_load_ptr Tryz.underlying31 info31 rfl rfl rfl rfl)) ?_
       refine loose_k rfl (opk_of (op_field_ptr Tryz.underlying37 rfl info31 (by decide) rfl rfl rfl)) ?_
       exact loose_nil
      refine afl_float rfl rfl (opk_of (op_list encE [a63] Tryz.underlying31 info37 rfl rfl (by decide) rfl (by decide) rfl (by first | rfl | (repeat (first | exact parts_nil | refine parts_cons rfl (by repeat (first | exact all_live_nil | refine all_live_clo rfl ?_ | refine all_live_slice rfl ?_ | refine all_live_map rfl ?_ | refine all_live_ptr rfl ?_)) ?_))) rfl rfl rfl (kids1 _))) (by simp) ?_
      (refine afl_effR rfl rfl (by kernel_rfl) (op_append_one a63 Tryz.underlying31 Tryz.underlying31 rfl info37 rfl rfl (by decide) rfl rfl rfl (by first | rfl | simp) rfl rfl (by first | omega | (simp; done) | (simp; omega)) (by show _ * 240 ≤ _; first | omega | (simp; done) | (simp; omega))) (by simp) ?_; rintro _ _ ⟨ver65, rfl, rfl⟩; refine ⟨?_, ?_⟩)
      ·
       refine loose_anc 4 rfl (by kernel_rfl) ?_
       refine loose_fix rfl ?_
       refine loose_anc 2 rfl (by kernel_rfl) ?_
       refine loose_anc 1 rfl (by kernel_rfl) ?_
       refine loose_anc 0 rfl (by kernel_rfl) ?_
       exact loose_nil
      refine afl_float rfl rfl (opk_of (op_field_ptr Tryz.underlying37 rfl info31 (by decide) rfl rfl rfl)) (by simp) ?_
      (refine afl_eff rfl rfl (by kernel_rfl) (op_store_ptr info31 rfl rfl rfl rfl rfl rfl (by first | rfl | exact live_one rfl | (repeat (first | exact all_live_nil | refine all_live_clo rfl ?_ | refine all_live_slice rfl ?_ | refine all_live_map rfl ?_ | refine all_live_ptr rfl ?_))) (Nat.le_of_ble_eq_true rfl)) (by simp) ?_ ?_)
      ·
       refine loose_anc 6 rfl (by kernel_rfl) ?_
       refine loose_fix rfl ?_
       refine loose_anc 4 rfl (by kernel_rfl) ?_
       refine loose_fix rfl ?_
       refine loose_anc 2 rfl (by kernel_rfl) ?_
       refine loose_anc 1 rfl (by kernel_rfl) ?_
       refine loose_anc 0 rfl (by kernel_rfl) ?_
       exact loose_nil
      refine afl_end ?_
      refine ⟨kids ++ [a63], j63, ver65, ?_, ?_, ?_, ?_, ?_⟩
      ·omega
      ·exact ⟨by omega, by simp; omega, (args_step h3 hk20 hy63).trans hinv.2.2⟩
      ·exact sub_nil
      ·repeat (first | exact subx_refl | exact subx_del | refine subx_put rfl ?_)
      ·rfl
    ·have gh3 := h3
     try simp only [nrm] at h3
     refine aw_exit ?_
     refine aw_seq ?_
     refine aw_region ?_
     refine al_op (op_move rfl) rfl (by simp) ?_
     refine al_call into93 rfl rfl rfl (rd_lift rfl (fun _ => rfl) (e_shut v0 l hl hn j (d - 1) (by omega) hinv.1 d (by omega)) _ (by rfl)) (by simp) ?_; rintro _ _ (⟨g68, i68, d68, hx68, rfl, rfl⟩ | ⟨a68, j68, hx68, rfl, rfl⟩)
     ·exact rdf_bad (by rw [namedP, if_pos hop9]; rw [if_pos hb]; rw [hx28]; simp only; rw [hy30]; simp only; rw [h2, if_neg Bool.false_ne_true]; rw [← hinv.2.2, args_stop h3]; simp only; rw [hx68]) rfl
     refine al_nil ?_
     refine aw_seq ?_
     refine aw_region ?_
     refine al_op (op_load_ptr Tryz.underlying37 info37 rfl rfl rfl rfl) rfl (by simp) ?_
     refine al_op (op_store_ptr info37 rfl rfl rfl rfl rfl rfl (by first | rfl | exact live_one rfl | (repeat (first | exact all_live_nil | refine all_live_clo rfl ?_ | refine all_live_slice rfl ?_ | refine all_live_map rfl ?_ | refine all_live_ptr rfl ?_))) (Nat.le_of_ble_eq_true rfl)) rfl (by simp) ?_
     refine al_nil ?_
     refine aw_ret ?_
     refine ⟨_, res_cell rfl Tryz.underlying37 info37 rfl rfl rfl rfl, ?_⟩
     exact rdf_ok (mkE 5 (tokAt l i).text 0 [] kids (tokAt l i)) j68 (by rw [namedP, if_pos hop9]; rw [if_pos hb]; rw [hx28]; simp only; rw [hy30]; simp only; rw [h2, if_neg Bool.false_ne_true]; rw [← hinv.2.2, args_stop h3]; simp only; rw [hx68]) (.one _ _ (.agg _ _ (by repeat (first | exact frz2_nil | refine frz2_cons (.same _) ?_ | refine frz2_cons (frz_whole rfl rfl (by first | exact (List.length_map _).symm | rfl | (simp; done)) (clo_map encE_clo)) ?_)))) rfl
   ·rintro _ _ ⟨rfl, rfl⟩; refine ⟨?_, ?_⟩
    ·
     refine loose_anc 2 rfl (by kernel_rfl) ?_
     refine loose_k rfl (opk_of (op_load_ptr Tryz.underlying37 info37 rfl rfl rfl rfl)) ?_
     exact loose_nil
    (refine afl_effR rfl rfl (by kernel_rfl) (op_list_own encE [a30] 41 Tryz.underlying31 info37 rfl rfl (by decide) rfl (by decide) rfl (by first | rfl | (repeat (first | exact parts_nil | refine parts_cons rfl (by repeat (first | exact all_live_nil | refine all_live_clo rfl ?_ | refine all_live_slice rfl ?_ | refine all_live_map rfl ?_ | refine all_live_ptr rfl ?_)) ?_))) rfl rfl (by first | rfl | (repeat (first | exact parts_nil | refine parts_cons rfl (by repeat (first | exact all_live_nil | refine all_live_clo rfl ?_ | refine all_live_slice rfl ?_ | refine all_live_map rfl ?_ | refine all_live_ptr rfl ?_)) ?_))) (kids1 _) rfl) (by simp) ?_; rintro _ _ ⟨ver41, rfl, rfl⟩; refine ⟨?_, ?_⟩)
    ·
     refine loose_fix rfl ?_
     refine loose_k rfl (opk_of (op_field_ptr Tryz.underlying37 rfl info25 (by decide) rfl rfl rfl)) ?_
     refine loose_anc 0 rfl (by kernel_rfl) ?_
     exact loose_nil
    refine afl_float rfl rfl (opk_of (op_field_ptr Tryz.underlying37 rfl info31 (by decide) rfl rfl rfl)) (by simp) ?_
    (refine afl_eff rfl rfl (by kernel_rfl) (op_store_ptr info31 rfl rfl rfl rfl rfl rfl (by first | rfl | exact live_one rfl | (repeat (first | exact all_live_nil | refine all_live_clo rfl ?_ | refine all_live_slice rfl ?_ | refine all_live_map rfl ?_ | refine all_live_ptr rfl ?_))) (Nat.le_of_ble_eq_true rfl)) (by simp) ?_ ?_)
    ·
     refine loose_anc 4 rfl (by kernel_rfl) ?_
     refine loose_fix rfl ?_
     refine loose_fix rfl ?_
     refine loose_anc 2 rfl (by kernel_rfl) ?_
     refine loose_anc 0 rfl (by kernel_rfl) ?_
     exact loose_nil
    refine afl_end ?_
    refine aw_seq ?_
    refine aw_block ?_
    refine aw_for3T (α := List Ex) (β := Nat) (γ := Nat) [44, 45, 46, 47, 48, 49, 50, 51, 52, 53, 54, 55, 56, 57, 58, 59, 60, 61, 62, 63, 64, 65, 66] [] (fun kids j ver => l.length - j) (fun kids j ver => j ≤ l.length ∧ kids.length ≤ 20 ∧ argsP l (innerD l d) (20 - kids.length) kids j = argsP l (innerD l d) 19 [a30] j30) (fun kids j ver => ([] : Env)) (fun kids j ver st => ([(0, v0, .row 7 [rdr l j (d - 1)]), (2, ver2, .row 16 [zeroE]), (3, ver3, .row 5 [encK (tokAt l i)]), (4, ver4, .row 16 [[.v (.int .i64 5), .v (.string (str (tokAt l i).text)), .v (.int .i64 0), .list 1 [], .v (.int .i64 0), .v (.int .i64 0), .list 1 [], .list 4 [], .slice 41 ver 0 (kids).length, .v (.int .i64 0), .v (.int .i64 0), .v (.string (str [])), .list 1 [], .list 5 [], .v (.int .i64 (tokAt l i).line), .v (.int .i64 (tokAt l i).col)]]), (7, ver7, .row 16 [cellsE a30]), (41, ver, .row 16 (kids.map encE))] : Store)) ([a30]) (j30) (ver41) ?_ ?_ ?_ (fun kids j ver hinv => ?_)
    ·exact ⟨by omega, by simp, rfl⟩
    ·exact sub_nil
    ·rfl
    refine aw_seq ?_
    refine aw_seq ?_
    refine aw_region ?_
    refine al_op (op_move rfl) rfl (by simp) ?_
    refine al_op (op_list encBs [sComma] Tryz.underlying32 info9 rfl rfl (by decide) rfl (by decide) rfl (by first | rfl | (repeat (first | exact parts_nil | refine parts_cons rfl (by repeat (first | exact all_live_nil | refine all_live_clo rfl ?_ | refine all_live_slice rfl ?_ | refine all_live_map rfl ?_ | refine all_live_ptr rfl ?_)) ?_))) rfl rfl rfl rfl) rfl (by simp) ?_
    refine al_callp into90 rfl rfl rfl (e_isA v0 l hl hn j (d - 1) (by omega) (by omega) [sComma] (by decide) rfl rfl) (by simp) ?_
    refine al_nil ?_
    refine aw_cond rfl (fun h5 => ?_) (fun h5 => ?_)
    ·have gh5 := h5
     try simp only [nrm] at h5
     have h3 := h5
     refine aw_skip ?_
     refine aw_block ?_
     refine aw_seq ?_
     refine aw_seq ?_
     refine aw_region ?_
     refine al_op (op_field_ptr Tryz.underlying37 rfl info31 (by decide) rfl rfl rfl) rfl (by simp) ?_
     refine al_op (op_load_ptr Tryz.underlying31 info31 rfl rfl rfl rfl) rfl (by simp) ?_
     refine al_op (op_len_slice Tryz.underlying31 rfl rfl) rfl (by simp) ?_
     refine al_op (op_eql rfl rfl) rfl (by simp) ?_
     refine al_nil ?_
     refine aw_cond rfl (fun h6 => ?_) (fun h6 => ?_)
     ·have gh6 := h6
      try simp only [nrm] at h6
      have h4 := h6
      refine aw_region ?_
      refine al_op (op_move rfl) rfl (by simp) ?_
      refine al_call into96 rfl rfl rfl (rd_lift rfl (fun _ => rfl) (e_fail v0 l hl hn j (d - 1) (by omega) hinv.1 11) _ (by rfl)) (by simp) ?_; rintro _ _ (⟨g52, i52, d52, ⟨⟩, rfl, rfl⟩ | ⟨_, _, ⟨⟩, _⟩)
      exact rdf_bad (by rw [namedP, if_pos hop9]; rw [if_pos hb]; rw [hx28]; simp only; rw [hy30]; simp only; rw [h2, if_neg Bool.false_ne_true]; rw [← hinv.2.2, args_full h3 (by omega)]) rfl
     ·have gh6 := h6
      try simp only [nrm] at h6
      have h4 := h6
      refine aw_skip ?_
      refine aw_seq ?_
      have hltj := isAt_lt h3
      have hk20 : kids.length < 20 := by omega
      refine aw_region ?_
      refine al_op (op_move rfl) rfl (by simp) ?_
      refine al_op (op_nilCheck_ptr rfl rfl) rfl (by simp) ?_
      refine al_op (op_field_ptr Tryz.underlying105 rfl info3 (by decide) rfl rfl rfl) rfl (by simp) ?_
      refine al_op (op_load_ptr Tryz.underlying3 info3 rfl rfl rfl rfl) rfl (by simp) ?_
      refine al_op (op_add rfl rfl (by first | exact wrap_i64 (by omega) (by omega))) rfl (by simp) ?_
      refine al_op (op_nilCheck_ptr rfl rfl) rfl (by simp) ?_
      refine al_op (op_field_ptr Tryz.underlying105 rfl info3 (by decide) rfl rfl rfl) rfl (by simp) ?_
      refine al_op (op_store_ptr info3 rfl rfl rfl rfl rfl rfl (by first | rfl | exact live_one rfl | (repeat (first | exact all_live_nil | refine all_live_clo rfl ?_ | refine all_live_slice rfl ?_ | refine all_live_map rfl ?_ | refine all_live_ptr rfl ?_))) (Nat.le_of_ble_eq_true rfl)) rfl (by simp) ?_
      refine al_nil ?_
      refine aw_plan [0, 1, 2, 3, 4, 5, 6, 7] (Checked.mixed Tryz.checked) (by kernel_rfl) ?_
      refine afl_float rfl rfl (opk_of (op_field_ptr Tryz.underlying37 rfl info31 (by decide) rfl rfl rfl)) (by simp) ?_
      refine afl_float rfl rfl (opk_of (op_load_ptr Tryz.underlying31 info31 rfl rfl rfl rfl)) (by simp) ?_
      refine afl_float rfl rfl (opk_of (op_move rfl)) (by simp) ?_
      refine afl_callP rfl (by kernel_rfl) into40 rfl rfl rfl (rd_lift rfl (fun _ => rfl) (hE hd0 v0 (j + 1) (by omega)) _ (by rfl)) (by simp) ?_; rintro _ _ (⟨g63, i63, d63, hx63, rfl, rfl⟩ | ⟨a63, j63, hx63, rfl, rfl⟩)
      ·exact rdf_bad (by rw [namedP, if_pos hop9]; rw [if_pos hb]; rw [hx28]; simp only; rw [hy30]; simp only; rw [h2, if_neg Bool.false_ne_true]; rw [← hinv.2.2, args_bad h3 (by omega) (g := g63) (by rw [innerD_pos hd0]; exact hx63)]) rfl
      have hgt63 := innerD_gt (l := l) d _ _ _ (by rw [innerD_pos hd0]; exact hx63)
      have hy63 : innerD l d (j + 1) = .ok a63 j63 := by rw [innerD_pos hd0]; exact hx63
      refine ⟨?_, ?_⟩
      ·
       refine loose_anc 2 rfl (by kernel_rfl) ?_
       refine loose_k rfl (opk_of (op_load_ptr Tryz.underlying31 info31 rfl rfl rfl rfl)) ?_
       refine loose_k rfl (opk_of (op_field_ptr Tryz.underlying37 rfl info31 (by decide) rfl rfl rfl)) ?_
       exact loose_nil
      refine afl_float rfl rfl (opk_of (op_list encE [a63] Tryz.underlying31 info37 rfl rfl (by decide) rfl (by decide) rfl (by first | rfl | (repeat (first | exact parts_nil | refine parts_cons rfl (by repeat (first | exact all_live_nil | refine all_live_clo rfl ?_ | refine all_live_slice rfl ?_ | refine all_live_map rfl ?_ | refine all_live_ptr rfl ?_)) ?_))) rfl rfl rfl (kids1 _))) (by simp) ?_
      (refine afl_effR rfl rfl (by kernel_rfl) (op_append_one a63 Tryz.underlying31 Tryz.underlying31 rfl info37 rfl rfl (by decide) rfl rfl rfl (by first | rfl | simp) rfl rfl (by first | omega | (simp; done) | (simp; omega)) (by show _ * 240 ≤ _; first | omega | (simp; done) | (simp; omega))) (by simp) ?_; rintro _ _ ⟨ver65, rfl, rfl⟩; refine ⟨?_, ?_⟩)
      ·
       refine loose_anc 4 rfl (by kernel_rfl) ?_
       refine loose_fix rfl ?_
       refine loose_anc 2 rfl (by kernel_rfl) ?_
       refine loose_anc 1 rfl (by kernel_rfl) ?_
       refine loose_anc 0 rfl (by kernel_rfl) ?_
       exact loose_nil
      refine afl_float rfl rfl (opk_of (op_field_ptr Tryz.underlying37 rfl info31 (by decide) rfl rfl rfl)) (by simp) ?_
      (refine afl_eff rfl rfl (by kernel_rfl) (op_store_ptr info31 rfl rfl rfl rfl rfl rfl (by first | rfl | exact live_one rfl | (repeat (first | exact all_live_nil | refine all_live_clo rfl ?_ | refine all_live_slice rfl ?_ | refine all_live_map rfl ?_ | refine all_live_ptr rfl ?_))) (Nat.le_of_ble_eq_true rfl)) (by simp) ?_ ?_)
      ·
       refine loose_anc 6 rfl (by kernel_rfl) ?_
       refine loose_fix rfl ?_
       refine loose_anc 4 rfl (by kernel_rfl) ?_
       refine loose_fix rfl ?_
       refine loose_anc 2 rfl (by kernel_rfl) ?_
       refine loose_anc 1 rfl (by kernel_rfl) ?_
       refine loose_anc 0 rfl (by kernel_rfl) ?_
       exact loose_nil
      refine afl_end ?_
      refine ⟨kids ++ [a63], j63, ver65, ?_, ?_, ?_, ?_, ?_⟩
      ·omega
      ·exact ⟨by omega, by simp; omega, (args_step h3 hk20 hy63).trans hinv.2.2⟩
      ·exact sub_nil
      ·repeat (first | exact subx_refl | exact subx_del | refine subx_put rfl ?_)
      ·rfl
    ·have gh5 := h5
     try simp only [nrm] at h5
     have h3 := h5
     refine aw_exit ?_
     refine aw_seq ?_
     refine aw_region ?_
     refine al_op (op_move rfl) rfl (by simp) ?_
     refine al_call into93 rfl rfl rfl (rd_lift rfl (fun _ => rfl) (e_shut v0 l hl hn j (d - 1) (by omega) hinv.1 d (by omega)) _ (by rfl)) (by simp) ?_; rintro _ _ (⟨g68, i68, d68, hx68, rfl, rfl⟩ | ⟨a68, j68, hx68, rfl, rfl⟩)
     ·exact rdf_bad (by rw [namedP, if_pos hop9]; rw [if_pos hb]; rw [hx28]; simp only; rw [hy30]; simp only; rw [h2, if_neg Bool.false_ne_true]; rw [← hinv.2.2, args_stop h3]; simp only; rw [hx68]) rfl
     refine al_nil ?_
     refine aw_seq ?_
     refine aw_region ?_
     refine al_op (op_load_ptr Tryz.underlying37 info37 rfl rfl rfl rfl) rfl (by simp) ?_
     refine al_op (op_store_ptr info37 rfl rfl rfl rfl rfl rfl (by first | rfl | exact live_one rfl | (repeat (first | exact all_live_nil | refine all_live_clo rfl ?_ | refine all_live_slice rfl ?_ | refine all_live_map rfl ?_ | refine all_live_ptr rfl ?_))) (Nat.le_of_ble_eq_true rfl)) rfl (by simp) ?_
     refine al_nil ?_
     refine aw_ret ?_
     refine ⟨_, res_cell rfl Tryz.underlying37 info37 rfl rfl rfl rfl, ?_⟩
     exact rdf_ok (mkE 5 (tokAt l i).text 0 [] kids (tokAt l i)) j68 (by rw [namedP, if_pos hop9]; rw [if_pos hb]; rw [hx28]; simp only; rw [hy30]; simp only; rw [h2, if_neg Bool.false_ne_true]; rw [← hinv.2.2, args_stop h3]; simp only; rw [hx68]) (.one _ _ (.agg _ _ (by repeat (first | exact frz2_nil | refine frz2_cons (.same _) ?_ | refine frz2_cons (frz_whole rfl rfl (by first | exact (List.length_map _).symm | rfl | (simp; done)) (clo_map encE_clo)) ?_)))) rfl
theorem e_named (v0 : Nat) (l : List Tk) (hl : OKTs l) (hn : l.length ≤ 1000000000) (i d : Nat) (hd : d ≤ 40) (hi : i ≤ l.length) (hE : d ≠ 0 → ∀ v0 i, i ≤ l.length → AC Tryz.prog 40 [.ptr 0 v0 0 0] (rd v0 l i (d - 1) []) (RdK v0 l (d - 1) encX (rowD l (d - 1) 4 i))) : AC Tryz.prog 196 [.ptr 0 v0 0 0] (rd v0 l i d []) (RdK v0 l d encX (namedP l d (innerD l d) i)) := ac_rdf (e_namedF v0 l hl hn i d hd hi hE)
end Go.Proofs.YtcgdlhkiecommaaGreatDoor

/- Printed walks (gen.py, lexer_ann.py): part 405. -/


set_option linter.unusedVariables false
set_option linter.unusedSimpArgs false
set_option maxRecDepth 20000
set_option maxHeartbeats 40000000
namespace Go.Proofs.YtcgdlhkiecommaaGreatDoor
open Go
theorem e_prim (v0 : Nat) (l : List Tk) (hl : OKTs l) (hn : l.length ≤ 1000000000) (i d : Nat) (hd : d ≤ 40) (hi : i ≤ l.length) (hE : d ≠ 0 → ∀ v0 i, i ≤ l.length → AC Tryz.prog 40 [.ptr 0 v0 0 0] (rd v0 l i (d - 1) []) (RdK v0 l (d - 1) encX (rowD l (d - 1) 4 i)))  : AC Tryz.prog 175 [.ptr 0 v0 0 0] (rd v0 l i d []) (fun r σ' => RdK v0 l (d) encX (primP l d (innerD l d) i) r σ') := by
 refine ac_enter 65 Tryz.func175 rfl rfl (by simp) ?_
 refine aw_seq ?_
 refine aw_region ?_
 (refine al_opR (op_alloc 2 info37 rfl rfl) rfl (by simp) ?_; rintro _ _ ⟨ver2, rfl, rfl⟩)
 refine al_nil ?_
 refine aw_seq ?_
 refine aw_region ?_
 refine al_op (op_move rfl) rfl (by simp) ?_
 refine al_callp into91 rfl rfl rfl (e_tokenA v0 l hl hn i d (by omega) (by omega)  rfl rfl) (by simp) ?_
 (refine al_opR (op_alloc 3 info65 rfl rfl) rfl (by simp) ?_; rintro _ _ ⟨ver3, rfl, rfl⟩)
 refine al_op (op_store_ptr info65 rfl rfl rfl rfl rfl rfl (by first | rfl | exact live_one rfl | (repeat (first | exact all_live_nil | refine all_live_clo rfl ?_ | refine all_live_slice rfl ?_ | refine all_live_map rfl ?_ | refine all_live_ptr rfl ?_))) (Nat.le_of_ble_eq_true rfl)) rfl (by simp) ?_
 refine al_nil ?_
 refine aw_seq ?_
 refine aw_region ?_
 refine al_op (op_field_ptr Tryz.underlying65 rfl info3 (by decide) rfl rfl rfl) rfl (by simp) ?_
 refine al_op (op_load_ptr Tryz.underlying3 info3 rfl rfl rfl rfl) rfl (by simp) ?_
 refine al_op (op_field_ptr Tryz.underlying65 rfl info3 (by decide) rfl rfl rfl) rfl (by simp) ?_
 refine al_op (op_load_ptr Tryz.underlying3 info3 rfl rfl rfl rfl) rfl (by simp) ?_
 refine al_op (val_re (.agg (cellsE (mkE 0 [] 0 [] [] (tokAt l i)))) (op_build_struct Tryz.underlying37 info37 rfl place37 rfl (by first | rfl | (repeat (first | exact parts_nil | refine parts_cons rfl (by repeat (first | exact all_live_nil | refine all_live_clo rfl ?_ | refine all_live_slice rfl ?_ | refine all_live_map rfl ?_ | refine all_live_ptr rfl ?_)) ?_))) rfl) (.agg _ _ (by repeat (first | exact reL_nil | refine reL_cons (.same _) ?_ | refine reL_cons (.vnil _) ?_)))) rfl (by simp) ?_
 (refine al_opR (op_alloc 4 info37 rfl rfl) rfl (by simp) ?_; rintro _ _ ⟨ver4, rfl, rfl⟩)
 refine al_op (op_store_ptr info37 rfl rfl rfl rfl rfl rfl (by first | rfl | exact live_one rfl | (repeat (first | exact all_live_nil | refine all_live_clo rfl ?_ | refine all_live_slice rfl ?_ | refine all_live_map rfl ?_ | refine all_live_ptr rfl ?_))) (Nat.le_of_ble_eq_true rfl)) rfl (by simp) ?_
 refine al_nil ?_
 refine aw_seq ?_
 refine aw_seq ?_
 refine aw_region ?_
 refine al_op (op_field_ptr Tryz.underlying65 rfl info63 (by decide) rfl rfl rfl) rfl (by simp) ?_
 refine al_op (op_load_ptr Tryz.underlying63 info63 rfl rfl rfl rfl) rfl (by simp) ?_
 refine al_nil ?_
 refine aw_block ?_
 refine aw_seq ?_
 refine aw_region ?_
 refine al_op (op_eql rfl rfl) rfl (by simp) ?_
 refine al_op (op_assign rfl) rfl (by simp) ?_
 refine al_nil ?_
 refine aw_cond rfl (fun h1 => ?_) (fun h1 => ?_)
 ·have gh1 := h1
  try simp only [nrm] at h1
  refine aw_plan [0, 1, 2, 3, 4, 5] (Checked.mixed Tryz.checked) (by kernel_rfl) ?_
  refine afl_float rfl rfl (opk_of (op_field_ptr Tryz.underlying65 rfl info3 (by decide) rfl rfl rfl)) (by simp) ?_
  refine afl_float rfl rfl (opk_of (op_load_ptr Tryz.underlying3 info3 rfl rfl rfl rfl)) (by simp) ?_
  refine afl_float rfl rfl (opk_of (op_field_ptr Tryz.underlying37 rfl info25 (by decide) rfl rfl rfl)) (by simp) ?_
  (refine afl_eff rfl rfl (by kernel_rfl) (op_store_ptr info25 rfl rfl rfl rfl rfl rfl (by first | rfl | exact live_one rfl | (repeat (first | exact all_live_nil | refine all_live_clo rfl ?_ | refine all_live_slice rfl ?_ | refine all_live_map rfl ?_ | refine all_live_ptr rfl ?_))) (Nat.le_of_ble_eq_true rfl)) (by simp) ?_ ?_)
  ·
   refine loose_anc 2 rfl (by kernel_rfl) ?_
   refine loose_k rfl (opk_of (op_load_ptr Tryz.underlying3 info3 rfl rfl rfl rfl)) ?_
   refine loose_k rfl (opk_of (op_field_ptr Tryz.underlying65 rfl info3 (by decide) rfl rfl rfl)) ?_
   exact loose_nil
  refine afl_float rfl rfl (opk_of (op_field_ptr Tryz.underlying37 rfl info3 (by decide) rfl rfl rfl)) (by simp) ?_
  (refine afl_eff rfl rfl (by kernel_rfl) (op_store_ptr info3 rfl rfl rfl rfl rfl rfl (by first | rfl | exact live_one rfl | (repeat (first | exact all_live_nil | refine all_live_clo rfl ?_ | refine all_live_slice rfl ?_ | refine all_live_map rfl ?_ | refine all_live_ptr rfl ?_))) (Nat.le_of_ble_eq_true rfl)) (by simp) ?_ ?_)
  ·
   refine loose_anc 4 rfl (by kernel_rfl) ?_
   refine loose_fix rfl ?_
   refine loose_anc 2 rfl (by kernel_rfl) ?_
   refine loose_anc 1 rfl (by kernel_rfl) ?_
   refine loose_anc 0 rfl (by kernel_rfl) ?_
   exact loose_nil
  refine afl_end ?_
  refine aw_seq ?_
  have hlt := prim_lt (l := l) (i := i) (by first | exact .inl gh1 | exact .inr (.inl gh2) | exact .inr (.inr gh3))
  refine aw_region ?_
  refine al_op (op_move rfl) rfl (by simp) ?_
  refine al_op (op_nilCheck_ptr rfl rfl) rfl (by simp) ?_
  refine al_op (op_field_ptr Tryz.underlying105 rfl info3 (by decide) rfl rfl rfl) rfl (by simp) ?_
  refine al_op (op_load_ptr Tryz.underlying3 info3 rfl rfl rfl rfl) rfl (by simp) ?_
  refine al_op (op_add rfl rfl (by first | exact wrap_i64 (by omega) (by omega))) rfl (by simp) ?_
  refine al_op (op_nilCheck_ptr rfl rfl) rfl (by simp) ?_
  refine al_op (op_field_ptr Tryz.underlying105 rfl info3 (by decide) rfl rfl rfl) rfl (by simp) ?_
  refine al_op (op_store_ptr info3 rfl rfl rfl rfl rfl rfl (by first | rfl | exact live_one rfl | (repeat (first | exact all_live_nil | refine all_live_clo rfl ?_ | refine all_live_slice rfl ?_ | refine all_live_map rfl ?_ | refine all_live_ptr rfl ?_))) (Nat.le_of_ble_eq_true rfl)) rfl (by simp) ?_
  refine al_nil ?_
  refine aw_seq ?_
  refine aw_region ?_
  refine al_op (op_move rfl) rfl (by simp) ?_
  refine al_op (op_load_ptr Tryz.underlying37 info37 rfl rfl rfl rfl) rfl (by simp) ?_
  refine al_call into82 rfl rfl rfl (rd_lift rfl (fun _ => rfl) (e_parts v0 l hl hn (i + 1) d hd (by omega) hE (mkE 1 [] (tokAt l i).n [] [] (tokAt l i))) _ (by rfl)) (by simp) ?_; rintro _ _ (⟨g64, i64, d64, hx64, rfl, rfl⟩ | ⟨a64, j64, hx64, rfl, rfl⟩)
  ·exact rdk_bad (by rw [primP]; rw [gh1, if_pos rfl]; exact hx64) rfl
  refine al_op (op_store_ptr info37 rfl rfl rfl rfl rfl rfl (by first | rfl | exact live_one rfl | (repeat (first | exact all_live_nil | refine all_live_clo rfl ?_ | refine all_live_slice rfl ?_ | refine all_live_map rfl ?_ | refine all_live_ptr rfl ?_))) (Nat.le_of_ble_eq_true rfl)) rfl (by simp) ?_
  refine al_nil ?_
  refine aw_ret ?_
  refine ⟨_, res_cell rfl Tryz.underlying37 info37 rfl rfl rfl rfl, ?_⟩
  exact rdk_ok a64 j64 (by rw [primP]; rw [gh1, if_pos rfl]; exact hx64) rfl
 ·have gh1 := h1
  try simp only [nrm] at h1
  refine aw_seq ?_
  refine aw_region ?_
  refine al_op (op_eql rfl rfl) rfl (by simp) ?_
  refine al_op (op_assign rfl) rfl (by simp) ?_
  refine al_nil ?_
  refine aw_cond rfl (fun h2 => ?_) (fun h2 => ?_)
  ·have gh2 := h2
   try simp only [nrm] at h2
   refine aw_seq ?_
   refine aw_region ?_
   refine al_op (op_field_ptr Tryz.underlying37 rfl info25 (by decide) rfl rfl rfl) rfl (by simp) ?_
   refine al_op (op_store_ptr info25 rfl rfl rfl rfl rfl rfl (by first | rfl | exact live_one rfl | (repeat (first | exact all_live_nil | refine all_live_clo rfl ?_ | refine all_live_slice rfl ?_ | refine all_live_map rfl ?_ | refine all_live_ptr rfl ?_))) (Nat.le_of_ble_eq_true rfl)) rfl (by simp) ?_
   refine al_nil ?_
   refine aw_region ?_
   refine al_op (op_field_ptr Tryz.underlying65 rfl info9 (by decide) rfl rfl rfl) rfl (by simp) ?_
   refine al_op (op_load_ptr Tryz.underlying9 info9 rfl rfl rfl rfl) rfl (by simp) ?_
   refine al_callp into153 rfl rfl rfl (c_parse (tokAt l i).text (by have := (tokAt_ok hl i).len; omega) _) (by simp) ?_
   refine al_op (op_move rfl) rfl (by simp) ?_
   refine al_op (op_extract rfl rfl rfl) rfl (by simp) ?_
   refine al_op (op_extract rfl rfl rfl) rfl (by simp) ?_
   refine al_op (op_field_ptr Tryz.underlying37 rfl info26 (by decide) rfl rfl rfl) rfl (by simp) ?_
   refine al_op (op_store_ptr info26 rfl rfl rfl rfl rfl rfl (by first | rfl | exact live_one rfl | (repeat (first | exact all_live_nil | refine all_live_clo rfl ?_ | refine all_live_slice rfl ?_ | refine all_live_map rfl ?_ | refine all_live_ptr rfl ?_))) (Nat.le_of_ble_eq_true rfl)) rfl (by simp) ?_
   refine al_nil ?_
   refine aw_seq ?_
   have hlt := prim_lt (l := l) (i := i) (by first | exact .inl gh1 | exact .inr (.inl gh2) | exact .inr (.inr gh3))
   refine aw_region ?_
   refine al_op (op_move rfl) rfl (by simp) ?_
   refine al_op (op_nilCheck_ptr rfl rfl) rfl (by simp) ?_
   refine al_op (op_field_ptr Tryz.underlying105 rfl info3 (by decide) rfl rfl rfl) rfl (by simp) ?_
   refine al_op (op_load_ptr Tryz.underlying3 info3 rfl rfl rfl rfl) rfl (by simp) ?_
   refine al_op (op_add rfl rfl (by first | exact wrap_i64 (by omega) (by omega))) rfl (by simp) ?_
   refine al_op (op_nilCheck_ptr rfl rfl) rfl (by simp) ?_
   refine al_op (op_field_ptr Tryz.underlying105 rfl info3 (by decide) rfl rfl rfl) rfl (by simp) ?_
   refine al_op (op_store_ptr info3 rfl rfl rfl rfl rfl rfl (by first | rfl | exact live_one rfl | (repeat (first | exact all_live_nil | refine all_live_clo rfl ?_ | refine all_live_slice rfl ?_ | refine all_live_map rfl ?_ | refine all_live_ptr rfl ?_))) (Nat.le_of_ble_eq_true rfl)) rfl (by simp) ?_
   refine al_nil ?_
   refine aw_seq ?_
   refine aw_region ?_
   refine al_op (op_move rfl) rfl (by simp) ?_
   refine al_op (op_load_ptr Tryz.underlying37 info37 rfl rfl rfl rfl) rfl (by simp) ?_
   refine al_call into82 rfl rfl rfl (rd_lift rfl (fun _ => rfl) (e_parts v0 l hl hn (i + 1) d hd (by omega) hE (mkE 2 [] 0 (parseBits (tokAt l i).text) [] (tokAt l i))) _ (by rfl)) (by simp) ?_; rintro _ _ (⟨g64, i64, d64, hx64, rfl, rfl⟩ | ⟨a64, j64, hx64, rfl, rfl⟩)
   ·exact rdk_bad (by rw [primP]; rw [gh1, if_neg Bool.false_ne_true]; rw [gh2, if_pos rfl]; exact hx64) rfl
   refine al_op (op_store_ptr info37 rfl rfl rfl rfl rfl rfl (by first | rfl | exact live_one rfl | (repeat (first | exact all_live_nil | refine all_live_clo rfl ?_ | refine all_live_slice rfl ?_ | refine all_live_map rfl ?_ | refine all_live_ptr rfl ?_))) (Nat.le_of_ble_eq_true rfl)) rfl (by simp) ?_
   refine al_nil ?_
   refine aw_ret ?_
   refine ⟨_, res_cell rfl Tryz.underlying37 info37 rfl rfl rfl rfl, ?_⟩
   exact rdk_ok a64 j64 (by rw [primP]; rw [gh1, if_neg Bool.false_ne_true]; rw [gh2, if_pos rfl]; exact hx64) rfl
  ·have gh2 := h2
   try simp only [nrm] at h2
   refine aw_seq ?_
   refine aw_region ?_
   refine al_op (op_eql rfl rfl) rfl (by simp) ?_
   refine al_op (op_assign rfl) rfl (by simp) ?_
   refine al_nil ?_
   refine aw_cond rfl (fun h3 => ?_) (fun h3 => ?_)
   ·have gh3 := h3
    try simp only [nrm] at h3
    refine aw_seq ?_
    refine aw_region ?_
    refine al_op (op_field_ptr Tryz.underlying37 rfl info25 (by decide) rfl rfl rfl) rfl (by simp) ?_
    refine al_op (op_store_ptr info25 rfl rfl rfl rfl rfl rfl (by first | rfl | exact live_one rfl | (repeat (first | exact all_live_nil | refine all_live_clo rfl ?_ | refine all_live_slice rfl ?_ | refine all_live_map rfl ?_ | refine all_live_ptr rfl ?_))) (Nat.le_of_ble_eq_true rfl)) rfl (by simp) ?_
    refine al_nil ?_
    refine aw_region ?_
    refine al_op (op_field_ptr Tryz.underlying65 rfl info9 (by decide) rfl rfl rfl) rfl (by simp) ?_
    refine al_op (op_load_ptr Tryz.underlying9 info9 rfl rfl rfl rfl) rfl (by simp) ?_
    refine al_callp into153 rfl rfl rfl (c_parse (tokAt l i).text (by have := (tokAt_ok hl i).len; omega) _) (by simp) ?_
    refine al_op (op_move rfl) rfl (by simp) ?_
    refine al_op (op_extract rfl rfl rfl) rfl (by simp) ?_
    refine al_op (op_extract rfl rfl rfl) rfl (by simp) ?_
    refine al_op (op_field_ptr Tryz.underlying37 rfl info26 (by decide) rfl rfl rfl) rfl (by simp) ?_
    refine al_op (op_store_ptr info26 rfl rfl rfl rfl rfl rfl (by first | rfl | exact live_one rfl | (repeat (first | exact all_live_nil | refine all_live_clo rfl ?_ | refine all_live_slice rfl ?_ | refine all_live_map rfl ?_ | refine all_live_ptr rfl ?_))) (Nat.le_of_ble_eq_true rfl)) rfl (by simp) ?_
    refine al_nil ?_
    refine aw_seq ?_
    have hlt := prim_lt (l := l) (i := i) (by first | exact .inl gh1 | exact .inr (.inl gh2) | exact .inr (.inr gh3))
    refine aw_region ?_
    refine al_op (op_move rfl) rfl (by simp) ?_
    refine al_op (op_nilCheck_ptr rfl rfl) rfl (by simp) ?_
    refine al_op (op_field_ptr Tryz.underlying105 rfl info3 (by decide) rfl rfl rfl) rfl (by simp) ?_
    refine al_op (op_load_ptr Tryz.underlying3 info3 rfl rfl rfl rfl) rfl (by simp) ?_
    refine al_op (op_add rfl rfl (by first | exact wrap_i64 (by omega) (by omega))) rfl (by simp) ?_
    refine al_op (op_nilCheck_ptr rfl rfl) rfl (by simp) ?_
    refine al_op (op_field_ptr Tryz.underlying105 rfl info3 (by decide) rfl rfl rfl) rfl (by simp) ?_
    refine al_op (op_store_ptr info3 rfl rfl rfl rfl rfl rfl (by first | rfl | exact live_one rfl | (repeat (first | exact all_live_nil | refine all_live_clo rfl ?_ | refine all_live_slice rfl ?_ | refine all_live_map rfl ?_ | refine all_live_ptr rfl ?_))) (Nat.le_of_ble_eq_true rfl)) rfl (by simp) ?_
    refine al_nil ?_
    refine aw_seq ?_
    refine aw_region ?_
    refine al_op (op_move rfl) rfl (by simp) ?_
    refine al_op (op_load_ptr Tryz.underlying37 info37 rfl rfl rfl rfl) rfl (by simp) ?_
    refine al_call into82 rfl rfl rfl (rd_lift rfl (fun _ => rfl) (e_parts v0 l hl hn (i + 1) d hd (by omega) hE (mkE 3 [] 0 (parseBits (tokAt l i).text) [] (tokAt l i))) _ (by rfl)) (by simp) ?_; rintro _ _ (⟨g64, i64, d64, hx64, rfl, rfl⟩ | ⟨a64, j64, hx64, rfl, rfl⟩)
    ·exact rdk_bad (by rw [primP]; rw [gh1, if_neg Bool.false_ne_true]; rw [gh2, if_neg Bool.false_ne_true]; rw [gh3, if_pos rfl]; exact hx64) rfl
    refine al_op (op_store_ptr info37 rfl rfl rfl rfl rfl rfl (by first | rfl | exact live_one rfl | (repeat (first | exact all_live_nil | refine all_live_clo rfl ?_ | refine all_live_slice rfl ?_ | refine all_live_map rfl ?_ | refine all_live_ptr rfl ?_))) (Nat.le_of_ble_eq_true rfl)) rfl (by simp) ?_
    refine al_nil ?_
    refine aw_ret ?_
    refine ⟨_, res_cell rfl Tryz.underlying37 info37 rfl rfl rfl rfl, ?_⟩
    exact rdk_ok a64 j64 (by rw [primP]; rw [gh1, if_neg Bool.false_ne_true]; rw [gh2, if_neg Bool.false_ne_true]; rw [gh3, if_pos rfl]; exact hx64) rfl
   ·have gh3 := h3
    try simp only [nrm] at h3
    refine aw_seq ?_
    refine aw_region ?_
    refine al_op (op_eql rfl rfl) rfl (by simp) ?_
    refine al_op (op_assign rfl) rfl (by simp) ?_
    refine al_nil ?_
    refine aw_cond rfl (fun h4 => ?_) (fun h4 => ?_)
    ·have gh4 := h4
     try simp only [nrm] at h4
     refine aw_seq ?_
     refine aw_region ?_
     refine al_op (op_move rfl) rfl (by simp) ?_
     refine al_op (op_move rfl) rfl (by simp) ?_
     refine al_call into196 rfl rfl rfl (rd_lift rfl (fun _ => rfl) (e_named v0 l hl hn i d hd hi hE) _ (by rfl)) (by simp) ?_; rintro _ _ (⟨g53, i53, d53, hx53, rfl, rfl⟩ | ⟨a53, j53, hx53, rfl, rfl⟩)
     ·exact rdk_bad (by rw [primP]; rw [gh1, if_neg Bool.false_ne_true]; rw [gh2, if_neg Bool.false_ne_true]; rw [gh3, if_neg Bool.false_ne_true]; rw [gh4, if_pos rfl]; rw [hx53]) rfl
     have hgt53 := named_gt (innerD_gt d) _ _ hx53
     refine al_call into82 rfl rfl rfl (rd_lift rfl (fun _ => rfl) (e_parts v0 l hl hn j53 d hd (by omega) hE a53) _ (by rfl)) (by simp) ?_; rintro _ _ (⟨g54, i54, d54, hx54, rfl, rfl⟩ | ⟨a54, j54, hx54, rfl, rfl⟩)
     ·exact rdk_bad (by rw [primP]; rw [gh1, if_neg Bool.false_ne_true]; rw [gh2, if_neg Bool.false_ne_true]; rw [gh3, if_neg Bool.false_ne_true]; rw [gh4, if_pos rfl]; rw [hx53]; exact hx54) rfl
     refine al_op (op_store_ptr info37 rfl rfl rfl rfl rfl rfl (by first | rfl | exact live_one rfl | (repeat (first | exact all_live_nil | refine all_live_clo rfl ?_ | refine all_live_slice rfl ?_ | refine all_live_map rfl ?_ | refine all_live_ptr rfl ?_))) (Nat.le_of_ble_eq_true rfl)) rfl (by simp) ?_
     refine al_nil ?_
     refine aw_ret ?_
     refine ⟨_, res_cell rfl Tryz.underlying37 info37 rfl rfl rfl rfl, ?_⟩
     exact rdk_ok a54 j54 (by rw [primP]; rw [gh1, if_neg Bool.false_ne_true]; rw [gh2, if_neg Bool.false_ne_true]; rw [gh3, if_neg Bool.false_ne_true]; rw [gh4, if_pos rfl]; rw [hx53]; exact hx54) rfl
    ·have gh4 := h4
     try simp only [nrm] at h4
     refine aw_seq ?_
     refine aw_region ?_
     refine al_op (op_move rfl) rfl (by simp) ?_
     refine al_call into92 rfl rfl rfl (rd_lift rfl (fun _ => rfl) (e_open v0 l hl hn i d hd hi) _ (by rfl)) (by simp) ?_; rintro _ _ (⟨g15, i15, d15, hx15, rfl, rfl⟩ | ⟨a15, j15, hx15, rfl, rfl⟩)
     ·exact rdk_bad (by rw [primP]; rw [gh1, if_neg Bool.false_ne_true]; rw [gh2, if_neg Bool.false_ne_true]; rw [gh3, if_neg Bool.false_ne_true]; rw [gh4, if_neg Bool.false_ne_true]; rw [hx15]) rfl
     obtain ⟨hd0, rfl, hop15⟩ := open_ok hx15
     have hlt15 := isAt_lt hop15
     refine al_nil ?_
     refine aw_seq ?_
     refine aw_region ?_
     refine al_op (op_move rfl) rfl (by simp) ?_
     refine al_call into40 rfl rfl rfl (rd_lift rfl (fun _ => rfl) (hE hd0 v0 (i + 1) (by omega)) _ (by rfl)) (by simp) ?_; rintro _ _ (⟨g17, i17, d17, hx17, rfl, rfl⟩ | ⟨a17, j17, hx17, rfl, rfl⟩)
     ·exact rdk_bad (by rw [primP]; rw [gh1, if_neg Bool.false_ne_true]; rw [gh2, if_neg Bool.false_ne_true]; rw [gh3, if_neg Bool.false_ne_true]; rw [gh4, if_neg Bool.false_ne_true]; rw [hx15]; simp only; rw [innerD_pos hd0, hx17]) rfl
     have hgt17 := innerD_gt (l := l) d _ _ _ (by rw [innerD_pos hd0]; exact hx17)
     have hy17 : innerD l d (i + 1) = .ok a17 j17 := by rw [innerD_pos hd0]; exact hx17
     refine al_op (op_store_ptr info37 rfl rfl rfl rfl rfl rfl (by first | rfl | exact live_one rfl | (repeat (first | exact all_live_nil | refine all_live_clo rfl ?_ | refine all_live_slice rfl ?_ | refine all_live_map rfl ?_ | refine all_live_ptr rfl ?_))) (Nat.le_of_ble_eq_true rfl)) rfl (by simp) ?_
     refine al_nil ?_
     refine aw_seq ?_
     refine aw_region ?_
     refine al_op (op_move rfl) rfl (by simp) ?_
     refine al_call into93 rfl rfl rfl (rd_lift rfl (fun _ => rfl) (e_shut v0 l hl hn j17 (d - 1) (by omega) (by omega) d (by omega)) _ (by rfl)) (by simp) ?_; rintro _ _ (⟨g19, i19, d19, hx19, rfl, rfl⟩ | ⟨a19, j19, hx19, rfl, rfl⟩)
     ·exact rdk_bad (by rw [primP]; rw [gh1, if_neg Bool.false_ne_true]; rw [gh2, if_neg Bool.false_ne_true]; rw [gh3, if_neg Bool.false_ne_true]; rw [gh4, if_neg Bool.false_ne_true]; rw [hx15]; simp only; rw [hy17]; simp only; rw [hx19]) rfl
     obtain ⟨rfl, hat19⟩ := want_ok hx19
     have hlt19 := isAt_lt hat19
     refine al_nil ?_
     refine aw_seq ?_
     refine aw_region ?_
     refine al_op (op_move rfl) rfl (by simp) ?_
     refine al_op (op_load_ptr Tryz.underlying37 info37 rfl rfl rfl rfl) rfl (by simp) ?_
     refine al_call into82 rfl rfl rfl (rd_lift rfl (fun _ => rfl) (e_parts v0 l hl hn (j17 + 1) d hd (by omega) hE a17) _ (by rfl)) (by simp) ?_; rintro _ _ (⟨g22, i22, d22, hx22, rfl, rfl⟩ | ⟨a22, j22, hx22, rfl, rfl⟩)
     ·exact rdk_bad (by rw [primP]; rw [gh1, if_neg Bool.false_ne_true]; rw [gh2, if_neg Bool.false_ne_true]; rw [gh3, if_neg Bool.false_ne_true]; rw [gh4, if_neg Bool.false_ne_true]; rw [hx15]; simp only; rw [hy17]; simp only; rw [hx19]; exact hx22) rfl
     refine al_op (op_store_ptr info37 rfl rfl rfl rfl rfl rfl (by first | rfl | exact live_one rfl | (repeat (first | exact all_live_nil | refine all_live_clo rfl ?_ | refine all_live_slice rfl ?_ | refine all_live_map rfl ?_ | refine all_live_ptr rfl ?_))) (Nat.le_of_ble_eq_true rfl)) rfl (by simp) ?_
     refine al_nil ?_
     refine aw_ret ?_
     refine ⟨_, res_cell rfl Tryz.underlying37 info37 rfl rfl rfl rfl, ?_⟩
     exact rdk_ok a22 j22 (by rw [primP]; rw [gh1, if_neg Bool.false_ne_true]; rw [gh2, if_neg Bool.false_ne_true]; rw [gh3, if_neg Bool.false_ne_true]; rw [gh4, if_neg Bool.false_ne_true]; rw [hx15]; simp only; rw [hy17]; simp only; rw [hx19]; exact hx22) rfl
end Go.Proofs.YtcgdlhkiecommaaGreatDoor

/- Printed walks (gen.py, lexer_ann.py): part 406. -/


set_option linter.unusedVariables false
set_option linter.unusedSimpArgs false
set_option maxRecDepth 20000
set_option maxHeartbeats 40000000
namespace Go.Proofs.YtcgdlhkiecommaaGreatDoor
open Go
theorem e_factor (v0 : Nat) (l : List Tk) (hl : OKTs l) (hn : l.length ≤ 1000000000) (i d : Nat) (hd : d ≤ 40) (hi : i ≤ l.length) (hF : d ≠ 0 → ∀ v0 i, i ≤ l.length → AC Tryz.prog 130 [.ptr 0 v0 0 0] (rd v0 l i (d - 1) []) (RdK v0 l (d - 1) encX (factor l (d - 1) i))) (hP : AC Tryz.prog 175 [.ptr 0 v0 0 0] (rd v0 l i (d) []) (RdK v0 l (d) encX (primP l d (innerD l d) i))) : AC Tryz.prog 130 [.ptr 0 v0 0 0] (rd v0 l i d []) (fun r σ' => RdK v0 l (d) encX (factor l d i) r σ') := by
 refine ac_enter 33 Tryz.func130 rfl rfl (by simp) ?_
 refine aw_seq ?_
 refine aw_region ?_
 (refine al_opR (op_alloc 2 info37 rfl rfl) rfl (by simp) ?_; rintro _ _ ⟨ver2, rfl, rfl⟩)
 refine al_nil ?_
 refine aw_seq ?_
 refine aw_seq ?_
 refine aw_region ?_
 refine al_op (op_move rfl) rfl (by simp) ?_
 refine al_op (op_list encBs [sNot, sMinus] Tryz.underlying32 info9 rfl rfl (by decide) rfl (by decide) rfl (by first | rfl | (repeat (first | exact parts_nil | refine parts_cons rfl (by repeat (first | exact all_live_nil | refine all_live_clo rfl ?_ | refine all_live_slice rfl ?_ | refine all_live_map rfl ?_ | refine all_live_ptr rfl ?_)) ?_))) rfl rfl rfl rfl) rfl (by simp) ?_
 refine al_callp into90 rfl rfl rfl (e_isA v0 l hl hn i d (by omega) (by omega) [sNot, sMinus] (by decide) rfl rfl) (by simp) ?_
 refine al_op (op_not rfl) rfl (by simp) ?_
 refine al_nil ?_
 refine aw_cond rfl (fun h1 => ?_) (fun h1 => ?_)
 ·have gh1 := h1
  try simp only [nrm] at h1
  refine aw_seq ?_
  refine aw_region ?_
  refine al_op (op_move rfl) rfl (by simp) ?_
  refine al_call into175 rfl rfl rfl (rd_lift rfl (fun _ => rfl) (hP) _ (by rfl)) (by simp) ?_; rintro _ _ (⟨g10, i10, d10, hx10, rfl, rfl⟩ | ⟨a10, j10, hx10, rfl, rfl⟩)
  ·exact rdk_bad (by rw [factor_not l d i (by simpa using gh1)]; exact hx10) rfl
  refine al_op (op_store_ptr info37 rfl rfl rfl rfl rfl rfl (by first | rfl | exact live_one rfl | (repeat (first | exact all_live_nil | refine all_live_clo rfl ?_ | refine all_live_slice rfl ?_ | refine all_live_map rfl ?_ | refine all_live_ptr rfl ?_))) (Nat.le_of_ble_eq_true rfl)) rfl (by simp) ?_
  refine al_nil ?_
  refine aw_ret ?_
  refine ⟨_, res_cell rfl Tryz.underlying37 info37 rfl rfl rfl rfl, ?_⟩
  exact rdk_ok a10 j10 (by rw [factor_not l d i (by simpa using gh1)]; exact hx10) rfl
 ·have gh1 := h1
  try simp only [nrm] at h1
  refine aw_skip ?_
  refine aw_seq ?_
  refine aw_region ?_
  refine al_op (op_move rfl) rfl (by simp) ?_
  refine al_callp into91 rfl rfl rfl (e_tokenA v0 l hl hn i d (by omega) (by omega)  rfl rfl) (by simp) ?_
  (refine al_opR (op_alloc 3 info65 rfl rfl) rfl (by simp) ?_; rintro _ _ ⟨ver3, rfl, rfl⟩)
  refine al_op (op_store_ptr info65 rfl rfl rfl rfl rfl rfl (by first | rfl | exact live_one rfl | (repeat (first | exact all_live_nil | refine all_live_clo rfl ?_ | refine all_live_slice rfl ?_ | refine all_live_map rfl ?_ | refine all_live_ptr rfl ?_))) (Nat.le_of_ble_eq_true rfl)) rfl (by simp) ?_
  refine al_nil ?_
  refine aw_seq ?_
  refine aw_region ?_
  refine al_op (op_move rfl) rfl (by simp) ?_
  have hat : isAt l [sNot, sMinus] i = true := by simpa using gh1
  have hlt := isAt_lt hat
  refine al_call into139 rfl rfl rfl (rd_lift rfl (fun _ => rfl) (e_into v0 l hl hn i d hd hi) _ (by rfl)) (by simp) ?_; rintro _ _ (⟨g14, i14, d14, hx14, rfl, rfl⟩ | ⟨a14, j14, hx14, rfl, rfl⟩)
  ·exact rdk_bad (fac_into hat hx14) rfl
  obtain ⟨hd0, rfl⟩ := into_ok hx14
  refine al_nil ?_
  refine aw_seq ?_
  refine aw_region ?_
  refine al_op (op_move rfl) rfl (by simp) ?_
  refine al_call into130 rfl rfl rfl (rd_lift rfl (fun _ => rfl) (hF hd0 v0 (i + 1) (by omega)) _ (by rfl)) (by simp) ?_; rintro _ _ (⟨g16, i16, d16, hx16, rfl, rfl⟩ | ⟨a16, j16, hx16, rfl, rfl⟩)
  ·exact rdk_bad (fac_bad hat hd0 hx16) rfl
  (refine al_opR (op_alloc 4 info37 rfl rfl) rfl (by simp) ?_; rintro _ _ ⟨ver4, rfl, rfl⟩)
  refine al_op (op_store_ptr info37 rfl rfl rfl rfl rfl rfl (by first | rfl | exact live_one rfl | (repeat (first | exact all_live_nil | refine all_live_clo rfl ?_ | refine all_live_slice rfl ?_ | refine all_live_map rfl ?_ | refine all_live_ptr rfl ?_))) (Nat.le_of_ble_eq_true rfl)) rfl (by simp) ?_
  refine al_nil ?_
  refine aw_seq ?_
  refine aw_region ?_
  refine al_op (op_move rfl) rfl (by simp) ?_
  refine al_op (op_nilCheck_ptr rfl rfl) rfl (by simp) ?_
  refine al_op (op_field_ptr Tryz.underlying105 rfl info3 (by decide) rfl rfl rfl) rfl (by simp) ?_
  refine al_op (op_load_ptr Tryz.underlying3 info3 rfl rfl rfl rfl) rfl (by simp) ?_
  refine al_op (op_sub rfl rfl (by first | exact wrap_i64 (by omega) (by omega))) rfl (by simp) ?_
  refine al_op (op_nilCheck_ptr rfl rfl) rfl (by simp) ?_
  refine al_op (op_field_ptr Tryz.underlying105 rfl info3 (by decide) rfl rfl rfl) rfl (by simp) ?_
  refine al_op (op_store_ptr info3 rfl rfl rfl rfl rfl rfl (by first | rfl | exact live_one rfl | (repeat (first | exact all_live_nil | refine all_live_clo rfl ?_ | refine all_live_slice rfl ?_ | refine all_live_map rfl ?_ | refine all_live_ptr rfl ?_))) (Nat.le_of_ble_eq_true rfl)) rfl (by simp) ?_
  refine al_nil ?_
  refine aw_seq ?_
  refine aw_region ?_
  refine al_op (op_field_ptr Tryz.underlying65 rfl info9 (by decide) rfl rfl rfl) rfl (by simp) ?_
  refine al_op (op_load_ptr Tryz.underlying9 info9 rfl rfl rfl rfl) rfl (by simp) ?_
  refine al_op (op_load_ptr Tryz.underlying37 info37 rfl rfl rfl rfl) rfl (by simp) ?_
  refine al_op (op_list encE [a16] Tryz.underlying31 info37 rfl rfl (by decide) rfl (by decide) rfl (by first | rfl | (repeat (first | exact parts_nil | refine parts_cons rfl (by repeat (first | exact all_live_nil | refine all_live_clo rfl ?_ | refine all_live_slice rfl ?_ | refine all_live_map rfl ?_ | refine all_live_ptr rfl ?_)) ?_))) rfl rfl rfl (kids1 _)) rfl (by simp) ?_
  refine al_op (op_field_ptr Tryz.underlying65 rfl info3 (by decide) rfl rfl rfl) rfl (by simp) ?_
  refine al_op (op_load_ptr Tryz.underlying3 info3 rfl rfl rfl rfl) rfl (by simp) ?_
  refine al_op (op_field_ptr Tryz.underlying65 rfl info3 (by decide) rfl rfl rfl) rfl (by simp) ?_
  refine al_op (op_load_ptr Tryz.underlying3 info3 rfl rfl rfl rfl) rfl (by simp) ?_
  refine al_op (val_re (.agg (cellsE (mkE 5 (tokAt l i).text 0 [] [a16] (tokAt l i)))) (op_build_struct Tryz.underlying37 info37 rfl place37 rfl (by first | rfl | (repeat (first | exact parts_nil | refine parts_cons rfl (by repeat (first | exact all_live_nil | refine all_live_clo rfl ?_ | refine all_live_slice rfl ?_ | refine all_live_map rfl ?_ | refine all_live_ptr rfl ?_)) ?_))) rfl) (.agg _ _ (by repeat (first | exact reL_nil | refine reL_cons (.same _) ?_ | refine reL_cons (.vnil _) ?_)))) rfl (by simp) ?_
  refine al_op (op_store_ptr info37 rfl rfl rfl rfl rfl rfl (by first | rfl | exact live_one rfl | (repeat (first | exact all_live_nil | refine all_live_clo rfl ?_ | refine all_live_slice rfl ?_ | refine all_live_map rfl ?_ | refine all_live_ptr rfl ?_))) (Nat.le_of_ble_eq_true rfl)) rfl (by simp) ?_
  refine al_nil ?_
  refine aw_ret ?_
  refine ⟨_, res_cell rfl Tryz.underlying37 info37 rfl rfl rfl rfl, ?_⟩
  rw [rd_back hd0]; exact rdk_ok (mkE 5 (tokAt l i).text 0 [] [a16] (tokAt l i)) j16 (fac_ok hat hd0 hx16) rfl
theorem e_row (v0 : Nat) (l : List Tk) (hl : OKTs l) (hn : l.length ≤ 1000000000) (i d : Nat) (hd : d ≤ 40) (hi : i ≤ l.length) (hF : ∀ v0 i, i ≤ l.length → AC Tryz.prog 130 [.ptr 0 v0 0 0] (rd v0 l i (d) []) (RdK v0 l (d) encX (factor l d i))) (m k : Nat) (hk : k + m = 4) (hR : m ≠ 0 → ∀ v0 i, i ≤ l.length → AC Tryz.prog 78 [.ptr 0 v0 0 0, .v (.int .i64 ((k + 1 : Nat) : Int))] (rd v0 l i (d) []) (RdK v0 l (d) encX (rowP l (factor l d) (m - 1) i))) : AC Tryz.prog 78 [.ptr 0 v0 0 0, .v (.int .i64 ((k : Nat) : Int))] (rd v0 l i d []) (fun r σ' => RdK v0 l (d) encX (rowP l (factor l d) m i) r σ') := by
 refine ac_enter 44 Tryz.func78 rfl rfl (by simp) ?_
 refine aw_seq ?_
 refine aw_region ?_
 (refine al_opR (op_alloc 4 info37 rfl rfl) rfl (by simp) ?_; rintro _ _ ⟨ver4, rfl, rfl⟩)
 refine al_nil ?_
 refine aw_seq ?_
 refine aw_seq ?_
 refine aw_region ?_
 refine al_op (op_move rfl) rfl (by simp) ?_
 refine al_op (op_eql rfl rfl) rfl (by simp) ?_
 refine al_nil ?_
 refine aw_cond rfl (fun h1 => ?_) (fun h1 => ?_)
 ·have gh1 := h1
  try simp only [nrm] at h1
  refine aw_seq ?_
  refine aw_region ?_
  refine al_op (op_move rfl) rfl (by simp) ?_
  refine al_call into130 rfl rfl rfl (rd_lift rfl (fun _ => rfl) (hF v0 i hi) _ (by rfl)) (by simp) ?_; rintro _ _ (⟨g10, i10, d10, hx10, rfl, rfl⟩ | ⟨a10, j10, hx10, rfl, rfl⟩)
  ·exact rdk_bad (by rw [show m = 0 by omega]; exact hx10) rfl
  refine al_op (op_store_ptr info37 rfl rfl rfl rfl rfl rfl (by first | rfl | exact live_one rfl | (repeat (first | exact all_live_nil | refine all_live_clo rfl ?_ | refine all_live_slice rfl ?_ | refine all_live_map rfl ?_ | refine all_live_ptr rfl ?_))) (Nat.le_of_ble_eq_true rfl)) rfl (by simp) ?_
  refine al_nil ?_
  refine aw_ret ?_
  refine ⟨_, res_cell rfl Tryz.underlying37 info37 rfl rfl rfl rfl, ?_⟩
  exact rdk_ok a10 j10 (by rw [show m = 0 by omega]; exact hx10) rfl
 ·have gh1 := h1
  try simp only [nrm] at h1
  refine aw_skip ?_
  refine aw_seq ?_
  refine aw_region ?_
  refine al_op (op_move rfl) rfl (by simp) ?_
  refine al_op (op_move rfl) rfl (by simp) ?_
  refine al_op (op_add rfl rfl (by first | exact wrap_i64 (by omega) (by omega))) rfl (by simp) ?_
  have hm : m ≠ 0 := by omega
  refine al_call into78 rfl rfl rfl (rd_lift rfl (fun _ => rfl) (hR hm v0 i hi) _ (by rfl)) (by simp) ?_; rintro _ _ (⟨g14, i14, d14, hx14, rfl, rfl⟩ | ⟨a14, j14, hx14, rfl, rfl⟩)
  ·exact rdk_bad (row_bad hm hx14) rfl
  have hgt14 := row_gt (factor_gt d) _ _ _ _ hx14
  (refine al_opR (op_alloc 5 info37 rfl rfl) rfl (by simp) ?_; rintro _ _ ⟨ver5, rfl, rfl⟩)
  refine al_op (op_store_ptr info37 rfl rfl rfl rfl rfl rfl (by first | rfl | exact live_one rfl | (repeat (first | exact all_live_nil | refine all_live_clo rfl ?_ | refine all_live_slice rfl ?_ | refine all_live_map rfl ?_ | refine all_live_ptr rfl ?_))) (Nat.le_of_ble_eq_true rfl)) rfl (by simp) ?_
  refine al_nil ?_
  refine aw_seq ?_
  refine aw_block ?_
  refine aw_for2T (α := Ex) (β := Nat) [] [6] (fun left j => l.length - j) (fun left j => j ≤ l.length ∧ rowLoop l (rowP l (factor l d) (m - 1)) k (l.length - j) left j = rowP l (factor l d) m i) (fun left j => ([] : Env)) (fun left j st => ([(0, v0, .row 7 [rdr l j d]), (4, ver4, .row 16 [zeroE]), (5, ver5, .row 16 [cellsE left])] : Store)) (a14) (j14) ?_ ?_ ?_ (fun left j hinv => ?_)
  ·exact ⟨by omega, row_ok hm hk hx14⟩
  ·exact sub_nil
  ·rfl
  refine aw_seq ?_
  refine aw_seq ?_
  refine aw_region ?_
  refine al_op (op_move rfl) rfl (by simp) ?_
  refine al_op (op_move rfl) rfl (by simp) ?_
  refine al_callp into131 rfl rfl rfl (e_level k (by omega) _) (by simp) ?_
  refine al_callp into90 rfl rfl rfl (e_isA v0 l hl hn j d (by omega) (by omega) (levelL k) (level_len k) rfl rfl) (by simp) ?_
  refine al_nil ?_
  refine aw_cond rfl (fun h2 => ?_) (fun h2 => ?_)
  ·have gh2 := h2
   try simp only [nrm] at h2
   refine aw_skip ?_
   refine aw_block ?_
   refine aw_seq ?_
   have hltj := isAt_lt h2
   refine aw_region ?_
   refine al_op (op_move rfl) rfl (by simp) ?_
   refine al_callp into91 rfl rfl rfl (e_tokenA v0 l hl hn j d (by omega) (by omega)  rfl rfl) (by simp) ?_
   (refine al_opR (op_alloc 6 info65 rfl rfl) rfl (by simp) ?_; rintro _ _ ⟨ver6, rfl, rfl⟩)
   refine al_op (op_store_ptr info65 rfl rfl rfl rfl rfl rfl (by first | rfl | exact live_one rfl | (repeat (first | exact all_live_nil | refine all_live_clo rfl ?_ | refine all_live_slice rfl ?_ | refine all_live_map rfl ?_ | refine all_live_ptr rfl ?_))) (Nat.le_of_ble_eq_true rfl)) rfl (by simp) ?_
   refine al_nil ?_
   refine aw_seq ?_
   refine aw_region ?_
   refine al_op (op_move rfl) rfl (by simp) ?_
   refine al_op (op_nilCheck_ptr rfl rfl) rfl (by simp) ?_
   refine al_op (op_field_ptr Tryz.underlying105 rfl info3 (by decide) rfl rfl rfl) rfl (by simp) ?_
   refine al_op (op_load_ptr Tryz.underlying3 info3 rfl rfl rfl rfl) rfl (by simp) ?_
   refine al_op (op_add rfl rfl (by first | exact wrap_i64 (by omega) (by omega))) rfl (by simp) ?_
   refine al_op (op_nilCheck_ptr rfl rfl) rfl (by simp) ?_
   refine al_op (op_field_ptr Tryz.underlying105 rfl info3 (by decide) rfl rfl rfl) rfl (by simp) ?_
   refine al_op (op_store_ptr info3 rfl rfl rfl rfl rfl rfl (by first | rfl | exact live_one rfl | (repeat (first | exact all_live_nil | refine all_live_clo rfl ?_ | refine all_live_slice rfl ?_ | refine all_live_map rfl ?_ | refine all_live_ptr rfl ?_))) (Nat.le_of_ble_eq_true rfl)) rfl (by simp) ?_
   refine al_nil ?_
   refine aw_seq ?_
   refine aw_plan [0, 1, 2, 3, 4, 5, 8, 9, 10, 11, 6, 7, 12, 13] (Checked.mixed Tryz.checked) (by kernel_rfl) ?_
   refine afl_float rfl rfl (opk_of (op_field_ptr Tryz.underlying65 rfl info9 (by decide) rfl rfl rfl)) (by simp) ?_
   refine afl_float rfl rfl (opk_of (op_load_ptr Tryz.underlying9 info9 rfl rfl rfl rfl)) (by simp) ?_
   refine afl_float rfl rfl (opk_of (op_load_ptr Tryz.underlying37 info37 rfl rfl rfl rfl)) (by simp) ?_
   refine afl_float rfl rfl (opk_of (op_move rfl)) (by simp) ?_
   refine afl_float rfl rfl (opk_of (op_move rfl)) (by simp) ?_
   refine afl_float rfl rfl (opk_of (op_add rfl rfl (by first | exact wrap_i64 (by omega) (by omega)))) (by simp) ?_
   refine afl_float rfl rfl (opk_of (op_field_ptr Tryz.underlying65 rfl info3 (by decide) rfl rfl rfl)) (by simp) ?_
   refine afl_float rfl rfl (opk_of (op_load_ptr Tryz.underlying3 info3 rfl rfl rfl rfl)) (by simp) ?_
   refine afl_float rfl rfl (opk_of (op_field_ptr Tryz.underlying65 rfl info3 (by decide) rfl rfl rfl)) (by simp) ?_
   refine afl_float rfl rfl (opk_of (op_load_ptr Tryz.underlying3 info3 rfl rfl rfl rfl)) (by simp) ?_
   refine afl_callP rfl (by kernel_rfl) into78 rfl rfl rfl (rd_lift rfl (fun _ => rfl) (hR hm v0 (j + 1) (by omega)) _ (by rfl)) (by simp) ?_; rintro _ _ (⟨g34, i34, d34, hx34, rfl, rfl⟩ | ⟨a34, j34, hx34, rfl, rfl⟩)
   ·exact rdk_bad (by rw [← hinv.2]; exact loop_bad h2 hx34) rfl
   have hgt34 := row_gt (factor_gt d) _ _ _ _ hx34
   refine ⟨?_, ?_⟩
   ·
    refine loose_k rfl (opk_of (op_load_ptr Tryz.underlying3 info3 rfl rfl rfl rfl)) ?_
    refine loose_k rfl (opk_of (op_field_ptr Tryz.underlying65 rfl info3 (by decide) rfl rfl rfl)) ?_
    refine loose_k rfl (opk_of (op_load_ptr Tryz.underlying3 info3 rfl rfl rfl rfl)) ?_
    refine loose_k rfl (opk_of (op_field_ptr Tryz.underlying65 rfl info3 (by decide) rfl rfl rfl)) ?_
    refine loose_anc 5 rfl (by kernel_rfl) ?_
    refine loose_anc 4 rfl (by kernel_rfl) ?_
    refine loose_anc 3 rfl (by kernel_rfl) ?_
    refine loose_k rfl (opk_of (op_load_ptr Tryz.underlying37 info37 rfl rfl rfl rfl)) ?_
    refine loose_k rfl (opk_of (op_load_ptr Tryz.underlying9 info9 rfl rfl rfl rfl)) ?_
    refine loose_k rfl (opk_of (op_field_ptr Tryz.underlying65 rfl info9 (by decide) rfl rfl rfl)) ?_
    exact loose_nil
   refine afl_float rfl rfl (opk_of (op_list encE [left, a34] Tryz.underlying31 info37 rfl rfl (by decide) rfl (by decide) rfl (by first | rfl | (repeat (first | exact parts_nil | refine parts_cons rfl (by repeat (first | exact all_live_nil | refine all_live_clo rfl ?_ | refine all_live_slice rfl ?_ | refine all_live_map rfl ?_ | refine all_live_ptr rfl ?_)) ?_))) rfl rfl rfl (kids2 _ _))) (by simp) ?_
   refine afl_float rfl rfl (opk_of (val_re (.agg (cellsE (mkE 5 (tokAt l j).text 0 [] [left, a34] (tokAt l j)))) (op_build_struct Tryz.underlying37 info37 rfl place37 rfl (by first | rfl | (repeat (first | exact parts_nil | refine parts_cons rfl (by repeat (first | exact all_live_nil | refine all_live_clo rfl ?_ | refine all_live_slice rfl ?_ | refine all_live_map rfl ?_ | refine all_live_ptr rfl ?_)) ?_))) rfl) (.agg _ _ (by repeat (first | exact reL_nil | refine reL_cons (.same _) ?_ | refine reL_cons (.vnil _) ?_))))) (by simp) ?_
   (refine afl_eff rfl rfl (by kernel_rfl) (op_store_ptr info37 rfl rfl rfl rfl rfl rfl (by first | rfl | exact live_one rfl | (repeat (first | exact all_live_nil | refine all_live_clo rfl ?_ | refine all_live_slice rfl ?_ | refine all_live_map rfl ?_ | refine all_live_ptr rfl ?_))) (Nat.le_of_ble_eq_true rfl)) (by simp) ?_ ?_)
   ·
    refine loose_anc 12 rfl (by kernel_rfl) ?_
    refine loose_anc 7 rfl (by kernel_rfl) ?_
    refine loose_fix rfl ?_
    refine loose_anc 11 rfl (by kernel_rfl) ?_
    refine loose_anc 10 rfl (by kernel_rfl) ?_
    refine loose_anc 9 rfl (by kernel_rfl) ?_
    refine loose_anc 8 rfl (by kernel_rfl) ?_
    refine loose_anc 5 rfl (by kernel_rfl) ?_
    refine loose_anc 4 rfl (by kernel_rfl) ?_
    refine loose_anc 3 rfl (by kernel_rfl) ?_
    refine loose_anc 2 rfl (by kernel_rfl) ?_
    refine loose_anc 1 rfl (by kernel_rfl) ?_
    refine loose_anc 0 rfl (by kernel_rfl) ?_
    exact loose_nil
   refine afl_end ?_
   refine aw_seq ?_
   refine aw_region ?_
   refine al_op (op_move rfl) rfl (by simp) ?_
   refine al_op (op_eql rfl rfl) rfl (by simp) ?_
   refine al_nil ?_
   refine aw_cond rfl (fun h3 => ?_) (fun h3 => ?_)
   ·have gh3 := h3
    try simp only [nrm] at h3
    refine aw_exit ?_
    refine aw_seq ?_
    refine aw_region ?_
    refine al_op (op_load_ptr Tryz.underlying37 info37 rfl rfl rfl rfl) rfl (by simp) ?_
    refine al_op (op_store_ptr info37 rfl rfl rfl rfl rfl rfl (by first | rfl | exact live_one rfl | (repeat (first | exact all_live_nil | refine all_live_clo rfl ?_ | refine all_live_slice rfl ?_ | refine all_live_map rfl ?_ | refine all_live_ptr rfl ?_))) (Nat.le_of_ble_eq_true rfl)) rfl (by simp) ?_
    refine al_nil ?_
    refine aw_ret ?_
    refine ⟨_, res_cell rfl Tryz.underlying37 info37 rfl rfl rfl rfl, ?_⟩
    exact rdk_ok (mkE 5 (tokAt l j).text 0 [] [left, a34] (tokAt l j)) j34 (by rw [← hinv.2]; exact loop_one h2 hx34 (by omega)) rfl
   ·have gh3 := h3
    try simp only [nrm] at h3
    refine aw_skip ?_
    refine ⟨mkE 5 (tokAt l j).text 0 [] [left, a34] (tokAt l j), j34, ?_, ?_, ?_, ?_, ?_⟩
    ·omega
    ·exact ⟨by omega, (loop_step (row_gt (factor_gt d) _) h2 hx34 (by omega)).trans hinv.2⟩
    ·exact sub_nil
    ·repeat (first | exact subx_refl | exact subx_del | refine subx_put rfl ?_)
    ·rfl
  ·have gh2 := h2
   try simp only [nrm] at h2
   refine aw_exit ?_
   refine aw_seq ?_
   refine aw_region ?_
   refine al_op (op_load_ptr Tryz.underlying37 info37 rfl rfl rfl rfl) rfl (by simp) ?_
   refine al_op (op_store_ptr info37 rfl rfl rfl rfl rfl rfl (by first | rfl | exact live_one rfl | (repeat (first | exact all_live_nil | refine all_live_clo rfl ?_ | refine all_live_slice rfl ?_ | refine all_live_map rfl ?_ | refine all_live_ptr rfl ?_))) (Nat.le_of_ble_eq_true rfl)) rfl (by simp) ?_
   refine al_nil ?_
   refine aw_ret ?_
   refine ⟨_, res_cell rfl Tryz.underlying37 info37 rfl rfl rfl rfl, ?_⟩
   exact rdk_ok left j (by rw [← hinv.2]; exact loop_stop h2) rfl
theorem e_expr (v0 : Nat) (l : List Tk) (hl : OKTs l) (hn : l.length ≤ 1000000000) (i d : Nat) (hd : d ≤ 40) (hi : i ≤ l.length) (hR : AC Tryz.prog 78 [.ptr 0 v0 0 0, .v (.int .i64 (0))] (rd v0 l i (d) []) (RdK v0 l (d) encX (rowP l (factor l d) 4 i))) : AC Tryz.prog 40 [.ptr 0 v0 0 0] (rd v0 l i d []) (fun r σ' => RdK v0 l (d) encX (rowD l d 4 i) r σ') := by
 refine ac_enter 5 Tryz.func40 rfl rfl (by simp) ?_
 refine aw_seq ?_
 refine aw_region ?_
 (refine al_opR (op_alloc 2 info37 rfl rfl) rfl (by simp) ?_; rintro _ _ ⟨ver2, rfl, rfl⟩)
 refine al_nil ?_
 refine aw_seq ?_
 refine aw_region ?_
 refine al_op (op_move rfl) rfl (by simp) ?_
 refine al_call into78 rfl rfl rfl (rd_lift rfl (fun _ => rfl) (hR) _ (by rfl)) (by simp) ?_; rintro _ _ (⟨g4, i4, d4, hx4, rfl, rfl⟩ | ⟨a4, j4, hx4, rfl, rfl⟩)
 ·exact rdk_bad (hx4) rfl
 refine al_op (op_store_ptr info37 rfl rfl rfl rfl rfl rfl (by first | rfl | exact live_one rfl | (repeat (first | exact all_live_nil | refine all_live_clo rfl ?_ | refine all_live_slice rfl ?_ | refine all_live_map rfl ?_ | refine all_live_ptr rfl ?_))) (Nat.le_of_ble_eq_true rfl)) rfl (by simp) ?_
 refine al_nil ?_
 refine aw_ret ?_
 refine ⟨_, res_cell rfl Tryz.underlying37 info37 rfl rfl rfl rfl, ?_⟩
 exact rdk_ok a4 j4 hx4 rfl
theorem e_all (l : List Tk) (hl : OKTs l) (hn : l.length ≤ 1000000000)  : ∀ d, d ≤ 40 → (∀ v0 i, i ≤ l.length → AC Tryz.prog 130 [.ptr 0 v0 0 0] (rd v0 l i (d) []) (RdK v0 l (d) encX (factor l d i))) ∧ (∀ v0 i, i ≤ l.length → AC Tryz.prog 40 [.ptr 0 v0 0 0] (rd v0 l i (d) []) (RdK v0 l (d) encX (rowD l d 4 i))) := by
  intro d
  induction d with
  | zero =>
    intro hd
    have hA : ∀ v0 i, i ≤ l.length → AC Tryz.prog 130 [.ptr 0 v0 0 0] (rd v0 l i (0) []) (RdK v0 l (0) encX (factor l 0 i)) := fun v0 i hi => e_factor v0 l hl hn i 0 hd hi (fun h => absurd rfl h) (e_prim v0 l hl hn i 0 hd hi (fun h => absurd rfl h))
    have hW : ∀ m k, k + m = 4 → ∀ v0 i, i ≤ l.length → AC Tryz.prog 78 [.ptr 0 v0 0 0, .v (.int .i64 ((k : Nat) : Int))] (rd v0 l i (0) []) (RdK v0 l (0) encX (rowP l (factor l 0) m i)) := by
      intro m
      induction m with
      | zero => exact fun k hk v0 i hi => e_row v0 l hl hn i 0 hd hi hA 0 k hk (fun h => absurd rfl h)
      | succ m ih => exact fun k hk v0 i hi => e_row v0 l hl hn i 0 hd hi hA (m + 1) k hk (fun _ => ih (k + 1) (by omega))
    exact ⟨hA, fun v0 i hi => e_expr v0 l hl hn i 0 hd hi (hW 4 0 rfl v0 i hi)⟩
  | succ d ih =>
    intro hd
    obtain ⟨h1, h2⟩ := ih (by omega)
    have hA : ∀ v0 i, i ≤ l.length → AC Tryz.prog 130 [.ptr 0 v0 0 0] (rd v0 l i (d + 1) []) (RdK v0 l (d + 1) encX (factor l (d + 1) i)) := fun v0 i hi => e_factor v0 l hl hn i (d + 1) hd hi (fun _ => h1) (e_prim v0 l hl hn i (d + 1) hd hi (fun _ => h2))
    have hW : ∀ m k, k + m = 4 → ∀ v0 i, i ≤ l.length → AC Tryz.prog 78 [.ptr 0 v0 0 0, .v (.int .i64 ((k : Nat) : Int))] (rd v0 l i (d + 1) []) (RdK v0 l (d + 1) encX (rowP l (factor l (d + 1)) m i)) := by
      intro m
      induction m with
      | zero => exact fun k hk v0 i hi => e_row v0 l hl hn i (d + 1) hd hi hA 0 k hk (fun h => absurd rfl h)
      | succ m ih => exact fun k hk v0 i hi => e_row v0 l hl hn i (d + 1) hd hi hA (m + 1) k hk (fun _ => ih (k + 1) (by omega))
    exact ⟨hA, fun v0 i hi => e_expr v0 l hl hn i (d + 1) hd hi (hW 4 0 rfl v0 i hi)⟩
theorem e_inner (l : List Tk) (hl : OKTs l) (hn : l.length ≤ 1000000000)  (hd : 40 ≠ 0) : ∀ v0 i, i ≤ l.length → AC Tryz.prog 40 [.ptr 0 v0 0 0] (rd v0 l i (40 - 1) []) (RdK v0 l (40 - 1) encX (rowD l (40 - 1) 4 i)) := (e_all l hl hn 39 (by decide)).2
end Go.Proofs.YtcgdlhkiecommaaGreatDoor
