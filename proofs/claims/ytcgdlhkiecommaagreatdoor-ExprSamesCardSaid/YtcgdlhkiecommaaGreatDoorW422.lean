import Derived.Test.YtcgdlhkiecommaaGreatDoorW417
import Derived.Test.YtcgdlhkiecommaaGreatDoorFacts
import Derived.Test.YtcgdlhkiecommaaGreatDoorXTop
import Derived.Test.YtcgdlhkiecommaaGreatDoorXTop2

/- Printed walks (gen.py, lexer_ann.py): part 418. -/


set_option linter.unusedVariables false
set_option linter.unusedSimpArgs false
set_option maxRecDepth 20000
set_option maxHeartbeats 40000000
namespace Go.Proofs.YtcgdlhkiecommaaGreatDoor
open Go
theorem e_wexprS (v0 v1 : Nat) (out : List Tk) (d m : Int) (hd0 : 0 ≤ d) (hdm : d ≤ m) (hm : m ≤ 1000000000) (e : Ex) (hz : szE e = true) (hsh : shapeP e = true) (hBT : BTok Tryz.prog e) (ih : ∀ k ∈ e.kids, WX Tryz.prog k) (hno : out.length + (toks e).length ≤ 1000000000) (hdd : d + (dep e : Nat) ≤ 1000000000) : AC Tryz.prog 101 [.ptr 0 v0 0 0, .agg (cellsE (e))] (wr v0 v1 out d m []) (fun r σ' => WrK v0 (out ++ toks e) (d) (max m (d + (dep e : Nat))) r σ') := by
 obtain ⟨z1, z2, z3, z4, z5⟩ := szE_facts hz
 refine ac_enter 122 Tryz.func101 rfl rfl (by simp) ?_
 refine aw_seq ?_
 refine aw_region ?_
 (refine al_opR (op_box 2 rfl rfl (by first | rfl | exact live_one rfl | (repeat (first | exact all_live_nil | refine all_live_clo rfl ?_ | refine all_live_slice rfl ?_ | refine all_live_map rfl ?_ | refine all_live_ptr rfl ?_)))) rfl (by simp) ?_; rintro _ _ ⟨ver2, rfl, rfl⟩)
 (refine al_opR (op_box 3 rfl rfl (by first | rfl | exact live_one rfl | (repeat (first | exact all_live_nil | refine all_live_clo rfl ?_ | refine all_live_slice rfl ?_ | refine all_live_map rfl ?_ | refine all_live_ptr rfl ?_)))) rfl (by simp) ?_; rintro _ _ ⟨ver3, rfl, rfl⟩)
 refine al_nil ?_
 refine aw_seq ?_
 refine aw_region ?_
 refine al_op (op_closure rfl rfl) rfl (by simp) ?_
 refine al_op (op_assign rfl) rfl (by simp) ?_
 refine al_nil ?_
 refine aw_seq ?_
 refine aw_region ?_
 refine al_op (op_load_ptr Tryz.underlying37 info37 rfl rfl rfl rfl) rfl (by simp) ?_
 refine al_callp into144 rfl rfl rfl (e_binds e z1 _) (by simp) ?_
 refine al_op (op_assign rfl) rfl (by simp) ?_
 refine al_nil ?_
 refine aw_block ?_
 refine aw_seq ?_
 refine aw_region ?_
 refine al_op (op_field_ptr Tryz.underlying37 rfl info25 (by decide) rfl rfl rfl) rfl (by simp) ?_
 refine al_op (op_load_ptr Tryz.underlying25 info25 rfl rfl rfl rfl) rfl (by simp) ?_
 refine al_op (op_eql rfl rfl) rfl (by simp) ?_
 refine al_op (op_assign rfl) rfl (by simp) ?_
 refine al_nil ?_
 refine aw_cond rfl (fun h1 => ?_) (fun h1 => ?_)
 ·have gh1 := h1
  try simp only [nrm] at h1
  obtain ⟨ht, hdp⟩ := toks_int gh1
  have hno2 := hno
  rw [ht] at hno2
  simp only [List.length_append, List.length_cons, List.length_nil] at hno2
  have hdd2 := hdd
  rw [hdp] at hdd2
  refine aw_region ?_
  refine al_op (op_load_ptr Tryz.underlying149 info149 rfl rfl rfl rfl) rfl (by simp) ?_
  refine al_op (op_field_ptr Tryz.underlying37 rfl info3 (by decide) rfl rfl rfl) rfl (by simp) ?_
  refine al_op (op_load_ptr Tryz.underlying3 info3 rfl rfl rfl rfl) rfl (by simp) ?_
  refine al_op (op_build_struct Tryz.underlying65 info65 rfl place65 rfl (by first | rfl | (repeat (first | exact parts_nil | refine parts_cons rfl (by repeat (first | exact all_live_nil | refine all_live_clo rfl ?_ | refine all_live_slice rfl ?_ | refine all_live_map rfl ?_ | refine all_live_ptr rfl ?_)) ?_))) rfl) rfl (by simp) ?_
  (refine al_call into145 rfl rfl rfl (wr_lift rfl (e_put v0 v1 (out) d (m) (⟨3, [], e.n, 0, 0⟩) (by first | omega | (simp only [List.length_append, List.length_cons, List.length_nil]; omega))) _ (wr_below (by rfl))) (by simp) ?_; rintro _ _ ⟨v42, rfl, rfl⟩)
  refine al_nil ?_
  refine ⟨_, res_0 rfl, ?_⟩
  rw [ht, hdp]; exact ⟨v42, rfl, wr_eq rfl (by omega)⟩
 ·have gh1 := h1
  try simp only [nrm] at h1
  refine aw_seq ?_
  refine aw_region ?_
  refine al_op (op_field_ptr Tryz.underlying37 rfl info25 (by decide) rfl rfl rfl) rfl (by simp) ?_
  refine al_op (op_load_ptr Tryz.underlying25 info25 rfl rfl rfl rfl) rfl (by simp) ?_
  refine al_op (op_eql rfl rfl) rfl (by simp) ?_
  refine al_op (op_assign rfl) rfl (by simp) ?_
  refine al_nil ?_
  refine aw_cond rfl (fun h2 => ?_) (fun h2 => ?_)
  ·have gh2 := h2
   try simp only [nrm] at h2
   obtain ⟨ht, hdp⟩ := toks_bit gh1 gh2
   have hno2 := hno
   rw [ht] at hno2
   simp only [List.length_append, List.length_cons, List.length_nil] at hno2
   have hdd2 := hdd
   rw [hdp] at hdd2
   refine aw_any (Checked.mixed Tryz.checked) ?_
   apply aany_seg (p := 0) (q := 4) (by kernel_rfl) rfl (by decide)
   ·
    apply ql_plain rfl (op_load_ptr Tryz.underlying149 info149 rfl rfl rfl rfl)
    apply ql_plain rfl (op_move rfl)
    apply ql_call into142 rfl rfl rfl (e_textA ver3 e (hBT.at (.inl gh2) (shape_bits hsh gh1 (.inl gh2)) z4) rfl rfl)
    apply ql_plain rfl (op_build_struct Tryz.underlying65 info65 rfl place65 rfl (by first | rfl | (repeat (first | exact parts_nil | refine parts_cons rfl (by repeat (first | exact all_live_nil | refine all_live_clo rfl ?_ | refine all_live_slice rfl ?_ | refine all_live_map rfl ?_ | refine all_live_ptr rfl ?_)) ?_))) rfl)
    exact ql_nil
   ·simp
   (refine aany_call (by kernel_rfl) rfl into145 rfl rfl rfl (wr_lift rfl (e_put v0 v1 (out) d (m) (⟨4, bitsT e.bits, 0, 0, 0⟩) (by first | omega | (simp only [List.length_append, List.length_cons, List.length_nil]; omega))) _ (wr_below (by rfl))) (by simp) ?_; rintro _ _ ⟨v51, rfl, rfl⟩)
   refine aany_end rfl (by kernel_rfl) ?_
   refine ⟨_, res_0 rfl, ?_⟩
   rw [ht, hdp]; exact ⟨v51, rfl, wr_eq rfl (by omega)⟩
  ·have gh2 := h2
   try simp only [nrm] at h2
   refine aw_seq ?_
   refine aw_region ?_
   refine al_op (op_field_ptr Tryz.underlying37 rfl info25 (by decide) rfl rfl rfl) rfl (by simp) ?_
   refine al_op (op_load_ptr Tryz.underlying25 info25 rfl rfl rfl rfl) rfl (by simp) ?_
   refine al_op (op_eql rfl rfl) rfl (by simp) ?_
   refine al_op (op_assign rfl) rfl (by simp) ?_
   refine al_nil ?_
   refine aw_cond rfl (fun h3 => ?_) (fun h3 => ?_)
   ·have gh3 := h3
    try simp only [nrm] at h3
    obtain ⟨ht, hdp⟩ := toks_vec gh1 gh2 gh3
    have hno2 := hno
    rw [ht] at hno2
    simp only [List.length_append, List.length_cons, List.length_nil] at hno2
    have hdd2 := hdd
    rw [hdp] at hdd2
    refine aw_any (Checked.mixed Tryz.checked) ?_
    apply aany_seg (p := 0) (q := 4) (by kernel_rfl) rfl (by decide)
    ·
     apply ql_plain rfl (op_load_ptr Tryz.underlying149 info149 rfl rfl rfl rfl)
     apply ql_plain rfl (op_move rfl)
     apply ql_call into142 rfl rfl rfl (e_textA ver3 e (hBT.at (.inr gh3) (shape_bits hsh gh1 (.inr ⟨gh2, gh3⟩)) z4) rfl rfl)
     apply ql_plain rfl (op_build_struct Tryz.underlying65 info65 rfl place65 rfl (by first | rfl | (repeat (first | exact parts_nil | refine parts_cons rfl (by repeat (first | exact all_live_nil | refine all_live_clo rfl ?_ | refine all_live_slice rfl ?_ | refine all_live_map rfl ?_ | refine all_live_ptr rfl ?_)) ?_))) rfl)
     exact ql_nil
    ·simp
    (refine aany_call (by kernel_rfl) rfl into145 rfl rfl rfl (wr_lift rfl (e_put v0 v1 (out) d (m) (⟨5, bitsT e.bits, 0, 0, 0⟩) (by first | omega | (simp only [List.length_append, List.length_cons, List.length_nil]; omega))) _ (wr_below (by rfl))) (by simp) ?_; rintro _ _ ⟨v60, rfl, rfl⟩)
    refine aany_end rfl (by kernel_rfl) ?_
    refine ⟨_, res_0 rfl, ?_⟩
    rw [ht, hdp]; exact ⟨v60, rfl, wr_eq rfl (by omega)⟩
   ·have gh3 := h3
    try simp only [nrm] at h3
    refine aw_seq ?_
    refine aw_region ?_
    refine al_op (op_field_ptr Tryz.underlying37 rfl info25 (by decide) rfl rfl rfl) rfl (by simp) ?_
    refine al_op (op_load_ptr Tryz.underlying25 info25 rfl rfl rfl rfl) rfl (by simp) ?_
    refine al_op (op_eql rfl rfl) rfl (by simp) ?_
    refine al_op (op_assign rfl) rfl (by simp) ?_
    refine al_nil ?_
    refine aw_cond rfl (fun h4 => ?_) (fun h4 => ?_)
    ·have gh4 := h4
     try simp only [nrm] at h4
     obtain ⟨ht, hdp⟩ := toks_name gh1 gh2 gh3 gh4
     have hno2 := hno
     rw [ht] at hno2
     simp only [List.length_append, List.length_cons, List.length_nil] at hno2
     have hdd2 := hdd
     rw [hdp] at hdd2
     refine aw_region ?_
     refine al_op (op_load_ptr Tryz.underlying149 info149 rfl rfl rfl rfl) rfl (by simp) ?_
     refine al_op (op_field_ptr Tryz.underlying37 rfl info9 (by decide) rfl rfl rfl) rfl (by simp) ?_
     refine al_op (op_load_ptr Tryz.underlying9 info9 rfl rfl rfl rfl) rfl (by simp) ?_
     refine al_op (op_build_struct Tryz.underlying65 info65 rfl place65 rfl (by first | rfl | (repeat (first | exact parts_nil | refine parts_cons rfl (by repeat (first | exact all_live_nil | refine all_live_clo rfl ?_ | refine all_live_slice rfl ?_ | refine all_live_map rfl ?_ | refine all_live_ptr rfl ?_)) ?_))) rfl) rfl (by simp) ?_
     (refine al_call into145 rfl rfl rfl (wr_lift rfl (e_put v0 v1 (out) d (m) (tkN e.name) (by first | omega | (simp only [List.length_append, List.length_cons, List.length_nil]; omega))) _ (wr_below (by rfl))) (by simp) ?_; rintro _ _ ⟨v69, rfl, rfl⟩)
     refine al_nil ?_
     refine ⟨_, res_0 rfl, ?_⟩
     rw [ht, hdp]; exact ⟨v69, rfl, wr_eq rfl (by omega)⟩
    ·have gh4 := h4
     try simp only [nrm] at h4
     refine aw_seq ?_
     refine aw_region ?_
     refine al_op (op_field_ptr Tryz.underlying37 rfl info25 (by decide) rfl rfl rfl) rfl (by simp) ?_
     refine al_op (op_load_ptr Tryz.underlying25 info25 rfl rfl rfl rfl) rfl (by simp) ?_
     refine al_op (op_eql rfl rfl) rfl (by simp) ?_
     refine al_op (op_assign rfl) rfl (by simp) ?_
     refine al_nil ?_
     refine aw_cond rfl (fun h5 => ?_) (fun h5 => ?_)
     ·have gh5 := h5
      try simp only [nrm] at h5
      have hk := shape_index hsh gh1 gh2 gh3 gh4 gh5
      obtain ⟨ht, hdp⟩ := toks_index gh1 gh2 gh3 gh4 gh5 hk
      have hno2 := hno
      rw [ht] at hno2
      simp only [List.length_append, List.length_cons, List.length_nil] at hno2
      have hdd2 := hdd
      rw [hdp] at hdd2
      have hm0 : e.kids.getD 0 default ∈ e.kids := getD_mem (by omega)
      have hm1 : e.kids.getD 1 default ∈ e.kids := getD_mem (by omega)
      refine aw_seq ?_
      refine aw_any (Checked.mixed Tryz.checked) ?_
      apply aany_seg (p := 0) (q := 5) (by kernel_rfl) rfl (by decide)
      ·
       apply ql_plain rfl (op_load_ptr Tryz.underlying149 info149 rfl rfl rfl rfl)
       apply ql_plain rfl (op_field_ptr Tryz.underlying37 rfl info31 (by decide) rfl rfl rfl)
       apply ql_plain rfl (op_load_ptr Tryz.underlying31 info31 rfl rfl rfl rfl)
       apply ql_plain rfl (val_as (.rptr (cellsE (e.kids.getD 0 default))) (op_index_map default Tryz.underlying31 info37 rfl rfl rfl (by first | (with_reducible exact Int.toNat_natCast _) | rfl) (by omega) (by omega)) (by exact congrArg AVal.rptr (encE_cells _)))
       apply ql_plain rfl (op_load_rptr Tryz.underlying37 info37 rfl rfl)
       exact ql_nil
      ·simp
      (refine aany_call (by kernel_rfl) rfl into146 rfl rfl rfl (wr_lift rfl (e_kid v0 v1 (out) d (m) hd0 (by omega) (by omega) (e.kids.getD 0 default) (z5 _ hm0) (5) (ih _ hm0) (by first | omega | (simp only [List.length_append, List.length_cons, List.length_nil]; omega)) (by omega)) _ (wr_below (by rfl))) (by simp) ?_; rintro _ _ ⟨v79, rfl, rfl⟩)
      refine aany_end rfl (by kernel_rfl) ?_
      refine aw_any (Checked.mixed Tryz.checked) ?_
      apply aany_seg (p := 0) (q := 6) (by kernel_rfl) rfl (by decide)
      ·
       apply ql_plain rfl (op_load_ptr Tryz.underlying149 info149 rfl rfl rfl rfl)
       apply ql_plain rfl (op_field_ptr Tryz.underlying37 rfl info31 (by decide) rfl rfl rfl)
       apply ql_plain rfl (op_load_ptr Tryz.underlying31 info31 rfl rfl rfl rfl)
       apply ql_plain rfl (val_as (.rptr (cellsE (e.kids.getD 1 default))) (op_index_map default Tryz.underlying31 info37 rfl rfl rfl (by first | (with_reducible exact Int.toNat_natCast _) | rfl) (by omega) (by omega)) (by exact congrArg AVal.rptr (encE_cells _)))
       apply ql_plain rfl (op_load_rptr Tryz.underlying37 info37 rfl rfl)
       apply ql_plain rfl (op_list encE [e.kids.getD 1 default] Tryz.underlying31 info37 rfl rfl (by decide) rfl (by decide) rfl (by first | rfl | (repeat (first | exact parts_nil | refine parts_cons rfl (by repeat (first | exact all_live_nil | refine all_live_clo rfl ?_ | refine all_live_slice rfl ?_ | refine all_live_map rfl ?_ | refine all_live_ptr rfl ?_)) ?_))) rfl rfl rfl (by exact kids1 _))
       exact ql_nil
      ·simp
      (refine aany_call (by kernel_rfl) rfl into147 rfl rfl rfl (wr_lift rfl (e_brackets v0 v79 (out ++ kidTk (e.kids.getD 0 default) (5)) d (max m (d + (kidDp (e.kids.getD 0 default) (5) : Nat))) hd0 (by omega) (by omega) [] (by decide) [e.kids.getD 1 default] (by simp) (fun k hk => by rw [List.mem_singleton.1 hk]; exact ih _ hm1) (show _ + (inBr (toks (e.kids.getD 1 default))).length ≤ _ by simp only [List.length_append]; omega) (by simp only [List.map_cons, List.map_nil, maxL]; omega)) _ (wr_below (by rfl))) (by simp) ?_; rintro _ _ ⟨v86, rfl, rfl⟩)
      refine aany_end rfl (by kernel_rfl) ?_
      refine ⟨_, res_0 rfl, ?_⟩
      rw [ht, hdp]; exact ⟨v86, rfl, wr_eq (by simp [sepT]) (by simp only [List.map_cons, List.map_nil, maxL]; omega)⟩
     ·have gh5 := h5
      try simp only [nrm] at h5
      refine aw_seq ?_
      refine aw_region ?_
      refine al_op (op_field_ptr Tryz.underlying37 rfl info25 (by decide) rfl rfl rfl) rfl (by simp) ?_
      refine al_op (op_load_ptr Tryz.underlying25 info25 rfl rfl rfl rfl) rfl (by simp) ?_
      refine al_op (op_eql rfl rfl) rfl (by simp) ?_
      refine al_op (op_assign rfl) rfl (by simp) ?_
      refine al_nil ?_
      refine aw_cond rfl (fun h6 => ?_) (fun h6 => ?_)
      ·have gh6 := h6
       try simp only [nrm] at h6
       have hk := shape_slice hsh gh1 gh2 gh3 gh4 gh5 gh6
       obtain ⟨ht, hdp⟩ := toks_slice gh1 gh2 gh3 gh4 gh5 gh6 hk
       have hno2 := hno
       rw [ht] at hno2
       simp only [List.length_append, List.length_cons, List.length_nil] at hno2
       have hdd2 := hdd
       rw [hdp] at hdd2
       have hm0 : e.kids.getD 0 default ∈ e.kids := getD_mem (by omega)
       refine aw_seq ?_
       refine aw_any (Checked.mixed Tryz.checked) ?_
       apply aany_seg (p := 0) (q := 5) (by kernel_rfl) rfl (by decide)
       ·
        apply ql_plain rfl (op_load_ptr Tryz.underlying149 info149 rfl rfl rfl rfl)
        apply ql_plain rfl (op_field_ptr Tryz.underlying37 rfl info31 (by decide) rfl rfl rfl)
        apply ql_plain rfl (op_load_ptr Tryz.underlying31 info31 rfl rfl rfl rfl)
        apply ql_plain rfl (val_as (.rptr (cellsE (e.kids.getD 0 default))) (op_index_map default Tryz.underlying31 info37 rfl rfl rfl (by first | (with_reducible exact Int.toNat_natCast _) | rfl) (by omega) (by omega)) (by exact congrArg AVal.rptr (encE_cells _)))
        apply ql_plain rfl (op_load_rptr Tryz.underlying37 info37 rfl rfl)
        exact ql_nil
       ·simp
       (refine aany_call (by kernel_rfl) rfl into146 rfl rfl rfl (wr_lift rfl (e_kid v0 v1 (out) d (m) hd0 (by omega) (by omega) (e.kids.getD 0 default) (z5 _ hm0) (5) (ih _ hm0) (by first | omega | (simp only [List.length_append, List.length_cons, List.length_nil]; omega)) (by omega)) _ (wr_below (by rfl))) (by simp) ?_; rintro _ _ ⟨v96, rfl, rfl⟩)
       refine aany_end rfl (by kernel_rfl) ?_
       refine aw_any (Checked.mixed Tryz.checked) ?_
       apply aany_seg (p := 0) (q := 4) (by kernel_rfl) rfl (by decide)
       ·
        apply ql_plain rfl (op_load_ptr Tryz.underlying149 info149 rfl rfl rfl rfl)
        apply ql_plain rfl (op_field_ptr Tryz.underlying37 rfl info31 (by decide) rfl rfl rfl)
        apply ql_plain rfl (op_load_ptr Tryz.underlying31 info31 rfl rfl rfl rfl)
        apply ql_plain rfl (val_as (.list 16 ((e.kids.drop 1).map encE)) (op_cut_map (f := encE) (l := 1) (h := e.kids.length) Tryz.underlying31 info37 rfl rfl (OptI.of rfl rfl) OptI.none (by omega) (by omega)) (by rw [List.take_of_length_le (by simp)]; rfl))
        exact ql_nil
       ·simp
       (refine aany_call (by kernel_rfl) rfl into147 rfl rfl rfl (wr_lift rfl (e_brackets v0 v96 (out ++ kidTk (e.kids.getD 0 default) (5)) d (max m (d + (kidDp (e.kids.getD 0 default) (5) : Nat))) hd0 (by omega) (by omega) sDownto (by decide) (e.kids.drop 1) (by rw [List.length_drop]; omega) (fun k hk => ih k (List.mem_of_mem_drop hk)) (by simp only [List.length_append]; omega) (by omega)) _ (wr_below (by rfl))) (by simp) ?_; rintro _ _ ⟨v101, rfl, rfl⟩)
       refine aany_end rfl (by kernel_rfl) ?_
       refine ⟨_, res_0 rfl, ?_⟩
       rw [ht, hdp]; exact ⟨v101, rfl, wr_eq (by simp) (by omega)⟩
      ·have gh6 := h6
       try simp only [nrm] at h6
       refine aw_seq ?_
       refine aw_region ?_
       refine al_op (op_move rfl) rfl (by simp) ?_
       refine al_op (op_eql rfl rfl) rfl (by simp) ?_
       refine al_op (op_assign rfl) rfl (by simp) ?_
       refine al_nil ?_
       refine aw_cond rfl (fun h7 => ?_) (fun h7 => ?_)
       ·have gh7 := h7
        try simp only [nrm] at h7
        obtain ⟨ht, hdp⟩ := toks_call gh1 gh2 gh3 gh4 gh5 gh6 gh7
        have hno2 := hno
        rw [ht] at hno2
        simp only [List.length_append, List.length_cons, List.length_nil] at hno2
        have hdd2 := hdd
        rw [hdp] at hdd2
        refine aw_seq ?_
        refine aw_region ?_
        refine al_op (op_load_ptr Tryz.underlying149 info149 rfl rfl rfl rfl) rfl (by simp) ?_
        refine al_op (op_field_ptr Tryz.underlying37 rfl info9 (by decide) rfl rfl rfl) rfl (by simp) ?_
        refine al_op (op_load_ptr Tryz.underlying9 info9 rfl rfl rfl rfl) rfl (by simp) ?_
        refine al_op (op_build_struct Tryz.underlying65 info65 rfl place65 rfl (by first | rfl | (repeat (first | exact parts_nil | refine parts_cons rfl (by repeat (first | exact all_live_nil | refine all_live_clo rfl ?_ | refine all_live_slice rfl ?_ | refine all_live_map rfl ?_ | refine all_live_ptr rfl ?_)) ?_))) rfl) rfl (by simp) ?_
        (refine al_call into145 rfl rfl rfl (wr_lift rfl (e_put v0 v1 (out) d (m) (tkN e.name) (by first | omega | (simp only [List.length_append, List.length_cons, List.length_nil]; omega))) _ (wr_below (by rfl))) (by simp) ?_; rintro _ _ ⟨v109, rfl, rfl⟩)
        refine al_nil ?_
        refine aw_region ?_
        refine al_op (op_load_ptr Tryz.underlying149 info149 rfl rfl rfl rfl) rfl (by simp) ?_
        refine al_op (op_field_ptr Tryz.underlying37 rfl info31 (by decide) rfl rfl rfl) rfl (by simp) ?_
        refine al_op (op_load_ptr Tryz.underlying31 info31 rfl rfl rfl rfl) rfl (by simp) ?_
        (refine al_call into147 rfl rfl rfl (wr_lift rfl (e_brackets v0 v109 (out ++ [tkN e.name]) d m hd0 hdm hm sComma (by decide) e.kids z3 ih (by first | omega | (simp only [List.length_append, List.length_cons, List.length_nil]; omega)) (by omega)) _ (wr_below (by rfl))) (by simp) ?_; rintro _ _ ⟨v113, rfl, rfl⟩)
        refine al_nil ?_
        refine ⟨_, res_0 rfl, ?_⟩
        rw [ht, hdp]; exact ⟨v113, rfl, wr_eq (by simp) rfl⟩
       ·have gh7 := h7
        try simp only [nrm] at h7
        refine aw_seq ?_
        refine aw_region ?_
        refine al_op (op_move rfl) rfl (by simp) ?_
        refine al_op (op_eql rfl rfl) rfl (by simp) ?_
        refine al_op (op_assign rfl) rfl (by simp) ?_
        refine al_nil ?_
        refine aw_cond rfl (fun h8 => ?_) (fun h8 => ?_)
        ·have gh8 := h8
         try simp only [nrm] at h8
         have hk := shape_one hsh gh1 gh2 gh3 gh4 gh5 gh6 gh7 gh8
         obtain ⟨ht, hdp⟩ := toks_one gh1 gh2 gh3 gh4 gh5 gh6 gh7 gh8 hk
         have hno2 := hno
         rw [ht] at hno2
         simp only [List.length_append, List.length_cons, List.length_nil] at hno2
         have hdd2 := hdd
         rw [hdp] at hdd2
         have hm0 : e.kids.getD 0 default ∈ e.kids := getD_mem (by omega)
         refine aw_region ?_
         refine al_op (op_load_ptr Tryz.underlying149 info149 rfl rfl rfl rfl) rfl (by simp) ?_
         refine al_op (op_field_ptr Tryz.underlying37 rfl info9 (by decide) rfl rfl rfl) rfl (by simp) ?_
         refine al_op (op_load_ptr Tryz.underlying9 info9 rfl rfl rfl rfl) rfl (by simp) ?_
         refine al_op (op_closure rfl rfl) rfl (by simp) ?_
         (refine al_call into148 rfl rfl rfl (e_within v0 v1 out d m hd0 hdm hm (by omega) e.name z1 _ (by rfl) 149 into149 _ (kidTk (e.kids.getD 0 default) 4) (kidDp (e.kids.getD 0 default) 4) (fun w => e_unary v0 w (out ++ [tkS e.name]) (d + 1) (max m (d + 1)) (by omega) (by omega) (by omega) e hk (z5 _ hm0) (ih _ hm0) (by first | omega | (simp only [List.length_append, List.length_cons, List.length_nil]; omega)) (by omega) ver2 ver3)) (by simp) ?_; rintro _ _ ⟨v121, rfl, rfl⟩)
         refine al_nil ?_
         refine ⟨_, res_0 rfl, ?_⟩
         rw [ht, hdp]; exact ⟨v121, rfl, rfl⟩
        ·have gh8 := h8
         try simp only [nrm] at h8
         refine aw_seq ?_
         refine aw_region ?_
         refine al_op (op_move rfl) rfl (by simp) ?_
         refine al_op (op_assign rfl) rfl (by simp) ?_
         refine al_nil ?_
         refine aw_seq ?_
         refine aw_seq ?_
         refine aw_region ?_
         refine al_op (op_move rfl) rfl (by simp) ?_
         refine al_op (op_eql rfl rfl) rfl (by simp) ?_
         refine al_nil ?_
         refine aw_cond rfl (fun h9 => ?_) (fun h9 => ?_)
         ·have gh9 := h9
          try simp only [nrm] at h9
          have hk := shape_two hsh gh1 gh2 gh3 gh4 gh5 gh6 gh7 gh8
          have hl : leftP (bindsP e) = bindsP e + 1 := by rw [leftP, gh9]; rfl
          have hbr := binds_range e
          obtain ⟨ht, hdp⟩ := (show _ from hl ▸ toks_two gh1 gh2 gh3 gh4 gh5 gh6 gh7 gh8 hk)
          have hno2 := hno
          rw [ht] at hno2
          simp only [List.length_append, List.length_cons, List.length_nil] at hno2
          have hdd2 := hdd
          rw [hdp] at hdd2
          have hm0 : e.kids.getD 0 default ∈ e.kids := getD_mem (by omega)
          have hm1 : e.kids.getD 1 default ∈ e.kids := getD_mem (by omega)
          refine aw_region ?_
          refine al_op (op_move rfl) rfl (by simp) ?_
          refine al_op (op_add rfl rfl (by first | exact wrap_i64 (by omega) (by omega))) rfl (by simp) ?_
          refine al_op (op_assign rfl) rfl (by simp) ?_
          refine al_nil ?_
          refine aw_seq ?_
          refine aw_any (Checked.mixed Tryz.checked) ?_
          apply aany_seg (p := 0) (q := 6) (by kernel_rfl) rfl (by decide)
          ·
           apply ql_plain rfl (op_load_ptr Tryz.underlying149 info149 rfl rfl rfl rfl)
           apply ql_plain rfl (op_field_ptr Tryz.underlying37 rfl info31 (by decide) rfl rfl rfl)
           apply ql_plain rfl (op_load_ptr Tryz.underlying31 info31 rfl rfl rfl rfl)
           apply ql_plain rfl (val_as (.rptr (cellsE (e.kids.getD 0 default))) (op_index_map default Tryz.underlying31 info37 rfl rfl rfl (by first | (with_reducible exact Int.toNat_natCast _) | rfl) (by omega) (by omega)) (by exact congrArg AVal.rptr (encE_cells _)))
           apply ql_plain rfl (op_load_rptr Tryz.underlying37 info37 rfl rfl)
           apply ql_plain rfl (op_move rfl)
           exact ql_nil
          ·simp
          (refine aany_call (by kernel_rfl) rfl into146 rfl rfl rfl (wr_lift rfl (e_kid v0 v1 (out) d (m) hd0 (by omega) (by omega) (e.kids.getD 0 default) (z5 _ hm0) (bindsP e + 1) (ih _ hm0) (by first | omega | (simp only [List.length_append, List.length_cons, List.length_nil]; omega)) (by omega)) _ (wr_below (by rfl))) (by simp) ?_; rintro _ _ ⟨v21, rfl, rfl⟩)
          refine aany_end rfl (by kernel_rfl) ?_
          refine aw_seq ?_
          refine aw_region ?_
          refine al_op (op_load_ptr Tryz.underlying149 info149 rfl rfl rfl rfl) rfl (by simp) ?_
          refine al_op (op_field_ptr Tryz.underlying37 rfl info9 (by decide) rfl rfl rfl) rfl (by simp) ?_
          refine al_op (op_load_ptr Tryz.underlying9 info9 rfl rfl rfl rfl) rfl (by simp) ?_
          (refine al_call into150 rfl rfl rfl (wr_lift rfl (e_symbol v0 v21 (out ++ kidTk (e.kids.getD 0 default) (bindsP e + 1)) d (max m (d + (kidDp (e.kids.getD 0 default) (bindsP e + 1) : Nat))) e.name z1 (by first | omega | (simp only [List.length_append, List.length_cons, List.length_nil]; omega))) _ (wr_below (by rfl))) (by simp) ?_; rintro _ _ ⟨v25, rfl, rfl⟩)
          refine al_nil ?_
          refine aw_any (Checked.mixed Tryz.checked) ?_
          apply aany_seg (p := 0) (q := 7) (by kernel_rfl) rfl (by decide)
          ·
           apply ql_plain rfl (op_load_ptr Tryz.underlying149 info149 rfl rfl rfl rfl)
           apply ql_plain rfl (op_field_ptr Tryz.underlying37 rfl info31 (by decide) rfl rfl rfl)
           apply ql_plain rfl (op_load_ptr Tryz.underlying31 info31 rfl rfl rfl rfl)
           apply ql_plain rfl (val_as (.rptr (cellsE (e.kids.getD 1 default))) (op_index_map default Tryz.underlying31 info37 rfl rfl rfl (by first | (with_reducible exact Int.toNat_natCast _) | rfl) (by omega) (by omega)) (by exact congrArg AVal.rptr (encE_cells _)))
           apply ql_plain rfl (op_load_rptr Tryz.underlying37 info37 rfl rfl)
           apply ql_plain rfl (op_move rfl)
           apply ql_plain rfl (op_add rfl rfl (by first | exact wrap_i64 (by omega) (by omega)))
           exact ql_nil
          ·simp
          (refine aany_call (by kernel_rfl) rfl into146 rfl rfl rfl (wr_lift rfl (e_kid v0 v25 ((out ++ kidTk (e.kids.getD 0 default) (bindsP e + 1)) ++ [tkS e.name]) d (max m (d + (kidDp (e.kids.getD 0 default) (bindsP e + 1) : Nat))) hd0 (by omega) (by omega) (e.kids.getD 1 default) (z5 _ hm1) (bindsP e + 1) (ih _ hm1) (by first | omega | (simp only [List.length_append, List.length_cons, List.length_nil]; omega)) (by omega)) _ (wr_below (by rfl))) (by simp) ?_; rintro _ _ ⟨v33, rfl, rfl⟩)
          refine aany_end rfl (by kernel_rfl) ?_
          refine ⟨_, res_0 rfl, ?_⟩
          rw [ht, hdp]; exact ⟨v33, rfl, wr_eq (by simp) (by omega)⟩
         ·have gh9 := h9
          try simp only [nrm] at h9
          have hk := shape_two hsh gh1 gh2 gh3 gh4 gh5 gh6 gh7 gh8
          have hl : leftP (bindsP e) = bindsP e := by rw [leftP, gh9]; rfl
          have hbr := binds_range e
          obtain ⟨ht, hdp⟩ := (show _ from hl ▸ toks_two gh1 gh2 gh3 gh4 gh5 gh6 gh7 gh8 hk)
          have hno2 := hno
          rw [ht] at hno2
          simp only [List.length_append, List.length_cons, List.length_nil] at hno2
          have hdd2 := hdd
          rw [hdp] at hdd2
          have hm0 : e.kids.getD 0 default ∈ e.kids := getD_mem (by omega)
          have hm1 : e.kids.getD 1 default ∈ e.kids := getD_mem (by omega)
          refine aw_skip ?_
          refine aw_seq ?_
          refine aw_any (Checked.mixed Tryz.checked) ?_
          apply aany_seg (p := 0) (q := 6) (by kernel_rfl) rfl (by decide)
          ·
           apply ql_plain rfl (op_load_ptr Tryz.underlying149 info149 rfl rfl rfl rfl)
           apply ql_plain rfl (op_field_ptr Tryz.underlying37 rfl info31 (by decide) rfl rfl rfl)
           apply ql_plain rfl (op_load_ptr Tryz.underlying31 info31 rfl rfl rfl rfl)
           apply ql_plain rfl (val_as (.rptr (cellsE (e.kids.getD 0 default))) (op_index_map default Tryz.underlying31 info37 rfl rfl rfl (by first | (with_reducible exact Int.toNat_natCast _) | rfl) (by omega) (by omega)) (by exact congrArg AVal.rptr (encE_cells _)))
           apply ql_plain rfl (op_load_rptr Tryz.underlying37 info37 rfl rfl)
           apply ql_plain rfl (op_move rfl)
           exact ql_nil
          ·simp
          (refine aany_call (by kernel_rfl) rfl into146 rfl rfl rfl (wr_lift rfl (e_kid v0 v1 (out) d (m) hd0 (by omega) (by omega) (e.kids.getD 0 default) (z5 _ hm0) (bindsP e) (ih _ hm0) (by first | omega | (simp only [List.length_append, List.length_cons, List.length_nil]; omega)) (by omega)) _ (wr_below (by rfl))) (by simp) ?_; rintro _ _ ⟨v21, rfl, rfl⟩)
          refine aany_end rfl (by kernel_rfl) ?_
          refine aw_seq ?_
          refine aw_region ?_
          refine al_op (op_load_ptr Tryz.underlying149 info149 rfl rfl rfl rfl) rfl (by simp) ?_
          refine al_op (op_field_ptr Tryz.underlying37 rfl info9 (by decide) rfl rfl rfl) rfl (by simp) ?_
          refine al_op (op_load_ptr Tryz.underlying9 info9 rfl rfl rfl rfl) rfl (by simp) ?_
          (refine al_call into150 rfl rfl rfl (wr_lift rfl (e_symbol v0 v21 (out ++ kidTk (e.kids.getD 0 default) (bindsP e)) d (max m (d + (kidDp (e.kids.getD 0 default) (bindsP e) : Nat))) e.name z1 (by first | omega | (simp only [List.length_append, List.length_cons, List.length_nil]; omega))) _ (wr_below (by rfl))) (by simp) ?_; rintro _ _ ⟨v25, rfl, rfl⟩)
          refine al_nil ?_
          refine aw_any (Checked.mixed Tryz.checked) ?_
          apply aany_seg (p := 0) (q := 7) (by kernel_rfl) rfl (by decide)
          ·
           apply ql_plain rfl (op_load_ptr Tryz.underlying149 info149 rfl rfl rfl rfl)
           apply ql_plain rfl (op_field_ptr Tryz.underlying37 rfl info31 (by decide) rfl rfl rfl)
           apply ql_plain rfl (op_load_ptr Tryz.underlying31 info31 rfl rfl rfl rfl)
           apply ql_plain rfl (val_as (.rptr (cellsE (e.kids.getD 1 default))) (op_index_map default Tryz.underlying31 info37 rfl rfl rfl (by first | (with_reducible exact Int.toNat_natCast _) | rfl) (by omega) (by omega)) (by exact congrArg AVal.rptr (encE_cells _)))
           apply ql_plain rfl (op_load_rptr Tryz.underlying37 info37 rfl rfl)
           apply ql_plain rfl (op_move rfl)
           apply ql_plain rfl (op_add rfl rfl (by first | exact wrap_i64 (by omega) (by omega)))
           exact ql_nil
          ·simp
          (refine aany_call (by kernel_rfl) rfl into146 rfl rfl rfl (wr_lift rfl (e_kid v0 v25 ((out ++ kidTk (e.kids.getD 0 default) (bindsP e)) ++ [tkS e.name]) d (max m (d + (kidDp (e.kids.getD 0 default) (bindsP e) : Nat))) hd0 (by omega) (by omega) (e.kids.getD 1 default) (z5 _ hm1) (bindsP e + 1) (ih _ hm1) (by first | omega | (simp only [List.length_append, List.length_cons, List.length_nil]; omega)) (by omega)) _ (wr_below (by rfl))) (by simp) ?_; rintro _ _ ⟨v33, rfl, rfl⟩)
          refine aany_end rfl (by kernel_rfl) ?_
          refine ⟨_, res_0 rfl, ?_⟩
          rw [ht, hdp]; exact ⟨v33, rfl, wr_eq (by simp) (by omega)⟩
theorem e_wexpr (e : Ex) : szE e = true → BTok Tryz.prog e → (∃ n, shapesP e n = true) → WX Tryz.prog e := by
  induction e using Ex.ind with
  | h e ih =>
    rintro hz hBT ⟨n, hs⟩
    obtain ⟨z1, z2, z3, z4, z5⟩ := szE_facts hz
    rw [shapesP_eq] at hs
    simp only [Bool.and_eq_true, Bool.not_eq_true'] at hs
    intro v0 v1 out d m τ hb hd0 hdm hm hno hdd
    refine wr_lift rfl (e_wexprS v0 v1 out d m hd0 hdm hm e hz hs.1.2 hBT (fun k hk => ih k hk (z5 k hk) (hBT.kid hk) ⟨n + 1, ?_⟩) hno hdd) τ hb
    have := List.any_eq_false.1 hs.2 k hk
    simpa using this
end Go.Proofs.YtcgdlhkiecommaaGreatDoor

/- Printed walks (gen.py, lexer_ann.py): part 419. -/



set_option linter.unusedVariables false
set_option linter.unusedSimpArgs false
set_option maxRecDepth 20000
set_option maxHeartbeats 40000000
namespace Go.Proofs.YtcgdlhkiecommaaGreatDoor
open Go
theorem e_refS (v0 v1 : Nat) (out : List Tk) (d m : Int) (hd0 : 0 ≤ d) (hdm : d ≤ m) (hm : m ≤ 1000000000) (t : Tr) (hs : t.name.length ≤ 1000000000) (hl : t.len.length ≤ 1000000000) (he : t.elem.length ≤ 1000000000) (hW : ∀ e ∈ t.len, WX Tryz.prog e) (ih : ∀ u ∈ t.elem, WRX Tryz.prog u) (hno : out.length + (toksR t).length ≤ 1000000000) (hdd : d + (depR t : Nat) ≤ 1000000000) : AC Tryz.prog 115 [.ptr 0 v0 0 0, .agg (cellsR t)] (wr v0 v1 out d m []) (fun r σ' => WrK v0 (out ++ toksR t) (d) (max m (d + (depR t : Nat))) r σ') := by
 refine ac_enter 36 Tryz.func115 rfl rfl (by simp) ?_
 refine aw_seq ?_
 refine aw_region ?_
 (refine al_opR (op_box 3 rfl rfl (by first | rfl | exact live_one rfl | (repeat (first | exact all_live_nil | refine all_live_clo rfl ?_ | refine all_live_slice rfl ?_ | refine all_live_map rfl ?_ | refine all_live_ptr rfl ?_)))) rfl (by simp) ?_; rintro _ _ ⟨ver3, rfl, rfl⟩)
 refine al_nil ?_
 refine aw_seq ?_
 refine aw_seq ?_
 refine aw_region ?_
 refine al_op (op_field_ptr Tryz.underlying46 rfl info31 (by decide) rfl rfl rfl) rfl (by simp) ?_
 refine al_op (op_load_ptr Tryz.underlying31 info31 rfl rfl rfl rfl) rfl (by simp) ?_
 refine al_op (op_len_map Tryz.underlying31 rfl) rfl (by simp) ?_
 refine al_op (op_eql rfl rfl) rfl (by simp) ?_
 refine al_nil ?_
 refine aw_cond rfl (fun h1 => ?_) (fun h1 => ?_)
 ·have gh1 := h1
  try simp only [nrm] at h1
  refine aw_seq ?_
  have hno2 := hno
  rw [toksR_eq, gh1] at hno2
  simp only [cond_true, List.length_cons, List.length_nil] at hno2
  refine aw_region ?_
  refine al_op (op_move rfl) rfl (by simp) ?_
  refine al_op (op_field_ptr Tryz.underlying46 rfl info9 (by decide) rfl rfl rfl) rfl (by simp) ?_
  refine al_op (op_load_ptr Tryz.underlying9 info9 rfl rfl rfl rfl) rfl (by simp) ?_
  refine al_op (op_build_struct Tryz.underlying65 info65 rfl place65 rfl (by first | rfl | (repeat (first | exact parts_nil | refine parts_cons rfl (by repeat (first | exact all_live_nil | refine all_live_clo rfl ?_ | refine all_live_slice rfl ?_ | refine all_live_map rfl ?_ | refine all_live_ptr rfl ?_)) ?_))) rfl) rfl (by simp) ?_
  (refine al_call into145 rfl rfl rfl (wr_lift rfl (e_put v0 v1 (out) d (m) (tkN t.name) (by first | omega | (simp only [List.length_append, List.length_cons, List.length_nil]; omega))) _ (wr_below (by rfl))) (by simp) ?_; rintro _ _ ⟨v14, rfl, rfl⟩)
  refine al_nil ?_
  refine aw_ret ?_
  refine ⟨_, res_0 rfl, ?_⟩
  rw [toksR_eq, depR_eq, gh1]; exact ⟨v14, rfl, wr_eq rfl (by simp only [cond_true]; omega)⟩
 ·have gh1 := h1
  try simp only [nrm] at h1
  refine aw_skip ?_
  refine aw_seq ?_
  have hno2 := hno
  rw [toksR_eq, gh1] at hno2
  simp only [cond_false, List.length_cons, List.length_append] at hno2
  have hdd2 := hdd
  rw [depR_eq, gh1] at hdd2
  simp only [cond_false] at hdd2
  refine aw_region ?_
  refine al_op (op_move rfl) rfl (by simp) ?_
  refine al_op (op_field_ptr Tryz.underlying46 rfl info9 (by decide) rfl rfl rfl) rfl (by simp) ?_
  refine al_op (op_load_ptr Tryz.underlying9 info9 rfl rfl rfl rfl) rfl (by simp) ?_
  (refine al_call into150 rfl rfl rfl (wr_lift rfl (e_symbol v0 v1 out d m t.name hs (by omega)) _ (wr_below (by rfl))) (by simp) ?_; rintro _ _ ⟨v18, rfl, rfl⟩)
  refine al_nil ?_
  refine aw_seq ?_
  refine aw_region ?_
  refine al_op (op_move rfl) rfl (by simp) ?_
  refine al_op (op_field_ptr Tryz.underlying46 rfl info31 (by decide) rfl rfl rfl) rfl (by simp) ?_
  refine al_op (op_load_ptr Tryz.underlying31 info31 rfl rfl rfl rfl) rfl (by simp) ?_
  (refine al_call into147 rfl rfl rfl (wr_lift rfl (e_brackets v0 v18 (out ++ [tkS t.name]) d m hd0 hdm hm [] (by decide) t.len hl hW (by first | omega | (simp only [List.length_append, List.length_cons, List.length_nil]; omega)) (by omega)) _ (wr_below (by rfl))) (by simp) ?_; rintro _ _ ⟨v22, rfl, rfl⟩)
  refine al_nil ?_
  refine aw_seq ?_
  refine aw_region ?_
  refine al_op (op_field_ptr Tryz.underlying46 rfl info44 (by decide) rfl rfl rfl) rfl (by simp) ?_
  refine al_op (op_load_ptr Tryz.underlying44 info44 rfl rfl rfl rfl) rfl (by simp) ?_
  refine al_op (op_len_map Tryz.underlying44 rfl) rfl (by simp) ?_
  refine al_op (op_move rfl) rfl (by simp) ?_
  refine al_nil ?_
  refine aw_block ?_
  refine aw_for2T (α := Nat) (β := Nat) [26] [5] (fun i w => t.elem.length - i) (fun i w => i ≤ t.elem.length) (fun i w => ([(26, .v (.int .i64 ((i : Nat) : Int)))] : Env)) (fun i w st => wr v0 w ((out ++ tkS t.name :: inBr (sepT [] (t.len.map toks))) ++ toksRs (t.elem.take i)) d (max (max m (d + (maxL (t.len.map dep) + 1 : Nat))) (d + (depRs (t.elem.take i) : Nat))) [(3, ver3, .row 5 [cellsR t])]) (0) (v22) ?_ ?_ ?_ (fun i w hinv => ?_)
  ·exact Nat.zero_le _
  ·refine sub_cons (get_as rfl ?_) ?_; rotate_left; exact sub_nil
   all_goals (first | rfl | simp)
  ·exact (wr_eq (by simp) rfl).trans (wr_rs0 t.elem (by omega))
  refine aw_seq ?_
  refine aw_region ?_
  refine al_op (op_lss rfl rfl) rfl (by simp) ?_
  refine al_nil ?_
  refine aw_seq ?_
  refine aw_cond rfl (fun h2 => ?_) (fun h2 => ?_)
  ·have gh2 := h2
   try simp only [nrm] at h2
   refine aw_skip ?_
   refine aw_seq ?_
   refine aw_block ?_
   refine aw_seq ?_
   have hil : i < t.elem.length := by omega
   have hr1 := rs_len t.elem i (by omega)
   have hr2 := rs_len t.elem (i + 1) (by omega)
   have hr3 := rs_dep t.elem i
   have hr4 := rs_dep t.elem (i + 1)
   rw [rs_take hil, List.length_append, List.length_cons] at hr2
   rw [rsd_take hil] at hr4
   refine aw_region ?_
   refine al_op (val_as (.rptr (cellsR (t.elem.getD i default))) (op_index_map default Tryz.underlying44 info46 rfl rfl rfl (by first | (with_reducible exact Int.toNat_natCast _) | rfl) (by omega) (by omega)) (by exact congrArg AVal.rptr (encR_cells _))) rfl (by simp) ?_
   refine al_op (op_load_rptr Tryz.underlying46 info46 rfl rfl) rfl (by simp) ?_
   (refine al_opR (op_alloc 5 info46 rfl rfl) rfl (by simp) ?_; rintro _ _ ⟨ver5, rfl, rfl⟩)
   refine al_op (op_store_ptr info46 rfl rfl rfl rfl rfl rfl (by first | rfl | exact live_one rfl | (repeat (first | exact all_live_nil | refine all_live_clo rfl ?_ | refine all_live_slice rfl ?_ | refine all_live_map rfl ?_ | refine all_live_ptr rfl ?_))) (Nat.le_of_ble_eq_true rfl)) rfl (by simp) ?_
   refine al_nil ?_
   refine aw_seq ?_
   refine aw_region ?_
   refine al_op (op_move rfl) rfl (by simp) ?_
   (refine al_call into150 rfl rfl rfl (wr_lift rfl (e_symbol v0 w ((out ++ tkS t.name :: inBr (sepT [] (t.len.map toks))) ++ toksRs (t.elem.take i)) d (max (max m (d + (maxL (t.len.map dep) + 1 : Nat))) (d + (depRs (t.elem.take i) : Nat))) sOf (by decide) (by first | omega | (simp only [List.length_append, List.length_cons, List.length_nil]; omega))) _ (wr_below (by rfl))) (by simp) ?_; rintro _ _ ⟨v31, rfl, rfl⟩)
   refine al_nil ?_
   refine aw_region ?_
   refine al_op (op_move rfl) rfl (by simp) ?_
   refine al_op (op_load_ptr Tryz.underlying46 info46 rfl rfl rfl rfl) rfl (by simp) ?_
   (refine al_call into115 rfl rfl rfl (ih (t.elem.getD i default) (getD_mem hil) v0 v31 (((out ++ tkS t.name :: inBr (sepT [] (t.len.map toks))) ++ toksRs (t.elem.take i)) ++ [tkS sOf]) d (max (max m (d + (maxL (t.len.map dep) + 1 : Nat))) (d + (depRs (t.elem.take i) : Nat))) _ (wr_below (by rfl)) hd0 (by omega) (by omega) (by first | omega | (simp only [List.length_append, List.length_cons, List.length_nil]; omega)) (by omega)) (by simp) ?_; rintro _ _ ⟨v34, rfl, rfl⟩)
   refine al_nil ?_
   refine aw_region ?_
   refine al_op (op_add rfl rfl (by first | exact wrap_i64 (by omega) (by omega))) rfl (by simp) ?_
   refine al_op (op_move rfl) rfl (by simp) ?_
   refine al_nil ?_
   refine ⟨i + 1, v34, ?_, ?_, ?_, ?_, ?_⟩
   ·omega
   ·omega
   ·refine sub_cons (get_as rfl ?_) ?_; rotate_left; exact sub_nil
    all_goals (first | rfl | simp)
   ·repeat (first | exact subx_refl | exact subx_del | refine subx_put rfl ?_)
   ·exact wr_rs t.elem i hil
  ·have gh2 := h2
   try simp only [nrm] at h2
   refine aw_exit ?_
   refine ⟨_, res_0 rfl, ?_⟩
   obtain rfl : i = t.elem.length := by omega
   rw [toksR_eq, depR_eq, gh1]
   exact ⟨w, rfl, wr_eq (by rw [List.take_length]; simp) (by rw [List.take_length]; simp only [cond_false]; omega)⟩
end Go.Proofs.YtcgdlhkiecommaaGreatDoor

/- Printed walks (gen.py, lexer_ann.py): part 420. -/



set_option linter.unusedVariables false
set_option linter.unusedSimpArgs false
set_option maxRecDepth 20000
set_option maxHeartbeats 40000000
namespace Go.Proofs.YtcgdlhkiecommaaGreatDoor
open Go
theorem e_write (e : Ex) (hw : OKW Tryz.prog e) (hs : ∃ n, shapesP e n = true) : ACp Tryz.prog 52 [.agg (cellsE (e))] (.tuple [.list 5 ((toks e).map encK), .v (.int .i64 ((dep e : Nat) : Int))]) := by
 refine acp_of rfl ?_
 have hl := hw.l
 have hd := hw.d
 refine ac_enter 11 Tryz.func52 rfl rfl (by simp) ?_
 refine aw_seq ?_
 refine aw_region ?_
 (refine al_opR (op_box 1 rfl rfl (by first | rfl | exact live_one rfl | (repeat (first | exact all_live_nil | refine all_live_clo rfl ?_ | refine all_live_slice rfl ?_ | refine all_live_map rfl ?_ | refine all_live_ptr rfl ?_)))) rfl (by simp) ?_; rintro _ _ ⟨ver1, rfl, rfl⟩)
 refine al_op (op_assign rfl) rfl (by simp) ?_
 refine al_op (op_assign rfl) rfl (by simp) ?_
 refine al_nil ?_
 refine aw_seq ?_
 refine aw_region ?_
 (refine al_opR (op_alloc 4 info123 rfl rfl) rfl (by simp) ?_; rintro _ _ ⟨ver4, rfl, rfl⟩)
 refine al_nil ?_
 refine aw_seq ?_
 refine aw_own_in encK 4 5 5 0 (by decide) rfl rfl rfl (fun vo => ?_)
 refine aw_region ?_
 refine al_op (op_load_ptr Tryz.underlying37 info37 rfl rfl rfl rfl) rfl (by simp) ?_
 (refine al_call into101 rfl rfl rfl (wr_call 4 5 rfl rfl (e_wexpr e hw.z hw.b hs ver4 vo [] 0 0 [] rfl (by omega) (by omega) (by omega) (by simpa using hw.l) (by omega)) rfl rfl (by rfl)) (by simp) ?_; rintro _ _ ⟨v6, rfl, rfl⟩)
 refine al_nil ?_
 refine aw_seq ?_
 refine aw_plan [0, 1, 2, 3, 4, 5] (Checked.mixed Tryz.checked) (by kernel_rfl) ?_
 refine afl_float rfl rfl (opk_of (op_field_ptr Tryz.underlying123 rfl info22 (by decide) rfl rfl rfl)) (by simp) ?_
 refine afl_float rfl rfl (opk_of (op_load_ptr Tryz.underlying22 info22 rfl rfl rfl rfl)) (by simp) ?_
 refine afl_float rfl rfl (opk_of (op_field_ptr Tryz.underlying123 rfl info3 (by decide) rfl rfl rfl)) (by simp) ?_
 refine afl_float rfl rfl (opk_of (op_load_ptr Tryz.underlying3 info3 rfl rfl rfl rfl)) (by simp) ?_
 refine afl_float rfl rfl (opk_of (op_assign rfl)) (by simp) ?_
 refine afl_float rfl rfl (opk_of (op_assign rfl)) (by simp) ?_
 refine afl_end ?_
 refine aw_freeze (fun _ => false) (fsub_cons (t := 2) rfl (by first | exact .leaf _ _ (frz_whole rfl rfl (by first | rfl | (simp; done) | (simp; omega)) (clo_map (fun _ => rfl))) | exact .leaf _ _ (.vnil 5) | exact .leaf _ _ (.nil 5) | exact .leaf _ _ (.same _)) (fsub_cons (t := 3) rfl (.leaf _ _ (.same _)) fsub_nil)) ?_
 refine aw_ret ?_
 refine ⟨_, res_2 rfl rfl rfl rfl rfl, ?_, rfl⟩
 rw [show max (0 : Int) (0 + (dep e : Nat)) = (dep e : Nat) by omega]; rfl
theorem e_writeT (t : Tr) (hw : WRX Tryz.prog t) (hl : (toksR t).length ≤ 1000000000) (hd : depR t ≤ 1000000000) : ACp Tryz.prog 63 [.agg (cellsR t)] (.tuple [.list 5 ((toksR t).map encK), .v (.int .i64 ((depR t : Nat) : Int))]) := by
 refine acp_of rfl ?_
 refine ac_enter 11 Tryz.func63 rfl rfl (by simp) ?_
 refine aw_seq ?_
 refine aw_region ?_
 (refine al_opR (op_box 1 rfl rfl (by first | rfl | exact live_one rfl | (repeat (first | exact all_live_nil | refine all_live_clo rfl ?_ | refine all_live_slice rfl ?_ | refine all_live_map rfl ?_ | refine all_live_ptr rfl ?_)))) rfl (by simp) ?_; rintro _ _ ⟨ver1, rfl, rfl⟩)
 refine al_op (op_assign rfl) rfl (by simp) ?_
 refine al_op (op_assign rfl) rfl (by simp) ?_
 refine al_nil ?_
 refine aw_seq ?_
 refine aw_region ?_
 (refine al_opR (op_alloc 4 info123 rfl rfl) rfl (by simp) ?_; rintro _ _ ⟨ver4, rfl, rfl⟩)
 refine al_nil ?_
 refine aw_seq ?_
 refine aw_own_in encK 4 5 5 0 (by decide) rfl rfl rfl (fun vo => ?_)
 refine aw_region ?_
 refine al_op (op_load_ptr Tryz.underlying46 info46 rfl rfl rfl rfl) rfl (by simp) ?_
 (refine al_call into115 rfl rfl rfl (wr_call 4 5 rfl rfl (hw ver4 vo [] 0 0 [] rfl (by omega) (by omega) (by omega) (by simpa using hl) (by omega)) rfl rfl (by rfl)) (by simp) ?_; rintro _ _ ⟨v6, rfl, rfl⟩)
 refine al_nil ?_
 refine aw_seq ?_
 refine aw_plan [0, 1, 2, 3, 4, 5] (Checked.mixed Tryz.checked) (by kernel_rfl) ?_
 refine afl_float rfl rfl (opk_of (op_field_ptr Tryz.underlying123 rfl info22 (by decide) rfl rfl rfl)) (by simp) ?_
 refine afl_float rfl rfl (opk_of (op_load_ptr Tryz.underlying22 info22 rfl rfl rfl rfl)) (by simp) ?_
 refine afl_float rfl rfl (opk_of (op_field_ptr Tryz.underlying123 rfl info3 (by decide) rfl rfl rfl)) (by simp) ?_
 refine afl_float rfl rfl (opk_of (op_load_ptr Tryz.underlying3 info3 rfl rfl rfl rfl)) (by simp) ?_
 refine afl_float rfl rfl (opk_of (op_assign rfl)) (by simp) ?_
 refine afl_float rfl rfl (opk_of (op_assign rfl)) (by simp) ?_
 refine afl_end ?_
 refine aw_freeze (fun _ => false) (fsub_cons (t := 2) rfl (by first | exact .leaf _ _ (frz_whole rfl rfl (by first | rfl | (simp; done) | (simp; omega)) (clo_map (fun _ => rfl))) | exact .leaf _ _ (.vnil 5) | exact .leaf _ _ (.nil 5) | exact .leaf _ _ (.same _)) (fsub_cons (t := 3) rfl (.leaf _ _ (.same _)) fsub_nil)) ?_
 refine aw_ret ?_
 refine ⟨_, res_2 rfl rfl rfl rfl rfl, ?_, rfl⟩
 rw [show max (0 : Int) (0 + (depR t : Nat)) = (depR t : Nat) by omega]; rfl
theorem e_valid (e : Ex) (hw : OKW Tryz.prog e) : ACp Tryz.prog 25 [.agg (cellsE (e))] (.v (.bool (validP e))) := by
 refine acp_of rfl ?_
 refine ac_enter 15 Tryz.func25 rfl rfl (by simp) ?_
 refine aw_seq ?_
 refine aw_region ?_
 (refine al_opR (op_box 1 rfl rfl (by first | rfl | exact live_one rfl | (repeat (first | exact all_live_nil | refine all_live_clo rfl ?_ | refine all_live_slice rfl ?_ | refine all_live_map rfl ?_ | refine all_live_ptr rfl ?_)))) rfl (by simp) ?_; rintro _ _ ⟨ver1, rfl, rfl⟩)
 refine al_op (op_assign rfl) rfl (by simp) ?_
 refine al_nil ?_
 refine aw_seq ?_
 refine aw_seq ?_
 refine aw_region ?_
 refine al_op (op_load_ptr Tryz.underlying37 info37 rfl rfl rfl rfl) rfl (by simp) ?_
 refine al_callp into56 rfl rfl rfl (e_shapes e hw.z 0 _) (by simp) ?_
 refine al_op (op_not rfl) rfl (by simp) ?_
 refine al_nil ?_
 refine aw_cond rfl (fun h1 => ?_) (fun h1 => ?_)
 ·have gh1 := h1
  try simp only [nrm] at h1
  refine aw_seq ?_
  refine aw_region ?_
  refine al_op (op_assign rfl) rfl (by simp) ?_
  refine al_nil ?_
  refine aw_freeze (fun _ => false) (fsub_cons (t := 2) rfl (.leaf _ _ (.same _)) fsub_nil) ?_
  refine aw_ret ?_
  refine ⟨_, res_1 rfl rfl, ?_, rfl⟩
  rw [validP, show shapesP e 0 = false by simpa using gh1]; rfl
 ·have gh1 := h1
  try simp only [nrm] at h1
  refine aw_skip ?_
  refine aw_seq ?_
  refine aw_region ?_
  refine al_op (op_load_ptr Tryz.underlying37 info37 rfl rfl rfl rfl) rfl (by simp) ?_
  refine al_callp into52 rfl rfl rfl (e_write e hw ⟨0, by simpa using gh1⟩ _) (by simp) ?_
  refine al_op (op_move rfl) rfl (by simp) ?_
  refine al_op (op_extract rfl rfl rfl) rfl (by simp) ?_
  refine al_op (op_extract rfl rfl rfl) rfl (by simp) ?_
  refine al_op (op_assign rfl) rfl (by simp) ?_
  refine al_op (op_assign rfl) rfl (by simp) ?_
  refine al_nil ?_
  refine aw_seq ?_
  refine aw_region ?_
  refine al_op (op_move rfl) rfl (by simp) ?_
  refine al_op (op_leq rfl rfl) rfl (by simp) ?_
  refine al_op (op_assign rfl) rfl (by simp) ?_
  refine al_nil ?_
  refine aw_freeze (fun _ => false) (fsub_cons (t := 2) rfl (.leaf _ _ (.same _)) fsub_nil) ?_
  refine aw_ret ?_
  refine ⟨_, res_1 rfl rfl, ?_, rfl⟩
  rw [validP, show shapesP e 0 = true by simpa using gh1]; rfl
theorem e_textE (e : Ex) (hw : OKW Tryz.prog e) (ht : OKTs (toks e)) : ACp Tryz.prog 23 [.agg (cellsE (e))] (.tuple [.v (.string (str ((textE e).1))), .v (.int .i64 ((textE e).2))]) := by
 refine acp_of rfl ?_
 refine ac_enter 18 Tryz.func23 rfl rfl (by simp) ?_
 refine aw_seq ?_
 refine aw_region ?_
 (refine al_opR (op_box 1 rfl rfl (by first | rfl | exact live_one rfl | (repeat (first | exact all_live_nil | refine all_live_clo rfl ?_ | refine all_live_slice rfl ?_ | refine all_live_map rfl ?_ | refine all_live_ptr rfl ?_)))) rfl (by simp) ?_; rintro _ _ ⟨ver1, rfl, rfl⟩)
 refine al_op (op_assign rfl) rfl (by simp) ?_
 refine al_op (op_assign rfl) rfl (by simp) ?_
 refine al_nil ?_
 refine aw_seq ?_
 refine aw_seq ?_
 refine aw_region ?_
 refine al_op (op_load_ptr Tryz.underlying37 info37 rfl rfl rfl rfl) rfl (by simp) ?_
 refine al_callp into25 rfl rfl rfl (e_valid e hw _) (by simp) ?_
 refine al_op (op_not rfl) rfl (by simp) ?_
 refine al_nil ?_
 refine aw_cond rfl (fun h1 => ?_) (fun h1 => ?_)
 ·have gh1 := h1
  try simp only [nrm] at h1
  refine aw_seq ?_
  refine aw_region ?_
  refine al_op (op_assign rfl) rfl (by simp) ?_
  refine al_op (op_assign rfl) rfl (by simp) ?_
  refine al_nil ?_
  refine aw_freeze (fun _ => false) (fsub_cons (t := 2) rfl (.leaf _ _ (.same _)) (fsub_cons (t := 3) rfl (.leaf _ _ (.same _)) fsub_nil)) ?_
  refine aw_ret ?_
  refine ⟨_, res_2 rfl rfl rfl rfl rfl, ?_, rfl⟩
  rw [textE, show validP e = false by simpa using gh1]; rfl
 ·have gh1 := h1
  try simp only [nrm] at h1
  refine aw_skip ?_
  refine aw_seq ?_
  have hv : validP e = true := by simpa using gh1
  have hv0 : shapesP e 0 = true := by rw [validP, Bool.and_eq_true] at hv; exact hv.1
  refine aw_region ?_
  refine al_op (op_load_ptr Tryz.underlying37 info37 rfl rfl rfl rfl) rfl (by simp) ?_
  refine al_callp into52 rfl rfl rfl (e_write e hw ⟨0, hv0⟩ _) (by simp) ?_
  refine al_op (op_move rfl) rfl (by simp) ?_
  refine al_op (op_extract rfl rfl rfl) rfl (by simp) ?_
  refine al_op (op_extract rfl rfl rfl) rfl (by simp) ?_
  refine al_op (op_assign rfl) rfl (by simp) ?_
  refine al_op (op_assign rfl) rfl (by simp) ?_
  refine al_nil ?_
  refine aw_seq ?_
  refine aw_region ?_
  refine al_op (op_move rfl) rfl (by simp) ?_
  refine al_callp into53 rfl rfl rfl (c_Text (toks e) ht hw.l _) (by simp) ?_
  refine al_op (op_extract rfl rfl rfl) rfl (by simp) ?_
  refine al_op (op_extract rfl rfl rfl) rfl (by simp) ?_
  refine al_op (op_assign rfl) rfl (by simp) ?_
  refine al_op (op_assign rfl) rfl (by simp) ?_
  refine al_nil ?_
  refine aw_freeze (fun _ => false) (fsub_cons (t := 2) rfl (.leaf _ _ (.same _)) (fsub_cons (t := 3) rfl (.leaf _ _ (.same _)) fsub_nil)) ?_
  refine aw_ret ?_
  refine ⟨_, res_2 rfl rfl rfl rfl rfl, ?_, rfl⟩
  rw [textE, hv]; rfl
end Go.Proofs.YtcgdlhkiecommaaGreatDoor

/- Printed walks (gen.py, lexer_ann.py): part 421. -/


set_option linter.unusedVariables false
set_option linter.unusedSimpArgs false
set_option maxRecDepth 20000
set_option maxHeartbeats 40000000
namespace Go.Proofs.YtcgdlhkiecommaaGreatDoor
open Go
theorem e_isTarget (e : Ex) (hz : szE e = true) (n : Nat) (hs : shapesP e n = true) : ACp Tryz.prog 59 [.agg (cellsE (e))] (.v (.bool (isTargP e))) := by
 refine acp_of rfl ?_
 refine ac_enter 34 Tryz.func59 rfl rfl (by simp) ?_
 refine aw_seq ?_
 refine aw_region ?_
 (refine al_opR (op_box 1 rfl rfl (by first | rfl | exact live_one rfl | (repeat (first | exact all_live_nil | refine all_live_clo rfl ?_ | refine all_live_slice rfl ?_ | refine all_live_map rfl ?_ | refine all_live_ptr rfl ?_)))) rfl (by simp) ?_; rintro _ _ ⟨ver1, rfl, rfl⟩)
 refine al_op (op_assign rfl) rfl (by simp) ?_
 refine al_nil ?_
 refine aw_seq ?_
 refine aw_block ?_
 refine aw_forT (ι := Ex) [] [] (fun c => SizeOf.sizeOf c) (fun c => szE c = true ∧ (∃ n, shapesP c n = true) ∧ isTargP c = isTargP e) (fun c => ([] : Env)) (fun c st => ([(1, ver1, .row 16 [cellsE c])] : Store)) (e) ?_ ?_ ?_ (fun c hinv => ?_)
 ·exact ⟨hz, ⟨n, hs⟩, rfl⟩
 ·exact sub_nil
 ·rfl
 refine aw_seq ?_
 refine aw_seq ?_
 refine aw_region ?_
 refine al_op (op_field_ptr Tryz.underlying37 rfl info25 (by decide) rfl rfl rfl) rfl (by simp) ?_
 refine al_op (op_load_ptr Tryz.underlying25 info25 rfl rfl rfl rfl) rfl (by simp) ?_
 refine al_op (op_eql rfl rfl) rfl (by simp) ?_
 refine al_op (op_move rfl) rfl (by simp) ?_
 apply al_or 4 6 10 rfl
 ·intro h1; have gh1 := h1
  try simp only [nrm] at h1
  refine al_take (op_field_ptr Tryz.underlying37 rfl info25 (by decide) rfl rfl rfl) rfl rfl rfl rfl (by simp) ?_
  refine al_take (op_load_ptr Tryz.underlying25 info25 rfl rfl rfl rfl) rfl rfl rfl rfl (by simp) ?_
  refine al_take (op_eql rfl rfl) rfl rfl rfl rfl (by simp) ?_
  refine al_op (op_pick rfl rfl) rfl (by simp) ?_
  refine al_nil ⟨rfl, rfl, rfl, keep_of ?_⟩
  repeat (first | exact subx_refl | exact subx_known rfl gh1 subx_refl | refine subx_put rfl ?_)
 ·intro h1; have gh1 := h1
  try simp only [nrm] at h1
  refine al_pass rfl rfl rfl rfl (by simp) ?_
  refine al_pass rfl rfl rfl rfl (by simp) ?_
  refine al_pass rfl rfl rfl rfl (by simp) ?_
  refine al_op (op_pick rfl rfl) rfl (by simp) ?_
  refine al_nil ⟨rfl, rfl, rfl, keep_of ?_⟩
  repeat (first | exact subx_refl | exact subx_known rfl gh1 subx_refl | refine subx_put rfl ?_)
 refine al_nil ?_
 refine aw_cond rfl (fun h2 => ?_) (fun h2 => ?_)
 ·have gh2 := h2
  try simp only [nrm] at h2
  refine aw_skip ?_
  refine aw_block ?_
  obtain ⟨n, hn⟩ := hinv.2.1
  have hk := targ_kid hn gh2
  have hk0 := hk.1
  refine aw_region ?_
  refine al_op (op_field_ptr Tryz.underlying37 rfl info31 (by decide) rfl rfl rfl) rfl (by simp) ?_
  refine al_op (op_load_ptr Tryz.underlying31 info31 rfl rfl rfl rfl) rfl (by simp) ?_
  refine al_op (val_as (.rptr (cellsE (c.kids.getD 0 default))) (op_index_map default Tryz.underlying31 info37 rfl rfl rfl (by first | (with_reducible exact Int.toNat_natCast _) | rfl) (by omega) (by omega)) (by exact congrArg AVal.rptr (encE_cells _))) rfl (by simp) ?_
  refine al_op (op_load_rptr Tryz.underlying37 info37 rfl rfl) rfl (by simp) ?_
  refine al_op (op_store_ptr info37 rfl rfl rfl rfl rfl rfl (by first | rfl | exact live_one rfl | (repeat (first | exact all_live_nil | refine all_live_clo rfl ?_ | refine all_live_slice rfl ?_ | refine all_live_map rfl ?_ | refine all_live_ptr rfl ?_))) (Nat.le_of_ble_eq_true rfl)) rfl (by simp) ?_
  refine al_nil ?_
  refine ⟨c.kids.getD 0 default, ?_, ?_, ?_, ?_, ?_⟩
  ·exact Ex.sz_kid (getD_mem hk.1)
  ·exact ⟨(szE_facts hinv.1).2.2.2.2 _ (getD_mem hk.1), hk.2.1, hk.2.2.trans hinv.2.2⟩
  ·exact sub_nil
  ·repeat (first | exact subx_refl | exact subx_del | refine subx_put rfl ?_)
  ·rfl
 ·have gh2 := h2
  try simp only [nrm] at h2
  refine aw_exit ?_
  refine aw_seq ?_
  obtain ⟨z1, _⟩ := szE_facts hinv.1
  refine aw_region ?_
  refine al_op (op_field_ptr Tryz.underlying37 rfl info25 (by decide) rfl rfl rfl) rfl (by simp) ?_
  refine al_op (op_load_ptr Tryz.underlying25 info25 rfl rfl rfl rfl) rfl (by simp) ?_
  refine al_op (op_eql rfl rfl) rfl (by simp) ?_
  refine al_op (op_move rfl) rfl (by simp) ?_
  apply al_or 15 18 33 rfl
  ·intro h3; have gh3 := h3
   try simp only [nrm] at h3
   refine al_take (op_field_ptr Tryz.underlying37 rfl info25 (by decide) rfl rfl rfl) rfl rfl rfl rfl (by simp) ?_
   refine al_take (op_load_ptr Tryz.underlying25 info25 rfl rfl rfl rfl) rfl rfl rfl rfl (by simp) ?_
   refine al_take (op_eql rfl rfl) rfl rfl rfl rfl (by simp) ?_
   refine al_take (op_move rfl) rfl rfl rfl rfl (by simp) ?_
   apply al_and 5 22 27 rfl
   ·intro h4; have gh4 := h4
    try simp only [nrm] at h4
    refine al_take (op_field_ptr Tryz.underlying37 rfl info31 (by decide) rfl rfl rfl) rfl rfl rfl rfl (by simp) ?_
    refine al_take (op_load_ptr Tryz.underlying31 info31 rfl rfl rfl rfl) rfl rfl rfl rfl (by simp) ?_
    refine al_take (op_len_map Tryz.underlying31 rfl) rfl rfl rfl rfl (by simp) ?_
    refine al_take (op_eql rfl rfl) rfl rfl rfl rfl (by simp) ?_
    refine al_take (op_pick rfl rfl) rfl rfl rfl rfl (by simp) ?_
    refine al_nil ⟨rfl, rfl, rfl, keep_of ?_⟩
    repeat (first | exact subx_refl | exact subx_known rfl gh4 subx_refl | refine subx_put rfl ?_)
   ·intro h4; have gh4 := h4
    try simp only [nrm] at h4
    refine al_pass rfl rfl rfl rfl (by simp) ?_
    refine al_pass rfl rfl rfl rfl (by simp) ?_
    refine al_pass rfl rfl rfl rfl (by simp) ?_
    refine al_pass rfl rfl rfl rfl (by simp) ?_
    refine al_take (op_pick rfl rfl) rfl rfl rfl rfl (by simp) ?_
    refine al_nil ⟨rfl, rfl, rfl, keep_of ?_⟩
    repeat (first | exact subx_refl | exact subx_known rfl gh4 subx_refl | refine subx_put rfl ?_)
   refine al_take (op_move rfl) rfl rfl rfl rfl (by simp) ?_
   apply al_and 4 28 32 rfl
   ·intro h5; have gh5 := h5
    try simp only [nrm] at h5
    refine al_take (op_field_ptr Tryz.underlying37 rfl info9 (by decide) rfl rfl rfl) rfl rfl rfl rfl (by simp) ?_
    refine al_take (op_load_ptr Tryz.underlying9 info9 rfl rfl rfl rfl) rfl rfl rfl rfl (by simp) ?_
    refine al_callp_take into66 rfl rfl rfl rfl rfl rfl (c_isName c.name (by omega) _) (by simp) ?_
    refine al_take (op_pick rfl rfl) rfl rfl rfl rfl (by simp) ?_
    refine al_nil ⟨rfl, rfl, rfl, keep_of ?_⟩
    repeat (first | exact subx_refl | exact subx_known rfl gh5 subx_refl | refine subx_put rfl ?_)
   ·intro h5; have gh5 := h5
    try simp only [nrm] at h5
    refine al_pass rfl rfl rfl rfl (by simp) ?_
    refine al_pass rfl rfl rfl rfl (by simp) ?_
    refine al_pass rfl rfl rfl rfl (by simp) ?_
    refine al_take (op_pick rfl rfl) rfl rfl rfl rfl (by simp) ?_
    refine al_nil ⟨rfl, rfl, rfl, keep_of ?_⟩
    repeat (first | exact subx_refl | exact subx_known rfl gh5 subx_refl | refine subx_put rfl ?_)
   refine al_op (op_pick rfl rfl) rfl (by simp) ?_
   refine al_nil ⟨rfl, rfl, rfl, keep_of ?_⟩
   repeat (first | exact subx_refl | exact subx_known rfl gh3 subx_refl | refine subx_put rfl ?_)
  ·intro h3; have gh3 := h3
   try simp only [nrm] at h3
   refine al_pass rfl rfl rfl rfl (by simp) ?_
   refine al_pass rfl rfl rfl rfl (by simp) ?_
   refine al_pass rfl rfl rfl rfl (by simp) ?_
   refine al_pass rfl rfl rfl rfl (by simp) ?_
   refine al_pass_undef rfl rfl rfl rfl (by simp) ?_
   refine al_pass_undef rfl rfl rfl rfl (by simp) ?_
   refine al_pass_undef rfl rfl rfl rfl (by simp) ?_
   refine al_pass_undef rfl rfl rfl rfl (by simp) ?_
   refine al_pass rfl rfl rfl rfl (by simp) ?_
   refine al_pass rfl rfl rfl rfl (by simp) ?_
   refine al_pass_undef rfl rfl rfl rfl (by simp) ?_
   refine al_pass_undef rfl rfl rfl rfl (by simp) ?_
   refine al_pass_undef rfl rfl rfl rfl (by simp) ?_
   refine al_pass rfl rfl rfl rfl (by simp) ?_
   refine al_op (op_pick rfl rfl) rfl (by simp) ?_
   refine al_nil ⟨rfl, rfl, rfl, keep_of ?_⟩
   repeat (first | exact subx_refl | exact subx_known rfl gh3 subx_refl | refine subx_put rfl ?_)
  refine al_op (op_assign rfl) rfl (by simp) ?_
  refine al_nil ?_
  refine aw_freeze (fun _ => false) (fsub_cons (t := 2) rfl (.leaf _ _ (.same _)) fsub_nil) ?_
  refine aw_ret ?_
  refine ⟨_, res_1 rfl rfl, ?_, rfl⟩
  rw [← hinv.2.2, targ_end gh2] <;> rfl
theorem e_isTargetV (e : Ex) (hw : OKW Tryz.prog e) : ACp Tryz.prog 27 [.agg (cellsE (e))] (.v (.bool (validP e && isTargP e))) := by
 refine acp_of rfl ?_
 refine ac_enter 9 Tryz.func27 rfl rfl (by simp) ?_
 refine aw_seq ?_
 refine aw_region ?_
 (refine al_opR (op_box 1 rfl rfl (by first | rfl | exact live_one rfl | (repeat (first | exact all_live_nil | refine all_live_clo rfl ?_ | refine all_live_slice rfl ?_ | refine all_live_map rfl ?_ | refine all_live_ptr rfl ?_)))) rfl (by simp) ?_; rintro _ _ ⟨ver1, rfl, rfl⟩)
 refine al_op (op_assign rfl) rfl (by simp) ?_
 refine al_nil ?_
 refine aw_seq ?_
 refine aw_region ?_
 refine al_op (op_load_ptr Tryz.underlying37 info37 rfl rfl rfl rfl) rfl (by simp) ?_
 refine al_callp into25 rfl rfl rfl (e_valid e hw _) (by simp) ?_
 refine al_op (op_move rfl) rfl (by simp) ?_
 apply al_and 3 5 8 rfl
 ·intro h1; have gh1 := h1
  try simp only [nrm] at h1
  try (have hv0 : shapesP e 0 = true := by have := gh1; rw [validP, Bool.and_eq_true] at this; exact this.1)
  refine al_take (op_load_ptr Tryz.underlying37 info37 rfl rfl rfl rfl) rfl rfl rfl rfl (by simp) ?_
  refine al_callp_take into59 rfl rfl rfl rfl rfl rfl (e_isTarget e hw.z 0 hv0 _) (by simp) ?_
  refine al_op (op_pick rfl rfl) rfl (by simp) ?_
  refine al_nil ⟨rfl, rfl, rfl, keep_of ?_⟩
  repeat (first | exact subx_refl | exact subx_known rfl gh1 subx_refl | refine subx_put rfl ?_)
 ·intro h1; have gh1 := h1
  try simp only [nrm] at h1
  try (have hv0 : shapesP e 0 = true := by have := gh1; rw [validP, Bool.and_eq_true] at this; exact this.1)
  refine al_pass rfl rfl rfl rfl (by simp) ?_
  refine al_pass rfl rfl rfl rfl (by simp) ?_
  refine al_op (op_pick rfl rfl) rfl (by simp) ?_
  refine al_nil ⟨rfl, rfl, rfl, keep_of ?_⟩
  repeat (first | exact subx_refl | exact subx_known rfl gh1 subx_refl | refine subx_put rfl ?_)
 refine al_op (op_assign rfl) rfl (by simp) ?_
 refine al_nil ?_
 refine aw_freeze (fun _ => false) (fsub_cons (t := 2) rfl (.leaf _ _ (.same _)) fsub_nil) ?_
 refine aw_ret ?_
 refine ⟨_, res_1 rfl rfl, ?_, rfl⟩
 rfl
theorem e_names (e : Ex) (hw : OKW Tryz.prog e) (hlk : (toks e).length ≤ 1000000) : ACp Tryz.prog 29 [.agg (cellsE (e))] (.tuple [.list 1 ((namesE e).1.map encBs), .v (.int .i64 ((namesE e).2))]) := by
 refine acp_of rfl ?_
 refine ac_enter 40 Tryz.func29 rfl rfl (by simp) ?_
 refine aw_seq ?_
 refine aw_region ?_
 (refine al_opR (op_box 1 rfl rfl (by first | rfl | exact live_one rfl | (repeat (first | exact all_live_nil | refine all_live_clo rfl ?_ | refine all_live_slice rfl ?_ | refine all_live_map rfl ?_ | refine all_live_ptr rfl ?_)))) rfl (by simp) ?_; rintro _ _ ⟨ver1, rfl, rfl⟩)
 refine al_op (op_assign rfl) rfl (by simp) ?_
 refine al_op (op_assign rfl) rfl (by simp) ?_
 refine al_nil ?_
 refine aw_seq ?_
 refine aw_seq ?_
 refine aw_region ?_
 refine al_op (op_load_ptr Tryz.underlying37 info37 rfl rfl rfl rfl) rfl (by simp) ?_
 refine al_callp into25 rfl rfl rfl (e_valid e hw _) (by simp) ?_
 refine al_op (op_not rfl) rfl (by simp) ?_
 refine al_nil ?_
 refine aw_cond rfl (fun h1 => ?_) (fun h1 => ?_)
 ·have gh1 := h1
  try simp only [nrm] at h1
  refine aw_seq ?_
  refine aw_region ?_
  refine al_op (op_assign rfl) rfl (by simp) ?_
  refine al_op (op_assign rfl) rfl (by simp) ?_
  refine al_nil ?_
  refine aw_freeze (fun _ => false) (fsub_cons (t := 2) rfl (by first | exact .leaf _ _ (frz_whole rfl rfl (by first | rfl | (simp; done) | (simp; omega)) (clo_map (fun _ => rfl))) | exact .leaf _ _ (.vnil 1) | exact .leaf _ _ (.nil 1) | exact .leaf _ _ (.same _)) (fsub_cons (t := 3) rfl (.leaf _ _ (.same _)) fsub_nil)) ?_
  refine aw_ret ?_
  refine ⟨_, res_2 rfl rfl rfl rfl rfl, ?_, rfl⟩
  rw [namesE, show validP e = false by simpa using gh1]; rfl
 ·have gh1 := h1
  try simp only [nrm] at h1
  refine aw_skip ?_
  refine aw_seq ?_
  refine aw_region ?_
  refine al_op (op_assign rfl) rfl (by simp) ?_
  refine al_nil ?_
  refine aw_seq ?_
  have hv : validP e = true := by simpa using gh1
  have hv0 : shapesP e 0 = true := by have := hv; rw [validP, Bool.and_eq_true] at this; exact this.1
  refine aw_region ?_
  refine al_op (op_load_ptr Tryz.underlying37 info37 rfl rfl rfl rfl) rfl (by simp) ?_
  refine al_callp into52 rfl rfl rfl (e_write e hw ⟨0, hv0⟩ _) (by simp) ?_
  refine al_op (op_move rfl) rfl (by simp) ?_
  refine al_op (op_extract rfl rfl rfl) rfl (by simp) ?_
  refine al_op (op_extract rfl rfl rfl) rfl (by simp) ?_
  refine al_op (op_assign rfl) rfl (by simp) ?_
  refine al_op (op_assign rfl) rfl (by simp) ?_
  refine al_nil ?_
  refine aw_seq ?_
  refine aw_seq ?_
  refine aw_region ?_
  refine al_op (op_move rfl) rfl (by simp) ?_
  refine al_op (op_len_map Tryz.underlying22 rfl) rfl (by simp) ?_
  refine al_op (op_move rfl) rfl (by simp) ?_
  refine al_nil ?_
  refine aw_block ?_
  refine aw_own_map encBs 4 1 4 rfl rfl (fun ver4 => ?_)
  refine aw_for2T (α := Nat) (β := Nat) [4, 19] [8] (fun i ver => (toks e).length - i) (fun i ver => i ≤ (toks e).length) (fun i ver => ([(4, .slice 4 ver 0 (namesT ((toks e).take i)).length), (19, .v (.int .i64 ((i : Nat) : Int)))] : Env)) (fun i ver s => s.put 4 ver (.row 1 ((namesT ((toks e).take i)).map encBs))) (0) (ver4) ?_ ?_ ?_ (fun i ver hinv => ?_)
  ·exact Nat.zero_le _
  ·refine sub_cons (get_as rfl ?_) ?_; rotate_left; refine sub_cons (get_as rfl ?_) ?_; rotate_left; exact sub_nil
   all_goals (first | rfl | (simp; done) | (rw [names_add hil gh4] <;> rfl) | (rw [names_skip hil gh4] <;> rfl))
  ·rfl
  refine aw_seq ?_
  refine aw_region ?_
  refine al_op (op_lss rfl rfl) rfl (by simp) ?_
  refine al_nil ?_
  refine aw_seq ?_
  refine aw_cond rfl (fun h2 => ?_) (fun h2 => ?_)
  ·have gh2 := h2
   try simp only [nrm] at h2
   refine aw_skip ?_
   refine aw_seq ?_
   refine aw_block ?_
   refine aw_seq ?_
   have hil : i < (toks e).length := by omega
   have hnl := namesT_len ((toks e).take i)
   rw [List.length_take] at hnl
   refine aw_region ?_
   refine al_op (op_index_map default Tryz.underlying22 info65 rfl rfl rfl (by first | (with_reducible exact Int.toNat_natCast _) | rfl) (by omega) (by omega)) rfl (by simp) ?_
   refine al_op (op_load_rptr Tryz.underlying65 info65 rfl rfl) rfl (by simp) ?_
   (refine al_opR (op_alloc 8 info65 rfl rfl) rfl (by simp) ?_; rintro _ _ ⟨ver8, rfl, rfl⟩)
   refine al_op (op_store_ptr info65 rfl rfl rfl rfl rfl rfl (by first | rfl | exact live_one rfl | (repeat (first | exact all_live_nil | refine all_live_clo rfl ?_ | refine all_live_slice rfl ?_ | refine all_live_map rfl ?_ | refine all_live_ptr rfl ?_))) (Nat.le_of_ble_eq_true rfl)) rfl (by simp) ?_
   refine al_nil ?_
   refine aw_seq ?_
   refine aw_region ?_
   refine al_op (op_field_ptr Tryz.underlying65 rfl info63 (by decide) rfl rfl rfl) rfl (by simp) ?_
   refine al_op (op_load_ptr Tryz.underlying63 info63 rfl rfl rfl rfl) rfl (by simp) ?_
   refine al_op (op_eql rfl rfl) rfl (by simp) ?_
   refine al_op (op_move rfl) rfl (by simp) ?_
   apply al_and 6 26 32 rfl
   ·intro h3; have gh3 := h3
    try simp only [nrm] at h3
    refine al_take (op_move rfl) rfl rfl rfl rfl (by simp) ?_
    refine al_take (op_field_ptr Tryz.underlying65 rfl info9 (by decide) rfl rfl rfl) rfl rfl rfl rfl (by simp) ?_
    refine al_take (op_load_ptr Tryz.underlying9 info9 rfl rfl rfl rfl) rfl rfl rfl rfl (by simp) ?_
    refine al_callp_take into61 rfl rfl rfl rfl rfl rfl (acp_lent (lend_cons (by first | exact lend_same | exact .leaf _ _ (.vnil _) | exact .leaf _ _ (.nil _) | exact lend_whole rfl (by first | rfl | (simp; done) | (simp; omega)) (clo_map (fun _ => rfl))) (lend_cons (by first | exact lend_same | exact .leaf _ _ (.vnil _) | exact .leaf _ _ (.nil _) | exact lend_whole rfl (by first | rfl | (simp; done) | (simp; omega)) (clo_map (fun _ => rfl))) lend_nil)) (q_member _ _ (by first | assumption | omega | (simp; done) | (simp; omega) | decide)) rfl) (by simp) ?_
    refine al_take (op_not rfl) rfl rfl rfl rfl (by simp) ?_
    refine al_op (op_pick rfl rfl) rfl (by simp) ?_
    refine al_nil ⟨rfl, rfl, rfl, keep_of ?_⟩
    repeat (first | exact subx_refl | exact subx_known rfl gh3 subx_refl | refine subx_put rfl ?_)
   ·intro h3; have gh3 := h3
    try simp only [nrm] at h3
    refine al_pass rfl rfl rfl rfl (by simp) ?_
    refine al_pass rfl rfl rfl rfl (by simp) ?_
    refine al_pass rfl rfl rfl rfl (by simp) ?_
    refine al_pass rfl rfl rfl rfl (by simp) ?_
    refine al_pass rfl rfl rfl rfl (by simp) ?_
    refine al_op (op_pick rfl rfl) rfl (by simp) ?_
    refine al_nil ⟨rfl, rfl, rfl, keep_of ?_⟩
    repeat (first | exact subx_refl | exact subx_known rfl gh3 subx_refl | refine subx_put rfl ?_)
   refine al_nil ?_
   refine aw_cond rfl (fun h4 => ?_) (fun h4 => ?_)
   ·have gh4 := h4
    try simp only [nrm] at h4
    refine aw_region ?_
    refine al_op (op_move rfl) rfl (by simp) ?_
    refine al_op (op_field_ptr Tryz.underlying65 rfl info9 (by decide) rfl rfl rfl) rfl (by simp) ?_
    refine al_op (op_load_ptr Tryz.underlying9 info9 rfl rfl rfl rfl) rfl (by simp) ?_
    refine al_op (op_buildSlice Tryz.underlying32 info9 rfl rfl (by decide) rfl (by decide) rfl (by first | rfl | (repeat (first | exact parts_nil | refine parts_cons rfl (by repeat (first | exact all_live_nil | refine all_live_clo rfl ?_ | refine all_live_slice rfl ?_ | refine all_live_map rfl ?_ | refine all_live_ptr rfl ?_)) ?_))) rfl rfl rfl) rfl (by simp) ?_
    (refine al_opR (op_append_one ((toks e).getD i default).text Tryz.underlying32 Tryz.underlying32 rfl info9 rfl rfl (by decide) rfl rfl rfl (by first | rfl | simp) rfl rfl (by first | omega | (simp; done) | (simp; omega)) (by show _ * 16 ≤ _; first | omega | (simp; done) | (simp; omega))) rfl (by simp) ?_; rintro _ _ ⟨ver37, rfl, rfl⟩)
    refine al_op (op_assign rfl) rfl (by simp) ?_
    refine al_nil ?_
    refine aw_region ?_
    refine al_op (op_add rfl rfl (by first | exact wrap_i64 (by omega) (by omega))) rfl (by simp) ?_
    refine al_op (op_move rfl) rfl (by simp) ?_
    refine al_nil ?_
    refine ⟨i + 1, ver37, ?_, ?_, ?_, ?_, ?_⟩
    ·omega
    ·omega
    ·refine sub_cons (get_as rfl ?_) ?_; rotate_left; refine sub_cons (get_as rfl ?_) ?_; rotate_left; exact sub_nil
     all_goals (first | rfl | (simp; done) | (rw [names_add hil gh4] <;> rfl) | (rw [names_skip hil gh4] <;> rfl))
    ·repeat (first | exact subx_refl | exact subx_del | refine subx_put rfl ?_)
    ·first | (rw [names_add hil gh4] <;> rfl) | (rw [names_skip hil gh4] <;> rfl)
   ·have gh4 := h4
    try simp only [nrm] at h4
    refine aw_skip ?_
    refine aw_region ?_
    refine al_op (op_add rfl rfl (by first | exact wrap_i64 (by omega) (by omega))) rfl (by simp) ?_
    refine al_op (op_move rfl) rfl (by simp) ?_
    refine al_nil ?_
    refine ⟨i + 1, ver, ?_, ?_, ?_, ?_, ?_⟩
    ·omega
    ·omega
    ·refine sub_cons (get_as rfl ?_) ?_; rotate_left; refine sub_cons (get_as rfl ?_) ?_; rotate_left; exact sub_nil
     all_goals (first | rfl | (simp; done) | (rw [names_add hil gh4] <;> rfl) | (rw [names_skip hil gh4] <;> rfl))
    ·repeat (first | exact subx_refl | exact subx_del | refine subx_put rfl ?_)
    ·first | (rw [names_add hil gh4] <;> rfl) | (rw [names_skip hil gh4] <;> rfl)
  ·have gh2 := h2
   try simp only [nrm] at h2
   refine aw_exit ?_
   obtain rfl : i = (toks e).length := by omega
   refine aw_as 4 (.slice 4 ver 0 (namesT (toks e)).length) rfl (by rw [List.take_length]) ?_
   refine aw_seq ?_
   refine aw_region ?_
   refine al_op (op_move rfl) rfl (by simp) ?_
   refine al_op (op_assign rfl) rfl (by simp) ?_
   refine al_op (op_assign rfl) rfl (by simp) ?_
   refine al_nil ?_
   refine aw_freeze (fun _ => false) (fsub_cons (t := 2) rfl (by first | exact .leaf _ _ (frz_whole rfl rfl (by first | rfl | (simp; done) | (simp; omega)) (clo_map (fun _ => rfl))) | exact .leaf _ _ (.vnil 1) | exact .leaf _ _ (.nil 1) | exact .leaf _ _ (.same _)) (fsub_cons (t := 3) rfl (.leaf _ _ (.same _)) fsub_nil)) ?_
   refine aw_ret ?_
   refine ⟨_, res_2 rfl rfl rfl rfl rfl, ?_, rfl⟩
   rw [namesE, hv, List.take_length]; rfl
end Go.Proofs.YtcgdlhkiecommaaGreatDoor

/- Printed walks (gen.py, lexer_ann.py): part 422. -/


set_option linter.unusedVariables false
set_option linter.unusedSimpArgs false
set_option maxRecDepth 20000
set_option maxHeartbeats 40000000
namespace Go.Proofs.YtcgdlhkiecommaaGreatDoor
open Go
theorem e_ref (r : Tr) : OKR Tryz.prog r → shR r → WRX Tryz.prog r := by
  induction r using Tr.ind with
  | h r ih =>
    intro ho hs
    obtain ⟨o1, o2, o3, o4, o5, o6, o7⟩ := OKR_facts ho
    obtain ⟨s1, s2⟩ := shR_facts hs
    intro v0 v1 out d m τ hb hd0 hdm hm hno hdd
    exact wr_lift rfl (e_refS v0 v1 out d m hd0 hdm hm r o1 o2 o3 (fun e he => e_wexpr e (o4 e he).z (o4 e he).b (s1 e he)) (fun u hu => ih u hu (o7 u hu) (s2 u hu)) hno hdd) τ hb
theorem e_deepest (r : Tr) (ho : OKR Tryz.prog r) (hs : shR r) : ACp Tryz.prog 65 [.agg (cellsR r)] (.v (.bool (okR r))) := by
 refine acp_of rfl ?_
 obtain ⟨o1, o2, o3, o4, o5, o6, o7⟩ := OKR_facts ho
 refine ac_enter 12 Tryz.func65 rfl rfl (by simp) ?_
 refine aw_seq ?_
 refine aw_region ?_
 (refine al_opR (op_box 1 rfl rfl (by first | rfl | exact live_one rfl | (repeat (first | exact all_live_nil | refine all_live_clo rfl ?_ | refine all_live_slice rfl ?_ | refine all_live_map rfl ?_ | refine all_live_ptr rfl ?_)))) rfl (by simp) ?_; rintro _ _ ⟨ver1, rfl, rfl⟩)
 refine al_op (op_assign rfl) rfl (by simp) ?_
 refine al_nil ?_
 refine aw_seq ?_
 refine aw_region ?_
 refine al_op (op_load_ptr Tryz.underlying46 info46 rfl rfl rfl rfl) rfl (by simp) ?_
 refine al_callp into63 rfl rfl rfl (e_writeT r (e_ref r ho hs) o5 o6 _) (by simp) ?_
 refine al_op (op_move rfl) rfl (by simp) ?_
 refine al_op (op_extract rfl rfl rfl) rfl (by simp) ?_
 refine al_op (op_extract rfl rfl rfl) rfl (by simp) ?_
 refine al_op (op_assign rfl) rfl (by simp) ?_
 refine al_op (op_assign rfl) rfl (by simp) ?_
 refine al_nil ?_
 refine aw_seq ?_
 refine aw_region ?_
 refine al_op (op_move rfl) rfl (by simp) ?_
 refine al_op (op_leq rfl rfl) rfl (by simp) ?_
 refine al_op (op_assign rfl) rfl (by simp) ?_
 refine al_nil ?_
 refine aw_freeze (fun _ => false) (fsub_cons (t := 2) rfl (.leaf _ _ (.same _)) fsub_nil) ?_
 refine aw_ret ?_
 refine ⟨_, res_1 rfl rfl, ?_, rfl⟩
 rfl
theorem e_validRS (r : Tr) (ho : OKR Tryz.prog r) (ih : ∀ u ∈ r.elem, ACp Tryz.prog 33 [.agg (cellsR u)] (.v (.bool (validR u)))) : ACp Tryz.prog 33 [.agg (cellsR r)] (.v (.bool (validR r))) := by
 refine acp_of rfl ?_
 obtain ⟨o1, o2, o3, o4, o5, o6, o7⟩ := OKR_facts ho
 refine ac_enter 81 Tryz.func33 rfl rfl (by simp) ?_
 refine aw_seq ?_
 refine aw_region ?_
 (refine al_opR (op_box 1 rfl rfl (by first | rfl | exact live_one rfl | (repeat (first | exact all_live_nil | refine all_live_clo rfl ?_ | refine all_live_slice rfl ?_ | refine all_live_map rfl ?_ | refine all_live_ptr rfl ?_)))) rfl (by simp) ?_; rintro _ _ ⟨ver1, rfl, rfl⟩)
 refine al_op (op_assign rfl) rfl (by simp) ?_
 refine al_nil ?_
 refine aw_seq ?_
 refine aw_seq ?_
 refine aw_region ?_
 refine al_op (op_field_ptr Tryz.underlying46 rfl info9 (by decide) rfl rfl rfl) rfl (by simp) ?_
 refine al_op (op_load_ptr Tryz.underlying9 info9 rfl rfl rfl rfl) rfl (by simp) ?_
 refine al_nil ?_
 refine aw_block ?_
 refine aw_seq ?_
 refine aw_region ?_
 refine al_op (op_seql_str rfl rfl) rfl (by simp) ?_
 refine al_op (op_assign rfl) rfl (by simp) ?_
 refine al_nil ?_
 refine aw_cond rfl (fun h1 => ?_) (fun h1 => ?_)
 ·have gh1 := h1
  try simp only [nrm] at h1
  refine aw_seq ?_
  refine aw_region ?_
  refine al_op (op_field_ptr Tryz.underlying46 rfl info31 (by decide) rfl rfl rfl) rfl (by simp) ?_
  refine al_op (op_load_ptr Tryz.underlying31 info31 rfl rfl rfl rfl) rfl (by simp) ?_
  refine al_op (op_len_map Tryz.underlying31 rfl) rfl (by simp) ?_
  refine al_op (op_eql rfl rfl) rfl (by simp) ?_
  refine al_op (op_move rfl) rfl (by simp) ?_
  apply al_and 5 11 16 rfl
  ·intro h2; have gh2 := h2
   try simp only [nrm] at h2
   refine al_take (op_field_ptr Tryz.underlying46 rfl info44 (by decide) rfl rfl rfl) rfl rfl rfl rfl (by simp) ?_
   refine al_take (op_load_ptr Tryz.underlying44 info44 rfl rfl rfl rfl) rfl rfl rfl rfl (by simp) ?_
   refine al_take (op_len_map Tryz.underlying44 rfl) rfl rfl rfl rfl (by simp) ?_
   refine al_take (op_eql rfl rfl) rfl rfl rfl rfl (by simp) ?_
   refine al_op (op_pick rfl rfl) rfl (by simp) ?_
   refine al_nil ⟨rfl, rfl, rfl, keep_of ?_⟩
   repeat (first | exact subx_refl | exact subx_known rfl gh2 subx_refl | refine subx_put rfl ?_)
  ·intro h2; have gh2 := h2
   try simp only [nrm] at h2
   refine al_pass rfl rfl rfl rfl (by simp) ?_
   refine al_pass rfl rfl rfl rfl (by simp) ?_
   refine al_pass rfl rfl rfl rfl (by simp) ?_
   refine al_pass rfl rfl rfl rfl (by simp) ?_
   refine al_op (op_pick rfl rfl) rfl (by simp) ?_
   refine al_nil ⟨rfl, rfl, rfl, keep_of ?_⟩
   repeat (first | exact subx_refl | exact subx_known rfl gh2 subx_refl | refine subx_put rfl ?_)
  refine al_op (op_move rfl) rfl (by simp) ?_
  apply al_and 6 17 23 rfl
  ·intro h3; have gh3 := h3
   try simp only [nrm] at h3
   refine al_take (op_field_ptr Tryz.underlying46 rfl info31 (by decide) rfl rfl rfl) rfl rfl rfl rfl (by simp) ?_
   refine al_take (op_load_ptr Tryz.underlying31 info31 rfl rfl rfl rfl) rfl rfl rfl rfl (by simp) ?_
   refine al_take (val_as (.rptr (cellsE (r.len.getD 0 default))) (op_index_map default Tryz.underlying31 info37 rfl rfl rfl (by first | (with_reducible exact Int.toNat_natCast _) | rfl) (by omega) (by omega)) (by exact congrArg AVal.rptr (encE_cells _))) rfl rfl rfl rfl (by simp) ?_
   refine al_take (op_load_rptr Tryz.underlying37 info37 rfl rfl) rfl rfl rfl rfl (by simp) ?_
   refine al_callp_take into25 rfl rfl rfl rfl rfl rfl (e_valid (r.len.getD 0 default) (o4 _ (getD_mem (by omega))) _) (by simp) ?_
   refine al_op (op_pick rfl rfl) rfl (by simp) ?_
   refine al_nil ⟨rfl, rfl, rfl, keep_of ?_⟩
   repeat (first | exact subx_refl | exact subx_known rfl gh3 subx_refl | refine subx_put rfl ?_)
  ·intro h3; have gh3 := h3
   try simp only [nrm] at h3
   refine al_pass rfl rfl rfl rfl (by simp) ?_
   refine al_pass rfl rfl rfl rfl (by simp) ?_
   refine al_pass rfl rfl rfl rfl (by simp) ?_
   refine al_pass rfl rfl rfl rfl (by simp) ?_
   refine al_pass rfl rfl rfl rfl (by simp) ?_
   refine al_op (op_pick rfl rfl) rfl (by simp) ?_
   refine al_nil ⟨rfl, rfl, rfl, keep_of ?_⟩
   repeat (first | exact subx_refl | exact subx_known rfl gh3 subx_refl | refine subx_put rfl ?_)
  refine al_op (op_move rfl) rfl (by simp) ?_
  apply al_and 3 24 27 rfl
  ·intro h4; have gh4 := h4
   try simp only [nrm] at h4
   refine al_take (op_load_ptr Tryz.underlying46 info46 rfl rfl rfl rfl) rfl rfl rfl rfl (by simp) ?_
   refine al_callp_take into65 rfl rfl rfl rfl rfl rfl (e_deepest r ho (sh_vec (by assumption)) _) (by simp) ?_
   refine al_op (op_pick rfl rfl) rfl (by simp) ?_
   refine al_nil ⟨rfl, rfl, rfl, keep_of ?_⟩
   repeat (first | exact subx_refl | exact subx_known rfl gh4 subx_refl | refine subx_put rfl ?_)
  ·intro h4; have gh4 := h4
   try simp only [nrm] at h4
   refine al_pass rfl rfl rfl rfl (by simp) ?_
   refine al_pass rfl rfl rfl rfl (by simp) ?_
   refine al_op (op_pick rfl rfl) rfl (by simp) ?_
   refine al_nil ⟨rfl, rfl, rfl, keep_of ?_⟩
   repeat (first | exact subx_refl | exact subx_known rfl gh4 subx_refl | refine subx_put rfl ?_)
  refine al_op (op_assign rfl) rfl (by simp) ?_
  refine al_nil ?_
  refine aw_freeze (fun _ => false) (fsub_cons (t := 2) rfl (.leaf _ _ (.same _)) fsub_nil) ?_
  refine aw_ret ?_
  refine ⟨_, res_1 rfl rfl, ?_, rfl⟩
  rw [validR_eq, show (r.name == sVec) = true from gh1]; rfl
 ·have gh1 := h1
  try simp only [nrm] at h1
  refine aw_seq ?_
  refine aw_region ?_
  refine al_op (op_seql_str rfl rfl) rfl (by simp) ?_
  refine al_op (op_assign rfl) rfl (by simp) ?_
  refine al_nil ?_
  refine aw_cond rfl (fun h5 => ?_) (fun h5 => ?_)
  ·have gh5 := h5
   try simp only [nrm] at h5
   refine aw_seq ?_
   refine aw_region ?_
   refine al_op (op_field_ptr Tryz.underlying46 rfl info31 (by decide) rfl rfl rfl) rfl (by simp) ?_
   refine al_op (op_load_ptr Tryz.underlying31 info31 rfl rfl rfl rfl) rfl (by simp) ?_
   refine al_op (op_len_map Tryz.underlying31 rfl) rfl (by simp) ?_
   refine al_op (op_eql rfl rfl) rfl (by simp) ?_
   refine al_op (op_move rfl) rfl (by simp) ?_
   apply al_and 5 34 39 rfl
   ·intro h6; have gh6 := h6
    try simp only [nrm] at h6
    refine al_take (op_field_ptr Tryz.underlying46 rfl info44 (by decide) rfl rfl rfl) rfl rfl rfl rfl (by simp) ?_
    refine al_take (op_load_ptr Tryz.underlying44 info44 rfl rfl rfl rfl) rfl rfl rfl rfl (by simp) ?_
    refine al_take (op_len_map Tryz.underlying44 rfl) rfl rfl rfl rfl (by simp) ?_
    refine al_take (op_eql rfl rfl) rfl rfl rfl rfl (by simp) ?_
    refine al_op (op_pick rfl rfl) rfl (by simp) ?_
    refine al_nil ⟨rfl, rfl, rfl, keep_of ?_⟩
    repeat (first | exact subx_refl | exact subx_known rfl gh6 subx_refl | refine subx_put rfl ?_)
   ·intro h6; have gh6 := h6
    try simp only [nrm] at h6
    refine al_pass rfl rfl rfl rfl (by simp) ?_
    refine al_pass rfl rfl rfl rfl (by simp) ?_
    refine al_pass rfl rfl rfl rfl (by simp) ?_
    refine al_pass rfl rfl rfl rfl (by simp) ?_
    refine al_op (op_pick rfl rfl) rfl (by simp) ?_
    refine al_nil ⟨rfl, rfl, rfl, keep_of ?_⟩
    repeat (first | exact subx_refl | exact subx_known rfl gh6 subx_refl | refine subx_put rfl ?_)
   refine al_op (op_move rfl) rfl (by simp) ?_
   apply al_and 6 40 46 rfl
   ·intro h7; have gh7 := h7
    try simp only [nrm] at h7
    refine al_take (op_field_ptr Tryz.underlying46 rfl info31 (by decide) rfl rfl rfl) rfl rfl rfl rfl (by simp) ?_
    refine al_take (op_load_ptr Tryz.underlying31 info31 rfl rfl rfl rfl) rfl rfl rfl rfl (by simp) ?_
    refine al_take (val_as (.rptr (cellsE (r.len.getD 0 default))) (op_index_map default Tryz.underlying31 info37 rfl rfl rfl (by first | (with_reducible exact Int.toNat_natCast _) | rfl) (by omega) (by omega)) (by exact congrArg AVal.rptr (encE_cells _))) rfl rfl rfl rfl (by simp) ?_
    refine al_take (op_load_rptr Tryz.underlying37 info37 rfl rfl) rfl rfl rfl rfl (by simp) ?_
    refine al_callp_take into25 rfl rfl rfl rfl rfl rfl (e_valid (r.len.getD 0 default) (o4 _ (getD_mem (by omega))) _) (by simp) ?_
    refine al_op (op_pick rfl rfl) rfl (by simp) ?_
    refine al_nil ⟨rfl, rfl, rfl, keep_of ?_⟩
    repeat (first | exact subx_refl | exact subx_known rfl gh7 subx_refl | refine subx_put rfl ?_)
   ·intro h7; have gh7 := h7
    try simp only [nrm] at h7
    refine al_pass rfl rfl rfl rfl (by simp) ?_
    refine al_pass rfl rfl rfl rfl (by simp) ?_
    refine al_pass rfl rfl rfl rfl (by simp) ?_
    refine al_pass rfl rfl rfl rfl (by simp) ?_
    refine al_pass rfl rfl rfl rfl (by simp) ?_
    refine al_op (op_pick rfl rfl) rfl (by simp) ?_
    refine al_nil ⟨rfl, rfl, rfl, keep_of ?_⟩
    repeat (first | exact subx_refl | exact subx_known rfl gh7 subx_refl | refine subx_put rfl ?_)
   refine al_op (op_move rfl) rfl (by simp) ?_
   apply al_and 7 47 54 rfl
   ·intro h8; have gh8 := h8
    try simp only [nrm] at h8
    refine al_take (op_field_ptr Tryz.underlying46 rfl info44 (by decide) rfl rfl rfl) rfl rfl rfl rfl (by simp) ?_
    refine al_take (op_load_ptr Tryz.underlying44 info44 rfl rfl rfl rfl) rfl rfl rfl rfl (by simp) ?_
    refine al_take (val_as (.rptr (cellsR (r.elem.getD 0 default))) (op_index_map default Tryz.underlying44 info46 rfl rfl rfl (by first | (with_reducible exact Int.toNat_natCast _) | rfl) (by omega) (by omega)) (by exact congrArg AVal.rptr (encR_cells _))) rfl rfl rfl rfl (by simp) ?_
    refine al_take (op_field_rptr Tryz.underlying46 rfl info9 (by decide) rfl rfl) rfl rfl rfl rfl (by simp) ?_
    refine al_take (op_load_rptr Tryz.underlying9 info9 rfl rfl) rfl rfl rfl rfl (by simp) ?_
    refine al_take (op_sneq_str rfl rfl) rfl rfl rfl rfl (by simp) ?_
    refine al_op (op_pick rfl rfl) rfl (by simp) ?_
    refine al_nil ⟨rfl, rfl, rfl, keep_of ?_⟩
    repeat (first | exact subx_refl | exact subx_known rfl gh8 subx_refl | refine subx_put rfl ?_)
   ·intro h8; have gh8 := h8
    try simp only [nrm] at h8
    refine al_pass rfl rfl rfl rfl (by simp) ?_
    refine al_pass rfl rfl rfl rfl (by simp) ?_
    refine al_pass rfl rfl rfl rfl (by simp) ?_
    refine al_pass rfl rfl rfl rfl (by simp) ?_
    refine al_pass rfl rfl rfl rfl (by simp) ?_
    refine al_pass rfl rfl rfl rfl (by simp) ?_
    refine al_op (op_pick rfl rfl) rfl (by simp) ?_
    refine al_nil ⟨rfl, rfl, rfl, keep_of ?_⟩
    repeat (first | exact subx_refl | exact subx_known rfl gh8 subx_refl | refine subx_put rfl ?_)
   refine al_op (op_move rfl) rfl (by simp) ?_
   apply al_and 6 55 61 rfl
   ·intro h9; have gh9 := h9
    try simp only [nrm] at h9
    refine al_take (op_field_ptr Tryz.underlying46 rfl info44 (by decide) rfl rfl rfl) rfl rfl rfl rfl (by simp) ?_
    refine al_take (op_load_ptr Tryz.underlying44 info44 rfl rfl rfl rfl) rfl rfl rfl rfl (by simp) ?_
    refine al_take (val_as (.rptr (cellsR (r.elem.getD 0 default))) (op_index_map default Tryz.underlying44 info46 rfl rfl rfl (by first | (with_reducible exact Int.toNat_natCast _) | rfl) (by omega) (by omega)) (by exact congrArg AVal.rptr (encR_cells _))) rfl rfl rfl rfl (by simp) ?_
    refine al_take (op_load_rptr Tryz.underlying46 info46 rfl rfl) rfl rfl rfl rfl (by simp) ?_
    refine al_callp_take into33 rfl rfl rfl rfl rfl rfl (ih (r.elem.getD 0 default) (getD_mem (by omega)) _) (by simp) ?_
    refine al_op (op_pick rfl rfl) rfl (by simp) ?_
    refine al_nil ⟨rfl, rfl, rfl, keep_of ?_⟩
    repeat (first | exact subx_refl | exact subx_known rfl gh9 subx_refl | refine subx_put rfl ?_)
   ·intro h9; have gh9 := h9
    try simp only [nrm] at h9
    refine al_pass rfl rfl rfl rfl (by simp) ?_
    refine al_pass rfl rfl rfl rfl (by simp) ?_
    refine al_pass rfl rfl rfl rfl (by simp) ?_
    refine al_pass rfl rfl rfl rfl (by simp) ?_
    refine al_pass rfl rfl rfl rfl (by simp) ?_
    refine al_op (op_pick rfl rfl) rfl (by simp) ?_
    refine al_nil ⟨rfl, rfl, rfl, keep_of ?_⟩
    repeat (first | exact subx_refl | exact subx_known rfl gh9 subx_refl | refine subx_put rfl ?_)
   refine al_op (op_move rfl) rfl (by simp) ?_
   apply al_and 3 62 65 rfl
   ·intro h10; have gh10 := h10
    try simp only [nrm] at h10
    refine al_take (op_load_ptr Tryz.underlying46 info46 rfl rfl rfl rfl) rfl rfl rfl rfl (by simp) ?_
    refine al_callp_take into65 rfl rfl rfl rfl rfl rfl (e_deepest r ho (sh_arr (by assumption)) _) (by simp) ?_
    refine al_op (op_pick rfl rfl) rfl (by simp) ?_
    refine al_nil ⟨rfl, rfl, rfl, keep_of ?_⟩
    repeat (first | exact subx_refl | exact subx_known rfl gh10 subx_refl | refine subx_put rfl ?_)
   ·intro h10; have gh10 := h10
    try simp only [nrm] at h10
    refine al_pass rfl rfl rfl rfl (by simp) ?_
    refine al_pass rfl rfl rfl rfl (by simp) ?_
    refine al_op (op_pick rfl rfl) rfl (by simp) ?_
    refine al_nil ⟨rfl, rfl, rfl, keep_of ?_⟩
    repeat (first | exact subx_refl | exact subx_known rfl gh10 subx_refl | refine subx_put rfl ?_)
   refine al_op (op_assign rfl) rfl (by simp) ?_
   refine al_nil ?_
   refine aw_freeze (fun _ => false) (fsub_cons (t := 2) rfl (.leaf _ _ (.same _)) fsub_nil) ?_
   refine aw_ret ?_
   refine ⟨_, res_1 rfl rfl, ?_, rfl⟩
   rw [validR_arr (show (r.name == sVec) = false from gh1) (show (r.name == sArray) = true from gh5)]; rfl
  ·have gh5 := h5
   try simp only [nrm] at h5
   refine aw_skip ?_
   refine aw_seq ?_
   refine aw_region ?_
   refine al_op (op_field_ptr Tryz.underlying46 rfl info9 (by decide) rfl rfl rfl) rfl (by simp) ?_
   refine al_op (op_load_ptr Tryz.underlying9 info9 rfl rfl rfl rfl) rfl (by simp) ?_
   refine al_callp into66 rfl rfl rfl (c_isName r.name (by omega) _) (by simp) ?_
   refine al_op (op_move rfl) rfl (by simp) ?_
   apply al_and 5 69 74 rfl
   ·intro h11; have gh11 := h11
    try simp only [nrm] at h11
    refine al_take (op_field_ptr Tryz.underlying46 rfl info31 (by decide) rfl rfl rfl) rfl rfl rfl rfl (by simp) ?_
    refine al_take (op_load_ptr Tryz.underlying31 info31 rfl rfl rfl rfl) rfl rfl rfl rfl (by simp) ?_
    refine al_take (op_len_map Tryz.underlying31 rfl) rfl rfl rfl rfl (by simp) ?_
    refine al_take (op_eql rfl rfl) rfl rfl rfl rfl (by simp) ?_
    refine al_op (op_pick rfl rfl) rfl (by simp) ?_
    refine al_nil ⟨rfl, rfl, rfl, keep_of ?_⟩
    repeat (first | exact subx_refl | exact subx_known rfl gh11 subx_refl | refine subx_put rfl ?_)
   ·intro h11; have gh11 := h11
    try simp only [nrm] at h11
    refine al_pass rfl rfl rfl rfl (by simp) ?_
    refine al_pass rfl rfl rfl rfl (by simp) ?_
    refine al_pass rfl rfl rfl rfl (by simp) ?_
    refine al_pass rfl rfl rfl rfl (by simp) ?_
    refine al_op (op_pick rfl rfl) rfl (by simp) ?_
    refine al_nil ⟨rfl, rfl, rfl, keep_of ?_⟩
    repeat (first | exact subx_refl | exact subx_known rfl gh11 subx_refl | refine subx_put rfl ?_)
   refine al_op (op_move rfl) rfl (by simp) ?_
   apply al_and 5 75 80 rfl
   ·intro h12; have gh12 := h12
    try simp only [nrm] at h12
    refine al_take (op_field_ptr Tryz.underlying46 rfl info44 (by decide) rfl rfl rfl) rfl rfl rfl rfl (by simp) ?_
    refine al_take (op_load_ptr Tryz.underlying44 info44 rfl rfl rfl rfl) rfl rfl rfl rfl (by simp) ?_
    refine al_take (op_len_map Tryz.underlying44 rfl) rfl rfl rfl rfl (by simp) ?_
    refine al_take (op_eql rfl rfl) rfl rfl rfl rfl (by simp) ?_
    refine al_op (op_pick rfl rfl) rfl (by simp) ?_
    refine al_nil ⟨rfl, rfl, rfl, keep_of ?_⟩
    repeat (first | exact subx_refl | exact subx_known rfl gh12 subx_refl | refine subx_put rfl ?_)
   ·intro h12; have gh12 := h12
    try simp only [nrm] at h12
    refine al_pass rfl rfl rfl rfl (by simp) ?_
    refine al_pass rfl rfl rfl rfl (by simp) ?_
    refine al_pass rfl rfl rfl rfl (by simp) ?_
    refine al_pass rfl rfl rfl rfl (by simp) ?_
    refine al_op (op_pick rfl rfl) rfl (by simp) ?_
    refine al_nil ⟨rfl, rfl, rfl, keep_of ?_⟩
    repeat (first | exact subx_refl | exact subx_known rfl gh12 subx_refl | refine subx_put rfl ?_)
   refine al_op (op_assign rfl) rfl (by simp) ?_
   refine al_nil ?_
   refine aw_freeze (fun _ => false) (fsub_cons (t := 2) rfl (.leaf _ _ (.same _)) fsub_nil) ?_
   refine aw_ret ?_
   refine ⟨_, res_1 rfl rfl, ?_, rfl⟩
   rw [validR_eq, show (r.name == sVec) = false from gh1, show (r.name == sArray) = false from gh5]; rfl
theorem e_validR (r : Tr) : OKR Tryz.prog r → ACp Tryz.prog 33 [.agg (cellsR r)] (.v (.bool (validR r))) := by
  induction r using Tr.ind with
  | h r ih =>
    intro ho
    obtain ⟨o1, o2, o3, o4, o5, o6, o7⟩ := OKR_facts ho
    exact e_validRS r ho (fun u hu => ih u hu (o7 u hu))
theorem e_textR (r : Tr) (ho : OKR Tryz.prog r) (ht : OKTs (toksR r)) : ACp Tryz.prog 31 [.agg (cellsR r)] (.tuple [.v (.string (str ((textR r).1))), .v (.int .i64 ((textR r).2))]) := by
 refine acp_of rfl ?_
 obtain ⟨o1, o2, o3, o4, o5, o6, o7⟩ := OKR_facts ho
 refine ac_enter 18 Tryz.func31 rfl rfl (by simp) ?_
 refine aw_seq ?_
 refine aw_region ?_
 (refine al_opR (op_box 1 rfl rfl (by first | rfl | exact live_one rfl | (repeat (first | exact all_live_nil | refine all_live_clo rfl ?_ | refine all_live_slice rfl ?_ | refine all_live_map rfl ?_ | refine all_live_ptr rfl ?_)))) rfl (by simp) ?_; rintro _ _ ⟨ver1, rfl, rfl⟩)
 refine al_op (op_assign rfl) rfl (by simp) ?_
 refine al_op (op_assign rfl) rfl (by simp) ?_
 refine al_nil ?_
 refine aw_seq ?_
 refine aw_seq ?_
 refine aw_region ?_
 refine al_op (op_load_ptr Tryz.underlying46 info46 rfl rfl rfl rfl) rfl (by simp) ?_
 refine al_callp into33 rfl rfl rfl (e_validR r ho _) (by simp) ?_
 refine al_op (op_not rfl) rfl (by simp) ?_
 refine al_nil ?_
 refine aw_cond rfl (fun h1 => ?_) (fun h1 => ?_)
 ·have gh1 := h1
  try simp only [nrm] at h1
  refine aw_seq ?_
  refine aw_region ?_
  refine al_op (op_assign rfl) rfl (by simp) ?_
  refine al_op (op_assign rfl) rfl (by simp) ?_
  refine al_nil ?_
  refine aw_freeze (fun _ => false) (fsub_cons (t := 2) rfl (.leaf _ _ (.same _)) (fsub_cons (t := 3) rfl (.leaf _ _ (.same _)) fsub_nil)) ?_
  refine aw_ret ?_
  refine ⟨_, res_2 rfl rfl rfl rfl rfl, ?_, rfl⟩
  rw [textR, show validR r = false by simpa using gh1]; rfl
 ·have gh1 := h1
  try simp only [nrm] at h1
  refine aw_skip ?_
  refine aw_seq ?_
  have hv : validR r = true := by simpa using gh1
  refine aw_region ?_
  refine al_op (op_load_ptr Tryz.underlying46 info46 rfl rfl rfl rfl) rfl (by simp) ?_
  refine al_callp into63 rfl rfl rfl (e_writeT r (e_ref r ho (validR_sh r hv)) o5 o6 _) (by simp) ?_
  refine al_op (op_move rfl) rfl (by simp) ?_
  refine al_op (op_extract rfl rfl rfl) rfl (by simp) ?_
  refine al_op (op_extract rfl rfl rfl) rfl (by simp) ?_
  refine al_op (op_assign rfl) rfl (by simp) ?_
  refine al_op (op_assign rfl) rfl (by simp) ?_
  refine al_nil ?_
  refine aw_seq ?_
  refine aw_region ?_
  refine al_op (op_move rfl) rfl (by simp) ?_
  refine al_callp into53 rfl rfl rfl (c_Text (toksR r) ht o5 _) (by simp) ?_
  refine al_op (op_extract rfl rfl rfl) rfl (by simp) ?_
  refine al_op (op_extract rfl rfl rfl) rfl (by simp) ?_
  refine al_op (op_assign rfl) rfl (by simp) ?_
  refine al_op (op_assign rfl) rfl (by simp) ?_
  refine al_nil ?_
  refine aw_freeze (fun _ => false) (fsub_cons (t := 2) rfl (.leaf _ _ (.same _)) (fsub_cons (t := 3) rfl (.leaf _ _ (.same _)) fsub_nil)) ?_
  refine aw_ret ?_
  refine ⟨_, res_2 rfl rfl rfl rfl rfl, ?_, rfl⟩
  rw [textR, hv]; rfl
end Go.Proofs.YtcgdlhkiecommaaGreatDoor
