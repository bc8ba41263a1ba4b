/- Printed walks (gen.py, lexer_ann.py): part 305. -/
import Derived.Test.YtbojpddejdmamaaGreatDoorW303
import Derived.Test.YtbojpddejdmamaaGreatDoorFacts
set_option linter.unusedVariables false
set_option linter.unusedSimpArgs false
set_option maxRecDepth 20000
set_option maxHeartbeats 40000000
namespace Go.Proofs.YtbojpddejdmamaaGreatDoor
open Go

theorem q_rest (v0 : Nat) (s : Bs) (hs : s.length ≤ 1000000000) (i : Nat) (hi : i ≤ s.length) : AC Tryz.prog 18 [.ptr 0 v0 0 0] ([(0, v0, .row 4 [scanRow s (i)])]) (fun r σ' => r = .ret (.v (.string (str (s.drop i)))) ∧ σ' = [(0, v0, .row 4 [scanRow s (i)])]) := by
 refine ac_enter 12 Tryz.func18 rfl rfl (by simp) ?_
 refine aw_seq ?_
 refine aw_region ?_
 refine al_op (op_assign rfl) rfl (by simp) ?_
 refine al_nil ?_
 refine aw_seq ?_
 refine aw_any (Checked.mixed Tryz.checked) ?_
 apply aany_seg (p := 0) (q := 10) (by kernel_rfl) rfl (by decide)
 ·
  apply ql_plain rfl (op_move rfl)
  first
    | apply ql_plain rfl (op_nilCheck_rptr rfl)
    | apply ql_plain rfl (op_nilCheck_ptr rfl rfl)
  first
    | apply ql_plain rfl (op_field_rptr Tryz.underlying43 rfl info9 (by decide) rfl rfl)
    | apply ql_plain rfl (op_field_ptr Tryz.underlying43 rfl info9 (by decide) rfl rfl rfl)
  first
    | apply ql_plain rfl (op_load_rptr Tryz.underlying9 info9 rfl rfl)
    | apply ql_plain rfl (op_load_map Tryz.underlying9 info9 rfl rfl (by omega) rfl)
    | apply ql_plain rfl (op_load_ptr Tryz.underlying9 info9 rfl rfl rfl rfl)
  apply ql_plain rfl (op_move rfl)
  first
    | apply ql_plain rfl (op_nilCheck_rptr rfl)
    | apply ql_plain rfl (op_nilCheck_ptr rfl rfl)
  first
    | apply ql_plain rfl (op_field_rptr Tryz.underlying43 rfl info3 (by decide) rfl rfl)
    | apply ql_plain rfl (op_field_ptr Tryz.underlying43 rfl info3 (by decide) rfl rfl rfl)
  first
    | apply ql_plain rfl (op_load_rptr Tryz.underlying3 info3 rfl rfl)
    | apply ql_plain rfl (op_load_map Tryz.underlying3 info3 rfl rfl (by omega) rfl)
    | apply ql_plain rfl (op_load_ptr Tryz.underlying3 info3 rfl rfl rfl rfl)
  apply ql_plain rfl (op_cut_from Tryz.underlying9 rfl (by first | exact .of rfl rfl | exact OptI.ofN rfl (by omega)) (by first | omega | (simp; omega)))
  apply ql_plain rfl (op_assign rfl)
  exact ql_nil
 ·simp
 refine aany_end rfl (by kernel_rfl) ?_
 refine aw_ret ?_
 refine ⟨_, res_1 rfl rfl, ?_⟩
 exact ⟨rfl, rfl⟩
theorem rest_at {σ : Store} (c v0 : Nat) (s : Bs) (hs : s.length ≤ 1000000000) (i : Nat) (hi : i ≤ s.length) (ht : tabOK [c] = true) (hb : σ.below 1000 = true) (h1 : σ.get c = some (v0, .row 4 [scanRow s i])) :
    AC Tryz.prog 18 [.ptr c v0 0 0] σ (fun r σ' => r = .ret (.v (.string (str (s.drop i)))) ∧ σ' = σ) := by
  exact ac_ro [c] ht (q_rest v0 s hs i hi) (⟨h1, trivial⟩ : Store.match (tab [c]) σ [(0, v0, .row 4 [scanRow s (i)])]) (by simp [Store.free, Store.get, List.range_succ]) hb


theorem q_skip (v0 : Nat) (s : Bs) (hs : s.length ≤ 1000000000) (i : Nat) (n : Nat) (hn : i + n ≤ s.length) : AC Tryz.prog 19 [.ptr 0 v0 0 0, .v (.int .i64 ((n : Nat) : Int))] ([(0, v0, .row 4 [scanRow s (i)])]) (fun r σ' => r = .ret (.tuple []) ∧ σ' = [(0, v0, .row 4 [scanRow s (i + n)])]) := by
 refine ac_enter 43 Tryz.func19 rfl rfl (by simp) ?_
 refine aw_seq ?_
 refine aw_region ?_
 refine al_op (op_move rfl) rfl (by simp) ?_
 refine al_op (op_move rfl) rfl (by simp) ?_
 refine al_nil ?_
 refine aw_block ?_
 refine aw_forT (ι := Nat) [5] [] (fun k => n - k) (fun k => k ≤ n) (fun k => ([(5, .v (.int .i64 (k)))] : Env)) (fun k st => [(0, v0, .row 4 [scanRow s (i + k)])]) (0) ?_ ?_ ?_ (fun k hinv => ?_)
 ·exact Nat.zero_le _
 ·refine sub_cons (get_as rfl ?_) ?_; rotate_left; exact sub_nil
  all_goals (first | rfl | simp)
 ·rfl
 refine aw_seq ?_
 refine aw_region ?_
 refine al_op (op_lss rfl rfl) rfl (by simp) ?_
 refine al_nil ?_
 refine aw_seq ?_
 refine aw_cond rfl (fun h1 => ?_) (fun h1 => ?_)
 ·have gh1 := h1
  try simp only [nrm] at h1
  refine aw_skip ?_
  refine aw_seq ?_
  refine aw_block ?_
  refine aw_seq ?_
  have hpl := place_ge s (i + k)
  refine aw_region ?_
  refine al_op (op_move rfl) rfl (by simp) ?_
  first
    | refine al_op (op_nilCheck_rptr rfl) rfl (by simp) ?_
    | refine al_op (op_nilCheck_ptr rfl rfl) rfl (by simp) ?_
  first
    | refine al_op (op_field_rptr Tryz.underlying43 rfl info3 (by decide) rfl rfl) rfl (by simp) ?_
    | refine al_op (op_field_ptr Tryz.underlying43 rfl info3 (by decide) rfl rfl rfl) rfl (by simp) ?_
  first
    | refine al_op (op_load_rptr Tryz.underlying3 info3 rfl rfl) rfl (by simp) ?_
    | refine al_op (op_load_map Tryz.underlying3 info3 rfl rfl (by omega) rfl) rfl (by simp) ?_
    | refine al_op (op_load_ptr Tryz.underlying3 info3 rfl rfl rfl rfl) rfl (by simp) ?_
  refine al_op (op_add rfl rfl (by first | exact wrap_i64 (by omega) (by omega))) rfl (by simp) ?_
  first
    | refine al_op (op_nilCheck_rptr rfl) rfl (by simp) ?_
    | refine al_op (op_nilCheck_ptr rfl rfl) rfl (by simp) ?_
  first
    | refine al_op (op_field_rptr Tryz.underlying43 rfl info3 (by decide) rfl rfl) rfl (by simp) ?_
    | refine al_op (op_field_ptr Tryz.underlying43 rfl info3 (by decide) rfl rfl rfl) rfl (by simp) ?_
  first
    | refine al_op (op_store_ptr info3 rfl rfl rfl rfl rfl rfl (by first | rfl | exact live_one rfl | (repeat (first | exact all_live_nil | refine all_live_clo rfl ?_ | refine all_live_slice rfl ?_ | refine all_live_map rfl ?_ | refine all_live_ptr rfl ?_))) (by decide)) rfl (by simp) ?_
    | refine al_op (op_store_ptr info3 rfl rfl rfl rfl rfl rfl (by first | rfl | exact live_one rfl | (repeat (first | exact all_live_nil | refine all_live_clo rfl ?_ | refine all_live_slice rfl ?_ | refine all_live_map rfl ?_ | refine all_live_ptr rfl ?_))) (Nat.le_of_ble_eq_true rfl)) rfl (by simp) ?_
  refine al_nil ?_
  refine aw_seq ?_
  refine aw_seq ?_
  refine aw_any (Checked.mixed Tryz.checked) ?_
  apply aany_seg (p := 0) (q := 10) (by kernel_rfl) rfl (by decide)
  ·
   apply ql_plain rfl (op_move rfl)
   first
     | apply ql_plain rfl (op_nilCheck_rptr rfl)
     | apply ql_plain rfl (op_nilCheck_ptr rfl rfl)
   first
     | apply ql_plain rfl (op_field_rptr Tryz.underlying43 rfl info9 (by decide) rfl rfl)
     | apply ql_plain rfl (op_field_ptr Tryz.underlying43 rfl info9 (by decide) rfl rfl rfl)
   first
     | apply ql_plain rfl (op_load_rptr Tryz.underlying9 info9 rfl rfl)
     | apply ql_plain rfl (op_load_map Tryz.underlying9 info9 rfl rfl (by omega) rfl)
     | apply ql_plain rfl (op_load_ptr Tryz.underlying9 info9 rfl rfl rfl rfl)
   apply ql_plain rfl (op_move rfl)
   first
     | apply ql_plain rfl (op_nilCheck_rptr rfl)
     | apply ql_plain rfl (op_nilCheck_ptr rfl rfl)
   first
     | apply ql_plain rfl (op_field_rptr Tryz.underlying43 rfl info3 (by decide) rfl rfl)
     | apply ql_plain rfl (op_field_ptr Tryz.underlying43 rfl info3 (by decide) rfl rfl rfl)
   first
     | apply ql_plain rfl (op_load_rptr Tryz.underlying3 info3 rfl rfl)
     | apply ql_plain rfl (op_load_map Tryz.underlying3 info3 rfl rfl (by omega) rfl)
     | apply ql_plain rfl (op_load_ptr Tryz.underlying3 info3 rfl rfl rfl rfl)
   apply ql_plain rfl (op_sidx_str Tryz.underlying9 rfl rfl (by first | (with_reducible exact Int.toNat_natCast _) | rfl) (by omega) (by first | omega | (simp; omega)))
   apply ql_plain rfl (op_eql rfl rfl)
   exact ql_nil
  ·simp
  refine aany_end rfl (by kernel_rfl) ?_
  refine aw_cond rfl (fun h2 => ?_) (fun h2 => ?_)
  ·have gh2 := h2
   try simp only [nrm] at h2
   refine aw_region ?_
   refine al_op (op_move rfl) rfl (by simp) ?_
   refine al_op (op_move rfl) rfl (by simp) ?_
   refine al_op (op_move rfl) rfl (by simp) ?_
   first
     | refine al_op (op_nilCheck_rptr rfl) rfl (by simp) ?_
     | refine al_op (op_nilCheck_ptr rfl rfl) rfl (by simp) ?_
   first
     | refine al_op (op_field_rptr Tryz.underlying43 rfl info3 (by decide) rfl rfl) rfl (by simp) ?_
     | refine al_op (op_field_ptr Tryz.underlying43 rfl info3 (by decide) rfl rfl rfl) rfl (by simp) ?_
   first
     | refine al_op (op_load_rptr Tryz.underlying3 info3 rfl rfl) rfl (by simp) ?_
     | refine al_op (op_load_map Tryz.underlying3 info3 rfl rfl (by omega) rfl) rfl (by simp) ?_
     | refine al_op (op_load_ptr Tryz.underlying3 info3 rfl rfl rfl rfl) rfl (by simp) ?_
   refine al_op (op_add rfl rfl (by first | exact wrap_i64 (by omega) (by omega))) rfl (by simp) ?_
   first
     | refine al_op (op_nilCheck_rptr rfl) rfl (by simp) ?_
     | refine al_op (op_nilCheck_ptr rfl rfl) rfl (by simp) ?_
   first
     | refine al_op (op_field_rptr Tryz.underlying43 rfl info3 (by decide) rfl rfl) rfl (by simp) ?_
     | refine al_op (op_field_ptr Tryz.underlying43 rfl info3 (by decide) rfl rfl rfl) rfl (by simp) ?_
   first
     | refine al_op (op_store_ptr info3 rfl rfl rfl rfl rfl rfl (by first | rfl | exact live_one rfl | (repeat (first | exact all_live_nil | refine all_live_clo rfl ?_ | refine all_live_slice rfl ?_ | refine all_live_map rfl ?_ | refine all_live_ptr rfl ?_))) (by decide)) rfl (by simp) ?_
     | refine al_op (op_store_ptr info3 rfl rfl rfl rfl rfl rfl (by first | rfl | exact live_one rfl | (repeat (first | exact all_live_nil | refine all_live_clo rfl ?_ | refine all_live_slice rfl ?_ | refine all_live_map rfl ?_ | refine all_live_ptr rfl ?_))) (Nat.le_of_ble_eq_true rfl)) rfl (by simp) ?_
   first
     | refine al_op (op_nilCheck_rptr rfl) rfl (by simp) ?_
     | refine al_op (op_nilCheck_ptr rfl rfl) rfl (by simp) ?_
   first
     | refine al_op (op_field_rptr Tryz.underlying43 rfl info3 (by decide) rfl rfl) rfl (by simp) ?_
     | refine al_op (op_field_ptr Tryz.underlying43 rfl info3 (by decide) rfl rfl rfl) rfl (by simp) ?_
   first
     | refine al_op (op_store_ptr info3 rfl rfl rfl rfl rfl rfl (by first | rfl | exact live_one rfl | (repeat (first | exact all_live_nil | refine all_live_clo rfl ?_ | refine all_live_slice rfl ?_ | refine all_live_map rfl ?_ | refine all_live_ptr rfl ?_))) (by decide)) rfl (by simp) ?_
     | refine al_op (op_store_ptr info3 rfl rfl rfl rfl rfl rfl (by first | rfl | exact live_one rfl | (repeat (first | exact all_live_nil | refine all_live_clo rfl ?_ | refine all_live_slice rfl ?_ | refine all_live_map rfl ?_ | refine all_live_ptr rfl ?_))) (Nat.le_of_ble_eq_true rfl)) rfl (by simp) ?_
   refine al_nil ?_
   refine aw_region ?_
   refine al_op (op_move rfl) rfl (by simp) ?_
   first
     | refine al_op (op_nilCheck_rptr rfl) rfl (by simp) ?_
     | refine al_op (op_nilCheck_ptr rfl rfl) rfl (by simp) ?_
   first
     | refine al_op (op_field_rptr Tryz.underlying43 rfl info3 (by decide) rfl rfl) rfl (by simp) ?_
     | refine al_op (op_field_ptr Tryz.underlying43 rfl info3 (by decide) rfl rfl rfl) rfl (by simp) ?_
   first
     | refine al_op (op_load_rptr Tryz.underlying3 info3 rfl rfl) rfl (by simp) ?_
     | refine al_op (op_load_map Tryz.underlying3 info3 rfl rfl (by omega) rfl) rfl (by simp) ?_
     | refine al_op (op_load_ptr Tryz.underlying3 info3 rfl rfl rfl rfl) rfl (by simp) ?_
   refine al_op (op_add rfl rfl (by first | exact wrap_i64 (by omega) (by omega))) rfl (by simp) ?_
   first
     | refine al_op (op_nilCheck_rptr rfl) rfl (by simp) ?_
     | refine al_op (op_nilCheck_ptr rfl rfl) rfl (by simp) ?_
   first
     | refine al_op (op_field_rptr Tryz.underlying43 rfl info3 (by decide) rfl rfl) rfl (by simp) ?_
     | refine al_op (op_field_ptr Tryz.underlying43 rfl info3 (by decide) rfl rfl rfl) rfl (by simp) ?_
   first
     | refine al_op (op_store_ptr info3 rfl rfl rfl rfl rfl rfl (by first | rfl | exact live_one rfl | (repeat (first | exact all_live_nil | refine all_live_clo rfl ?_ | refine all_live_slice rfl ?_ | refine all_live_map rfl ?_ | refine all_live_ptr rfl ?_))) (by decide)) rfl (by simp) ?_
     | refine al_op (op_store_ptr info3 rfl rfl rfl rfl rfl rfl (by first | rfl | exact live_one rfl | (repeat (first | exact all_live_nil | refine all_live_clo rfl ?_ | refine all_live_slice rfl ?_ | refine all_live_map rfl ?_ | refine all_live_ptr rfl ?_))) (Nat.le_of_ble_eq_true rfl)) rfl (by simp) ?_
   refine al_nil ?_
   refine aw_region ?_
   refine al_op (op_add rfl rfl (by first | exact wrap_i64 (by omega) (by omega))) rfl (by simp) ?_
   refine al_op (op_move rfl) rfl (by simp) ?_
   refine al_nil ?_
   refine ⟨k + 1, ?_, ?_, ?_, ?_, ?_⟩
   ·omega
   ·omega
   ·refine sub_cons (get_as rfl ?_) ?_; rotate_left; exact sub_nil
    all_goals (first | rfl | simp)
   ·repeat (first | exact subx_refl | exact subx_del | refine subx_put rfl ?_)
   ·(have e : i + (k + 1) = (i + k) + 1 := by omega); rw [e]; first | (rw [scan_line (by omega) gh2] <;> rfl) | (rw [scan_col (by omega) gh2] <;> rfl)
  ·have gh2 := h2
   try simp only [nrm] at h2
   refine aw_skip ?_
   refine aw_region ?_
   refine al_op (op_move rfl) rfl (by simp) ?_
   first
     | refine al_op (op_nilCheck_rptr rfl) rfl (by simp) ?_
     | refine al_op (op_nilCheck_ptr rfl rfl) rfl (by simp) ?_
   first
     | refine al_op (op_field_rptr Tryz.underlying43 rfl info3 (by decide) rfl rfl) rfl (by simp) ?_
     | refine al_op (op_field_ptr Tryz.underlying43 rfl info3 (by decide) rfl rfl rfl) rfl (by simp) ?_
   first
     | refine al_op (op_load_rptr Tryz.underlying3 info3 rfl rfl) rfl (by simp) ?_
     | refine al_op (op_load_map Tryz.underlying3 info3 rfl rfl (by omega) rfl) rfl (by simp) ?_
     | refine al_op (op_load_ptr Tryz.underlying3 info3 rfl rfl rfl rfl) rfl (by simp) ?_
   refine al_op (op_add rfl rfl (by first | exact wrap_i64 (by omega) (by omega))) rfl (by simp) ?_
   first
     | refine al_op (op_nilCheck_rptr rfl) rfl (by simp) ?_
     | refine al_op (op_nilCheck_ptr rfl rfl) rfl (by simp) ?_
   first
     | refine al_op (op_field_rptr Tryz.underlying43 rfl info3 (by decide) rfl rfl) rfl (by simp) ?_
     | refine al_op (op_field_ptr Tryz.underlying43 rfl info3 (by decide) rfl rfl rfl) rfl (by simp) ?_
   first
     | refine al_op (op_store_ptr info3 rfl rfl rfl rfl rfl rfl (by first | rfl | exact live_one rfl | (repeat (first | exact all_live_nil | refine all_live_clo rfl ?_ | refine all_live_slice rfl ?_ | refine all_live_map rfl ?_ | refine all_live_ptr rfl ?_))) (by decide)) rfl (by simp) ?_
     | refine al_op (op_store_ptr info3 rfl rfl rfl rfl rfl rfl (by first | rfl | exact live_one rfl | (repeat (first | exact all_live_nil | refine all_live_clo rfl ?_ | refine all_live_slice rfl ?_ | refine all_live_map rfl ?_ | refine all_live_ptr rfl ?_))) (Nat.le_of_ble_eq_true rfl)) rfl (by simp) ?_
   refine al_nil ?_
   refine aw_region ?_
   refine al_op (op_add rfl rfl (by first | exact wrap_i64 (by omega) (by omega))) rfl (by simp) ?_
   refine al_op (op_move rfl) rfl (by simp) ?_
   refine al_nil ?_
   refine ⟨k + 1, ?_, ?_, ?_, ?_, ?_⟩
   ·omega
   ·omega
   ·refine sub_cons (get_as rfl ?_) ?_; rotate_left; exact sub_nil
    all_goals (first | rfl | simp)
   ·repeat (first | exact subx_refl | exact subx_del | refine subx_put rfl ?_)
   ·(have e : i + (k + 1) = (i + k) + 1 := by omega); rw [e]; first | (rw [scan_line (by omega) gh2] <;> rfl) | (rw [scan_col (by omega) gh2] <;> rfl)
 ·have gh1 := h1
  try simp only [nrm] at h1
  refine aw_exit ?_
  obtain rfl : k = n := by omega
  refine ⟨_, res_0 rfl, ?_⟩
  exact ⟨rfl, rfl⟩
theorem skip_at {σ : Store} (c v0 : Nat) (s : Bs) (hs : s.length ≤ 1000000000) (i : Nat) (n : Nat) (hn : i + n ≤ s.length) (ht : tabOK [c] = true) (hb : σ.below 1000 = true) (h1 : σ.get c = some (v0, .row 4 [scanRow s i])) :
    AC Tryz.prog 19 [.ptr c v0 0 0, .v (.int .i64 ((n : Nat) : Int))] σ (fun r σ' => r = .ret (.tuple []) ∧ σ' = σ.put c v0 (.row 4 [scanRow s (i + n)])) := by
  have hf : Store.free [c] [(0, v0, .row 4 [scanRow s (i)])] σ = true := by simp [Store.free, Store.get, List.range_succ]
  have := ac_at [c] ht (q_skip v0 s hs i n hn) (⟨h1, trivial⟩ : Store.match (tab [c]) σ [(0, v0, .row 4 [scanRow s (i)])]) hf hb (by
    rintro x σ' ⟨rfl, rfl⟩ j h
    simp only [Store.get] at h ⊢
    revert h
    cases Nat.beq 0 j <;> simp)
  refine ac_mono this ?_
  rintro x σ' ⟨_, _, ⟨rfl, rfl⟩, rfl, rfl⟩
  exact ⟨rfl, rfl⟩


theorem q_blanks (v0 : Nat) (s : Bs) (hs : s.length ≤ 1000000000) (i : Nat) (hi : i ≤ s.length) : AC Tryz.prog 16 [.ptr 0 v0 0 0] ([(0, v0, .row 4 [scanRow s (i)])]) (fun r σ' => r = .ret (.tuple []) ∧ σ' = [(0, v0, .row 4 [scanRow s (nextAt s i)])]) := by
 refine ac_enter 42 Tryz.func16 rfl rfl (by simp) ?_
 refine aw_block ?_
 refine aw_forT (ι := Nat) [] [] (fun j => s.length - j) (fun j => (i ≤ j ∧ j ≤ s.length) ∧ nextAt s j = nextAt s i) (fun j => ([] : Env)) (fun j st => [(0, v0, .row 4 [scanRow s (j)])]) (i) ?_ ?_ ?_ (fun j hinv => ?_)
 ·exact ⟨⟨Nat.le_refl _, hi⟩, rfl⟩
 ·exact sub_nil
 ·rfl
 obtain ⟨⟨hj1, hj2⟩, hj3⟩ := hinv
 refine aw_seq ?_
 refine aw_seq ?_
 refine aw_any (Checked.mixed Tryz.checked) ?_
 apply aany_seg (p := 0) (q := 10) (by kernel_rfl) rfl (by decide)
 ·
  apply ql_plain rfl (op_move rfl)
  first
    | apply ql_plain rfl (op_nilCheck_rptr rfl)
    | apply ql_plain rfl (op_nilCheck_ptr rfl rfl)
  first
    | apply ql_plain rfl (op_field_rptr Tryz.underlying43 rfl info3 (by decide) rfl rfl)
    | apply ql_plain rfl (op_field_ptr Tryz.underlying43 rfl info3 (by decide) rfl rfl rfl)
  first
    | apply ql_plain rfl (op_load_rptr Tryz.underlying3 info3 rfl rfl)
    | apply ql_plain rfl (op_load_map Tryz.underlying3 info3 rfl rfl (by omega) rfl)
    | apply ql_plain rfl (op_load_ptr Tryz.underlying3 info3 rfl rfl rfl rfl)
  apply ql_plain rfl (op_move rfl)
  first
    | apply ql_plain rfl (op_nilCheck_rptr rfl)
    | apply ql_plain rfl (op_nilCheck_ptr rfl rfl)
  first
    | apply ql_plain rfl (op_field_rptr Tryz.underlying43 rfl info9 (by decide) rfl rfl)
    | apply ql_plain rfl (op_field_ptr Tryz.underlying43 rfl info9 (by decide) rfl rfl rfl)
  first
    | apply ql_plain rfl (op_load_rptr Tryz.underlying9 info9 rfl rfl)
    | apply ql_plain rfl (op_load_map Tryz.underlying9 info9 rfl rfl (by omega) rfl)
    | apply ql_plain rfl (op_load_ptr Tryz.underlying9 info9 rfl rfl rfl rfl)
  apply ql_plain rfl (op_slen_str (ts := #[]) Tryz.underlying9 rfl)
  apply ql_plain rfl (op_lss rfl rfl)
  exact ql_nil
 ·simp
 refine aany_end rfl (by kernel_rfl) ?_
 refine aw_cond rfl (fun h1 => ?_) (fun h1 => ?_)
 ·have gh1 := h1
  try simp only [nrm] at h1
  refine aw_skip ?_
  refine aw_block ?_
  refine aw_block ?_
  refine aw_seq ?_
  refine aw_any (Checked.mixed Tryz.checked) ?_
  apply aany_seg (p := 0) (q := 12) (by kernel_rfl) rfl (by decide)
  ·
   apply ql_plain rfl (op_move rfl)
   first
     | apply ql_plain rfl (op_nilCheck_rptr rfl)
     | apply ql_plain rfl (op_nilCheck_ptr rfl rfl)
   first
     | apply ql_plain rfl (op_field_rptr Tryz.underlying43 rfl info9 (by decide) rfl rfl)
     | apply ql_plain rfl (op_field_ptr Tryz.underlying43 rfl info9 (by decide) rfl rfl rfl)
   first
     | apply ql_plain rfl (op_load_rptr Tryz.underlying9 info9 rfl rfl)
     | apply ql_plain rfl (op_load_map Tryz.underlying9 info9 rfl rfl (by omega) rfl)
     | apply ql_plain rfl (op_load_ptr Tryz.underlying9 info9 rfl rfl rfl rfl)
   apply ql_plain rfl (op_move rfl)
   first
     | apply ql_plain rfl (op_nilCheck_rptr rfl)
     | apply ql_plain rfl (op_nilCheck_ptr rfl rfl)
   first
     | apply ql_plain rfl (op_field_rptr Tryz.underlying43 rfl info3 (by decide) rfl rfl)
     | apply ql_plain rfl (op_field_ptr Tryz.underlying43 rfl info3 (by decide) rfl rfl rfl)
   first
     | apply ql_plain rfl (op_load_rptr Tryz.underlying3 info3 rfl rfl)
     | apply ql_plain rfl (op_load_map Tryz.underlying3 info3 rfl rfl (by omega) rfl)
     | apply ql_plain rfl (op_load_ptr Tryz.underlying3 info3 rfl rfl rfl rfl)
   apply ql_plain rfl (op_sidx_str Tryz.underlying9 rfl rfl (by first | (with_reducible exact Int.toNat_natCast _) | rfl) (by omega) (by first | omega | (simp; omega)))
   first
     | apply ql_call into29 rfl rfl rfl ((q_indexByte _ _) _)
     | apply ql_call into29 rfl rfl rfl (acp_lent (lend_cons (by first | exact lend_same | exact .leaf _ _ (.vnil _) | exact .leaf _ _ (.nil _) | exact lend_whole rfl (by first | rfl | (simp; done) | (simp; omega)) (clo_map (fun _ => rfl))) (lend_cons (by first | exact lend_same | exact .leaf _ _ (.vnil _) | exact .leaf _ _ (.nil _) | exact lend_whole rfl (by first | rfl | (simp; done) | (simp; omega)) (clo_map (fun _ => rfl))) lend_nil)) (q_indexByte _ _) rfl)
   apply ql_plain rfl (op_geq rfl rfl)
   apply ql_plain rfl (op_assign rfl)
   exact ql_nil
  ·simp
  refine aany_end rfl (by kernel_rfl) ?_
  refine aw_cond rfl (fun h2 => ?_) (fun h2 => ?_)
  ·have gh2 := h2
   try simp only [nrm] at h2
   refine aw_region ?_
   refine al_op (op_move rfl) rfl (by simp) ?_
   (refine al_call into19 rfl rfl rfl (skip_at 0 v0 s hs j 1 (by omega) rfl rfl rfl) (by simp) ?_; rintro _ _ ⟨rfl, rfl⟩)
   refine al_nil ?_
   refine ⟨j + 1, ?_, ?_, ?_, ?_, ?_⟩
   ·omega
   ·first | exact ⟨⟨by omega, by omega⟩, (next_blank s j (by omega) (by rw [← isBlank_index]; exact gh2)).trans hj3⟩ | exact ⟨⟨by omega, by omega⟩, hnc.trans hj3⟩
   ·exact sub_nil
   ·repeat (first | exact subx_refl | exact subx_del | refine subx_put rfl ?_)
   ·rfl
  ·have gh2 := h2
   try simp only [nrm] at h2
   refine aw_seq ?_
   refine aw_region ?_
   refine al_op (op_move rfl) rfl (by simp) ?_
   refine al_callp into18 rfl rfl rfl (rest_at 0 v0 s hs j (by omega) rfl rfl rfl) (by simp) ?_
   first
     | refine al_callp into30 rfl rfl rfl ((q_hasPrefix _ _) _) (by simp) ?_
     | refine al_callp into30 rfl rfl rfl (acp_lent (lend_cons (by first | exact lend_same | exact .leaf _ _ (.vnil _) | exact .leaf _ _ (.nil _) | exact lend_whole rfl (by first | rfl | (simp; done) | (simp; omega)) (clo_map (fun _ => rfl))) (lend_cons (by first | exact lend_same | exact .leaf _ _ (.vnil _) | exact .leaf _ _ (.nil _) | exact lend_whole rfl (by first | rfl | (simp; done) | (simp; omega)) (clo_map (fun _ => rfl))) lend_nil)) (q_hasPrefix _ _) rfl) (by simp) ?_
   refine al_op (op_assign rfl) rfl (by simp) ?_
   refine al_nil ?_
   refine aw_cond rfl (fun h3 => ?_) (fun h3 => ?_)
   ·have gh3 := h3
    try simp only [nrm] at h3
    refine aw_seq ?_
    refine aw_region ?_
    refine al_op (op_move rfl) rfl (by simp) ?_
    refine al_callp into18 rfl rfl rfl (rest_at 0 v0 s hs j (by omega) rfl rfl rfl) (by simp) ?_
    refine al_callp into29 rfl rfl rfl (q_indexByte (s.drop j) 10 _) (by simp) ?_
    refine al_op (op_assign rfl) rfl (by simp) ?_
    refine al_nil ?_
    refine aw_seq ?_
    refine aw_seq ?_
    refine aw_region ?_
    refine al_op (op_move rfl) rfl (by simp) ?_
    refine al_op (op_lss rfl rfl) rfl (by simp) ?_
    refine al_nil ?_
    refine aw_cond rfl (fun h4 => ?_) (fun h4 => ?_)
    ·have gh4 := h4
     try simp only [nrm] at h4
     refine aw_region ?_
     refine al_op (op_move rfl) rfl (by simp) ?_
     refine al_callp into18 rfl rfl rfl (rest_at 0 v0 s hs j (by omega) rfl rfl rfl) (by simp) ?_
     refine al_op (op_slen_str (ts := #[]) Tryz.underlying9 rfl) rfl (by simp) ?_
     refine al_op (op_assign rfl) rfl (by simp) ?_
     refine al_nil ?_
     have hll := lineLen_le (s.drop j)
     rw [List.length_drop] at hll
     obtain ⟨hnc, hn2⟩ := next_comment s j gh3
     refine aw_as 2 (.v (.int .i64 ((lineLen (s.drop j) : Nat) : Int))) rfl (by first | (rw [line_some h4] <;> rfl) | (rw [line_none h4] <;> rfl)) ?_
     refine aw_region ?_
     refine al_op (op_move rfl) rfl (by simp) ?_
     refine al_op (op_move rfl) rfl (by simp) ?_
     (refine al_call into19 rfl rfl rfl (skip_at 0 v0 s hs j (lineLen (s.drop j)) (by omega) rfl rfl rfl) (by simp) ?_; rintro _ _ ⟨rfl, rfl⟩)
     refine al_nil ?_
     refine ⟨j + lineLen (s.drop j), ?_, ?_, ?_, ?_, ?_⟩
     ·omega
     ·first | exact ⟨⟨by omega, by omega⟩, (next_blank s j (by omega) (by rw [← isBlank_index]; exact gh2)).trans hj3⟩ | exact ⟨⟨by omega, by omega⟩, hnc.trans hj3⟩
     ·exact sub_nil
     ·repeat (first | exact subx_refl | exact subx_del | refine subx_put rfl ?_)
     ·rfl
    ·have gh4 := h4
     try simp only [nrm] at h4
     refine aw_skip ?_
     have hll := lineLen_le (s.drop j)
     rw [List.length_drop] at hll
     obtain ⟨hnc, hn2⟩ := next_comment s j gh3
     refine aw_as 2 (.v (.int .i64 ((lineLen (s.drop j) : Nat) : Int))) rfl (by first | (rw [line_some h4] <;> rfl) | (rw [line_none h4] <;> rfl)) ?_
     refine aw_region ?_
     refine al_op (op_move rfl) rfl (by simp) ?_
     refine al_op (op_move rfl) rfl (by simp) ?_
     (refine al_call into19 rfl rfl rfl (skip_at 0 v0 s hs j (lineLen (s.drop j)) (by omega) rfl rfl rfl) (by simp) ?_; rintro _ _ ⟨rfl, rfl⟩)
     refine al_nil ?_
     refine ⟨j + lineLen (s.drop j), ?_, ?_, ?_, ?_, ?_⟩
     ·omega
     ·first | exact ⟨⟨by omega, by omega⟩, (next_blank s j (by omega) (by rw [← isBlank_index]; exact gh2)).trans hj3⟩ | exact ⟨⟨by omega, by omega⟩, hnc.trans hj3⟩
     ·exact sub_nil
     ·repeat (first | exact subx_refl | exact subx_del | refine subx_put rfl ?_)
     ·rfl
   ·have gh3 := h3
    try simp only [nrm] at h3
    refine aw_ret ?_
    refine ⟨_, res_0 rfl, ?_⟩
    rw [← hj3, next_stop s j (by omega) (by rw [← isBlank_index]; exact gh2) gh3]; exact ⟨rfl, rfl⟩
 ·have gh1 := h1
  try simp only [nrm] at h1
  refine aw_exit ?_
  refine ⟨_, res_0 rfl, ?_⟩
  rw [← hj3, next_end s j (by omega)]; exact ⟨rfl, rfl⟩
theorem blanks_at {σ : Store} (c v0 : Nat) (s : Bs) (hs : s.length ≤ 1000000000) (i : Nat) (hi : i ≤ s.length) (ht : tabOK [c] = true) (hb : σ.below 1000 = true) (h1 : σ.get c = some (v0, .row 4 [scanRow s i])) :
    AC Tryz.prog 16 [.ptr c v0 0 0] σ (fun r σ' => r = .ret (.tuple []) ∧ σ' = σ.put c v0 (.row 4 [scanRow s (nextAt s i)])) := by
  have hf : Store.free [c] [(0, v0, .row 4 [scanRow s (i)])] σ = true := by simp [Store.free, Store.get, List.range_succ]
  have := ac_at [c] ht (q_blanks v0 s hs i hi) (⟨h1, trivial⟩ : Store.match (tab [c]) σ [(0, v0, .row 4 [scanRow s (i)])]) hf hb (by
    rintro x σ' ⟨rfl, rfl⟩ j h
    simp only [Store.get] at h ⊢
    revert h
    cases Nat.beq 0 j <;> simp)
  refine ac_mono this ?_
  rintro x σ' ⟨_, _, ⟨rfl, rfl⟩, rfl, rfl⟩
  exact ⟨rfl, rfl⟩


theorem c_quoted (s : Bs) (hs : s.length ≤ 1000000000) : ACp Tryz.prog 31 [.v (.string (str (s)))] (.tuple [.v (.string (str (qT s))), .v (.bool (qOK s))]) := by
 refine acp_of rfl ?_
 refine ac_enter 17 Tryz.func31 rfl rfl (by simp) ?_
 refine aw_seq ?_
 refine aw_region ?_
 refine al_op (op_assign rfl) rfl (by simp) ?_
 refine al_op (op_assign rfl) rfl (by simp) ?_
 refine al_nil ?_
 refine aw_seq ?_
 refine aw_region ?_
 refine al_op (op_move rfl) rfl (by simp) ?_
 first
   | refine al_callp into57 rfl rfl rfl ((q_trimPrefix _ _) _) (by simp) ?_
   | refine al_callp into57 rfl rfl rfl (acp_lent (lend_cons (by first | exact lend_same | exact .leaf _ _ (.vnil _) | exact .leaf _ _ (.nil _) | exact lend_whole rfl (by first | rfl | (simp; done) | (simp; omega)) (clo_map (fun _ => rfl))) (lend_cons (by first | exact lend_same | exact .leaf _ _ (.vnil _) | exact .leaf _ _ (.nil _) | exact lend_whole rfl (by first | rfl | (simp; done) | (simp; omega)) (clo_map (fun _ => rfl))) lend_nil)) (q_trimPrefix _ _) rfl) (by simp) ?_
 refine al_callp into56 rfl rfl rfl (q_cut (Lib.trimPrefix s [34]) [34] (trim_len (by omega)) _) (by simp) ?_
 refine al_op (op_move rfl) rfl (by simp) ?_
 refine al_op (op_extract rfl rfl rfl) rfl (by simp) ?_
 refine al_op (op_extract rfl rfl rfl) rfl (by simp) ?_
 refine al_op (op_extract rfl rfl rfl) rfl (by simp) ?_
 refine al_op (op_assign rfl) rfl (by simp) ?_
 refine al_op (op_assign rfl) rfl (by simp) ?_
 refine al_nil ?_
 refine aw_seq ?_
 refine aw_region ?_
 refine al_op (op_move rfl) rfl (by simp) ?_
 refine al_op (op_move rfl) rfl (by simp) ?_
 refine al_op (op_move rfl) rfl (by simp) ?_
 apply al_and 3 13 16 rfl
 ·intro h1; have gh1 := h1
  try simp only [nrm] at h1
  refine al_take (op_move rfl) rfl rfl rfl rfl (by simp) ?_
  first
    | refine al_callp_take into30 rfl rfl rfl rfl rfl rfl ((q_hasPrefix _ _) _) (by simp) ?_
    | refine al_callp_take into30 rfl rfl rfl rfl rfl rfl (acp_lent (lend_cons (by first | exact lend_same | exact .leaf _ _ (.vnil _) | exact .leaf _ _ (.nil _) | exact lend_whole rfl (by first | rfl | (simp; done) | (simp; omega)) (clo_map (fun _ => rfl))) (lend_cons (by first | exact lend_same | exact .leaf _ _ (.vnil _) | exact .leaf _ _ (.nil _) | exact lend_whole rfl (by first | rfl | (simp; done) | (simp; omega)) (clo_map (fun _ => rfl))) lend_nil)) (q_hasPrefix _ _) rfl) (by simp) ?_
  first
    | refine al_op (op_pick rfl rfl) rfl (by simp) ?_
    | refine al_op (op_and rfl rfl rfl) rfl (by simp) ?_
  refine al_nil ⟨rfl, rfl, rfl, keep_of ?_⟩
  repeat (first | exact subx_refl | exact subx_known rfl gh1 subx_refl | refine subx_put rfl ?_)
 ·intro h1; have gh1 := h1
  try simp only [nrm] at h1
  refine al_pass rfl rfl rfl rfl (by simp) ?_
  refine al_pass rfl rfl rfl rfl (by simp) ?_
  first
    | refine al_op (op_pick rfl rfl) rfl (by simp) ?_
    | refine al_op (op_and rfl rfl rfl) rfl (by simp) ?_
  refine al_nil ⟨rfl, rfl, rfl, keep_of ?_⟩
  repeat (first | exact subx_refl | exact subx_known rfl gh1 subx_refl | refine subx_put rfl ?_)
 refine al_op (op_assign rfl) rfl (by simp) ?_
 refine al_op (op_assign rfl) rfl (by simp) ?_
 refine al_nil ?_
 refine aw_freeze (fun _ => false) (fsub_cons (t := 2) rfl (.leaf _ _ (.same _)) (fsub_cons (t := 3) rfl (.leaf _ _ (.same _)) fsub_nil)) ?_
 refine aw_ret ?_
 refine ⟨_, res_2 rfl rfl rfl rfl rfl, ?_, rfl⟩
 rfl

theorem c_isText (s : Bs) (hs : s.length ≤ 1000000000) : ACp Tryz.prog 36 [.v (.string (str (s)))] (.v (.bool (isTextL s))) := by
 refine acp_of rfl ?_
 refine ac_enter 12 Tryz.func36 rfl rfl (by simp) ?_
 refine aw_seq ?_
 refine aw_region ?_
 refine al_op (op_assign rfl) rfl (by simp) ?_
 refine al_nil ?_
 refine aw_seq ?_
 refine aw_region ?_
 refine al_op (op_move rfl) rfl (by simp) ?_
 refine al_op (op_slen_str (ts := #[]) Tryz.underlying9 rfl) rfl (by simp) ?_
 refine al_op (op_leq rfl rfl) rfl (by simp) ?_
 refine al_op (op_move rfl) rfl (by simp) ?_
 apply al_and 5 6 11 rfl
 ·intro h1; have gh1 := h1
  try simp only [nrm] at h1
  refine al_take (op_move rfl) rfl rfl rfl rfl (by simp) ?_
  first
    | refine al_callp_take into33 rfl rfl rfl rfl rfl rfl ((c_runplain _ (by first | assumption | omega | (simp; omega))) _) (by simp) ?_
    | refine al_callp_take into33 rfl rfl rfl rfl rfl rfl (acp_lent (lend_cons (by first | exact lend_same | exact .leaf _ _ (.vnil _) | exact .leaf _ _ (.nil _) | exact lend_whole rfl (by first | rfl | (simp; done) | (simp; omega)) (clo_map (fun _ => rfl))) (lend_cons (by first | exact lend_same | exact .leaf _ _ (.vnil _) | exact .leaf _ _ (.nil _) | exact lend_whole rfl (by first | rfl | (simp; done) | (simp; omega)) (clo_map (fun _ => rfl))) lend_nil)) (c_runplain _ (by first | assumption | omega | (simp; omega))) rfl) (by simp) ?_
  refine al_take (op_move rfl) rfl rfl rfl rfl (by simp) ?_
  refine al_take (op_seql_str rfl rfl) rfl rfl rfl rfl (by simp) ?_
  first
    | refine al_op (op_pick rfl rfl) rfl (by simp) ?_
    | refine al_op (op_and rfl rfl rfl) rfl (by simp) ?_
  refine al_nil ⟨rfl, rfl, rfl, keep_of ?_⟩
  repeat (first | exact subx_refl | exact subx_known rfl gh1 subx_refl | refine subx_put rfl ?_)
 ·intro h1; have gh1 := h1
  try simp only [nrm] at h1
  refine al_pass rfl rfl rfl rfl (by simp) ?_
  refine al_pass rfl rfl rfl rfl (by simp) ?_
  refine al_pass rfl rfl rfl rfl (by simp) ?_
  refine al_pass rfl rfl rfl rfl (by simp) ?_
  first
    | refine al_op (op_pick rfl rfl) rfl (by simp) ?_
    | refine al_op (op_and rfl rfl rfl) rfl (by simp) ?_
  refine al_nil ⟨rfl, rfl, rfl, keep_of ?_⟩
  repeat (first | exact subx_refl | exact subx_known rfl gh1 subx_refl | refine subx_put rfl ?_)
 refine al_op (op_assign rfl) rfl (by simp) ?_
 refine al_nil ?_
 refine aw_freeze (fun _ => false) (fsub_cons (t := 2) rfl (.leaf _ _ (.same _)) fsub_nil) ?_
 refine aw_ret ?_
 refine ⟨_, res_1 rfl rfl, ?_, rfl⟩
 rw [← isText_prog s] <;> rfl

theorem c_integer (s : Bs) (hs : s.length ≤ 1000000000) : ACp Tryz.prog 35 [.v (.string (str (s)))] (.tuple [.v (.int .i64 (numK s)), .v (.bool (numOK s))]) := by
 refine acp_of rfl ?_
 refine ac_enter 14 Tryz.func35 rfl rfl (by simp) ?_
 refine aw_seq ?_
 refine aw_region ?_
 refine al_op (op_assign rfl) rfl (by simp) ?_
 refine al_op (op_assign rfl) rfl (by simp) ?_
 refine al_nil ?_
 refine aw_seq ?_
 refine aw_region ?_
 refine al_op (op_move rfl) rfl (by simp) ?_
 (refine al_call into58 rfl rfl rfl (q_parse s (by omega) _) (by simp) ?_; rintro _ _ ⟨x, rfl, rfl, hx⟩)
 refine al_op (op_move rfl) rfl (by simp) ?_
 refine al_op (op_extract rfl rfl rfl) rfl (by simp) ?_
 refine al_op (op_extract rfl rfl rfl) rfl (by simp) ?_
 refine al_op (op_assign rfl) rfl (by simp) ?_
 refine al_op (op_assign rfl) rfl (by simp) ?_
 refine al_nil ?_
 refine aw_seq ?_
 refine aw_any (Checked.mixed Tryz.checked) ?_
 apply aany_seg (p := 0) (q := 5) (by kernel_rfl) rfl (by decide)
 ·
  apply ql_plain rfl (op_move rfl)
  apply ql_plain rfl (op_move rfl)
  apply ql_plain rfl (op_ifn_eql (by kernel_rfl) rfl rfl hx)
  apply ql_plain rfl (op_assign rfl)
  apply ql_plain rfl (op_assign rfl)
  exact ql_nil
 ·simp
 refine aany_end rfl (by kernel_rfl) ?_
 refine aw_freeze (fun _ => false) (fsub_cons (t := 2) rfl (.leaf _ _ (.same _)) (fsub_cons (t := 3) rfl (.leaf _ _ (.same _)) fsub_nil)) ?_
 refine aw_ret ?_
 refine ⟨_, res_2 rfl rfl rfl rfl rfl, ?_, rfl⟩
 rfl

theorem c_parse (s : Bs) (hs : s.length ≤ 1000000000) : ACp Tryz.prog 32 [.v (.string (str (s)))] (.tuple [.list 1 ((parseBits s).map encB), .v (.int .i64 (parseE s))]) := by
 refine acp_of rfl ?_
 have hrl : (List.replicate (s.length : Int).toNat (0 : Int)).length = s.length := by simp
 refine ac_enter 40 Tryz.func32 rfl rfl (by simp) ?_
 refine aw_seq ?_
 refine aw_region ?_
 refine al_op (op_assign rfl) rfl (by simp) ?_
 refine al_op (op_assign rfl) rfl (by simp) ?_
 refine al_nil ?_
 refine aw_seq ?_
 refine aw_seq ?_
 refine aw_region ?_
 refine al_op (op_move rfl) rfl (by simp) ?_
 refine al_op (op_slen_str (ts := #[]) Tryz.underlying9 rfl) rfl (by simp) ?_
 refine al_op (op_lss rfl rfl) rfl (by simp) ?_
 refine al_op (op_move rfl) rfl (by simp) ?_
 apply al_or 4 10 14 rfl
 ·intro h1; have gh1 := h1
  try simp only [nrm] at h1
  refine al_take (op_move rfl) rfl rfl rfl rfl (by simp) ?_
  refine al_take (op_slen_str (ts := #[]) Tryz.underlying9 rfl) rfl rfl rfl rfl (by simp) ?_
  refine al_take (op_gtr rfl rfl) rfl rfl rfl rfl (by simp) ?_
  first
    | refine al_op (op_pick rfl rfl) rfl (by simp) ?_
    | refine al_op (op_or rfl rfl rfl) rfl (by simp) ?_
  refine al_nil ⟨rfl, rfl, rfl, keep_of ?_⟩
  repeat (first | exact subx_refl | exact subx_known rfl gh1 subx_refl | refine subx_put rfl ?_)
 ·intro h1; have gh1 := h1
  try simp only [nrm] at h1
  refine al_pass rfl rfl rfl rfl (by simp) ?_
  refine al_pass rfl rfl rfl rfl (by simp) ?_
  refine al_pass rfl rfl rfl rfl (by simp) ?_
  first
    | refine al_op (op_pick rfl rfl) rfl (by simp) ?_
    | refine al_op (op_or rfl rfl rfl) rfl (by simp) ?_
  refine al_nil ⟨rfl, rfl, rfl, keep_of ?_⟩
  repeat (first | exact subx_refl | exact subx_known rfl gh1 subx_refl | refine subx_put rfl ?_)
 refine al_nil ?_
 refine aw_cond rfl (fun h2 => ?_) (fun h2 => ?_)
 ·have gh2 := h2
  try simp only [nrm] at h2
  refine aw_seq ?_
  refine aw_region ?_
  refine al_op (op_assign rfl) rfl (by simp) ?_
  refine al_op (op_assign rfl) rfl (by simp) ?_
  refine al_nil ?_
  refine aw_freeze (fun _ => false) (fsub_cons (t := 2) rfl (by first | exact .leaf _ _ (frz_whole rfl rfl (by first | rfl | (simp; done) | (simp; omega)) (clo_map (fun _ => rfl))) | exact .leaf _ _ (.vnil 1) | exact .leaf _ _ (.nil 1) | exact .leaf _ _ (.same _)) (fsub_cons (t := 3) rfl (.leaf _ _ (.same _)) fsub_nil)) ?_
  refine aw_ret ?_
  refine ⟨_, res_2 rfl rfl rfl rfl rfl, ?_, rfl⟩
  rw [parseBits, parseE, isVec_no gh2]; rfl
 ·have gh2 := h2
  try simp only [nrm] at h2
  refine aw_skip ?_
  refine aw_seq ?_
  refine aw_region ?_
  refine al_op (op_move rfl) rfl (by simp) ?_
  refine al_op (op_slen_str (ts := #[]) Tryz.underlying9 rfl) rfl (by simp) ?_
  (refine al_opR (op_makeN (f := encB) 17 (0 : Int) Tryz.underlying58 info84 rfl rfl (by decide) rfl rfl rfl rfl (by omega) (by show (1 : Int) * _ ≤ _; omega) (by omega)) rfl (by simp) ?_; rintro _ _ ⟨ver17, rfl, rfl⟩)
  refine al_op (op_assign rfl) rfl (by simp) ?_
  refine al_nil ?_
  refine aw_seq ?_
  refine aw_seq ?_
  refine aw_region ?_
  refine al_op (op_move rfl) rfl (by simp) ?_
  refine al_op (op_slen_str (ts := #[]) Tryz.underlying9 rfl) rfl (by simp) ?_
  refine al_op (op_move rfl) rfl (by simp) ?_
  refine al_nil ?_
  refine aw_block ?_
  refine aw_forT (ι := Nat) [2, 3, 20] [] (fun i => s.length - i) (fun i => i ≤ s.length ∧ ∀ k, k < i → isBitC (s.getD k default) = true) (fun i => ([(20, .v (.int .i64 (i)))] : Env)) (fun i st => st.put 17 ver17 (.row 1 ((mixR s i).map encB))) (0) ?_ ?_ ?_ (fun i hinv => ?_)
  ·exact ⟨Nat.zero_le _, fun k hk => absurd hk (Nat.not_lt_zero k)⟩
  ·refine sub_cons (get_as rfl ?_) ?_; rotate_left; exact sub_nil
   all_goals (first | rfl | simp)
  ·(rw [mixR_zero] <;> rfl)
  have hi := hinv.1
  refine aw_seq ?_
  refine aw_region ?_
  refine al_op (op_lss rfl rfl) rfl (by simp) ?_
  refine al_nil ?_
  refine aw_seq ?_
  refine aw_cond rfl (fun h3 => ?_) (fun h3 => ?_)
  ·have gh3 := h3
   try simp only [nrm] at h3
   refine aw_skip ?_
   refine aw_seq ?_
   refine aw_block ?_
   refine aw_seq ?_
   refine aw_region ?_
   refine al_op (op_move rfl) rfl (by simp) ?_
   refine al_op (op_assign rfl) rfl (by simp) ?_
   refine al_nil ?_
   refine aw_seq ?_
   refine aw_region ?_
   refine al_op (op_move rfl) rfl (by simp) ?_
   refine al_op (op_move rfl) rfl (by simp) ?_
   refine al_op (op_sidx_str Tryz.underlying9 rfl rfl (by first | (with_reducible exact Int.toNat_natCast _) | rfl) (by omega) (by first | omega | (simp; omega))) rfl (by simp) ?_
   first
     | refine al_callp into29 rfl rfl rfl ((q_indexByte _ _) _) (by simp) ?_
     | refine al_callp into29 rfl rfl rfl (acp_lent (lend_cons (by first | exact lend_same | exact .leaf _ _ (.vnil _) | exact .leaf _ _ (.nil _) | exact lend_whole rfl (by first | rfl | (simp; done) | (simp; omega)) (clo_map (fun _ => rfl))) (lend_cons (by first | exact lend_same | exact .leaf _ _ (.vnil _) | exact .leaf _ _ (.nil _) | exact lend_whole rfl (by first | rfl | (simp; done) | (simp; omega)) (clo_map (fun _ => rfl))) lend_nil)) (q_indexByte _ _) rfl) (by simp) ?_
   refine al_op (op_assign rfl) rfl (by simp) ?_
   refine al_nil ?_
   refine aw_seq ?_
   refine aw_seq ?_
   refine aw_region ?_
   refine al_op (op_move rfl) rfl (by simp) ?_
   refine al_op (op_lss rfl rfl) rfl (by simp) ?_
   refine al_nil ?_
   refine aw_cond rfl (fun h4 => ?_) (fun h4 => ?_)
   ·have gh4 := h4
    try simp only [nrm] at h4
    refine aw_seq ?_
    refine aw_region ?_
    refine al_op (op_assign rfl) rfl (by simp) ?_
    refine al_op (op_assign rfl) rfl (by simp) ?_
    refine al_nil ?_
    refine aw_freeze (fun _ => false) (fsub_cons (t := 2) rfl (by first | exact .leaf _ _ (frz_whole rfl rfl (by first | rfl | (simp; done) | (simp; omega)) (clo_map (fun _ => rfl))) | exact .leaf _ _ (.vnil 1) | exact .leaf _ _ (.nil 1) | exact .leaf _ _ (.same _)) (fsub_cons (t := 3) rfl (.leaf _ _ (.same _)) fsub_nil)) ?_
    refine aw_ret ?_
    refine ⟨_, res_2 rfl rfl rfl rfl rfl, ?_, rfl⟩
    rw [parseBits, parseE, isVec_bad i (by omega) (by simpa using gh4)]; rfl
   ·have gh4 := h4
    try simp only [nrm] at h4
    refine aw_skip ?_
    have hbl := bitCode_le (s.getD i default)
    have hmr := mixR_length s i (by omega)
    have hb0 : ¬ Lib.indexByte [48, 49, 120, 122] (s.getD i default) < 0 := by simpa using gh4
    refine aw_region ?_
    refine al_op (op_move rfl) rfl (by simp) ?_
    refine al_op (op_move rfl) rfl (by simp) ?_
    refine al_op (op_slen_str (ts := #[]) Tryz.underlying9 rfl) rfl (by simp) ?_
    refine al_op (op_sub rfl rfl (by first | exact wrap_i64 (by omega) (by omega))) rfl (by simp) ?_
    refine al_op (op_move rfl) rfl (by simp) ?_
    refine al_op (op_sub rfl rfl (by first | exact wrap_i64 (by omega) (by omega))) rfl (by simp) ?_
    refine al_op (op_move rfl) rfl (by simp) ?_
    refine al_op (op_conv Tryz.underlying3 Tryz.underlying84 rfl (wrap_u8 (by omega) (by have := hbl; unfold bitCode at this; omega))) rfl (by simp) ?_
    first
      | refine al_op (op_index_map default Tryz.underlying58 info84 rfl rfl rfl (by first | (with_reducible exact Int.toNat_natCast _) | rfl) (by omega) (by omega)) rfl (by simp) ?_
      | refine al_op (op_index_slice Tryz.underlying58 info84 rfl rfl rfl rfl (by omega) (by omega)) rfl (by simp) ?_
      | refine al_op (op_index_list Tryz.underlying58 info84 rfl rfl rfl (by decide) rfl) rfl (by simp) ?_
    refine al_op (op_store_map (bitCode (s.getD i default)) info84 rfl rfl rfl (by omega) rfl rfl rfl (Nat.le_of_ble_eq_true rfl) rfl) rfl (by simp) ?_
    refine al_nil ?_
    refine aw_region ?_
    refine al_op (op_add rfl rfl (by first | exact wrap_i64 (by omega) (by omega))) rfl (by simp) ?_
    refine al_op (op_move rfl) rfl (by simp) ?_
    refine al_nil ?_
    refine ⟨i + 1, ?_, ?_, ?_, ?_, ?_⟩
    ·omega
    ·exact ⟨by omega, run_step (p := isBitC) (s := s) hinv.2 (by rw [← isBit_index, decide_eq_true_eq]; omega)⟩
    ·refine sub_cons (get_as rfl ?_) ?_; rotate_left; exact sub_nil
     all_goals (first | rfl | simp)
    ·repeat (first | exact subx_refl | exact subx_del | refine subx_put rfl ?_)
    ·(rw [← mixR_step s i (by omega), show s.length - 1 - i = 0 + ((s.length : Int) - 1 - (i : Int)).toNat from by omega] <;> rfl)
  ·have gh3 := h3
   try simp only [nrm] at h3
   refine aw_exit ?_
   obtain rfl : i = s.length := by omega
   have hall := hinv.2
   have hmr := mixR_length s s.length (by omega)
   refine aw_seq ?_
   refine aw_region ?_
   refine al_op (op_move rfl) rfl (by simp) ?_
   refine al_op (op_assign rfl) rfl (by simp) ?_
   refine al_op (op_assign rfl) rfl (by simp) ?_
   refine al_nil ?_
   refine aw_freeze (fun _ => false) (fsub_cons (t := 2) rfl (by first | exact .leaf _ _ (frz_whole rfl rfl (by first | rfl | (simp; done) | (simp; omega)) (clo_map (fun _ => rfl))) | exact .leaf _ _ (.vnil 1) | exact .leaf _ _ (.nil 1) | exact .leaf _ _ (.same _)) (fsub_cons (t := 3) rfl (.leaf _ _ (.same _)) fsub_nil)) ?_
   refine aw_ret ?_
   refine ⟨_, res_2 rfl rfl rfl rfl rfl, ?_, rfl⟩
   rw [parseBits, parseE, isVec_yes gh2 hall, mixR_all]; rfl
end Go.Proofs.YtbojpddejdmamaaGreatDoor
