/- The row of the law CycleMany (printed by rows.py). -/
import Derived.Test.YtnnklpmgncbgnaaRows
import Derived.Test.YtnnklpmgncbgnaaW241
import Derived.Test.YtnnklpmgncbgnaaCDec
import Derived.WalkKit
import Derived.ProofKit
import Derived.OpenShut
import Derived.ShutString
import Derived.ChangeOld
import Derived.Below
import Derived.SizedLaws
set_option linter.unusedVariables false
namespace Go.Proofs.Ytnnklpmgncbgnaa.cycleMany
open Go Go.ChangeShapes Go.WideShapes Go.ChangeAt Go.RowKit
theorem own : ownKnob Try.prog.godebug = none := by kernel_rfl
theorem laidOut : laidOutB Try.prog = true := by kernel_rfl
set_option maxRecDepth 100000 in
theorem lifted (os : Os) (started : os.Started) (H : Type) (enc : TypeId × Value → H) :
    ReturnsInHanded {} Try.checked os 3 .any (Rows.cycleManySpec.pre6 enc Try.prog Try.f3 Rows.cycleManyRow.domain false) (Rows.cycleManySpec.post enc Try.prog Try.f3 false true false false) := by
  refine returnsInHanded_of_change_sized (C := Try.checked) own started (by kernel_rfl) Try.func3
    (ChangeSpec.witness6 (enc := enc) (C := Try.checked) false ⟨#[], #[.agg #[.slice none 0 0, .slice none 0 0, .slice none 0 0, .slice none 0 0], .slice none 0 0], []⟩ 8 (by kernel_rfl) (by kernel_rfl) (by kernel_rfl) (by kernel_rfl)) ?_
  intro W base args ds gs before hval0 hW hcnd hsz0 _
  have hsz : (DataW.weightsEach Try.prog (Try.f3.params.toList ++ Rows.cycleManySpec.plain.varTypes Try.prog) (ds ++ gs)).all (· ≤ reachBytes) = true := hsz0
  have hval : ∀ (j : Nat) t v, Try.f3.params[j]? = some t → args[j]? = some v → Value.okWide Try.prog W .any base t v := hval0
  have hW' := hW
  obtain ⟨p, q, hA0, hV, rfl, hfz, hnd⟩ := hW
  have hA : DataW.TrodAll enc Try.prog W 0 (fun _ => true) true Try.f3.params.toList args.toList ds p := hA0
  rw [Try.params3] at hA hval hsz
  obtain ⟨v0, vs0, d0, ds0, p0, q0, hargs, rfl, rfl, h0, r0⟩ := trodAll_cons hA
  obtain ⟨v1, vs1, d1, ds1, p1, q1, rfl, rfl, rfl, h1, r1⟩ := trodAll_cons r0
  obtain ⟨rfl, rfl, rfl⟩ := trodAll_nil r1
  obtain rfl : args = #[v0, v1] := by cases args; simp_all
  obtain ⟨rfl, rfl⟩ := trodVars_none hV
  have k0 := h0
  have lt0 : ∀ x ∈ p0, x.block < W.heap.size := by obtain ⟨m, hm⟩ := k0; exact DataW.trod_lt m _ _ _ hm
  obtain ⟨f0, c0, t0, a0⟩ := arg_rep2 (S := inTypes) (enc := enc) (w := W) (ok := fun b => b < W.heap.size) closed_in (fun b hb => hb) (t := 27) (by decide) (hval 0 27 v0 rfl rfl) h0 (weights_at hsz 0 rfl rfl)
  obtain ⟨n0, e0, s0⟩ := dec_net t0
  rw [e0] at a0
  have k1 := h1
  have lt1 : ∀ x ∈ p1, x.block < W.heap.size := by obtain ⟨m, hm⟩ := k1; exact DataW.trod_lt m _ _ _ hm
  obtain ⟨f1, c1, t1, a1⟩ := arg_rep2 (S := inTypes) (enc := enc) (w := W) (ok := fun b => b < W.heap.size) closed_in (fun b hb => hb) (t := 28) (by decide) (hval 1 28 v1 rfl rfl) h1 (weights_at hsz 1 rfl rfl)
  obtain ⟨n1, e1, s1⟩ := dec_ull t1
  rw [e1] at a1
  clear hA0 hval0 hsz0 hsz
  refine (ac_door (w := W) (a := .bool true) (vs := [v0, v1]) (law_CycleMany n0 s0 n1 s1 []) (fun L => ⟨a0 L, ⟨a1 L, trivial⟩⟩) (by rintro r σ' ⟨rfl, _⟩; rfl)).mono fun e W' ⟨he, bel⟩ => ?_
  subst he
  exact ⟨_, rfl, _, _, _, [], _, [], hW', trodAll_mk1 (shut_bool Try.underlying4 _), (trodAll_cons_mk (Below.trod laidOut (by kernel_rfl) (of_decide_eq_true (by kernel_rfl)) k0 bel lt0) (trodAll_cons_mk (Below.trod laidOut (by kernel_rfl) (of_decide_eq_true (by kernel_rfl)) k1 bel lt1) trodAll_mk0)), rfl, bel.frame _, fun h => by cases h⟩
theorem over : Rows.cycleManyRow.holds Try.pinned (OpenSpec.ofChange Rows.cycleManySpec) :=
  OpenClaim.holds_of_wide 3 Try.f3 rfl rfl rfl rfl rfl rfl rfl ⟨rfl, rfl, rfl, rfl, rfl⟩ rfl rfl rfl rfl rfl (by kernel_rfl) Try.func3 (by kernel_rfl)
    (of_decide_eq_true (by kernel_rfl)) (by unfold Func.isWrapper; first | (rw [if_pos (by decide +kernel)]; kernel_rfl) | (rw [if_neg (by decide +kernel)]; exact ⟨rfl, rfl⟩))
    (fun os started H enc _ => lifted os started H enc)
theorem proved : Rows.CycleManySaid := over
#print axioms proved
end Go.Proofs.Ytnnklpmgncbgnaa.cycleMany
namespace Go.Proofs.Ytnnklpmgncbgnaa
/-- The row, under a short name, for the claim. -/
theorem cycleMany_holds : Rows.CycleManySaid := cycleMany.proved
end Go.Proofs.Ytnnklpmgncbgnaa
