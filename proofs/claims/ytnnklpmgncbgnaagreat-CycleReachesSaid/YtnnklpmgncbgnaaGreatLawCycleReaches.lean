/- The row of the law CycleReaches (printed by rows.py). -/
import Derived.Test.YtnnklpmgncbgnaaGreatRows
import Derived.Test.YtnnklpmgncbgnaaGreatW257
import Derived.Test.YtnnklpmgncbgnaaGreatCDec
import Derived.WalkKit
import Derived.ProofKit
import Derived.OpenShut
import Derived.ShutString
import Derived.ChangeOld
import Derived.Below
import Derived.SizedLaws
set_option linter.unusedVariables false
namespace Go.Proofs.YtnnklpmgncbgnaaGreat.cycleReaches
open Go Go.ChangeShapes Go.WideShapes Go.ChangeAt Go.RowKit
theorem own : ownKnob Tryz.prog.godebug = none := by kernel_rfl
theorem laidOut : laidOutB Tryz.prog = true := by kernel_rfl
set_option maxRecDepth 100000 in
theorem lifted (os : Os) (started : os.Started) (H : Type) (enc : TypeId × Value → H) :
    ReturnsInHanded {} Tryz.checked os 3 .any (Rows.cycleReachesSpec.pre6 enc Tryz.prog Tryz.f3 Rows.cycleReachesRow.domain false) (Rows.cycleReachesSpec.post enc Tryz.prog Tryz.f3 false true false false) := by
  refine returnsInHanded_of_change_sized (C := Tryz.checked) own started (by kernel_rfl) Tryz.func3
    (ChangeSpec.witness6 (enc := enc) (C := Tryz.checked) false ⟨#[], #[.agg #[.slice none 0 0, .slice none 0 0, .slice none 0 0, .slice none 0 0], .int .i64 0, .slice none 0 0], []⟩ 8 (by kernel_rfl) (by kernel_rfl) (by kernel_rfl) (by kernel_rfl)) ?_
  intro W base args ds gs before hval0 hW hcnd hsz0 _
  have hsz : (DataW.weightsEach Tryz.prog (Tryz.f3.params.toList ++ Rows.cycleReachesSpec.plain.varTypes Tryz.prog) (ds ++ gs)).all (· ≤ reachBytes) = true := hsz0
  have hval : ∀ (j : Nat) t v, Tryz.f3.params[j]? = some t → args[j]? = some v → Value.okWide Tryz.prog W .any base t v := hval0
  have hW' := hW
  obtain ⟨p, q, hA0, hV, rfl, hfz, hnd⟩ := hW
  have hA : DataW.TrodAll enc Tryz.prog W 0 (fun _ => true) true Tryz.f3.params.toList args.toList ds p := hA0
  rw [Tryz.params3] at hA hval hsz
  obtain ⟨v0, vs0, d0, ds0, p0, q0, hargs, rfl, rfl, h0, r0⟩ := trodAll_cons hA
  obtain ⟨v1, vs1, d1, ds1, p1, q1, rfl, rfl, rfl, h1, r1⟩ := trodAll_cons r0
  obtain ⟨v2, vs2, d2, ds2, p2, q2, rfl, rfl, rfl, h2, r2⟩ := trodAll_cons r1
  obtain ⟨rfl, rfl, rfl⟩ := trodAll_nil r2
  obtain rfl : args = #[v0, v1, v2] := by cases args; simp_all
  obtain ⟨rfl, rfl⟩ := trodVars_none hV
  have k0 := h0
  have lt0 : ∀ x ∈ p0, x.block < W.heap.size := by obtain ⟨m, hm⟩ := k0; exact DataW.trod_lt m _ _ _ hm
  obtain ⟨f0, c0, t0, a0⟩ := arg_rep2 (S := inTypes) (enc := enc) (w := W) (ok := fun b => b < W.heap.size) closed_in (fun b hb => hb) (t := 27) (by decide) (hval 0 27 v0 rfl rfl) h0 (weights_at hsz 0 rfl rfl)
  obtain ⟨n0, e0, s0⟩ := dec_net t0
  rw [e0] at a0
  have k1 := h1
  have lt1 : ∀ x ∈ p1, x.block < W.heap.size := by obtain ⟨m, hm⟩ := k1; exact DataW.trod_lt m _ _ _ hm
  obtain ⟨f1, c1, t1, a1⟩ := arg_rep2 (S := inTypes) (enc := enc) (w := W) (ok := fun b => b < W.heap.size) closed_in (fun b hb => hb) (t := 3) (by decide) (hval 1 3 v1 rfl rfl) h1 (weights_at hsz 1 rfl rfl)
  obtain ⟨n1, e1, s1⟩ := dec_lit t1
  rw [e1] at a1
  have k2 := h2
  have lt2 : ∀ x ∈ p2, x.block < W.heap.size := by obtain ⟨m, hm⟩ := k2; exact DataW.trod_lt m _ _ _ hm
  obtain ⟨f2, c2, t2, a2⟩ := arg_rep2 (S := inTypes) (enc := enc) (w := W) (ok := fun b => b < W.heap.size) closed_in (fun b hb => hb) (t := 28) (by decide) (hval 2 28 v2 rfl rfl) h2 (weights_at hsz 2 rfl rfl)
  obtain ⟨n2, e2, s2⟩ := dec_lb t2
  rw [e2] at a2
  clear hA0 hval0 hsz0 hsz
  refine (ac_door (w := W) (a := .bool true) (vs := [v0, v1, v2]) (fun g hg => by cases hg) (law_CycleReaches n0 s0 n1 n2 s2 []) (fun L => ⟨a0 L, ⟨a1 L, ⟨a2 L, trivial⟩⟩⟩) (by rintro r σ' ⟨rfl, _⟩; rfl)).mono fun e W' ⟨he, bel⟩ => ?_
  subst he
  exact ⟨_, rfl, _, _, _, [], _, [], hW', trodAll_mk1 (shut_bool Tryz.underlying4 _), (trodAll_cons_mk (Below.trod laidOut (by kernel_rfl) (of_decide_eq_true (by kernel_rfl)) k0 bel lt0) (trodAll_cons_mk (Below.trod laidOut (by kernel_rfl) (of_decide_eq_true (by kernel_rfl)) k1 bel lt1) (trodAll_cons_mk (Below.trod laidOut (by kernel_rfl) (of_decide_eq_true (by kernel_rfl)) k2 bel lt2) trodAll_mk0))), rfl, bel.frame _, fun h => by cases h⟩
theorem over : Rows.cycleReachesRow.holds Tryz.pinned (OpenSpec.ofChange Rows.cycleReachesSpec) :=
  OpenClaim.holds_of_wide 3 Tryz.f3 rfl rfl rfl rfl rfl rfl rfl ⟨rfl, rfl, rfl, rfl, rfl⟩ rfl rfl rfl rfl rfl (by kernel_rfl) Tryz.func3 (by kernel_rfl)
    (of_decide_eq_true (by kernel_rfl)) (by unfold Func.isWrapper; first | (rw [if_pos (by decide +kernel)]; kernel_rfl) | (rw [if_neg (by decide +kernel)]; exact ⟨rfl, rfl⟩))
    (fun os started H enc _ => lifted os started H enc)
theorem proved : Rows.CycleReachesSaid := over
#print axioms proved
end Go.Proofs.YtnnklpmgncbgnaaGreat.cycleReaches
namespace Go.Proofs.YtnnklpmgncbgnaaGreat
/-- The row, under a short name, for the claim. -/
theorem cycleReaches_holds : Rows.CycleReachesSaid := cycleReaches.proved
end Go.Proofs.YtnnklpmgncbgnaaGreat
