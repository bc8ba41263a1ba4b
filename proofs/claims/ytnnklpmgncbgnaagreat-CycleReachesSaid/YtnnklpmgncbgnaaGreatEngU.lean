/- The engine, part 21: two operations that write, in either order. -/
import Derived.Test.YtnnklpmgncbgnaaGreatEngT
set_option linter.unusedVariables false
set_option linter.unusedSimpArgs false
namespace Go.Proofs.YtnnklpmgncbgnaaGreat
open Go

section
variable {P : Program} {n : Nat} {Q : APost} {env env0 : Env} {σ σ' : Store} {ops : Array Oper} {steps : List Stp} {rem : List Nat}
/-- What must hold if e is the next that writes. -/
def Next (P : Program) (n : Nat) (ops : Array Oper) (Q : APost) (env0 : Env) (steps : List Stp) (e : Nat) (o : Oper) (rem : List Nat) (env : Env) (σ : Store) : Prop :=
  ∀ ok L w (act : Act), Sim ok L σ w → (∀ x ∈ o.op.operands, ∀ b, aval env x = some b → Rep ok L w b (act.eval x)) → ∀ (K : Act → World → Prop),
      (∀ a σ' ok' L' w' v, Loose P ops e σ' steps → AFl P n ops Q env0 (⟨e, a, env, true⟩ :: steps.map (fixS ops e)) rem (env.putd o.dst a) σ' → Evo ok L σ w ok' L' σ' w' → Sim ok' L' σ' w' → Rep ok' L' w' a v → K (act.put o.dst v) w') → o.wp P act w K (fun _ _ _ => False)
theorem next_opR {e : Nat} {o : Oper} {R : AVal → Store → Prop} (hop : OpR P o (aval env) σ R)
    (k : ∀ a σ', R a σ' → Loose P ops e σ' steps ∧ AFl P n ops Q env0 (⟨e, a, env, true⟩ :: steps.map (fixS ops e)) rem (env.putd o.dst a) σ') : Next P n ops Q env0 steps e o rem env σ := fun ok L w act hs hr K hK => by
    obtain ⟨a, σ', v, w', ok', L', hR, h1, he, hs', hv⟩ := hop ok L w act.eval hs hr
    obtain ⟨k1, k2⟩ := k a σ' hR
    unfold Oper.wp
    rcases h1 with h1 | ⟨h1, rfl⟩
    · rw [h1]; exact hK _ _ _ _ _ _ k1 k2 he hs' hv
    · rw [h1]; exact hK _ _ _ _ _ _ k1 k2 he hs' hv
theorem afl_two {e1 : Nat} {o1 o2 : Oper} {rem1 : List Nat} (e2 : Nat) (rem2 : List Nat) (ho1 : ops[e1]? = some o1) (hg1 : o1.guard = none) (ho2 : ops[e2]? = some o2) (hg2 : o2.guard = none)
    (hok : rem1.all (fun k => k == e2 || bef ops e1 k || bef ops e2 k) = true) (hplan2 : planOK ops (steps.reverse.map (·.i) ++ e2 :: rem2) = true) (hd1 : ∀ d, o1.dst = some d → d < n) (hd2 : ∀ d, o2.dst = some d → d < n)
    (h1 : Next P n ops Q env0 steps e1 o1 rem1 env σ) (h2 : Next P n ops Q env0 steps e2 o2 rem2 env σ) : AFl P n ops Q env0 steps (e1 :: rem1) env σ := by
  intro hplan hcoh hgood listed ok L w act hI
  obtain ⟨hlow, hcov, hpw, _, hx0⟩ := plan_facts hplan
  have hes1 : e1 < ops.size := (Array.getElem?_eq_some_iff.1 ho1).1
  refine fl_run (ok0 := ok) (L0 := L) (σ0 := σ) (w0 := w) hlow hpw hcoh hgood (fun listed ok1 L1 w1 act1 hI1 he1 hall => ?_) (fun r listed ok1 L1 w1 act1 hI1 he1 ht j hj hjn => ?_) _ listed ok L w act hI (.refl _ _ _ _) rfl
  · obtain ⟨s, hs, h3⟩ := hI1.sub e1 hes1 (hall e1 hes1)
    exact absurd h3 (hx0 s hs e1 (by simp)).ne
  · obtain ⟨hjs, hjf, _⟩ := ready_deps hj
    have take : ∀ (o : Oper) (rem : List Nat), planOK ops (steps.reverse.map (·.i) ++ j :: rem) = true → ops[j]? = some o → o.guard = none → (∀ d, o.dst = some d → d < n) → Next P n ops Q env0 steps j o rem env σ → wpOp P ops (Post n Q ok L σ w) j (wpAny P .any ops (Post n Q ok L σ w) r (listed.setIfInBounds j true)) act1 w1 := by
      intro o rem hplan ho hg hd h
      obtain ⟨_, _, _, hpr, hx⟩ := plan_facts hplan
      have hnot : ∀ s ∈ steps, s.i ≠ j := fun s hs => (hx s hs j (by simp)).ne
      have known := inv_known hI1 (l1 := []) (l2 := steps) (e := env) (j := j) (fun m hm => .inr (.inr hm)) (fun m hm => by cases hm) (fun m hm => ⟨hm, hx m hm j (by simp)⟩) hcoh hj ho
      have opr : ∀ x ∈ o.op.operands, ∀ b, aval env x = some b → Rep ok1 L1 w1 b (act1.eval x) := fun x hx b hb => aval_rep (fun t ht a ha => known t (operand_mem (by subst ht; exact hx)) a ha) hb
      unfold wpOp
      rw [ho]
      simp only
      rw [if_pos (by simp [Region.wanted, hg])]
      refine .inl (oper_wp_mono2 (fun _ _ h => h) (fun _ _ _ h => h.elim) (h ok1 L1 w1 act1 hI1.sim opr _ ?_))
      intro a σ' ok' L' w' v hloose hk hev hs' hv
      have htg : togo (listed.setIfInBounds j true) ops.size = r := by
        have := togo_set listed j hjf ops.size
        rw [show decide (j < ops.size) = true from by simp [hjs]] at this
        simp only [cond_true] at this
        omega
      rw [← htg]
      refine wpAny_monoQ (fun _ _ _ h => Post.after (he1.trans hev) h) _ _ _ _ (hk ?_ ⟨by rw [dstOf, ho]; rfl, coh_fix hcoh⟩ (fun s hs hf => ?_) _ ok' L' w' _ (inv_next hI1 hj ho (a := a) (fun m hm => ?_) (fun m hm e => ?_) (fun m hm => ?_) ⟨_, List.mem_cons_self .., rfl⟩ (fun m hm hf => ?_) (fun m hm hne d hmd => ?_) hd hev hs' hv))
      · have e1 : ((⟨j, a, env, true⟩ :: steps.map (fixS ops j) : List Stp).reverse.map (·.i) ++ rem) = steps.reverse.map (·.i) ++ j :: rem := by
          rw [List.reverse_cons, List.map_append, List.append_assoc, ← List.map_reverse, List.map_map]
          rfl
        rw [e1]; exact hplan
      · rcases List.mem_cons.1 hs with rfl | hs
        · cases hf
        · obtain ⟨s0, hs0, rfl⟩ := List.mem_map.1 hs
          change (s0.f || bef ops s0.i j) = false at hf
          rw [Bool.or_eq_false_iff] at hf
          obtain ⟨o1, g1, g2, g3, _⟩ := hgood s0 hs0 hf.1
          rcases hloose.all s0 hs0 with h | h | ⟨o2, h1, h2⟩
          · rw [hf.1] at h; cases h
          · rw [hf.2] at h; cases h
          · rw [g1] at h1; cases h1
            exact ⟨o1, g1, g2, g3, h2⟩
      · rcases List.mem_cons.1 hm with rfl | hm
        · exact .inr ⟨rfl, rfl⟩
        · obtain ⟨s0, hs0, rfl⟩ := List.mem_map.1 hm
          exact .inl ⟨s0, hs0, rfl, rfl⟩
      · rcases List.mem_cons.1 hm with rfl | hm
        · rfl
        · obtain ⟨s0, hs0, rfl⟩ := List.mem_map.1 hm
          exact absurd e (hnot s0 hs0)
      · exact ⟨fixS ops j m, by simp only [List.mem_cons, List.mem_map]; exact .inr ⟨m, hm, rfl⟩, rfl⟩
      · rcases List.mem_cons.1 hm with rfl | hm
        · exact .inl rfl
        · obtain ⟨s0, hs0, rfl⟩ := List.mem_map.1 hm
          change (s0.f || bef ops s0.i j) = true at hf
          rw [Bool.or_eq_true] at hf
          rcases hf with hf | hf
          · exact .inr (hI1.fx s0 hs0 hf)
          · exact .inr (getD_true_of_false (closed_before hI1.cl hj (bef_before hf)))
      · rcases List.mem_cons.1 hm with rfl | hm
        · exact absurd rfl hne
        · obtain ⟨s0, hs0, rfl⟩ := List.mem_map.1 hm
          change dstOf ops s0.i = some d at hmd
          cases hom : ops[s0.i]? with
          | none => rw [dstOf, hom] at hmd; cases hmd
          | some om =>
            have h3 : om.dst = some d := by rw [dstOf, hom] at hmd; exact hmd
            exact (hx s0 hs0 j (by simp)).dst om o d hom ho h3
    rcases hcov j hjs with ⟨s, hs, h3⟩ | h3
    · exact absurd h3 (hjn s hs)
    · rcases List.mem_cons.1 h3 with h3 | h3
      · subst h3; exact take o1 rem1 hplan ho1 hg1 hd1 h1
      · have hb := List.all_eq_true.1 hok j h3
        simp only [Bool.or_eq_true, beq_iff_eq] at hb
        rcases hb with (rfl | hb) | hb
        · exact take o2 rem2 hplan2 ho2 hg2 hd2 h2
        · obtain ⟨s, hs, h4⟩ := hI1.sub e1 hes1 (getD_true_of_false (closed_before hI1.cl hj (bef_before hb)))
          exact absurd h4 (hx0 s hs e1 (by simp)).ne
        · obtain ⟨_, _, _, _, hx2⟩ := plan_facts hplan2
          obtain ⟨s, hs, h4⟩ := hI1.sub e2 (Array.getElem?_eq_some_iff.1 ho2).1 (getD_true_of_false (closed_before hI1.cl hj (bef_before hb)))
          exact absurd h4 (hx2 s hs e2 (by simp)).ne
end
end Go.Proofs.YtnnklpmgncbgnaaGreat
