/- The engine, part 26: objects are dropped, and the cells of a kept row turn from their slices to closed lists. -/
import Derived.Test.YtnnklpmgncbgnaaGreatEngY
set_option linter.unusedVariables false
set_option linter.unusedSimpArgs false
namespace Go.Proofs.YtnnklpmgncbgnaaGreat
open Go
section
variable {P : Program} {n : Nat} {Q : APost} {env : Env} {σ σ' : Store} {ops : Array Oper} {rest : List Oper}
/-- What becomes of an object's content. -/
def FrzO (σ : Store) (q : Nat → Bool) : AObj → AObj → Prop
  | .row sz els, .row sz2 els2 => sz = sz2 ∧ els.length = els2.length ∧ ∀ (i : Nat) (el el2 : List AVal), els[i]? = some el → els2[i]? = some el2 → el.length = el2.length ∧ ∀ (j : Nat) (a b : AVal), el[j]? = some a → el2[j]? = some b → FrzL σ q a b
  | o, o2 => o = o2
theorem FrzO.same (σ : Store) (q : Nat → Bool) (o : AObj) : FrzO σ q o o := by
  cases o with
  | row sz els =>
    refine ⟨rfl, rfl, fun i el el2 h1 h2 => ?_⟩
    rw [h1] at h2; cases h2
    refine ⟨rfl, fun j a b h3 h4 => ?_⟩
    rw [h3] at h4; cases h4
    exact .same _
  | map e => exact rfl
  | iter k s => exact rfl
/-- What is kept of a store, with contents told anew. -/
def FStore (σ : Store) (q : Nat → Bool) (σ2 : Store) : Prop := ∀ id ver o2, σ2.get id = some (ver, o2) → ∃ o, (σ.keep q).get id = some (ver, o) ∧ σ.get id = some (ver, o) ∧ FrzO σ q o o2
theorem freeze_deep {ok : Nat → Prop} {L : Loc} {w : World} (hs : Sim ok L σ w) (q : Nat → Bool) {σ2 : Store} (h2 : FStore σ q σ2) : ∃ ok' L', Evo ok L σ w ok' L' σ2 w ∧ Sim ok' L' σ2 w ∧
    (∀ a v, RepL ok L w a v → RepL ok' L' w a v) ∧ (∀ a b v, FrzL σ q a b → RepL ok L w a v → RepL ok' L' w b v) := by
  obtain ⟨ok', L', he, hs', hk, _⟩ := freeze_core hs q
  have hsub : ∀ b, Foot L' σ2 b → Foot L' (σ.keep q) b := by
    rintro b ⟨id, ver, o2, g1, g2, g3⟩
    obtain ⟨o, k1, _, _⟩ := h2 id ver o2 g1
    exact ⟨id, ver, o, k1, g2, g3⟩
  refine ⟨ok', L', ⟨he.os, he.tape, he.output, he.size, he.same, fun b hb hf => he.foot b hb (hsub b hf), he.okm, he.okn, he.ver, he.stay⟩, ?_, fun a v h => hk a a v (.same _) h, hk⟩
  refine ⟨fun id ver o2 g => ?_, fun b hf => hs'.lt b (hsub b hf), fun i j vi vj oi oj gi gj => ?_, fun b hb => ⟨(hs'.okd b hb).1, fun hf => (hs'.okd b hb).2 (hsub b hf)⟩, hs'.glob⟩
  · obtain ⟨o, k1, k2, k3⟩ := h2 id ver o2 g
    have a1 := hs'.objs id ver o k1
    have a2 := hs.objs id ver o k2
    cases o with
    | row sz els =>
      cases o2 with
      | row sz2 els2 =>
        obtain ⟨rfl, e2, e3⟩ := k3
        obtain ⟨b1, b2, b3, b4, b5⟩ := a1
        obtain ⟨c1, c2, c3, c4, c5⟩ := a2
        obtain ⟨s1, s2, s3⟩ := he.stay id (b1.trans c1.symm)
        have hel : ∀ (i : Nat) (el2 : List AVal), els2[i]? = some el2 → ∃ el : List AVal, els[i]? = some el := by
          intro i el2 hi
          have := (List.getElem?_eq_some_iff.1 hi).1
          exact ⟨els[i], List.getElem?_eq_getElem (by omega)⟩
        refine ⟨b1, b2, fun el2 hm => ?_, by rw [← e2]; exact b4, fun hc => ?_⟩
        · obtain ⟨i, hi⟩ := List.getElem?_of_mem hm
          obtain ⟨el, hel1⟩ := hel i el2 hi
          rw [← (e3 i el el2 hel1 hi).1]
          exact c3 el (List.mem_of_getElem? hel1)
        · obtain ⟨conc, e, g1, g2, g3⟩ := c5 (by rw [← s2]; exact hc)
          refine ⟨conc, e, by rw [s1]; exact g1, by rw [s2]; exact g2, fun i el2 j av hi hj => ?_⟩
          obtain ⟨el, hel1⟩ := hel i el2 hi
          obtain ⟨f1, f2⟩ := e3 i el el2 hel1 hi
          have hj1 := (List.getElem?_eq_some_iff.1 hj).1
          have hj2 : el[j]? = some el[j] := List.getElem?_eq_getElem (by omega)
          obtain ⟨v, m1, m2, m3⟩ := g3 i el j _ hel1 hj2
          exact ⟨v, m1, hk _ _ _ (f2 j _ av hj2 hj) m2, m3⟩
      | map e => exact absurd k3 (by intro h; cases h)
      | iter a b => exact absurd k3 (by intro h; cases h)
    | map e =>
      cases o2 with
      | map e2 => cases k3; exact a1
      | row a b => exact absurd k3 (by intro h; cases h)
      | iter a b => exact absurd k3 (by intro h; cases h)
    | iter a b =>
      cases o2 with
      | iter a2 b2 => cases k3; exact a1
      | row a b => exact absurd k3 (by intro h; cases h)
      | map e => exact absurd k3 (by intro h; cases h)
  · obtain ⟨o1, k1, _, _⟩ := h2 i vi oi gi
    obtain ⟨o2, k2, _, _⟩ := h2 j vj oj gj
    exact hs'.inj i j vi vj o1 o2 k1 k2
theorem freeze_env2 {ok : Nat → Prop} {L : Loc} {w : World} {act : Act} (hs : Sim ok L σ w) (hr : RepEnv ok L w env act.tmps) (q : Nat → Bool) {env' : Env} (hf : FSub σ q env' env) {σ2 : Store} (h2 : FStore σ q σ2) :
    ∃ ok' L', Evo ok L σ w ok' L' σ2 w ∧ Sim ok' L' σ2 w ∧ RepEnv ok' L' w env' act.tmps := by
  obtain ⟨ok', L', he, hs', _, hk⟩ := freeze_deep hs q h2
  refine ⟨ok', L', he, hs', fun t b hb => ?_⟩
  obtain ⟨a, ha, hfa⟩ := hf t b hb
  obtain ⟨v, g1, g2⟩ := hr t a ha
  refine ⟨v, g1, ?_⟩
  cases hfa with
  | leaf a b hl =>
    cases hl with
    | same => exact g2.evo hs he
    | nil sz => exact hk _ _ _ (.nil sz) g2
    | vnil sz => exact hk _ _ _ (.vnil sz) g2
    | slice id ver off m sz els h3 h4 h5 h6 => exact hk _ _ _ (.slice id ver off m sz els h3 h4 h5 h6) g2
  | agg as bs hl =>
    obtain ⟨vs, e, h3⟩ := g2
    exact ⟨vs, e, All2.two (S := RepL ok L w) (T := RepL ok' L' w) (fun a b c h1 h4 => hk a b c h1 h4) _ _ _ hl h3⟩
theorem aw_freeze2 {c : Code} (q : Nat → Bool) {env' : Env} {σ2 : Store} (hf : FSub σ q env' env) (h2 : FStore σ q σ2) (h : AW P n c Q env' σ2) : AW P n c Q env σ := fun ok L w act h1 hr h3 h4 => by
  obtain ⟨ok', L', he, hs', hr'⟩ := freeze_env2 h1 hr q hf h2
  exact wp_mono (h ok' L' w act hs' hr' h3 h4) fun _ _ _ hp => hp.after he
theorem al_freeze2 {l : List Oper} (q : Nat → Bool) {env' : Env} {σ2 : Store} (hf : FSub σ q env' env) (h2 : FStore σ q σ2) (h : AL P n ops l Q env' σ2) : AL P n ops l Q env σ := fun ok L w act h1 hr h3 h4 => by
  obtain ⟨ok', L', he, hs', hr'⟩ := freeze_env2 h1 hr q hf h2
  exact wpList_after (fun _ _ _ hp => Post.after he hp) _ _ _ (h ok' L' w act hs' hr' h3 h4)
end
end Go.Proofs.YtnnklpmgncbgnaaGreat
