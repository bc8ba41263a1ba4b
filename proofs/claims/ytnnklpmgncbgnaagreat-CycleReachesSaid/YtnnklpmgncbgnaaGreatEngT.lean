/- The engine, part 20: results in new memory (told by content), for arguments that are only lent; results that are not looked at. -/
import Derived.Test.YtnnklpmgncbgnaaGreatEngS
set_option linter.unusedVariables false
set_option linter.unusedSimpArgs false
namespace Go.Proofs.YtnnklpmgncbgnaaGreat
open Go

section
variable {P : Program} {n : Nat} {Q : APost} {env : Env} {σ : Store} {ops : Array Oper}
/-- The store, written anew. -/
theorem aw_st {c : Code} {σ2 : Store} (e : σ = σ2) (h : AW P n c Q env σ2) : AW P n c Q env σ := e ▸ h
theorem al_st {l : List Oper} {σ2 : Store} (e : σ = σ2) (h : AL P n ops l Q env σ2) : AL P n ops l Q env σ := e ▸ h
end
/-- What lies in objects, told by its content. -/
inductive NewL (σ : Store) : AVal → AVal → Prop
  | v (x : Value) : NewL σ (.v x) (.v x)
  | nil (sz : Nat) : NewL σ .nil (.list sz [])
  | vnil (sz : Nat) : NewL σ (.v (.slice none 0 0)) (.list sz [])
  | row (id ver sz : Nat) (els : List (List AVal)) : σ.get id = some (ver, .row sz els) → (∀ el ∈ els, el.all AVal.sca = true) → NewL σ (.slice id ver 0 els.length) (.list sz els)
inductive NewA (σ : Store) : AVal → AVal → Prop
  | leaf (a b : AVal) : NewL σ a b → NewA σ a b
  | agg (as bs : List AVal) : All2 (NewL σ) as bs → NewA σ (.agg as) (.agg bs)
inductive NewT (σ : Store) : AVal → AVal → Prop
  | one (a b : AVal) : NewA σ a b → NewT σ a b
  | tuple (as bs : List AVal) : All2 (NewA σ) as bs → NewT σ (.tuple as) (.tuple bs)
theorem new2_nil {σ : Store} : All2 (NewL σ) [] [] := trivial
theorem new2_cons {σ : Store} {a b : AVal} {as bs : List AVal} (h : NewL σ a b) (hs : All2 (NewL σ) as bs) : All2 (NewL σ) (a :: as) (b :: bs) := ⟨h, hs⟩
theorem new3_nil {σ : Store} : All2 (NewA σ) [] [] := trivial
theorem new3_cons {σ : Store} {a b : AVal} {as bs : List AVal} (h : NewA σ a b) (hs : All2 (NewA σ) as bs) : All2 (NewA σ) (a :: as) (b :: bs) := ⟨h, hs⟩
theorem new_map {α : Type} {σ : Store} {id ver sz m : Nat} {f : α → List AVal} {l : List α} (hid : σ.get id = some (ver, .row sz (l.map f))) (hm : m = l.length) (hc : ∀ x, (f x).all AVal.sca = true) : NewL σ (.slice id ver 0 m) (.list sz (l.map f)) := by
  subst hm
  have := NewL.row (σ := σ) id ver sz (l.map f) hid (sca_map hc)
  rwa [List.length_map] at this

theorem newL_rep {ok : Nat → Prop} {L : Loc} {σ : Store} {w : World} (hs : Sim ok L σ w) {a b : AVal} {v : Value} (h : NewL σ a b) (hr : RepL ok L w a v) : RepC (Foot L σ) w b v := by
  cases h with
  | v x => have h5 : RepC ok w (.v x) v := hr; cases h5; exact RepC.v _
  | nil sz => have h5 : RepC ok w .nil v := hr; cases h5; exact RepC.empty _ _ _
  | vnil sz => have h5 : RepC ok w (.v (.slice none 0 0)) v := hr; cases h5; exact RepC.empty _ _ _
  | row id ver sz els hid hsca => exact row_scal hs hid hsca hr
theorem newT_rep {ok ok2 : Nat → Prop} {L L2 : Loc} {σ : Store} {w : World} (hs : Sim ok L σ w) (hsub : ∀ b, Foot L σ b → ok2 b) {a b : AVal} {v : Value} (h : NewT σ a b) (hr : Rep ok L w a v) : Rep ok2 L2 w b v := by
  have hL : ∀ a b v, NewL σ a b → RepL ok L w a v → RepL ok2 L2 w b v := by
    intro a b v h hr
    have := (newL_rep hs h hr).mono (ok' := ok2) hsub (fun _ _ => rfl)
    cases h <;> exact this
  have hA : ∀ a b v, NewA σ a b → RepA ok L w a v → RepA ok2 L2 w b v := by
    intro a b v h hr
    cases h with
    | leaf a b hl =>
      cases hl with
      | v x => exact hL _ _ _ (.v x) hr
      | nil sz => exact hL _ _ _ (.nil sz) hr
      | vnil sz => exact hL _ _ _ (.vnil sz) hr
      | row id ver sz els h1 h2 => exact hL _ _ _ (.row id ver sz els h1 h2) hr
    | agg as bs hl =>
      obtain ⟨vs, e, h3⟩ := hr
      exact ⟨vs, e, All2.two (S := RepL ok L w) (T := RepL ok2 L2 w) (fun a b c h1 h4 => hL a b c h1 h4) _ _ _ hl h3⟩
  cases h with
  | one a b hl =>
    cases hl with
    | leaf a b hl =>
      cases hl with
      | v x => exact hA _ _ _ (.leaf _ _ (.v x)) hr
      | nil sz => exact hA _ _ _ (.leaf _ _ (.nil sz)) hr
      | vnil sz => exact hA _ _ _ (.leaf _ _ (.vnil sz)) hr
      | row id ver sz els h1 h2 => exact hA _ _ _ (.leaf _ _ (.row id ver sz els h1 h2)) hr
    | agg as bs hl => exact hA _ _ _ (.agg _ _ hl) hr
  | tuple as bs hl =>
    obtain ⟨vs, e, h3⟩ := hr
    exact ⟨vs, e, All2.two (S := RepA ok L w) (T := RepA ok2 L2 w) (fun a b c h1 h4 => hA a b c h1 h4) _ _ _ hl h3⟩
theorem keep_nothing (σ : Store) : σ.keep (fun _ => false) = [] := by
  induction σ with
  | nil => rfl
  | cons p r ih => obtain ⟨i, x⟩ := p; simp only [Store.keep, ih]
theorem keep_every (σ : Store) : σ.keep (fun _ => true) = σ := by
  induction σ with
  | nil => rfl
  | cons p r ih => obtain ⟨i, x⟩ := p; simp only [Store.keep, ih]
/-- What is lent is given back; the result is in new memory. -/
theorem acn_new {P : Program} {f : FuncId} {avs bvs : List AVal} {b : AVal} {σ : Store} (hl : All2 (LendA σ) avs bvs) (h : AC P f bvs [] (fun r σ' => ∃ a, r = .ret a ∧ NewT σ' a b)) : AC P f avs σ (fun r σ' => r = .ret b ∧ σ' = σ) := by
  intro ok L w vs hs hv
  have hv' : All2 (Rep (fun x => ok x ∨ Foot L σ x) L w) bvs vs := All2.two (fun a b c h1 h3 => h1.rep hs h3) _ _ _ hl hv
  refine (h _ L w vs (sim_empty (fun b hb => hb.elim (fun h => (hs.okd b h).1) (fun h => hs.lt b h)) (hs.glob.mono (fun b hb => .inl hb) (fun _ _ => rfl))) hv').mono ?_
  rintro e w' ⟨r, σ1, ok1, L1, ⟨a, rfl, hn⟩, he, hs1, hx⟩
  cases e with
  | returned v =>
    have hx : Rep ok1 L1 w' a v := hx
    have hnew : ∀ b, Foot L1 σ1 b → w.heap.size ≤ b := by
      intro b hb
      rcases Nat.lt_or_ge b w.heap.size with h | h
      · exact (foot_empty (he.foot b h hb)).elim
      · exact h
    obtain ⟨ok2, L2, he2, hs2, _, hdead⟩ := freeze_core hs1 (fun _ => false)
    have hall : σ1.keep (fun i => !(fun _ => false) i) = σ1 := keep_every σ1
    rw [hall] at hdead
    rw [keep_nothing] at he2 hs2
    obtain ⟨he3, hs3⟩ := back_pure hs _ (fun b hb => hb) (fun b hb => .inl hb) (he.trans he2) hs2
    refine ⟨.ret b, σ, _, L, ⟨rfl, rfl⟩, he3, hs3, ?_⟩
    exact newT_rep hs1 (fun b hb => ⟨hdead b hb, fun hf => by have := hs.lt b hf; have := hnew b hb; omega⟩) hn hx
  | _ => exact hx.elim
/-- .. or the result is not looked at. -/
theorem acp_drop {P : Program} {f : FuncId} {avs bvs : List AVal} {a : AVal} {σ : Store} (hl : All2 (LendA σ) avs bvs) (h : ACp P f bvs a) : AC P f avs σ (fun r σ' => ∃ x, r = .ret (.v x) ∧ σ' = σ) := by
  intro ok L w vs hs hv
  have hv' : All2 (Rep (fun x => ok x ∨ Foot L σ x) L w) bvs vs := All2.two (fun a b c h1 h3 => h1.rep hs h3) _ _ _ hl hv
  refine (h [] _ L w vs (sim_empty (fun b hb => hb.elim (fun h => (hs.okd b h).1) (fun h => hs.lt b h)) (hs.glob.mono (fun b hb => .inl hb) (fun _ _ => rfl))) hv').mono ?_
  rintro e w' ⟨r, σ1, ok1, L1, ⟨rfl, rfl⟩, he, hs1, hx⟩
  cases e with
  | returned v =>
    obtain ⟨he3, hs3⟩ := back_pure hs _ (fun b hb => hb) (fun b hb => .inl hb) he hs1
    exact ⟨.ret (.v v), σ, _, L, ⟨v, rfl, rfl⟩, he3, hs3, RepC.v v⟩
  | _ => exact hx.elim
end Go.Proofs.YtnnklpmgncbgnaaGreat
