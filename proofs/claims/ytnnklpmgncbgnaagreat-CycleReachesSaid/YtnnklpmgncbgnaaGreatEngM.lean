/- The engine, part 13: what is no longer written is told by its content; an empty list to grow; pure contracts; chains of tests; loops. -/
import Derived.Test.YtnnklpmgncbgnaaGreatEngL
set_option linter.unusedVariables false
set_option linter.unusedSimpArgs false
namespace Go.Proofs.YtnnklpmgncbgnaaGreat
open Go

def Store.keep (q : Nat → Bool) : Store → Store
  | [] => []
  | (i, x) :: r => match q i with | true => (i, x) :: Store.keep q r | false => Store.keep q r

theorem Store.get_keep (q : Nat → Bool) (σ : Store) (k : Nat) : (σ.keep q).get k = if q k then σ.get k else none := by
  induction σ with
  | nil => simp [Store.keep, Store.get]
  | cons p r ih =>
    obtain ⟨i, x⟩ := p
    simp only [Store.keep, Store.get]
    by_cases e : i = k
    · subst e
      rw [nat_beq_true.2 rfl]
      cases h : q i
      · simp only [h] at ih ⊢; simpa using ih
      · simp only [Store.get, nat_beq_true.2, if_true]
    · rw [nat_beq_false.2 e]
      cases h : q i
      · exact ih
      · simp only [Store.get]
        rw [nat_beq_false.2 e]
        exact ih

/-- What an object was, told by its content from now on (ids that q drops). -/
inductive FrzL (σ : Store) (q : Nat → Bool) : AVal → AVal → Prop
  | same (a : AVal) : FrzL σ q a a
  | nil (sz : Nat) : FrzL σ q .nil (.list sz [])
  | vnil (sz : Nat) : FrzL σ q (.v (.slice none 0 0)) (.list sz [])
  | slice (id ver off m sz : Nat) (els : List (List AVal)) : q id = false → σ.get id = some (ver, .row sz els) → off + m ≤ els.length → (∀ el ∈ els, el.all AVal.clo1 = true) → FrzL σ q (.slice id ver off m) (.list sz ((els.drop off).take m))
inductive FrzA (σ : Store) (q : Nat → Bool) : AVal → AVal → Prop
  | leaf (a b : AVal) : FrzL σ q a b → FrzA σ q a b
  | agg (as bs : List AVal) : All2 (FrzL σ q) as bs → FrzA σ q (.agg as) (.agg bs)

theorem frz_whole {σ : Store} {q : Nat → Bool} {id ver m sz : Nat} {els : List (List AVal)} (hq : q id = false) (hid : σ.get id = some (ver, .row sz els)) (hm : m = els.length) (hc : ∀ el ∈ els, el.all AVal.clo1 = true) : FrzL σ q (.slice id ver 0 m) (.list sz els) := by
  subst hm
  have := FrzL.slice (σ := σ) (q := q) id ver 0 els.length sz els hq hid (by omega) hc
  simpa using this

section
variable {P : Program} {n : Nat} {Q : APost} {env : Env} {σ σ' : Store} {ops : Array Oper} {rest : List Oper}

theorem Sim.keep {ok : Nat → Prop} {L : Loc} {w : World} (hs : Sim ok L σ w) (q : Nat → Bool) : Sim ok L (σ.keep q) w := by
  have hg : ∀ i x, (σ.keep q).get i = some x → σ.get i = some x := by
    intro i x h
    rw [Store.get_keep] at h
    split at h
    · exact h
    · cases h
  refine ⟨fun id ver o h => hs.objs id ver o (hg _ _ h), fun b ⟨id, ver, o, h1, h2⟩ => hs.lt b ⟨id, ver, o, hg _ _ h1, h2⟩, fun i j vi vj oi oj hi hj => hs.inj i j vi vj oi oj (hg _ _ hi) (hg _ _ hj), fun b hb => ⟨(hs.okd b hb).1, fun ⟨id, ver, o, h1, h2⟩ => (hs.okd b hb).2 ⟨id, ver, o, hg _ _ h1, h2⟩⟩, hs.glob⟩

theorem freeze_core {ok : Nat → Prop} {L : Loc} {w : World} (hs : Sim ok L σ w) (q : Nat → Bool) : ∃ ok' L', Evo ok L σ w ok' L' (σ.keep q) w ∧ Sim ok' L' (σ.keep q) w ∧
    (∀ a b v, FrzL σ q a b → RepL ok L w a v → RepL ok' L' w b v) ∧ (∀ b, Foot L (σ.keep fun i => !q i) b → ok' b) := by
  let dead : Nat → Prop := fun b => Foot L (σ.keep fun i => !q i) b
  let L' : Loc := { L with ver := fun i => if q i then L.ver i else L.ver i + 1 }
  have hg : ∀ i x, (σ.keep q).get i = some x → σ.get i = some x ∧ q i = true := by
    intro i x h
    rw [Store.get_keep] at h
    split at h
    · rename_i e; exact ⟨h, e⟩
    · cases h
  have hd : ∀ i x, (σ.keep fun i => !q i).get i = some x → σ.get i = some x ∧ q i = false := by
    intro i x h
    rw [Store.get_keep] at h
    split at h
    · rename_i e; exact ⟨h, by simpa using e⟩
    · cases h
  have he : Evo ok L σ w (fun b => ok b ∨ dead b) L' (σ.keep q) w := by
    refine ⟨rfl, rfl, rfl, Nat.le_refl _, fun _ _ _ => rfl, ?_, fun _ h => .inl h, ?_, ?_, ?_⟩
    · rintro b _ ⟨id, ver, o, h1, h2, h3⟩; exact ⟨id, ver, o, (hg _ _ h1).1, h2, h3⟩
    · rintro b (h | ⟨id, ver, o, h1, h2, h3⟩) _
      · exact .inl h
      · exact .inr ⟨id, ver, o, (hd _ _ h1).1, h2, h3⟩
    · intro id; simp only [L']; split <;> omega
    · intro id _; exact ⟨rfl, rfl, rfl⟩
  have hs' : Sim (fun b => ok b ∨ dead b) L' (σ.keep q) w := by
    refine ⟨fun id ver o h => ?_, ?_, ?_, ?_, hs.globEvo he⟩
    · obtain ⟨h1, h2⟩ := hg _ _ h
      exact (hs.objs id ver o h1).evo hs he (by simp [L', h2]) (fun _ => rfl)
    · rintro b ⟨id, ver, o, h1, h2, h3⟩; exact hs.lt b ⟨id, ver, o, (hg _ _ h1).1, h2, h3⟩
    · intro i j vi vj oi oj hi hj; exact hs.inj i j vi vj oi oj (hg _ _ hi).1 (hg _ _ hj).1
    · rintro b (h | ⟨id, ver, o, h1, h2, h3⟩)
      · refine ⟨(hs.okd b h).1, ?_⟩
        rintro ⟨id, ver, o, h1, h2, h3⟩
        exact (hs.okd b h).2 ⟨id, ver, o, (hg _ _ h1).1, h2, h3⟩
      · refine ⟨hs.lt b ⟨id, ver, o, (hd _ _ h1).1, h2, h3⟩, ?_⟩
        rintro ⟨j, vj, oj, j1, j2, j3⟩
        have := hs.inj id j ver vj o oj (hd _ _ h1).1 (hg _ _ j1).1 h2 j2 (h3.trans j3.symm)
        subst this
        have e1 := (hd _ _ h1).2
        have e2 := (hg _ _ j1).2
        rw [e1] at e2; cases e2
  refine ⟨_, L', he, hs', fun a b v hf h => ?_, fun b hb => .inr hb⟩
  cases hf with
  | same => exact h.evo hs he
  | nil sz =>
    have : RepC ok w .nil v := h
    cases this
    exact RepC.empty _ _ _
  | vnil sz =>
    have : RepC ok w (.v (.slice none 0 0)) v := h
    cases this
    exact RepC.empty _ _ _
  | slice id ver off m sz els hq hid hm hc =>
    have hid' : (σ.keep fun i => !q i).get id = some (ver, .row sz els) := by rw [Store.get_keep, if_pos (by simp [hq])]; exact hid
    have := LendL.rep (hs.keep fun i => !q i) (.slice id ver off m sz els hid' hm hc) h
    exact this

/-- What is still told of the temporaries. -/
def FSub (σ : Store) (q : Nat → Bool) (env' env : Env) : Prop := ∀ t b, env'.get t = some b → ∃ a, env.get t = some a ∧ FrzA σ q a b
theorem fsub_nil {q : Nat → Bool} : FSub σ q [] env := fun t b h => by cases h
theorem fsub_cons {q : Nat → Bool} {t : Nat} {a b : AVal} {E : Env} (h : env.get t = some a) (hf : FrzA σ q a b) (hs : FSub σ q E env) : FSub σ q ((t, b) :: E) env := by
  intro u c hu
  rw [Env.get_cons] at hu
  split at hu
  · rename_i e; subst e; cases hu; exact ⟨a, h, hf⟩
  · exact hs u c hu
theorem fsub_same {q : Nat → Bool} : FSub σ q env env := fun t b h => ⟨b, h, .leaf _ _ (.same _)⟩

theorem freeze_env {ok : Nat → Prop} {L : Loc} {w : World} {act : Act} (hs : Sim ok L σ w) (hr : RepEnv ok L w env act.tmps) (q : Nat → Bool) {env' : Env} (hf : FSub σ q env' env) :
    ∃ ok' L', Evo ok L σ w ok' L' (σ.keep q) w ∧ Sim ok' L' (σ.keep q) w ∧ RepEnv ok' L' w env' act.tmps := by
  obtain ⟨ok', L', he, hs', hk, _⟩ := freeze_core hs q
  refine ⟨ok', L', he, hs', fun t b hb => ?_⟩
  obtain ⟨a, ha, hfa⟩ := hf t b hb
  obtain ⟨v, h1, h2⟩ := hr t a ha
  refine ⟨v, h1, ?_⟩
  cases hfa with
  | leaf a b hl =>
    cases hl with
    | same => exact h2.evo hs he
    | nil sz => exact hk _ _ _ (.nil sz) h2
    | vnil sz => exact hk _ _ _ (.vnil sz) h2
    | slice id ver off m sz els h3 h4 h5 h6 => exact hk _ _ _ (.slice id ver off m sz els h3 h4 h5 h6) h2
  | agg as bs hl =>
    obtain ⟨vs, e, h3⟩ := h2
    exact ⟨vs, e, All2.two (S := RepL ok L w) (T := RepL ok' L' w) (fun a b c h1 h4 => hk a b c h1 h4) _ _ _ hl h3⟩

theorem aw_freeze {c : Code} (q : Nat → Bool) {env' : Env} (hf : FSub σ q env' env) (h : AW P n c Q env' (σ.keep q)) : AW P n c Q env σ := fun ok L w act h1 h2 h3 h4 => by
  obtain ⟨ok', L', he, hs', hr'⟩ := freeze_env h1 h2 q hf
  exact wp_mono (h ok' L' w act hs' hr' h3 h4) fun _ _ _ hp => hp.after he
theorem al_freeze {l : List Oper} (q : Nat → Bool) {env' : Env} (hf : FSub σ q env' env) (h : AL P n ops l Q env' (σ.keep q)) : AL P n ops l Q env σ := fun ok L w act h1 h2 h3 h4 => by
  obtain ⟨ok', L', he, hs', hr'⟩ := freeze_env h1 h2 q hf
  exact wpList_after (fun _ _ _ hp => Post.after he hp) _ _ _ (h ok' L' w act hs' hr' h3 h4)

/-- Nothing is listed. -/
def AVal.nilB : AVal → Bool
  | .nil => true
  | .v (.slice none 0 0) => true
  | _ => false
theorem rep_nil {ok : Nat → Prop} {L : Loc} {w : World} {a : AVal} {v : Value} (hn : a.nilB = true) (h : Rep ok L w a v) : ∃ b, v = .slice b 0 0 := by
  unfold AVal.nilB at hn
  split at hn
  · have h' : RepC ok w .nil v := h
    cases h' with
    | nil b => exact ⟨b, rfl⟩
  · have h' : RepC ok w (.v (.slice none 0 0)) v := h
    cases h' with
    | v => exact ⟨none, rfl⟩
  · cases hn
/-- An empty list is a row to grow. -/
theorem own_core {ok : Nat → Prop} {L : Loc} {w : World} {act : Act} (hs : Sim ok L σ w) (hr : RepEnv ok L w env act.tmps) (id sz : Nat) {t : Tmp} {a : AVal} (ht : env.get t = some a) (hn : a.nilB = true) :
    ∃ ver L', Evo ok L σ w ok L' (σ.put id ver (.row sz [])) w ∧ Sim ok L' (σ.put id ver (.row sz [])) w ∧ RepEnv ok L' w ((t, .slice id ver 0 0) :: env) act.tmps := by
  obtain ⟨he, hs'⟩ := sim_upd (w' := w) hs id w.heap.size 0 sz (L.ver id + 1) (.row sz []) (by omega) rfl rfl rfl (Nat.le_refl _) (fun _ _ _ => rfl) (.inl (Nat.le_refl _)) (fun h => absurd rfl h)
    (fun _ => ⟨by simp [Loc.upd], by simp [Loc.upd], by simp, by simp, fun h => by simp [Loc.upd] at h⟩)
  refine ⟨_, _, he, hs', fun u b hb => ?_⟩
  rw [Env.get_cons] at hb
  split at hb
  · rename_i e; subst e; cases hb
    obtain ⟨v, h1, h2⟩ := hr t _ ht
    refine ⟨v, h1, ?_⟩
    obtain ⟨b, rfl⟩ := rep_nil hn h2
    exact ⟨by simp [Loc.upd], fun _ => ⟨b, 0, rfl, Nat.le_refl _, by simp [Loc.upd], fun h => by simp [Loc.upd] at h⟩⟩
  · exact (hr.evo hs he) u b hb
theorem aw_own {c : Code} (id sz : Nat) {t : Tmp} {a : AVal} (ht : env.get t = some a) (hn : a.nilB = true) (h : ∀ ver, AW P n c Q ((t, .slice id ver 0 0) :: env) (σ.put id ver (.row sz []))) : AW P n c Q env σ := fun ok L w act h1 h2 h3 h4 => by
  obtain ⟨ver, L', he, hs', hr'⟩ := own_core h1 h2 id sz ht hn
  exact wp_mono (h ver ok L' w act hs' hr' h3 h4) fun _ _ _ hp => hp.after he
theorem al_own {l : List Oper} (id sz : Nat) {t : Tmp} {a : AVal} (ht : env.get t = some a) (hn : a.nilB = true) (h : ∀ ver, AL P n ops l Q ((t, .slice id ver 0 0) :: env) (σ.put id ver (.row sz []))) : AL P n ops l Q env σ := fun ok L w act h1 h2 h3 h4 => by
  obtain ⟨ver, L', he, hs', hr'⟩ := own_core h1 h2 id sz ht hn
  exact wpList_after (fun _ _ _ hp => Post.after he hp) _ _ _ (h ver ok L' w act hs' hr' h3 h4)

/-! ### Pure contracts -/
def ACp (P : Program) (f : FuncId) (avs : List AVal) (a : AVal) : Prop := ∀ σ, AC P f avs σ (fun r σ' => r = .ret a ∧ σ' = σ)
theorem acp_of {f : FuncId} {avs : List AVal} {a : AVal} (hc : a.clo = true) (h : AC P f avs [] (fun r σ' => r = .ret a ∧ σ' = [])) : ACp P f avs a := fun σ =>
  ac_mono (ac_pure h (by rintro r σ' ⟨rfl, rfl⟩; exact ⟨rfl, hc⟩) σ) (by rintro r σ' ⟨⟨h1, _⟩, h2⟩; exact ⟨h1, h2⟩)
theorem acp_lend {f : FuncId} {avs bvs : List AVal} {a : AVal} (h : ACp P f bvs a) (hs : a.scal = true) (hl : All2 (LendA σ) avs bvs) : AC P f avs σ (fun r σ' => r = .ret a ∧ σ' = σ) :=
  ac_mono (ac_lend (h []) (by rintro r σ' ⟨rfl, rfl⟩; exact ⟨rfl, hs⟩) hl) (by rintro r σ' ⟨⟨h1, _⟩, h2⟩; exact ⟨h1, h2⟩)
inductive ReL : AVal → AVal → Prop
  | same (a : AVal) : ReL a a
  | nil (sz : Nat) : ReL .nil (.list sz [])
  | vnil (sz : Nat) : ReL (.v (.slice none 0 0)) (.list sz [])
inductive ReA : AVal → AVal → Prop
  | leaf (a b : AVal) : ReL a b → ReA a b
  | agg (as bs : List AVal) : All2 ReL as bs → ReA (.agg as) (.agg bs)
theorem ReL.rep {ok : Nat → Prop} {L : Loc} {w : World} {a b : AVal} {v : Value} (h : ReL a b) (hr : RepL ok L w a v) : RepL ok L w b v := by
  cases h with
  | same => exact hr
  | nil sz =>
    have h' : RepC ok w .nil v := hr
    cases h'
    exact RepC.empty _ _ _
  | vnil sz =>
    have h' : RepC ok w (.v (.slice none 0 0)) v := hr
    cases h'
    exact RepC.empty _ _ _
theorem ReA.rep {ok : Nat → Prop} {L : Loc} {w : World} {a b : AVal} {v : Value} (h : ReA a b) (hr : Rep ok L w a v) : Rep ok L w b v := by
  cases h with
  | leaf a b h =>
    cases h with
    | same => exact hr
    | nil sz => exact ReL.rep (L := L) (.nil sz) hr
    | vnil sz => exact ReL.rep (L := L) (.vnil sz) hr
  | agg as bs h =>
    obtain ⟨vs, e, h2⟩ := hr
    exact ⟨vs, e, All2.two (S := RepL ok L w) (T := RepL ok L w) (fun a b c h1 h3 => h1.rep h3) _ _ _ h h2⟩
theorem ac_re {f : FuncId} {avs bvs : List AVal} {R : AEnd → Store → Prop} (h : AC P f bvs σ R) (hl : All2 ReA avs bvs) : AC P f avs σ R :=
  fun ok L w vs h1 h2 => h ok L w vs h1 (All2.two (S := Rep ok L w) (T := Rep ok L w) (fun a b c h1 h3 => h1.rep h3) _ _ _ hl h2)
theorem re_nil : All2 ReA [] [] := trivial
theorem re_cons {a b : AVal} {as bs : List AVal} (h : ReA a b) (hs : All2 ReA as bs) : All2 ReA (a :: as) (b :: bs) := ⟨h, hs⟩
theorem lend_nil : All2 (LendA σ) [] [] := trivial
theorem lend_cons {a b : AVal} {as bs : List AVal} (h : LendA σ a b) (hs : All2 (LendA σ) as bs) : All2 (LendA σ) (a :: as) (b :: bs) := ⟨h, hs⟩
theorem lend_same {a : AVal} : LendA σ a a := .leaf _ _ (.same _)
theorem lend_whole {id ver m sz : Nat} {els : List (List AVal)} (hid : σ.get id = some (ver, .row sz els)) (hm : m = els.length) (hc : ∀ el ∈ els, el.all AVal.clo1 = true) : LendA σ (.slice id ver 0 m) (.list sz els) := by
  subst hm
  have := LendL.slice (σ := σ) id ver 0 els.length sz els hid (by omega) hc
  exact .leaf _ _ (by simpa using this)

theorem al_callp {f : Operand} {args : Array Operand} {ts : Array TypeId} {fa a : AVal} {g : FuncId} {caps : List AVal} {avs : List AVal} {d : Option Tmp} {ty : TypeId} {pos : String} {after : Array Edge} (hin : Into P g)
    (hf : aval env f = some fa) (hc : calleeOf fa = some (g, caps)) (ha : avals (aval env) args.toList = some avs) (h : AC P g (avs ++ caps) σ (fun r σ' => r = .ret a ∧ σ' = σ)) (hd : ∀ t, d = some t → t < n)
    (k : AL P n ops rest Q (env.putd d a) σ) : AL P n ops (⟨d, .call { callee := .value f, args := args, argTypes := ts }, ty, pos, after, none⟩ :: rest) Q env σ :=
  al_call hin hf hc ha h hd (by rintro r σ' ⟨rfl, rfl⟩; exact k)
theorem al_callp_take {f : Operand} {args : Array Operand} {ts : Array TypeId} {fa a : AVal} {g : FuncId} {caps : List AVal} {avs : List AVal} {d : Option Tmp} {ty : TypeId} {pos : String} {after : Array Edge} {j t : Nat} {og : Oper} {b : Bool} (hin : Into P g)
    (hog : ops[j]? = some og) (hdst : og.dst = some t) (hb : env.get t = some (.v (.bool b)))
    (hf : aval env f = some fa) (hc : calleeOf fa = some (g, caps)) (ha : avals (aval env) args.toList = some avs) (h : AC P g (avs ++ caps) σ (fun r σ' => r = .ret a ∧ σ' = σ)) (hd : ∀ t, d = some t → t < n)
    (k : AL P n ops rest Q (env.putd d a) σ) : AL P n ops (⟨d, .call { callee := .value f, args := args, argTypes := ts }, ty, pos, after, some (j, b)⟩ :: rest) Q env σ :=
  al_call_take hin hog hdst hb hf hc ha h hd (by rintro r σ' ⟨rfl, rfl⟩; exact k)

/-! ### What is known of a test -/
theorem al_split {l : List Oper} {t : Tmp} {b : Bool} (ht : env.get t = some (.v (.bool b))) (h1 : b = true → AL P n ops l Q ((t, .v (.bool true)) :: env) σ) (h2 : b = false → AL P n ops l Q ((t, .v (.bool false)) :: env) σ) : AL P n ops l Q env σ := by
  have key : ∀ b', b = b' → AL P n ops l Q ((t, .v (.bool b')) :: env) σ → AL P n ops l Q env σ := by
    rintro _ rfl h
    refine al_weaken _ (fun u a hu => ?_) h
    rw [Env.get_cons] at hu
    split at hu
    · rename_i e; subst e; cases hu; exact ht
    · exact hu
  cases hb : b
  · exact key false hb (h2 hb)
  · exact key true hb (h1 hb)

theorem wpList_app {Q' Q1 : Exit → Act → World → Prop} {l2 : List Oper} (hk : ∀ a w, Q1 .normal a w → wpList P ops Q' l2 a w) (h : ∀ e a w, e ≠ .normal → Q1 e a w → Q' e a w) : ∀ (l : List Oper) (a : Act) (w : World), wpList P ops Q1 l a w → wpList P ops Q' (l ++ l2) a w
  | [], a, w, hh => hk _ _ hh
  | o :: l, a, w, hh => by
    have mono : ∀ (K K' : Act → World → Prop), (∀ a w, K a w → K' a w) → o.wp P a w K Q1 → o.wp P a w K' Q' := by
      intro K K' hK
      unfold Oper.wp
      generalize (execOp a.eval o).run P w = r
      cases r with
      | ok n w' =>
        cases n <;> simp only [Oper.upon] <;> first
          | exact hK _ _
          | exact id
          | (intro hc; exact Calls.mono hc (fun e w'' he => by cases e <;> first | exact hK _ _ he | exact h _ _ _ (by simp) he | (obtain ⟨a, w, hq⟩ := he; exact ⟨a, w, h _ _ _ (by simp) hq⟩)))
          | (intro hc; exact Rows.mono hc (fun _ _ he => hK _ _ he))
      | halt x w' => cases x <;> simp only [Oper.upon] <;> first | exact id | exact h _ _ _ (by simp)
    show wpList P ops Q' (o :: (l ++ l2)) a w
    unfold wpList at hh ⊢
    split
    · rename_i hw
      rw [if_pos hw] at hh
      rcases hh with hh | ⟨h1, a1, w1, h2⟩
      · exact .inl (mono _ _ (fun a w => wpList_app hk h l a w) hh)
      · exact .inr ⟨h1, a1, w1, h _ _ _ (by simp) h2⟩
    · rename_i hw
      rw [if_neg hw] at hh
      exact wpList_app hk h l _ _ hh

/-- A piece of the region, then the rest. -/
theorem al_cut (k : Nat) {l : List Oper} (K : Env → Store → Prop) (h : AL P n ops (l.take k) (AExit.then K Q) env σ) (hk : ∀ env' σ', K env' σ' → AL P n ops (l.drop k) Q env' σ') : AL P n ops l Q env σ := by
  intro ok L w act h1 h2 h3 h4
  have := wpList_app (l2 := l.drop k) (Q' := Post n Q ok L σ w) ?_ ?_ _ _ _ (h ok L w act h1 h2 h3 h4)
  · rwa [List.take_append_drop] at this
  · rintro a w1 ⟨ae, env', σ', ok', L', hq, he, hs, hr, hd, hn, hx⟩
    cases ae <;> simp only [ExitRep] at hx
    exact wpList_after (fun _ _ _ hp => Post.after he hp) _ _ _ (hk env' σ' hq ok' L' w1 a hs hr hd hn)
  · rintro e a w1 hne ⟨ae, env', σ', ok', L', hq, hrest⟩
    refine ⟨ae, env', σ', ok', L', ?_, hrest⟩
    cases ae
    · obtain ⟨_, _, _, _, _, hx⟩ := hrest
      cases e <;> simp only [ExitRep] at hx
      exact absurd rfl hne
    all_goals exact hq

/-- 'x || y' : y is looked at where x is false. k operations, the last of them the pick. -/
theorem al_or (k t d : Nat) {l : List Oper} {b c : Bool} (ht : env.get t = some (.v (.bool b)))
    (h2 : b = false → AL P n ops (l.take k) (fun e env' σ' => e = .normal ∧ σ' = σ ∧ env'.get d = some (.v (.bool c)) ∧ ∀ u a, u ≠ d → env.get u = some a → env'.get u = some a) ((t, .v (.bool false)) :: env) σ)
    (h1 : b = true → AL P n ops (l.take k) (fun e env' σ' => e = .normal ∧ σ' = σ ∧ env'.get d = some (.v (.bool true)) ∧ ∀ u a, u ≠ d → env.get u = some a → env'.get u = some a) ((t, .v (.bool true)) :: env) σ)
    (hk : AL P n ops (l.drop k) Q ((d, .v (.bool (b || c))) :: env) σ) : AL P n ops l Q env σ := by
  refine al_cut k (fun env' σ' => σ' = σ ∧ env'.get d = some (.v (.bool (b || c))) ∧ ∀ u a, u ≠ d → env.get u = some a → env'.get u = some a) ?_ ?_
  · refine al_split ht (fun h => ?_) (fun h => ?_)
    · refine fun ok L w act g1 g2 g3 g4 => wpList_after (fun _ _ _ hp => Post.mono (fun ae env' σ' hq => ?_) hp) _ _ _ (h1 h ok L w act g1 g2 g3 g4)
      obtain ⟨rfl, q1, q2, q3⟩ := hq
      exact ⟨q1, by rw [q2, h]; rfl, q3⟩
    · refine fun ok L w act g1 g2 g3 g4 => wpList_after (fun _ _ _ hp => Post.mono (fun ae env' σ' hq => ?_) hp) _ _ _ (h2 h ok L w act g1 g2 g3 g4)
      obtain ⟨rfl, q1, q2, q3⟩ := hq
      exact ⟨q1, by rw [q2, h]; rfl, q3⟩
  · rintro env' σ' ⟨rfl, h3, h4⟩
    refine al_weaken _ (fun u a hu => ?_) hk
    rw [Env.get_cons] at hu
    split at hu
    · rename_i e; subst e; cases hu; exact h3
    · rename_i e; exact h4 u a (Ne.symm e) hu
/-- 'x && y' -/
theorem al_and (k t d : Nat) {l : List Oper} {b c : Bool} (ht : env.get t = some (.v (.bool b)))
    (h2 : b = true → AL P n ops (l.take k) (fun e env' σ' => e = .normal ∧ σ' = σ ∧ env'.get d = some (.v (.bool c)) ∧ ∀ u a, u ≠ d → env.get u = some a → env'.get u = some a) ((t, .v (.bool true)) :: env) σ)
    (h1 : b = false → AL P n ops (l.take k) (fun e env' σ' => e = .normal ∧ σ' = σ ∧ env'.get d = some (.v (.bool false)) ∧ ∀ u a, u ≠ d → env.get u = some a → env'.get u = some a) ((t, .v (.bool false)) :: env) σ)
    (hk : AL P n ops (l.drop k) Q ((d, .v (.bool (b && c))) :: env) σ) : AL P n ops l Q env σ := by
  refine al_cut k (fun env' σ' => σ' = σ ∧ env'.get d = some (.v (.bool (b && c))) ∧ ∀ u a, u ≠ d → env.get u = some a → env'.get u = some a) ?_ ?_
  · refine al_split ht (fun h => ?_) (fun h => ?_)
    · refine fun ok L w act g1 g2 g3 g4 => wpList_after (fun _ _ _ hp => Post.mono (fun ae env' σ' hq => ?_) hp) _ _ _ (h2 h ok L w act g1 g2 g3 g4)
      obtain ⟨rfl, q1, q2, q3⟩ := hq
      exact ⟨q1, by rw [q2, h]; rfl, q3⟩
    · refine fun ok L w act g1 g2 g3 g4 => wpList_after (fun _ _ _ hp => Post.mono (fun ae env' σ' hq => ?_) hp) _ _ _ (h1 h ok L w act g1 g2 g3 g4)
      obtain ⟨rfl, q1, q2, q3⟩ := hq
      exact ⟨q1, by rw [q2, h]; rfl, q3⟩
  · rintro env' σ' ⟨rfl, h3, h4⟩
    refine al_weaken _ (fun u a hu => ?_) hk
    rw [Env.get_cons] at hu
    split at hu
    · rename_i e; subst e; cases hu; exact h3
    · rename_i e; exact h4 u a (Ne.symm e) hu

/-! ### Loops -/
def Sub (E env : Env) : Prop := ∀ t a, E.get t = some a → env.get t = some a
theorem sub_nil : Sub [] env := fun t a h => by cases h
theorem sub_cons {t : Nat} {a : AVal} {E : Env} (h : env.get t = some a) (hs : Sub E env) : Sub ((t, a) :: E) env := by
  intro u c hu
  rw [Env.get_cons] at hu
  split at hu
  · rename_i e; subst e; cases hu; exact h
  · exact hs u c hu
theorem get_as {t : Nat} {a b : AVal} (h : env.get t = some a) (e : a = b) : env.get t = some b := e ▸ h
end
end Go.Proofs.YtnnklpmgncbgnaaGreat
