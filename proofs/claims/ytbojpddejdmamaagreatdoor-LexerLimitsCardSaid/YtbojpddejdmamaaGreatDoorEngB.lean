/- The engine, part 2: pieces of code, calls, loops, over abstract values. -/
import Derived.Test.YtbojpddejdmamaaGreatDoorEngA
set_option linter.unusedVariables false
set_option linter.unusedSimpArgs false
namespace Go.Proofs.YtbojpddejdmamaaGreatDoor
open Go

inductive AExit where
  | normal
  | exit (id : Nat)
  | goto (l : Nat)
  | ret
  | panic (a : AVal)

def ExitRep (ok : Nat → Prop) (L : Loc) (w : World) : AExit → Exit → Prop
  | .normal, .normal => True
  | .exit i, .exit j => i = j
  | .goto i, .goto j => i = j
  | .ret, .ret => True
  | .panic a, .panic chain => ∃ v, chain = [{ v := v, recovered := false }] ∧ Rep ok L w a v
  | _, _ => False

abbrev APost := AExit → Env → Store → Prop

/-- What a piece of code leaves. -/
def Post (n : Nat) (Q : APost) (ok : Nat → Prop) (L : Loc) (σ : Store) (w : World) : Exit → Act → World → Prop := fun e act' w' =>
  ∃ ae env' σ' ok' L', Q ae env' σ' ∧ Evo ok L σ w ok' L' σ' w' ∧ Sim ok' L' σ' w' ∧ RepEnv ok' L' w' env' act'.tmps ∧ act'.defers = [] ∧ act'.tmps.size = n ∧ ExitRep ok' L' w' ae e

theorem Post.after {n : Nat} {Q : APost} {ok ok1 : Nat → Prop} {L L1 : Loc} {σ σ1 : Store} {w w1 : World} (he : Evo ok L σ w ok1 L1 σ1 w1) {e : Exit} {a : Act} {w' : World} (h : Post n Q ok1 L1 σ1 w1 e a w') : Post n Q ok L σ w e a w' := by
  obtain ⟨ae, env', σ', ok', L', h1, h2, h3⟩ := h
  exact ⟨ae, env', σ', ok', L', h1, he.trans h2, h3⟩

theorem Post.mono {n : Nat} {Q Q' : APost} {ok : Nat → Prop} {L : Loc} {σ : Store} {w : World} (hq : ∀ ae env σ, Q ae env σ → Q' ae env σ) {e : Exit} {a : Act} {w' : World} (h : Post n Q ok L σ w e a w') : Post n Q' ok L σ w e a w' := by
  obtain ⟨ae, env', σ', ok', L', h1, h2⟩ := h
  exact ⟨ae, env', σ', ok', L', hq _ _ _ h1, h2⟩

/-- The weakest that must hold ahead of a piece of code. -/
def AW (P : Program) (n : Nat) (c : Code) (Q : APost) (env : Env) (σ : Store) : Prop :=
  ∀ ok L w act, Sim ok L σ w → RepEnv ok L w env act.tmps → act.defers = [] → act.tmps.size = n → c.wp P (Post n Q ok L σ w) act w

section
variable {P : Program} {n : Nat} {Q : APost} {env : Env} {σ : Store}

theorem aw_mono {c : Code} {Q' : APost} (hq : ∀ ae env σ, Q ae env σ → Q' ae env σ) (h : AW P n c Q env σ) : AW P n c Q' env σ :=
  fun ok L w act h1 h2 h3 h4 => wp_mono (h ok L w act h1 h2 h3 h4) fun _ _ _ hp => hp.mono hq

theorem aw_weaken {c : Code} (env' : Env) (hsub : ∀ t a, env'.get t = some a → env.get t = some a) (h : AW P n c Q env' σ) : AW P n c Q env σ :=
  fun ok L w act h1 h2 h3 h4 => h ok L w act h1 (h2.weaken hsub) h3 h4

def AExit.then (next : Env → Store → Prop) (Q : APost) : APost
  | .normal, env, σ => next env σ
  | e, env, σ => Q e env σ

def AExit.inBlock (id : Nat) (Q : APost) : APost
  | .exit id', env, σ => match Nat.beq id' id with | true => Q .normal env σ | false => Q (.exit id') env σ
  | e, env, σ => Q e env σ

theorem aw_skip (h : Q .normal env σ) : AW P n .skip Q env σ :=
  fun ok L w act h1 h2 h3 h4 => wp_skip ⟨.normal, env, σ, ok, L, h, .refl _ _ _ _, h1, h2, h3, h4, trivial⟩
theorem aw_label {l : Nat} (h : Q .normal env σ) : AW P n (.label l) Q env σ :=
  fun ok L w act h1 h2 h3 h4 => wp_label ⟨.normal, env, σ, ok, L, h, .refl _ _ _ _, h1, h2, h3, h4, trivial⟩
theorem aw_exit {id : Nat} (h : Q (.exit id) env σ) : AW P n (.exit id) Q env σ :=
  fun ok L w act h1 h2 h3 h4 => wp_exit ⟨.exit id, env, σ, ok, L, h, .refl _ _ _ _, h1, h2, h3, h4, rfl⟩
theorem aw_goto {id : Nat} (h : Q (.goto id) env σ) : AW P n (.goto id) Q env σ :=
  fun ok L w act h1 h2 h3 h4 => wp_goto ⟨.goto id, env, σ, ok, L, h, .refl _ _ _ _, h1, h2, h3, h4, rfl⟩
theorem aw_ret (h : Q .ret env σ) : AW P n .ret Q env σ :=
  fun ok L w act h1 h2 h3 h4 => wp_ret ⟨.ret, env, σ, ok, L, h, .refl _ _ _ _, h1, h2, h3, h4, trivial⟩

theorem post_then {x : AExit} {e : Exit} {K : Env → Store → Prop} {K' : Act → World → Prop} {ok : Nat → Prop} {L : Loc} {σ : Store} {w : World} {act : Act} {w1 : World}
    (hp : Post n (AExit.then K Q) ok L σ w e act w1)
    (hk : ∀ env1 σ1 ok1 L1, K env1 σ1 → Evo ok L σ w ok1 L1 σ1 w1 → Sim ok1 L1 σ1 w1 → RepEnv ok1 L1 w1 env1 act.tmps → act.defers = [] → act.tmps.size = n → K' act w1) :
    Exit.then K' (Post n Q ok L σ w) e act w1 := by
  obtain ⟨ae, env1, σ1, ok1, L1, hq, he, hs1, hr1, hd1, hn1, hx⟩ := hp
  cases ae <;> cases e <;> simp only [ExitRep] at hx
  · exact hk _ _ _ _ hq he hs1 hr1 hd1 hn1
  · exact ⟨_, env1, σ1, ok1, L1, hq, he, hs1, hr1, hd1, hn1, hx⟩
  · exact ⟨_, env1, σ1, ok1, L1, hq, he, hs1, hr1, hd1, hn1, hx⟩
  · exact ⟨_, env1, σ1, ok1, L1, hq, he, hs1, hr1, hd1, hn1, hx⟩
  · exact ⟨_, env1, σ1, ok1, L1, hq, he, hs1, hr1, hd1, hn1, hx⟩

theorem aw_seq {x y : Code} (h : AW P n x (AExit.then (fun env σ => AW P n y Q env σ) Q) env σ) : AW P n (.seq x y) Q env σ := by
  intro ok L w act hs hr hd hn
  refine wp_seq (wp_mono (h ok L w act hs hr hd hn) fun e a1 w1 hp => post_then (x := .normal) hp ?_)
  intro env1 σ1 ok1 L1 hq he hs1 hr1 hd1 hn1
  exact wp_mono (hq ok1 L1 w1 a1 hs1 hr1 hd1 hn1) fun _ _ _ h => h.after he

theorem aw_block {id : Nat} {c : Code} (h : AW P n c (AExit.inBlock id Q) env σ) : AW P n (.block id c) Q env σ := by
  intro ok L w act hs hr hd hn
  refine wp_block (wp_mono (h ok L w act hs hr hd hn) ?_)
  rintro e a1 w1 ⟨ae, env1, σ1, ok1, L1, hq, he, hs1, hr1, hd1, hn1, hx⟩
  cases ae <;> cases e <;> simp only [ExitRep] at hx
  · exact ⟨_, env1, σ1, ok1, L1, hq, he, hs1, hr1, hd1, hn1, trivial⟩
  · rename_i i j
    subst hx
    simp only [AExit.inBlock] at hq
    simp only [Exit.inBlock]
    by_cases hi : i = id
    · rw [nat_beq_true.2 hi] at hq
      rw [if_pos hi]
      exact ⟨.normal, env1, σ1, ok1, L1, hq, he, hs1, hr1, hd1, hn1, trivial⟩
    · rw [nat_beq_false.2 hi] at hq
      rw [if_neg hi]
      exact ⟨.exit i, env1, σ1, ok1, L1, hq, he, hs1, hr1, hd1, hn1, rfl⟩
  · exact ⟨_, env1, σ1, ok1, L1, hq, he, hs1, hr1, hd1, hn1, hx⟩
  · exact ⟨_, env1, σ1, ok1, L1, hq, he, hs1, hr1, hd1, hn1, hx⟩
  · exact ⟨_, env1, σ1, ok1, L1, hq, he, hs1, hr1, hd1, hn1, hx⟩

theorem rep_bool {ok : Nat → Prop} {L : Loc} {w : World} {x : Value} {v : Value} (h : Rep ok L w (.v x) v) : v = x := by
  cases h; rfl

theorem aw_cond {c : Operand} {x y : Code} {b : Bool} (hc : aval env c = some (.v (.bool b))) (ht : b = true → AW P n x Q env σ) (hf : b = false → AW P n y Q env σ) : AW P n (.cond c x y) Q env σ := by
  intro ok L w act hs hr hd hn
  have e := rep_bool (hr.aval hc)
  exact wp_cond_split e (fun hb => ht hb ok L w act hs hr hd hn) (fun hb => hf hb ok L w act hs hr hd hn)

theorem wp_loop_dec {c : Code} {Q : Exit → Act → World → Prop} (I : Nat → Act → World → Prop)
    (round : ∀ m a w, I m a w → c.wp P (Exit.then (fun a' w' => ∃ m', m' < m ∧ I m' a' w') Q) a w) (m : Nat) (a : Act) (w : World) (h0 : I m a w) : (Code.loop c).wp P Q a w := by
  intro b k cs
  have key : ∀ m a w, I m a w → ∃ e a' w', Q e a' w' ∧ Arrives P (lone (b.at a (.code c :: .inLoop c :: k)) cs w) b k cs e a' w' := by
    intro m
    induction m using Nat.strongRecOn with
    | _ m ih =>
      intro a w hI
      obtain ⟨e, a1, w1, hq, harr⟩ := round m a w hI b (.inLoop c :: k) cs
      cases e with
      | normal =>
        obtain ⟨m', hlt, hI1⟩ := hq
        obtain ⟨e2, a2, w2, hq2, harr2⟩ := ih m' hlt a1 w1 hI1
        exact ⟨e2, a2, w2, hq2, .of_steps (Steps.trans harr (.one step_inLoop)) harr2⟩
      | outgrown => exact ⟨_, a1, w1, hq, .pass (x := .inLoop c) rfl (fun _ _ => .inl (by simp)) harr⟩
      | exit id => exact ⟨_, a1, w1, hq, .pass (x := .inLoop c) rfl (fun _ _ => .inl (by simp)) harr⟩
      | goto l => exact ⟨_, a1, w1, hq, .pass (x := .inLoop c) rfl (fun _ _ => .inl (by simp)) harr⟩
      | ret => exact ⟨_, a1, w1, hq, .pass (x := .inLoop c) rfl (fun _ _ => .inl (by simp)) harr⟩
      | panic ch => exact ⟨_, a1, w1, hq, .pass (x := .inLoop c) rfl (fun _ _ => .inl (by simp)) harr⟩
  obtain ⟨e, a', w', hq, harr⟩ := key m a w h0
  exact ⟨e, a', w', hq, .of_steps (.one step_loop) harr⟩

/-- A loop: 'I m env σ' holds at each round's head, m going down. -/
theorem aw_loop {c : Code} (I : Nat → Env → Store → Prop) (m : Nat) (h0 : I m env σ)
    (round : ∀ m env σ, I m env σ → AW P n c (AExit.then (fun env' σ' => ∃ m', m' < m ∧ I m' env' σ') Q) env σ) : AW P n (.loop c) Q env σ := by
  intro ok L w act hs hr hd hn
  refine wp_loop_dec (fun m a w' => ∃ env1 σ1 ok1 L1, I m env1 σ1 ∧ Evo ok L σ w ok1 L1 σ1 w' ∧ Sim ok1 L1 σ1 w' ∧ RepEnv ok1 L1 w' env1 a.tmps ∧ a.defers = [] ∧ a.tmps.size = n) ?_ m act w
    ⟨env, σ, ok, L, h0, .refl _ _ _ _, hs, hr, hd, hn⟩
  rintro m a w1 ⟨env1, σ1, ok1, L1, hI, he, hs1, hr1, hd1, hn1⟩
  refine wp_mono (round m env1 σ1 hI ok1 L1 w1 a hs1 hr1 hd1 hn1) fun e a2 w2 hp => post_then (x := .normal) (hp.after he) ?_
  rintro env2 σ2 ok2 L2 ⟨m', hlt, hI2⟩ he2 hs2 hr2 hd2 hn2
  exact ⟨m', hlt, env2, σ2, ok2, L2, hI2, he2, hs2, hr2, hd2, hn2⟩

/-- A loop, with a measure and a family of states: 'fun i => (env, σ)' where 'Inv i'. -/
theorem aw_loop_on {c : Code} {ι : Type} (μ : ι → Nat) (Inv : ι → Prop) (E : ι → Env) (S : ι → Store) (i : ι) (h0 : Inv i) (hE : ∀ t a, (E i).get t = some a → env.get t = some a) (hS : σ = S i)
    (round : ∀ i, Inv i → AW P n c (AExit.then (fun env' σ' => ∃ j, μ j < μ i ∧ Inv j ∧ (∀ t a, (E j).get t = some a → env'.get t = some a) ∧ σ' = S j) Q) (E i) (S i)) : AW P n (.loop c) Q env σ := by
  subst hS
  refine aw_weaken (E i) hE (aw_loop (fun m env σ => ∃ j, m = μ j ∧ Inv j ∧ (∀ t a, (E j).get t = some a → env.get t = some a) ∧ σ = S j) (μ i) ⟨i, rfl, h0, fun _ _ h => h, rfl⟩ ?_)
  rintro m env1 σ1 ⟨j, rfl, hj, hsub, rfl⟩
  refine aw_weaken (E j) hsub (aw_mono ?_ (round j hj))
  intro ae env2 σ2 hq
  cases ae <;> first
    | exact hq
    | (obtain ⟨k, h1, h2, h3, h4⟩ := hq; exact ⟨μ k, h1, k, rfl, h2, h3, h4⟩)

/-! ### Calls -/
inductive AEnd where
  | ret (a : AVal)
  | pan (a : AVal)

def EndRep (ok : Nat → Prop) (L : Loc) (w : World) : AEnd → Ending → Prop
  | .ret a, .returned v => Rep ok L w a v
  | .pan a, .panicked chain => ∃ v, chain = [{ v := v, recovered := false }] ∧ Rep ok L w a v
  | _, _ => False

def CPost (R : AEnd → Store → Prop) (ok : Nat → Prop) (L : Loc) (σ : Store) (w : World) : Ending → World → Prop := fun e w' =>
  ∃ r σ' ok' L', R r σ' ∧ Evo ok L σ w ok' L' σ' w' ∧ Sim ok' L' σ' w' ∧ EndRep ok' L' w' r e

/-- A function's contract. -/
def AC (P : Program) (f : FuncId) (avs : List AVal) (σ : Store) (R : AEnd → Store → Prop) : Prop :=
  ∀ ok L w vs, Sim ok L σ w → All2 (Rep ok L w) avs vs → Calls P f vs.toArray w (CPost R ok L σ w)

theorem ac_mono {f : FuncId} {avs : List AVal} {R R' : AEnd → Store → Prop} (h : AC P f avs σ R) (hr : ∀ r σ', R r σ' → R' r σ') : AC P f avs σ R' :=
  fun ok L w vs h1 h2 => (h ok L w vs h1 h2).mono fun _ _ ⟨r, σ', ok', L', a, b⟩ => ⟨r, σ', ok', L', hr _ _ a, b⟩

/-- What a function's result variables hold. -/
def ResOK (P : Program) (fn : Func) (env : Env) (σ : Store) (r : AVal) : Prop :=
  ∀ ok L w tmps, Sim ok L σ w → RepEnv ok L w env tmps → ∃ v, (results fn tmps).run P w = .ok v w ∧ Rep ok L w r v

def RetPost (P : Program) (fn : Func) (R : AEnd → Store → Prop) : APost
  | .normal, env, σ | .ret, env, σ => ∃ r, ResOK P fn env σ r ∧ R (.ret r) σ
  | .panic a, env, σ => R (.pan a) σ
  | _, _, _ => False

def initEnv : Nat → List AVal → Env
  | _, [] => []
  | k, a :: as => (k, a) :: initEnv (k + 1) as

theorem initEnv_rep {ok : Nat → Prop} {L : Loc} {w : World} (avs : List AVal) (vs : List Value) (h : All2 (Rep ok L w) avs vs) (k : Nat) (pre rest : List Value) (hk : pre.length = k) :
    RepEnv ok L w (initEnv k avs) (pre ++ vs ++ rest).toArray := by
  induction avs generalizing vs k pre with
  | nil => intro t a ht; simp [initEnv, Env.get] at ht
  | cons a as ih =>
    cases vs with
    | nil => exact h.elim
    | cons v vs =>
      obtain ⟨h1, h2⟩ := h
      intro t b ht
      simp only [initEnv, Env.get_cons] at ht
      by_cases e : k = t
      · subst e
        rw [if_pos rfl] at ht
        cases ht
        refine ⟨v, ?_, h1⟩
        simp [← hk]
      · rw [if_neg e] at ht
        have := ih vs h2 (k + 1) (pre ++ [v]) (by simp [hk]) t b ht
        simpa using this

theorem ac_enter {f : FuncId} {fn : Func} {c : Code} {avs : List AVal} {R : AEnd → Store → Prop} (nt : Nat) (hf : P.funcs[f]? = some fn) (hb : fn.body = some c) (hn : fn.ntmps = nt) (hl : avs.length ≤ nt)
    (h : AW P nt c (RetPost P fn R) (initEnv 0 avs) σ) : AC P f avs σ R := by
  intro ok L w vs hs hv
  subst hn
  refine calls_of_wp hf hb (wp_mono (h ok L w _ hs ?_ rfl ?_) ?_)
  · have := initEnv_rep avs vs hv 0 [] (List.replicate (fn.ntmps - vs.length) undef) rfl
    simp only [List.nil_append] at this
    rw [show vs.toArray ++ Array.replicate (fn.ntmps - vs.toArray.size) undef = (vs ++ List.replicate (fn.ntmps - vs.length) undef).toArray from by simp]
    exact this
  · have := All2.length _ _ hv
    simp
    omega
  · rintro e a w' ⟨ae, env', σ', ok', L', hq, he, hs', hr', hd', hn', hx⟩
    cases ae <;> cases e <;> simp only [ExitRep] at hx <;> simp only [RetPost] at hq
    · obtain ⟨r, h1, h2⟩ := hq
      obtain ⟨v, h3, h4⟩ := h1 ok' L' w' a.tmps hs' hr'
      exact ⟨hd', v, h3, .ret r, σ', ok', L', h2, he, hs', h4⟩
    · obtain ⟨r, h1, h2⟩ := hq
      obtain ⟨v, h3, h4⟩ := h1 ok' L' w' a.tmps hs' hr'
      exact ⟨hd', v, h3, .ret r, σ', ok', L', h2, he, hs', h4⟩
    · obtain ⟨v, h3, h4⟩ := hx
      exact ⟨hd', .pan _, σ', ok', L', hq, he, hs', v, h3, h4⟩

theorem getD_of_get {tmps : Array Value} {t : Nat} {v : Value} (h : tmps[t]? = some v) : tmps.getD t undef = v := by
  rw [Array.getD_eq_getD_getElem?, h]; rfl

theorem res_0 {fn : Func} (h : fn.results = #[]) : ResOK P fn env σ (.tuple []) :=
  fun ok L w tmps _ hr => ⟨.tuple #[], results_none h tmps P w, [], rfl, trivial⟩
theorem res_1 {fn : Func} {t : Nat} {a : AVal} (h : fn.results = #[.tmp t]) (ht : env.get t = some a) : ResOK P fn env σ a :=
  fun ok L w tmps _ hr => by
    obtain ⟨v, h1, h2⟩ := hr t a ht
    exact ⟨v, by rw [results_tmp h, getD_of_get h1], h2⟩

/-- Not a tuple. -/
def AVal.flat : AVal → Bool
  | .tuple _ => false
  | _ => true
theorem repA_of {ok : Nat → Prop} {L : Loc} {w : World} {a : AVal} {v : Value} (h : Rep ok L w a v) (hf : a.flat = true) : RepA ok L w a v := by
  cases a with
  | tuple _ => simp [AVal.flat] at hf
  | _ => exact h
theorem rep_of {ok : Nat → Prop} {L : Loc} {w : World} {a : AVal} {v : Value} (h : RepA ok L w a v) (hf : a.flat = true) : Rep ok L w a v := by
  cases a with
  | tuple _ => simp [AVal.flat] at hf
  | _ => exact h

theorem res_2 {fn : Func} {t u : Nat} {a b : AVal} (h : fn.results = #[.tmp t, .tmp u]) (ht : env.get t = some a) (hu : env.get u = some b) (ha : a.flat = true) (hb : b.flat = true) : ResOK P fn env σ (.tuple [a, b]) :=
  fun ok L w tmps _ hr => by
    obtain ⟨v, h1, h2⟩ := hr t a ht
    obtain ⟨v', h1', h2'⟩ := hr u b hu
    refine ⟨.tuple #[v, v'], by rw [results_tmp2 h, getD_of_get h1, getD_of_get h1'], [v, v'], rfl, repA_of h2 ha, repA_of h2' hb, trivial⟩
theorem res_3 {fn : Func} {t u s : Nat} {a b c : AVal} (h : fn.results = #[.tmp t, .tmp u, .tmp s]) (ht : env.get t = some a) (hu : env.get u = some b) (hs : env.get s = some c) (ha : a.flat = true) (hb : b.flat = true) (hc : c.flat = true) : ResOK P fn env σ (.tuple [a, b, c]) :=
  fun ok L w tmps _ hr => by
    obtain ⟨v, h1, h2⟩ := hr t a ht
    obtain ⟨v', h1', h2'⟩ := hr u b hu
    obtain ⟨v'', h1'', h2''⟩ := hr s c hs
    refine ⟨.tuple #[v, v', v''], by simp [results, h, h1, h1', h1''], [v, v', v''], rfl, repA_of h2 ha, repA_of h2' hb, repA_of h2'' hc, trivial⟩
end
end Go.Proofs.YtbojpddejdmamaaGreatDoor
