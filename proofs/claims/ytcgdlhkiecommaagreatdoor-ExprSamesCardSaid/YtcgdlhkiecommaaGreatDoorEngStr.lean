import Derived.Test.YtcgdlhkiecommaaGreatDoorEngNest
import Derived.Defers
import Derived.Recover

import Derived.Laws.Strings
import Derived.Laws.BytesString
import Derived.Laws.BytesArg
import Derived.Stop.IfaceNil

/- The engine: panics, values in interfaces, deferred calls. -/



set_option linter.unusedVariables false
set_option linter.all false
namespace Go.Proofs.YtcgdlhkiecommaaGreatDoor
open Go
section
variable {P : Program} {n : Nat} {Q : APost} {env : Env} {σ σ' : Store} {ops : Array Oper} {rest : List Oper}
variable {E : Operand → Option AVal} {d : Option Tmp} {ty : TypeId} {pos : String} {after : Array Edge} {guard : Option (Nat × Bool)}
theorem al_panic {x : Operand} {t : TypeId} {v : Value} (hx : aval env x = some (.v (.iface t v))) (h : Q (.panic (.v (.iface t v))) env σ) : AL P n ops (⟨d, .panic x, ty, pos, after, none⟩ :: rest) Q env σ :=
  fun ok L w act h1 h2 h3 h4 => wpList_plain rfl fun K hK => by
    have e := rep_bool (h2.aval hx)
    unfold Oper.wp
    have hr : (execOp act.eval ⟨d, .panic x, ty, pos, after, none⟩).run P w = .halt (.panic (.iface t v)) w := by
      simp [execOp, Instr.panic, e, goPanic]
    rw [hr, Oper.upon_panic]
    exact ⟨.panic (.v (.iface t v)), env, σ, ok, L, h, .refl _ _ _ _, h1, h2, h3, h4, _, rfl, .v _⟩
theorem op_iface_agg {x : Operand} {t : TypeId} {vals : List Value} (hc : P.concrete t = true) (hx : E x = some (.agg (vals.map .v))) : OpTo P ⟨d, .makeInterface t x, ty, pos, after, guard⟩ E σ (.v (.iface t (.agg vals.toArray))) σ :=
  op_value fun ok L w ρ hs hr => by
    obtain ⟨vs, h1, h2⟩ := hr x (by simp [Op.operands]) _ hx
    have key : ∀ (vals vs : List Value), All2 (RepL ok L w) (vals.map .v) vs → vs = vals := by
      intro vals
      induction vals with
      | nil => intro vs h; cases vs with
        | nil => rfl
        | cons _ _ => exact h.elim
      | cons a r ih => intro vs h; cases vs with
        | nil => exact h.elim
        | cons b s =>
          obtain ⟨h3, h4⟩ := h
          have : b = a := by cases h3; rfl
          rw [this, ih s h4]
    have e := key vals vs h2
    subst e
    refine ⟨.iface t (.agg vs.toArray), ?_, .v _⟩
    simp [execOp, h1, run_makeInterface _ t _ hc]
/-! ### Deferred calls -/
abbrev ADefs := List (FuncId × List AVal)
def DefRep (ok : Nat → Prop) (L : Loc) (w : World) : ADefs → List Deferred → Prop :=
  All2 fun a d => ∃ vs : List Value, d = { target := .fn (.func a.1) #[], args := vs.toArray } ∧ All2 (Rep ok L w) a.2 vs
abbrev DPost := AExit → Env → Store → ADefs → Prop
def PostD (n : Nat) (Q : DPost) (ok : Nat → Prop) (L : Loc) (σ : Store) (w : World) : Exit → Act → World → Prop := fun e act' w' =>
  ∃ ae env' σ' D' ok' L', Q ae env' σ' D' ∧ Evo ok L σ w ok' L' σ' w' ∧ Sim ok' L' σ' w' ∧ RepEnv ok' L' w' env' act'.tmps ∧ DefRep ok' L' w' D' act'.defers ∧ act'.tmps.size = n ∧ ExitRep ok' L' w' ae e
theorem postD_after {Q : DPost} {ok ok1 : Nat → Prop} {L L1 : Loc} {σ σ1 : Store} {w w1 : World} (he : Evo ok L σ w ok1 L1 σ1 w1) {e : Exit} {a : Act} {w' : World} (h : PostD n Q ok1 L1 σ1 w1 e a w') : PostD n Q ok L σ w e a w' := by
  obtain ⟨ae, env', σ', D', ok', L', h1, h2, h3⟩ := h
  exact ⟨ae, env', σ', D', ok', L', h1, he.trans h2, h3⟩
def AWD (P : Program) (n : Nat) (c : Code) (Q : DPost) (env : Env) (σ : Store) (D : ADefs) : Prop :=
  ∀ ok L w act, Sim ok L σ w → RepEnv ok L w env act.tmps → DefRep ok L w D act.defers → act.tmps.size = n → c.wp P (PostD n Q ok L σ w) act w
def ALD (P : Program) (n : Nat) (ops : Array Oper) (l : List Oper) (Q : DPost) (env : Env) (σ : Store) (D : ADefs) : Prop :=
  ∀ ok L w act, Sim ok L σ w → RepEnv ok L w env act.tmps → DefRep ok L w D act.defers → act.tmps.size = n → wpList P ops (PostD n Q ok L σ w) l act w
def AExit.thenD (next : Env → Store → ADefs → Prop) (Q : DPost) : DPost
  | .normal, env, σ, D => next env σ D
  | e, env, σ, D => Q e env σ D
theorem DefRep.evo {ok ok' : Nat → Prop} {L L' : Loc} {w w' : World} {D : ADefs} {ds : List Deferred} (h : DefRep ok L w D ds) (hs : Sim ok L σ w) (he : Evo ok L σ w ok' L' σ' w') : DefRep ok' L' w' D ds :=
  All2.mono (fun a b ⟨vs, e, h2⟩ => ⟨vs, e, All2.mono (fun _ _ h => h.evo hs he) _ _ h2⟩) _ _ h
variable {QD : DPost} {D : ADefs}
theorem awd_seq {x y : Code} (h : AWD P n x (AExit.thenD (fun env σ D => AWD P n y QD env σ D) QD) env σ D) : AWD P n (.seq x y) QD env σ D := by
  intro ok L w act hs hr hd hn
  refine wp_seq (wp_mono (h ok L w act hs hr hd hn) ?_)
  rintro e a1 w1 ⟨ae, env1, σ1, D1, ok1, L1, hq, he, hs1, hr1, hd1, hn1, hx⟩
  cases ae <;> cases e <;> simp only [ExitRep] at hx
  · exact wp_mono (hq ok1 L1 w1 a1 hs1 hr1 hd1 hn1) fun _ _ _ h => postD_after he h
  · exact ⟨_, env1, σ1, D1, ok1, L1, hq, he, hs1, hr1, hd1, hn1, hx⟩
  · exact ⟨_, env1, σ1, D1, ok1, L1, hq, he, hs1, hr1, hd1, hn1, hx⟩
  · exact ⟨_, env1, σ1, D1, ok1, L1, hq, he, hs1, hr1, hd1, hn1, hx⟩
  · exact ⟨_, env1, σ1, D1, ok1, L1, hq, he, hs1, hr1, hd1, hn1, hx⟩
theorem awd_cond {c : Operand} {x y : Code} {b : Bool} (hc : aval env c = some (.v (.bool b))) (ht : b = true → AWD P n x QD env σ D) (hf : b = false → AWD P n y QD env σ D) : AWD P n (.cond c x y) QD env σ D := by
  intro ok L w act hs hr hd hn
  have e := rep_bool (hr.aval hc)
  exact wp_cond_split e (fun hb => ht hb ok L w act hs hr hd hn) (fun hb => hf hb ok L w act hs hr hd hn)
theorem awd_skip (h : QD .normal env σ D) : AWD P n .skip QD env σ D :=
  fun ok L w act h1 h2 h3 h4 => wp_skip ⟨.normal, env, σ, D, ok, L, h, .refl _ _ _ _, h1, h2, h3, h4, trivial⟩
theorem awd_ret (h : QD .ret env σ D) : AWD P n .ret QD env σ D :=
  fun ok L w act h1 h2 h3 h4 => wp_ret ⟨.ret, env, σ, D, ok, L, h, .refl _ _ _ _, h1, h2, h3, h4, trivial⟩
theorem awd_region {id : Nat} {l : List Oper} (h : ALD P n l.toArray l QD env σ D) : AWD P n (.region id l.toArray false) QD env σ D :=
  fun ok L w act h1 h2 h3 h4 => wp_region_lit (h ok L w act h1 h2 h3 h4)
theorem ald_nil (h : QD .normal env σ D) : ALD P n ops [] QD env σ D :=
  fun ok L w act h1 h2 h3 h4 => wpList_nil ⟨.normal, env, σ, D, ok, L, h, .refl _ _ _ _, h1, h2, h3, h4, trivial⟩
theorem ald_call {f : Operand} {args : Array Operand} {ts : Array TypeId} {fa : AVal} {g : FuncId} {caps : List AVal} {avs : List AVal} {R : AEnd → Store → Prop} (hin : Into P g)
    (hf : aval env f = some fa) (hc : calleeOf fa = some (g, caps)) (ha : avals (aval env) args.toList = some avs) (h : AC P g (avs ++ caps) σ R) (hd : ∀ t, d = some t → t < n)
    (k : ∀ r σ', R r σ' → match r with | .ret a => ALD P n ops rest QD (env.putd d a) σ' D | .pan a => QD (.panic a) env σ' D) : ALD P n ops (⟨d, .call { callee := .value f, args := args, argTypes := ts }, ty, pos, after, none⟩ :: rest) QD env σ D := by
  intro ok L w act h1 h2 h3 h4
  refine wpList_plain rfl fun K hK => ?_
  obtain ⟨vs, hrun, hv⟩ := call_run (E := aval env) (d := d) (ty := ty) (pos := pos) (after := after) (guard := none) (ts := ts) hin (fun x _ b hb => h2.aval (x := x) hb) hf hc ha
  unfold Oper.wp
  rw [hrun]
  refine (h ok L w vs h1 hv).mono ?_
  rintro e w' ⟨r, σ', ok', L', hR, he, hs, hx⟩
  have hk := k _ _ hR
  cases r with
  | ret a =>
    cases e with
    | returned v =>
      refine hK _ _ (wpList_after (fun _ _ _ h => postD_after he h) _ _ _ (hk ok' L' w' (act.put d v) hs ?_ ?_ ?_))
      · exact (h2.evo h1 he).put hx (fun t ht => h4 ▸ hd t ht)
      · rw [put_defers]; exact h3.evo h1 he
      · rw [put_size]; exact h4
    | _ => exact hx.elim
  | pan a =>
    cases e with
    | panicked chain => exact ⟨.panic a, env, σ', D, ok', L', hk, he, hs, h2.evo h1 he, h3.evo h1 he, h4, hx⟩
    | _ => exact hx.elim
/-- A deferred call of a function by its name. -/
theorem ald_defer {g : FuncId} {args : Array Operand} {ts : Array TypeId} {avs : List AVal} (ha : avals (aval env) args.toList = some avs) (hd : d = none)
    (k : ALD P n ops rest QD env σ ((g, avs) :: D)) : ALD P n ops (⟨d, .defer { callee := .value (.func g), args := args, argTypes := ts }, ty, pos, after, none⟩ :: rest) QD env σ D := by
  intro ok L w act h1 h2 h3 h4
  refine wpList_plain rfl fun K hK => ?_
  subst hd
  have h5 := avals_rep (ρ := act.eval) (ok := ok) (L := L) (w := w) args.toList avs (fun x hx b hb => h2.aval (x := x) hb) ha
  have hr : (execOp act.eval ⟨none, .defer { callee := .value (.func g), args := args, argTypes := ts }, ty, pos, after, none⟩).run P w = .ok (.defer { target := .fn (.func g) #[], args := (args.toList.map act.eval).toArray }) w := by
    have e2 : args.map act.eval = (args.toList.map act.eval).toArray := by apply Array.ext'; simp
    simp [execOp, resolve, Deferred.ofValue, Act.eval]
    exact e2
  unfold Oper.wp
  rw [hr, Oper.upon_defer]
  exact hK _ _ (k ok L w _ h1 h2 ⟨⟨_, rfl, h5⟩, h3⟩ h4)
/-- A deferred call of a frame that returns. -/
def ACDr (P : Program) (g : FuncId) (avs : List AVal) (σ : Store) (R : Store → Prop) : Prop :=
  ∀ ok L w vs, Sim ok L σ w → All2 (Rep ok L w) avs vs → CallsD P g vs.toArray .returning w fun e u' w' => ∃ v, e = .returned v ∧ u' = .returning ∧ ∃ σ' ok' L', R σ' ∧ Evo ok L σ w ok' L' σ' w' ∧ Sim ok' L' σ' w'
/-- .. of a frame that panics with a: it recovers. -/
def ACDp (P : Program) (g : FuncId) (avs : List AVal) (a : AVal) (σ : Store) (R : Store → Prop) : Prop :=
  ∀ ok L w vs pv, Sim ok L σ w → All2 (Rep ok L w) avs vs → Rep ok L w a pv → CallsD P g vs.toArray (.panicking [{ v := pv, recovered := false }]) w fun e u' w' => ∃ v, e = .returned v ∧ settle u' = .returning ∧ ∃ σ' ok' L', R σ' ∧ Evo ok L σ w ok' L' σ' w' ∧ Sim ok' L' σ' w'
def RetPostD (P : Program) (fn : Func) (R : AEnd → Store → Prop) : DPost
  | .normal, env, σ, [] | .ret, env, σ, [] => ∃ r, ResOK P fn env σ r ∧ R (.ret r) σ
  | .panic a, env, σ, [] => R (.pan a) σ
  | .ret, env, σ, [(g, avs)] => Into P g ∧ ∃ R1, ACDr P g avs σ R1 ∧ ∀ σ', R1 σ' → ∃ r, ResOK P fn env σ' r ∧ R (.ret r) σ'
  | .panic a, env, σ, [(g, avs)] => Into P g ∧ ∃ R1, ACDp P g avs a σ R1 ∧ ∀ σ', R1 σ' → ∃ r, ResOK P fn env σ' r ∧ R (.ret r) σ'
  | _, _, _, _ => False
theorem retd_ret {fn : Func} {R : AEnd → Store → Prop} {g : FuncId} {avs : List AVal} {R1 : Store → Prop} (hi : Into P g) (h1 : ACDr P g avs σ R1) (h2 : ∀ σ', R1 σ' → ∃ r, ResOK P fn env σ' r ∧ R (.ret r) σ') : RetPostD P fn R .ret env σ [(g, avs)] := ⟨hi, R1, h1, h2⟩
theorem acd_enter {f : FuncId} {fn : Func} {c : Code} {avs : List AVal} {R : AEnd → Store → Prop} (nt : Nat) (hf : P.funcs[f]? = some fn) (hb : fn.body = some c) (hn : fn.ntmps = nt) (hl : avs.length ≤ nt)
    (h : AWD P nt c (RetPostD P fn R) (initEnv 0 avs) σ []) : AC P f avs σ R := by
  intro ok L w vs hs hv
  subst hn
  refine calls_of_wp_defers hf hb (wp_mono (h ok L w _ hs ?_ trivial ?_) ?_)
  · have := initEnv_rep avs vs hv 0 [] (List.replicate (fn.ntmps - vs.length) undef) rfl
    simp only [List.nil_append] at this
    rw [show vs.toArray ++ Array.replicate (fn.ntmps - vs.toArray.size) undef = (vs ++ List.replicate (fn.ntmps - vs.length) undef).toArray from by simp]
    exact this
  · have := All2.length _ _ hv
    simp
    omega
  · have nil : ∀ {ok L w} {ds : List Deferred}, DefRep ok L w [] ds → ds = [] := by
      intro ok L w ds h
      cases ds with
      | nil => rfl
      | cons a r => exact h.elim
    rintro e a w' ⟨ae, env', σ', D', ok', L', hq, he, hs', hr', hd', hn', hx⟩
    match D', hq, hd' with
    | [], hq, hd' =>
      have hdn := nil hd'
      clear hd'
      cases ae <;> cases e <;> simp only [ExitRep] at hx <;> simp only [RetPostD] at hq <;> simp only [bodyPostD]
      · obtain ⟨r, h1, h2⟩ := hq
        obtain ⟨v, h3, h4⟩ := h1 ok' L' w' a.tmps hs' hr'
        rw [hdn]
        exact ⟨v, h3, .ret r, σ', ok', L', h2, he, hs', h4⟩
      · obtain ⟨r, h1, h2⟩ := hq
        obtain ⟨v, h3, h4⟩ := h1 ok' L' w' a.tmps hs' hr'
        rw [hdn]
        exact ⟨v, h3, .ret r, σ', ok', L', h2, he, hs', h4⟩
      · obtain ⟨v, h3, h4⟩ := hx
        rw [hdn]
        exact ⟨.pan _, σ', ok', L', hq, he, hs', v, h3, h4⟩
    | [(g, avs2)], hq, hd' =>
      obtain ⟨d0, hd0, ⟨vs2, rfl, hv2⟩⟩ : ∃ d0, a.defers = [d0] ∧ ∃ vs : List Value, d0 = { target := .fn (.func g) #[], args := vs.toArray } ∧ All2 (Rep ok' L' w') avs2 vs := by
        cases hds : a.defers with
        | nil => rw [hds] at hd'; exact hd'.elim
        | cons d0 r =>
          rw [hds] at hd'
          obtain ⟨h1, h2⟩ := hd'
          exact ⟨d0, by rw [nil h2], h1⟩
      have hinv : Into P g → (invoke (Target.fn (.func g) #[]) vs2.toArray).run P w' = .ok (.enter g vs2.toArray) w' := fun hin => by
        simp [invoke, run_callFunc hin]
      cases ae <;> cases e <;> simp only [ExitRep] at hx <;> simp only [RetPostD] at hq <;> simp only [bodyPostD]
      · rw [hd0]
        obtain ⟨hin, R1, h1, h2⟩ := hq
        refine ⟨by simp, .func g, #[], g, vs2.toArray, rfl, hinv hin, ?_⟩
        refine CallsD.mono (h1 ok' L' w' vs2 hs' hv2) ?_
        rintro e u' w'' ⟨v, rfl, rfl, σ2, ok2, L2, hR1, he2, hs2⟩
        obtain ⟨r, h3, h4⟩ := h2 σ2 hR1
        obtain ⟨v2, h5, h6⟩ := h3 ok2 L2 w'' a.tmps hs2 (hr'.evo hs' he2)
        exact ⟨v2, h5, .ret r, σ2, ok2, L2, h4, he.trans he2, hs2, h6⟩
      · obtain ⟨pv, rfl, h7⟩ := hx
        rw [hd0]
        obtain ⟨hin, R1, h1, h2⟩ := hq
        refine ⟨by simp, .func g, #[], g, vs2.toArray, rfl, hinv hin, ?_⟩
        refine CallsD.mono (h1 ok' L' w' vs2 pv hs' hv2 h7) ?_
        rintro e u' w'' ⟨v, rfl, hu, σ2, ok2, L2, hR1, he2, hs2⟩
        obtain ⟨r, h3, h4⟩ := h2 σ2 hR1
        obtain ⟨v2, h5, h6⟩ := h3 ok2 L2 w'' a.tmps hs2 (hr'.evo hs' he2)
        show Leaves P fn a.tmps _ [] (settle u') w''
        rw [hu]
        exact ⟨v2, h5, .ret r, σ2, ok2, L2, h4, he.trans he2, hs2, h6⟩
    | _ :: _ :: _, hq, hd' => cases ae <;> simp only [RetPostD] at hq
end
/-! ### Panics in regions of any order -/
section
variable {P : Program} {n : Nat} {Q : APost} {env env0 : Env} {σ σ' : Store} {ops : Array Oper} {steps : List Stp} {rem : List Nat}
def PanQ (QP : AVal → Store → Prop) (ok : Nat → Prop) (L : Loc) (σ : Store) (w : World) (act : Act) : Exit → Act → World → Prop := fun e a w' =>
  ∃ x σ' ok' L' v, QP x σ' ∧ Evo ok L σ w ok' L' σ' w' ∧ Sim ok' L' σ' w' ∧ e = .panic [{ v := v, recovered := false }] ∧ a = act ∧ Rep ok' L' w' x v
theorem afl_forcedP (QP : AVal → Store → Prop) (hQ : ∀ a σ', QP a σ' → Q (.panic a) [] σ') {e : Nat} {o : Oper} (ho : ops[e]? = some o) (hg : o.guard = none) (hok : effOK ops e rem = true) (hd : ∀ d, o.dst = some d → d < n)
    (h : ∀ ok L w (act : Act), Sim ok L σ w → (∀ x ∈ o.op.operands, ∀ b, aval env x = some b → Rep ok L w b (act.eval x)) → ∀ (K : Act → World → Prop),
      (∀ a σ' ok' L' w' v, Loose P ops e σ' steps → AFl P n ops Q env0 (⟨e, a, env, true⟩ :: steps.map (fixS ops e)) rem (env.putd o.dst a) σ' → Evo ok L σ w ok' L' σ' w' → Sim ok' L' σ' w' → Rep ok' L' w' a v → K (act.put o.dst v) w') → o.wp P act w K (PanQ QP ok L σ w act)) :
    AFl P n ops Q env0 steps (e :: rem) env σ := by
  intro hplan hcoh hgood listed ok L w act hI
  obtain ⟨hlow, hcov, hpw, hpr, hx⟩ := plan_facts hplan
  have hes : e < ops.size := (Array.getElem?_eq_some_iff.1 ho).1
  have hnot : ∀ s ∈ steps, s.i ≠ e := fun s hs => (hx s hs e (by simp)).ne
  refine fl_run (ok0 := ok) (L0 := L) (σ0 := σ) (w0 := w) hlow hpw hcoh hgood (fun listed ok1 L1 w1 act1 hI1 he1 hall => ?_) (fun r listed ok1 L1 w1 act1 hI1 he1 ht j hj hjn => ?_) _ listed ok L w act hI (.refl _ _ _ _) rfl
  · obtain ⟨s, hs, h1⟩ := hI1.sub e hes (hall e hes)
    exact absurd h1 (hnot s hs)
  · obtain ⟨hjs, hjf, _⟩ := ready_deps hj
    have hje : j = e := by
      rcases hcov j hjs with ⟨s, hs, h1⟩ | h1
      · exact absurd h1 (hjn s hs)
      · rcases List.mem_cons.1 h1 with h1 | h1
        · exact h1
        · have hb := bef_before (List.all_eq_true.1 hok j h1)
          have hl := getD_true_of_false (closed_before hI1.cl hj hb)
          obtain ⟨s, hs, h2⟩ := hI1.sub e hes hl
          exact absurd h2 (hnot s hs)
    subst hje
    have known := inv_known hI1 (l1 := []) (l2 := steps) (e := env) (j := j) (fun m hm => .inr (.inr hm)) (fun m hm => by cases hm) (fun m hm => ⟨hm, hx m hm j (by simp)⟩) hcoh hj ho
    have opr : ∀ x ∈ o.op.operands, ∀ b, aval env x = some b → Rep ok1 L1 w1 b (act1.eval x) := fun x hx b hb => aval_rep (fun t ht a ha => known t (operand_mem (by subst ht; exact hx)) a ha) hb
    unfold wpOp
    rw [ho]
    simp only
    rw [if_pos (by simp [Region.wanted, hg])]
    refine .inl (oper_wp_mono2 (fun _ _ h => h) ?_ (h ok1 L1 w1 act1 hI1.sim opr _ ?_))
    · rintro e a w' ⟨x, σ', ok', L', v, h1, h2, h3, rfl, rfl, h4⟩
      exact Post.after he1 ⟨.panic x, [], σ', ok', L', hQ _ _ h1, h2, h3, (fun t a ht => by cases ht), hI1.df, hI1.hn, v, rfl, h4⟩
    intro a σ' ok' L' w' v hloose hk hev hs' hv
    have htg : togo (listed.setIfInBounds j true) ops.size = r := by
      have := togo_set listed j hjf ops.size
      rw [show decide (j < ops.size) = true from by simp [hjs]] at this
      simp only [cond_true] at this
      omega
    rw [← htg]
    refine wpAny_monoQ (fun _ _ _ h => Post.after (he1.trans hev) h) _ _ _ _ (hk ?_ ⟨by rw [dstOf, ho]; rfl, coh_fix hcoh⟩ (fun s hs hf => ?_) _ ok' L' w' _ (inv_next hI1 hj ho (a := a) (fun m hm => ?_) (fun m hm e => ?_) (fun m hm => ?_) ⟨_, List.mem_cons_self .., rfl⟩ (fun m hm hf => ?_) (fun m hm hne d hmd => ?_) hd hev hs' hv))
    · have e1 : ((⟨j, a, env, true⟩ :: steps.map (fixS ops j) : List Stp).reverse.map (·.i) ++ rem) = steps.reverse.map (·.i) ++ j :: rem := by
        rw [List.reverse_cons, List.map_append, List.append_assoc, ← List.map_reverse, List.map_map]
        rfl
      rw [e1]; exact hplan
    · rcases List.mem_cons.1 hs with rfl | hs
      · cases hf
      · obtain ⟨s0, hs0, rfl⟩ := List.mem_map.1 hs
        change (s0.f || bef ops s0.i j) = false at hf
        rw [Bool.or_eq_false_iff] at hf
        obtain ⟨o1, g1, g2, g3, _⟩ := hgood s0 hs0 hf.1
        rcases hloose.all s0 hs0 with h | h | ⟨o2, h1, h2⟩
        · rw [hf.1] at h; cases h
        · rw [hf.2] at h; cases h
        · rw [g1] at h1; cases h1
          exact ⟨o1, g1, g2, g3, h2⟩
    · rcases List.mem_cons.1 hm with rfl | hm
      · exact .inr ⟨rfl, rfl⟩
      · obtain ⟨s0, hs0, rfl⟩ := List.mem_map.1 hm
        exact .inl ⟨s0, hs0, rfl, rfl⟩
    · rcases List.mem_cons.1 hm with rfl | hm
      · rfl
      · obtain ⟨s0, hs0, rfl⟩ := List.mem_map.1 hm
        exact absurd e (hnot s0 hs0)
    · exact ⟨fixS ops j m, by simp only [List.mem_cons, List.mem_map]; exact .inr ⟨m, hm, rfl⟩, rfl⟩
    · rcases List.mem_cons.1 hm with rfl | hm
      · exact .inl rfl
      · obtain ⟨s0, hs0, rfl⟩ := List.mem_map.1 hm
        change (s0.f || bef ops s0.i j) = true at hf
        rw [Bool.or_eq_true] at hf
        rcases hf with hf | hf
        · exact .inr (hI1.fx s0 hs0 hf)
        · exact .inr (getD_true_of_false (closed_before hI1.cl hj (bef_before hf)))
    · rcases List.mem_cons.1 hm with rfl | hm
      · exact absurd rfl hne
      · obtain ⟨s0, hs0, rfl⟩ := List.mem_map.1 hm
        change dstOf ops s0.i = some d at hmd
        cases hom : ops[s0.i]? with
        | none => rw [dstOf, hom] at hmd; cases hmd
        | some om =>
          have h3 : om.dst = some d := by rw [dstOf, hom] at hmd; exact hmd
          exact (hx s0 hs0 j (by simp)).dst om o d hom ho h3
/-- A call that may write or panic, among quiet operations. -/
theorem afl_callP {e : Nat} {f : Operand} {args : Array Operand} {ts : Array TypeId} {fa : AVal} {g : FuncId} {caps : List AVal} {avs : List AVal} {R : AEnd → Store → Prop} {d : Option Tmp} {ty : TypeId} {pos : String} {after : Array Edge} (ho : ops[e]? = some ⟨d, .call { callee := .value f, args := args, argTypes := ts }, ty, pos, after, none⟩) (hok : effOK ops e rem = true) (hin : Into P g)
    (hf : aval env f = some fa) (hc : calleeOf fa = some (g, caps)) (ha : avals (aval env) args.toList = some avs) (h : AC P g (avs ++ caps) σ R) (hd : ∀ t, d = some t → t < n)
    (k : ∀ r σ', R r σ' → match r with | .ret a => Loose P ops e σ' steps ∧ AFl P n ops Q env0 (⟨e, a, env, true⟩ :: steps.map (fixS ops e)) rem (env.putd d a) σ' | .pan a => Q (.panic a) [] σ') : AFl P n ops Q env0 steps (e :: rem) env σ :=
  afl_forcedP (fun a σ' => Q (.panic a) [] σ') (fun _ _ h => h) ho rfl hok hd fun ok L w act hs hr K hK => by
    obtain ⟨vs, hrun, hv⟩ := call_run (E := aval env) (d := d) (ty := ty) (pos := pos) (after := after) (guard := none) (ts := ts) hin hr hf hc ha
    unfold Oper.wp
    rw [hrun]
    refine (h ok L w vs hs hv).mono ?_
    rintro x w' ⟨r, σ', ok', L', hR, he, hs', hx⟩
    have hk := k _ _ hR
    cases r with
    | ret a =>
      cases x with
      | returned v => exact hK _ _ _ _ _ _ hk.1 hk.2 he hs' hx
      | _ => exact hx.elim
    | pan a =>
      cases x with
      | panicked chain =>
        obtain ⟨v, rfl, h4⟩ := hx
        exact ⟨a, σ', ok', L', v, hk, he, hs', rfl, rfl, h4⟩
      | _ => exact hx.elim
theorem aany_panic {p : Nat} {x : Operand} {t : TypeId} {v : Value} {d : Option Tmp} {ty : TypeId} {pos : String} {after : Array Edge} (hok : forcedOK ops p = true) (ho : ops[p]? = some ⟨d, .panic x, ty, pos, after, none⟩)
    (hx : aval env x = some (.v (.iface t v))) (h : Q (.panic (.v (.iface t v))) env σ) : AAny P n ops Q p env σ :=
  aany_forced hok ho rfl fun ok L w act h1 h2 h3 h4 K hK => by
    have e := rep_bool (h2.aval hx)
    unfold Oper.wp
    have hr : (execOp act.eval ⟨d, .panic x, ty, pos, after, none⟩).run P w = .halt (.panic (.iface t v)) w := by
      simp [execOp, Instr.panic, e, goPanic]
    rw [hr, Oper.upon_panic]
    exact ⟨.panic (.v (.iface t v)), env, σ, ok, L, h, .refl _ _ _ _, h1, h2, h3, h4, _, rfl, .v _⟩
theorem opR_of {o : Oper} {E : Operand → Option AVal} {a : AVal} (h : OpTo P o E σ a σ') : OpR P o E σ (fun b σ2 => b = a ∧ σ2 = σ') := fun ok L w ρ hs hr => by
  obtain ⟨v, w', ok', L', h1, h2, h3, h4⟩ := h ok L w ρ hs hr
  exact ⟨a, σ', v, w', ok', L', ⟨rfl, rfl⟩, h1, h2, h3, h4⟩
/-- A value, told otherwise. -/
theorem val_re {o : Oper} {E : Operand → Option AVal} {a : AVal} (b : AVal) (h : OpTo P o E σ a σ') (r : ReA a b) : OpTo P o E σ b σ' := by
  intro ok L w ρ hs hr
  obtain ⟨v, w', ok', L', h1, h2, h3, h4⟩ := h ok L w ρ hs hr
  exact ⟨v, w', ok', L', h1, h2, h3, r.rep h4⟩
end
/-! ### Regions of a frame that has deferred calls -/
section
variable {P : Program} {n : Nat} {env : Env} {σ : Store} {QD : DPost} {D : ADefs}
def Act.addD (a : Act) (ds : List Deferred) : Act := { a with defers := a.defers ++ ds }
def QAdd (Q : Exit → Act → World → Prop) (ds : List Deferred) : Exit → Act → World → Prop := fun e a w => ∃ a0, a = Act.addD a0 ds ∧ Q e a0 w
theorem addD_put (a : Act) (ds : List Deferred) (d : Option Tmp) (v : Value) : (Act.addD a ds).put d v = Act.addD (a.put d v) ds := by cases d <;> rfl
theorem addD_eval (a : Act) (ds : List Deferred) : (Act.addD a ds).eval = a.eval := rfl
theorem oper_addD {o : Oper} {a : Act} {w : World} {K K' : Act → World → Prop} {Q : Exit → Act → World → Prop} {ds : List Deferred} (hK : ∀ a w, K a w → K' (Act.addD a ds) w) (h : o.wp P a w K Q) : o.wp P (Act.addD a ds) w K' (QAdd Q ds) := by
  unfold Oper.wp at *
  rw [addD_eval]
  generalize (execOp a.eval o).run P w = r at *
  cases r with
  | ok x w' =>
    cases x <;> simp only [Oper.upon] at h ⊢ <;> first
      | exact h
      | (rw [addD_put]; exact hK _ _ h)
      | exact Calls.mono h (fun e w'' he => by cases e <;> first | (simp only at he ⊢; rw [addD_put]; exact hK _ _ he) | exact ⟨_, rfl, he⟩ | (obtain ⟨a0, w0, hq⟩ := he; exact ⟨_, w0, a0, rfl, hq⟩))
      | exact Rows.mono h (fun _ _ he => by rw [addD_put]; exact hK _ _ he)
      | (have := hK _ _ h; rw [← addD_put] at this; exact this)
  | halt x w' => cases x <;> simp only [Oper.upon] at h ⊢ <;> first | exact h | exact ⟨_, rfl, h⟩
theorem letsOut_addD {Q : Exit → Act → World → Prop} {ds : List Deferred} (h : LetsOut Q) : LetsOut (QAdd Q ds) := by
  obtain ⟨a, w, hq⟩ := h
  exact ⟨Act.addD a ds, w, a, rfl, hq⟩
theorem wpList_addD {ops : Array Oper} {Q : Exit → Act → World → Prop} {ds : List Deferred} : ∀ (l : List Oper) (a : Act) (w : World), wpList P ops Q l a w → wpList P ops (QAdd Q ds) l (Act.addD a ds) w
  | [], a, w, h => ⟨a, rfl, h⟩
  | o :: l, a, w, h => by
    unfold wpList at h ⊢
    split
    · rename_i hw
      have hw' : Region.wanted o (yielded ops a.tmps) = true := hw
      rw [if_pos hw'] at h
      rcases h with h | ⟨h1, h2⟩
      · exact .inl (oper_addD (fun a w h => wpList_addD l a w h) h)
      · exact .inr ⟨h1, letsOut_addD h2⟩
    · rename_i hw
      have hw' : ¬ Region.wanted o (yielded ops a.tmps) = true := hw
      rw [if_neg hw'] at h
      rw [addD_put]
      exact wpList_addD l _ _ h
theorem wpOp_addD {ops : Array Oper} {Q : Exit → Act → World → Prop} {ds : List Deferred} {K K' : Act → World → Prop} {i : Nat} {a : Act} {w : World} (hK : ∀ a w, K a w → K' (Act.addD a ds) w) (h : wpOp P ops Q i K a w) : wpOp P ops (QAdd Q ds) i K' (Act.addD a ds) w := by
  unfold wpOp at *
  cases ho : ops[i]? with
  | none => rw [ho] at h; exact hK _ _ h
  | some o =>
    rw [ho] at h
    simp only at h ⊢
    by_cases hw : Region.wanted o (yielded ops a.tmps) = true
    · rw [if_pos hw] at h
      rw [if_pos (show Region.wanted o (yielded ops (Act.addD a ds).tmps) = true from hw)]
      rcases h with h | ⟨h1, h2⟩
      · exact .inl (oper_addD hK h)
      · exact .inr ⟨h1, letsOut_addD h2⟩
    · rw [if_neg hw] at h
      rw [if_neg (show ¬ Region.wanted o (yielded ops (Act.addD a ds).tmps) = true from hw), addD_put]
      exact hK _ _ h
theorem wpAny_addD {md : Region.Mode} {ops : Array Oper} {Q : Exit → Act → World → Prop} {ds : List Deferred} : ∀ (fuel : Nat) (listed : Array Bool) (a : Act) (w : World), wpAny P md ops Q fuel listed a w → wpAny P md ops (QAdd Q ds) fuel listed (Act.addD a ds) w
  | 0, listed, a, w, h => ⟨h.1, a, rfl, h.2⟩
  | fuel + 1, listed, a, w, h => ⟨fun h0 => ⟨a, rfl, h.1 h0⟩, fun i hi => wpOp_addD (fun a w h => wpAny_addD fuel _ a w h) (h.2 i hi)⟩
theorem postD_of_add {ok : Nat → Prop} {L : Loc} {w : World} {ds : List Deferred} (hs : Sim ok L σ w) (hd : DefRep ok L w D ds) {e : Exit} {a : Act} {w' : World} (h : QAdd (Post n (fun ae env σ => QD ae env σ D) ok L σ w) ds e a w') : PostD n QD ok L σ w e a w' := by
  obtain ⟨a0, rfl, ae, env', σ', ok', L', hq, he, hs', hr', hd', hn', hx⟩ := h
  refine ⟨ae, env', σ', D, ok', L', hq, he, hs', hr', ?_, hn', hx⟩
  show DefRep ok' L' w' D (a0.defers ++ ds)
  rw [hd', List.nil_append]
  exact hd.evo hs he
theorem awd_region_l {id : Nat} {l : List Oper} (h : AL P n l.toArray l (fun ae env σ => QD ae env σ D) env σ) : AWD P n (.region id l.toArray false) QD env σ D := by
  intro ok L w act h1 h2 h3 h4
  have h5 := wpList_addD (ds := act.defers) l _ _ (h ok L w { act with defers := [] } h1 h2 rfl h4)
  have e : Act.addD { act with defers := [] } act.defers = act := by simp [Act.addD]
  rw [e] at h5
  exact wp_mono (wp_region_lit h5) (fun _ _ _ hp => postD_of_add h1 h3 hp)
theorem awd_any {id : Nat} {l : List Oper} (hm : P.follows .mixedOrders = true) (h : AAny P n l.toArray (fun ae env σ => QD ae env σ D) 0 env σ) : AWD P n (.region id l.toArray true) QD env σ D := by
  intro ok L w act h1 h2 h3 h4
  have hd : Evo ok L σ w ok L σ w.drew := ⟨rfl, rfl, rfl, Nat.le_refl _, fun _ _ _ => rfl, fun _ _ h => h, fun _ h => h, fun _ h _ => .inl h, fun _ => Nat.le_refl _, fun _ _ => ⟨rfl, rfl, rfl⟩⟩
  have hs : Sim ok L σ w.drew := ⟨fun i v o h => (h1.objs i v o h).evo h1 hd rfl (fun _ => rfl), h1.lt, h1.inj, h1.okd, h1.globEvo hd⟩
  have h5 := wpAny_addD (ds := act.defers) _ _ _ _ (h ok L w.drew { act with defers := [] } hs (h2.evo h1 hd) rfl h4)
  have e : Act.addD { act with defers := [] } act.defers = act := by simp [Act.addD]
  rw [e] at h5
  refine wp_mono (wp_region_any (Q := QAdd (Post n (fun ae env σ => QD ae env σ D) ok L σ w.drew) act.defers) hm ?_) (fun _ _ _ hp => postD_after hd (postD_of_add hs (h3.evo h1 hd) hp))
  have e2 : prefixB l.toArray.size 0 = Array.replicate l.toArray.size false := by
    apply Array.ext (by simp [prefix_size])
    intro i h1 h2
    simp [prefixB]
  rw [e2] at h5
  simpa using h5
theorem awd_plan {id : Nat} {l : List Oper} (π : List Nat) (hm : P.follows .mixedOrders = true) (hok : planOK l.toArray π = true) (h : AFl P n l.toArray (fun ae env σ => QD ae env σ D) env [] π env σ) : AWD P n (.region id l.toArray true) QD env σ D := by
  refine awd_any hm ?_
  intro ok L w act hs hr hdf hn
  have hf : ∀ i, i < l.toArray.size → (prefixB l.toArray.size 0).getD i true = false := fun i hi => by rw [prefix_get, if_pos hi]; simp
  have e : l.toArray.size - 0 = togo (prefixB l.toArray.size 0) l.toArray.size := by rw [togo_prefix _ _ _ (Nat.le_refl _)]
  rw [e]
  refine h (by simpa using hok) rfl (fun s hs => by cases hs) _ ok L w act ⟨prefix_size _ _, fun i j hb hj => ?_, fun i hi hl => ?_, fun s hs => (by cases hs), hs, hdf, hn, fun s hs => (by cases hs), fun t a ht _ => hr t a ht⟩
  · rw [prefix_get] at hj
    split at hj
    · simp at hj
    · cases hj
  · rw [hf i hi] at hl; cases hl
/-! ### recover -/
theorem acd_recover {g : FuncId} {fn : Func} {id t nt : Nat} {ty : TypeId} {pos : String} {after : Array Edge} {rest : Code} {avs : List AVal} {R : Store → Prop} (u u' : FrameMode) (a : AVal) (v : Value)
    (hf : P.funcs[g]? = some fn) (hb : fn.body = some (.seq (.region id #[⟨some t, .call { callee := .builtin .recover, args := #[], argTypes := #[] }, ty, pos, after, none⟩] false) rest)) (hn : fn.ntmps = nt) (hl : avs.length ≤ nt) (ht : t < nt) (hr : fn.results = #[])
    (hrec : ∀ (c₀ : Frame) (cs : List Frame), c₀.mode = u → (match recoverD (c₀ :: cs) with | some (x, cs') => x = v ∧ cs' = { c₀ with mode := u' } :: cs | none => v = .nilIface ∧ u' = u))
    (h : AW P nt rest (fun ae env' σ' => (ae = .normal ∨ ae = .ret) ∧ R σ') ((t, a) :: initEnv 0 avs) σ)
    {ok : Nat → Prop} {L : Loc} {w : World} {vs : List Value} (hs : Sim ok L σ w) (hv : All2 (Rep ok L w) avs vs) (hp : Rep ok L w a v) :
    CallsD P g vs.toArray u w fun e u2 w' => ∃ x, e = .returned x ∧ u2 = u' ∧ ∃ σ' ok' L', R σ' ∧ Evo ok L σ w ok' L' σ' w' ∧ Sim ok' L' σ' w' := by
  subst hn
  refine callsD_of_wpS hf hb fun c₀ cs hu => ?_
  apply wpS_seq
  apply wpS_region
  have hk := hrec c₀ cs hu
  have hlen := All2.length _ _ hv
  have key : ∀ act : Act, act.tmps.size = fn.ntmps → RepEnv ok L w (initEnv 0 avs) act.tmps → act.defers = [] → rest.wpS P (bodyPostS P fn c₀ cs (fun e u2 w' => ∃ x, e = .returned x ∧ u2 = u' ∧ ∃ σ' ok' L', R σ' ∧ Evo ok L σ w ok' L' σ' w' ∧ Sim ok' L' σ' w')) (act.put (some t) v) ({ c₀ with mode := u' } :: cs) w := by
    intro act hsz hre hde
    refine wpS_of_wp (wp_mono (h ok L w (act.put (some t) v) hs ?_ hde ?_) ?_)
    · exact RepEnv.put (dst := some t) hre hp (fun d hd => by cases hd; exact hsz.symm ▸ ht)
    · rw [put_size]; exact hsz
    · rintro e a' w' ⟨ae, env', σ', ok', L', ⟨hq, hR⟩, he, hs', hr', hd', hn', hx⟩
      have hres : (results fn a'.tmps).run P w' = .ok (.tuple #[]) w' := results_none hr a'.tmps P w'
      rcases hq with rfl | rfl <;> cases e <;> simp only [ExitRep] at hx <;> exact ⟨hd', u', rfl, _, hres, _, rfl, rfl, σ', ok', L', hR, he, hs'⟩
  have hre : RepEnv ok L w (initEnv 0 avs) (vs.toArray ++ Array.replicate (fn.ntmps - vs.toArray.size) undef) := by
    have := initEnv_rep avs vs hv 0 [] (List.replicate (fn.ntmps - vs.length) undef) rfl
    simp only [List.nil_append] at this
    rw [show vs.toArray ++ Array.replicate (fn.ntmps - vs.toArray.size) undef = (vs ++ List.replicate (fn.ntmps - vs.length) undef).toArray from by simp]
    exact this
  have hk2 := key { tmps := vs.toArray ++ Array.replicate (fn.ntmps - vs.toArray.size) undef, defers := [] } (by simp; omega) hre rfl
  have hw : Region.wanted (⟨some t, .call { callee := .builtin .recover, args := #[], argTypes := #[] }, ty, pos, after, none⟩ : Oper) (yielded #[⟨some t, .call { callee := .builtin .recover, args := #[], argTypes := #[] }, ty, pos, after, none⟩] (vs.toArray ++ Array.replicate (fn.ntmps - vs.toArray.size) undef)) = true := by simp [Region.wanted]
  have hx : ∀ (ρ : Operand → Value), (execOp ρ ⟨some t, .call { callee := .builtin .recover, args := #[], argTypes := #[] }, ty, pos, after, none⟩).run P w = .ok .recover w := fun ρ => by simp [go_sem]
  show wpOpsS P _ _ [0] _ _ _
  simp only [wpOpsS, List.getElem?_toArray, List.getElem?_cons_zero, hw, if_true, hx]
  cases hrd : recoverD (c₀ :: cs) with
  | none =>
    rw [hrd] at hk
    obtain ⟨rfl, rfl⟩ := hk
    subst hu
    exact hk2
  | some p =>
    obtain ⟨x, cs'⟩ := p
    rw [hrd] at hk
    obtain ⟨rfl, rfl⟩ := hk
    exact hk2
theorem acdp_of {g : FuncId} {fn : Func} {id t nt : Nat} {ty : TypeId} {pos : String} {after : Array Edge} {rest : Code} {avs : List AVal} {a : AVal} {R : Store → Prop}
    (hf : P.funcs[g]? = some fn) (hb : fn.body = some (.seq (.region id #[⟨some t, .call { callee := .builtin .recover, args := #[], argTypes := #[] }, ty, pos, after, none⟩] false) rest)) (hn : fn.ntmps = nt) (hl : avs.length ≤ nt) (ht : t < nt) (hr : fn.results = #[])
    (h : AW P nt rest (fun ae env' σ' => (ae = .normal ∨ ae = .ret) ∧ R σ') ((t, a) :: initEnv 0 avs) σ) : ACDp P g avs a σ R := by
  intro ok L w vs pv hs hv hp
  refine CallsD.mono (acd_recover (.panicking [{ v := pv, recovered := false }]) (.panicking [{ v := pv, recovered := true }]) a pv hf hb hn hl ht hr ?_ h hs hv hp) ?_
  · intro c₀ cs hu
    simp [recoverD, hu]
  · rintro e u2 w' ⟨x, rfl, rfl, h2⟩
    exact ⟨x, rfl, rfl, h2⟩
theorem acdr_of {g : FuncId} {fn : Func} {id t nt : Nat} {ty : TypeId} {pos : String} {after : Array Edge} {rest : Code} {avs : List AVal} {R : Store → Prop}
    (hf : P.funcs[g]? = some fn) (hb : fn.body = some (.seq (.region id #[⟨some t, .call { callee := .builtin .recover, args := #[], argTypes := #[] }, ty, pos, after, none⟩] false) rest)) (hn : fn.ntmps = nt) (hl : avs.length ≤ nt) (ht : t < nt) (hr : fn.results = #[])
    (h : AW P nt rest (fun ae env' σ' => (ae = .normal ∨ ae = .ret) ∧ R σ') ((t, .v .nilIface) :: initEnv 0 avs) σ) : ACDr P g avs σ R := by
  intro ok L w vs hs hv
  refine CallsD.mono (acd_recover .returning .returning (.v .nilIface) .nilIface hf hb hn hl ht hr ?_ h hs hv (.v _)) ?_
  · intro c₀ cs hu
    simp [recoverD, hu]
  · rintro e u2 w' ⟨x, rfl, rfl, h2⟩
    exact ⟨x, rfl, rfl, h2⟩
/-- What an interface holds. -/
theorem op_assert_agg {E : Operand → Option AVal} {d : Option Tmp} {ty : TypeId} {pos : String} {after : Array Edge} {guard : Option (Nat × Bool)} {x : Operand} {s t : TypeId} {vals : List Value} {td : TypeDesc} (ht : P.underlying t = some td) (hi : (match td with | .interface _ => false | _ => true) = true) (hx : E x = some (.v (.iface t (.agg vals.toArray)))) :
    OpTo P ⟨d, .typeAssert x s t true, ty, pos, after, guard⟩ E σ (.tuple [.agg (vals.map .v), .v (.bool true)]) σ :=
  op_value fun ok L w ρ hs hr => by
    have e := rep_bool (hr x (by simp [Op.operands]) _ hx)
    have key : ∀ vals : List Value, All2 (RepL ok L w) (vals.map .v) vals := by
      intro vals
      induction vals with
      | nil => trivial
      | cons a r ih => exact ⟨RepC.v a, ih⟩
    refine ⟨.tuple #[.agg vals.toArray, .bool true], ?_, [.agg vals.toArray, .bool true], rfl, ⟨vals, rfl, key vals⟩, RepC.v _, trivial⟩
    cases td <;> simp_all [execOp, Instr.typeAssert, run_underlying ht]
end
end Go.Proofs.YtcgdlhkiecommaaGreatDoor

/- The engine, part 28: strings told by their bytes. -/





set_option linter.unusedVariables false
set_option linter.unusedSimpArgs false
namespace Go.Proofs.YtcgdlhkiecommaaGreatDoor
open Go
abbrev Bs := List UInt8
def str (l : Bs) : ByteArray := ⟨l.toArray⟩
theorem str_toList (l : Bs) : (str l).toList = l := ByteArray.toList_mk l
theorem str_size (l : Bs) : (str l).size = l.length := rfl
theorem str_inj {a b : Bs} (h : str a = str b) : a = b := by
  have := congrArg (fun s : ByteArray => s.data.toList) h
  exact this
theorem str_app (a b : Bs) : str a ++ str b = str (a ++ b) := by
  apply ByteArray.ext
  simp [str]
theorem str_cut (s : Bs) (l h : Nat) (hh : h ≤ s.length) : (str s).extract l h = str ((s.drop l).take (h - l)) := by
  apply ByteArray.ext
  apply Array.ext'
  simp [str, List.take_drop, List.extract_eq_take_drop]
section
variable {P : Program} {σ : Store} {E : Operand → Option AVal} {d : Option Tmp} {ty : TypeId} {pos : String} {after : Array Edge} {guard : Option (Nat × Bool)}
variable {x y : Operand} {t u : TypeId} {s a b : Bs}
theorem op_cut_str {lo hi : Option Operand} {l h : Nat} (ht : P.underlying t = some .string) (hx : E x = some (.v (.string (str s)))) (hlo : OptI E lo 0 l) (hhi : OptI E hi s.length h) (hlh : l ≤ h) (hhs : h ≤ s.length) :
    OpTo P ⟨d, .slice t x lo hi none, ty, pos, after, guard⟩ E σ (.v (.string (str ((s.drop l).take (h - l))))) σ := by
  have := op_cut_string (P := P) (σ := σ) (d := d) (ty := ty) (pos := pos) (after := after) (guard := guard) (s := str s) ht hx hlo hhi hlh hhs
  rwa [str_cut s l h hhs] at this
/-- 's[:h]' -/
theorem op_cut_to {hi : Option Operand} {h : Nat} (ht : P.underlying t = some .string) (hx : E x = some (.v (.string (str s)))) (hhi : OptI E hi s.length h) (hhs : h ≤ s.length) :
    OpTo P ⟨d, .slice t x none hi none, ty, pos, after, guard⟩ E σ (.v (.string (str (s.take h)))) σ := by
  have := op_cut_str (P := P) (σ := σ) (d := d) (ty := ty) (pos := pos) (after := after) (guard := guard) (lo := none) ht hx (.inl ⟨rfl, rfl⟩) hhi (Nat.zero_le _) hhs
  simpa using this
theorem op_sadd_str (hx : E x = some (.v (.string (str a)))) (hy : E y = some (.v (.string (str b)))) (hl : a.length + b.length ≤ 9223372036854775807) : OpTo P ⟨d, .binOp .add t x y u, ty, pos, after, guard⟩ E σ (.v (.string (str (a ++ b)))) σ := by
  have := op_sadd (P := P) (σ := σ) (t := t) (u := u) (d := d) (ty := ty) (pos := pos) (after := after) (guard := guard) hx hy hl
  rwa [str_app] at this
theorem op_slen_str {ts : Array TypeId} (ht : P.underlying t = some .string) (hx : E x = some (.v (.string (str a)))) : OpTo P ⟨d, .call { callee := .builtin .len, args := #[x], argTypes := #[t] }, ty, pos, after, guard⟩ E σ (.v (.int .i64 a.length)) σ := op_slen (ts := ts) ht hx
theorem op_sidx_str {i : Int} {j : Nat} {k : IntKind} (ht : P.underlying t = some .string) (hx : E x = some (.v (.string (str s)))) (hy : E y = some (.v (.int k i))) (hj : i.toNat = j) (h0 : 0 ≤ i) (h1 : j < s.length) : OpTo P ⟨d, .index t x y, ty, pos, after, guard⟩ E σ (.v (.int .u8 ((s.getD j default).toNat : Int))) σ :=
  op_sindex_at (s := str s) ht hx hy hj h0 h1
/-- 'e == nil' of an error. -/
theorem op_ifn_eql {v : Value} {b : Bool} (ht : P.isIface t = true) (hx : E x = some (.v v)) (hy : E (.const .nilIface) = some (.v .nilIface)) (hv : (v = .nilIface ∧ b = true) ∨ ((∃ te pe, v = .iface te pe) ∧ b = false)) : OpTo P ⟨d, .binOp .eql t x (.const .nilIface) u, ty, pos, after, guard⟩ E σ (.v (.bool b)) σ :=
  op_value fun ok L w ρ hs hr => by
    have h1 := rep_bool (hr x (by simp [Op.operands]) _ hx)
    have h2 := rep_bool (hr (.const .nilIface) (by simp [Op.operands]) _ hy)
    refine ⟨.bool b, ?_, RepC.v _⟩
    rcases hv with ⟨rfl, rfl⟩ | ⟨⟨te, pe, rfl⟩, rfl⟩
    · have := run_eql_nil_nil_at (P := P) w t ht
      simp [execOp, eqGuard, h1, h2, this]
    · have := run_eql_iface_nil (P := P) w t ht te pe
      simp [execOp, eqGuard, h1, h2, this]
theorem op_seql_str (hx : E x = some (.v (.string (str a)))) (hy : E y = some (.v (.string (str b)))) : OpTo P ⟨d, .binOp .eql t x y u, ty, pos, after, guard⟩ E σ (.v (.bool (a == b))) σ := by
  have := op_seql (P := P) (σ := σ) (t := t) (u := u) (d := d) (ty := ty) (pos := pos) (after := after) (guard := guard) hx hy
  rwa [str_toList, str_toList] at this
theorem op_sneq_str (hx : E x = some (.v (.string (str a)))) (hy : E y = some (.v (.string (str b)))) : OpTo P ⟨d, .binOp .neq t x y u, ty, pos, after, guard⟩ E σ (.v (.bool (!(a == b)))) σ := by
  have := op_sneq (P := P) (σ := σ) (t := t) (u := u) (d := d) (ty := ty) (pos := pos) (after := after) (guard := guard) hx hy
  rwa [str_toList, str_toList] at this
end
section
variable {P : Program} {n : Nat} {Q : APost} {env : Env} {σ : Store}
theorem aw_as {c : Code} (t : Nat) {a : AVal} (b : AVal) (h : env.get t = some a) (e : a = b) (k : AW P n c Q ((t, b) :: env) σ) : AW P n c Q env σ := by
  subst e
  refine aw_weaken _ (fun u x hu => ?_) k
  rw [Env.get_cons] at hu
  split at hu
  · rename_i e; subst e; rw [h]; exact hu
  · exact hu
theorem res_tmp_cell {fn : Func} {t ty u : Nat} {td : TypeDesc} {inf : TypeInfo} {id ver sz : Nat} {els : List (List AVal)} {el : List AVal} {a b : AVal} (h : fn.results = #[.tmp u, .cell t ty]) (hb : env.get u = some b) (hu : P.underlying ty = some td) (hi : P.info? ty = some inf) (ht : env.get t = some (.ptr id ver 0 0)) (hid : σ.get id = some (ver, .row sz els)) (hel : els[0]? = some el)
    (ha : asOne (TypeDesc.isAggB td) inf.size (el.drop 0) = some a) (hfb : b.flat = true) (hfa : a.flat = true) : ResOK P fn env σ (.tuple [b, a]) := by
  intro ok L w tmps hs hr
  obtain ⟨p, p1, p2⟩ := hr t _ ht
  obtain ⟨q, q1, q2⟩ := hr u _ hb
  obtain ⟨ad, rfl, v, hv, hrep⟩ := load_core hu hi hid hel ha hs (show RepL ok L w (.ptr id ver 0 0) p from p2)
  refine ⟨.tuple #[q, v], ?_, [q, v], rfl, repA_of q2 hfb, repA_of hrep hfa, trivial⟩
  simp [results, h, p1, q1, asAddr, hv]
end
/-- A test whose answer is known. -/
theorem bool_as {P : Program} {o : Oper} {E : Operand → Option AVal} {σ : Store} {b v : Bool} (e : b = v) (h : OpTo P o E σ (.v (.bool b)) σ) : OpTo P o E σ (.v (.bool v)) σ := e ▸ h
/-! ### A test with one more temporary that is written meanwhile -/
section
variable {P : Program} {n : Nat} {Q : APost} {env : Env} {σ : Store} {ops : Array Oper}
theorem aany_known2 {p q t dd d2 : Nat} {l : List Oper} {b c v : Bool} {a2 : AVal} (hok : segOK ops p q = true) (hl : (ops.toList.drop p).take (q - p) = l) (hpq : p ≤ q) (ht : env.get t = some (.v (.bool b))) (hd : ∀ o ∈ l, ∀ d, o.dst = some d → d < n)
    (hb : b = v) (h : ∃ as env', QL P ops σ ((t, .v (.bool v)) :: env) l as env' ∧ env'.get dd = some (.v (.bool c)) ∧ env'.get d2 = some a2 ∧ SubX [dd, d2] env env')
    (hnext : AAny P n ops Q q ((dd, .v (.bool c)) :: (d2, a2) :: env) σ) : AAny P n ops Q p env σ := by
  subst hb
  obtain ⟨as, env', h1, h2, h4, h3⟩ := h
  refine aany_weaken ((t, .v (.bool b)) :: env) (fun u a hu => ?_) (aany_seg hok hl hpq h1 hd (aany_weaken _ (fun u a hu => ?_) hnext))
  · rw [Env.get_cons] at hu
    split at hu
    · rename_i e; subst e; cases hu; exact ht
    · exact hu
  · rw [Env.get_cons] at hu
    split at hu
    · rename_i e; subst e; cases hu; exact h2
    · rename_i e
      rw [Env.get_cons] at hu
      split at hu
      · rename_i e2; subst e2; cases hu; exact h4
      · rename_i e2; exact h3 u a (by simp; omega) hu
theorem aany_and2 (p q t dd d2 : Nat) (a2 : AVal) {l : List Oper} {b c : Bool} (hok : segOK ops p q = true) (hl : (ops.toList.drop p).take (q - p) = l) (hpq : p ≤ q) (ht : env.get t = some (.v (.bool b))) (hd : ∀ o ∈ l, ∀ d, o.dst = some d → d < n)
    (h2 : b = true → ∃ as env', QL P ops σ ((t, .v (.bool true)) :: env) l as env' ∧ env'.get dd = some (.v (.bool c)) ∧ env'.get d2 = some a2 ∧ SubX [dd, d2] env env')
    (h1 : b = false → ∃ as env', QL P ops σ ((t, .v (.bool false)) :: env) l as env' ∧ env'.get dd = some (.v (.bool false)) ∧ env'.get d2 = some a2 ∧ SubX [dd, d2] env env')
    (hnext : AAny P n ops Q q ((dd, .v (.bool (b && c))) :: (d2, a2) :: env) σ) : AAny P n ops Q p env σ := by
  cases hb : b
  · rw [hb] at hnext; exact aany_known2 hok hl hpq ht hd hb (h1 hb) hnext
  · rw [hb] at hnext; exact aany_known2 hok hl hpq ht hd hb (h2 hb) hnext
theorem ql_ex2 {l : List Oper} {as : List AVal} {env0 env' : Env} {dd d2 : Nat} {c : Bool} {a2 : AVal} (h : QL P ops σ env0 l as env') (h1 : env'.get dd = some (.v (.bool c))) (h3 : env'.get d2 = some a2) (h2 : SubX [dd, d2] env env') : ∃ as env', QL P ops σ env0 l as env' ∧ env'.get dd = some (.v (.bool c)) ∧ env'.get d2 = some a2 ∧ SubX [dd, d2] env env' := ⟨as, env', h, h1, h3, h2⟩
end
/-! ### Contracts of the library, told in the world's own words -/
section
variable {P : Program}
open Go.RowKit
/-- New memory alone. -/
theorem sim_below {ok : Nat → Prop} {L : Loc} {σ : Store} {w w' : World} (hs : Sim ok L σ w) (hb : Below w.heap.size w w') (ok2 : Nat → Prop) (h2 : ∀ b, ok2 b → w.heap.size ≤ b ∧ b < w'.heap.size) :
    Evo ok L σ w (fun b => ok b ∨ ok2 b) L σ w' ∧ Sim (fun b => ok b ∨ ok2 b) L σ w' := by
  obtain ⟨e1, e2, e3, e4, e5⟩ := hb
  have he : Evo ok L σ w (fun b => ok b ∨ ok2 b) L σ w' := ⟨e1, e2, e3, e4, fun b hb _ => e5 b hb, fun _ _ h => h, fun _ h => .inl h, fun b h hlt => h.elim .inl (fun h => by have := h2 b h; omega), fun _ => Nat.le_refl _, fun _ _ => ⟨rfl, rfl, rfl⟩⟩
  refine ⟨he, ⟨fun i v o h => (hs.objs i v o h).evo hs he rfl (fun hc => e5 _ (hs.lt _ ⟨i, v, o, h, hc, rfl⟩)), fun k hf => Nat.lt_of_lt_of_le (hs.lt k hf) e4, hs.inj, fun k hk => ?_, hs.globEvo he⟩⟩
  rcases hk with hk | hk
  · exact ⟨Nat.lt_of_lt_of_le (hs.okd k hk).1 e4, (hs.okd k hk).2⟩
  · exact ⟨(h2 k hk).2, fun hf => by have := hs.lt _ hf; have := h2 k hk; omega⟩
/-- A plain result; nothing, or new memory alone, is made. -/
theorem acp_below {f : FuncId} {avs : List AVal} {vs : List Value} {a : Value} (hv : avs = vs.map .v) (h : ∀ ok w, GlobOK ok w → Calls P f vs.toArray w fun e w' => e = .returned a ∧ Below w.heap.size w w') : ACp P f avs (.v a) := by
  subst hv
  intro σ ok L w vs' hs hvs
  have e : vs' = vs := by
    clear h hs
    induction vs generalizing vs' with
    | nil => cases vs' with
      | nil => rfl
      | cons _ _ => exact hvs.elim
    | cons v vs ih => cases vs' with
      | nil => exact hvs.elim
      | cons v' vs' => rw [ih _ hvs.2, rep_bool hvs.1]
  subst e
  refine (h ok w hs.glob).mono ?_
  rintro e w' ⟨rfl, hb⟩
  obtain ⟨he, hs'⟩ := sim_below hs hb (fun _ => False) (fun _ h => h.elim)
  exact ⟨.ret (.v a), σ, _, L, ⟨rfl, rfl⟩, he, hs', RepC.v a⟩
end
end Go.Proofs.YtcgdlhkiecommaaGreatDoor
