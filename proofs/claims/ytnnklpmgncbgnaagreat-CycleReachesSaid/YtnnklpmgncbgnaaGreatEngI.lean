/- The engine, part 9: calls; what is lent to a call, what is handed over. -/
import Derived.Test.YtnnklpmgncbgnaaGreatEngH
set_option linter.unusedVariables false
set_option linter.unusedSimpArgs false
namespace Go.Proofs.YtnnklpmgncbgnaaGreat
open Go

section
variable {P : Program} {n : Nat} {Q : APost} {env : Env} {σ σ' : Store} {ops : Array Oper} {rest : List Oper}
variable {E : Operand → Option AVal} {d : Option Tmp} {ty : TypeId} {pos : String} {after : Array Edge} {guard : Option (Nat × Bool)}

/-- A function with a body. -/
def Into (P : Program) (g : FuncId) : Prop := ∃ fn, P.funcs[g]? = some fn ∧ (fn.name == "runtime.NumGoroutine") = false ∧ fn.body.isNone = false

theorem run_callFunc {g : FuncId} {args : Array Value} {w : World} (h : Into P g) : (callFunc g args).run P w = .ok (.enter g args) w := by
  obtain ⟨fn, h1, h2, h3⟩ := h
  unfold callFunc
  simp only [Sem.run_bind, run_program, Result.andThen_ok, h1]
  rw [h2, h3]
  simp

def calleeOf : AVal → Option (FuncId × List AVal)
  | .v (.func (.func g) fs cs) => if fs.isEmpty && cs.isEmpty then some (g, []) else none
  | .fn g caps => some (g, caps)
  | _ => none

/-- The result of a call, as the caller goes on with it. -/
def CallK (P : Program) (n : Nat) (ops : Array Oper) (rest : List Oper) (Q : APost) (env : Env) (dst : Option Tmp) : AEnd → Store → Prop
  | .ret a, σ' => AL P n ops rest Q (env.putd dst a) σ'
  | .pan a, σ' => Q (.panic a) env σ'

theorem call_run {f : Operand} {args : Array Operand} {ts : Array TypeId} {fa : AVal} {g : FuncId} {caps : List AVal} {avs : List AVal} {ok : Nat → Prop} {L : Loc} {w : World} {ρ : Operand → Value} (hin : Into P g)
    (hr : ∀ x ∈ (Op.call { callee := .value f, args := args, argTypes := ts }).operands, ∀ b, E x = some b → Rep ok L w b (ρ x)) (hf : E f = some fa) (hc : calleeOf fa = some (g, caps)) (ha : avals E args.toList = some avs) :
    ∃ vs, (execOp ρ ⟨d, .call { callee := .value f, args := args, argTypes := ts }, ty, pos, after, guard⟩).run P w = .ok (.enter g vs.toArray) w ∧ All2 (Rep ok L w) (avs ++ caps) vs := by
  have h1 := hr f (by simp [Op.operands, Call.operands]) _ hf
  have h2 := avals_rep (ρ := ρ) (ok := ok) (L := L) (w := w) args.toList avs (fun x hx b hb => hr x (by simp [Op.operands, Call.operands]; exact .inr (by simpa using hx)) b hb) ha
  cases fa with
  | v x =>
    cases x with
    | func fn fs cs =>
      cases fn with
      | func g' =>
        simp only [calleeOf] at hc
        split at hc
        · rename_i he
          cases hc
          have e := rep_bool h1
          simp only [Bool.and_eq_true, Array.isEmpty_iff] at he
          obtain ⟨rfl, rfl⟩ := he
          refine ⟨args.toList.map ρ, ?_, by simpa using h2⟩
          have e2 : args.map ρ = (args.toList.map ρ).toArray := by apply Array.ext'; simp
          simp [execOp, resolve, Deferred.ofValue, e, invoke, run_callFunc hin]
          exact e2
        · cases hc
      | _ => simp [calleeOf] at hc
    | _ => simp [calleeOf] at hc
  | fn g' cs =>
    simp only [calleeOf, Option.some.injEq, Prod.mk.injEq] at hc
    obtain ⟨rfl, rfl⟩ := hc
    obtain ⟨vs, e, h3⟩ := h1
    have h4 : All2 (Rep ok L w) cs vs := All2.mono (fun a b h => h.rep h.leaf) _ _ h3
    refine ⟨args.toList.map ρ ++ vs, ?_, All2.append h2 h4⟩
    simp [execOp, resolve, Deferred.ofValue, e, invoke, run_callFunc hin]
  | _ => simp [calleeOf] at hc

theorem call_step {f : Operand} {args : Array Operand} {ts : Array TypeId} {fa : AVal} {g : FuncId} {caps : List AVal} {avs : List AVal} {R : AEnd → Store → Prop} (hin : Into P g)
    (hf : aval env f = some fa) (hc : calleeOf fa = some (g, caps)) (ha : avals (aval env) args.toList = some avs) (h : AC P g (avs ++ caps) σ R) (hd : ∀ t, d = some t → t < n)
    (k : ∀ r σ', R r σ' → CallK P n ops rest Q env d r σ') {ok : Nat → Prop} {L : Loc} {w : World} {act : Act} (h1 : Sim ok L σ w) (h2 : RepEnv ok L w env act.tmps) (h3 : act.defers = []) (h4 : act.tmps.size = n)
    (K : Act → World → Prop) (hK : ∀ a w', wpList P ops (Post n Q ok L σ w) rest a w' → K a w') :
    Oper.wp P ⟨d, .call { callee := .value f, args := args, argTypes := ts }, ty, pos, after, guard⟩ act w K (Post n Q ok L σ w) := by
  obtain ⟨vs, hrun, hv⟩ := call_run (E := aval env) (d := d) (ty := ty) (pos := pos) (after := after) (guard := guard) (ts := ts) hin (fun x _ b hb => h2.aval (x := x) hb) hf hc ha
  unfold Oper.wp
  rw [hrun]
  refine (h ok L w vs h1 hv).mono ?_
  rintro e w' ⟨r, σ', ok', L', hR, he, hs, hx⟩
  cases r with
  | ret a =>
    cases e with
    | returned v =>
      refine hK _ _ (wpList_after (fun _ _ _ h => Post.after he h) _ _ _ (k _ _ hR ok' L' w' (act.put d v) hs ?_ ?_ ?_))
      · exact (h2.evo h1 he).put hx (fun t ht => h4 ▸ hd t ht)
      · rw [put_defers]; exact h3
      · rw [put_size]; exact h4
    | _ => exact hx.elim
  | pan a =>
    cases e with
    | panicked chain => exact ⟨.panic a, env, σ', ok', L', k _ _ hR, he, hs, h2.evo h1 he, h3, h4, hx⟩
    | _ => exact hx.elim

/-- A call. -/
theorem al_call {f : Operand} {args : Array Operand} {ts : Array TypeId} {fa : AVal} {g : FuncId} {caps : List AVal} {avs : List AVal} {R : AEnd → Store → Prop} (hin : Into P g)
    (hf : aval env f = some fa) (hc : calleeOf fa = some (g, caps)) (ha : avals (aval env) args.toList = some avs) (h : AC P g (avs ++ caps) σ R) (hd : ∀ t, d = some t → t < n)
    (k : ∀ r σ', R r σ' → CallK P n ops rest Q env d r σ') : AL P n ops (⟨d, .call { callee := .value f, args := args, argTypes := ts }, ty, pos, after, none⟩ :: rest) Q env σ :=
  fun ok L w act h1 h2 h3 h4 => wpList_plain rfl fun K hK => call_step hin hf hc ha h hd k h1 h2 h3 h4 K hK

/-- A guarded call that is carried out. -/
theorem al_call_take {f : Operand} {args : Array Operand} {ts : Array TypeId} {fa : AVal} {g : FuncId} {caps : List AVal} {avs : List AVal} {R : AEnd → Store → Prop} {j t : Nat} {og : Oper} {b : Bool} (hin : Into P g)
    (hog : ops[j]? = some og) (hdst : og.dst = some t) (hb : env.get t = some (.v (.bool b)))
    (hf : aval env f = some fa) (hc : calleeOf fa = some (g, caps)) (ha : avals (aval env) args.toList = some avs) (h : AC P g (avs ++ caps) σ R) (hd : ∀ t, d = some t → t < n)
    (k : ∀ r σ', R r σ' → CallK P n ops rest Q env d r σ') : AL P n ops (⟨d, .call { callee := .value f, args := args, argTypes := ts }, ty, pos, after, some (j, b)⟩ :: rest) Q env σ :=
  fun ok L w act h1 h2 h3 h4 => wpList_step fun K hK => by
    rw [if_pos (by simp [Region.wanted, yielded_of h2 hog hdst hb])]
    exact call_step hin hf hc ha h hd k h1 h2 h3 h4 K hK

/-! ### Contracts under more memory -/
def AVal.cloA : AVal → Bool
  | .agg cs => cs.all AVal.clo1
  | .fn _ cs => cs.all AVal.clo1
  | a => a.clo1
/-- No object is named. -/
def AVal.clo : AVal → Bool
  | .tuple cs => cs.all AVal.cloA
  | a => a.cloA
def AEnd.clo : AEnd → Bool
  | .ret a => a.clo
  | .pan a => a.clo

theorem RepL.loc {ok : Nat → Prop} {L L' : Loc} {w : World} {a : AVal} {v : Value} (h : RepL ok L w a v) (hc : a.clo1 = true) : RepL ok L' w a v := (h.repC hc).repL
theorem All2.mem {α β : Type} {R S : α → β → Prop} : ∀ (as : List α) (bs : List β), All2 R as bs → (∀ a ∈ as, ∀ b, R a b → S a b) → All2 S as bs
  | [], [], _, _ => trivial
  | a :: as, b :: bs, ⟨h1, h2⟩, h => ⟨h a (by simp) b h1, All2.mem as bs h2 (fun x hx => h x (by simp [hx]))⟩
  | [], _ :: _, h, _ => h.elim
  | _ :: _, [], h, _ => h.elim
theorem RepA.loc {ok : Nat → Prop} {L L' : Loc} {w : World} {a : AVal} {v : Value} (h : RepA ok L w a v) (hc : a.cloA = true) : RepA ok L' w a v := by
  cases a with
  | agg cs => obtain ⟨vs, e, h2⟩ := h; exact ⟨vs, e, All2.mem _ _ h2 fun a ha b hb => hb.loc (List.all_eq_true.1 hc a ha)⟩
  | fn f cs => obtain ⟨vs, e, h2⟩ := h; exact ⟨vs, e, All2.mem _ _ h2 fun a ha b hb => hb.loc (List.all_eq_true.1 hc a ha)⟩
  | v _ => simp only [RepA] at h ⊢; exact RepL.loc h hc
  | nil => simp only [RepA] at h ⊢; exact RepL.loc h hc
  | list _ _ => simp only [RepA] at h ⊢; exact RepL.loc h hc
  | rptr _ => simp only [RepA] at h ⊢; exact RepL.loc h hc
  | slice _ _ _ _ => cases hc
  | ptr _ _ _ _ => cases hc
  | map _ _ => cases hc
  | tuple _ => cases hc
theorem Rep.loc {ok : Nat → Prop} {L L' : Loc} {w : World} {a : AVal} {v : Value} (h : Rep ok L w a v) (hc : a.clo = true) : Rep ok L' w a v := by
  cases a with
  | tuple cs => obtain ⟨vs, e, h2⟩ := h; exact ⟨vs, e, All2.mem _ _ h2 fun a ha b hb => hb.loc (List.all_eq_true.1 hc a ha)⟩
  | v _ => simp only [Rep] at h ⊢; exact RepA.loc h hc
  | nil => simp only [Rep] at h ⊢; exact RepA.loc h hc
  | list _ _ => simp only [Rep] at h ⊢; exact RepA.loc h hc
  | rptr _ => simp only [Rep] at h ⊢; exact RepA.loc h hc
  | slice _ _ _ _ => simp only [Rep] at h ⊢; exact RepA.loc h hc
  | ptr _ _ _ _ => simp only [Rep] at h ⊢; exact RepA.loc h hc
  | map _ _ => simp only [Rep] at h ⊢; exact RepA.loc h hc
  | agg _ => simp only [Rep] at h ⊢; exact RepA.loc h hc
  | fn _ _ => simp only [Rep] at h ⊢; exact RepA.loc h hc
theorem EndRep.loc {ok : Nat → Prop} {L L' : Loc} {w : World} {r : AEnd} {e : Ending} (h : EndRep ok L w r e) (hc : r.clo = true) : EndRep ok L' w r e := by
  cases r <;> cases e <;> simp only [EndRep] at h ⊢
  · exact h.loc hc
  · obtain ⟨v, h1, h2⟩ := h; exact ⟨v, h1, h2.loc hc⟩

/-- What may be read loses nothing when less may be read of what is not met. -/
theorem RepC.okmono {ok ok' : Nat → Prop} {w : World} {a : AVal} {v : Value} (h : RepC ok w a v) (hok : ∀ b, ok b → ok' b) : RepC ok' w a v := h.mono hok (fun _ _ => rfl)
theorem RepL.okmono {ok ok' : Nat → Prop} {L : Loc} {w : World} {a : AVal} {v : Value} (h : RepL ok L w a v) (hok : ∀ b, ok b → ok' b) : RepL ok' L w a v := by
  cases a with
  | slice _ _ _ _ => exact h
  | ptr _ _ _ _ => exact h
  | map _ _ => exact h
  | _ => exact RepC.okmono h hok

theorem RepA.okmono {ok ok' : Nat → Prop} {L : Loc} {w : World} {a : AVal} {v : Value} (h : RepA ok L w a v) (hok : ∀ b, ok b → ok' b) : RepA ok' L w a v := by
  cases a with
  | agg cs => obtain ⟨vs, e, h2⟩ := h; exact ⟨vs, e, All2.mono (fun _ _ h => h.okmono hok) _ _ h2⟩
  | fn f cs => obtain ⟨vs, e, h2⟩ := h; exact ⟨vs, e, All2.mono (fun _ _ h => h.okmono hok) _ _ h2⟩
  | _ => simp only [RepA] at h ⊢; exact h.okmono hok
theorem Rep.okmono {ok ok' : Nat → Prop} {L : Loc} {w : World} {a : AVal} {v : Value} (h : Rep ok L w a v) (hok : ∀ b, ok b → ok' b) : Rep ok' L w a v := by
  cases a with
  | tuple cs => obtain ⟨vs, e, h2⟩ := h; exact ⟨vs, e, All2.mono (fun _ _ h => h.okmono hok) _ _ h2⟩
  | _ => simp only [Rep] at h ⊢; exact h.okmono hok
theorem EndRep.okmono {ok ok' : Nat → Prop} {L : Loc} {w : World} {r : AEnd} {e : Ending} (h : EndRep ok L w r e) (hok : ∀ b, ok b → ok' b) : EndRep ok' L w r e := by
  cases r <;> cases e <;> simp only [EndRep] at h ⊢
  · exact h.okmono hok
  · obtain ⟨v, e1, e2⟩ := h; exact ⟨v, e1, e2.okmono hok⟩
theorem foot_empty {L : Loc} {b : Nat} : ¬ Foot L [] b := by
  rintro ⟨i, v, o, h, _⟩
  cases h
theorem sim_empty {ok : Nat → Prop} {L : Loc} {w : World} (h : ∀ b, ok b → b < w.heap.size) (hg : GlobOK ok w) : Sim ok L [] w := by
  constructor
  · intro i v o h; cases h
  · intro b hb; exact (foot_empty hb).elim
  · intro i j vi vj oi oj hi; cases hi
  · intro b hb; exact ⟨h b hb, foot_empty⟩
  · exact hg

/-- A call that is handed nothing that may be written leaves what its caller holds. -/
theorem back_pure {ok ok' : Nat → Prop} {L L' : Loc} {w w' : World} (hs : Sim ok L σ w) (okc : Nat → Prop) (hokc : ∀ b, okc b → ok b ∨ Foot L σ b) (hsub : ∀ b, ok b → okc b) (he : Evo okc L [] w ok' L' [] w') (hs' : Sim ok' L' [] w') :
    Evo ok L σ w (fun b => ok' b ∧ ¬ Foot L σ b) L σ w' ∧ Sim (fun b => ok' b ∧ ¬ Foot L σ b) L σ w' := by
  have hsame : ∀ b, b < w.heap.size → w'.heap[b]? = w.heap[b]? := fun b hb => he.same b hb foot_empty
  have hev : Evo ok L σ w (fun b => ok' b ∧ ¬ Foot L σ b) L σ w' := by
    refine ⟨he.os, he.tape, he.output, he.size, fun b hb _ => hsame b hb, fun _ _ h => h, fun b hb => ⟨he.okm b (hsub b hb), (hs.okd b hb).2⟩, fun b hb hlt => ?_, fun _ => Nat.le_refl _, fun _ _ => ⟨rfl, rfl, rfl⟩⟩
    rcases he.okn b hb.1 hlt with h | h
    · exact hokc b h
    · exact (foot_empty h).elim
  refine ⟨hev, ⟨fun i v o h => (hs.objs i v o h).evo hs hev rfl (fun hc => hsame _ (hs.lt _ ⟨i, v, o, h, hc, rfl⟩)), fun b hb => Nat.lt_of_lt_of_le (hs.lt b hb) he.size, hs.inj, fun b hb => ⟨(hs'.okd b hb.1).1, hb.2⟩, hs.globEvo hev⟩⟩

theorem ac_pure {g : FuncId} {avs : List AVal} {R : AEnd → Store → Prop} (h : AC P g avs [] R) (hR : ∀ r σ', R r σ' → σ' = [] ∧ r.clo = true) (σ : Store) : AC P g avs σ (fun r σ' => R r [] ∧ σ' = σ) := by
  intro ok L w vs hs hv
  refine (h ok L w vs (sim_empty (fun b hb => (hs.okd b hb).1) hs.glob) hv).mono ?_
  rintro e w' ⟨r, σ1, ok', L', h1, he, hs', hx⟩
  obtain ⟨rfl, hc⟩ := hR _ _ h1
  obtain ⟨he2, hs2⟩ := back_pure hs ok (fun b hb => .inl hb) (fun b hb => hb) he hs'
  refine ⟨r, σ, _, L, ⟨h1, rfl⟩, he2, hs2, ?_⟩
  -- what comes back may be read: nothing of it lies in what is held
  have hok : ∀ b, ok' b → ok' b ∧ ¬ Foot L σ b := fun b hb => ⟨hb, fun hf => by
    rcases he.okn b hb (hs.lt b hf) with h | h
    · exact (hs.okd b h).2 hf
    · exact foot_empty h⟩
  exact (hx.loc (L' := L) hc).okmono hok

/-! ### What is lent: it may be read by the callee, and stays the caller's -/
inductive LendL (σ : Store) : AVal → AVal → Prop
  | same (a : AVal) : LendL σ a a
  | nil (sz : Nat) : LendL σ .nil (.list sz [])
  | vnil (sz : Nat) : LendL σ (.v (.slice none 0 0)) (.list sz [])
  | slice (id ver off m sz : Nat) (els : List (List AVal)) : σ.get id = some (ver, .row sz els) → off + m ≤ els.length → (∀ el ∈ els, el.all AVal.clo1 = true) → LendL σ (.slice id ver off m) (.list sz ((els.drop off).take m))

/-- .. a pointer too -/
inductive LendA (σ : Store) : AVal → AVal → Prop
  | leaf (a b : AVal) : LendL σ a b → LendA σ a b
  | agg (as bs : List AVal) : All2 (LendL σ) as bs → LendA σ (.agg as) (.agg bs)
  | ptr (id ver i j sz : Nat) (els : List (List AVal)) (el bs : List AVal) : σ.get id = some (ver, .row sz els) → els[i]? = some el → All2 (LendL σ) (el.drop j) bs → bs.all AVal.clo1 = true → LendA σ (.ptr id ver i j) (.rptr bs)

theorem LendL.rep {ok : Nat → Prop} {L : Loc} {w : World} (hs : Sim ok L σ w) {a b : AVal} {v : Value} (hl : LendL σ a b) (h : RepL ok L w a v) : RepL (fun x => ok x ∨ Foot L σ x) L w b v := by
  cases hl with
  | same => exact h.okmono (fun _ h => .inl h)
  | nil sz =>
    have h' : RepC ok w .nil v := h
    cases h'
    exact RepC.empty _ _ _
  | vnil sz =>
    have h' : RepC ok w (.v (.slice none 0 0)) v := h
    cases h'
    exact RepC.empty _ _ _
  | slice id ver off m sz els hid hm hc =>
    obtain ⟨ad, c, rfl, hle, _, ha⟩ := h.2 (hs.ver hid)
    have hlen : ((els.drop off).take m).length = m := by simp; omega
    rcases Nat.eq_zero_or_pos m with rfl | hpos
    · have e : (els.drop off).take 0 = [] := by simp
      rw [e]
      exact RepC.empty _ _ _
    · have := ha (.inl hpos)
      subst this
      obtain ⟨o1, o2, o3, o4, o5⟩ := hs.objs id ver _ hid
      have hcap : L.cap id ≠ 0 := by omega
      obtain ⟨conc, et, g1, g2, g3⟩ := o5 hcap
      have hg : ∀ i e, ((els.drop off).take m)[i]? = some e → els[off + i]? = some e := by
        intro i e hi
        rw [List.getElem?_take] at hi
        split at hi
        · rwa [List.getElem?_drop] at hi
        · cases hi
      have res := RepC.list (ok := fun x => ok x ∨ Foot L σ x) (w := w) sz ((els.drop off).take m) (L.blk id) (off * L.sz id) c (fun i j => (conc[(off + i) * sz + j]?).getD undef) (.inr ⟨id, ver, _, hid, hcap, rfl⟩) (by rw [hlen]; exact hle)
        (fun e he => o3 e (List.mem_of_mem_drop (List.mem_of_mem_take he))) (fun i e j av hi hj => by
          obtain ⟨u, u1, u2, u3⟩ := g3 _ _ _ _ (hg i e hi) hj
          rw [u1]
          simp only [World.cell?, g1, o2]
          rw [show off * sz + i * sz + j = (off + i) * sz + j from by rw [Nat.add_mul], u1]
          rfl) (fun i e j av hi hj => by
          obtain ⟨u, u1, u2, u3⟩ := g3 _ _ _ _ (hg i e hi) hj
          rw [u1]; exact u3) (fun i e j av hi hj => by
          obtain ⟨u, u1, u2, u3⟩ := g3 _ _ _ _ (hg i e hi) hj
          rw [u1]
          have hm := List.mem_of_getElem? (hg i e hi)
          exact (u2.repC (List.all_eq_true.1 (hc e hm) av (List.mem_of_getElem? hj))).okmono (fun _ h => .inl h))
      rw [hlen] at res
      exact res

theorem All2.two {α β γ : Type} {R : α → β → Prop} {S : α → γ → Prop} {T : β → γ → Prop} (h : ∀ a b c, R a b → S a c → T b c) : ∀ (as : List α) (bs : List β) (cs : List γ), All2 R as bs → All2 S as cs → All2 T bs cs
  | [], [], [], _, _ => trivial
  | _ :: as, _ :: bs, _ :: cs, ⟨h1, h2⟩, ⟨h3, h4⟩ => ⟨h _ _ _ h1 h3, All2.two h as bs cs h2 h4⟩
  | [], _ :: _, _, h, _ => h.elim
  | [], [], _ :: _, _, h => h.elim
  | _ :: _, [], _, h, _ => h.elim
  | _ :: _, _ :: _, [], _, h => h.elim

theorem LendA.rep {ok : Nat → Prop} {L : Loc} {w : World} (hs : Sim ok L σ w) {a b : AVal} {v : Value} (hl : LendA σ a b) (h : Rep ok L w a v) : Rep (fun x => ok x ∨ Foot L σ x) L w b v := by
  cases hl with
  | leaf a b hl =>
    cases hl with
    | same => exact h.okmono (fun _ h => .inl h)
    | nil sz => exact LendL.rep hs (.nil sz) h
    | vnil sz => exact LendL.rep hs (.vnil sz) h
    | slice id ver off m sz els hid hm hc => exact LendL.rep hs (.slice id ver off m sz els hid hm hc) h
  | agg as bs hl =>
    obtain ⟨vs, e, h2⟩ := h
    exact ⟨vs, e, All2.two (fun a b c h1 h3 => h1.rep hs h3) _ _ _ hl h2⟩
  | ptr id ver i j sz els el bs hid hel hl hc =>
    have e := h.2 (hs.ver hid)
    subst e
    obtain ⟨e1, e2, e3, e4, conc, et, g1, g2, g3⟩ := hs.row hid hel
    have key : ∀ k av, bs[k]? = some av → ∃ u, conc[i * sz + (j + k)]? = some u ∧ RepC (fun x => ok x ∨ Foot L σ x) w av u := by
      intro k av hk
      have hlen := All2.length _ _ hl
      have hkl : k < (el.drop j).length := by
        rw [hlen]
        rcases Nat.lt_or_ge k bs.length with h | h
        · exact h
        · simp [List.getElem?_eq_none h] at hk
      obtain ⟨av', h1, h2⟩ := All2.get _ _ hl k _ (List.getElem?_eq_getElem hkl)
      rw [hk] at h1
      cases h1
      have hx := List.getElem?_eq_getElem hkl
      rw [List.getElem?_drop] at hx
      obtain ⟨u, u1, u2, _⟩ := g3 i el _ _ hel hx
      exact ⟨u, u1, (h2.rep hs u2).repC (List.all_eq_true.1 hc _ (List.mem_of_getElem? hk))⟩
    refine RepC.rptr bs (L.blk id) _ (fun k => (conc[i * sz + (j + k)]?).getD undef) (.inr ⟨id, ver, _, hid, e3, rfl⟩) (fun k av hk => ?_) (fun k av hk => ?_)
    · obtain ⟨u, u1, _⟩ := key k av hk
      simp only [World.cell?, g1, e1, u1]
      simp [Nat.add_assoc, u1]
    · obtain ⟨u, u1, u2⟩ := key k av hk
      rw [u1]; exact u2

/-- A plain value: no memory is told. -/
def AVal.sca : AVal → Bool
  | .v _ => true
  | _ => false
def AVal.scaA : AVal → Bool
  | .agg cs => cs.all AVal.sca
  | a => a.sca
def AVal.scal : AVal → Bool
  | .tuple cs => cs.all AVal.scaA
  | a => a.scaA
def AEnd.scal : AEnd → Bool
  | .ret a => a.scal
  | .pan a => a.scal
theorem Rep.scal {ok ok' : Nat → Prop} {L L' : Loc} {w w' : World} {a : AVal} {v : Value} (h : Rep ok L w a v) (hc : a.scal = true) : Rep ok' L' w' a v := by
  have k1 : ∀ {a v}, RepL ok L w a v → a.sca = true → RepL ok' L' w' a v := by
    intro a v h hc
    cases a <;> first | (cases hc; done) | skip
    rw [rep_bool (ok := ok) (L := L) (w := w) h]; exact RepC.v _
  have k2 : ∀ {a v}, RepA ok L w a v → a.scaA = true → RepA ok' L' w' a v := by
    intro a v h hc
    cases a with
    | agg cs => obtain ⟨vs, e, h2⟩ := h; exact ⟨vs, e, All2.mem _ _ h2 fun a ha b hb => k1 hb (List.all_eq_true.1 hc a ha)⟩
    | v x => exact k1 (a := .v x) h hc
    | _ => cases hc
  cases a with
  | tuple cs => obtain ⟨vs, e, h2⟩ := h; exact ⟨vs, e, All2.mem _ _ h2 fun a ha b hb => k2 hb (List.all_eq_true.1 hc a ha)⟩
  | agg cs => exact k2 (a := .agg cs) h hc
  | v x => exact k2 (a := .v x) h hc
  | _ => cases hc

/-- What a row lists, told by its content. -/
theorem row_rep {ok okc : Nat → Prop} {L : Loc} {w : World} {id ver off m sz : Nat} {els : List (List AVal)} {v : Value} (ho : ObjRep ok L w id ver (.row sz els)) (hr : RepL ok L w (.slice id ver off m) v) (hm : off + m ≤ els.length)
    (hblk : L.cap id ≠ 0 → okc (L.blk id)) (hcells : ∀ el ∈ els, ∀ av ∈ el, ∀ u, RepL ok L w av u → RepC okc w av u) : RepC okc w (.list sz ((els.drop off).take m)) v := by
  obtain ⟨o1, o2, o3, o4, o5⟩ := ho
  obtain ⟨ad, c, rfl, hle, _, ha⟩ := hr.2 o1
  have hlen : ((els.drop off).take m).length = m := by simp; omega
  rcases Nat.eq_zero_or_pos m with rfl | hpos
  · have e : (els.drop off).take 0 = [] := by simp
    rw [e]
    exact RepC.empty _ _ _
  · have := ha (.inl hpos)
    subst this
    have hcap : L.cap id ≠ 0 := by omega
    obtain ⟨conc, et, g1, g2, g3⟩ := o5 hcap
    have hg : ∀ i e, ((els.drop off).take m)[i]? = some e → els[off + i]? = some e := by
      intro i e hi
      rw [List.getElem?_take] at hi
      split at hi
      · rwa [List.getElem?_drop] at hi
      · cases hi
    have res := RepC.list (ok := okc) (w := w) sz ((els.drop off).take m) (L.blk id) (off * L.sz id) c (fun i j => (conc[(off + i) * sz + j]?).getD undef) (hblk hcap) (by rw [hlen]; exact hle)
      (fun e he => o3 e (List.mem_of_mem_drop (List.mem_of_mem_take he))) (fun i e j av hi hj => by
        obtain ⟨u, u1, u2, u3⟩ := g3 _ _ _ _ (hg i e hi) hj
        rw [u1]
        simp only [World.cell?, g1, o2]
        rw [show off * sz + i * sz + j = (off + i) * sz + j from by rw [Nat.add_mul], u1]
        rfl) (fun i e j av hi hj => by
        obtain ⟨u, u1, u2, u3⟩ := g3 _ _ _ _ (hg i e hi) hj
        rw [u1]; exact u3) (fun i e j av hi hj => by
        obtain ⟨u, u1, u2, u3⟩ := g3 _ _ _ _ (hg i e hi) hj
        rw [u1]
        exact hcells e (List.mem_of_getElem? (hg i e hi)) av (List.mem_of_getElem? hj) u u2)
    rw [hlen] at res
    exact res
theorem row_scal {ok : Nat → Prop} {L : Loc} {σ : Store} {w : World} {id ver sz : Nat} {els : List (List AVal)} {v : Value} (hs : Sim ok L σ w) (hid : σ.get id = some (ver, .row sz els)) (hsca : ∀ el ∈ els, el.all AVal.sca = true) (hr : RepL ok L w (.slice id ver 0 els.length) v) : RepC (Foot L σ) w (.list sz els) v := by
  have := row_rep (okc := Foot L σ) (hs.objs _ _ _ hid) hr (by omega) (fun hc => ⟨id, ver, _, hid, hc, rfl⟩) (fun el hel av hav u hu => by
    have h1 := List.all_eq_true.1 (hsca el hel) av hav
    cases av with
    | v x => have h5 : RepC ok w (.v x) u := hu; cases h5; exact RepC.v _
    | _ => simp [AVal.sca] at h1)
  rwa [List.drop_zero, List.take_length] at this

theorem ac_lend {g : FuncId} {avs bvs : List AVal} {R : AEnd → Store → Prop} (h : AC P g bvs [] R) (hR : ∀ r σ', R r σ' → σ' = [] ∧ r.scal = true) (hl : All2 (LendA σ) avs bvs) : AC P g avs σ (fun r σ' => R r [] ∧ σ' = σ) := by
  intro ok L w vs hs hv
  have hv' : All2 (Rep (fun x => ok x ∨ Foot L σ x) L w) bvs vs := All2.two (fun a b c h1 h3 => h1.rep hs h3) _ _ _ hl hv
  refine (h _ L w vs (sim_empty (fun b hb => hb.elim (fun h => (hs.okd b h).1) (fun h => hs.lt b h)) (hs.glob.mono (fun b hb => .inl hb) (fun _ _ => rfl))) hv').mono ?_
  rintro e w' ⟨r, σ1, ok', L', h1, he, hs', hx⟩
  obtain ⟨rfl, hc⟩ := hR _ _ h1
  obtain ⟨he2, hs2⟩ := back_pure hs _ (fun b hb => hb) (fun b hb => .inl hb) he hs'
  refine ⟨r, σ, _, L, ⟨h1, rfl⟩, he2, hs2, ?_⟩
  cases r <;> cases e <;> simp only [EndRep] at hx ⊢
  · exact hx.scal hc
  · obtain ⟨v, e1, e2⟩ := hx; exact ⟨v, e1, e2.scal hc⟩
end
end Go.Proofs.YtnnklpmgncbgnaaGreat
