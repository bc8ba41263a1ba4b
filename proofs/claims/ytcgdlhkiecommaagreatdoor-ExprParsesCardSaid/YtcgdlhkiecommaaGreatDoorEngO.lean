import Derived.Test.YtcgdlhkiecommaaGreatDoorEngH
import Derived.ChangeKeysEq
import Derived.ProofKit
import Derived.OpenShut
import Derived.ShutString
import Derived.ChangeOld
import Derived.SizedLaws
import Derived.Below
import Derived.Carry
import Derived.Laws.Cover3
import Derived.Laws.Pointers
import Derived.Laws.StructEq
import Derived.Laws.IdiomStrings
/- The engine, part 9: calls; what is lent to a call, what is handed over. -/

set_option linter.unusedVariables false
set_option linter.unusedSimpArgs false
namespace Go.Proofs.YtcgdlhkiecommaaGreatDoor
open Go
section
variable {P : Program} {n : Nat} {Q : APost} {env : Env} {σ σ' : Store} {ops : Array Oper} {rest : List Oper}
variable {E : Operand → Option AVal} {d : Option Tmp} {ty : TypeId} {pos : String} {after : Array Edge} {guard : Option (Nat × Bool)}
def Into (P : Program) (g : FuncId) : Prop := ∃ fn, P.funcs[g]? = some fn ∧ (fn.name == "runtime.NumGoroutine") = false ∧ fn.body.isNone = false
theorem run_callFunc {g : FuncId} {args : Array Value} {w : World} (h : Into P g) : (callFunc g args).run P w = .ok (.enter g args) w := by
  obtain ⟨fn, h1, h2, h3⟩ := h
  unfold callFunc
  simp only [Sem.run_bind, run_program, Result.andThen_ok, h1]
  rw [h2, h3]
  simp
def calleeOf : AVal → Option (FuncId × List AVal)
  | .v (.func (.func g) fs cs) => if fs.isEmpty && cs.isEmpty then some (g, []) else none
  | .fn g caps => some (g, caps)
  | _ => none
def CallK (P : Program) (n : Nat) (ops : Array Oper) (rest : List Oper) (Q : APost) (env : Env) (dst : Option Tmp) : AEnd → Store → Prop
  | .ret a, σ' => AL P n ops rest Q (env.putd dst a) σ'
  | .pan a, σ' => Q (.panic a) env σ'
theorem call_run {f : Operand} {args : Array Operand} {ts : Array TypeId} {fa : AVal} {g : FuncId} {caps : List AVal} {avs : List AVal} {ok : Nat → Prop} {L : Loc} {w : World} {ρ : Operand → Value} (hin : Into P g)
    (hr : ∀ x ∈ (Op.call { callee := .value f, args := args, argTypes := ts }).operands, ∀ b, E x = some b → Rep ok L w b (ρ x)) (hf : E f = some fa) (hc : calleeOf fa = some (g, caps)) (ha : avals E args.toList = some avs) :
    ∃ vs, (execOp ρ ⟨d, .call { callee := .value f, args := args, argTypes := ts }, ty, pos, after, guard⟩).run P w = .ok (.enter g vs.toArray) w ∧ All2 (Rep ok L w) (avs ++ caps) vs := by
  have h1 := hr f (by simp [Op.operands, Call.operands]) _ hf
  have h2 := avals_rep (ρ := ρ) (ok := ok) (L := L) (w := w) args.toList avs (fun x hx b hb => hr x (by simp [Op.operands, Call.operands]; exact .inr (by simpa using hx)) b hb) ha
  cases fa with
  | v x =>
    cases x with
    | func fn fs cs =>
      cases fn with
      | func g' =>
        simp only [calleeOf] at hc
        split at hc
        · rename_i he
          cases hc
          have e := rep_bool h1
          simp only [Bool.and_eq_true, Array.isEmpty_iff] at he
          obtain ⟨rfl, rfl⟩ := he
          refine ⟨args.toList.map ρ, ?_, by simpa using h2⟩
          have e2 : args.map ρ = (args.toList.map ρ).toArray := by apply Array.ext'; simp
          simp [execOp, resolve, Deferred.ofValue, e, invoke, run_callFunc hin]
          exact e2
        · cases hc
      | _ => simp [calleeOf] at hc
    | _ => simp [calleeOf] at hc
  | fn g' cs =>
    simp only [calleeOf, Option.some.injEq, Prod.mk.injEq] at hc
    obtain ⟨rfl, rfl⟩ := hc
    obtain ⟨vs, e, h3⟩ := h1
    have h4 : All2 (Rep ok L w) cs vs := All2.mono (fun a b h => h.rep h.leaf) _ _ h3
    refine ⟨args.toList.map ρ ++ vs, ?_, All2.append h2 h4⟩
    simp [execOp, resolve, Deferred.ofValue, e, invoke, run_callFunc hin]
  | _ => simp [calleeOf] at hc
theorem call_step {f : Operand} {args : Array Operand} {ts : Array TypeId} {fa : AVal} {g : FuncId} {caps : List AVal} {avs : List AVal} {R : AEnd → Store → Prop} (hin : Into P g)
    (hf : aval env f = some fa) (hc : calleeOf fa = some (g, caps)) (ha : avals (aval env) args.toList = some avs) (h : AC P g (avs ++ caps) σ R) (hd : ∀ t, d = some t → t < n)
    (k : ∀ r σ', R r σ' → CallK P n ops rest Q env d r σ') {ok : Nat → Prop} {L : Loc} {w : World} {act : Act} (h1 : Sim ok L σ w) (h2 : RepEnv ok L w env act.tmps) (h3 : act.defers = []) (h4 : act.tmps.size = n)
    (K : Act → World → Prop) (hK : ∀ a w', wpList P ops (Post n Q ok L σ w) rest a w' → K a w') :
    Oper.wp P ⟨d, .call { callee := .value f, args := args, argTypes := ts }, ty, pos, after, guard⟩ act w K (Post n Q ok L σ w) := by
  obtain ⟨vs, hrun, hv⟩ := call_run (E := aval env) (d := d) (ty := ty) (pos := pos) (after := after) (guard := guard) (ts := ts) hin (fun x _ b hb => h2.aval (x := x) hb) hf hc ha
  unfold Oper.wp
  rw [hrun]
  refine (h ok L w vs h1 hv).mono ?_
  rintro e w' ⟨r, σ', ok', L', hR, he, hs, hx⟩
  cases r with
  | ret a =>
    cases e with
    | returned v =>
      refine hK _ _ (wpList_after (fun _ _ _ h => Post.after he h) _ _ _ (k _ _ hR ok' L' w' (act.put d v) hs ?_ ?_ ?_))
      · exact (h2.evo h1 he).put hx (fun t ht => h4 ▸ hd t ht)
      · rw [put_defers]; exact h3
      · rw [put_size]; exact h4
    | _ => exact hx.elim
  | pan a =>
    cases e with
    | panicked chain => exact ⟨.panic a, env, σ', ok', L', k _ _ hR, he, hs, h2.evo h1 he, h3, h4, hx⟩
    | _ => exact hx.elim
theorem al_call {f : Operand} {args : Array Operand} {ts : Array TypeId} {fa : AVal} {g : FuncId} {caps : List AVal} {avs : List AVal} {R : AEnd → Store → Prop} (hin : Into P g)
    (hf : aval env f = some fa) (hc : calleeOf fa = some (g, caps)) (ha : avals (aval env) args.toList = some avs) (h : AC P g (avs ++ caps) σ R) (hd : ∀ t, d = some t → t < n)
    (k : ∀ r σ', R r σ' → CallK P n ops rest Q env d r σ') : AL P n ops (⟨d, .call { callee := .value f, args := args, argTypes := ts }, ty, pos, after, none⟩ :: rest) Q env σ :=
  fun ok L w act h1 h2 h3 h4 => wpList_plain rfl fun K hK => call_step hin hf hc ha h hd k h1 h2 h3 h4 K hK
theorem al_call_take {f : Operand} {args : Array Operand} {ts : Array TypeId} {fa : AVal} {g : FuncId} {caps : List AVal} {avs : List AVal} {R : AEnd → Store → Prop} {j t : Nat} {og : Oper} {b : Bool} (hin : Into P g)
    (hog : ops[j]? = some og) (hdst : og.dst = some t) (hb : env.get t = some (.v (.bool b)))
    (hf : aval env f = some fa) (hc : calleeOf fa = some (g, caps)) (ha : avals (aval env) args.toList = some avs) (h : AC P g (avs ++ caps) σ R) (hd : ∀ t, d = some t → t < n)
    (k : ∀ r σ', R r σ' → CallK P n ops rest Q env d r σ') : AL P n ops (⟨d, .call { callee := .value f, args := args, argTypes := ts }, ty, pos, after, some (j, b)⟩ :: rest) Q env σ :=
  fun ok L w act h1 h2 h3 h4 => wpList_step fun K hK => by
    rw [if_pos (by simp [Region.wanted, yielded_of h2 hog hdst hb])]
    exact call_step hin hf hc ha h hd k h1 h2 h3 h4 K hK
def AVal.cloA : AVal → Bool
  | .agg cs => cs.all AVal.clo1
  | .fn _ cs => cs.all AVal.clo1
  | a => a.clo1
def AVal.clo : AVal → Bool
  | .tuple cs => cs.all AVal.cloA
  | a => a.cloA
def AEnd.clo : AEnd → Bool
  | .ret a => a.clo
  | .pan a => a.clo
theorem RepL.loc {ok : Nat → Prop} {L L' : Loc} {w : World} {a : AVal} {v : Value} (h : RepL ok L w a v) (hc : a.clo1 = true) : RepL ok L' w a v := (h.repC hc).repL
theorem All2.mem {α β : Type} {R S : α → β → Prop} : ∀ (as : List α) (bs : List β), All2 R as bs → (∀ a ∈ as, ∀ b, R a b → S a b) → All2 S as bs
  | [], [], _, _ => trivial
  | a :: as, b :: bs, ⟨h1, h2⟩, h => ⟨h a (by simp) b h1, All2.mem as bs h2 (fun x hx => h x (by simp [hx]))⟩
  | [], _ :: _, h, _ => h.elim
  | _ :: _, [], h, _ => h.elim
theorem RepA.loc {ok : Nat → Prop} {L L' : Loc} {w : World} {a : AVal} {v : Value} (h : RepA ok L w a v) (hc : a.cloA = true) : RepA ok L' w a v := by
  cases a with
  | agg cs => obtain ⟨vs, e, h2⟩ := h; exact ⟨vs, e, All2.mem _ _ h2 fun a ha b hb => hb.loc (List.all_eq_true.1 hc a ha)⟩
  | fn f cs => obtain ⟨vs, e, h2⟩ := h; exact ⟨vs, e, All2.mem _ _ h2 fun a ha b hb => hb.loc (List.all_eq_true.1 hc a ha)⟩
  | v _ => simp only [RepA] at h ⊢; exact RepL.loc h hc
  | nil => simp only [RepA] at h ⊢; exact RepL.loc h hc
  | list _ _ => simp only [RepA] at h ⊢; exact RepL.loc h hc
  | rptr _ => simp only [RepA] at h ⊢; exact RepL.loc h hc
  | slice _ _ _ _ => cases hc
  | ptr _ _ _ _ => cases hc
  | map _ _ => cases hc
  | tuple _ => cases hc
theorem Rep.loc {ok : Nat → Prop} {L L' : Loc} {w : World} {a : AVal} {v : Value} (h : Rep ok L w a v) (hc : a.clo = true) : Rep ok L' w a v := by
  cases a with
  | tuple cs => obtain ⟨vs, e, h2⟩ := h; exact ⟨vs, e, All2.mem _ _ h2 fun a ha b hb => hb.loc (List.all_eq_true.1 hc a ha)⟩
  | v _ => simp only [Rep] at h ⊢; exact RepA.loc h hc
  | nil => simp only [Rep] at h ⊢; exact RepA.loc h hc
  | list _ _ => simp only [Rep] at h ⊢; exact RepA.loc h hc
  | rptr _ => simp only [Rep] at h ⊢; exact RepA.loc h hc
  | slice _ _ _ _ => simp only [Rep] at h ⊢; exact RepA.loc h hc
  | ptr _ _ _ _ => simp only [Rep] at h ⊢; exact RepA.loc h hc
  | map _ _ => simp only [Rep] at h ⊢; exact RepA.loc h hc
  | agg _ => simp only [Rep] at h ⊢; exact RepA.loc h hc
  | fn _ _ => simp only [Rep] at h ⊢; exact RepA.loc h hc
theorem EndRep.loc {ok : Nat → Prop} {L L' : Loc} {w : World} {r : AEnd} {e : Ending} (h : EndRep ok L w r e) (hc : r.clo = true) : EndRep ok L' w r e := by
  cases r <;> cases e <;> simp only [EndRep] at h ⊢
  · exact h.loc hc
  · obtain ⟨v, h1, h2⟩ := h; exact ⟨v, h1, h2.loc hc⟩
theorem RepC.okmono {ok ok' : Nat → Prop} {w : World} {a : AVal} {v : Value} (h : RepC ok w a v) (hok : ∀ b, ok b → ok' b) : RepC ok' w a v := h.mono hok (fun _ _ => rfl)
theorem RepL.okmono {ok ok' : Nat → Prop} {L : Loc} {w : World} {a : AVal} {v : Value} (h : RepL ok L w a v) (hok : ∀ b, ok b → ok' b) : RepL ok' L w a v := by
  cases a with
  | slice _ _ _ _ => exact h
  | ptr _ _ _ _ => exact h
  | map _ _ => exact h
  | _ => exact RepC.okmono h hok
theorem RepA.okmono {ok ok' : Nat → Prop} {L : Loc} {w : World} {a : AVal} {v : Value} (h : RepA ok L w a v) (hok : ∀ b, ok b → ok' b) : RepA ok' L w a v := by
  cases a with
  | agg cs => obtain ⟨vs, e, h2⟩ := h; exact ⟨vs, e, All2.mono (fun _ _ h => h.okmono hok) _ _ h2⟩
  | fn f cs => obtain ⟨vs, e, h2⟩ := h; exact ⟨vs, e, All2.mono (fun _ _ h => h.okmono hok) _ _ h2⟩
  | _ => simp only [RepA] at h ⊢; exact h.okmono hok
theorem Rep.okmono {ok ok' : Nat → Prop} {L : Loc} {w : World} {a : AVal} {v : Value} (h : Rep ok L w a v) (hok : ∀ b, ok b → ok' b) : Rep ok' L w a v := by
  cases a with
  | tuple cs => obtain ⟨vs, e, h2⟩ := h; exact ⟨vs, e, All2.mono (fun _ _ h => h.okmono hok) _ _ h2⟩
  | _ => simp only [Rep] at h ⊢; exact h.okmono hok
theorem EndRep.okmono {ok ok' : Nat → Prop} {L : Loc} {w : World} {r : AEnd} {e : Ending} (h : EndRep ok L w r e) (hok : ∀ b, ok b → ok' b) : EndRep ok' L w r e := by
  cases r <;> cases e <;> simp only [EndRep] at h ⊢
  · exact h.okmono hok
  · obtain ⟨v, e1, e2⟩ := h; exact ⟨v, e1, e2.okmono hok⟩
theorem foot_empty {L : Loc} {b : Nat} : ¬ Foot L [] b := by
  rintro ⟨i, v, o, h, _⟩
  cases h
theorem sim_empty {ok : Nat → Prop} {L : Loc} {w : World} (h : ∀ b, ok b → b < w.heap.size) (hg : GlobOK ok w) : Sim ok L [] w := by
  constructor
  · intro i v o h; cases h
  · intro b hb; exact (foot_empty hb).elim
  · intro i j vi vj oi oj hi; cases hi
  · intro b hb; exact ⟨h b hb, foot_empty⟩
  · exact hg
theorem back_pure {ok ok' : Nat → Prop} {L L' : Loc} {w w' : World} (hs : Sim ok L σ w) (okc : Nat → Prop) (hokc : ∀ b, okc b → ok b ∨ Foot L σ b) (hsub : ∀ b, ok b → okc b) (he : Evo okc L [] w ok' L' [] w') (hs' : Sim ok' L' [] w') :
    Evo ok L σ w (fun b => ok' b ∧ ¬ Foot L σ b) L σ w' ∧ Sim (fun b => ok' b ∧ ¬ Foot L σ b) L σ w' := by
  have hsame : ∀ b, b < w.heap.size → w'.heap[b]? = w.heap[b]? := fun b hb => he.same b hb foot_empty
  have hev : Evo ok L σ w (fun b => ok' b ∧ ¬ Foot L σ b) L σ w' := by
    refine ⟨he.os, he.tape, he.output, he.size, fun b hb _ => hsame b hb, fun _ _ h => h, fun b hb => ⟨he.okm b (hsub b hb), (hs.okd b hb).2⟩, fun b hb hlt => ?_, fun _ => Nat.le_refl _, fun _ _ => ⟨rfl, rfl, rfl⟩⟩
    rcases he.okn b hb.1 hlt with h | h
    · exact hokc b h
    · exact (foot_empty h).elim
  refine ⟨hev, ⟨fun i v o h => (hs.objs i v o h).evo hs hev rfl (fun hc => hsame _ (hs.lt _ ⟨i, v, o, h, hc, rfl⟩)), fun b hb => Nat.lt_of_lt_of_le (hs.lt b hb) he.size, hs.inj, fun b hb => ⟨(hs'.okd b hb.1).1, hb.2⟩, hs.globEvo hev⟩⟩
theorem ac_pure {g : FuncId} {avs : List AVal} {R : AEnd → Store → Prop} (h : AC P g avs [] R) (hR : ∀ r σ', R r σ' → σ' = [] ∧ r.clo = true) (σ : Store) : AC P g avs σ (fun r σ' => R r [] ∧ σ' = σ) := by
  intro ok L w vs hs hv
  refine (h ok L w vs (sim_empty (fun b hb => (hs.okd b hb).1) hs.glob) hv).mono ?_
  rintro e w' ⟨r, σ1, ok', L', h1, he, hs', hx⟩
  obtain ⟨rfl, hc⟩ := hR _ _ h1
  obtain ⟨he2, hs2⟩ := back_pure hs ok (fun b hb => .inl hb) (fun b hb => hb) he hs'
  refine ⟨r, σ, _, L, ⟨h1, rfl⟩, he2, hs2, ?_⟩
  -- what comes back may be read: nothing of it lies in what is held
  have hok : ∀ b, ok' b → ok' b ∧ ¬ Foot L σ b := fun b hb => ⟨hb, fun hf => by
    rcases he.okn b hb (hs.lt b hf) with h | h
    · exact (hs.okd b h).2 hf
    · exact foot_empty h⟩
  exact (hx.loc (L' := L) hc).okmono hok
inductive LendL (σ : Store) : AVal → AVal → Prop
  | same (a : AVal) : LendL σ a a
  | nil (sz : Nat) : LendL σ .nil (.list sz [])
  | vnil (sz : Nat) : LendL σ (.v (.slice none 0 0)) (.list sz [])
  | slice (id ver off m sz : Nat) (els : List (List AVal)) : σ.get id = some (ver, .row sz els) → off + m ≤ els.length → (∀ el ∈ els, el.all AVal.clo1 = true) → LendL σ (.slice id ver off m) (.list sz ((els.drop off).take m))
inductive LendA (σ : Store) : AVal → AVal → Prop
  | leaf (a b : AVal) : LendL σ a b → LendA σ a b
  | agg (as bs : List AVal) : All2 (LendL σ) as bs → LendA σ (.agg as) (.agg bs)
  | ptr (id ver i j sz : Nat) (els : List (List AVal)) (el bs : List AVal) : σ.get id = some (ver, .row sz els) → els[i]? = some el → All2 (LendL σ) (el.drop j) bs → bs.all AVal.clo1 = true → LendA σ (.ptr id ver i j) (.rptr bs)
theorem LendL.rep {ok : Nat → Prop} {L : Loc} {w : World} (hs : Sim ok L σ w) {a b : AVal} {v : Value} (hl : LendL σ a b) (h : RepL ok L w a v) : RepL (fun x => ok x ∨ Foot L σ x) L w b v := by
  cases hl with
  | same => exact h.okmono (fun _ h => .inl h)
  | nil sz =>
    have h' : RepC ok w .nil v := h
    cases h'
    exact RepC.empty _ _ _
  | vnil sz =>
    have h' : RepC ok w (.v (.slice none 0 0)) v := h
    cases h'
    exact RepC.empty _ _ _
  | slice id ver off m sz els hid hm hc =>
    obtain ⟨ad, c, rfl, hle, _, ha⟩ := h.2 (hs.ver hid)
    have hlen : ((els.drop off).take m).length = m := by simp; omega
    rcases Nat.eq_zero_or_pos m with rfl | hpos
    · have e : (els.drop off).take 0 = [] := by simp
      rw [e]
      exact RepC.empty _ _ _
    · have := ha (.inl hpos)
      subst this
      obtain ⟨o1, o2, o3, o4, o5⟩ := hs.objs id ver _ hid
      have hcap : L.cap id ≠ 0 := by omega
      obtain ⟨conc, et, g1, g2, g3⟩ := o5 hcap
      have hg : ∀ i e, ((els.drop off).take m)[i]? = some e → els[off + i]? = some e := by
        intro i e hi
        rw [List.getElem?_take] at hi
        split at hi
        · rwa [List.getElem?_drop] at hi
        · cases hi
      have res := RepC.list (ok := fun x => ok x ∨ Foot L σ x) (w := w) sz ((els.drop off).take m) (L.blk id) (off * L.sz id) c (fun i j => (conc[(off + i) * sz + j]?).getD undef) (.inr ⟨id, ver, _, hid, hcap, rfl⟩) (by rw [hlen]; exact hle)
        (fun e he => o3 e (List.mem_of_mem_drop (List.mem_of_mem_take he))) (fun i e j av hi hj => by
          obtain ⟨u, u1, u2, u3⟩ := g3 _ _ _ _ (hg i e hi) hj
          rw [u1]
          simp only [World.cell?, g1, o2]
          rw [show off * sz + i * sz + j = (off + i) * sz + j from by rw [Nat.add_mul], u1]
          rfl) (fun i e j av hi hj => by
          obtain ⟨u, u1, u2, u3⟩ := g3 _ _ _ _ (hg i e hi) hj
          rw [u1]; exact u3) (fun i e j av hi hj => by
          obtain ⟨u, u1, u2, u3⟩ := g3 _ _ _ _ (hg i e hi) hj
          rw [u1]
          have hm := List.mem_of_getElem? (hg i e hi)
          exact (u2.repC (List.all_eq_true.1 (hc e hm) av (List.mem_of_getElem? hj))).okmono (fun _ h => .inl h))
      rw [hlen] at res
      exact res
theorem All2.two {α β γ : Type} {R : α → β → Prop} {S : α → γ → Prop} {T : β → γ → Prop} (h : ∀ a b c, R a b → S a c → T b c) : ∀ (as : List α) (bs : List β) (cs : List γ), All2 R as bs → All2 S as cs → All2 T bs cs
  | [], [], [], _, _ => trivial
  | _ :: as, _ :: bs, _ :: cs, ⟨h1, h2⟩, ⟨h3, h4⟩ => ⟨h _ _ _ h1 h3, All2.two h as bs cs h2 h4⟩
  | [], _ :: _, _, h, _ => h.elim
  | [], [], _ :: _, _, h => h.elim
  | _ :: _, [], _, h, _ => h.elim
  | _ :: _, _ :: _, [], _, h => h.elim
theorem LendA.rep {ok : Nat → Prop} {L : Loc} {w : World} (hs : Sim ok L σ w) {a b : AVal} {v : Value} (hl : LendA σ a b) (h : Rep ok L w a v) : Rep (fun x => ok x ∨ Foot L σ x) L w b v := by
  cases hl with
  | leaf a b hl =>
    cases hl with
    | same => exact h.okmono (fun _ h => .inl h)
    | nil sz => exact LendL.rep hs (.nil sz) h
    | vnil sz => exact LendL.rep hs (.vnil sz) h
    | slice id ver off m sz els hid hm hc => exact LendL.rep hs (.slice id ver off m sz els hid hm hc) h
  | agg as bs hl =>
    obtain ⟨vs, e, h2⟩ := h
    exact ⟨vs, e, All2.two (fun a b c h1 h3 => h1.rep hs h3) _ _ _ hl h2⟩
  | ptr id ver i j sz els el bs hid hel hl hc =>
    have e := h.2 (hs.ver hid)
    subst e
    obtain ⟨e1, e2, e3, e4, conc, et, g1, g2, g3⟩ := hs.row hid hel
    have key : ∀ k av, bs[k]? = some av → ∃ u, conc[i * sz + (j + k)]? = some u ∧ RepC (fun x => ok x ∨ Foot L σ x) w av u := by
      intro k av hk
      have hlen := All2.length _ _ hl
      have hkl : k < (el.drop j).length := by
        rw [hlen]
        rcases Nat.lt_or_ge k bs.length with h | h
        · exact h
        · simp [List.getElem?_eq_none h] at hk
      obtain ⟨av', h1, h2⟩ := All2.get _ _ hl k _ (List.getElem?_eq_getElem hkl)
      rw [hk] at h1
      cases h1
      have hx := List.getElem?_eq_getElem hkl
      rw [List.getElem?_drop] at hx
      obtain ⟨u, u1, u2, _⟩ := g3 i el _ _ hel hx
      exact ⟨u, u1, (h2.rep hs u2).repC (List.all_eq_true.1 hc _ (List.mem_of_getElem? hk))⟩
    refine RepC.rptr bs (L.blk id) _ (fun k => (conc[i * sz + (j + k)]?).getD undef) (.inr ⟨id, ver, _, hid, e3, rfl⟩) (fun k av hk => ?_) (fun k av hk => ?_)
    · obtain ⟨u, u1, _⟩ := key k av hk
      simp only [World.cell?, g1, e1, u1]
      simp [Nat.add_assoc, u1]
    · obtain ⟨u, u1, u2⟩ := key k av hk
      rw [u1]; exact u2
def AVal.sca : AVal → Bool
  | .v _ => true
  | _ => false
def AVal.scaA : AVal → Bool
  | .agg cs => cs.all AVal.sca
  | a => a.sca
def AVal.scal : AVal → Bool
  | .tuple cs => cs.all AVal.scaA
  | a => a.scaA
def AEnd.scal : AEnd → Bool
  | .ret a => a.scal
  | .pan a => a.scal
theorem Rep.scal {ok ok' : Nat → Prop} {L L' : Loc} {w w' : World} {a : AVal} {v : Value} (h : Rep ok L w a v) (hc : a.scal = true) : Rep ok' L' w' a v := by
  have k1 : ∀ {a v}, RepL ok L w a v → a.sca = true → RepL ok' L' w' a v := by
    intro a v h hc
    cases a <;> first | (cases hc; done) | skip
    rw [rep_bool (ok := ok) (L := L) (w := w) h]; exact RepC.v _
  have k2 : ∀ {a v}, RepA ok L w a v → a.scaA = true → RepA ok' L' w' a v := by
    intro a v h hc
    cases a with
    | agg cs => obtain ⟨vs, e, h2⟩ := h; exact ⟨vs, e, All2.mem _ _ h2 fun a ha b hb => k1 hb (List.all_eq_true.1 hc a ha)⟩
    | v x => exact k1 (a := .v x) h hc
    | _ => cases hc
  cases a with
  | tuple cs => obtain ⟨vs, e, h2⟩ := h; exact ⟨vs, e, All2.mem _ _ h2 fun a ha b hb => k2 hb (List.all_eq_true.1 hc a ha)⟩
  | agg cs => exact k2 (a := .agg cs) h hc
  | v x => exact k2 (a := .v x) h hc
  | _ => cases hc
theorem ac_lend {g : FuncId} {avs bvs : List AVal} {R : AEnd → Store → Prop} (h : AC P g bvs [] R) (hR : ∀ r σ', R r σ' → σ' = [] ∧ r.scal = true) (hl : All2 (LendA σ) avs bvs) : AC P g avs σ (fun r σ' => R r [] ∧ σ' = σ) := by
  intro ok L w vs hs hv
  have hv' : All2 (Rep (fun x => ok x ∨ Foot L σ x) L w) bvs vs := All2.two (fun a b c h1 h3 => h1.rep hs h3) _ _ _ hl hv
  refine (h _ L w vs (sim_empty (fun b hb => hb.elim (fun h => (hs.okd b h).1) (fun h => hs.lt b h)) (hs.glob.mono (fun b hb => .inl hb) (fun _ _ => rfl))) hv').mono ?_
  rintro e w' ⟨r, σ1, ok', L', h1, he, hs', hx⟩
  obtain ⟨rfl, hc⟩ := hR _ _ h1
  obtain ⟨he2, hs2⟩ := back_pure hs _ (fun b hb => hb) (fun b hb => .inl hb) he hs'
  refine ⟨r, σ, _, L, ⟨h1, rfl⟩, he2, hs2, ?_⟩
  cases r <;> cases e <;> simp only [EndRep] at hx ⊢
  · exact hx.scal hc
  · obtain ⟨v, e1, e2⟩ := hx; exact ⟨v, e1, e2.scal hc⟩
end
end Go.Proofs.YtcgdlhkiecommaaGreatDoor
/- The engine, part 10: regions that draw their order. -/

namespace Go.Proofs.YtcgdlhkiecommaaGreatDoor
open Go
def ancestors (ops : Array Oper) : Nat → Nat → List Nat
  | 0, _ => []
  | k + 1, i => match ops[i]? with
    | none => []
    | some o => o.after.toList.foldr (fun e acc => if Region.binds .any e then e.on :: (ancestors ops k e.on ++ acc) else acc) []
inductive Before (ops : Array Oper) : Nat → Nat → Prop
  | edge (i j : Nat) (o : Oper) (e : Edge) : ops[j]? = some o → e ∈ o.after → Region.binds .any e = true → e.on = i → Before ops i j
  | trans (i j k : Nat) : Before ops i j → Before ops j k → Before ops i k
theorem before_of_ancestors {ops : Array Oper} : ∀ (k i j : Nat), i ∈ ancestors ops k j → Before ops i j
  | 0, i, j, h => by simp [ancestors] at h
  | k + 1, i, j, h => by
    simp only [ancestors] at h
    cases ho : ops[j]? with
    | none => rw [ho] at h; simp at h
    | some o =>
      rw [ho] at h
      simp only at h
      have key : ∀ es : List Edge, (∀ e ∈ es, e ∈ o.after) → i ∈ es.foldr (fun e acc => if Region.binds .any e then e.on :: (ancestors ops k e.on ++ acc) else acc) [] → Before ops i j := by
        intro es
        induction es with
        | nil => intro _ h; simp at h
        | cons e es ih =>
          intro hsub h
          simp only [List.foldr_cons] at h
          have he := hsub e (by simp)
          split at h
          · rename_i hb
            simp only [List.mem_cons, List.mem_append] at h
            rcases h with h | h | h
            · exact .edge i j o e ho he hb h.symm
            · exact .trans i e.on j (before_of_ancestors k i e.on h) (.edge e.on j o e ho he hb rfl)
            · exact ih (fun x hx => hsub x (by simp [hx])) h
          · exact ih (fun x hx => hsub x (by simp [hx])) h
      exact key o.after.toList (fun e he => by simpa using he) h
def Closed (ops : Array Oper) (listed : Array Bool) : Prop := ∀ i j, Before ops i j → listed.getD j false = true → listed.getD i false = true
theorem getD_set (listed : Array Bool) (i k : Nat) (d : Bool) : (listed.setIfInBounds i true).getD k d = if i = k ∧ k < listed.size then true else listed.getD k d := by
  simp only [Array.getD_eq_getD_getElem?, Array.getElem?_setIfInBounds]
  by_cases h : i = k
  · subst h
    by_cases h2 : i < listed.size
    · simp [h2]
    · simp [h2]
  · simp [h]
theorem ready_deps {ops : Array Oper} {listed : Array Bool} {j : Nat} (h : j ∈ Region.ready .any ops listed) : j < ops.size ∧ listed.getD j true = false ∧ ∀ o, ops[j]? = some o → ∀ e ∈ o.after, Region.binds .any e = true → listed.getD e.on false = true := by
  obtain ⟨h1, o, h2, h3⟩ := mem_ready.1 h
  refine ⟨(Array.getElem?_eq_some_iff.1 h2).1, h1, fun o' ho' e he hb => ?_⟩
  rw [h2] at ho'
  cases ho'
  exact h3 e he hb
theorem closed_before {ops : Array Oper} {listed : Array Bool} (hc : Closed ops listed) {i j : Nat} (hj : j ∈ Region.ready .any ops listed) (hb : Before ops i j) : listed.getD i false = true := by
  obtain ⟨h1, h2, h3⟩ := ready_deps hj
  induction hb with
  | edge i j o e ho he hbd hon => subst hon; exact h3 o ho e he hbd
  | trans i j k h1' h2' ih1 ih2 => exact hc _ _ h1' (ih2 hj h1 h2 h3)
theorem closed_set {ops : Array Oper} {listed : Array Bool} (hc : Closed ops listed) {j : Nat} (hj : j ∈ Region.ready .any ops listed) (hsz : listed.size = ops.size) : Closed ops (listed.setIfInBounds j true) := by
  intro i k hb hk
  rw [getD_set] at hk ⊢
  by_cases h : j = i ∧ i < listed.size
  · rw [if_pos h]
  · rw [if_neg h]
    by_cases h2 : j = k ∧ k < listed.size
    · obtain ⟨rfl, _⟩ := h2
      exact closed_before hc hj hb
    · rw [if_neg h2] at hk
      exact hc i k hb hk
section
variable {P : Program} {n : Nat} {Q : APost} {env : Env} {σ σ' : Store} {ops : Array Oper}
def prefixB (m p : Nat) : Array Bool := ((List.range m).map fun i => decide (i < p)).toArray
theorem prefix_size (m p : Nat) : (prefixB m p).size = m := by simp [prefixB]
theorem prefix_get (m p k : Nat) (d : Bool) : (prefixB m p).getD k d = if k < m then decide (k < p) else d := by
  simp only [prefixB, Array.getD_eq_getD_getElem?, List.getElem?_toArray, List.getElem?_map]
  by_cases h : k < m
  · rw [List.getElem?_range h]; simp [h]
  · rw [List.getElem?_eq_none (by simpa using h)]; simp [h]
def AAny (P : Program) (n : Nat) (ops : Array Oper) (Q : APost) (p : Nat) (env : Env) (σ : Store) : Prop :=
  ∀ ok L w act, Sim ok L σ w → RepEnv ok L w env act.tmps → act.defers = [] → act.tmps.size = n → wpAny P .any ops (Post n Q ok L σ w) (ops.size - p) (prefixB ops.size p) act w
theorem aw_any {id : Nat} {l : List Oper} (hm : P.follows .mixedOrders = true) (h : AAny P n l.toArray Q 0 env σ) : AW P n (.region id l.toArray true) Q env σ := by
  intro ok L w act h1 h2 h3 h4
  have hd : Evo ok L σ w ok L σ w.drew := ⟨rfl, rfl, rfl, Nat.le_refl _, fun _ _ _ => rfl, fun _ _ h => h, fun _ h => h, fun _ h _ => .inl h, fun _ => Nat.le_refl _, fun _ _ => ⟨rfl, rfl, rfl⟩⟩
  have hs : Sim ok L σ w.drew := ⟨fun i v o h => (h1.objs i v o h).evo h1 hd rfl (fun _ => rfl), h1.lt, h1.inj, h1.okd, h1.globEvo hd⟩
  have := h ok L w.drew act hs (h2.evo h1 hd) h3 h4
  refine wp_mono (wp_region_any (Q := Post n Q ok L σ w.drew) hm ?_) (fun _ _ _ h => Post.after hd h)
  have e : prefixB l.toArray.size 0 = Array.replicate l.toArray.size false := by
    apply Array.ext (by simp [prefix_size])
    intro i h1 h2
    simp [prefixB]
  rw [e] at this
  simpa using this
def OpK (P : Program) (o : Oper) (E : Operand → Option AVal) (σ : Store) (a : AVal) : Prop :=
  ∀ ok L w (act : Act), Sim ok L σ w → (∀ x ∈ o.op.operands, ∀ b, E x = some b → Rep ok L w b (act.eval x)) →
    ∀ (K : Act → World → Prop) (Q' : Exit → Act → World → Prop), (∀ v w' ok' L', Evo ok L σ w ok' L' σ w' → Sim ok' L' σ w' → Rep ok' L' w' a v → K (act.put o.dst v) w') → o.wp P act w K Q'
theorem opk_of {o : Oper} {E : Operand → Option AVal} {a : AVal} (h : OpTo P o E σ a σ) : OpK P o E σ a := by
  intro ok L w act hs hr K Q' hK
  obtain ⟨v, w', ok', L', h1, he, hs', hv⟩ := h ok L w act.eval hs hr
  unfold Oper.wp
  rcases h1 with h1 | ⟨h1, rfl⟩
  · rw [h1]; exact hK v w' ok' L' he hs' hv
  · rw [h1]; exact hK undef w' ok' L' he hs' hv
theorem opk_call {f : Operand} {args : Array Operand} {ts : Array TypeId} {fa a : AVal} {g : FuncId} {caps : List AVal} {avs : List AVal} {E : Operand → Option AVal} {d : Option Tmp} {ty : TypeId} {pos : String} {after : Array Edge} {guard : Option (Nat × Bool)} (hin : Into P g)
    (hf : E f = some fa) (hc : calleeOf fa = some (g, caps)) (ha : avals E args.toList = some avs) (h : AC P g (avs ++ caps) σ (fun r σ' => r = .ret a ∧ σ' = σ)) : OpK P ⟨d, .call { callee := .value f, args := args, argTypes := ts }, ty, pos, after, guard⟩ E σ a := by
  intro ok L w act hs hr K Q' hK
  obtain ⟨vs, hrun, hv⟩ := call_run (E := E) (d := d) (ty := ty) (pos := pos) (after := after) (guard := guard) (ts := ts) hin hr hf hc ha
  unfold Oper.wp
  rw [hrun]
  refine (h ok L w vs hs hv).mono ?_
  rintro e w' ⟨r, σ', ok', L', ⟨rfl, rfl⟩, he, hs', hx⟩
  cases e with
  | returned v => exact hK v w' ok' L' he hs' hx
  | _ => exact hx.elim
inductive QStep (P : Program) (ops : Array Oper) (o : Oper) (env : Env) (σ : Store) (a : AVal) : Prop
  | plain : o.guard = none → OpK P o (aval env) σ a → QStep P ops o env σ a
  | take (g d : Nat) (b : Bool) (og : Oper) : o.guard = some (g, b) → ops[g]? = some og → og.dst = some d → env.get d = some (.v (.bool b)) → OpK P o (aval env) σ a → QStep P ops o env σ a
  | pass (g d : Nat) (b : Bool) (og : Oper) : o.guard = some (g, b) → ops[g]? = some og → og.dst = some d → env.get d = some (.v (.bool (!b))) → a = .v undef → QStep P ops o env σ a
inductive QL (P : Program) (ops : Array Oper) (σ : Store) : Env → List Oper → List AVal → Env → Prop
  | nil (env : Env) : QL P ops σ env [] [] env
  | cons (env env' : Env) (o : Oper) (rest : List Oper) (a : AVal) (as : List AVal) : QStep P ops o env σ a → QL P ops σ (env.putd o.dst a) rest as env' → QL P ops σ env (o :: rest) (a :: as) env'
def looks (ops : Array Oper) (o : Oper) : List Tmp :=
  (o.op.operands.toList.filterMap fun | .tmp t => some t | _ => none) ++ (match o.guard with | some (g, _) => ((ops[g]?).bind (·.dst)).toList | none => [])
def segOK (ops : Array Oper) (p q : Nat) : Bool :=
  decide (q ≤ ops.size) && ((List.range ops.size).all fun j => match ops[j]? with | some o => o.after.toList.all (fun e => !Region.binds .any e || decide (e.on < j)) | none => true) && (List.range ops.size).all fun j =>
    let anc := ancestors ops ops.size j
    (if p ≤ j && j < q then
      (List.range ops.size).all fun i =>
        if p ≤ i && i < j then
          match (ops[i]?).bind (·.dst), ops[j]? with
          | some d, some oj => ((!(looks ops oj).contains d || anc.contains i) && oj.dst != some d)
          | _, _ => true
        else true
      else true) &&
    (if p ≤ j && j < q then
      (List.range ops.size).all fun i =>
        if p ≤ i && i < j then
          match (ops[j]?).bind (·.dst), ops[i]? with
          | some d, some oi => (!(looks ops oi).contains d || anc.contains i)
          | _, _ => true
        else true
      else true) &&
    (if q ≤ j then (List.range ops.size).all fun i => if p ≤ i && i < q then anc.contains i else true else true)
def togo (listed : Array Bool) : Nat → Nat
  | 0 => 0
  | m + 1 => togo listed m + (bif listed.getD m true then 0 else 1)
theorem togo_set (listed : Array Bool) (i : Nat) (hi : listed.getD i true = false) : ∀ m, togo (listed.setIfInBounds i true) m + (bif decide (i < m) then 1 else 0) = togo listed m := by
  have hlt : i < listed.size := by
    rcases Nat.lt_or_ge i listed.size with h | h
    · exact h
    · simp [Array.getD_eq_getD_getElem?, Array.getElem?_eq_none h] at hi
  intro m
  induction m with
  | zero => simp [togo]
  | succ m ih =>
    simp only [togo]
    have e := getD_set listed i m true
    by_cases h : i = m
    · subst h
      rw [if_pos ⟨rfl, hlt⟩] at e
      rw [e, hi]
      have d1 : decide (i < i + 1) = true := by simp
      have d2 : decide (i < i) = false := by simp
      rw [d1]
      rw [d2] at ih
      simp only [cond_true, cond_false] at ih ⊢
      omega
    · rw [if_neg (fun h' => h h'.1)] at e
      rw [e]
      by_cases h2 : i < m
      · have d1 : decide (i < m + 1) = true := by simp; omega
        have d2 : decide (i < m) = true := by simp [h2]
        rw [d1]
        rw [d2] at ih
        simp only [cond_true] at ih ⊢
        omega
      · have d1 : decide (i < m + 1) = false := by simp; omega
        have d2 : decide (i < m) = false := by simp [h2]
        rw [d1]
        rw [d2] at ih
        simp only [cond_false] at ih ⊢
        omega
theorem togo_prefix (m p : Nat) : ∀ k, k ≤ m → togo (prefixB m p) k = k - p := by
  intro k
  induction k with
  | zero => simp [togo]
  | succ k ih =>
    intro hk
    simp only [togo]
    have e := prefix_get m p k true
    rw [if_pos (show k < m by omega)] at e
    rw [ih (by omega), e]
    by_cases h : k < p
    · have d : decide (k < p) = true := by simp [h]
      rw [d]
      simp only [cond_true]
      omega
    · have d : decide (k < p) = false := by simp [h]
      rw [d]
      simp only [cond_false]
      omega
def envUp : Env → List Oper → List AVal → Nat → Env
  | env, _, _, 0 => env
  | env, o :: l, a :: as, k + 1 => envUp (env.putd o.dst a) l as k
  | env, _, _, _ => env
theorem putd_get (env : Env) (dst : Option Tmp) (a : AVal) (t : Nat) : (env.putd dst a).get t = if dst = some t then some a else env.get t := by
  cases dst with
  | none => simp [Env.putd]
  | some d =>
    simp only [Env.putd, Env.get_cons]
    by_cases h : d = t
    · simp [h]
    · simp [h]
theorem envUp_get (l : List Oper) : ∀ (env : Env) (as : List AVal) (k : Nat) (t : Nat), l.length = as.length → k ≤ l.length →
    (∃ m o a, m < k ∧ l[m]? = some o ∧ as[m]? = some a ∧ o.dst = some t ∧ (envUp env l as k).get t = some a) ∨ ((∀ m o, m < k → l[m]? = some o → o.dst ≠ some t) ∧ (envUp env l as k).get t = env.get t) := by
  induction l with
  | nil => intro env as k t hl hk; right; exact ⟨fun m o _ h => by simp at h, by cases k <;> simp [envUp]⟩
  | cons o l ih =>
    intro env as k t hl hk
    cases as with
    | nil => simp at hl
    | cons a as =>
      cases k with
      | zero => right; exact ⟨fun m o h => by omega, rfl⟩
      | succ k =>
        simp only [envUp]
        rcases ih (env.putd o.dst a) as k t (by simpa using hl) (by simpa using hk) with ⟨m, o', a', h1, h2, h3, h4, h5⟩ | ⟨h1, h2⟩
        · exact .inl ⟨m + 1, o', a', by omega, by simpa using h2, by simpa using h3, h4, h5⟩
        · rw [putd_get] at h2
          by_cases h : o.dst = some t
          · rw [if_pos h] at h2
            exact .inl ⟨0, o, a, by omega, by simp, by simp, h, h2⟩
          · rw [if_neg h] at h2
            refine .inr ⟨fun m o' hm ho' => ?_, h2⟩
            cases m with
            | zero => simp at ho'; subst ho'; exact h
            | succ m => exact h1 m o' (by omega) (by simpa using ho')
theorem QL.out {l : List Oper} {as : List AVal} {env env' : Env} (h : QL P ops σ env l as env') : l.length = as.length ∧ env' = envUp env l as l.length ∧ ∀ k o, l[k]? = some o → ∃ a, as[k]? = some a ∧ QStep P ops o (envUp env l as k) σ a := by
  induction h with
  | nil env => exact ⟨rfl, rfl, fun k o h => by simp at h⟩
  | cons env env' o rest a as hq hr ih =>
    obtain ⟨h1, h2, h3⟩ := ih
    refine ⟨by simp [h1], by simpa [envUp] using h2, fun k o' hk => ?_⟩
    cases k with
    | zero => simp at hk; subst hk; exact ⟨a, by simp, hq⟩
    | succ k =>
      obtain ⟨b, h4, h5⟩ := h3 k o' (by simpa using hk)
      exact ⟨b, by simpa using h4, h5⟩
theorem operand_mem {o : Oper} {t : Nat} (h : Operand.tmp t ∈ o.op.operands) : t ∈ looks ops o := by
  simp only [looks, List.mem_append]
  exact .inl (List.mem_filterMap.2 ⟨.tmp t, by simpa using h, rfl⟩)
theorem guard_mem {o og : Oper} {g d : Nat} {b : Bool} (h1 : o.guard = some (g, b)) (h2 : ops[g]? = some og) (h3 : og.dst = some d) : d ∈ looks ops o := by
  simp only [looks, List.mem_append]
  right
  simp [h1, h2, h3]
theorem oper_wp_mono2 {o : Oper} {a : Act} {w : World} {K K' : Act → World → Prop} {Q1 Q2 : Exit → Act → World → Prop} (hK : ∀ a w, K a w → K' a w) (h : ∀ e a w, Q1 e a w → Q2 e a w) (hh : o.wp P a w K Q1) : o.wp P a w K' Q2 := by
  unfold Oper.wp at *
  generalize (execOp a.eval o).run P w = r at *
  cases r with
  | ok n w' =>
    cases n <;> simp only [Oper.upon] at hh ⊢ <;> first
      | exact hK _ _ hh
      | exact hh
      | exact Calls.mono hh (fun e w'' he => by cases e <;> first | exact hK _ _ he | exact h _ _ _ he | (obtain ⟨a, w, hq⟩ := he; exact ⟨a, w, h _ _ _ hq⟩))
      | exact Rows.mono hh (fun _ _ he => hK _ _ he)
  | halt x w' => cases x <;> simp only [Oper.upon] at hh ⊢ <;> first | exact hh | exact h _ _ _ hh
theorem wpAny_monoQ {Q1 Q2 : Exit → Act → World → Prop} (h : ∀ e a w, Q1 e a w → Q2 e a w) : ∀ (fuel : Nat) (listed : Array Bool) (a : Act) (w : World), wpAny P .any ops Q1 fuel listed a w → wpAny P .any ops Q2 fuel listed a w
  | 0, _, _, _, hh => ⟨hh.1, h _ _ _ hh.2⟩
  | fuel + 1, listed, a, w, hh => ⟨fun h0 => h _ _ _ (hh.1 h0), fun i hi => by
      have h1 := hh.2 i hi
      unfold wpOp at h1 ⊢
      split
      · rename_i ho; rw [ho] at h1; exact wpAny_monoQ h fuel _ _ _ h1
      · rename_i o ho
        rw [ho] at h1
        simp only at h1
        split
        · rename_i hw
          rw [if_pos hw] at h1
          rcases h1 with h1 | ⟨h2, a1, w1, h3⟩
          · exact .inl (oper_wp_mono2 (fun a w => wpAny_monoQ h fuel _ a w) h h1)
          · exact .inr ⟨h2, a1, w1, h _ _ _ h3⟩
        · rename_i hw
          rw [if_neg hw] at h1
          exact wpAny_monoQ h fuel _ _ _ h1⟩
theorem togo_pos {listed : Array Bool} {i : Nat} (hi : listed.getD i true = false) : ∀ m, i < m → 0 < togo listed m
  | m + 1, h => by
    simp only [togo]
    by_cases e : i = m
    · subst e; rw [hi]; simp
    · have := togo_pos hi m (by omega); omega
theorem aval_rep {ok : Nat → Prop} {L : Loc} {w : World} {e : Env} {act : Act} {x : Operand} {a : AVal} (h : ∀ t, x = .tmp t → ∀ a, e.get t = some a → ∃ v, act.tmps[t]? = some v ∧ Rep ok L w a v) (hx : aval e x = some a) : Rep ok L w a (act.eval x) := by
  cases x with
  | tmp t =>
    obtain ⟨v, h1, h2⟩ := h t rfl a hx
    simp only [Act.eval, Array.getD_eq_getD_getElem?, h1]
    exact h2
  | const v => exact RepEnv.aval (env := []) (act := act) (fun t a ht => by cases ht) (by cases v <;> exact hx)
  | func f => exact RepEnv.aval (env := []) (act := act) (fun t a ht => by cases ht) hx
  | global g => simp [aval] at hx
theorem getD_true_of_false {listed : Array Bool} {i : Nat} (h : listed.getD i false = true) : listed.getD i true = true := by
  simp only [Array.getD_eq_getD_getElem?] at h ⊢
  cases hx : listed[i]? with
  | none => rfl
  | some b => rw [hx] at h; exact h
theorem getD_false_of_true {listed : Array Bool} {i : Nat} (hi : i < listed.size) (h : listed.getD i true = true) : listed.getD i false = true := by
  simp only [Array.getD_eq_getD_getElem?] at h ⊢
  rw [Array.getElem?_eq_getElem hi] at h ⊢
  exact h
theorem seg_core {p q : Nat} {l : List Oper} {as : List AVal} {env env' : Env} (hok : segOK ops p q = true) (hl : ∀ k, k < q - p → l[k]? = ops[p + k]?) (hlen : l.length = q - p) (hpq : p ≤ q) (hq : QL P ops σ env l as env') (hd : ∀ o ∈ l, ∀ d, o.dst = some d → d < n) (hnext : AAny P n ops Q q env' σ)
    {ok0 : Nat → Prop} {L0 : Loc} {σ0 : Store} {w0 : World} :
    ∀ (r : Nat) (listed : Array Bool) (ok : Nat → Prop) (L : Loc) (w : World) (act : Act), listed.size = ops.size → togo listed ops.size = r → Closed ops listed → (∀ i, i < p → i < ops.size → listed.getD i true = true) → (∀ i, q ≤ i → i < ops.size → listed.getD i true = false) →
      Evo ok0 L0 σ0 w0 ok L σ w → Sim ok L σ w → act.defers = [] → act.tmps.size = n →
      (∀ k o d a, l[k]? = some o → as[k]? = some a → o.dst = some d → listed.getD (p + k) true = true → ∃ v, act.tmps[d]? = some v ∧ Rep ok L w a v) →
      (∀ t a, env.get t = some a → (∀ k o, l[k]? = some o → o.dst = some t → listed.getD (p + k) true = false) → ∃ v, act.tmps[t]? = some v ∧ Rep ok L w a v) →
      wpAny P .any ops (Post n Q ok0 L0 σ0 w0) r listed act w := by
  obtain ⟨ql1, ql2, ql3⟩ := hq.out
  simp only [segOK, Bool.and_eq_true, decide_eq_true_eq] at hok
  obtain ⟨⟨hqs, hlow⟩, hok⟩ := hok
  rw [List.all_eq_true] at hok hlow
  have low : ∀ (j : Nat) (o : Oper), ops[j]? = some o → ∀ e ∈ o.after, Region.binds .any e = true → e.on < j := by
    intro j o ho e he hb
    have h := hlow j (List.mem_range.2 (Array.getElem?_eq_some_iff.1 ho).1)
    rw [ho] at h
    simp only [List.all_eq_true] at h
    have := h e (by simpa using he)
    simpa [hb] using this
  have chk : ∀ j, j < ops.size → (p ≤ j ∧ j < q → ∀ i, p ≤ i → i < j → (∀ d oi oj, ops[i]? = some oi → oi.dst = some d → ops[j]? = some oj → (d ∈ looks ops oj → Before ops i j) ∧ oj.dst ≠ some d) ∧ (∀ d oi oj, ops[j]? = some oj → oj.dst = some d → ops[i]? = some oi → d ∈ looks ops oi → Before ops i j)) ∧ (q ≤ j → ∀ i, p ≤ i → i < q → Before ops i j) := by
    intro j hj
    have h := hok j (List.mem_range.2 hj)
    simp only [Bool.and_eq_true] at h
    obtain ⟨⟨h1, h2⟩, h3⟩ := h
    refine ⟨fun hpj => ?_, fun hqj i hi hiq => ?_⟩
    · rw [if_pos hpj] at h1 h2
      rw [List.all_eq_true] at h1 h2
      intro i hi hij
      have g1 := h1 i (List.mem_range.2 (by omega))
      have g2 := h2 i (List.mem_range.2 (by omega))
      rw [if_pos ⟨hi, hij⟩] at g1 g2
      refine ⟨fun d oi oj e1 e2 e3 => ?_, fun d oi oj e1 e2 e3 hm => ?_⟩
      · simp only [e1, e2, e3, Option.bind_some] at g1
        simp only [Bool.and_eq_true, Bool.or_eq_true] at g1
        obtain ⟨g1, g1'⟩ := g1
        refine ⟨fun hm => ?_, by simpa using g1'⟩
        rcases g1 with g1 | g1
        · simp [hm] at g1
        · exact before_of_ancestors _ _ _ (by simpa using g1)
      · simp only [e1, e2, e3, Option.bind_some] at g2
        simp only [Bool.or_eq_true] at g2
        rcases g2 with g2 | g2
        · simp [hm] at g2
        · exact before_of_ancestors _ _ _ (by simpa using g2)
    · rw [if_pos hqj, List.all_eq_true] at h3
      have g3 := h3 i (List.mem_range.2 (by omega))
      rw [if_pos ⟨hi, hiq⟩] at g3
      exact before_of_ancestors _ _ _ (by simpa using g3)
  have done : ∀ (listed : Array Bool) (ok : Nat → Prop) (L : Loc) (w : World) (act : Act) (r : Nat), listed.size = ops.size → togo listed ops.size = r → (∀ i, i < p → i < ops.size → listed.getD i true = true) → (∀ i, q ≤ i → i < ops.size → listed.getD i true = false) →
      Evo ok0 L0 σ0 w0 ok L σ w → Sim ok L σ w → act.defers = [] → act.tmps.size = n →
      (∀ k o d a, l[k]? = some o → as[k]? = some a → o.dst = some d → listed.getD (p + k) true = true → ∃ v, act.tmps[d]? = some v ∧ Rep ok L w a v) →
      (∀ t a, env.get t = some a → (∀ k o, l[k]? = some o → o.dst = some t → listed.getD (p + k) true = false) → ∃ v, act.tmps[t]? = some v ∧ Rep ok L w a v) →
      (∀ i, p ≤ i → i < q → listed.getD i true = true) → wpAny P .any ops (Post n Q ok0 L0 σ0 w0) r listed act w := by
    intro listed ok L w act r hsz hleft hlo hhi he hs hdf hn hA hB hall
    have hpre : listed = prefixB ops.size q := by
      apply Array.ext (by rw [hsz, prefix_size])
      intro i h1 h2
      have e1 : listed.getD i true = listed[i] := by simp [Array.getD_eq_getD_getElem?, h1]
      have e2 : (prefixB ops.size q).getD i true = (prefixB ops.size q)[i] := by simp [Array.getD_eq_getD_getElem?, h2]
      rw [← e1, ← e2, prefix_get, if_pos (by omega)]
      rcases Nat.lt_or_ge i p with h | h
      · rw [hlo i h (by omega)]; simp; omega
      · rcases Nat.lt_or_ge i q with h' | h'
        · rw [hall i h h']; simp [h']
        · rw [hhi i h' (by omega)]; simp; omega
    have hr : r = ops.size - q := by rw [← hleft, hpre]; exact togo_prefix _ _ _ (Nat.le_refl _)
    subst hr
    rw [hpre]
    refine wpAny_monoQ (fun _ _ _ h => Post.after he h) _ _ _ _ (hnext ok L w act hs ?_ hdf hn)
    intro t a ht
    rw [ql2] at ht
    rcases envUp_get l env as l.length t ql1 (Nat.le_refl _) with ⟨m, o', a', h1, h2, h3, h4, h5⟩ | ⟨h1, h2⟩
    · rw [h5] at ht
      cases ht
      exact hA m o' t a h2 h3 h4 (hall _ (by omega) (by omega))
    · rw [h2] at ht
      refine hB t a ht (fun k' o' hk' hd' => ?_)
      have hlt' : k' < l.length := (List.getElem?_eq_some_iff.1 hk').1
      exact absurd hd' (h1 k' o' hlt' hk')
  intro r
  induction r with
  | zero =>
    intro listed ok L w act hsz hleft hcl hlo hhi he hs hdf hn hA hB
    exact (done listed ok L w act 0 hsz hleft hlo hhi he hs hdf hn hA hB (fun i hi hiq => by
      cases hh : listed.getD i true with
      | true => rfl
      | false => have := togo_pos hh ops.size (by omega); omega))
  | succ r ih =>
    intro listed ok L w act hsz hleft hcl hlo hhi he hs hdf hn hA hB
    by_cases hall : ∀ i, p ≤ i → i < q → listed.getD i true = true
    · exact done listed ok L w act (r + 1) hsz hleft hlo hhi he hs hdf hn hA hB hall
    · refine ⟨fun hr => ?_, fun j hj => ?_⟩
      · -- something may come up
        exfalso
        have hex : ∃ i, i < ops.size ∧ listed.getD i true = false := by
          apply Classical.byContradiction
          intro hno
          refine hall (fun i hi hiq => ?_)
          cases hh : listed.getD i true with
          | true => rfl
          | false => exact (hno ⟨i, by omega, hh⟩).elim
        obtain ⟨i, hi, hf⟩ := hex
        have least : ∀ m i, i ≤ m → i < ops.size → listed.getD i true = false → ∃ k, k < ops.size ∧ listed.getD k true = false ∧ ∀ k', k' < k → listed.getD k' true = true := by
          intro m
          induction m with
          | zero => intro i him hi hf; exact ⟨i, hi, hf, fun k' hk' => by omega⟩
          | succ m ihm =>
            intro i him hi hf
            by_cases hall' : ∀ k', k' < i → listed.getD k' true = true
            · exact ⟨i, hi, hf, hall'⟩
            · have : ∃ k', k' < i ∧ listed.getD k' true = false := by
                apply Classical.byContradiction
                intro hno
                refine hall' (fun k' hk' => ?_)
                cases hh : listed.getD k' true with
                | true => rfl
                | false => exact (hno ⟨k', hk', hh⟩).elim
              obtain ⟨k', hk', hf'⟩ := this
              exact ihm k' (by omega) (by omega) hf'
        obtain ⟨k, hk, hkf, hkl⟩ := least i i (Nat.le_refl _) hi hf
        have : k ∈ Region.ready .any ops listed := mem_ready.2 ⟨hkf, ops[k], Array.getElem?_eq_getElem hk, fun e hem hb => by
          have h1 := low k _ (Array.getElem?_eq_getElem hk) e hem hb
          exact getD_false_of_true (by omega) (hkl _ h1)⟩
        rw [hr] at this
        cases this
      · obtain ⟨hjs, hjf, hjd⟩ := ready_deps hj
        have hjp : p ≤ j := by
          rcases Nat.lt_or_ge j p with h | h
          · have := hlo j h hjs; rw [this] at hjf; cases hjf
          · exact h
        have hjq : j < q := by
          rcases Nat.lt_or_ge j q with h | h
          · exact h
          · exfalso
            exact hall (fun i hi hiq => getD_true_of_false (closed_before hcl hj ((chk j hjs).2 h i hi hiq)))
        obtain ⟨k, rfl⟩ : ∃ k, j = p + k := ⟨j - p, by omega⟩
        have hlk : l[k]? = ops[p + k]? := hl k (by omega)
        have ho := Array.getElem?_eq_getElem hjs
        rw [ho] at hlk
        generalize ops[p + k] = o at ho hlk
        obtain ⟨a, hak, hst⟩ := ql3 k o hlk
        -- what is looked at is there
        have known : ∀ t ∈ looks ops o, ∀ b, (envUp env l as k).get t = some b → ∃ v, act.tmps[t]? = some v ∧ Rep ok L w b v := by
          intro t ht b hb
          rcases envUp_get l env as k t ql1 (by omega) with ⟨m, o', a', h1, h2, h3, h4, h5⟩ | ⟨h1, h2⟩
          · rw [h5] at hb
            cases hb
            have ho' : ops[p + m]? = some o' := by rw [← hl m (by omega)]; exact h2
            have hbef := (((chk (p + k) hjs).1 ⟨hjp, hjq⟩ (p + m) (by omega) (by omega)).1 t o' o ho' h4 ho).1 ht
            exact hA m o' t b h2 h3 h4 (getD_true_of_false (closed_before hcl hj hbef))
          · rw [h2] at hb
            refine hB t b hb (fun k' o' hk' hd' => ?_)
            have hlt' : k' < l.length := (List.getElem?_eq_some_iff.1 hk').1
            have ho' : ops[p + k']? = some o' := by rw [← hl k' (by omega)]; exact hk'
            rcases Nat.lt_trichotomy k' k with h | h | h
            · exact absurd hd' (h1 k' o' h hk')
            · subst h; exact hjf
            · cases hh : listed.getD (p + k') true with
              | false => rfl
              | true =>
                exfalso
                have hbef := ((chk (p + k') (by omega)).1 ⟨by omega, by omega⟩ (p + k) (by omega) (by omega)).2 t o o' ho' hd' ho ht
                have := hcl _ _ hbef (getD_false_of_true (by omega) hh)
                rw [getD_true_of_false this] at hjf
                cases hjf
        -- on
        have next : ∀ v w' ok' L', Evo ok L σ w ok' L' σ w' → Sim ok' L' σ w' → Rep ok' L' w' a v → wpAny P .any ops (Post n Q ok0 L0 σ0 w0) r (listed.setIfInBounds (p + k) true) (act.put o.dst v) w' := by
          intro v w' ok' L' hev hs' hv
          have hset : ∀ i, (listed.setIfInBounds (p + k) true).getD i true = if p + k = i then true else listed.getD i true := by
            intro i
            rw [getD_set]
            by_cases h : p + k = i
            · rw [if_pos ⟨h, by omega⟩, if_pos h]
            · rw [if_neg (fun hh => h hh.1), if_neg h]
          refine ih (listed.setIfInBounds (p + k) true) ok' L' w' (act.put o.dst v) (by simpa using hsz) ?_ (closed_set hcl hj hsz) (fun i hi his => ?_) (fun i hi his => ?_) (he.trans hev) hs' (by rw [put_defers]; exact hdf) (by rw [put_size]; exact hn) (fun k' o' d a' hk' ha' hd' hlst => ?_) (fun t b hb hno => ?_)
          · have := togo_set listed (p + k) hjf ops.size
            rw [show decide (p + k < ops.size) = true from by simp [hjs]] at this
            simp only [cond_true] at this
            omega
          · rw [hset, if_neg (by omega)]; exact hlo i hi his
          · rw [hset, if_neg (by omega)]; exact hhi i hi his
          · have hlt' : k' < l.length := (List.getElem?_eq_some_iff.1 hk').1
            by_cases e : k' = k
            · subst e
              rw [hlk] at hk'
              cases hk'
              rw [hak] at ha'
              cases ha'
              refine ⟨v, ?_, hv⟩
              have hdn : d < n := hd o (List.mem_of_getElem? hlk) d hd'
              rw [hd']
              simp only [Act.put]
              rw [Array.getElem?_setIfInBounds_self, if_pos (hn.symm ▸ hdn)]
            · rw [hset, if_neg (by omega)] at hlst
              obtain ⟨u, u1, u2⟩ := hA k' o' d a' hk' ha' hd' hlst
              refine ⟨u, ?_, u2.evo hs hev⟩
              have ho' : ops[p + k']? = some o' := by rw [← hl k' (by omega)]; exact hk'
              have hne : o.dst ≠ some d := by
                rcases Nat.lt_or_gt_of_ne e with h | h
                · exact (((chk (p + k) hjs).1 ⟨hjp, hjq⟩ (p + k') (by omega) (by omega)).1 d o' o ho' hd' ho).2
                · intro hod
                  exact (((chk (p + k') (by omega)).1 ⟨by omega, by omega⟩ (p + k) (by omega) (by omega)).1 d o o' ho hod ho').2 hd'
              cases hod : o.dst with
              | none => exact u1
              | some d' =>
                simp only [Act.put]
                rw [Array.getElem?_setIfInBounds_ne (fun h => hne (by rw [hod, h]))]
                exact u1
          · have hnd : o.dst ≠ some t := by
              intro h
              have := hno k o hlk h
              rw [hset, if_pos rfl] at this
              cases this
            obtain ⟨u, u1, u2⟩ := hB t b hb (fun k' o' hk' hd' => by
              have h1 := hno k' o' hk' hd'
              rw [hset] at h1
              split at h1
              · cases h1
              · exact h1)
            refine ⟨u, ?_, u2.evo hs hev⟩
            cases hod : o.dst with
            | none => exact u1
            | some d' =>
              simp only [Act.put]
              rw [Array.getElem?_setIfInBounds_ne (fun h => hnd (by rw [hod, h]))]
              exact u1
        have opr : ∀ x ∈ o.op.operands, ∀ b, aval (envUp env l as k) x = some b → Rep ok L w b (act.eval x) := fun x hx b hb => aval_rep (fun t ht a ha => known t (operand_mem (by subst ht; exact hx)) a ha) hb
        unfold wpOp
        rw [ho]
        simp only
        cases hst with
        | plain hg hk => rw [if_pos (by simp [Region.wanted, hg])]; exact .inl (hk ok L w act hs opr _ _ next)
        | take g d b og hg hog hod hb hk =>
          obtain ⟨v, v1, v2⟩ := known d (guard_mem hg hog hod) _ hb
          have hv := rep_bool v2
          subst hv
          rw [if_pos (by simp [Region.wanted, hg, yielded, hog, hod, v1])]
          exact .inl (hk ok L w act hs opr _ _ next)
        | pass g d b og hg hog hod hb ha =>
          obtain ⟨v, v1, v2⟩ := known d (guard_mem hg hog hod) _ hb
          have hv := rep_bool v2
          subst hv
          rw [if_neg (by cases b <;> simp [Region.wanted, hg, yielded, hog, hod, v1])]
          subst ha
          exact next undef w ok L (.refl _ _ _ _) hs (RepC.v _)
theorem aany_seg {p q : Nat} {l : List Oper} {as : List AVal} {env env' : Env} (hok : segOK ops p q = true) (hl : (ops.toList.drop p).take (q - p) = l) (hpq : p ≤ q) (hq : QL P ops σ env l as env') (hd : ∀ o ∈ l, ∀ d, o.dst = some d → d < n) (hnext : AAny P n ops Q q env' σ) : AAny P n ops Q p env σ := by
  intro ok L w act hs hr hdf hn
  have hqs : q ≤ ops.size := by
    simp only [segOK, Bool.and_eq_true, decide_eq_true_eq] at hok
    exact hok.1.1
  have hlen : l.length = q - p := by rw [← hl]; simp; omega
  refine seg_core (env := env) (as := as) (env' := env') hok (fun k hk => ?_) hlen hpq hq hd hnext (ops.size - p) (prefixB ops.size p) ok L w act (prefix_size _ _) (by rw [togo_prefix _ _ _ (Nat.le_refl _)]) ?_ (fun i hi his => by rw [prefix_get, if_pos his]; simp [hi]) (fun i hi his => by rw [prefix_get, if_pos his]; simp; omega) (.refl _ _ _ _) hs hdf hn (fun k o d a hk ha hd' hlst => ?_) (fun t a ht _ => hr t a ht)
  · rw [← hl, List.getElem?_take, if_pos hk, List.getElem?_drop]; simp
  · have hlow : ∀ (j : Nat) (o : Oper), ops[j]? = some o → ∀ e ∈ o.after, Region.binds .any e = true → e.on < j := by
      intro j o ho e he hb
      simp only [segOK, Bool.and_eq_true] at hok
      have h := List.all_eq_true.1 hok.1.2 j (List.mem_range.2 (Array.getElem?_eq_some_iff.1 ho).1)
      rw [ho] at h
      simp only [List.all_eq_true] at h
      have := h e (by simpa using he)
      simpa [hb] using this
    have hlt : ∀ i j, Before ops i j → i < j := by
      intro i j hb
      induction hb with
      | edge i j o e ho he hbd hon => subst hon; exact hlow j o ho e he hbd
      | trans i j k _ _ ih1 ih2 => omega
    intro i j hb hj
    have h1 := hlt i j hb
    rw [prefix_get] at hj ⊢
    by_cases hjs : j < ops.size
    · rw [if_pos hjs] at hj
      rw [if_pos (by omega)]
      simp at hj ⊢
      omega
    · rw [if_neg hjs] at hj; cases hj
  · have hlt' : k < l.length := (List.getElem?_eq_some_iff.1 hk).1
    rw [prefix_get, if_pos (by omega)] at hlst
    simp at hlst
    omega
def forcedOK (ops : Array Oper) (p : Nat) : Bool := Region.ready .any ops (prefixB ops.size p) == [p]
theorem prefix_succ {m p : Nat} (h : p < m) : (prefixB m p).setIfInBounds p true = prefixB m (p + 1) := by
  apply Array.ext (by simp [prefix_size])
  intro i h1 h2
  have h3 : i < m := by simpa [prefix_size] using h2
  have e1 := getD_set (prefixB m p) p i true
  have e2 := prefix_get m (p + 1) i true
  rw [if_pos h3] at e2
  simp only [Array.getD_eq_getD_getElem?, Array.getElem?_eq_getElem h1, Option.getD_some] at e1
  simp only [Array.getD_eq_getD_getElem?, Array.getElem?_eq_getElem h2, Option.getD_some] at e2
  rw [e1, e2]
  by_cases hp : p = i
  · subst hp; rw [if_pos ⟨rfl, by rw [prefix_size]; exact h⟩]; simp
  · rw [if_neg (fun hh => hp hh.1)]
    have e3 := prefix_get m p i true
    rw [if_pos h3] at e3
    simp only [Array.getD_eq_getD_getElem?] at e3
    rw [e3]
    simp
    omega
theorem aany_forced {p : Nat} {o : Oper} (hok : forcedOK ops p = true) (ho : ops[p]? = some o) (hg : o.guard = none)
    (h : ∀ ok L w act, Sim ok L σ w → RepEnv ok L w env act.tmps → act.defers = [] → act.tmps.size = n → ∀ (K : Act → World → Prop), (∀ env' σ' ok' L' w' act', AAny P n ops Q (p + 1) env' σ' → Evo ok L σ w ok' L' σ' w' → Sim ok' L' σ' w' → RepEnv ok' L' w' env' act'.tmps → act'.defers = [] → act'.tmps.size = n → K act' w') → o.wp P act w K (Post n Q ok L σ w)) :
    AAny P n ops Q p env σ := by
  have hps : p < ops.size := (Array.getElem?_eq_some_iff.1 ho).1
  have hr : Region.ready .any ops (prefixB ops.size p) = [p] := by simpa [forcedOK] using hok
  intro ok L w act h1 h2 h3 h4
  obtain ⟨k, hk⟩ : ∃ k, ops.size - p = k + 1 := ⟨ops.size - p - 1, by omega⟩
  rw [hk]
  refine ⟨fun h0 => ?_, fun i hi => ?_⟩
  · rw [hr] at h0; cases h0
  rw [hr] at hi
  simp only [List.mem_singleton] at hi
  subst hi
  unfold wpOp
  rw [ho]
  simp only
  rw [if_pos (by simp [Region.wanted, hg])]
  refine .inl (h ok L w act h1 h2 h3 h4 _ ?_)
  intro env' σ' ok' L' w' act' hA he hs hr' hdf hn
  rw [prefix_succ hps]
  have e : k = ops.size - (i + 1) := by omega
  subst e
  exact wpAny_monoQ (fun _ _ _ h => Post.after he h) _ _ _ _ (hA ok' L' w' act' hs hr' hdf hn)
theorem aany_op {p : Nat} {o : Oper} {a : AVal} (hok : forcedOK ops p = true) (ho : ops[p]? = some o) (hg : o.guard = none) (hop : OpTo P o (aval env) σ a σ') (hd : ∀ d, o.dst = some d → d < n)
    (k : AAny P n ops Q (p + 1) (env.putd o.dst a) σ') : AAny P n ops Q p env σ :=
  aany_forced hok ho hg fun ok L w act h1 h2 h3 h4 K hK => by
    obtain ⟨v, w', ok', L', hr, he, hs, hv⟩ := hop ok L w act.eval h1 (fun x _ b hx => h2.aval hx)
    have go : K (act.put o.dst v) w' := hK _ _ _ _ _ _ k he hs ((h2.evo h1 he).put hv (fun d hd' => h4 ▸ hd d hd')) (by rw [put_defers]; exact h3) (by rw [put_size]; exact h4)
    unfold Oper.wp
    rcases hr with hr | ⟨hr, rfl⟩
    · rw [hr]; exact go
    · rw [hr]; exact go
theorem aany_call {p : Nat} {f : Operand} {args : Array Operand} {ts : Array TypeId} {fa : AVal} {g : FuncId} {caps : List AVal} {avs : List AVal} {R : AEnd → Store → Prop} {d : Option Tmp} {ty : TypeId} {pos : String} {after : Array Edge} (hok : forcedOK ops p = true) (ho : ops[p]? = some ⟨d, .call { callee := .value f, args := args, argTypes := ts }, ty, pos, after, none⟩) (hin : Into P g)
    (hf : aval env f = some fa) (hc : calleeOf fa = some (g, caps)) (ha : avals (aval env) args.toList = some avs) (h : AC P g (avs ++ caps) σ R) (hd : ∀ t, d = some t → t < n)
    (k : ∀ r σ', R r σ' → match r with | .ret a => AAny P n ops Q (p + 1) (env.putd d a) σ' | .pan a => Q (.panic a) env σ') : AAny P n ops Q p env σ :=
  aany_forced hok ho rfl fun ok L w act h1 h2 h3 h4 K hK => by
    obtain ⟨vs, hrun, hv⟩ := call_run (E := aval env) (d := d) (ty := ty) (pos := pos) (after := after) (guard := none) (ts := ts) hin (fun x _ b hb => h2.aval (x := x) hb) hf hc ha
    unfold Oper.wp
    rw [hrun]
    refine (h ok L w vs h1 hv).mono ?_
    rintro e w' ⟨r, σ', ok', L', hR, he, hs, hx⟩
    have hk := k _ _ hR
    cases r with
    | ret a =>
      cases e with
      | returned v => exact hK _ _ _ _ _ _ hk he hs ((h2.evo h1 he).put hx (fun t ht => h4 ▸ hd t ht)) (by rw [put_defers]; exact h3) (by rw [put_size]; exact h4)
      | _ => exact hx.elim
    | pan a =>
      cases e with
      | panicked chain => exact ⟨.panic a, env, σ', ok', L', hk, he, hs, h2.evo h1 he, h3, h4, hx⟩
      | _ => exact hx.elim
theorem aany_end {p : Nat} (hp : p = ops.size) (hok : (Region.ready .any ops (prefixB ops.size p)).isEmpty = true) (h : Q .normal env σ) : AAny P n ops Q p env σ := by
  intro ok L w act h1 h2 h3 h4
  subst hp
  rw [Nat.sub_self]
  exact ⟨by simpa using hok, .normal, env, σ, ok, L, h, .refl _ _ _ _, h1, h2, h3, h4, trivial⟩
end
end Go.Proofs.YtcgdlhkiecommaaGreatDoor
/- The engine, part 11: maps. -/


namespace Go.Proofs.YtcgdlhkiecommaaGreatDoor
open Go
section
variable {P : Program}
end
section
variable {P : Program} {n : Nat} {Q : APost} {env : Env} {σ σ' : Store} {ops : Array Oper} {rest : List Oper}
variable {E : Operand → Option AVal} {d : Option Tmp} {ty : TypeId} {pos : String} {after : Array Edge} {guard : Option (Nat × Bool)}
def concOf : AVal → Option Value
  | .v x => some x
  | .agg cs => (cs.mapM (fun (a : AVal) => match a with | AVal.v x => some x | _ => none) : Option (List Value)).map fun vs => .agg vs.toArray
  | _ => none
theorem conc_rep {ok : Nat → Prop} {L : Loc} {w : World} {a : AVal} {v k : Value} (h : Rep ok L w a v) (hc : concOf a = some k) : v = k := by
  cases a with
  | v x => simp only [concOf, Option.some.injEq] at hc; subst hc; exact rep_bool h
  | agg cs =>
    obtain ⟨vs, rfl, h2⟩ := h
    simp only [concOf, Option.map_eq_some_iff] at hc
    obtain ⟨us, h3, rfl⟩ := hc
    congr 2
    have key : ∀ (cs : List AVal) (vs us : List Value), All2 (RepL ok L w) cs vs → (cs.mapM fun (a : AVal) => match a with | AVal.v x => some x | _ => none) = some us → vs = us := by
      intro cs
      induction cs with
      | nil => intro vs us h1 h2; cases vs with | nil => simp at h2; exact h2.symm | cons _ _ => exact h1.elim
      | cons c cs ih =>
        intro vs us h1 h2
        cases vs with
        | nil => exact h1.elim
        | cons v vs =>
          rw [List.mapM_cons] at h2
          simp only [bind, Option.bind_eq_some_iff, pure, Option.some.injEq] at h2
          obtain ⟨x, hx, us', h4, rfl⟩ := h2
          cases c with
          | v y =>
            simp only [Option.some.injEq] at hx
            subst hx
            rw [rep_bool (ok := ok) (L := L) (w := w) (x := y) (v := v) h1.1, ih vs us' h1.2 h4]
          | _ => cases hx
    exact key cs vs us h2 h3
  | _ => cases hc
end
end Go.Proofs.YtcgdlhkiecommaaGreatDoor
/- The engine, part 12: what comes in, told; how a law's row is closed. -/








namespace Go.Proofs.YtcgdlhkiecommaaGreatDoor
open Go Go.RowKit
def TyV (P : Program) : Nat → TypeId → List AVal → Prop
  | 0, _, _ => False
  | n + 1, t, cs => match P.underlying t with
    | some .bool => ∃ b, cs = [.v (.bool b)]
    | some (.int k) => ∃ x, (Lit.int k x).wf = true ∧ cs = [.v (.int k x)]
    | some .string => ∃ s : ByteArray, s.size ≤ reachBytes ∧ cs = [.v (.string s)]
    | some (.slice e) => ∃ els : List (List AVal), els.length * P.bytesOf e ≤ reachBytes ∧ (∀ el ∈ els, TyV P n e el) ∧ cs = [.list (P.cellsOf e) els]
    | some (.struct fs) => cs.length = P.cellsOf t ∧ ∀ f ∈ fs.toList, TyV P n f.type ((cs.drop f.offset).take (P.cellsOf f.type))
    | some (.array m e) => cs.length = P.cellsOf t ∧ ∀ i, i < m → TyV P n e ((cs.drop (i * P.cellsOf e)).take (P.cellsOf e))
    | _ => False
def rowed (P : Program) : List Field → Nat → Nat → Bool
  | [], s, e => s == e
  | f :: fs, s, e => f.offset == s && rowed P fs (s + P.cellsOf f.type) e
def closedT (P : Program) (S : List TypeId) : Bool := S.all fun t => match P.underlying t with
  | some .bool | some (.int _) | some .string => true
  | some (.slice e) => S.contains e && decide (0 < P.cellsOf e)
  | some (.struct fs) => fs.toList.all (fun f => S.contains f.type) && rowed P fs.toList 0 (P.cellsOf t)
  | some (.array m e) => S.contains e && P.cellsOf t == m * P.cellsOf e
  | _ => false
section
variable {P : Program} {ok : Nat → Prop} {w : World}
def RepO (ok : Nat → Prop) (w : World) (a : AVal) (v : Value) : Prop := RepC ok w a v ∧ v.oneCell' = true
theorem mapM_get {α β : Type} (f : α → Option β) : ∀ (l : List α) (ys : List β), l.mapM f = some ys → ys.length = l.length ∧ ∀ (i : Nat) (x : α), l[i]? = some x → ∃ y, ys[i]? = some y ∧ f x = some y
  | [], ys, h => by simp at h; subst h; exact ⟨rfl, by simp⟩
  | x :: l, ys, h => by
    rw [List.mapM_cons] at h
    simp only [bind, Option.bind_eq_some_iff, pure, Option.some.injEq] at h
    obtain ⟨y, h1, ys', h2, rfl⟩ := h
    obtain ⟨h3, h4⟩ := mapM_get f l ys' h2
    refine ⟨by simp [h3], fun i z hz => ?_⟩
    cases i with
    | zero => simp at hz; subst hz; exact ⟨y, by simp, h1⟩
    | succ i => simp at hz; obtain ⟨u, h5, h6⟩ := h4 i z hz; exact ⟨u, by simpa using h5, h6⟩
theorem fields_rep {n : Nat} {vs : List Value} : ∀ (fs : List Field) (s e : Nat), rowed P fs s e = true → e ≤ vs.length → (∀ f ∈ fs, ∃ cs, TyV P n f.type cs ∧ All2 (RepO ok w) cs ((vs.drop f.offset).take (P.cellsOf f.type))) →
    s ≤ e ∧ ∃ cs, All2 (RepO ok w) cs ((vs.drop s).take (e - s)) ∧ ∀ f ∈ fs, s ≤ f.offset ∧ TyV P n f.type ((cs.drop (f.offset - s)).take (P.cellsOf f.type))
  | [], s, e, h, he, _ => by
    simp only [rowed, beq_iff_eq] at h
    subst h
    exact ⟨Nat.le_refl _, [], by simp [All2], by simp⟩
  | f :: fs, s, e, h, he, hf => by
    simp only [rowed, Bool.and_eq_true, beq_iff_eq] at h
    obtain ⟨h1, h2⟩ := h
    obtain ⟨hle, cs, c1, c2⟩ := fields_rep fs (s + P.cellsOf f.type) e h2 he (fun g hg => hf g (by simp [hg]))
    obtain ⟨cf, d1, d2⟩ := hf f (by simp)
    rw [h1] at d2
    have hlf : cf.length = P.cellsOf f.type := by
      rw [All2.length _ _ d2]; simp; omega
    refine ⟨by omega, cf ++ cs, ?_, fun g hg => ?_⟩
    · have : (vs.drop s).take (e - s) = (vs.drop s).take (P.cellsOf f.type) ++ (vs.drop (s + P.cellsOf f.type)).take (e - (s + P.cellsOf f.type)) := by
        rw [← List.drop_drop, ← List.take_append_drop (P.cellsOf f.type) ((vs.drop s).take (e - s))]
        congr 1
        · rw [List.take_take]; congr 1; omega
        · rw [List.drop_take]; congr 1; omega
      rw [this]
      exact All2.append d2 c1
    · rcases List.mem_cons.1 hg with rfl | hg
      · refine ⟨by omega, ?_⟩
        rw [h1, Nat.sub_self, List.drop_zero, List.take_append_of_le_length (by omega), List.take_of_length_le (by omega)]
        exact d1
      · obtain ⟨k1, k2⟩ := c2 g hg
        refine ⟨by omega, ?_⟩
        rw [List.drop_append, List.drop_eq_nil_of_le (by omega), List.nil_append, show g.offset - s - cf.length = g.offset - (s + P.cellsOf f.type) from by omega]
        exact k2
theorem array_rep {n e k : Nat} {vs : List Value} (hk : P.cellsOf e = k) : ∀ (m : Nat), m * k ≤ vs.length → (∀ i, i < m → ∃ cs, TyV P n e cs ∧ All2 (RepO ok w) cs ((vs.drop (i * k)).take k)) →
    ∃ cs, All2 (RepO ok w) cs (vs.take (m * k)) ∧ ∀ i, i < m → TyV P n e ((cs.drop (i * k)).take k)
  | 0, _, _ => ⟨[], by simp [All2], by simp⟩
  | m + 1, hl, hf => by
    rw [Nat.add_mul, Nat.one_mul] at hl
    obtain ⟨cs, c1, c2⟩ := array_rep hk m (by omega) (fun i hi => hf i (by omega))
    obtain ⟨cm, d1, d2⟩ := hf m (by omega)
    have hlc : cs.length = m * k := by rw [All2.length _ _ c1]; simp; omega
    have hlm : cm.length = k := by rw [All2.length _ _ d2]; simp; omega
    refine ⟨cs ++ cm, ?_, fun i hi => ?_⟩
    · have : vs.take ((m + 1) * k) = vs.take (m * k) ++ (vs.drop (m * k)).take k := by
        rw [Nat.add_mul, Nat.one_mul, List.take_add]
      rw [this]
      exact All2.append c1 d2
    · by_cases h : i = m
      · subst h
        rw [List.drop_append, List.drop_eq_nil_of_le (by omega), List.nil_append, hlc, Nat.sub_self, List.drop_zero, List.take_of_length_le (by omega)]
        exact d1
      · have h1 := c2 i (by omega)
        have h2 : (i + 1) * k ≤ m * k := Nat.mul_le_mul_right _ (by omega)
        rw [Nat.add_mul, Nat.one_mul] at h2
        rw [List.drop_append_of_le_length (by omega), List.take_append_of_le_length (by simp; omega)]
        exact h1
theorem weightsEach_mem {H : Type} : ∀ (ts : List TypeId) (ds : List (DataW H)) (i : Nat) (t : TypeId) (d : DataW H), ts[i]? = some t → ds[i]? = some d → ∀ n ∈ d.weights P t, n ∈ DataW.weightsEach P ts ds
  | [], _, i, t, d, h, _ => by simp at h
  | _ :: _, [], i, t, d, _, h => by simp at h
  | u :: ts, e :: ds, 0, t, d, h1, h2 => by
    simp at h1 h2; subst h1; subst h2
    intro n hn; simp [DataW.weightsEach, hn]
  | u :: ts, e :: ds, i + 1, t, d, h1, h2 => by
    simp at h1 h2
    intro n hn
    have := weightsEach_mem ts ds i t d h1 h2 n hn
    simp [DataW.weightsEach, this]
theorem weightsAll_mem {H : Type} {t : TypeId} : ∀ (ds : List (DataW H)) (d : DataW H), d ∈ ds → ∀ n ∈ d.weights P t, n ∈ DataW.weightsAll P t ds
  | [], d, h => by simp at h
  | e :: ds, d, h => by
    intro n hn
    rcases List.mem_cons.1 h with rfl | h
    · simp [DataW.weightsAll, hn]
    · have := weightsAll_mem ds d h n hn
      simp [DataW.weightsAll, this]
theorem choose_list {α : Type} {R : Nat → α → Prop} : ∀ n : Nat, (∀ i, i < n → ∃ a, R i a) → ∃ l : List α, l.length = n ∧ ∀ i a, l[i]? = some a → R i a
  | 0, _ => ⟨[], rfl, by simp⟩
  | n + 1, h => by
    obtain ⟨l, h1, h2⟩ := choose_list n (fun i hi => h i (by omega))
    obtain ⟨a, ha⟩ := h n (by omega)
    refine ⟨l ++ [a], by simp [h1], fun i b hb => ?_⟩
    rw [List.getElem?_append] at hb
    split at hb
    · exact h2 i b hb
    · rename_i hi
      have : i = n := by
        have := (List.getElem?_eq_some_iff.1 hb).1
        simp at this
        omega
      subst this
      simp [h1] at hb
      subst hb
      exact ha
theorem cells_get {a : Addr} {k : Nat} {vs : List Value} (h : w.cells? 0 a k = some vs) : vs.length = k ∧ ∀ i v, vs[i]? = some v → w.cell? (a.add i) = some v := by
  unfold World.cells? at h
  rw [if_pos (Nat.zero_le _)] at h
  obtain ⟨h1, h2⟩ := mapM_get _ _ _ h
  simp at h1
  refine ⟨h1, fun i v hv => ?_⟩
  have hi : i < k := by have := (List.getElem?_eq_some_iff.1 hv).1; omega
  obtain ⟨y, h3, h4⟩ := h2 i i (by simp [hi])
  rw [hv] at h3
  cases h3
  exact h4
theorem cell_block {a : Addr} {v : Value} (h : w.cell? a = some v) : a.spot = none ∧ a.block < w.heap.size := by
  unfold World.cell? at h
  split at h
  · rename_i c e f hb
    refine ⟨?_, (Array.getElem?_eq_some_iff.1 hb).1⟩
    split at h
    · cases h
    · rename_i hs; simpa using hs
  · cases h
theorem trod_rep {H : Type} {enc : TypeId × Value → H} {S : List TypeId} (hS : closedT P S = true) (hok : ∀ b, b < w.heap.size → ok b) : ∀ (fuel : Nat) (t : TypeId) (vs : List Value) (d : DataW H) (ps : List MemPlace), t ∈ S →
    DataW.trod enc P w 0 (fun _ => true) true fuel t vs = some (d, ps) → (∀ n ∈ d.weights P t, n ≤ reachBytes) → ∃ cs, TyV P fuel t cs ∧ All2 (RepO ok w) cs vs
  | 0, t, vs, d, ps, _, h, _ => by simp [DataW.trod] at h
  | fuel + 1, t, vs, d, ps, ht, h, hw => by
    have hc := List.all_eq_true.1 hS t ht
    simp only [TyV]
    cases hu : P.underlying t with
    | none => rw [hu] at hc; cases hc
    | some td =>
      rw [hu] at hc
      cases td with
      | bool =>
        obtain ⟨b, rfl, _⟩ := DataW.trod_bool hu h
        exact ⟨[.v (.bool b)], ⟨b, rfl⟩, ⟨RepC.v _, rfl⟩, trivial⟩
      | int k =>
        obtain ⟨x, rfl, _, hx⟩ := DataW.trod_int hu h
        exact ⟨[.v (.int k x)], ⟨x, hx, rfl⟩, ⟨RepC.v _, rfl⟩, trivial⟩
      | string =>
        obtain ⟨s, rfl, he, _⟩ := DataW.trod_string hu h
        cases he
        refine ⟨[.v (.string s)], ⟨s, ?_, rfl⟩, ⟨RepC.v _, rfl⟩, trivial⟩
        have := hw s.data.toList.length (by simp [DataW.weights])
        simpa using this
      | struct fs =>
        obtain ⟨xs, n, hn, hx, hl, hlx, hf⟩ := DataW.trod_struct hu h
        cases hn
        cases hx
        simp only [Bool.and_eq_true, List.all_eq_true, List.contains_iff_mem] at hc
        have key : ∀ f ∈ fs.toList, ∃ cs, TyV P fuel f.type cs ∧ All2 (RepO ok w) cs ((vs.drop f.offset).take (P.cellsOf f.type)) := by
          intro f hf1
          obtain ⟨i, hi, rfl⟩ := List.getElem_of_mem hf1
          have hi' : i < fs.size := by simpa using hi
          have h1 := hf i fs[i] (by simp [hi'])
          have hx1 : i < xs.length := by omega
          rw [List.getElem?_eq_getElem hx1] at h1
          have hi2 : fs.toList[i] = fs[i] := by simp
          rw [hi2]
          refine trod_rep hS hok fuel _ _ xs[i].1 xs[i].2 (by have := hc.1 fs.toList[i] (by simp); rwa [hi2] at this) h1 (fun m hm => hw m ?_)
          simp only [DataW.weights, hu]
          exact weightsEach_mem _ _ i _ _ (by simp [hi']) (by simp [hx1]) m hm
        obtain ⟨_, cs, c1, c2⟩ := fields_rep fs.toList 0 (P.cellsOf t) hc.2 (by omega) key
        rw [List.drop_zero, Nat.sub_zero, List.take_of_length_le (by omega)] at c1
        refine ⟨cs, ⟨by rw [All2.length _ _ c1, hl], fun f hf1 => ?_⟩, c1⟩
        have := (c2 f hf1).2
        simpa using this
      | array m e =>
        obtain ⟨xs, n, hn, hx, hl, hlx, hf⟩ := DataW.trod_array hu h
        cases hn
        cases hx
        simp only [Bool.and_eq_true, List.contains_iff_mem, beq_iff_eq] at hc
        have key : ∀ i, i < m → ∃ cs, TyV P fuel e cs ∧ All2 (RepO ok w) cs ((vs.drop (i * P.cellsOf e)).take (P.cellsOf e)) := by
          intro i hi
          have h1 := hf i hi
          have hx1 : i < xs.length := by omega
          rw [List.getElem?_eq_getElem hx1] at h1
          refine trod_rep hS hok fuel _ _ xs[i].1 xs[i].2 hc.1 h1 (fun q hq => hw q ?_)
          simp only [DataW.weights, hu]
          exact weightsAll_mem _ _ (List.mem_map.2 ⟨_, List.getElem_mem hx1, rfl⟩) q hq
        obtain ⟨cs, c1, c2⟩ := array_rep rfl m (by omega) key
        rw [List.take_of_length_le (by omega)] at c1
        exact ⟨cs, ⟨by rw [All2.length _ _ c1, hl], c2⟩, c1⟩
      | slice e =>
        simp only [Bool.and_eq_true, List.contains_iff_mem] at hc
        rcases DataW.trod_slice hu h with ⟨rfl, hx⟩ | ⟨a, len, cap, elems, rest, n, hn, rfl, hx, _, hlc, _, hle, hel, _, _⟩
        · exact ⟨[.list (P.cellsOf e) []], ⟨[], by simp, by simp, rfl⟩, ⟨RepC.empty _ _ _, rfl⟩, trivial⟩
        · cases hn
          cases hx
          have hwt : (elems.length + rest.length) * P.bytesOf e ≤ reachBytes := hw _ (by simp [DataW.weights, hu])
          have key : ∀ i, i < len → ∃ cs vs, TyV P fuel e cs ∧ w.cells? 0 (a.add (i * P.cellsOf e)) (P.cellsOf e) = some vs ∧ All2 (RepO ok w) cs vs := by
            intro i hi
            have h1 := hel i hi
            have hx1 : i < elems.length := by omega
            rw [List.getElem?_eq_getElem hx1] at h1
            obtain ⟨vs, h2, h3⟩ := Option.bind_eq_some_iff.1 h1
            obtain ⟨cs, c1, c2⟩ := trod_rep hS hok fuel _ _ elems[i].1 elems[i].2 hc.1 h3 (fun q hq => hw q (by
              simp only [DataW.weights, hu]
              refine List.mem_cons_of_mem _ (List.mem_append_left _ (weightsAll_mem _ _ (List.mem_map.2 ⟨_, List.getElem_mem hx1, rfl⟩) q hq))))
            exact ⟨cs, vs, c1, h2, c2⟩
          obtain ⟨els, hl, hels⟩ := choose_list (R := fun i cs => ∃ vs, TyV P fuel e cs ∧ w.cells? 0 (a.add (i * P.cellsOf e)) (P.cellsOf e) = some vs ∧ All2 (RepO ok w) cs vs) len (fun i hi => let ⟨cs, vs, h⟩ := key i hi; ⟨cs, vs, h⟩)
          have hty : ∀ el ∈ els, TyV P fuel e el := by
            intro el hel
            obtain ⟨i, hi, rfl⟩ := List.getElem_of_mem hel
            obtain ⟨vs, h1, _⟩ := hels i _ (List.getElem?_eq_getElem hi)
            exact h1
          refine ⟨[.list (P.cellsOf e) els], ⟨els, Nat.le_trans (Nat.mul_le_mul_right _ (by omega)) hwt, hty, rfl⟩, ⟨?_, rfl⟩, trivial⟩
          by_cases h0 : len = 0
          · have : els = [] := List.length_eq_zero_iff.1 (by omega)
            subst this
            rw [h0]
            exact RepC.empty _ _ _
          · have hcell : ∀ i e' j av, els[i]? = some e' → e'[j]? = some av → ∃ v, w.cell? ((a.add (i * P.cellsOf e)).add j) = some v ∧ v.oneCell' = true ∧ RepC ok w av v := by
              intro i e' j av h1 h2
              obtain ⟨vs, _, h4, h5⟩ := hels i e' h1
              obtain ⟨h6, h7⟩ := cells_get h4
              obtain ⟨v, h8, h9⟩ := All2.get _ _ h5 j av h2
              exact ⟨v, h7 j v h8, h9.2, h9.1⟩
            have hlen : ∀ e' ∈ els, e'.length = P.cellsOf e := by
              intro e' he'
              obtain ⟨i, hi, rfl⟩ := List.getElem_of_mem he'
              obtain ⟨vs, _, h4, h5⟩ := hels i _ (List.getElem?_eq_getElem hi)
              rw [All2.length _ _ h5, (cells_get h4).1]
            have hpos : 0 < P.cellsOf e := by simpa using hc.2
            have h00 : ∃ v, w.cell? a = some v := by
              have hl0 : 0 < els.length := by omega
              have h1 := List.getElem?_eq_getElem hl0
              have h2 := hlen _ (List.getElem_mem hl0)
              obtain ⟨v, h3, _⟩ := hcell 0 _ 0 _ h1 (List.getElem?_eq_getElem (by omega))
              exact ⟨v, by simpa [Addr.add] using h3⟩
            obtain ⟨v0, h00⟩ := h00
            obtain ⟨hsp, hbl⟩ := cell_block h00
            obtain ⟨b, o, sp⟩ := a
            cases hsp
            have hadd : ∀ i j, ((⟨b, o, none⟩ : Addr).add (i * P.cellsOf e)).add j = ⟨b, o + i * P.cellsOf e + j, none⟩ := by
              intro i j
              rw [Addr.add_add]
              unfold Addr.add
              split
              · rename_i h; simp [Nat.add_eq_zero_iff.1 h]
              · simp; omega
            let cv : Nat → Nat → Value := fun i j => (w.cell? ⟨b, o + i * P.cellsOf e + j, none⟩).getD .nilIface
            rw [← hl]
            refine RepC.list _ els b o cap cv (hok b hbl) (by omega) hlen (fun i e' j av h1 h2 => ?_) (fun i e' j av h1 h2 => ?_) (fun i e' j av h1 h2 => ?_)
            all_goals (obtain ⟨v, h3, h4, h5⟩ := hcell i e' j av h1 h2; rw [hadd] at h3; simp [cv, h3])
            · exact h4
            · exact h5
      | _ => simp at hc
def argOf (P : Program) (t : TypeId) (cs : List AVal) : AVal := match P.underlying t with
  | some (.struct _) | some (.array _ _) => .agg cs
  | _ => cs.headD .nil
theorem ac_door {f : FuncId} {avs : List AVal} {vs : List Value} {R : AEnd → Store → Prop} (hg : GlobOK (fun b => b < w.heap.size) w) (h : AC P f avs [] R)
    (hv : ∀ L : Loc, All2 (Rep (fun b => b < w.heap.size) L w) avs vs) {a : Value} (hR : ∀ r σ', R r σ' → r = .ret (.v a)) :
    Calls P f vs.toArray w fun e w' => e = .returned a ∧ Below w.heap.size w w' := by
  let L : Loc := ⟨fun _ => 0, fun _ => 0, fun _ => 0, fun _ => 0⟩
  refine (h (fun b => b < w.heap.size) L w vs ⟨?_, ?_, ?_, ?_, hg⟩ (hv L)).mono ?_
  · intro id ver o h; cases h
  · rintro b ⟨id, ver, o, h, _⟩; cases h
  · intro i j vi vj oi oj h; cases h
  · intro b hb; exact ⟨hb, by rintro ⟨id, ver, o, h, _⟩; cases h⟩
  · rintro e w' ⟨r, σ', ok', L', hr, he, hs, hx⟩
    obtain rfl := hR r σ' hr
    cases e with
    | returned v =>
      refine ⟨?_, he.os, he.tape, he.output, he.size, fun k hk => he.same k hk (by rintro ⟨id, ver, o, h, _⟩; cases h)⟩
      have hx' : Rep ok' L' w' (.v a) v := hx
      cases hx' with
      | v => rfl
    | _ => exact hx.elim
end
end Go.Proofs.YtcgdlhkiecommaaGreatDoor
/- The engine, part 13: what is no longer written is told by its content; an empty list to grow; pure contracts; chains of tests; loops. -/

namespace Go.Proofs.YtcgdlhkiecommaaGreatDoor
open Go
def Store.keep (q : Nat → Bool) : Store → Store
  | [] => []
  | (i, x) :: r => match q i with | true => (i, x) :: Store.keep q r | false => Store.keep q r
theorem Store.get_keep (q : Nat → Bool) (σ : Store) (k : Nat) : (σ.keep q).get k = if q k then σ.get k else none := by
  induction σ with
  | nil => simp [Store.keep, Store.get]
  | cons p r ih =>
    obtain ⟨i, x⟩ := p
    simp only [Store.keep, Store.get]
    by_cases e : i = k
    · subst e
      rw [nat_beq_true.2 rfl]
      cases h : q i
      · simp only [h] at ih ⊢; simpa using ih
      · simp only [Store.get, nat_beq_true.2, if_true]
    · rw [nat_beq_false.2 e]
      cases h : q i
      · exact ih
      · simp only [Store.get]
        rw [nat_beq_false.2 e]
        exact ih
inductive FrzL (σ : Store) (q : Nat → Bool) : AVal → AVal → Prop
  | same (a : AVal) : FrzL σ q a a
  | nil (sz : Nat) : FrzL σ q .nil (.list sz [])
  | vnil (sz : Nat) : FrzL σ q (.v (.slice none 0 0)) (.list sz [])
  | slice (id ver off m sz : Nat) (els : List (List AVal)) : q id = false → σ.get id = some (ver, .row sz els) → off + m ≤ els.length → (∀ el ∈ els, el.all AVal.clo1 = true) → FrzL σ q (.slice id ver off m) (.list sz ((els.drop off).take m))
inductive FrzA (σ : Store) (q : Nat → Bool) : AVal → AVal → Prop
  | leaf (a b : AVal) : FrzL σ q a b → FrzA σ q a b
  | agg (as bs : List AVal) : All2 (FrzL σ q) as bs → FrzA σ q (.agg as) (.agg bs)
theorem frz_whole {σ : Store} {q : Nat → Bool} {id ver m sz : Nat} {els : List (List AVal)} (hq : q id = false) (hid : σ.get id = some (ver, .row sz els)) (hm : m = els.length) (hc : ∀ el ∈ els, el.all AVal.clo1 = true) : FrzL σ q (.slice id ver 0 m) (.list sz els) := by
  subst hm
  have := FrzL.slice (σ := σ) (q := q) id ver 0 els.length sz els hq hid (by omega) hc
  simpa using this
section
variable {P : Program} {n : Nat} {Q : APost} {env : Env} {σ σ' : Store} {ops : Array Oper} {rest : List Oper}
theorem Sim.keep {ok : Nat → Prop} {L : Loc} {w : World} (hs : Sim ok L σ w) (q : Nat → Bool) : Sim ok L (σ.keep q) w := by
  have hg : ∀ i x, (σ.keep q).get i = some x → σ.get i = some x := by
    intro i x h
    rw [Store.get_keep] at h
    split at h
    · exact h
    · cases h
  refine ⟨fun id ver o h => hs.objs id ver o (hg _ _ h), fun b ⟨id, ver, o, h1, h2⟩ => hs.lt b ⟨id, ver, o, hg _ _ h1, h2⟩, fun i j vi vj oi oj hi hj => hs.inj i j vi vj oi oj (hg _ _ hi) (hg _ _ hj), fun b hb => ⟨(hs.okd b hb).1, fun ⟨id, ver, o, h1, h2⟩ => (hs.okd b hb).2 ⟨id, ver, o, hg _ _ h1, h2⟩⟩, hs.glob⟩
theorem freeze_core {ok : Nat → Prop} {L : Loc} {w : World} (hs : Sim ok L σ w) (q : Nat → Bool) : ∃ ok' L', Evo ok L σ w ok' L' (σ.keep q) w ∧ Sim ok' L' (σ.keep q) w ∧
    (∀ a b v, FrzL σ q a b → RepL ok L w a v → RepL ok' L' w b v) ∧ (∀ b, Foot L (σ.keep fun i => !q i) b → ok' b) := by
  let dead : Nat → Prop := fun b => Foot L (σ.keep fun i => !q i) b
  let L' : Loc := { L with ver := fun i => if q i then L.ver i else L.ver i + 1 }
  have hg : ∀ i x, (σ.keep q).get i = some x → σ.get i = some x ∧ q i = true := by
    intro i x h
    rw [Store.get_keep] at h
    split at h
    · rename_i e; exact ⟨h, e⟩
    · cases h
  have hd : ∀ i x, (σ.keep fun i => !q i).get i = some x → σ.get i = some x ∧ q i = false := by
    intro i x h
    rw [Store.get_keep] at h
    split at h
    · rename_i e; exact ⟨h, by simpa using e⟩
    · cases h
  have he : Evo ok L σ w (fun b => ok b ∨ dead b) L' (σ.keep q) w := by
    refine ⟨rfl, rfl, rfl, Nat.le_refl _, fun _ _ _ => rfl, ?_, fun _ h => .inl h, ?_, ?_, ?_⟩
    · rintro b _ ⟨id, ver, o, h1, h2, h3⟩; exact ⟨id, ver, o, (hg _ _ h1).1, h2, h3⟩
    · rintro b (h | ⟨id, ver, o, h1, h2, h3⟩) _
      · exact .inl h
      · exact .inr ⟨id, ver, o, (hd _ _ h1).1, h2, h3⟩
    · intro id; simp only [L']; split <;> omega
    · intro id _; exact ⟨rfl, rfl, rfl⟩
  have hs' : Sim (fun b => ok b ∨ dead b) L' (σ.keep q) w := by
    refine ⟨fun id ver o h => ?_, ?_, ?_, ?_, hs.globEvo he⟩
    · obtain ⟨h1, h2⟩ := hg _ _ h
      exact (hs.objs id ver o h1).evo hs he (by simp [L', h2]) (fun _ => rfl)
    · rintro b ⟨id, ver, o, h1, h2, h3⟩; exact hs.lt b ⟨id, ver, o, (hg _ _ h1).1, h2, h3⟩
    · intro i j vi vj oi oj hi hj; exact hs.inj i j vi vj oi oj (hg _ _ hi).1 (hg _ _ hj).1
    · rintro b (h | ⟨id, ver, o, h1, h2, h3⟩)
      · refine ⟨(hs.okd b h).1, ?_⟩
        rintro ⟨id, ver, o, h1, h2, h3⟩
        exact (hs.okd b h).2 ⟨id, ver, o, (hg _ _ h1).1, h2, h3⟩
      · refine ⟨hs.lt b ⟨id, ver, o, (hd _ _ h1).1, h2, h3⟩, ?_⟩
        rintro ⟨j, vj, oj, j1, j2, j3⟩
        have := hs.inj id j ver vj o oj (hd _ _ h1).1 (hg _ _ j1).1 h2 j2 (h3.trans j3.symm)
        subst this
        have e1 := (hd _ _ h1).2
        have e2 := (hg _ _ j1).2
        rw [e1] at e2; cases e2
  refine ⟨_, L', he, hs', fun a b v hf h => ?_, fun b hb => .inr hb⟩
  cases hf with
  | same => exact h.evo hs he
  | nil sz =>
    have : RepC ok w .nil v := h
    cases this
    exact RepC.empty _ _ _
  | vnil sz =>
    have : RepC ok w (.v (.slice none 0 0)) v := h
    cases this
    exact RepC.empty _ _ _
  | slice id ver off m sz els hq hid hm hc =>
    have hid' : (σ.keep fun i => !q i).get id = some (ver, .row sz els) := by rw [Store.get_keep, if_pos (by simp [hq])]; exact hid
    have := LendL.rep (hs.keep fun i => !q i) (.slice id ver off m sz els hid' hm hc) h
    exact this
def FSub (σ : Store) (q : Nat → Bool) (env' env : Env) : Prop := ∀ t b, env'.get t = some b → ∃ a, env.get t = some a ∧ FrzA σ q a b
theorem fsub_nil {q : Nat → Bool} : FSub σ q [] env := fun t b h => by cases h
theorem fsub_cons {q : Nat → Bool} {t : Nat} {a b : AVal} {E : Env} (h : env.get t = some a) (hf : FrzA σ q a b) (hs : FSub σ q E env) : FSub σ q ((t, b) :: E) env := by
  intro u c hu
  rw [Env.get_cons] at hu
  split at hu
  · rename_i e; subst e; cases hu; exact ⟨a, h, hf⟩
  · exact hs u c hu
theorem fsub_same {q : Nat → Bool} : FSub σ q env env := fun t b h => ⟨b, h, .leaf _ _ (.same _)⟩
theorem freeze_env {ok : Nat → Prop} {L : Loc} {w : World} {act : Act} (hs : Sim ok L σ w) (hr : RepEnv ok L w env act.tmps) (q : Nat → Bool) {env' : Env} (hf : FSub σ q env' env) :
    ∃ ok' L', Evo ok L σ w ok' L' (σ.keep q) w ∧ Sim ok' L' (σ.keep q) w ∧ RepEnv ok' L' w env' act.tmps := by
  obtain ⟨ok', L', he, hs', hk, _⟩ := freeze_core hs q
  refine ⟨ok', L', he, hs', fun t b hb => ?_⟩
  obtain ⟨a, ha, hfa⟩ := hf t b hb
  obtain ⟨v, h1, h2⟩ := hr t a ha
  refine ⟨v, h1, ?_⟩
  cases hfa with
  | leaf a b hl =>
    cases hl with
    | same => exact h2.evo hs he
    | nil sz => exact hk _ _ _ (.nil sz) h2
    | vnil sz => exact hk _ _ _ (.vnil sz) h2
    | slice id ver off m sz els h3 h4 h5 h6 => exact hk _ _ _ (.slice id ver off m sz els h3 h4 h5 h6) h2
  | agg as bs hl =>
    obtain ⟨vs, e, h3⟩ := h2
    exact ⟨vs, e, All2.two (S := RepL ok L w) (T := RepL ok' L' w) (fun a b c h1 h4 => hk a b c h1 h4) _ _ _ hl h3⟩
theorem aw_freeze {c : Code} (q : Nat → Bool) {env' : Env} (hf : FSub σ q env' env) (h : AW P n c Q env' (σ.keep q)) : AW P n c Q env σ := fun ok L w act h1 h2 h3 h4 => by
  obtain ⟨ok', L', he, hs', hr'⟩ := freeze_env h1 h2 q hf
  exact wp_mono (h ok' L' w act hs' hr' h3 h4) fun _ _ _ hp => hp.after he
def AVal.nilB : AVal → Bool
  | .nil => true
  | .v (.slice none 0 0) => true
  | _ => false
theorem rep_nil {ok : Nat → Prop} {L : Loc} {w : World} {a : AVal} {v : Value} (hn : a.nilB = true) (h : Rep ok L w a v) : ∃ b, v = .slice b 0 0 := by
  unfold AVal.nilB at hn
  split at hn
  · have h' : RepC ok w .nil v := h
    cases h' with
    | nil b => exact ⟨b, rfl⟩
  · have h' : RepC ok w (.v (.slice none 0 0)) v := h
    cases h' with
    | v => exact ⟨none, rfl⟩
  · cases hn
theorem own_core {ok : Nat → Prop} {L : Loc} {w : World} {act : Act} (hs : Sim ok L σ w) (hr : RepEnv ok L w env act.tmps) (id sz : Nat) {t : Tmp} {a : AVal} (ht : env.get t = some a) (hn : a.nilB = true) :
    ∃ ver L', Evo ok L σ w ok L' (σ.put id ver (.row sz [])) w ∧ Sim ok L' (σ.put id ver (.row sz [])) w ∧ RepEnv ok L' w ((t, .slice id ver 0 0) :: env) act.tmps := by
  obtain ⟨he, hs'⟩ := sim_upd (w' := w) hs id w.heap.size 0 sz (L.ver id + 1) (.row sz []) (by omega) rfl rfl rfl (Nat.le_refl _) (fun _ _ _ => rfl) (.inl (Nat.le_refl _)) (fun h => absurd rfl h)
    (fun _ => ⟨by simp [Loc.upd], by simp [Loc.upd], by simp, by simp, fun h => by simp [Loc.upd] at h⟩)
  refine ⟨_, _, he, hs', fun u b hb => ?_⟩
  rw [Env.get_cons] at hb
  split at hb
  · rename_i e; subst e; cases hb
    obtain ⟨v, h1, h2⟩ := hr t _ ht
    refine ⟨v, h1, ?_⟩
    obtain ⟨b, rfl⟩ := rep_nil hn h2
    exact ⟨by simp [Loc.upd], fun _ => ⟨b, 0, rfl, Nat.le_refl _, by simp [Loc.upd], fun h => by simp [Loc.upd] at h⟩⟩
  · exact (hr.evo hs he) u b hb
theorem aw_own {c : Code} (id sz : Nat) {t : Tmp} {a : AVal} (ht : env.get t = some a) (hn : a.nilB = true) (h : ∀ ver, AW P n c Q ((t, .slice id ver 0 0) :: env) (σ.put id ver (.row sz []))) : AW P n c Q env σ := fun ok L w act h1 h2 h3 h4 => by
  obtain ⟨ver, L', he, hs', hr'⟩ := own_core h1 h2 id sz ht hn
  exact wp_mono (h ver ok L' w act hs' hr' h3 h4) fun _ _ _ hp => hp.after he
def ACp (P : Program) (f : FuncId) (avs : List AVal) (a : AVal) : Prop := ∀ σ, AC P f avs σ (fun r σ' => r = .ret a ∧ σ' = σ)
theorem acp_of {f : FuncId} {avs : List AVal} {a : AVal} (hc : a.clo = true) (h : AC P f avs [] (fun r σ' => r = .ret a ∧ σ' = [])) : ACp P f avs a := fun σ =>
  ac_mono (ac_pure h (by rintro r σ' ⟨rfl, rfl⟩; exact ⟨rfl, hc⟩) σ) (by rintro r σ' ⟨⟨h1, _⟩, h2⟩; exact ⟨h1, h2⟩)
theorem acp_lend {f : FuncId} {avs bvs : List AVal} {a : AVal} (h : ACp P f bvs a) (hs : a.scal = true) (hl : All2 (LendA σ) avs bvs) : AC P f avs σ (fun r σ' => r = .ret a ∧ σ' = σ) :=
  ac_mono (ac_lend (h []) (by rintro r σ' ⟨rfl, rfl⟩; exact ⟨rfl, hs⟩) hl) (by rintro r σ' ⟨⟨h1, _⟩, h2⟩; exact ⟨h1, h2⟩)
inductive ReL : AVal → AVal → Prop
  | same (a : AVal) : ReL a a
  | nil (sz : Nat) : ReL .nil (.list sz [])
  | vnil (sz : Nat) : ReL (.v (.slice none 0 0)) (.list sz [])
inductive ReA : AVal → AVal → Prop
  | leaf (a b : AVal) : ReL a b → ReA a b
  | agg (as bs : List AVal) : All2 ReL as bs → ReA (.agg as) (.agg bs)
theorem ReL.rep {ok : Nat → Prop} {L : Loc} {w : World} {a b : AVal} {v : Value} (h : ReL a b) (hr : RepL ok L w a v) : RepL ok L w b v := by
  cases h with
  | same => exact hr
  | nil sz =>
    have h' : RepC ok w .nil v := hr
    cases h'
    exact RepC.empty _ _ _
  | vnil sz =>
    have h' : RepC ok w (.v (.slice none 0 0)) v := hr
    cases h'
    exact RepC.empty _ _ _
theorem ReA.rep {ok : Nat → Prop} {L : Loc} {w : World} {a b : AVal} {v : Value} (h : ReA a b) (hr : Rep ok L w a v) : Rep ok L w b v := by
  cases h with
  | leaf a b h =>
    cases h with
    | same => exact hr
    | nil sz => exact ReL.rep (L := L) (.nil sz) hr
    | vnil sz => exact ReL.rep (L := L) (.vnil sz) hr
  | agg as bs h =>
    obtain ⟨vs, e, h2⟩ := hr
    exact ⟨vs, e, All2.two (S := RepL ok L w) (T := RepL ok L w) (fun a b c h1 h3 => h1.rep h3) _ _ _ h h2⟩
theorem lend_nil : All2 (LendA σ) [] [] := trivial
theorem lend_cons {a b : AVal} {as bs : List AVal} (h : LendA σ a b) (hs : All2 (LendA σ) as bs) : All2 (LendA σ) (a :: as) (b :: bs) := ⟨h, hs⟩
theorem lend_same {a : AVal} : LendA σ a a := .leaf _ _ (.same _)
theorem lend_whole {id ver m sz : Nat} {els : List (List AVal)} (hid : σ.get id = some (ver, .row sz els)) (hm : m = els.length) (hc : ∀ el ∈ els, el.all AVal.clo1 = true) : LendA σ (.slice id ver 0 m) (.list sz els) := by
  subst hm
  have := LendL.slice (σ := σ) id ver 0 els.length sz els hid (by omega) hc
  exact .leaf _ _ (by simpa using this)
theorem al_callp {f : Operand} {args : Array Operand} {ts : Array TypeId} {fa a : AVal} {g : FuncId} {caps : List AVal} {avs : List AVal} {d : Option Tmp} {ty : TypeId} {pos : String} {after : Array Edge} (hin : Into P g)
    (hf : aval env f = some fa) (hc : calleeOf fa = some (g, caps)) (ha : avals (aval env) args.toList = some avs) (h : AC P g (avs ++ caps) σ (fun r σ' => r = .ret a ∧ σ' = σ)) (hd : ∀ t, d = some t → t < n)
    (k : AL P n ops rest Q (env.putd d a) σ) : AL P n ops (⟨d, .call { callee := .value f, args := args, argTypes := ts }, ty, pos, after, none⟩ :: rest) Q env σ :=
  al_call hin hf hc ha h hd (by rintro r σ' ⟨rfl, rfl⟩; exact k)
theorem al_callp_take {f : Operand} {args : Array Operand} {ts : Array TypeId} {fa a : AVal} {g : FuncId} {caps : List AVal} {avs : List AVal} {d : Option Tmp} {ty : TypeId} {pos : String} {after : Array Edge} {j t : Nat} {og : Oper} {b : Bool} (hin : Into P g)
    (hog : ops[j]? = some og) (hdst : og.dst = some t) (hb : env.get t = some (.v (.bool b)))
    (hf : aval env f = some fa) (hc : calleeOf fa = some (g, caps)) (ha : avals (aval env) args.toList = some avs) (h : AC P g (avs ++ caps) σ (fun r σ' => r = .ret a ∧ σ' = σ)) (hd : ∀ t, d = some t → t < n)
    (k : AL P n ops rest Q (env.putd d a) σ) : AL P n ops (⟨d, .call { callee := .value f, args := args, argTypes := ts }, ty, pos, after, some (j, b)⟩ :: rest) Q env σ :=
  al_call_take hin hog hdst hb hf hc ha h hd (by rintro r σ' ⟨rfl, rfl⟩; exact k)
theorem al_split {l : List Oper} {t : Tmp} {b : Bool} (ht : env.get t = some (.v (.bool b))) (h1 : b = true → AL P n ops l Q ((t, .v (.bool true)) :: env) σ) (h2 : b = false → AL P n ops l Q ((t, .v (.bool false)) :: env) σ) : AL P n ops l Q env σ := by
  have key : ∀ b', b = b' → AL P n ops l Q ((t, .v (.bool b')) :: env) σ → AL P n ops l Q env σ := by
    rintro _ rfl h
    refine al_weaken _ (fun u a hu => ?_) h
    rw [Env.get_cons] at hu
    split at hu
    · rename_i e; subst e; cases hu; exact ht
    · exact hu
  cases hb : b
  · exact key false hb (h2 hb)
  · exact key true hb (h1 hb)
theorem wpList_app {Q' Q1 : Exit → Act → World → Prop} {l2 : List Oper} (hk : ∀ a w, Q1 .normal a w → wpList P ops Q' l2 a w) (h : ∀ e a w, e ≠ .normal → Q1 e a w → Q' e a w) : ∀ (l : List Oper) (a : Act) (w : World), wpList P ops Q1 l a w → wpList P ops Q' (l ++ l2) a w
  | [], a, w, hh => hk _ _ hh
  | o :: l, a, w, hh => by
    have mono : ∀ (K K' : Act → World → Prop), (∀ a w, K a w → K' a w) → o.wp P a w K Q1 → o.wp P a w K' Q' := by
      intro K K' hK
      unfold Oper.wp
      generalize (execOp a.eval o).run P w = r
      cases r with
      | ok n w' =>
        cases n <;> simp only [Oper.upon] <;> first
          | exact hK _ _
          | exact id
          | (intro hc; exact Calls.mono hc (fun e w'' he => by cases e <;> first | exact hK _ _ he | exact h _ _ _ (by simp) he | (obtain ⟨a, w, hq⟩ := he; exact ⟨a, w, h _ _ _ (by simp) hq⟩)))
          | (intro hc; exact Rows.mono hc (fun _ _ he => hK _ _ he))
      | halt x w' => cases x <;> simp only [Oper.upon] <;> first | exact id | exact h _ _ _ (by simp)
    show wpList P ops Q' (o :: (l ++ l2)) a w
    unfold wpList at hh ⊢
    split
    · rename_i hw
      rw [if_pos hw] at hh
      rcases hh with hh | ⟨h1, a1, w1, h2⟩
      · exact .inl (mono _ _ (fun a w => wpList_app hk h l a w) hh)
      · exact .inr ⟨h1, a1, w1, h _ _ _ (by simp) h2⟩
    · rename_i hw
      rw [if_neg hw] at hh
      exact wpList_app hk h l _ _ hh
theorem al_cut (k : Nat) {l : List Oper} (K : Env → Store → Prop) (h : AL P n ops (l.take k) (AExit.then K Q) env σ) (hk : ∀ env' σ', K env' σ' → AL P n ops (l.drop k) Q env' σ') : AL P n ops l Q env σ := by
  intro ok L w act h1 h2 h3 h4
  have := wpList_app (l2 := l.drop k) (Q' := Post n Q ok L σ w) ?_ ?_ _ _ _ (h ok L w act h1 h2 h3 h4)
  · rwa [List.take_append_drop] at this
  · rintro a w1 ⟨ae, env', σ', ok', L', hq, he, hs, hr, hd, hn, hx⟩
    cases ae <;> simp only [ExitRep] at hx
    exact wpList_after (fun _ _ _ hp => Post.after he hp) _ _ _ (hk env' σ' hq ok' L' w1 a hs hr hd hn)
  · rintro e a w1 hne ⟨ae, env', σ', ok', L', hq, hrest⟩
    refine ⟨ae, env', σ', ok', L', ?_, hrest⟩
    cases ae
    · obtain ⟨_, _, _, _, _, hx⟩ := hrest
      cases e <;> simp only [ExitRep] at hx
      exact absurd rfl hne
    all_goals exact hq
theorem al_or (k t d : Nat) {l : List Oper} {b c : Bool} (ht : env.get t = some (.v (.bool b)))
    (h2 : b = false → AL P n ops (l.take k) (fun e env' σ' => e = .normal ∧ σ' = σ ∧ env'.get d = some (.v (.bool c)) ∧ ∀ u a, u ≠ d → env.get u = some a → env'.get u = some a) ((t, .v (.bool false)) :: env) σ)
    (h1 : b = true → AL P n ops (l.take k) (fun e env' σ' => e = .normal ∧ σ' = σ ∧ env'.get d = some (.v (.bool true)) ∧ ∀ u a, u ≠ d → env.get u = some a → env'.get u = some a) ((t, .v (.bool true)) :: env) σ)
    (hk : AL P n ops (l.drop k) Q ((d, .v (.bool (b || c))) :: env) σ) : AL P n ops l Q env σ := by
  refine al_cut k (fun env' σ' => σ' = σ ∧ env'.get d = some (.v (.bool (b || c))) ∧ ∀ u a, u ≠ d → env.get u = some a → env'.get u = some a) ?_ ?_
  · refine al_split ht (fun h => ?_) (fun h => ?_)
    · refine fun ok L w act g1 g2 g3 g4 => wpList_after (fun _ _ _ hp => Post.mono (fun ae env' σ' hq => ?_) hp) _ _ _ (h1 h ok L w act g1 g2 g3 g4)
      obtain ⟨rfl, q1, q2, q3⟩ := hq
      exact ⟨q1, by rw [q2, h]; rfl, q3⟩
    · refine fun ok L w act g1 g2 g3 g4 => wpList_after (fun _ _ _ hp => Post.mono (fun ae env' σ' hq => ?_) hp) _ _ _ (h2 h ok L w act g1 g2 g3 g4)
      obtain ⟨rfl, q1, q2, q3⟩ := hq
      exact ⟨q1, by rw [q2, h]; rfl, q3⟩
  · rintro env' σ' ⟨rfl, h3, h4⟩
    refine al_weaken _ (fun u a hu => ?_) hk
    rw [Env.get_cons] at hu
    split at hu
    · rename_i e; subst e; cases hu; exact h3
    · rename_i e; exact h4 u a (Ne.symm e) hu
theorem al_and (k t d : Nat) {l : List Oper} {b c : Bool} (ht : env.get t = some (.v (.bool b)))
    (h2 : b = true → AL P n ops (l.take k) (fun e env' σ' => e = .normal ∧ σ' = σ ∧ env'.get d = some (.v (.bool c)) ∧ ∀ u a, u ≠ d → env.get u = some a → env'.get u = some a) ((t, .v (.bool true)) :: env) σ)
    (h1 : b = false → AL P n ops (l.take k) (fun e env' σ' => e = .normal ∧ σ' = σ ∧ env'.get d = some (.v (.bool false)) ∧ ∀ u a, u ≠ d → env.get u = some a → env'.get u = some a) ((t, .v (.bool false)) :: env) σ)
    (hk : AL P n ops (l.drop k) Q ((d, .v (.bool (b && c))) :: env) σ) : AL P n ops l Q env σ := by
  refine al_cut k (fun env' σ' => σ' = σ ∧ env'.get d = some (.v (.bool (b && c))) ∧ ∀ u a, u ≠ d → env.get u = some a → env'.get u = some a) ?_ ?_
  · refine al_split ht (fun h => ?_) (fun h => ?_)
    · refine fun ok L w act g1 g2 g3 g4 => wpList_after (fun _ _ _ hp => Post.mono (fun ae env' σ' hq => ?_) hp) _ _ _ (h2 h ok L w act g1 g2 g3 g4)
      obtain ⟨rfl, q1, q2, q3⟩ := hq
      exact ⟨q1, by rw [q2, h]; rfl, q3⟩
    · refine fun ok L w act g1 g2 g3 g4 => wpList_after (fun _ _ _ hp => Post.mono (fun ae env' σ' hq => ?_) hp) _ _ _ (h1 h ok L w act g1 g2 g3 g4)
      obtain ⟨rfl, q1, q2, q3⟩ := hq
      exact ⟨q1, by rw [q2, h]; rfl, q3⟩
  · rintro env' σ' ⟨rfl, h3, h4⟩
    refine al_weaken _ (fun u a hu => ?_) hk
    rw [Env.get_cons] at hu
    split at hu
    · rename_i e; subst e; cases hu; exact h3
    · rename_i e; exact h4 u a (Ne.symm e) hu
def Sub (E env : Env) : Prop := ∀ t a, E.get t = some a → env.get t = some a
theorem sub_nil : Sub [] env := fun t a h => by cases h
theorem sub_cons {t : Nat} {a : AVal} {E : Env} (h : env.get t = some a) (hs : Sub E env) : Sub ((t, a) :: E) env := by
  intro u c hu
  rw [Env.get_cons] at hu
  split at hu
  · rename_i e; subst e; cases hu; exact h
  · exact hs u c hu
theorem get_as {t : Nat} {a b : AVal} (h : env.get t = some a) (e : a = b) : env.get t = some b := e ▸ h
end
end Go.Proofs.YtcgdlhkiecommaaGreatDoor
/- The engine, part 14: rules in the form in which the printed walks use them. -/





namespace Go.Proofs.YtcgdlhkiecommaaGreatDoor
open Go
section
variable {P : Program} {n : Nat} {Q : APost} {env : Env} {σ σ' : Store} {ops : Array Oper} {rest : List Oper}
variable {E : Operand → Option AVal} {d : Option Tmp} {ty : TypeId} {pos : String} {after : Array Edge} {guard : Option (Nat × Bool)}
theorem quo_nn {a b : Int} (h0 : 0 ≤ a) (h1 : a ≤ 9223372036854775807) (hb : 0 < b) : IntKind.i64.wrap (a.tdiv b) = a / b := by
  rw [Int.tdiv_eq_ediv_of_nonneg h0]
  have h2 : a / b ≤ a := Int.ediv_le_self b h0
  have h3 : 0 ≤ a / b := Int.ediv_nonneg h0 (by omega)
  exact wrap_i64 (by omega) (by omega)
theorem rem_nn {a b : Int} (h0 : 0 ≤ a) : a.tmod b = a % b := Int.tmod_eq_emod_of_nonneg h0
theorem op_min {x y : Operand} {ts : Array TypeId} {k : IntKind} {a b : Int} (hx : E x = some (.v (.int k a))) (hy : E y = some (.v (.int k b))) : OpTo P ⟨d, .call { callee := .builtin .min, args := #[x, y], argTypes := ts }, ty, pos, after, guard⟩ E σ (.v (.int k (min a b))) σ :=
  op_two (by simp [Op.operands, Call.operands]) (by simp [Op.operands, Call.operands]) hx hy fun ρ w h1 h2 => by
    simp [execOp, resolve, invoke, builtin, Builtin.min_, Builtin.min2, h1, h2]
    split <;> omega
theorem op_max {x y : Operand} {ts : Array TypeId} {k : IntKind} {a b : Int} (hx : E x = some (.v (.int k a))) (hy : E y = some (.v (.int k b))) : OpTo P ⟨d, .call { callee := .builtin .max, args := #[x, y], argTypes := ts }, ty, pos, after, guard⟩ E σ (.v (.int k (max a b))) σ :=
  op_two (by simp [Op.operands, Call.operands]) (by simp [Op.operands, Call.operands]) hx hy fun ρ w h1 h2 => by
    simp [execOp, resolve, invoke, builtin, Builtin.max_, Builtin.max2, h1, h2]
    split <;> omega
theorem op_index_map {α : Type} {x ix : Operand} {t e sz : Nat} {f : α → List AVal} {l : List α} {i : Int} {j : Nat} {k : IntKind} {inf : TypeInfo} (dflt : α) (ht : P.underlying t = some (.slice e)) (hi : P.info? e = some inf) (hsz : inf.size = sz)
    (hx : E x = some (.list sz (l.map f))) (hix : E ix = some (.v (.int k i))) (hj : i.toNat = j) (h0 : 0 ≤ i) (hlt : j < l.length) : OpTo P ⟨d, .indexAddr t x ix, ty, pos, after, guard⟩ E σ (.rptr (f (l.getD j dflt))) σ := by
  subst hj
  refine op_index_list ht hi hsz hx hix h0 ?_
  rw [List.getElem?_map, List.getElem?_eq_getElem hlt, List.getD_eq_getElem?_getD, List.getElem?_eq_getElem hlt]
  rfl
inductive SrcIs (σ : Store) (sz : Nat) : AVal → List (List AVal) → Prop
  | list (els : List (List AVal)) : SrcIs σ sz (.list sz els) els
  | nil : SrcIs σ sz .nil []
  | vnil : SrcIs σ sz (.v (.slice none 0 0)) []
  | str (s : ByteArray) : sz = 1 → SrcIs σ sz (.v (.string s)) (s.data.toList.map fun b => [.v (.int .u8 b.toNat)])
  | row (id ver m : Nat) (els : List (List AVal)) : σ.get id = some (ver, .row sz els) → m = els.length → SrcIs σ sz (.slice id ver 0 m) els
theorem SrcIs.src {sz : Nat} {b : AVal} {news : List (List AVal)} (h : SrcIs σ sz b news) (h0 : 0 < sz) : ∀ ok L w v, Sim ok L σ w → Rep ok L w b v → Src P ok L w sz v news := by
  intro ok L w v hs hr
  cases h with
  | list els => exact src_list h0 hr
  | nil => exact src_nil hr
  | vnil =>
    have := rep_bool hr
    subst this
    exact src_nil (.nil none)
  | str s h1 =>
    subst h1
    have := rep_bool hr
    subst this
    exact src_string s
  | row id ver m els h1 h2 =>
    subst h2
    have := src_slice (P := P) h0 hs h1 (off := 0) (m := news.length) (by omega) hr
    simpa using this
theorem op_append_map {α : Type} {f : α → List AVal} {l k : List α} {x y : Operand} {t u e sz id ver m : Nat} {ud : TypeDesc} {inf : TypeInfo} {z : Value} {b : AVal} {news : List (List AVal)} (ht : P.underlying t = some (.slice e)) (hu : P.underlying u = some ud) (hn : notInt ud = true) (hi : P.info? e = some inf) (hz : inf.zero = some z)
    (hsz : inf.size = sz) (h0 : 0 < sz) (hzs : z.cells.toList.length = sz) (hx : E x = some (.slice id ver 0 m)) (hid : σ.get id = some (ver, .row sz (l.map f))) (hm : m = l.length) (hy : E y = some b) (hb : SrcIs σ sz b news) (hk : news = k.map f)
    (h63 : l.length + k.length ≤ 9223372036854775807) (hby : (l.length + k.length) * inf.bytes ≤ 140737488355328) :
    OpR P ⟨d, .call { callee := .builtin .append, args := #[x, y], argTypes := #[t, u] }, ty, pos, after, guard⟩ E σ (fun r σ' => ∃ ver', r = .slice id ver' 0 (l ++ k).length ∧ σ' = σ.put id ver' (.row sz ((l ++ k).map f))) := by
  subst hk hm
  have := op_append (P := P) (E := E) (σ := σ) (d := d) (ty := ty) (pos := pos) (after := after) (guard := guard) id ht hu hn hi hz hsz h0 hzs hx hy (Head.row ver l.length (l.map f) hid (by simp)) (hb.src h0) (by simpa using h63) (by simpa using hby)
  rw [List.take_of_length_le (by simp)] at this
  simpa using this
theorem op_append_one {α : Type} {f : α → List AVal} {l : List α} {x y : Operand} {t u e sz id ver m : Nat} {ud : TypeDesc} {inf : TypeInfo} {z : Value} {els : List (List AVal)} (a : α) (ht : P.underlying t = some (.slice e)) (hu : P.underlying u = some ud) (hn : notInt ud = true) (hi : P.info? e = some inf) (hz : inf.zero = some z)
    (hsz : inf.size = sz) (h0 : 0 < sz) (hzs : z.cells.toList.length = sz) (hx : E x = some (.slice id ver 0 m)) (hid : σ.get id = some (ver, .row sz (l.map f))) (hm : m = l.length) (hy : E y = some (.list sz els)) (hk : els = [f a])
    (h63 : l.length + 1 ≤ 9223372036854775807) (hby : (l.length + 1) * inf.bytes ≤ 140737488355328) :
    OpR P ⟨d, .call { callee := .builtin .append, args := #[x, y], argTypes := #[t, u] }, ty, pos, after, guard⟩ E σ (fun r σ' => ∃ ver', r = .slice id ver' 0 (l ++ [a]).length ∧ σ' = σ.put id ver' (.row sz ((l ++ [a]).map f))) :=
  op_append_map (k := [a]) ht hu hn hi hz hsz h0 hzs hx hid hm hy (.list _) hk (by simpa using h63) (by simpa using hby)
theorem clo_map {α : Type} {f : α → List AVal} {l : List α} (h : ∀ x, (f x).all AVal.clo1 = true) : ∀ el ∈ l.map f, el.all AVal.clo1 = true := by
  intro el hel
  obtain ⟨x, _, rfl⟩ := List.mem_map.1 hel
  exact h x
theorem aw_own_map {α : Type} {c : Code} (f : α → List AVal) (id sz : Nat) (t : Tmp) {a : AVal} (ht : env.get t = some a) (hn : a.nilB = true) (h : ∀ ver, AW P n c Q ((t, .slice id ver 0 ([] : List α).length) :: env) (σ.put id ver (.row sz (([] : List α).map f)))) : AW P n c Q env σ := aw_own id sz ht hn h
def Env.del (X : List Nat) : Env → Env
  | [] => []
  | (i, x) :: r => match X.contains i with | true => Env.del X r | false => (i, x) :: Env.del X r
theorem Env.get_del (X : List Nat) (env : Env) (t : Nat) : (env.del X).get t = if X.contains t then none else env.get t := by
  induction env with
  | nil => simp [Env.del, Env.get]
  | cons p r ih =>
    obtain ⟨i, x⟩ := p
    simp only [Env.del]
    split
    · rename_i h
      rw [ih, Env.get_cons]
      by_cases e : i = t
      · subst e; simp only [h, if_true]
      · rw [if_neg e]
    · rename_i h
      rw [Env.get_cons, Env.get_cons, ih]
      by_cases e : i = t
      · subst e; simp only [h, if_true]; simp
      · simp only [if_neg e]
theorem Env.get_app (a b : Env) (t : Nat) : (a ++ b : Env).get t = match a.get t with | some x => some x | none => b.get t := by
  induction a with
  | nil => rfl
  | cons p r ih =>
    obtain ⟨i, x⟩ := p
    show Env.get ((i, x) :: (r ++ b)) t = _
    rw [Env.get_cons, Env.get_cons, ih]
    by_cases e : i = t <;> simp [e]
def SubX (X : List Nat) (env env' : Env) : Prop := ∀ t a, X.contains t = false → env.get t = some a → env'.get t = some a
theorem subx_refl {X : List Nat} : SubX X env env := fun _ _ _ h => h
theorem subx_del {X : List Nat} : SubX X env (env.del X) := fun t a h1 h2 => by rw [Env.get_del, h1]; exact h2
theorem subx_put {X : List Nat} {k : Nat} {x : AVal} {env1 : Env} (h : (X.contains k || (env.get k).isNone) = true) (hs : SubX X env env1) : SubX X env ((k, x) :: env1) := by
  intro t a h1 h2
  rw [Env.get_cons]
  by_cases e : k = t
  · subst e
    rw [h1, h2] at h
    cases h
  · rw [if_neg e]; exact hs t a h1 h2
theorem subx_known {X : List Nat} {k : Nat} {b b' : Bool} {env1 : Env} (hg : env.get k = some (.v (.bool b))) (hb : b = b') (hs : SubX X env env1) : SubX X env ((k, .v (.bool b')) :: env1) := by
  subst hb
  intro t a h1 h2
  rw [Env.get_cons]
  by_cases e : k = t
  · subst e; rw [hg] at h2; rw [if_pos rfl]; exact h2
  · rw [if_neg e]; exact hs t a h1 h2
theorem keep_of {k : Nat} {env1 : Env} (h : SubX [k] env env1) : ∀ u a, u ≠ k → env.get u = some a → env1.get u = some a :=
  fun u a h1 h2 => h u a (by simpa using h1) h2
theorem aw_for {c : Code} {ι : Type} (X drop : List Nat) (μ : ι → Nat) (Inv : ι → Prop) (mods : ι → Env) (S : ι → Store) (i0 : ι) (h0 : Inv i0) (hE : Sub (mods i0) env) (hS : σ = S i0)
    (round : ∀ i, Inv i → AW P n c (AExit.then (fun env' σ' => ∃ j, μ j < μ i ∧ Inv j ∧ Sub (mods j) env' ∧ SubX X env env' ∧ σ'.keep (fun k => !drop.contains k) = S j) Q) (mods i ++ env.del X) (S i)) : AW P n (.loop c) Q env σ := by
  subst hS
  have hsub : ∀ i env', Sub (mods i) env' → SubX X env env' → ∀ t a, (mods i ++ env.del X : Env).get t = some a → env'.get t = some a := by
    intro i env' h1 h2 t a h
    rw [Env.get_app] at h
    cases hm : (mods i).get t with
    | some x => rw [hm] at h; cases h; exact h1 t _ hm
    | none =>
      rw [hm] at h
      simp only at h
      rw [Env.get_del] at h
      cases hc : X.contains t
      · rw [hc] at h; exact h2 t a hc h
      · rw [hc] at h; cases h
  refine aw_weaken _ (hsub i0 env hE subx_refl) (aw_loop (fun m env1 σ1 => ∃ i q, m = μ i ∧ Inv i ∧ (∀ t a, (mods i ++ env.del X : Env).get t = some a → env1.get t = some a) ∧ σ1.keep q = S i) (μ i0) ⟨i0, fun _ => true, rfl, h0, fun _ _ h => h, ?_⟩ ?_)
  · have : ∀ s : Store, s.keep (fun _ => true) = s := by
      intro s
      induction s with
      | nil => rfl
      | cons p r ih => obtain ⟨i, x⟩ := p; simp only [Store.keep, ih]
    exact this _
  · rintro m env1 σ1 ⟨i, q, rfl, hi, hsb, hk⟩
    refine aw_weaken _ hsb (aw_freeze q fsub_same ?_)
    rw [hk]
    refine aw_mono ?_ (round i hi)
    intro e env2 σ2 hq
    cases e <;> try exact hq
    obtain ⟨j, j1, j2, j3, j4, j5⟩ := hq
    exact ⟨μ j, j1, j, _, rfl, j2, hsub j env2 j3 j4, j5⟩
theorem aw_for2 {c : Code} {α β : Type} (X drop : List Nat) (μ : α → β → Nat) (Inv : α → β → Prop) (mods : α → β → Env) (S : α → β → Store) (a0 : α) (b0 : β) (h0 : Inv a0 b0) (hE : Sub (mods a0 b0) env) (hS : σ = S a0 b0)
    (round : ∀ a b, Inv a b → AW P n c (AExit.then (fun env' σ' => ∃ a' b', μ a' b' < μ a b ∧ Inv a' b' ∧ Sub (mods a' b') env' ∧ SubX X env env' ∧ σ'.keep (fun k => !drop.contains k) = S a' b') Q) (mods a b ++ env.del X) (S a b)) : AW P n (.loop c) Q env σ :=
  aw_for X drop (fun p : α × β => μ p.1 p.2) (fun p => Inv p.1 p.2) (fun p => mods p.1 p.2) (fun p => S p.1 p.2) (a0, b0) h0 hE hS (fun p hp => aw_mono (fun e env2 σ2 hq => by
    cases e <;> try exact hq
    obtain ⟨a', b', h⟩ := hq
    exact ⟨(a', b'), h⟩) (round p.1 p.2 hp))
theorem aw_for3 {c : Code} {α β γ : Type} (X drop : List Nat) (μ : α → β → γ → Nat) (Inv : α → β → γ → Prop) (mods : α → β → γ → Env) (S : α → β → γ → Store) (a0 : α) (b0 : β) (c0 : γ) (h0 : Inv a0 b0 c0) (hE : Sub (mods a0 b0 c0) env) (hS : σ = S a0 b0 c0)
    (round : ∀ a b c', Inv a b c' → AW P n c (AExit.then (fun env' σ' => ∃ a' b' c'', μ a' b' c'' < μ a b c' ∧ Inv a' b' c'' ∧ Sub (mods a' b' c'') env' ∧ SubX X env env' ∧ σ'.keep (fun k => !drop.contains k) = S a' b' c'') Q) (mods a b c' ++ env.del X) (S a b c')) : AW P n (.loop c) Q env σ :=
  aw_for X drop (fun p : α × β × γ => μ p.1 p.2.1 p.2.2) (fun p => Inv p.1 p.2.1 p.2.2) (fun p => mods p.1 p.2.1 p.2.2) (fun p => S p.1 p.2.1 p.2.2) (a0, b0, c0) h0 hE hS (fun p hp => aw_mono (fun e env2 σ2 hq => by
    cases e <;> try exact hq
    obtain ⟨a', b', c', h⟩ := hq
    exact ⟨(a', b', c'), h⟩) (round p.1 p.2.1 p.2.2 hp))
end
end Go.Proofs.YtcgdlhkiecommaaGreatDoor
/- The engine, part 15: more rules for printed walks. -/

namespace Go.Proofs.YtcgdlhkiecommaaGreatDoor
open Go
section
variable {P : Program} {n : Nat} {Q : APost} {env : Env} {σ σ' : Store} {ops : Array Oper} {rest : List Oper}
variable {E : Operand → Option AVal} {d : Option Tmp} {ty : TypeId} {pos : String} {after : Array Edge} {guard : Option (Nat × Bool)}
theorem op_len_map {α : Type} {f : α → List AVal} {l : List α} {x : Operand} {t e sz : Nat} (ht : P.underlying t = some (.slice e)) (hx : E x = some (.list sz (l.map f))) : OpTo P ⟨d, .call { callee := .builtin .len, args := #[x], argTypes := #[t] }, ty, pos, after, guard⟩ E σ (.v (.int .i64 l.length)) σ := by
  have := op_len_list (P := P) (E := E) (σ := σ) (d := d) (ty := ty) (pos := pos) (after := after) (guard := guard) ht hx
  rwa [List.length_map] at this
theorem op_load_map {α : Type} {f : α → List AVal} {l : List α} {x : Operand} {t : TypeId} {td : TypeDesc} {inf : TypeInfo} {id ver i j sz : Nat} {a : AVal} [Inhabited α] (ht : P.underlying t = some td) (hi : P.info? t = some inf) (hx : E x = some (.ptr id ver i j)) (hid : σ.get id = some (ver, .row sz (l.map f))) (hel : i < l.length)
    (ha : asOne (TypeDesc.isAggB td) inf.size ((f (l.getD i default)).drop j) = some a) : OpTo P ⟨d, .load t x, ty, pos, after, guard⟩ E σ a σ := by
  refine op_load_ptr ht hi hx hid (el := f (l.getD i default)) ?_ ha
  rw [List.getElem?_map, List.getElem?_eq_getElem hel, List.getD_eq_getElem?_getD, List.getElem?_eq_getElem hel]
  rfl
theorem op_store_map {α : Type} {f : α → List AVal} {l : List α} {x y : Operand} {t : TypeId} {inf : TypeInfo} {id ver i j sz : Nat} {a : AVal} [Inhabited α] (b : α) (hi : P.info? t = some inf) (hx : E x = some (.ptr id ver i j)) (hy : E y = some a) (hid : σ.get id = some (ver, .row sz (l.map f))) (hel : i < l.length)
    (hsz : inf.size = a.cells.length) (h1 : a.cells.all AVal.oneB = true) (hl : a.cells.all (AVal.live σ) = true) (hfit : j + a.cells.length ≤ (f (l.getD i default)).length) (hb : splice (f (l.getD i default)) j a.cells = f b) :
    OpTo P ⟨d, .store t x y, ty, pos, after, guard⟩ E σ (.v undef) (σ.put id ver (.row sz ((l.set i b).map f))) := by
  have := op_store_ptr (P := P) (E := E) (σ := σ) (d := d) (ty := ty) (pos := pos) (after := after) (guard := guard) (el := f (l.getD i default)) hi hx hy hid (by
    rw [List.getElem?_map, List.getElem?_eq_getElem hel, List.getD_eq_getElem?_getD, List.getElem?_eq_getElem hel]
    rfl) hsz h1 hl hfit
  rw [hb] at this
  rwa [List.map_set]
theorem op_sindex_at {x y : Operand} {t : TypeId} {s : ByteArray} {i : Int} {j : Nat} {k : IntKind} (ht : P.underlying t = some .string) (hx : E x = some (.v (.string s))) (hy : E y = some (.v (.int k i))) (hj : i.toNat = j) (h0 : 0 ≤ i) (h1 : j < s.size) : OpTo P ⟨d, .index t x y, ty, pos, after, guard⟩ E σ (.v (.int .u8 ((s.data.toList.getD j default).toNat : Int))) σ := by
  subst hj
  have := op_sindex (P := P) (E := E) (σ := σ) (d := d) (ty := ty) (pos := pos) (after := after) (guard := guard) ht hx hy h0 h1
  have e : s.data.toList.getD i.toNat default = s[i.toNat]'h1 := by
    have h2 : i.toNat < s.data.toList.length := by simpa using h1
    rw [List.getD_eq_getElem?_getD, List.getElem?_eq_getElem h2]
    simp
    rfl
  rwa [e]
theorem op_makeN {α : Type} {f : α → List AVal} {t e : TypeId} {x y : Operand} {inf : TypeInfo} {z : Value} {k k' : IntKind} {m : Int} (id : Nat) (z0 : α) (ht : P.underlying t = some (.slice e)) (hi : P.info? e = some inf) (hz : inf.zero = some z) (hsz : z.cells.toList.length = inf.size) (h0 : inf.size ≠ 0) (hz1 : z.cells.toList.all Value.oneCell' = true)
    (hx : E x = some (.v (.int k m))) (hy : E y = some (.v (.int k' m))) (hf : f z0 = z.cells.toList.map .v) (hm : 0 ≤ m) (hb : (inf.bytes : Int) * m ≤ 281474976710656) (h63 : m ≤ 9223372036854775807) :
    OpR P ⟨d, .makeSlice t x y, ty, pos, after, guard⟩ E σ (fun r σ' => ∃ ver, r = .slice id ver 0 (List.replicate m.toNat z0).length ∧ σ' = σ.put id ver (.row inf.size ((List.replicate m.toNat z0).map f))) := by
  have := op_make (P := P) (E := E) (σ := σ) (d := d) (ty := ty) (pos := pos) (after := after) (guard := guard) id ht hi hz hsz h0 hz1 hx hy hm hb h63
  rw [List.map_replicate, hf, List.length_replicate]
  exact this
theorem ql_plain {env' : Env} {o : Oper} {a : AVal} {as : List AVal} (hg : o.guard = none) (h : OpTo P o (aval env) σ a σ) (k : QL P ops σ (env.putd o.dst a) rest as env') : QL P ops σ env (o :: rest) (a :: as) env' :=
  QL.cons _ _ _ _ _ _ (QStep.plain hg (opk_of h)) k
theorem ql_call {env' : Env} {as : List AVal} {f : Operand} {args : Array Operand} {ts : Array TypeId} {fa a : AVal} {g : FuncId} {caps : List AVal} {avs : List AVal} (hin : Into P g)
    (hf : aval env f = some fa) (hc : calleeOf fa = some (g, caps)) (ha : avals (aval env) args.toList = some avs) (h : AC P g (avs ++ caps) σ (fun r σ' => r = .ret a ∧ σ' = σ)) (k : QL P ops σ (env.putd d a) rest as env') :
    QL P ops σ env (⟨d, .call { callee := .value f, args := args, argTypes := ts }, ty, pos, after, none⟩ :: rest) (a :: as) env' :=
  QL.cons _ _ _ _ _ _ (QStep.plain rfl (opk_call hin hf hc ha h)) k
theorem acp_lent {f : FuncId} {avs bvs : List AVal} {a : AVal} (hl : All2 (LendA σ) avs bvs) (h : ACp P f bvs a) (hs : a.scal = true) : AC P f avs σ (fun r σ' => r = .ret a ∧ σ' = σ) := acp_lend h hs hl
theorem ql_take {env' : Env} {o : Oper} {a : AVal} {as : List AVal} {g t : Nat} {b : Bool} {og : Oper} (hg : o.guard = some (g, b)) (hog : ops[g]? = some og) (hdst : og.dst = some t) (hb : env.get t = some (.v (.bool b))) (h : OpTo P o (aval env) σ a σ) (k : QL P ops σ (env.putd o.dst a) rest as env') : QL P ops σ env (o :: rest) (a :: as) env' :=
  QL.cons _ _ _ _ _ _ (QStep.take g t b og hg hog hdst hb (opk_of h)) k
theorem ql_call_take {env' : Env} {as : List AVal} {f : Operand} {args : Array Operand} {ts : Array TypeId} {fa a : AVal} {g : FuncId} {caps : List AVal} {avs : List AVal} {j t : Nat} {b : Bool} {og : Oper} (hin : Into P g)
    (hog : ops[j]? = some og) (hdst : og.dst = some t) (hb : env.get t = some (.v (.bool b)))
    (hf : aval env f = some fa) (hc : calleeOf fa = some (g, caps)) (ha : avals (aval env) args.toList = some avs) (h : AC P g (avs ++ caps) σ (fun r σ' => r = .ret a ∧ σ' = σ)) (k : QL P ops σ (env.putd d a) rest as env') :
    QL P ops σ env (⟨d, .call { callee := .value f, args := args, argTypes := ts }, ty, pos, after, some (j, b)⟩ :: rest) (a :: as) env' :=
  QL.cons _ _ _ _ _ _ (QStep.take j t b og rfl hog hdst hb (opk_call hin hf hc ha h)) k
theorem ql_pass {env' : Env} {o : Oper} {as : List AVal} {g t : Nat} {b : Bool} {og : Oper} (hg : o.guard = some (g, b)) (hog : ops[g]? = some og) (hdst : og.dst = some t) (hb : env.get t = some (.v (.bool (!b)))) (k : QL P ops σ (env.putd o.dst (.v undef)) rest as env') : QL P ops σ env (o :: rest) (.v undef :: as) env' :=
  QL.cons _ _ _ _ _ _ (QStep.pass g t b og hg hog hdst hb rfl) k
theorem aany_weaken {p : Nat} (env' : Env) (hsub : ∀ t a, env'.get t = some a → env.get t = some a) (h : AAny P n ops Q p env' σ) : AAny P n ops Q p env σ :=
  fun ok L w act h1 h2 h3 h4 => h ok L w act h1 (h2.weaken hsub) h3 h4
theorem aany_known {p q t dd : Nat} {l : List Oper} {b c v : Bool} (hok : segOK ops p q = true) (hl : (ops.toList.drop p).take (q - p) = l) (hpq : p ≤ q) (ht : env.get t = some (.v (.bool b))) (hd : ∀ o ∈ l, ∀ d, o.dst = some d → d < n)
    (hb : b = v) (h : ∃ as env', QL P ops σ ((t, .v (.bool v)) :: env) l as env' ∧ env'.get dd = some (.v (.bool c)) ∧ SubX [dd] env env')
    (hnext : AAny P n ops Q q ((dd, .v (.bool c)) :: env) σ) : AAny P n ops Q p env σ := by
  subst hb
  obtain ⟨as, env', h1, h2, h3⟩ := h
  refine aany_weaken ((t, .v (.bool b)) :: env) (fun u a hu => ?_) (aany_seg hok hl hpq h1 hd (aany_weaken _ (fun u a hu => ?_) hnext))
  · rw [Env.get_cons] at hu
    split at hu
    · rename_i e; subst e; cases hu; exact ht
    · exact hu
  · rw [Env.get_cons] at hu
    split at hu
    · rename_i e; subst e; cases hu; exact h2
    · rename_i e; exact h3 u a (by simp; omega) hu
theorem aany_or (p q t dd : Nat) {l : List Oper} {b c : Bool} (hok : segOK ops p q = true) (hl : (ops.toList.drop p).take (q - p) = l) (hpq : p ≤ q) (ht : env.get t = some (.v (.bool b))) (hd : ∀ o ∈ l, ∀ d, o.dst = some d → d < n)
    (h2 : b = false → ∃ as env', QL P ops σ ((t, .v (.bool false)) :: env) l as env' ∧ env'.get dd = some (.v (.bool c)) ∧ SubX [dd] env env')
    (h1 : b = true → ∃ as env', QL P ops σ ((t, .v (.bool true)) :: env) l as env' ∧ env'.get dd = some (.v (.bool true)) ∧ SubX [dd] env env')
    (hnext : AAny P n ops Q q ((dd, .v (.bool (b || c))) :: env) σ) : AAny P n ops Q p env σ := by
  cases hb : b
  · rw [hb] at hnext; exact aany_known hok hl hpq ht hd hb (h2 hb) hnext
  · rw [hb] at hnext; exact aany_known hok hl hpq ht hd hb (h1 hb) hnext
theorem aany_and (p q t dd : Nat) {l : List Oper} {b c : Bool} (hok : segOK ops p q = true) (hl : (ops.toList.drop p).take (q - p) = l) (hpq : p ≤ q) (ht : env.get t = some (.v (.bool b))) (hd : ∀ o ∈ l, ∀ d, o.dst = some d → d < n)
    (h2 : b = true → ∃ as env', QL P ops σ ((t, .v (.bool true)) :: env) l as env' ∧ env'.get dd = some (.v (.bool c)) ∧ SubX [dd] env env')
    (h1 : b = false → ∃ as env', QL P ops σ ((t, .v (.bool false)) :: env) l as env' ∧ env'.get dd = some (.v (.bool false)) ∧ SubX [dd] env env')
    (hnext : AAny P n ops Q q ((dd, .v (.bool (b && c))) :: env) σ) : AAny P n ops Q p env σ := by
  cases hb : b
  · rw [hb] at hnext; exact aany_known hok hl hpq ht hd hb (h1 hb) hnext
  · rw [hb] at hnext; exact aany_known hok hl hpq ht hd hb (h2 hb) hnext
theorem ql_ex {l : List Oper} {as : List AVal} {env0 env' : Env} {dd : Nat} {c : Bool} (h : QL P ops σ env0 l as env') (h1 : env'.get dd = some (.v (.bool c))) (h2 : SubX [dd] env env') : ∃ as env', QL P ops σ env0 l as env' ∧ env'.get dd = some (.v (.bool c)) ∧ SubX [dd] env env' := ⟨as, env', h, h1, h2⟩
theorem op_list {α : Type} {t e m sz : Nat} {parts : Array (Nat × Operand)} {inf : TypeInfo} {z : Value} {pa : List (Nat × AVal)} {res : List AVal} (f : α → List AVal) (l : List α) (ht : P.underlying t = some (.slice e)) (hi : P.info? e = some inf) (hz : inf.zero = some z) (hsz : inf.size = sz) (h0 : 0 < sz) (hzs : z.cells.toList.length = sz) (hm : m * sz ≤ 16777216)
    (hp : partsA E parts.toList = some pa) (ho : pa.all (fun p => okPart σ p.2) = true) (hf : fillA (fun i => some (i * sz, sz)) ((List.replicate m (z.cells.toList.map .v)).flatten) pa = some res) (h1 : res.all AVal.oneB = true) (hc : res.all AVal.clo1 = true) (hl : chunk sz m res = l.map f) :
    OpTo P ⟨d, .buildSlice t m parts, ty, pos, after, guard⟩ E σ (.list sz (l.map f)) σ := hl ▸ op_buildSlice ht hi hz hsz h0 hzs hm hp ho hf h1 hc
theorem op_list_own {α : Type} {t e m sz : Nat} {parts : Array (Nat × Operand)} {inf : TypeInfo} {z : Value} {pa : List (Nat × AVal)} {res : List AVal} (f : α → List AVal) (l : List α) (id : Nat) (ht : P.underlying t = some (.slice e)) (hi : P.info? e = some inf) (hz : inf.zero = some z) (hsz : inf.size = sz) (h0 : 0 < sz) (hzs : z.cells.toList.length = sz) (hm : m * sz ≤ 16777216)
    (hp : partsA E parts.toList = some pa) (ho : pa.all (fun p => okPart σ p.2) = true) (hf : fillA (fun i => some (i * sz, sz)) ((List.replicate m (z.cells.toList.map .v)).flatten) pa = some res) (h1 : res.all AVal.oneB = true) (hl' : res.all (AVal.live σ) = true) (hl : chunk sz m res = l.map f) (hml : m = l.length) :
    OpR P ⟨d, .buildSlice t m parts, ty, pos, after, guard⟩ E σ (fun r σ' => ∃ ver, r = .slice id ver 0 l.length ∧ σ' = σ.put id ver (.row sz (l.map f))) := by
  have := op_buildSlice_own (P := P) (E := E) (σ := σ) (d := d) (ty := ty) (pos := pos) (after := after) (guard := guard) id ht hi hz hsz h0 hzs hm hp ho hf h1 hl'
  rw [hl, hml] at this
  rw [hml]
  exact this
theorem ql_nil : QL P ops σ env [] [] env := QL.nil env
theorem aw_forT {c : Code} {ι : Type} (X drop : List Nat) (μ : ι → Nat) (Inv : ι → Prop) (mods : ι → Env) (T : ι → Store → Store) (i0 : ι) (h0 : Inv i0) (hE : Sub (mods i0) env) (hS : σ = T i0 σ)
    (round : ∀ i, Inv i → AW P n c (AExit.then (fun env' σ' => ∃ j, μ j < μ i ∧ Inv j ∧ Sub (mods j) env' ∧ SubX X env env' ∧ σ'.keep (fun k => !drop.contains k) = T j σ) Q) (mods i ++ env.del X) (T i σ)) : AW P n (.loop c) Q env σ :=
  aw_for X drop μ Inv mods (fun i => T i σ) i0 h0 hE hS round
theorem aw_for2T {c : Code} {α β : Type} (X drop : List Nat) (μ : α → β → Nat) (Inv : α → β → Prop) (mods : α → β → Env) (T : α → β → Store → Store) (a0 : α) (b0 : β) (h0 : Inv a0 b0) (hE : Sub (mods a0 b0) env) (hS : σ = T a0 b0 σ)
    (round : ∀ a b, Inv a b → AW P n c (AExit.then (fun env' σ' => ∃ a' b', μ a' b' < μ a b ∧ Inv a' b' ∧ Sub (mods a' b') env' ∧ SubX X env env' ∧ σ'.keep (fun k => !drop.contains k) = T a' b' σ) Q) (mods a b ++ env.del X) (T a b σ)) : AW P n (.loop c) Q env σ :=
  aw_for2 X drop μ Inv mods (fun a b => T a b σ) a0 b0 h0 hE hS round
theorem aw_for3T {c : Code} {α β γ : Type} (X drop : List Nat) (μ : α → β → γ → Nat) (Inv : α → β → γ → Prop) (mods : α → β → γ → Env) (T : α → β → γ → Store → Store) (a0 : α) (b0 : β) (c0 : γ) (h0 : Inv a0 b0 c0) (hE : Sub (mods a0 b0 c0) env) (hS : σ = T a0 b0 c0 σ)
    (round : ∀ a b c', Inv a b c' → AW P n c (AExit.then (fun env' σ' => ∃ a' b' c'', μ a' b' c'' < μ a b c' ∧ Inv a' b' c'' ∧ Sub (mods a' b' c'') env' ∧ SubX X env env' ∧ σ'.keep (fun k => !drop.contains k) = T a' b' c'' σ) Q) (mods a b c' ++ env.del X) (T a b c' σ)) : AW P n (.loop c) Q env σ :=
  aw_for3 X drop μ Inv mods (fun a b c => T a b c σ) a0 b0 c0 h0 hE hS round
end
theorem getD_mem {α : Type} [Inhabited α] {v : List α} {i : Nat} (h : i < v.length) : v.getD i default ∈ v := by
  rw [List.getD_eq_getElem?_getD, List.getElem?_eq_getElem h]
  exact List.getElem_mem h
def encB (x : Int) : List AVal := [.v (.int .u8 x)]
def encY (b : UInt8) : List AVal := [.v (.int .u8 b.toNat)]
end Go.Proofs.YtcgdlhkiecommaaGreatDoor
