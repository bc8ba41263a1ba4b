/- The engine, part 19: results told by their content; calls that write among quiet operations; equal structs and arrays. -/
import Derived.Test.YtnnklpmgncbgnaaGreatEngR
import Derived.DeepKeys
set_option linter.unusedVariables false
set_option linter.unusedSimpArgs false
namespace Go.Proofs.YtnnklpmgncbgnaaGreat
open Go

instance : Inhabited AVal := ⟨.nil⟩

/-! ### A result, told by its content -/
inductive FrzT (σ : Store) (q : Nat → Bool) : AVal → AVal → Prop
  | one (a b : AVal) : FrzA σ q a b → FrzT σ q a b
  | tuple (as bs : List AVal) : All2 (FrzA σ q) as bs → FrzT σ q (.tuple as) (.tuple bs)
theorem frz2_nil {σ : Store} {q : Nat → Bool} : All2 (FrzL σ q) [] [] := trivial
theorem frz2_cons {σ : Store} {q : Nat → Bool} {a b : AVal} {as bs : List AVal} (h : FrzL σ q a b) (hs : All2 (FrzL σ q) as bs) : All2 (FrzL σ q) (a :: as) (b :: bs) := ⟨h, hs⟩
theorem frz3_nil {σ : Store} {q : Nat → Bool} : All2 (FrzA σ q) [] [] := trivial
theorem frz3_cons {σ : Store} {q : Nat → Bool} {a b : AVal} {as bs : List AVal} (h : FrzA σ q a b) (hs : All2 (FrzA σ q) as bs) : All2 (FrzA σ q) (a :: as) (b :: bs) := ⟨h, hs⟩
def AVal.flat2 : AVal → Bool
  | .tuple _ | .agg _ | .fn _ _ => false
  | _ => true
theorem frzA_rep {ok ok' : Nat → Prop} {L L' : Loc} {w : World} {σ σ' : Store} {q : Nat → Bool} (hs : Sim ok L σ w) (he : Evo ok L σ w ok' L' σ' w) (hk : ∀ a b v, FrzL σ q a b → RepL ok L w a v → RepL ok' L' w b v) {a b : AVal} {v : Value} (h : FrzA σ q a b) (hr : RepA ok L w a v) : RepA ok' L' w b v := by
  cases h with
  | leaf a b hl =>
    cases hl with
    | same => exact hr.evo hs he
    | nil sz => exact hk _ _ _ (.nil sz) hr
    | vnil sz => exact hk _ _ _ (.vnil sz) hr
    | slice id ver off m sz els h3 h4 h5 h6 => exact hk _ _ _ (.slice id ver off m sz els h3 h4 h5 h6) hr
  | agg as bs hl =>
    obtain ⟨vs, e, h3⟩ := hr
    exact ⟨vs, e, All2.two (S := RepL ok L w) (T := RepL ok' L' w) (fun a b c h1 h4 => hk a b c h1 h4) _ _ _ hl h3⟩
theorem frzT_rep {ok ok' : Nat → Prop} {L L' : Loc} {w : World} {σ σ' : Store} {q : Nat → Bool} (hs : Sim ok L σ w) (he : Evo ok L σ w ok' L' σ' w) (hk : ∀ a b v, FrzL σ q a b → RepL ok L w a v → RepL ok' L' w b v) {a b : AVal} {v : Value} (h : FrzT σ q a b) (hr : Rep ok L w a v) : Rep ok' L' w b v := by
  cases h with
  | one a b hl =>
    cases hl with
    | leaf a b hl =>
      cases hl with
      | same => exact hr.evo hs he
      | nil sz => exact hk _ _ _ (.nil sz) hr
      | vnil sz => exact hk _ _ _ (.vnil sz) hr
      | slice id ver off m sz els h3 h4 h5 h6 => exact hk _ _ _ (.slice id ver off m sz els h3 h4 h5 h6) hr
    | agg as bs hl =>
      obtain ⟨vs, e, h3⟩ := hr
      exact ⟨vs, e, All2.two (S := RepL ok L w) (T := RepL ok' L' w) (fun a b c h1 h4 => hk a b c h1 h4) _ _ _ hl h3⟩
  | tuple as bs hl =>
    obtain ⟨vs, e, h3⟩ := hr
    exact ⟨vs, e, All2.two (S := RepA ok L w) (T := RepA ok' L' w) (fun a b c h1 h4 => frzA_rep hs he hk h1 h4) _ _ _ hl h3⟩
theorem ac_frz {P : Program} {f : FuncId} {avs : List AVal} {σ : Store} {R R' : AEnd → Store → Prop} (q : Nat → Bool) (h : AC P f avs σ R) (hR : ∀ r σ1, R r σ1 → ∃ a b, r = .ret a ∧ FrzT σ1 q a b ∧ R' (.ret b) (σ1.keep q)) : AC P f avs σ R' := by
  intro ok L w vs hs hv
  refine (h ok L w vs hs hv).mono ?_
  rintro e w' ⟨r, σ1, ok', L', hr, he, hs', hx⟩
  obtain ⟨a, b, rfl, hf, hb⟩ := hR r σ1 hr
  obtain ⟨ok2, L2, he2, hs2, hk, _⟩ := freeze_core hs' q
  refine ⟨.ret b, _, ok2, L2, hb, he.trans he2, hs2, ?_⟩
  cases e with
  | returned v => exact frzT_rep hs' he2 hk hf (show Rep ok' L' w' a v from hx)
  | _ => exact hx.elim

section
variable {P : Program} {n : Nat} {Q : APost} {env env0 : Env} {σ σ' : Store} {ops : Array Oper} {steps : List Stp} {rem : List Nat}
/-- A call that may write, among quiet operations. -/
theorem afl_call {e : Nat} {f : Operand} {args : Array Operand} {ts : Array TypeId} {fa : AVal} {g : FuncId} {caps : List AVal} {avs : List AVal} {R : AEnd → Store → Prop} {d : Option Tmp} {ty : TypeId} {pos : String} {after : Array Edge} (ho : ops[e]? = some ⟨d, .call { callee := .value f, args := args, argTypes := ts }, ty, pos, after, none⟩) (hok : effOK ops e rem = true) (hin : Into P g)
    (hf : aval env f = some fa) (hc : calleeOf fa = some (g, caps)) (ha : avals (aval env) args.toList = some avs) (h : AC P g (avs ++ caps) σ R) (hd : ∀ t, d = some t → t < n)
    (k : ∀ r σ', R r σ' → ∃ a, r = .ret a ∧ Loose P ops e σ' steps ∧ AFl P n ops Q env0 (⟨e, a, env, true⟩ :: steps.map (fixS ops e)) rem (env.putd d a) σ') : AFl P n ops Q env0 steps (e :: rem) env σ :=
  afl_forced ho rfl hok hd fun ok L w act hs hr K hK => by
    obtain ⟨vs, hrun, hv⟩ := call_run (E := aval env) (d := d) (ty := ty) (pos := pos) (after := after) (guard := none) (ts := ts) hin hr hf hc ha
    unfold Oper.wp
    rw [hrun]
    refine (h ok L w vs hs hv).mono ?_
    rintro x w' ⟨r, σ', ok', L', hR, he, hs', hx⟩
    obtain ⟨a, rfl, k1, k2⟩ := k _ _ hR
    cases x with
    | returned v => exact hK _ _ _ _ _ _ k1 k2 he hs' hx
    | _ => exact hx.elim
end

section
variable {P : Program} {n : Nat} {Q : APost} {env : Env} {σ : Store} {ops : Array Oper} {rest : List Oper}
/-- What hangs on an operation that was not wanted is not wanted either. -/
theorem al_pass_undef {o : Oper} {g d : Nat} {og : Oper} {b : Bool} (hg : o.guard = some (g, b)) (hog : ops[g]? = some og) (hdst : og.dst = some d) (hb : env.get d = some (.v undef)) (hd : ∀ d, o.dst = some d → d < n)
    (k : AL P n ops rest Q (env.putd o.dst (.v undef)) σ) : AL P n ops (o :: rest) Q env σ :=
  fun ok L w act h1 h2 h3 h4 => wpList_step fun K hK => by
    obtain ⟨v, v1, v2⟩ := h2 d _ hb
    have hv := rep_bool v2
    subst hv
    rw [if_neg (by simp [Region.wanted, hg, yielded, hog, hdst, v1, undef])]
    refine hK _ _ (k ok L w _ h1 ?_ ?_ ?_)
    · exact h2.put (RepC.v _) (fun d hd' => h4 ▸ hd d hd')
    · rw [put_defers]; exact h3
    · rw [put_size]; exact h4
end
/-! ### Equal structs and arrays -/
section
variable {P : Program} {σ : Store} {E : Operand → Option AVal} {d : Option Tmp} {ty : TypeId} {pos : String} {after : Array Edge} {guard : Option (Nat × Bool)}
theorem equal_deep {t : TypeId} {m : Nat} {xs ys : Array Value} {D : Nat} {la lb : List Lit} {r : Bool} (hm : m ≤ 10000) (hk : P.keyTypeAt m t = true) (fx : (Value.agg xs).formed P t = true) (fy : (Value.agg ys).formed P t = true) (hx : P.keyLits D t xs.toList = some la) (hy : P.keyLits D t ys.toList = some lb) (hr : r = true ↔ la = lb) (w : World) :
    (Op.equal t (.agg xs) (.agg ys)).run P w = .ok r w := by
  obtain ⟨r', h1, h2⟩ := run_equalIn_deep (10000 - m) m t hk w D D _ _ la lb fx fy hx hy
  have e : 10000 - m + m = 10000 := by omega
  rw [e] at h1
  have e2 : r' = r := by rw [Bool.eq_iff_iff, h2, hr]
  subst e2
  exact h1
theorem op_aeq {t u : TypeId} {x y : Operand} {a b : AVal} {xs ys : Array Value} {r : Bool} (hx : E x = some a) (hy : E y = some b) (ha : concOf a = some (.agg xs)) (hb : concOf b = some (.agg ys)) (hg : P.eqGuardType P.depth t = false) (h : ∀ w, (Op.equal t (.agg xs) (.agg ys)).run P w = .ok r w) :
    OpTo P ⟨d, .binOp .eql t x y u, ty, pos, after, guard⟩ E σ (.v (.bool r)) σ :=
  op_value fun ok L w ρ hs hr => by
    have h1 := conc_rep (hr x (by simp [Op.operands]) _ hx) ha
    have h2 := conc_rep (hr y (by simp [Op.operands]) _ hy) hb
    refine ⟨.bool r, ?_, RepC.v _⟩
    simp only [execOp, h1, h2]
    simp [run_eqGuard_agg, hg, binOp, h]
theorem op_snil_own {x y : Operand} {t u e id ver m : Nat} {ob : AObj} (ht : P.underlying t = some (.slice e)) (hx : E x = some (.slice id ver 0 m)) (hid : σ.get id = some (ver, ob)) (hy : E y = some (.v (.slice none 0 0))) :
    OpR P ⟨d, .binOp .eql t x y u, ty, pos, after, guard⟩ E σ (fun a σ' => (∃ b, a = .v (.bool b) ∧ (b = true → m = 0)) ∧ σ' = σ) := by
  intro ok L w ρ hs hr
  have h1 := hr x (by simp [Op.operands]) _ hx
  have h2 := rep_bool (hr y (by simp [Op.operands]) _ hy)
  obtain ⟨a, c, e1, _, _, e2⟩ := h1.2 (hs.ver hid)
  refine ⟨.v (.bool a.isNone), σ, .bool a.isNone, w, ok, L, ⟨⟨a.isNone, rfl, fun h => ?_⟩, rfl⟩, .inl ?_, .refl _ _ _ _, hs, RepC.v _⟩
  · rcases Nat.eq_zero_or_pos m with h0 | h0
    · exact h0
    · rw [e2 (.inl h0)] at h; cases h
  · have he := run_equal_slice_nil (P := P) w t e a m c ht
    simp only [execOp, eqGuard, binOp, e1, h2]
    simp [he]
theorem op_build_nil {t e sz : Nat} {inf : TypeInfo} {z : Value} (ht : P.underlying t = some (.slice e)) (hi : P.info? e = some inf) (hz : inf.zero = some z) (hsz : inf.size = sz) (h0 : 0 < sz) (hzs : z.cells.toList.length = sz) :
    OpTo P ⟨d, .buildSlice t 0 #[], ty, pos, after, guard⟩ E σ .nil σ := by
  intro ok L w ρ hs hr
  obtain ⟨out, o1, o2, o3⟩ := buildSlice_core (E := E) (ρ := ρ) (m := 0) (parts := #[]) (pa := []) (res := []) hs (fun p hp => by simp at hp) ht hi hz hsz h0 hzs (by omega) rfl rfl rfl
  obtain ⟨he, hs'⟩ := sim_allocI hs (.cells out e)
  simp only [List.map_toArray, List.map_nil] at o1
  exact ⟨.slice (some ⟨w.heap.size, 0, none⟩) 0 0, _, _, L, .inl (by simp [execOp, o1]), he, hs', RepC.nil _⟩
theorem op_append_new {α : Type} {f : α → List AVal} {k : List α} {x y : Operand} {t u e sz : Nat} {ud : TypeDesc} {inf : TypeInfo} {z : Value} {b : AVal} {news : List (List AVal)} (id : Nat) (ht : P.underlying t = some (.slice e)) (hu : P.underlying u = some ud) (hn : notInt ud = true) (hi : P.info? e = some inf) (hz : inf.zero = some z)
    (hsz : inf.size = sz) (h0 : 0 < sz) (hzs : z.cells.toList.length = sz) (hx : E x = some .nil) (hy : E y = some b) (hb : SrcIs σ sz b news) (hk : news = k.map f)
    (h63 : k.length ≤ 9223372036854775807) (hby : k.length * inf.bytes ≤ 140737488355328) :
    OpR P ⟨d, .call { callee := .builtin .append, args := #[x, y], argTypes := #[t, u] }, ty, pos, after, guard⟩ E σ (fun r σ' => ∃ ver', r = .slice id ver' 0 k.length ∧ σ' = σ.put id ver' (.row sz (k.map f))) := by
  subst hk
  have := op_append (P := P) (E := E) (σ := σ) (d := d) (ty := ty) (pos := pos) (after := after) (guard := guard) id ht hu hn hi hz hsz h0 hzs hx hy Head.nil (hb.src h0) (by simpa using h63) (by simpa using hby)
  simpa using this
theorem op_aneq {t u : TypeId} {x y : Operand} {a b : AVal} {xs ys : Array Value} {r : Bool} (hx : E x = some a) (hy : E y = some b) (ha : concOf a = some (.agg xs)) (hb : concOf b = some (.agg ys)) (hg : P.eqGuardType P.depth t = false) (h : ∀ w, (Op.equal t (.agg xs) (.agg ys)).run P w = .ok r w) :
    OpTo P ⟨d, .binOp .neq t x y u, ty, pos, after, guard⟩ E σ (.v (.bool (!r))) σ :=
  op_value fun ok L w ρ hs hr => by
    have h1 := conc_rep (hr x (by simp [Op.operands]) _ hx) ha
    have h2 := conc_rep (hr y (by simp [Op.operands]) _ hy) hb
    refine ⟨.bool (!r), ?_, RepC.v _⟩
    simp only [execOp, h1, h2]
    simp [run_eqGuard_agg, hg, binOp, h]
end
end Go.Proofs.YtnnklpmgncbgnaaGreat
