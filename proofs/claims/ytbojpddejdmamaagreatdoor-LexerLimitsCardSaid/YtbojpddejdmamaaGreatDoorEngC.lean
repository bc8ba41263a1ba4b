/- The engine, part 3: regions in the order of the text; operations on plain values. -/
import Derived.Test.YtbojpddejdmamaaGreatDoorEngB
set_option linter.unusedVariables false
set_option linter.unusedSimpArgs false
namespace Go.Proofs.YtbojpddejdmamaaGreatDoor
open Go

def AL (P : Program) (n : Nat) (ops : Array Oper) (l : List Oper) (Q : APost) (env : Env) (σ : Store) : Prop :=
  ∀ ok L w act, Sim ok L σ w → RepEnv ok L w env act.tmps → act.defers = [] → act.tmps.size = n → wpList P ops (Post n Q ok L σ w) l act w

/-- One operation, its operands told by E. -/
def OpTo (P : Program) (o : Oper) (E : Operand → Option AVal) (σ : Store) (a : AVal) (σ' : Store) : Prop :=
  ∀ ok L w (ρ : Operand → Value), Sim ok L σ w → (∀ x ∈ o.op.operands, ∀ b, E x = some b → Rep ok L w b (ρ x)) →
    ∃ v w' ok' L', ((execOp ρ o).run P w = .ok (.value v) w' ∨ ((execOp ρ o).run P w = .ok .skip w' ∧ v = undef)) ∧ Evo ok L σ w ok' L' σ' w' ∧ Sim ok' L' σ' w' ∧ Rep ok' L' w' a v

section
variable {P : Program} {n : Nat} {Q : APost} {env : Env} {σ σ' : Store} {ops : Array Oper} {rest : List Oper}

theorem aw_region {id : Nat} {l : List Oper} (h : AL P n l.toArray l Q env σ) : AW P n (.region id l.toArray false) Q env σ :=
  fun ok L w act h1 h2 h3 h4 => wp_region_lit (h ok L w act h1 h2 h3 h4)

theorem al_nil (h : Q .normal env σ) : AL P n ops [] Q env σ :=
  fun ok L w act h1 h2 h3 h4 => wpList_nil ⟨.normal, env, σ, ok, L, h, .refl _ _ _ _, h1, h2, h3, h4, trivial⟩

theorem al_weaken {l : List Oper} (env' : Env) (hsub : ∀ t a, env'.get t = some a → env.get t = some a) (h : AL P n ops l Q env' σ) : AL P n ops l Q env σ :=
  fun ok L w act h1 h2 h3 h4 => h ok L w act h1 (h2.weaken hsub) h3 h4

theorem put_defers (act : Act) (d : Option Tmp) (v : Value) : (act.put d v).defers = act.defers := by cases d <;> rfl
theorem put_size (act : Act) (d : Option Tmp) (v : Value) : (act.put d v).tmps.size = act.tmps.size := by cases d <;> simp [Act.put]

theorem wpList_after {Q' : Exit → Act → World → Prop} {Q1 : Exit → Act → World → Prop} (h : ∀ e a w, Q1 e a w → Q' e a w) : ∀ (l : List Oper) (a : Act) (w : World), wpList P ops Q1 l a w → wpList P ops Q' l a w
  | [], a, w, hh => h _ _ _ hh
  | o :: l, a, w, hh => by
    have mono : ∀ (K K' : Act → World → Prop), (∀ a w, K a w → K' a w) → o.wp P a w K Q1 → o.wp P a w K' Q' := by
      intro K K' hK
      unfold Oper.wp
      generalize (execOp a.eval o).run P w = r
      cases r with
      | ok n w' =>
        cases n <;> simp only [Oper.upon] <;> first
          | exact hK _ _
          | exact id
          | (intro hc; exact Calls.mono hc (fun e w'' he => by cases e <;> first | exact hK _ _ he | exact h _ _ _ he | (obtain ⟨a, w, hq⟩ := he; exact ⟨a, w, h _ _ _ hq⟩)))
          | (intro hc; exact Rows.mono hc (fun _ _ he => hK _ _ he))
      | halt x w' => cases x <;> simp only [Oper.upon] <;> first | exact id | exact h _ _ _
    unfold wpList at hh ⊢
    split
    · rename_i hw
      rw [if_pos hw] at hh
      rcases hh with hh | ⟨h1, a1, w1, h2⟩
      · exact .inl (mono _ _ (fun a w => wpList_after h l a w) hh)
      · exact .inr ⟨h1, a1, w1, h _ _ _ h2⟩
    · rename_i hw
      rw [if_neg hw] at hh
      exact wpList_after h l _ _ hh

theorem op_step {o : Oper} {a : AVal} (hop : OpTo P o (aval env) σ a σ') (hd : ∀ d, o.dst = some d → d < n)
    (k : AL P n ops rest Q (env.putd o.dst a) σ') {ok : Nat → Prop} {L : Loc} {w : World} {act : Act} (h1 : Sim ok L σ w) (h2 : RepEnv ok L w env act.tmps) (h3 : act.defers = []) (h4 : act.tmps.size = n)
    (K : Act → World → Prop) (hK : ∀ a w', wpList P ops (Post n Q ok L σ w) rest a w' → K a w') : o.wp P act w K (Post n Q ok L σ w) := by
  obtain ⟨v, w', ok', L', hr, he, hs, hv⟩ := hop ok L w act.eval h1 (fun x _ b hx => h2.aval hx)
  have go : K (act.put o.dst v) w' := by
    refine hK _ _ (wpList_after (fun _ _ _ h => Post.after he h) _ _ _ (k ok' L' w' (act.put o.dst v) hs ?_ ?_ ?_))
    · exact (h2.evo h1 he).put hv (fun d hd' => h4 ▸ hd d hd')
    · rw [put_defers]; exact h3
    · rw [put_size]; exact h4
  unfold Oper.wp
  rcases hr with hr | ⟨hr, rfl⟩
  · rw [hr]; exact go
  · rw [hr]; exact go

theorem al_op {o : Oper} {a : AVal} (hop : OpTo P o (aval env) σ a σ') (hg : o.guard = none) (hd : ∀ d, o.dst = some d → d < n)
    (k : AL P n ops rest Q (env.putd o.dst a) σ') : AL P n ops (o :: rest) Q env σ :=
  fun ok L w act h1 h2 h3 h4 => wpList_plain hg fun K hK => op_step hop hd k h1 h2 h3 h4 K hK

theorem yielded_of {ok : Nat → Prop} {L : Loc} {w : World} {act : Act} {g d : Nat} {og : Oper} {b : Bool} (h2 : RepEnv ok L w env act.tmps) (hog : ops[g]? = some og) (hdst : og.dst = some d) (hb : env.get d = some (.v (.bool b))) : yielded ops act.tmps g = some b := by
  obtain ⟨v, h3, h4⟩ := h2 d _ hb
  have := rep_bool h4
  subst this
  simp [yielded, hog, hdst, h3]

/-- A guarded operation that is carried out. -/
theorem al_take {o : Oper} {a : AVal} {g d : Nat} {og : Oper} {b : Bool} (hop : OpTo P o (aval env) σ a σ') (hg : o.guard = some (g, b)) (hog : ops[g]? = some og) (hdst : og.dst = some d) (hb : env.get d = some (.v (.bool b))) (hd : ∀ d, o.dst = some d → d < n)
    (k : AL P n ops rest Q (env.putd o.dst a) σ') : AL P n ops (o :: rest) Q env σ :=
  fun ok L w act h1 h2 h3 h4 => wpList_step fun K hK => by
    rw [if_pos (by simp [Region.wanted, hg, yielded_of h2 hog hdst hb])]
    exact op_step hop hd k h1 h2 h3 h4 K hK

/-- One that is passed over. -/
theorem al_pass {o : Oper} {g d : Nat} {og : Oper} {b : Bool} (hg : o.guard = some (g, b)) (hog : ops[g]? = some og) (hdst : og.dst = some d) (hb : env.get d = some (.v (.bool (!b)))) (hd : ∀ d, o.dst = some d → d < n)
    (k : AL P n ops rest Q (env.putd o.dst (.v undef)) σ) : AL P n ops (o :: rest) Q env σ :=
  fun ok L w act h1 h2 h3 h4 => wpList_step fun K hK => by
    rw [if_neg (by cases b <;> simp [Region.wanted, hg, yielded_of h2 hog hdst hb])]
    refine hK _ _ (k ok L w _ h1 ?_ ?_ ?_)
    · exact h2.put (RepC.v _) (fun d hd' => h4 ▸ hd d hd')
    · rw [put_defers]; exact h3
    · rw [put_size]; exact h4

/-! ### Operations whose operands are plain values, or that only hand a value on -/
variable {E : Operand → Option AVal} {d : Option Tmp} {ty : TypeId} {pos : String} {after : Array Edge} {guard : Option (Nat × Bool)}

theorem op_value {o : Oper} {a : AVal} (h : ∀ ok L w (ρ : Operand → Value), Sim ok L σ w → (∀ x ∈ o.op.operands, ∀ b, E x = some b → Rep ok L w b (ρ x)) → ∃ v, (execOp ρ o).run P w = .ok (.value v) w ∧ Rep ok L w a v) : OpTo P o E σ a σ :=
  fun ok L w ρ hs hr => let ⟨v, h1, h2⟩ := h ok L w ρ hs hr; ⟨v, w, ok, L, .inl h1, .refl _ _ _ _, hs, h2⟩

theorem op_move {x : Operand} {a : AVal} (hx : E x = some a) : OpTo P ⟨d, .move x, ty, pos, after, guard⟩ E σ a σ :=
  op_value fun ok L w ρ hs hr => ⟨ρ x, rfl, hr x (by simp [Op.operands]) a hx⟩
theorem op_assign {x : Operand} {a : AVal} (hx : E x = some a) : OpTo P ⟨d, .assign x, ty, pos, after, guard⟩ E σ a σ :=
  op_value fun ok L w ρ hs hr => ⟨ρ x, rfl, hr x (by simp [Op.operands]) a hx⟩

theorem op_pick {c x y : Operand} {a : AVal} {b : Bool} (hc : E c = some (.v (.bool b))) (ha : (bif b then E x else E y) = some a) : OpTo P ⟨d, .pick c x y, ty, pos, after, guard⟩ E σ a σ :=
  op_value fun ok L w ρ hs hr => by
    have e := rep_bool (hr c (by simp [Op.operands]) _ hc)
    refine ⟨bif b then ρ x else ρ y, ?_, ?_⟩
    · simp [execOp, e, asBool]
    · cases b
      · exact hr y (by simp [Op.operands]) a ha
      · exact hr x (by simp [Op.operands]) a ha
theorem op_pickb {c x y : Operand} {b p q : Bool} (hc : E c = some (.v (.bool b))) (hx : E x = some (.v (.bool p))) (hy : E y = some (.v (.bool q))) : OpTo P ⟨d, .pick c x y, ty, pos, after, guard⟩ E σ (.v (.bool (bif b then p else q))) σ :=
  op_value fun ok L w ρ hs hr => by
    have e := rep_bool (hr c (by simp [Op.operands]) _ hc)
    have e1 := rep_bool (hr x (by simp [Op.operands]) _ hx)
    have e2 := rep_bool (hr y (by simp [Op.operands]) _ hy)
    refine ⟨bif b then ρ x else ρ y, by simp [execOp, e, asBool], ?_⟩
    rw [e1, e2]
    cases b <;> exact RepC.v _
/-- 'c && y', 'c || y' -/
theorem op_and {c y : Operand} {b p : Bool} (hc : E c = some (.v (.bool b))) (hx : E y = some (.v (.bool p))) (h0 : E (.const (.bool false)) = some (.v (.bool false))) : OpTo P ⟨d, .pick c y (.const (.bool false)), ty, pos, after, guard⟩ E σ (.v (.bool (b && p))) σ := by
  have := op_pickb (P := P) (σ := σ) (d := d) (ty := ty) (pos := pos) (after := after) (guard := guard) hc hx h0
  cases b <;> exact this
theorem op_or {c y : Operand} {b p : Bool} (hc : E c = some (.v (.bool b))) (hx : E y = some (.v (.bool p))) (h0 : E (.const (.bool true)) = some (.v (.bool true))) : OpTo P ⟨d, .pick c (.const (.bool true)) y, ty, pos, after, guard⟩ E σ (.v (.bool (b || p))) σ := by
  have := op_pickb (P := P) (σ := σ) (d := d) (ty := ty) (pos := pos) (after := after) (guard := guard) hc h0 hx
  cases b <;> exact this

/-- An operation on two plain values. -/
theorem op_two {o : Oper} {x y : Operand} {a b r : Value} (hm : x ∈ o.op.operands) (hm' : y ∈ o.op.operands) (hx : E x = some (.v a)) (hy : E y = some (.v b))
    (h : ∀ (ρ : Operand → Value) (w : World), ρ x = a → ρ y = b → (execOp ρ o).run P w = .ok (.value r) w) : OpTo P o E σ (.v r) σ :=
  op_value fun ok L w ρ hs hr => ⟨r, h ρ w (rep_bool (hr x hm _ hx)) (rep_bool (hr y hm' _ hy)), RepC.v _⟩
theorem op_one {o : Oper} {x : Operand} {a r : Value} (hm : x ∈ o.op.operands) (hx : E x = some (.v a))
    (h : ∀ (ρ : Operand → Value) (w : World), ρ x = a → (execOp ρ o).run P w = .ok (.value r) w) : OpTo P o E σ (.v r) σ :=
  op_value fun ok L w ρ hs hr => ⟨r, h ρ w (rep_bool (hr x hm _ hx)), RepC.v _⟩

section ints
variable {x y : Operand} {t u : TypeId} {k : IntKind} {a b c : Int}
theorem op_add (hx : E x = some (.v (.int k a))) (hy : E y = some (.v (.int k b))) (hw : k.wrap (a + b) = c) : OpTo P ⟨d, .binOp .add t x y u, ty, pos, after, guard⟩ E σ (.v (.int k c)) σ :=
  op_two (by simp [Op.operands]) (by simp [Op.operands]) hx hy fun ρ w h1 h2 => by simp [execOp, eqGuard, binOp, Op.intArith, h1, h2, hw]
theorem op_sub (hx : E x = some (.v (.int k a))) (hy : E y = some (.v (.int k b))) (hw : k.wrap (a - b) = c) : OpTo P ⟨d, .binOp .sub t x y u, ty, pos, after, guard⟩ E σ (.v (.int k c)) σ :=
  op_two (by simp [Op.operands]) (by simp [Op.operands]) hx hy fun ρ w h1 h2 => by simp [execOp, eqGuard, binOp, Op.intArith, h1, h2, hw]
theorem op_mul (hx : E x = some (.v (.int k a))) (hy : E y = some (.v (.int k b))) (hw : k.wrap (a * b) = c) : OpTo P ⟨d, .binOp .mul t x y u, ty, pos, after, guard⟩ E σ (.v (.int k c)) σ :=
  op_two (by simp [Op.operands]) (by simp [Op.operands]) hx hy fun ρ w h1 h2 => by simp [execOp, eqGuard, binOp, Op.intArith, h1, h2, hw]
theorem op_quo (hx : E x = some (.v (.int k a))) (hy : E y = some (.v (.int k b))) (h0 : b ≠ 0) (hw : k.wrap (a.tdiv b) = c) : OpTo P ⟨d, .binOp .quo t x y u, ty, pos, after, guard⟩ E σ (.v (.int k c)) σ :=
  op_two (by simp [Op.operands]) (by simp [Op.operands]) hx hy fun ρ w h1 h2 => by simp [execOp, eqGuard, binOp, Op.intDiv, h1, h2, h0, hw]
theorem op_rem (hx : E x = some (.v (.int k a))) (hy : E y = some (.v (.int k b))) (h0 : b ≠ 0) (hw : a.tmod b = c) : OpTo P ⟨d, .binOp .rem t x y u, ty, pos, after, guard⟩ E σ (.v (.int k c)) σ :=
  op_two (by simp [Op.operands]) (by simp [Op.operands]) hx hy fun ρ w h1 h2 => by simp [execOp, eqGuard, binOp, Op.intDiv, h1, h2, h0, hw]
theorem op_bitand (hx : E x = some (.v (.int k a))) (hy : E y = some (.v (.int k b))) (hw : k.wrap (BitVec.ofInt k.bits a &&& BitVec.ofInt k.bits b).toNat = c) : OpTo P ⟨d, .binOp .and t x y u, ty, pos, after, guard⟩ E σ (.v (.int k c)) σ :=
  op_two (by simp [Op.operands]) (by simp [Op.operands]) hx hy fun ρ w h1 h2 => by rw [← hw]; simp [execOp, eqGuard, binOp, Op.intBits, h1, h2]
theorem op_bitor (hx : E x = some (.v (.int k a))) (hy : E y = some (.v (.int k b))) (hw : k.wrap (BitVec.ofInt k.bits a ||| BitVec.ofInt k.bits b).toNat = c) : OpTo P ⟨d, .binOp .or t x y u, ty, pos, after, guard⟩ E σ (.v (.int k c)) σ :=
  op_two (by simp [Op.operands]) (by simp [Op.operands]) hx hy fun ρ w h1 h2 => by rw [← hw]; simp [execOp, eqGuard, binOp, Op.intBits, h1, h2]
theorem op_bitxor (hx : E x = some (.v (.int k a))) (hy : E y = some (.v (.int k b))) (hw : k.wrap (BitVec.ofInt k.bits a ^^^ BitVec.ofInt k.bits b).toNat = c) : OpTo P ⟨d, .binOp .xor t x y u, ty, pos, after, guard⟩ E σ (.v (.int k c)) σ :=
  op_two (by simp [Op.operands]) (by simp [Op.operands]) hx hy fun ρ w h1 h2 => by rw [← hw]; simp [execOp, eqGuard, binOp, Op.intBits, h1, h2]
theorem op_lss (hx : E x = some (.v (.int k a))) (hy : E y = some (.v (.int k b))) : OpTo P ⟨d, .binOp .lss t x y u, ty, pos, after, guard⟩ E σ (.v (.bool (decide (a < b)))) σ :=
  op_two (by simp [Op.operands]) (by simp [Op.operands]) hx hy fun ρ w h1 h2 => by simp [execOp, eqGuard, binOp, Op.intCmp, h1, h2]
theorem op_leq (hx : E x = some (.v (.int k a))) (hy : E y = some (.v (.int k b))) : OpTo P ⟨d, .binOp .leq t x y u, ty, pos, after, guard⟩ E σ (.v (.bool (decide (a ≤ b)))) σ :=
  op_two (by simp [Op.operands]) (by simp [Op.operands]) hx hy fun ρ w h1 h2 => by simp [execOp, eqGuard, binOp, Op.intCmp, h1, h2]
theorem op_gtr (hx : E x = some (.v (.int k a))) (hy : E y = some (.v (.int k b))) : OpTo P ⟨d, .binOp .gtr t x y u, ty, pos, after, guard⟩ E σ (.v (.bool (decide (a > b)))) σ :=
  op_two (by simp [Op.operands]) (by simp [Op.operands]) hx hy fun ρ w h1 h2 => by simp [execOp, eqGuard, binOp, Op.intCmp, h1, h2]
theorem op_geq (hx : E x = some (.v (.int k a))) (hy : E y = some (.v (.int k b))) : OpTo P ⟨d, .binOp .geq t x y u, ty, pos, after, guard⟩ E σ (.v (.bool (decide (a ≥ b)))) σ :=
  op_two (by simp [Op.operands]) (by simp [Op.operands]) hx hy fun ρ w h1 h2 => by simp [execOp, eqGuard, binOp, Op.intCmp, h1, h2]
theorem op_eql (hx : E x = some (.v (.int k a))) (hy : E y = some (.v (.int k b))) : OpTo P ⟨d, .binOp .eql t x y u, ty, pos, after, guard⟩ E σ (.v (.bool (a == b))) σ :=
  op_two (by simp [Op.operands]) (by simp [Op.operands]) hx hy fun ρ w h1 h2 => by simp [execOp, eqGuard, binOp, Op.intCmp, h1, h2]
theorem op_neq (hx : E x = some (.v (.int k a))) (hy : E y = some (.v (.int k b))) : OpTo P ⟨d, .binOp .neq t x y u, ty, pos, after, guard⟩ E σ (.v (.bool (a != b))) σ :=
  op_two (by simp [Op.operands]) (by simp [Op.operands]) hx hy fun ρ w h1 h2 => by simp [execOp, eqGuard, binOp, Op.intCmp, h1, h2]
theorem op_neg (hx : E x = some (.v (.int k a))) (hw : k.wrap (0 - a) = c) : OpTo P ⟨d, .unOp .neg t x, ty, pos, after, guard⟩ E σ (.v (.int k c)) σ :=
  op_one (by simp [Op.operands]) hx fun ρ w h1 => by rw [← hw]; simp [execOp, Op.unary, Op.intArith, h1]
theorem op_conv {k' : IntKind} {s : TypeId} {td : TypeDesc} (hsrc : P.underlying s = some td) (hdst : P.underlying t = some (.int k')) (hx : E x = some (.v (.int k a))) (hw : k'.wrap a = c) : OpTo P ⟨d, .convert s t x, ty, pos, after, guard⟩ E σ (.v (.int k' c)) σ :=
  op_one (by simp [Op.operands]) hx fun ρ w h1 => by
    rw [← hw]
    simp only [execOp, h1, convert, Sem.run_bind, run_underlying hsrc, run_underlying hdst, Result.andThen_ok]
    cases td <;> simp [Conv.intToInt]
end ints
theorem op_not {x : Operand} {t : TypeId} {b : Bool} (hx : E x = some (.v (.bool b))) : OpTo P ⟨d, .unOp .not t x, ty, pos, after, guard⟩ E σ (.v (.bool (!b))) σ :=
  op_one (by simp [Op.operands]) hx fun ρ w h1 => by simp [execOp, Op.unary, h1]
theorem run_equal_bool {t : TypeId} {a b : Bool} (w : World) (ht : P.underlying t = some .bool) : (Op.equal t (.bool a) (.bool b)).run P w = .ok (a == b) w := by
  show (Op.equalIn (9999 + 1) t (.bool a) (.bool b)).run P w = _
  rw [Op.equalIn]
  simp [run_underlying ht]
theorem op_beql {x y : Operand} {t u : TypeId} {a b : Bool} (ht : P.underlying t = some .bool) (hx : E x = some (.v (.bool a))) (hy : E y = some (.v (.bool b))) : OpTo P ⟨d, .binOp .eql t x y u, ty, pos, after, guard⟩ E σ (.v (.bool (a == b))) σ :=
  op_two (by simp [Op.operands]) (by simp [Op.operands]) hx hy fun ρ w h1 h2 => by
    simp only [execOp, eqGuard, binOp, h1, h2]
    simp [run_equal_bool w ht]
theorem op_bneq {x y : Operand} {t u : TypeId} {a b : Bool} (ht : P.underlying t = some .bool) (hx : E x = some (.v (.bool a))) (hy : E y = some (.v (.bool b))) : OpTo P ⟨d, .binOp .neq t x y u, ty, pos, after, guard⟩ E σ (.v (.bool (a != b))) σ :=
  op_two (by simp [Op.operands]) (by simp [Op.operands]) hx hy fun ρ w h1 h2 => by
    simp only [execOp, eqGuard, binOp, h1, h2]
    simp [run_equal_bool w ht, bne]
section strings
variable {x y : Operand} {t u : TypeId} {a b : ByteArray}
theorem op_seql (hx : E x = some (.v (.string a))) (hy : E y = some (.v (.string b))) : OpTo P ⟨d, .binOp .eql t x y u, ty, pos, after, guard⟩ E σ (.v (.bool (a.toList == b.toList))) σ :=
  op_two (by simp [Op.operands]) (by simp [Op.operands]) hx hy fun ρ w h1 h2 => by simp [execOp, eqGuard, binOp, Op.stringOp, h1, h2]
theorem op_sneq (hx : E x = some (.v (.string a))) (hy : E y = some (.v (.string b))) : OpTo P ⟨d, .binOp .neq t x y u, ty, pos, after, guard⟩ E σ (.v (.bool (!(a.toList == b.toList)))) σ :=
  op_two (by simp [Op.operands]) (by simp [Op.operands]) hx hy fun ρ w h1 h2 => by simp [execOp, eqGuard, binOp, Op.stringOp, h1, h2]
theorem op_sadd (hx : E x = some (.v (.string a))) (hy : E y = some (.v (.string b))) (hl : a.size + b.size ≤ 9223372036854775807) : OpTo P ⟨d, .binOp .add t x y u, ty, pos, after, guard⟩ E σ (.v (.string (a ++ b))) σ :=
  op_two (by simp [Op.operands]) (by simp [Op.operands]) hx hy fun ρ w h1 h2 => by
    have : ¬ ((a.size : Int) + (b.size : Int) > IntKind.i64.max) := by simp [IntKind.max, IntKind.bits, IntKind.signed]; omega
    simp only [execOp, eqGuard, binOp, Op.stringOp, h1, h2]
    simp [this]
    omega
theorem op_slen {ts : Array TypeId} (ht : P.underlying t = some .string) (hx : E x = some (.v (.string a))) : OpTo P ⟨d, .call { callee := .builtin .len, args := #[x], argTypes := #[t] }, ty, pos, after, guard⟩ E σ (.v (.int .i64 a.size)) σ :=
  op_one (by simp [Op.operands, Call.operands]) hx fun ρ w h1 => by
    simp [execOp, resolve, invoke, builtin, Builtin.len_, run_underlying ht, h1, goInt]
theorem op_sindex {i : Int} {k : IntKind} (ht : P.underlying t = some .string) (hx : E x = some (.v (.string a))) (hy : E y = some (.v (.int k i))) (h0 : 0 ≤ i) (h1 : i.toNat < a.size) : OpTo P ⟨d, .index t x y, ty, pos, after, guard⟩ E σ (.v (.int .u8 (a[i.toNat]'h1).toNat)) σ :=
  op_two (by simp [Op.operands]) (by simp [Op.operands]) hx hy fun ρ w e1 e2 => by
    have : a[i.toNat]? = some (a[i.toNat]'h1) := getElem?_pos a i.toNat h1
    simp [execOp, Instr.index, asIntOf, run_underlying ht, e1, e2, h0, this]
theorem op_strnull {d' : Unit} : True := trivial
end strings

theorem wrap_i64 {x : Int} (h0 : -9223372036854775808 ≤ x) (h1 : x ≤ 9223372036854775807) : IntKind.i64.wrap x = x := by
  simp only [IntKind.wrap, IntKind.bits, IntKind.signed, Bool.true_and]
  split <;> rename_i h <;> simp at h <;> omega
theorem wrap_u8 {x : Int} (h0 : 0 ≤ x) (h1 : x ≤ 255) : IntKind.u8.wrap x = x := by
  simp only [IntKind.wrap, IntKind.bits, IntKind.signed, Bool.false_and]
  split <;> rename_i h <;> simp at h ⊢ <;> omega
end
end Go.Proofs.YtbojpddejdmamaaGreatDoor
