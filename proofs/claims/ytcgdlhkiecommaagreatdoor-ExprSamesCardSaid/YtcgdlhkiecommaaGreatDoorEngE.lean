import Derived.Test.YtcgdlhkiecommaaGreatDoorGlob
import Derived.WalkKit
import Derived.Orders
import Derived.Laws.AppendOwn
import Derived.Laws.MakeOwn

/- The engine, part 1: abstract values, what they say of memory, and how they last. -/





set_option linter.unusedVariables false
set_option linter.unusedSimpArgs false
namespace Go.Proofs.YtcgdlhkiecommaaGreatDoor
open Go
/-- Abstract values: what a temporary holds, memory told apart from addresses. -/
inductive AVal where
  | v (x : Value)
  | nil
  | list (sz : Nat) (els : List (List AVal))
  | slice (id ver off n : Nat)
  | ptr (id ver i j : Nat)
  | rptr (cells : List AVal)
  | map (id ver : Nat)
  | agg (cells : List AVal)
  | tuple (comps : List AVal)
  | fn (f : FuncId) (caps : List AVal)
/-- Where the named objects lie. -/
structure Loc where
  blk : Nat → Nat
  cap : Nat → Nat
  sz : Nat → Nat
  ver : Nat → Nat
inductive AObj where
  | row (sz : Nat) (els : List (List AVal))
  | map (ents : List (Value × AVal))
  | iter (keys : List Value) (seen : List Nat)
abbrev Store := List (Nat × Nat × AObj)
abbrev Env := List (Nat × AVal)
def Store.get : Store → Nat → Option (Nat × AObj)
  | [], _ => none
  | (i, x) :: r, id => match Nat.beq i id with | true => some x | false => Store.get r id
def Store.put : Store → Nat → Nat → AObj → Store
  | [], id, ver, o => [(id, ver, o)]
  | (i, x) :: r, id, ver, o => match Nat.beq i id with | true => (id, ver, o) :: r | false => (i, x) :: Store.put r id ver o
def Env.get : Env → Nat → Option AVal
  | [], _ => none
  | (i, x) :: r, t => match Nat.beq i t with | true => some x | false => Env.get r t
theorem nat_beq_true {a b : Nat} : Nat.beq a b = true ↔ a = b := by simp
theorem nat_beq_false {a b : Nat} : Nat.beq a b = false ↔ a ≠ b := by
  rw [← Bool.not_eq_true, nat_beq_true]
theorem Store.get_put (s : Store) (id ver : Nat) (o : AObj) (k : Nat) : (s.put id ver o).get k = if id = k then some (ver, o) else s.get k := by
  induction s with
  | nil =>
    simp only [Store.put, Store.get]
    by_cases h : id = k
    · rw [if_pos h, nat_beq_true.2 h]
    · rw [if_neg h, nat_beq_false.2 h]
  | cons p r ih =>
    obtain ⟨i, x⟩ := p
    simp only [Store.put]
    by_cases h : i = id
    · subst h
      rw [nat_beq_true.2 rfl]
      simp only [Store.get]
      by_cases h2 : i = k
      · rw [if_pos h2, nat_beq_true.2 h2]
      · rw [if_neg h2, nat_beq_false.2 h2]
    · rw [nat_beq_false.2 h]
      simp only [Store.get]
      by_cases h2 : i = k
      · rw [nat_beq_true.2 h2, if_neg (by omega)]
      · rw [nat_beq_false.2 h2]; exact ih
theorem Env.get_cons (e : Env) (t : Nat) (a : AVal) (k : Nat) : Env.get ((t, a) :: e) k = if t = k then some a else e.get k := by
  simp only [Env.get]
  by_cases h : t = k
  · rw [if_pos h, nat_beq_true.2 h]
  · rw [if_neg h, nat_beq_false.2 h]
/-- What a closed abstract value says of a value in memory. -/
inductive RepC (ok : Nat → Prop) (w : World) : AVal → Value → Prop
  | v (x : Value) : RepC ok w (.v x) x
  | nil (a : Option Addr) : RepC ok w .nil (.slice a 0 0)
  | empty (sz : Nat) (a : Option Addr) (c : Nat) : RepC ok w (.list sz []) (.slice a 0 c)
  | list (sz : Nat) (els : List (List AVal)) (b o c : Nat) (vs : Nat → Nat → Value) (hok : ok b) (hc : els.length ≤ c)
      (hs : ∀ e ∈ els, e.length = sz)
      (hcell : ∀ i e j av, els[i]? = some e → e[j]? = some av → w.cell? ⟨b, o + i * sz + j, none⟩ = some (vs i j))
      (h1 : ∀ i e j av, els[i]? = some e → e[j]? = some av → (vs i j).oneCell' = true)
      (hrep : ∀ i e j av, els[i]? = some e → e[j]? = some av → RepC ok w av (vs i j)) : RepC ok w (.list sz els) (.slice (some ⟨b, o, none⟩) els.length c)
  | rptr (cells : List AVal) (b o : Nat) (vs : Nat → Value) (hok : ok b)
      (hcell : ∀ j av, cells[j]? = some av → w.cell? ⟨b, o + j, none⟩ = some (vs j))
      (hrep : ∀ j av, cells[j]? = some av → RepC ok w av (vs j)) : RepC ok w (.rptr cells) (.pointer (some ⟨b, o, none⟩))
theorem RepC.mono {ok ok' : Nat → Prop} {w w' : World} {a : AVal} {v : Value} (h : RepC ok w a v) (hok : ∀ b, ok b → ok' b) (hw : ∀ b, ok b → w'.heap[b]? = w.heap[b]?) : RepC ok' w' a v := by
  induction h with
  | v x => exact .v x
  | nil a => exact .nil a
  | empty sz a c => exact .empty sz a c
  | list sz els b o c vs h1 h2 h3 h4 h6 h5 ih => exact .list sz els b o c vs (hok _ h1) h2 h3 (fun i e j av hi hj => (World.cell?_of_block (w := w) (hw b h1)).trans (h4 i e j av hi hj)) h6 ih
  | rptr cells b o vs h1 h4 h5 ih => exact .rptr cells b o vs (hok _ h1) (fun j av hj => (World.cell?_of_block (w := w) (hw b h1)).trans (h4 j av hj)) ih
/-- .. of whatever fills one cell. -/
def RepL (ok : Nat → Prop) (L : Loc) (w : World) : AVal → Value → Prop
  | .slice id ver off n, v => ver ≤ L.ver id ∧ (L.ver id = ver → ∃ a c, v = .slice a n c ∧ n ≤ c ∧ c + off = L.cap id ∧ (0 < n ∨ (off = 0 ∧ L.cap id ≠ 0) → a = some ⟨L.blk id, off * L.sz id, none⟩))
  | .ptr id ver i j, v => ver ≤ L.ver id ∧ (L.ver id = ver → v = .pointer (some ⟨L.blk id, i * L.sz id + j, none⟩))
  | .map id ver, v => ver ≤ L.ver id ∧ (L.ver id = ver → v = .map (some (L.blk id)))
  | a, v => RepC ok w a v
/-- Lists of values, one by one. -/
def All2 {α β : Type} (R : α → β → Prop) : List α → List β → Prop
  | [], [] => True
  | a :: as, b :: bs => R a b ∧ All2 R as bs
  | _, _ => False
/-- .. of structs and arrays too. -/
def RepA (ok : Nat → Prop) (L : Loc) (w : World) : AVal → Value → Prop
  | .agg cells, v => ∃ vs : List Value, v = .agg vs.toArray ∧ All2 (RepL ok L w) cells vs
  | .fn f caps, v => ∃ vs : List Value, v = .func (.func f) #[] vs.toArray ∧ All2 (RepL ok L w) caps vs
  | a, v => RepL ok L w a v
/-- .. of tuples too. -/
def Rep (ok : Nat → Prop) (L : Loc) (w : World) : AVal → Value → Prop
  | .tuple comps, v => ∃ vs : List Value, v = .tuple vs.toArray ∧ All2 (RepA ok L w) comps vs
  | a, v => RepA ok L w a v
theorem All2.mono {α β : Type} {R S : α → β → Prop} (h : ∀ a b, R a b → S a b) : ∀ (as : List α) (bs : List β), All2 R as bs → All2 S as bs
  | [], [], _ => trivial
  | _ :: _, _ :: _, ⟨h1, h2⟩ => ⟨h _ _ h1, All2.mono h _ _ h2⟩
  | [], _ :: _, h => h.elim
  | _ :: _, [], h => h.elim
theorem All2.length {α β : Type} {R : α → β → Prop} : ∀ (as : List α) (bs : List β), All2 R as bs → as.length = bs.length
  | [], [], _ => rfl
  | _ :: _, _ :: _, ⟨_, h2⟩ => by simp [All2.length _ _ h2]
  | [], _ :: _, h => h.elim
  | _ :: _, [], h => h.elim
theorem All2.get {α β : Type} {R : α → β → Prop} : ∀ (as : List α) (bs : List β), All2 R as bs → ∀ (i : Nat) (a : α), as[i]? = some a → ∃ b, bs[i]? = some b ∧ R a b
  | [], [], _, i, a, h => by simp at h
  | x :: _, y :: _, ⟨h1, h2⟩, 0, a, h => by
    simp at h; subst h; exact ⟨y, by simp, h1⟩
  | _ :: _, _ :: _, ⟨_, h2⟩, i + 1, a, h => by
    simp at h
    obtain ⟨b, hb, hr⟩ := All2.get _ _ h2 i a h
    exact ⟨b, by simpa using hb, hr⟩
  | [], _ :: _, h, _, _, _ => h.elim
  | _ :: _, [], h, _, _, _ => h.elim
theorem All2.of_get {α β : Type} {R : α → β → Prop} : ∀ (as : List α) (bs : List β), as.length = bs.length → (∀ (i : Nat) (a : α) (b : β), as[i]? = some a → bs[i]? = some b → R a b) → All2 R as bs
  | [], [], _, _ => trivial
  | x :: as, y :: bs, hl, h => ⟨h 0 x y rfl rfl, All2.of_get as bs (by simpa using hl) (fun i a b ha hb => h (i + 1) a b (by simpa using ha) (by simpa using hb))⟩
  | [], _ :: _, hl, _ => by simp at hl
  | _ :: _, [], hl, _ => by simp at hl
/-- Which blocks the named objects hold. -/
def Foot (L : Loc) (σ : Store) (b : Nat) : Prop := ∃ id ver o, σ.get id = some (ver, o) ∧ L.cap id ≠ 0 ∧ L.blk id = b
/-- The entries of a map bear stamps. -/
def Stamped (es : Array MapEntry) (clock : Nat) : Prop := (∀ m ∈ es.toList, m.born < clock) ∧ (es.toList.map (·.born)).Nodup
def stampOf (es : Array MapEntry) (i : Nat) : Nat := ((es.toList[i]?).map (·.born)).getD 0
/-- What an iterator has handed out. -/
def IterRep (keys : List Value) (seen : List Nat) (es : Array MapEntry) (clock : Nat) (stamps : Array Nat) : Prop :=
  es.toList.map (·.key) = keys ∧ Stamped es clock ∧ stamps.toList = seen.map (stampOf es) ∧ ∀ i ∈ seen, i < keys.length
/-- What a named object says of memory. -/
def ObjRep (ok : Nat → Prop) (L : Loc) (w : World) (id ver : Nat) : AObj → Prop
  | .row sz els => L.ver id = ver ∧ L.sz id = sz ∧ (∀ e ∈ els, e.length = sz) ∧ els.length ≤ L.cap id ∧
      (L.cap id ≠ 0 → ∃ (conc : Array Value) (e : TypeId), w.heap[L.blk id]? = some (.cells conc e (0, 0)) ∧ conc.size = L.cap id * sz ∧
        ∀ i el j av, els[i]? = some el → el[j]? = some av → ∃ v, conc[i * sz + j]? = some v ∧ RepL ok L w av v ∧ v.oneCell' = true)
  | .map ents => L.ver id = ver ∧ L.cap id ≠ 0 ∧ ∃ es clock, w.heap[L.blk id]? = some (.map es clock) ∧
      All2 (fun (a : Value × AVal) (m : MapEntry) => m.key = a.1 ∧ RepA ok L w a.2 m.val) ents es.toList ∧ Stamped es clock
  | .iter keys seen => L.ver id = ver ∧ L.cap id ≠ 0 ∧ ∃ mb es clock stamps, ok mb ∧ w.heap[mb]? = some (.map es clock) ∧ w.heap[L.blk id]? = some (.mapIter (some mb) clock stamps clock) ∧ IterRep keys seen es clock stamps
structure Sim (ok : Nat → Prop) (L : Loc) (σ : Store) (w : World) : Prop where
  objs : ∀ id ver o, σ.get id = some (ver, o) → ObjRep ok L w id ver o
  lt : ∀ b, Foot L σ b → b < w.heap.size
  inj : ∀ i j vi vj oi oj, σ.get i = some (vi, oi) → σ.get j = some (vj, oj) → L.cap i ≠ 0 → L.cap j ≠ 0 → L.blk i = L.blk j → i = j
  okd : ∀ b, ok b → b < w.heap.size ∧ ¬ Foot L σ b
  glob : GlobOK ok w
/-- What a piece of code may have turned. -/
structure Evo (ok : Nat → Prop) (L : Loc) (σ : Store) (w : World) (ok' : Nat → Prop) (L' : Loc) (σ' : Store) (w' : World) : Prop where
  os : w'.os = w.os
  tape : w'.tape = w.tape
  output : w'.output = w.output
  size : w.heap.size ≤ w'.heap.size
  same : ∀ b, b < w.heap.size → ¬ Foot L σ b → w'.heap[b]? = w.heap[b]?
  foot : ∀ b, b < w.heap.size → Foot L' σ' b → Foot L σ b
  okm : ∀ b, ok b → ok' b
  okn : ∀ b, ok' b → b < w.heap.size → ok b ∨ Foot L σ b
  ver : ∀ id, L.ver id ≤ L'.ver id
  stay : ∀ id, L'.ver id = L.ver id → L'.blk id = L.blk id ∧ L'.cap id = L.cap id ∧ L'.sz id = L.sz id
theorem Sim.globEvo {ok ok' : Nat → Prop} {L L' : Loc} {σ σ' : Store} {w w' : World} (hs : Sim ok L σ w) (he : Evo ok L σ w ok' L' σ' w') : GlobOK ok' w' :=
  hs.glob.mono he.okm (fun b hb => he.same b (hs.okd b hb).1 (hs.okd b hb).2)
theorem Evo.refl (ok : Nat → Prop) (L : Loc) (σ : Store) (w : World) : Evo ok L σ w ok L σ w :=
  ⟨rfl, rfl, rfl, Nat.le_refl _, fun _ _ _ => rfl, fun _ _ h => h, fun _ h => h, fun _ h _ => .inl h, fun _ => Nat.le_refl _, fun _ _ => ⟨rfl, rfl, rfl⟩⟩
theorem Evo.trans {ok ok1 ok2 : Nat → Prop} {L L1 L2 : Loc} {σ σ1 σ2 : Store} {w w1 w2 : World} (h : Evo ok L σ w ok1 L1 σ1 w1) (k : Evo ok1 L1 σ1 w1 ok2 L2 σ2 w2) : Evo ok L σ w ok2 L2 σ2 w2 where
  os := k.os.trans h.os
  tape := k.tape.trans h.tape
  output := k.output.trans h.output
  size := Nat.le_trans h.size k.size
  same := fun b hb hf => (k.same b (Nat.lt_of_lt_of_le hb h.size) (fun hf1 => hf (h.foot b hb hf1))).trans (h.same b hb hf)
  foot := fun b hb hf => h.foot b hb (k.foot b (Nat.lt_of_lt_of_le hb h.size) hf)
  okm := fun b hb => k.okm b (h.okm b hb)
  okn := fun b hb hl => (k.okn b hb (Nat.lt_of_lt_of_le hl h.size)).elim (fun h1 => h.okn b h1 hl) (fun h1 => .inr (h.foot b hl h1))
  ver := fun id => Nat.le_trans (h.ver id) (k.ver id)
  stay := fun id e => by
    have h1 := h.ver id
    have h2 := k.ver id
    have e1 : L1.ver id = L.ver id := by omega
    have e2 : L2.ver id = L1.ver id := by omega
    obtain ⟨a1, a2, a3⟩ := h.stay id e1
    obtain ⟨b1, b2, b3⟩ := k.stay id e2
    exact ⟨b1.trans a1, b2.trans a2, b3.trans a3⟩
section
variable {ok ok' : Nat → Prop} {L L' : Loc} {σ σ' : Store} {w w' : World}
theorem RepL.evo {a : AVal} {v : Value} (h : RepL ok L w a v) (hs : Sim ok L σ w) (he : Evo ok L σ w ok' L' σ' w') : RepL ok' L' w' a v := by
  have hc : ∀ {a v}, RepC ok w a v → RepC ok' w' a v := fun h => h.mono he.okm (fun b hb => he.same b (hs.okd b hb).1 (hs.okd b hb).2)
  cases a with
  | slice id ver off n =>
    obtain ⟨h1, h2⟩ := h
    refine ⟨Nat.le_trans h1 (he.ver id), fun e => ?_⟩
    have := he.ver id
    have e1 : L.ver id = ver := by omega
    obtain ⟨b1, b2, b3⟩ := he.stay id (by omega)
    rw [b1, b2, b3]
    exact h2 e1
  | ptr id ver i j =>
    obtain ⟨h1, h2⟩ := h
    refine ⟨Nat.le_trans h1 (he.ver id), fun e => ?_⟩
    have := he.ver id
    have e1 : L.ver id = ver := by omega
    obtain ⟨b1, b2, b3⟩ := he.stay id (by omega)
    rw [b1, b3]
    exact h2 e1
  | map id ver =>
    obtain ⟨h1, h2⟩ := h
    refine ⟨Nat.le_trans h1 (he.ver id), fun e => ?_⟩
    have := he.ver id
    have e1 : L.ver id = ver := by omega
    obtain ⟨b1, b2, b3⟩ := he.stay id (by omega)
    rw [b1]
    exact h2 e1
  | _ => exact hc h
theorem RepA.evo {a : AVal} {v : Value} (h : RepA ok L w a v) (hs : Sim ok L σ w) (he : Evo ok L σ w ok' L' σ' w') : RepA ok' L' w' a v := by
  cases a with
  | agg cells => obtain ⟨vs, h1, h2⟩ := h; exact ⟨vs, h1, All2.mono (fun _ _ h => RepL.evo h hs he) _ _ h2⟩
  | fn f caps => obtain ⟨vs, h1, h2⟩ := h; exact ⟨vs, h1, All2.mono (fun _ _ h => RepL.evo h hs he) _ _ h2⟩
  | _ => simp only [RepA] at h ⊢; exact RepL.evo h hs he
theorem Rep.evo {a : AVal} {v : Value} (h : Rep ok L w a v) (hs : Sim ok L σ w) (he : Evo ok L σ w ok' L' σ' w') : Rep ok' L' w' a v := by
  cases a with
  | tuple comps => obtain ⟨vs, h1, h2⟩ := h; exact ⟨vs, h1, All2.mono (fun _ _ h => RepA.evo h hs he) _ _ h2⟩
  | _ => simp only [Rep] at h ⊢; exact RepA.evo h hs he
/-- The temporaries, as far as they are told. -/
def RepEnv (ok : Nat → Prop) (L : Loc) (w : World) (env : Env) (tmps : Array Value) : Prop :=
  ∀ t a, env.get t = some a → ∃ v, tmps[t]? = some v ∧ Rep ok L w a v
theorem RepEnv.evo {env : Env} {tmps : Array Value} (h : RepEnv ok L w env tmps) (hs : Sim ok L σ w) (he : Evo ok L σ w ok' L' σ' w') : RepEnv ok' L' w' env tmps :=
  fun t a ht => let ⟨v, h1, h2⟩ := h t a ht; ⟨v, h1, h2.evo hs he⟩
/-- A temporary is written. -/
def Env.putd (env : Env) (dst : Option Tmp) (a : AVal) : Env := match dst with | some d => (d, a) :: env | none => env
theorem RepEnv.put {env : Env} {act : Act} {dst : Option Tmp} {a : AVal} {v : Value} (h : RepEnv ok L w env act.tmps) (hv : Rep ok L w a v) (hd : ∀ d, dst = some d → d < act.tmps.size) :
    RepEnv ok L w (env.putd dst a) (act.put dst v).tmps := by
  cases dst with
  | none => exact h
  | some d =>
    intro t b ht
    simp only [Env.putd, Env.get_cons] at ht
    simp only [Act.put]
    by_cases e : d = t
    · subst e
      rw [if_pos rfl] at ht
      cases ht
      exact ⟨v, by rw [Array.getElem?_setIfInBounds_self, if_pos (hd _ rfl)], hv⟩
    · rw [if_neg e] at ht
      obtain ⟨u, h1, h2⟩ := h t b ht
      exact ⟨u, by rw [Array.getElem?_setIfInBounds_ne e]; exact h1, h2⟩
theorem RepEnv.weaken {env env' : Env} {tmps : Array Value} (h : RepEnv ok L w env tmps) (hsub : ∀ t a, env'.get t = some a → env.get t = some a) : RepEnv ok L w env' tmps :=
  fun t a ht => h t a (hsub t a ht)
/-- An operand. -/
def aval (env : Env) : Operand → Option AVal
  | .tmp t => env.get t
  | .const (.agg cs) => some (.agg (cs.toList.map .v))
  | .const v => some (.v v)
  | .func f => some (.v (.func (.func f) #[] #[]))
  | .global _ => none
theorem All2.map_v (ok : Nat → Prop) (L : Loc) (w : World) : ∀ vs : List Value, All2 (RepL ok L w) (vs.map .v) vs
  | [] => trivial
  | v :: vs => ⟨RepC.v v, All2.map_v ok L w vs⟩
theorem RepEnv.aval {env : Env} {act : Act} (h : RepEnv ok L w env act.tmps) {x : Operand} {a : AVal} (hx : aval env x = some a) : Rep ok L w a (act.eval x) := by
  cases x with
  | tmp t =>
    obtain ⟨v, h1, h2⟩ := h t a hx
    simp only [Act.eval, Array.getD_eq_getD_getElem?, h1]
    exact h2
  | const v =>
    cases v <;> simp only [Go.Proofs.YtcgdlhkiecommaaGreatDoor.aval, Option.some.injEq] at hx <;> subst hx <;> first
      | exact RepC.v _
      | (rename_i cs; exact ⟨cs.toList, by simp [Act.eval], All2.map_v ok L w cs.toList⟩)
  | func f => simp only [Go.Proofs.YtcgdlhkiecommaaGreatDoor.aval, Option.some.injEq] at hx; subst hx; exact RepC.v _
  | global g => simp [Go.Proofs.YtcgdlhkiecommaaGreatDoor.aval] at hx
end
end Go.Proofs.YtcgdlhkiecommaaGreatDoor

/- The engine, part 2: pieces of code, calls, loops, over abstract values. -/

set_option linter.unusedVariables false
set_option linter.unusedSimpArgs false
namespace Go.Proofs.YtcgdlhkiecommaaGreatDoor
open Go
inductive AExit where
  | normal
  | exit (id : Nat)
  | goto (l : Nat)
  | ret
  | panic (a : AVal)
def ExitRep (ok : Nat → Prop) (L : Loc) (w : World) : AExit → Exit → Prop
  | .normal, .normal => True
  | .exit i, .exit j => i = j
  | .goto i, .goto j => i = j
  | .ret, .ret => True
  | .panic a, .panic chain => ∃ v, chain = [{ v := v, recovered := false }] ∧ Rep ok L w a v
  | _, _ => False
abbrev APost := AExit → Env → Store → Prop
/-- What a piece of code leaves. -/
def Post (n : Nat) (Q : APost) (ok : Nat → Prop) (L : Loc) (σ : Store) (w : World) : Exit → Act → World → Prop := fun e act' w' =>
  ∃ ae env' σ' ok' L', Q ae env' σ' ∧ Evo ok L σ w ok' L' σ' w' ∧ Sim ok' L' σ' w' ∧ RepEnv ok' L' w' env' act'.tmps ∧ act'.defers = [] ∧ act'.tmps.size = n ∧ ExitRep ok' L' w' ae e
theorem Post.after {n : Nat} {Q : APost} {ok ok1 : Nat → Prop} {L L1 : Loc} {σ σ1 : Store} {w w1 : World} (he : Evo ok L σ w ok1 L1 σ1 w1) {e : Exit} {a : Act} {w' : World} (h : Post n Q ok1 L1 σ1 w1 e a w') : Post n Q ok L σ w e a w' := by
  obtain ⟨ae, env', σ', ok', L', h1, h2, h3⟩ := h
  exact ⟨ae, env', σ', ok', L', h1, he.trans h2, h3⟩
theorem Post.mono {n : Nat} {Q Q' : APost} {ok : Nat → Prop} {L : Loc} {σ : Store} {w : World} (hq : ∀ ae env σ, Q ae env σ → Q' ae env σ) {e : Exit} {a : Act} {w' : World} (h : Post n Q ok L σ w e a w') : Post n Q' ok L σ w e a w' := by
  obtain ⟨ae, env', σ', ok', L', h1, h2⟩ := h
  exact ⟨ae, env', σ', ok', L', hq _ _ _ h1, h2⟩
/-- The weakest that must hold ahead of a piece of code. -/
def AW (P : Program) (n : Nat) (c : Code) (Q : APost) (env : Env) (σ : Store) : Prop :=
  ∀ ok L w act, Sim ok L σ w → RepEnv ok L w env act.tmps → act.defers = [] → act.tmps.size = n → c.wp P (Post n Q ok L σ w) act w
section
variable {P : Program} {n : Nat} {Q : APost} {env : Env} {σ : Store}
theorem aw_mono {c : Code} {Q' : APost} (hq : ∀ ae env σ, Q ae env σ → Q' ae env σ) (h : AW P n c Q env σ) : AW P n c Q' env σ :=
  fun ok L w act h1 h2 h3 h4 => wp_mono (h ok L w act h1 h2 h3 h4) fun _ _ _ hp => hp.mono hq
theorem aw_weaken {c : Code} (env' : Env) (hsub : ∀ t a, env'.get t = some a → env.get t = some a) (h : AW P n c Q env' σ) : AW P n c Q env σ :=
  fun ok L w act h1 h2 h3 h4 => h ok L w act h1 (h2.weaken hsub) h3 h4
def AExit.then (next : Env → Store → Prop) (Q : APost) : APost
  | .normal, env, σ => next env σ
  | e, env, σ => Q e env σ
def AExit.inBlock (id : Nat) (Q : APost) : APost
  | .exit id', env, σ => match Nat.beq id' id with | true => Q .normal env σ | false => Q (.exit id') env σ
  | e, env, σ => Q e env σ
theorem aw_skip (h : Q .normal env σ) : AW P n .skip Q env σ :=
  fun ok L w act h1 h2 h3 h4 => wp_skip ⟨.normal, env, σ, ok, L, h, .refl _ _ _ _, h1, h2, h3, h4, trivial⟩
theorem aw_exit {id : Nat} (h : Q (.exit id) env σ) : AW P n (.exit id) Q env σ :=
  fun ok L w act h1 h2 h3 h4 => wp_exit ⟨.exit id, env, σ, ok, L, h, .refl _ _ _ _, h1, h2, h3, h4, rfl⟩
theorem aw_ret (h : Q .ret env σ) : AW P n .ret Q env σ :=
  fun ok L w act h1 h2 h3 h4 => wp_ret ⟨.ret, env, σ, ok, L, h, .refl _ _ _ _, h1, h2, h3, h4, trivial⟩
theorem post_then {x : AExit} {e : Exit} {K : Env → Store → Prop} {K' : Act → World → Prop} {ok : Nat → Prop} {L : Loc} {σ : Store} {w : World} {act : Act} {w1 : World}
    (hp : Post n (AExit.then K Q) ok L σ w e act w1)
    (hk : ∀ env1 σ1 ok1 L1, K env1 σ1 → Evo ok L σ w ok1 L1 σ1 w1 → Sim ok1 L1 σ1 w1 → RepEnv ok1 L1 w1 env1 act.tmps → act.defers = [] → act.tmps.size = n → K' act w1) :
    Exit.then K' (Post n Q ok L σ w) e act w1 := by
  obtain ⟨ae, env1, σ1, ok1, L1, hq, he, hs1, hr1, hd1, hn1, hx⟩ := hp
  cases ae <;> cases e <;> simp only [ExitRep] at hx
  · exact hk _ _ _ _ hq he hs1 hr1 hd1 hn1
  · exact ⟨_, env1, σ1, ok1, L1, hq, he, hs1, hr1, hd1, hn1, hx⟩
  · exact ⟨_, env1, σ1, ok1, L1, hq, he, hs1, hr1, hd1, hn1, hx⟩
  · exact ⟨_, env1, σ1, ok1, L1, hq, he, hs1, hr1, hd1, hn1, hx⟩
  · exact ⟨_, env1, σ1, ok1, L1, hq, he, hs1, hr1, hd1, hn1, hx⟩
theorem aw_seq {x y : Code} (h : AW P n x (AExit.then (fun env σ => AW P n y Q env σ) Q) env σ) : AW P n (.seq x y) Q env σ := by
  intro ok L w act hs hr hd hn
  refine wp_seq (wp_mono (h ok L w act hs hr hd hn) fun e a1 w1 hp => post_then (x := .normal) hp ?_)
  intro env1 σ1 ok1 L1 hq he hs1 hr1 hd1 hn1
  exact wp_mono (hq ok1 L1 w1 a1 hs1 hr1 hd1 hn1) fun _ _ _ h => h.after he
theorem aw_block {id : Nat} {c : Code} (h : AW P n c (AExit.inBlock id Q) env σ) : AW P n (.block id c) Q env σ := by
  intro ok L w act hs hr hd hn
  refine wp_block (wp_mono (h ok L w act hs hr hd hn) ?_)
  rintro e a1 w1 ⟨ae, env1, σ1, ok1, L1, hq, he, hs1, hr1, hd1, hn1, hx⟩
  cases ae <;> cases e <;> simp only [ExitRep] at hx
  · exact ⟨_, env1, σ1, ok1, L1, hq, he, hs1, hr1, hd1, hn1, trivial⟩
  · rename_i i j
    subst hx
    simp only [AExit.inBlock] at hq
    simp only [Exit.inBlock]
    by_cases hi : i = id
    · rw [nat_beq_true.2 hi] at hq
      rw [if_pos hi]
      exact ⟨.normal, env1, σ1, ok1, L1, hq, he, hs1, hr1, hd1, hn1, trivial⟩
    · rw [nat_beq_false.2 hi] at hq
      rw [if_neg hi]
      exact ⟨.exit i, env1, σ1, ok1, L1, hq, he, hs1, hr1, hd1, hn1, rfl⟩
  · exact ⟨_, env1, σ1, ok1, L1, hq, he, hs1, hr1, hd1, hn1, hx⟩
  · exact ⟨_, env1, σ1, ok1, L1, hq, he, hs1, hr1, hd1, hn1, hx⟩
  · exact ⟨_, env1, σ1, ok1, L1, hq, he, hs1, hr1, hd1, hn1, hx⟩
theorem rep_bool {ok : Nat → Prop} {L : Loc} {w : World} {x : Value} {v : Value} (h : Rep ok L w (.v x) v) : v = x := by
  cases h; rfl
theorem aw_cond {c : Operand} {x y : Code} {b : Bool} (hc : aval env c = some (.v (.bool b))) (ht : b = true → AW P n x Q env σ) (hf : b = false → AW P n y Q env σ) : AW P n (.cond c x y) Q env σ := by
  intro ok L w act hs hr hd hn
  have e := rep_bool (hr.aval hc)
  exact wp_cond_split e (fun hb => ht hb ok L w act hs hr hd hn) (fun hb => hf hb ok L w act hs hr hd hn)
theorem wp_loop_dec {c : Code} {Q : Exit → Act → World → Prop} (I : Nat → Act → World → Prop)
    (round : ∀ m a w, I m a w → c.wp P (Exit.then (fun a' w' => ∃ m', m' < m ∧ I m' a' w') Q) a w) (m : Nat) (a : Act) (w : World) (h0 : I m a w) : (Code.loop c).wp P Q a w := by
  intro b k cs
  have key : ∀ m a w, I m a w → ∃ e a' w', Q e a' w' ∧ Arrives P (lone (b.at a (.code c :: .inLoop c :: k)) cs w) b k cs e a' w' := by
    intro m
    induction m using Nat.strongRecOn with
    | _ m ih =>
      intro a w hI
      obtain ⟨e, a1, w1, hq, harr⟩ := round m a w hI b (.inLoop c :: k) cs
      cases e with
      | normal =>
        obtain ⟨m', hlt, hI1⟩ := hq
        obtain ⟨e2, a2, w2, hq2, harr2⟩ := ih m' hlt a1 w1 hI1
        exact ⟨e2, a2, w2, hq2, .of_steps (Steps.trans harr (.one step_inLoop)) harr2⟩
      | outgrown => exact ⟨_, a1, w1, hq, .pass (x := .inLoop c) rfl (fun _ _ => .inl (by simp)) harr⟩
      | exit id => exact ⟨_, a1, w1, hq, .pass (x := .inLoop c) rfl (fun _ _ => .inl (by simp)) harr⟩
      | goto l => exact ⟨_, a1, w1, hq, .pass (x := .inLoop c) rfl (fun _ _ => .inl (by simp)) harr⟩
      | ret => exact ⟨_, a1, w1, hq, .pass (x := .inLoop c) rfl (fun _ _ => .inl (by simp)) harr⟩
      | panic ch => exact ⟨_, a1, w1, hq, .pass (x := .inLoop c) rfl (fun _ _ => .inl (by simp)) harr⟩
  obtain ⟨e, a', w', hq, harr⟩ := key m a w h0
  exact ⟨e, a', w', hq, .of_steps (.one step_loop) harr⟩
/-- A loop: 'I m env σ' holds at each round's head, m going down. -/
theorem aw_loop {c : Code} (I : Nat → Env → Store → Prop) (m : Nat) (h0 : I m env σ)
    (round : ∀ m env σ, I m env σ → AW P n c (AExit.then (fun env' σ' => ∃ m', m' < m ∧ I m' env' σ') Q) env σ) : AW P n (.loop c) Q env σ := by
  intro ok L w act hs hr hd hn
  refine wp_loop_dec (fun m a w' => ∃ env1 σ1 ok1 L1, I m env1 σ1 ∧ Evo ok L σ w ok1 L1 σ1 w' ∧ Sim ok1 L1 σ1 w' ∧ RepEnv ok1 L1 w' env1 a.tmps ∧ a.defers = [] ∧ a.tmps.size = n) ?_ m act w
    ⟨env, σ, ok, L, h0, .refl _ _ _ _, hs, hr, hd, hn⟩
  rintro m a w1 ⟨env1, σ1, ok1, L1, hI, he, hs1, hr1, hd1, hn1⟩
  refine wp_mono (round m env1 σ1 hI ok1 L1 w1 a hs1 hr1 hd1 hn1) fun e a2 w2 hp => post_then (x := .normal) (hp.after he) ?_
  rintro env2 σ2 ok2 L2 ⟨m', hlt, hI2⟩ he2 hs2 hr2 hd2 hn2
  exact ⟨m', hlt, env2, σ2, ok2, L2, hI2, he2, hs2, hr2, hd2, hn2⟩
/-! ### Calls -/
inductive AEnd where
  | ret (a : AVal)
  | pan (a : AVal)
def EndRep (ok : Nat → Prop) (L : Loc) (w : World) : AEnd → Ending → Prop
  | .ret a, .returned v => Rep ok L w a v
  | .pan a, .panicked chain => ∃ v, chain = [{ v := v, recovered := false }] ∧ Rep ok L w a v
  | _, _ => False
def CPost (R : AEnd → Store → Prop) (ok : Nat → Prop) (L : Loc) (σ : Store) (w : World) : Ending → World → Prop := fun e w' =>
  ∃ r σ' ok' L', R r σ' ∧ Evo ok L σ w ok' L' σ' w' ∧ Sim ok' L' σ' w' ∧ EndRep ok' L' w' r e
/-- A function's contract. -/
def AC (P : Program) (f : FuncId) (avs : List AVal) (σ : Store) (R : AEnd → Store → Prop) : Prop :=
  ∀ ok L w vs, Sim ok L σ w → All2 (Rep ok L w) avs vs → Calls P f vs.toArray w (CPost R ok L σ w)
theorem ac_mono {f : FuncId} {avs : List AVal} {R R' : AEnd → Store → Prop} (h : AC P f avs σ R) (hr : ∀ r σ', R r σ' → R' r σ') : AC P f avs σ R' :=
  fun ok L w vs h1 h2 => (h ok L w vs h1 h2).mono fun _ _ ⟨r, σ', ok', L', a, b⟩ => ⟨r, σ', ok', L', hr _ _ a, b⟩
/-- What a function's result variables hold. -/
def ResOK (P : Program) (fn : Func) (env : Env) (σ : Store) (r : AVal) : Prop :=
  ∀ ok L w tmps, Sim ok L σ w → RepEnv ok L w env tmps → ∃ v, (results fn tmps).run P w = .ok v w ∧ Rep ok L w r v
def RetPost (P : Program) (fn : Func) (R : AEnd → Store → Prop) : APost
  | .normal, env, σ | .ret, env, σ => ∃ r, ResOK P fn env σ r ∧ R (.ret r) σ
  | .panic a, env, σ => R (.pan a) σ
  | _, _, _ => False
def initEnv : Nat → List AVal → Env
  | _, [] => []
  | k, a :: as => (k, a) :: initEnv (k + 1) as
theorem initEnv_rep {ok : Nat → Prop} {L : Loc} {w : World} (avs : List AVal) (vs : List Value) (h : All2 (Rep ok L w) avs vs) (k : Nat) (pre rest : List Value) (hk : pre.length = k) :
    RepEnv ok L w (initEnv k avs) (pre ++ vs ++ rest).toArray := by
  induction avs generalizing vs k pre with
  | nil => intro t a ht; simp [initEnv, Env.get] at ht
  | cons a as ih =>
    cases vs with
    | nil => exact h.elim
    | cons v vs =>
      obtain ⟨h1, h2⟩ := h
      intro t b ht
      simp only [initEnv, Env.get_cons] at ht
      by_cases e : k = t
      · subst e
        rw [if_pos rfl] at ht
        cases ht
        refine ⟨v, ?_, h1⟩
        simp [← hk]
      · rw [if_neg e] at ht
        have := ih vs h2 (k + 1) (pre ++ [v]) (by simp [hk]) t b ht
        simpa using this
theorem ac_enter {f : FuncId} {fn : Func} {c : Code} {avs : List AVal} {R : AEnd → Store → Prop} (nt : Nat) (hf : P.funcs[f]? = some fn) (hb : fn.body = some c) (hn : fn.ntmps = nt) (hl : avs.length ≤ nt)
    (h : AW P nt c (RetPost P fn R) (initEnv 0 avs) σ) : AC P f avs σ R := by
  intro ok L w vs hs hv
  subst hn
  refine calls_of_wp hf hb (wp_mono (h ok L w _ hs ?_ rfl ?_) ?_)
  · have := initEnv_rep avs vs hv 0 [] (List.replicate (fn.ntmps - vs.length) undef) rfl
    simp only [List.nil_append] at this
    rw [show vs.toArray ++ Array.replicate (fn.ntmps - vs.toArray.size) undef = (vs ++ List.replicate (fn.ntmps - vs.length) undef).toArray from by simp]
    exact this
  · have := All2.length _ _ hv
    simp
    omega
  · rintro e a w' ⟨ae, env', σ', ok', L', hq, he, hs', hr', hd', hn', hx⟩
    cases ae <;> cases e <;> simp only [ExitRep] at hx <;> simp only [RetPost] at hq
    · obtain ⟨r, h1, h2⟩ := hq
      obtain ⟨v, h3, h4⟩ := h1 ok' L' w' a.tmps hs' hr'
      exact ⟨hd', v, h3, .ret r, σ', ok', L', h2, he, hs', h4⟩
    · obtain ⟨r, h1, h2⟩ := hq
      obtain ⟨v, h3, h4⟩ := h1 ok' L' w' a.tmps hs' hr'
      exact ⟨hd', v, h3, .ret r, σ', ok', L', h2, he, hs', h4⟩
    · obtain ⟨v, h3, h4⟩ := hx
      exact ⟨hd', .pan _, σ', ok', L', hq, he, hs', v, h3, h4⟩
theorem getD_of_get {tmps : Array Value} {t : Nat} {v : Value} (h : tmps[t]? = some v) : tmps.getD t undef = v := by
  rw [Array.getD_eq_getD_getElem?, h]; rfl
theorem res_0 {fn : Func} (h : fn.results = #[]) : ResOK P fn env σ (.tuple []) :=
  fun ok L w tmps _ hr => ⟨.tuple #[], results_none h tmps P w, [], rfl, trivial⟩
theorem res_1 {fn : Func} {t : Nat} {a : AVal} (h : fn.results = #[.tmp t]) (ht : env.get t = some a) : ResOK P fn env σ a :=
  fun ok L w tmps _ hr => by
    obtain ⟨v, h1, h2⟩ := hr t a ht
    exact ⟨v, by rw [results_tmp h, getD_of_get h1], h2⟩
/-- Not a tuple. -/
def AVal.flat : AVal → Bool
  | .tuple _ => false
  | _ => true
theorem repA_of {ok : Nat → Prop} {L : Loc} {w : World} {a : AVal} {v : Value} (h : Rep ok L w a v) (hf : a.flat = true) : RepA ok L w a v := by
  cases a with
  | tuple _ => simp [AVal.flat] at hf
  | _ => exact h
theorem rep_of {ok : Nat → Prop} {L : Loc} {w : World} {a : AVal} {v : Value} (h : RepA ok L w a v) (hf : a.flat = true) : Rep ok L w a v := by
  cases a with
  | tuple _ => simp [AVal.flat] at hf
  | _ => exact h
theorem res_2 {fn : Func} {t u : Nat} {a b : AVal} (h : fn.results = #[.tmp t, .tmp u]) (ht : env.get t = some a) (hu : env.get u = some b) (ha : a.flat = true) (hb : b.flat = true) : ResOK P fn env σ (.tuple [a, b]) :=
  fun ok L w tmps _ hr => by
    obtain ⟨v, h1, h2⟩ := hr t a ht
    obtain ⟨v', h1', h2'⟩ := hr u b hu
    refine ⟨.tuple #[v, v'], by rw [results_tmp2 h, getD_of_get h1, getD_of_get h1'], [v, v'], rfl, repA_of h2 ha, repA_of h2' hb, trivial⟩
end
end Go.Proofs.YtcgdlhkiecommaaGreatDoor

/- The engine, part 3: regions in the order of the text; operations on plain values. -/

set_option linter.unusedVariables false
set_option linter.unusedSimpArgs false
namespace Go.Proofs.YtcgdlhkiecommaaGreatDoor
open Go
def AL (P : Program) (n : Nat) (ops : Array Oper) (l : List Oper) (Q : APost) (env : Env) (σ : Store) : Prop :=
  ∀ ok L w act, Sim ok L σ w → RepEnv ok L w env act.tmps → act.defers = [] → act.tmps.size = n → wpList P ops (Post n Q ok L σ w) l act w
/-- One operation, its operands told by E. -/
def OpTo (P : Program) (o : Oper) (E : Operand → Option AVal) (σ : Store) (a : AVal) (σ' : Store) : Prop :=
  ∀ ok L w (ρ : Operand → Value), Sim ok L σ w → (∀ x ∈ o.op.operands, ∀ b, E x = some b → Rep ok L w b (ρ x)) →
    ∃ v w' ok' L', ((execOp ρ o).run P w = .ok (.value v) w' ∨ ((execOp ρ o).run P w = .ok .skip w' ∧ v = undef)) ∧ Evo ok L σ w ok' L' σ' w' ∧ Sim ok' L' σ' w' ∧ Rep ok' L' w' a v
section
variable {P : Program} {n : Nat} {Q : APost} {env : Env} {σ σ' : Store} {ops : Array Oper} {rest : List Oper}
theorem aw_region {id : Nat} {l : List Oper} (h : AL P n l.toArray l Q env σ) : AW P n (.region id l.toArray false) Q env σ :=
  fun ok L w act h1 h2 h3 h4 => wp_region_lit (h ok L w act h1 h2 h3 h4)
theorem al_nil (h : Q .normal env σ) : AL P n ops [] Q env σ :=
  fun ok L w act h1 h2 h3 h4 => wpList_nil ⟨.normal, env, σ, ok, L, h, .refl _ _ _ _, h1, h2, h3, h4, trivial⟩
theorem al_weaken {l : List Oper} (env' : Env) (hsub : ∀ t a, env'.get t = some a → env.get t = some a) (h : AL P n ops l Q env' σ) : AL P n ops l Q env σ :=
  fun ok L w act h1 h2 h3 h4 => h ok L w act h1 (h2.weaken hsub) h3 h4
theorem put_defers (act : Act) (d : Option Tmp) (v : Value) : (act.put d v).defers = act.defers := by cases d <;> rfl
theorem put_size (act : Act) (d : Option Tmp) (v : Value) : (act.put d v).tmps.size = act.tmps.size := by cases d <;> simp [Act.put]
theorem wpList_after {Q' : Exit → Act → World → Prop} {Q1 : Exit → Act → World → Prop} (h : ∀ e a w, Q1 e a w → Q' e a w) : ∀ (l : List Oper) (a : Act) (w : World), wpList P ops Q1 l a w → wpList P ops Q' l a w
  | [], a, w, hh => h _ _ _ hh
  | o :: l, a, w, hh => by
    have mono : ∀ (K K' : Act → World → Prop), (∀ a w, K a w → K' a w) → o.wp P a w K Q1 → o.wp P a w K' Q' := by
      intro K K' hK
      unfold Oper.wp
      generalize (execOp a.eval o).run P w = r
      cases r with
      | ok n w' =>
        cases n <;> simp only [Oper.upon] <;> first
          | exact hK _ _
          | exact id
          | (intro hc; exact Calls.mono hc (fun e w'' he => by cases e <;> first | exact hK _ _ he | exact h _ _ _ he | (obtain ⟨a, w, hq⟩ := he; exact ⟨a, w, h _ _ _ hq⟩)))
          | (intro hc; exact Rows.mono hc (fun _ _ he => hK _ _ he))
      | halt x w' => cases x <;> simp only [Oper.upon] <;> first | exact id | exact h _ _ _
    unfold wpList at hh ⊢
    split
    · rename_i hw
      rw [if_pos hw] at hh
      rcases hh with hh | ⟨h1, a1, w1, h2⟩
      · exact .inl (mono _ _ (fun a w => wpList_after h l a w) hh)
      · exact .inr ⟨h1, a1, w1, h _ _ _ h2⟩
    · rename_i hw
      rw [if_neg hw] at hh
      exact wpList_after h l _ _ hh
theorem op_step {o : Oper} {a : AVal} (hop : OpTo P o (aval env) σ a σ') (hd : ∀ d, o.dst = some d → d < n)
    (k : AL P n ops rest Q (env.putd o.dst a) σ') {ok : Nat → Prop} {L : Loc} {w : World} {act : Act} (h1 : Sim ok L σ w) (h2 : RepEnv ok L w env act.tmps) (h3 : act.defers = []) (h4 : act.tmps.size = n)
    (K : Act → World → Prop) (hK : ∀ a w', wpList P ops (Post n Q ok L σ w) rest a w' → K a w') : o.wp P act w K (Post n Q ok L σ w) := by
  obtain ⟨v, w', ok', L', hr, he, hs, hv⟩ := hop ok L w act.eval h1 (fun x _ b hx => h2.aval hx)
  have go : K (act.put o.dst v) w' := by
    refine hK _ _ (wpList_after (fun _ _ _ h => Post.after he h) _ _ _ (k ok' L' w' (act.put o.dst v) hs ?_ ?_ ?_))
    · exact (h2.evo h1 he).put hv (fun d hd' => h4 ▸ hd d hd')
    · rw [put_defers]; exact h3
    · rw [put_size]; exact h4
  unfold Oper.wp
  rcases hr with hr | ⟨hr, rfl⟩
  · rw [hr]; exact go
  · rw [hr]; exact go
theorem al_op {o : Oper} {a : AVal} (hop : OpTo P o (aval env) σ a σ') (hg : o.guard = none) (hd : ∀ d, o.dst = some d → d < n)
    (k : AL P n ops rest Q (env.putd o.dst a) σ') : AL P n ops (o :: rest) Q env σ :=
  fun ok L w act h1 h2 h3 h4 => wpList_plain hg fun K hK => op_step hop hd k h1 h2 h3 h4 K hK
theorem yielded_of {ok : Nat → Prop} {L : Loc} {w : World} {act : Act} {g d : Nat} {og : Oper} {b : Bool} (h2 : RepEnv ok L w env act.tmps) (hog : ops[g]? = some og) (hdst : og.dst = some d) (hb : env.get d = some (.v (.bool b))) : yielded ops act.tmps g = some b := by
  obtain ⟨v, h3, h4⟩ := h2 d _ hb
  have := rep_bool h4
  subst this
  simp [yielded, hog, hdst, h3]
/-- A guarded operation that is carried out. -/
theorem al_take {o : Oper} {a : AVal} {g d : Nat} {og : Oper} {b : Bool} (hop : OpTo P o (aval env) σ a σ') (hg : o.guard = some (g, b)) (hog : ops[g]? = some og) (hdst : og.dst = some d) (hb : env.get d = some (.v (.bool b))) (hd : ∀ d, o.dst = some d → d < n)
    (k : AL P n ops rest Q (env.putd o.dst a) σ') : AL P n ops (o :: rest) Q env σ :=
  fun ok L w act h1 h2 h3 h4 => wpList_step fun K hK => by
    rw [if_pos (by simp [Region.wanted, hg, yielded_of h2 hog hdst hb])]
    exact op_step hop hd k h1 h2 h3 h4 K hK
/-- One that is passed over. -/
theorem al_pass {o : Oper} {g d : Nat} {og : Oper} {b : Bool} (hg : o.guard = some (g, b)) (hog : ops[g]? = some og) (hdst : og.dst = some d) (hb : env.get d = some (.v (.bool (!b)))) (hd : ∀ d, o.dst = some d → d < n)
    (k : AL P n ops rest Q (env.putd o.dst (.v undef)) σ) : AL P n ops (o :: rest) Q env σ :=
  fun ok L w act h1 h2 h3 h4 => wpList_step fun K hK => by
    rw [if_neg (by cases b <;> simp [Region.wanted, hg, yielded_of h2 hog hdst hb])]
    refine hK _ _ (k ok L w _ h1 ?_ ?_ ?_)
    · exact h2.put (RepC.v _) (fun d hd' => h4 ▸ hd d hd')
    · rw [put_defers]; exact h3
    · rw [put_size]; exact h4
/-! ### Operations whose operands are plain values, or that only hand a value on -/
variable {E : Operand → Option AVal} {d : Option Tmp} {ty : TypeId} {pos : String} {after : Array Edge} {guard : Option (Nat × Bool)}
theorem op_value {o : Oper} {a : AVal} (h : ∀ ok L w (ρ : Operand → Value), Sim ok L σ w → (∀ x ∈ o.op.operands, ∀ b, E x = some b → Rep ok L w b (ρ x)) → ∃ v, (execOp ρ o).run P w = .ok (.value v) w ∧ Rep ok L w a v) : OpTo P o E σ a σ :=
  fun ok L w ρ hs hr => let ⟨v, h1, h2⟩ := h ok L w ρ hs hr; ⟨v, w, ok, L, .inl h1, .refl _ _ _ _, hs, h2⟩
theorem op_move {x : Operand} {a : AVal} (hx : E x = some a) : OpTo P ⟨d, .move x, ty, pos, after, guard⟩ E σ a σ :=
  op_value fun ok L w ρ hs hr => ⟨ρ x, rfl, hr x (by simp [Op.operands]) a hx⟩
theorem op_assign {x : Operand} {a : AVal} (hx : E x = some a) : OpTo P ⟨d, .assign x, ty, pos, after, guard⟩ E σ a σ :=
  op_value fun ok L w ρ hs hr => ⟨ρ x, rfl, hr x (by simp [Op.operands]) a hx⟩
theorem op_pick {c x y : Operand} {a : AVal} {b : Bool} (hc : E c = some (.v (.bool b))) (ha : (bif b then E x else E y) = some a) : OpTo P ⟨d, .pick c x y, ty, pos, after, guard⟩ E σ a σ :=
  op_value fun ok L w ρ hs hr => by
    have e := rep_bool (hr c (by simp [Op.operands]) _ hc)
    refine ⟨bif b then ρ x else ρ y, ?_, ?_⟩
    · simp [execOp, e, asBool]
    · cases b
      · exact hr y (by simp [Op.operands]) a ha
      · exact hr x (by simp [Op.operands]) a ha
/-- An operation on two plain values. -/
theorem op_two {o : Oper} {x y : Operand} {a b r : Value} (hm : x ∈ o.op.operands) (hm' : y ∈ o.op.operands) (hx : E x = some (.v a)) (hy : E y = some (.v b))
    (h : ∀ (ρ : Operand → Value) (w : World), ρ x = a → ρ y = b → (execOp ρ o).run P w = .ok (.value r) w) : OpTo P o E σ (.v r) σ :=
  op_value fun ok L w ρ hs hr => ⟨r, h ρ w (rep_bool (hr x hm _ hx)) (rep_bool (hr y hm' _ hy)), RepC.v _⟩
theorem op_one {o : Oper} {x : Operand} {a r : Value} (hm : x ∈ o.op.operands) (hx : E x = some (.v a))
    (h : ∀ (ρ : Operand → Value) (w : World), ρ x = a → (execOp ρ o).run P w = .ok (.value r) w) : OpTo P o E σ (.v r) σ :=
  op_value fun ok L w ρ hs hr => ⟨r, h ρ w (rep_bool (hr x hm _ hx)), RepC.v _⟩
section ints
variable {x y : Operand} {t u : TypeId} {k : IntKind} {a b c : Int}
theorem op_add (hx : E x = some (.v (.int k a))) (hy : E y = some (.v (.int k b))) (hw : k.wrap (a + b) = c) : OpTo P ⟨d, .binOp .add t x y u, ty, pos, after, guard⟩ E σ (.v (.int k c)) σ :=
  op_two (by simp [Op.operands]) (by simp [Op.operands]) hx hy fun ρ w h1 h2 => by simp [execOp, eqGuard, binOp, Op.intArith, h1, h2, hw]
theorem op_sub (hx : E x = some (.v (.int k a))) (hy : E y = some (.v (.int k b))) (hw : k.wrap (a - b) = c) : OpTo P ⟨d, .binOp .sub t x y u, ty, pos, after, guard⟩ E σ (.v (.int k c)) σ :=
  op_two (by simp [Op.operands]) (by simp [Op.operands]) hx hy fun ρ w h1 h2 => by simp [execOp, eqGuard, binOp, Op.intArith, h1, h2, hw]
theorem op_mul (hx : E x = some (.v (.int k a))) (hy : E y = some (.v (.int k b))) (hw : k.wrap (a * b) = c) : OpTo P ⟨d, .binOp .mul t x y u, ty, pos, after, guard⟩ E σ (.v (.int k c)) σ :=
  op_two (by simp [Op.operands]) (by simp [Op.operands]) hx hy fun ρ w h1 h2 => by simp [execOp, eqGuard, binOp, Op.intArith, h1, h2, hw]
theorem op_quo (hx : E x = some (.v (.int k a))) (hy : E y = some (.v (.int k b))) (h0 : b ≠ 0) (hw : k.wrap (a.tdiv b) = c) : OpTo P ⟨d, .binOp .quo t x y u, ty, pos, after, guard⟩ E σ (.v (.int k c)) σ :=
  op_two (by simp [Op.operands]) (by simp [Op.operands]) hx hy fun ρ w h1 h2 => by simp [execOp, eqGuard, binOp, Op.intDiv, h1, h2, h0, hw]
theorem op_lss (hx : E x = some (.v (.int k a))) (hy : E y = some (.v (.int k b))) : OpTo P ⟨d, .binOp .lss t x y u, ty, pos, after, guard⟩ E σ (.v (.bool (decide (a < b)))) σ :=
  op_two (by simp [Op.operands]) (by simp [Op.operands]) hx hy fun ρ w h1 h2 => by simp [execOp, eqGuard, binOp, Op.intCmp, h1, h2]
theorem op_leq (hx : E x = some (.v (.int k a))) (hy : E y = some (.v (.int k b))) : OpTo P ⟨d, .binOp .leq t x y u, ty, pos, after, guard⟩ E σ (.v (.bool (decide (a ≤ b)))) σ :=
  op_two (by simp [Op.operands]) (by simp [Op.operands]) hx hy fun ρ w h1 h2 => by simp [execOp, eqGuard, binOp, Op.intCmp, h1, h2]
theorem op_gtr (hx : E x = some (.v (.int k a))) (hy : E y = some (.v (.int k b))) : OpTo P ⟨d, .binOp .gtr t x y u, ty, pos, after, guard⟩ E σ (.v (.bool (decide (a > b)))) σ :=
  op_two (by simp [Op.operands]) (by simp [Op.operands]) hx hy fun ρ w h1 h2 => by simp [execOp, eqGuard, binOp, Op.intCmp, h1, h2]
theorem op_geq (hx : E x = some (.v (.int k a))) (hy : E y = some (.v (.int k b))) : OpTo P ⟨d, .binOp .geq t x y u, ty, pos, after, guard⟩ E σ (.v (.bool (decide (a ≥ b)))) σ :=
  op_two (by simp [Op.operands]) (by simp [Op.operands]) hx hy fun ρ w h1 h2 => by simp [execOp, eqGuard, binOp, Op.intCmp, h1, h2]
theorem op_eql (hx : E x = some (.v (.int k a))) (hy : E y = some (.v (.int k b))) : OpTo P ⟨d, .binOp .eql t x y u, ty, pos, after, guard⟩ E σ (.v (.bool (a == b))) σ :=
  op_two (by simp [Op.operands]) (by simp [Op.operands]) hx hy fun ρ w h1 h2 => by simp [execOp, eqGuard, binOp, Op.intCmp, h1, h2]
theorem op_neq (hx : E x = some (.v (.int k a))) (hy : E y = some (.v (.int k b))) : OpTo P ⟨d, .binOp .neq t x y u, ty, pos, after, guard⟩ E σ (.v (.bool (a != b))) σ :=
  op_two (by simp [Op.operands]) (by simp [Op.operands]) hx hy fun ρ w h1 h2 => by simp [execOp, eqGuard, binOp, Op.intCmp, h1, h2]
theorem op_conv {k' : IntKind} {s : TypeId} {td : TypeDesc} (hsrc : P.underlying s = some td) (hdst : P.underlying t = some (.int k')) (hx : E x = some (.v (.int k a))) (hw : k'.wrap a = c) : OpTo P ⟨d, .convert s t x, ty, pos, after, guard⟩ E σ (.v (.int k' c)) σ :=
  op_one (by simp [Op.operands]) hx fun ρ w h1 => by
    rw [← hw]
    simp only [execOp, h1, convert, Sem.run_bind, run_underlying hsrc, run_underlying hdst, Result.andThen_ok]
    cases td <;> simp [Conv.intToInt]
end ints
theorem op_not {x : Operand} {t : TypeId} {b : Bool} (hx : E x = some (.v (.bool b))) : OpTo P ⟨d, .unOp .not t x, ty, pos, after, guard⟩ E σ (.v (.bool (!b))) σ :=
  op_one (by simp [Op.operands]) hx fun ρ w h1 => by simp [execOp, Op.unary, h1]
theorem run_equal_bool {t : TypeId} {a b : Bool} (w : World) (ht : P.underlying t = some .bool) : (Op.equal t (.bool a) (.bool b)).run P w = .ok (a == b) w := by
  show (Op.equalIn (9999 + 1) t (.bool a) (.bool b)).run P w = _
  rw [Op.equalIn]
  simp [run_underlying ht]
theorem op_beql {x y : Operand} {t u : TypeId} {a b : Bool} (ht : P.underlying t = some .bool) (hx : E x = some (.v (.bool a))) (hy : E y = some (.v (.bool b))) : OpTo P ⟨d, .binOp .eql t x y u, ty, pos, after, guard⟩ E σ (.v (.bool (a == b))) σ :=
  op_two (by simp [Op.operands]) (by simp [Op.operands]) hx hy fun ρ w h1 h2 => by
    simp only [execOp, eqGuard, binOp, h1, h2]
    simp [run_equal_bool w ht]
section strings
variable {x y : Operand} {t u : TypeId} {a b : ByteArray}
theorem op_seql (hx : E x = some (.v (.string a))) (hy : E y = some (.v (.string b))) : OpTo P ⟨d, .binOp .eql t x y u, ty, pos, after, guard⟩ E σ (.v (.bool (a.toList == b.toList))) σ :=
  op_two (by simp [Op.operands]) (by simp [Op.operands]) hx hy fun ρ w h1 h2 => by simp [execOp, eqGuard, binOp, Op.stringOp, h1, h2]
theorem op_sneq (hx : E x = some (.v (.string a))) (hy : E y = some (.v (.string b))) : OpTo P ⟨d, .binOp .neq t x y u, ty, pos, after, guard⟩ E σ (.v (.bool (!(a.toList == b.toList)))) σ :=
  op_two (by simp [Op.operands]) (by simp [Op.operands]) hx hy fun ρ w h1 h2 => by simp [execOp, eqGuard, binOp, Op.stringOp, h1, h2]
theorem op_sadd (hx : E x = some (.v (.string a))) (hy : E y = some (.v (.string b))) (hl : a.size + b.size ≤ 9223372036854775807) : OpTo P ⟨d, .binOp .add t x y u, ty, pos, after, guard⟩ E σ (.v (.string (a ++ b))) σ :=
  op_two (by simp [Op.operands]) (by simp [Op.operands]) hx hy fun ρ w h1 h2 => by
    have : ¬ ((a.size : Int) + (b.size : Int) > IntKind.i64.max) := by simp [IntKind.max, IntKind.bits, IntKind.signed]; omega
    simp only [execOp, eqGuard, binOp, Op.stringOp, h1, h2]
    simp [this]
    omega
theorem op_slen {ts : Array TypeId} (ht : P.underlying t = some .string) (hx : E x = some (.v (.string a))) : OpTo P ⟨d, .call { callee := .builtin .len, args := #[x], argTypes := #[t] }, ty, pos, after, guard⟩ E σ (.v (.int .i64 a.size)) σ :=
  op_one (by simp [Op.operands, Call.operands]) hx fun ρ w h1 => by
    simp [execOp, resolve, invoke, builtin, Builtin.len_, run_underlying ht, h1, goInt]
theorem op_sindex {i : Int} {k : IntKind} (ht : P.underlying t = some .string) (hx : E x = some (.v (.string a))) (hy : E y = some (.v (.int k i))) (h0 : 0 ≤ i) (h1 : i.toNat < a.size) : OpTo P ⟨d, .index t x y, ty, pos, after, guard⟩ E σ (.v (.int .u8 (a[i.toNat]'h1).toNat)) σ :=
  op_two (by simp [Op.operands]) (by simp [Op.operands]) hx hy fun ρ w e1 e2 => by
    have : a[i.toNat]? = some (a[i.toNat]'h1) := getElem?_pos a i.toNat h1
    simp [execOp, Instr.index, asIntOf, run_underlying ht, e1, e2, h0, this]
end strings
theorem wrap_i64 {x : Int} (h0 : -9223372036854775808 ≤ x) (h1 : x ≤ 9223372036854775807) : IntKind.i64.wrap x = x := by
  simp only [IntKind.wrap, IntKind.bits, IntKind.signed, Bool.true_and]
  split <;> rename_i h <;> simp at h <;> omega
theorem wrap_u8 {x : Int} (h0 : 0 ≤ x) (h1 : x ≤ 255) : IntKind.u8.wrap x = x := by
  simp only [IntKind.wrap, IntKind.bits, IntKind.signed, Bool.false_and]
  split <;> rename_i h <;> simp at h ⊢ <;> omega
end
end Go.Proofs.YtcgdlhkiecommaaGreatDoor

/- The engine, part 4: memory: objects made, read, written. -/

set_option linter.unusedVariables false
set_option linter.unusedSimpArgs false
namespace Go.Proofs.YtcgdlhkiecommaaGreatDoor
open Go
def Loc.upd (L : Loc) (id b c s v : Nat) : Loc where
  blk := fun k => if k = id then b else L.blk k
  cap := fun k => if k = id then c else L.cap k
  sz := fun k => if k = id then s else L.sz k
  ver := fun k => if k = id then v else L.ver k
section
variable {ok : Nat → Prop} {L : Loc} {σ : Store} {w w' : World}
theorem ObjRep.evo {ok' : Nat → Prop} {L' : Loc} {σ' : Store} {id ver : Nat} {o : AObj} (h : ObjRep ok L w id ver o) (hs : Sim ok L σ w) (he : Evo ok L σ w ok' L' σ' w')
    (hv : L'.ver id = L.ver id) (hb : L.cap id ≠ 0 → w'.heap[L.blk id]? = w.heap[L.blk id]?) : ObjRep ok' L' w' id ver o := by
  obtain ⟨b1, b2, b3⟩ := he.stay id hv
  cases o with
  | row sz els =>
    obtain ⟨h1, h2, h3, h4, h5⟩ := h
    refine ⟨hv.trans h1, b3.trans h2, h3, by rw [b2]; exact h4, fun hc => ?_⟩
    rw [b2] at hc
    obtain ⟨conc, e, g1, g2, g3⟩ := h5 hc
    refine ⟨conc, e, by rw [b1, hb hc]; exact g1, by rw [b2]; exact g2, fun i el j av hi hj => ?_⟩
    obtain ⟨v, k1, k2, k3⟩ := g3 i el j av hi hj
    exact ⟨v, k1, k2.evo hs he, k3⟩
  | map ents =>
    obtain ⟨h1, h2, es, clock, h3, h4, h5⟩ := h
    refine ⟨hv.trans h1, by rw [b2]; exact h2, es, clock, by rw [b1, hb h2]; exact h3, All2.mono ?_ _ _ h4, h5⟩
    rintro a m ⟨k1, k2⟩
    exact ⟨k1, k2.evo hs he⟩
  | iter keys seen =>
    obtain ⟨h1, h2, mb, es, clock, stamps, h3, h4, h5, h6⟩ := h
    obtain ⟨k1, k2⟩ := hs.okd mb h3
    exact ⟨hv.trans h1, by rw [b2]; exact h2, mb, es, clock, stamps, he.okm _ h3, (he.same mb k1 k2).trans h4, by rw [b1, hb h2]; exact h5, h6⟩
/-- An object is made anew, or moves: it is block b from now on. -/
theorem sim_upd (hs : Sim ok L σ w) (id b c s ver' : Nat) (obj : AObj) (hver : L.ver id < ver') (hos : w'.os = w.os) (htape : w'.tape = w.tape) (hout : w'.output = w.output) (hsize : w.heap.size ≤ w'.heap.size)
    (hsame : ∀ k, k < w.heap.size → k ≠ b → w'.heap[k]? = w.heap[k]?) (hb : w.heap.size ≤ b ∨ (L.blk id = b ∧ L.cap id ≠ 0 ∧ ∃ ver o, σ.get id = some (ver, o))) (hlt : c ≠ 0 → b < w'.heap.size)
    (hobj : Evo ok L σ w ok (L.upd id b c s ver') (σ.put id ver' obj) w' → ObjRep ok (L.upd id b c s ver') w' id ver' obj) :
    Evo ok L σ w ok (L.upd id b c s ver') (σ.put id ver' obj) w' ∧ Sim ok (L.upd id b c s ver') (σ.put id ver' obj) w' := by
  have hfoot : ∀ k, Foot (L.upd id b c s ver') (σ.put id ver' obj) k → k = b ∨ ∃ i v o, i ≠ id ∧ σ.get i = some (v, o) ∧ L.cap i ≠ 0 ∧ L.blk i = k := by
    rintro k ⟨i, v, o, h1, h2, h3⟩
    rw [Store.get_put] at h1
    by_cases e : id = i
    · subst e
      simp only [Loc.upd, if_pos] at h3
      exact .inl h3.symm
    · rw [if_neg e] at h1
      simp only [Loc.upd, if_neg (Ne.symm e)] at h2 h3
      exact .inr ⟨i, v, o, Ne.symm e, h1, h2, h3⟩
  have he : Evo ok L σ w ok (L.upd id b c s ver') (σ.put id ver' obj) w' := by
    refine ⟨hos, htape, hout, hsize, fun k hk hf => hsame k hk ?_, fun k hk hf => ?_, fun _ h => h, fun k h _ => .inl h, fun i => ?_, fun i hi => ?_⟩
    · rintro rfl
      rcases hb with hb | ⟨h1, h2, v, o, h3⟩
      · omega
      · exact hf ⟨id, v, o, h3, h2, h1⟩
    · rcases hfoot k hf with rfl | ⟨i, v, o, _, h1, h2, h3⟩
      · rcases hb with hb | ⟨h1, h2, v, o, h3⟩
        · omega
        · exact ⟨id, v, o, h3, h2, h1⟩
      · exact ⟨i, v, o, h1, h2, h3⟩
    · by_cases e : i = id
      · subst e; simp only [Loc.upd, if_pos]; omega
      · simp only [Loc.upd, if_neg e]; omega
    · by_cases e : i = id
      · subst e; simp only [Loc.upd, if_pos] at hi; omega
      · simp only [Loc.upd, if_neg e]; exact ⟨trivial, trivial, trivial⟩
  refine ⟨he, ?_⟩
  have hbne : ∀ i v o, i ≠ id → σ.get i = some (v, o) → L.cap i ≠ 0 → L.blk i ≠ b := by
    rintro i v o hi h1 h2 rfl
    rcases hb with hb | ⟨g1, g2, v', o', g3⟩
    · have := hs.lt _ ⟨i, v, o, h1, h2, rfl⟩; omega
    · exact hi (hs.inj i id v v' o o' h1 g3 h2 g2 g1.symm)
  constructor
  · intro i v o h
    rw [Store.get_put] at h
    by_cases e : id = i
    · subst e
      rw [if_pos rfl] at h
      simp only [Option.some.injEq, Prod.mk.injEq] at h
      obtain ⟨rfl, rfl⟩ := h
      exact hobj he
    · rw [if_neg e] at h
      refine (hs.objs i v o h).evo hs he (by simp only [Loc.upd, if_neg (Ne.symm e)]) (fun hc => hsame _ (hs.lt _ ⟨i, v, o, h, hc, rfl⟩) (hbne i v o (Ne.symm e) h hc))
  · intro k hf
    rcases hf with ⟨i, v, o, h1, h2, h3⟩
    rw [Store.get_put] at h1
    by_cases e : id = i
    · subst e
      simp only [Loc.upd, if_pos] at h2 h3
      rw [← h3]; exact hlt h2
    · rw [if_neg e] at h1
      simp only [Loc.upd, if_neg (Ne.symm e)] at h2 h3
      exact Nat.lt_of_lt_of_le (hs.lt k ⟨i, v, o, h1, h2, h3⟩) hsize
  · intro i j vi vj oi oj hi hj ci cj hbl
    rw [Store.get_put] at hi hj
    by_cases ei : id = i
    · by_cases ej : id = j
      · omega
      · rw [if_neg ej] at hj
        simp only [Loc.upd, if_neg (Ne.symm ej)] at cj hbl
        rw [if_pos ei.symm] at hbl
        exact absurd hbl.symm (hbne j vj oj (Ne.symm ej) hj cj)
    · rw [if_neg ei] at hi
      simp only [Loc.upd, if_neg (Ne.symm ei)] at ci hbl
      by_cases ej : id = j
      · rw [if_pos ej.symm] at hbl
        exact absurd hbl (hbne i vi oi (Ne.symm ei) hi ci)
      · rw [if_neg ej] at hj
        simp only [Loc.upd, if_neg (Ne.symm ej)] at cj
        rw [if_neg (Ne.symm ej)] at hbl
        exact hs.inj i j vi vj oi oj hi hj ci cj hbl
  · intro k hk
    obtain ⟨h1, h2⟩ := hs.okd k hk
    refine ⟨Nat.lt_of_lt_of_le h1 hsize, fun hf => h2 ?_⟩
    exact he.foot k h1 hf
  · exact hs.globEvo he
/-- What a named object holds is written. -/
theorem sim_set (hs : Sim ok L σ w) (id ver : Nat) (o0 obj : AObj) (hid : σ.get id = some (ver, o0)) (hcap : L.cap id ≠ 0) (hos : w'.os = w.os) (htape : w'.tape = w.tape) (hout : w'.output = w.output) (hsize : w'.heap.size = w.heap.size)
    (hsame : ∀ k, k ≠ L.blk id → w'.heap[k]? = w.heap[k]?)
    (hobj : Evo ok L σ w ok L (σ.put id ver obj) w' → ObjRep ok L w' id ver obj) :
    Evo ok L σ w ok L (σ.put id ver obj) w' ∧ Sim ok L (σ.put id ver obj) w' := by
  have hfoot : ∀ k, Foot L (σ.put id ver obj) k → Foot L σ k := by
    rintro k ⟨i, v, o, h1, h2, h3⟩
    rw [Store.get_put] at h1
    by_cases e : id = i
    · subst e; exact ⟨id, ver, o0, hid, h2, h3⟩
    · rw [if_neg e] at h1; exact ⟨i, v, o, h1, h2, h3⟩
  have he : Evo ok L σ w ok L (σ.put id ver obj) w' := by
    refine ⟨hos, htape, hout, by omega, fun k hk hf => hsame k ?_, fun k _ hf => hfoot k hf, fun _ h => h, fun k h _ => .inl h, fun i => Nat.le_refl _, fun i _ => ⟨rfl, rfl, rfl⟩⟩
    rintro rfl
    exact hf ⟨id, ver, o0, hid, hcap, rfl⟩
  refine ⟨he, ?_⟩
  constructor
  · intro i v o h
    rw [Store.get_put] at h
    by_cases e : id = i
    · subst e
      rw [if_pos rfl] at h
      simp only [Option.some.injEq, Prod.mk.injEq] at h
      obtain ⟨rfl, rfl⟩ := h
      exact hobj he
    · rw [if_neg e] at h
      exact (hs.objs i v o h).evo hs he rfl (fun hc => hsame _ (fun hbl => e (hs.inj id i ver v o0 o hid h hcap hc hbl.symm)))
  · intro k hf
    rw [hsize]; exact hs.lt k (hfoot k hf)
  · intro i j vi vj oi oj hi hj ci cj hbl
    rw [Store.get_put] at hi hj
    have gi : ∃ v o, σ.get i = some (v, o) := by
      by_cases e : id = i
      · subst e; exact ⟨_, _, hid⟩
      · rw [if_neg e] at hi; exact ⟨_, _, hi⟩
    have gj : ∃ v o, σ.get j = some (v, o) := by
      by_cases e : id = j
      · subst e; exact ⟨_, _, hid⟩
      · rw [if_neg e] at hj; exact ⟨_, _, hj⟩
    obtain ⟨v1, o1, g1⟩ := gi
    obtain ⟨v2, o2, g2⟩ := gj
    exact hs.inj i j v1 v2 o1 o2 g1 g2 ci cj hbl
  · intro k hk
    obtain ⟨h1, h2⟩ := hs.okd k hk
    exact ⟨by rw [hsize]; exact h1, fun hf => h2 (hfoot k hf)⟩
  · exact hs.globEvo he
/-- Nothing but garbage is made. -/
theorem sim_alloc (hs : Sim ok L σ w) (o : Obj) : Evo ok L σ w ok L σ (w.alloc o) ∧ Sim ok L σ (w.alloc o) := by
  have hb : ∀ k, k < w.heap.size → (w.alloc o).heap[k]? = w.heap[k]? := fun k hk => Go.RowKit.Below.heap_alloc w o k hk
  have he : Evo ok L σ w ok L σ (w.alloc o) :=
    ⟨rfl, rfl, rfl, by simp, fun k hk _ => hb k hk, fun _ _ h => h, fun _ h => h, fun _ h _ => .inl h, fun _ => Nat.le_refl _, fun _ _ => ⟨rfl, rfl, rfl⟩⟩
  refine ⟨he, ⟨fun i v o h => (hs.objs i v o h).evo hs he rfl (fun hc => hb _ (hs.lt _ ⟨i, v, o, h, hc, rfl⟩)), fun k hf => ?_, hs.inj, fun k hk => ?_, hs.globEvo he⟩⟩
  · have := hs.lt k hf; simp; omega
  · have := hs.okd k hk; exact ⟨by simp; omega, this.2⟩
/-- What is new is told as what may be read from now on. -/
theorem sim_allocI (hs : Sim ok L σ w) (o : Obj) : Evo ok L σ w (fun b => ok b ∨ b = w.heap.size) L σ (w.alloc o) ∧ Sim (fun b => ok b ∨ b = w.heap.size) L σ (w.alloc o) := by
  have hb : ∀ k, k < w.heap.size → (w.alloc o).heap[k]? = w.heap[k]? := fun k hk => Go.RowKit.Below.heap_alloc w o k hk
  have he : Evo ok L σ w (fun b => ok b ∨ b = w.heap.size) L σ (w.alloc o) :=
    ⟨rfl, rfl, rfl, by simp, fun k hk _ => hb k hk, fun _ _ h => h, fun _ h => .inl h, fun k h hk => h.elim .inl (fun e => by omega), fun _ => Nat.le_refl _, fun _ _ => ⟨rfl, rfl, rfl⟩⟩
  refine ⟨he, ⟨fun i v o h => (hs.objs i v o h).evo hs he rfl (fun hc => hb _ (hs.lt _ ⟨i, v, o, h, hc, rfl⟩)), fun k hf => ?_, hs.inj, fun k hk => ?_, hs.globEvo he⟩⟩
  · have := hs.lt k hf; simp; omega
  · rcases hk with hk | rfl
    · have := hs.okd k hk; exact ⟨by simp; omega, this.2⟩
    · exact ⟨by simp, fun hf => by have := hs.lt _ hf; omega⟩
end
/-! ### Rules whose result hangs on what is made -/
def OpR (P : Program) (o : Oper) (E : Operand → Option AVal) (σ : Store) (R : AVal → Store → Prop) : Prop :=
  ∀ ok L w (ρ : Operand → Value), Sim ok L σ w → (∀ x ∈ o.op.operands, ∀ b, E x = some b → Rep ok L w b (ρ x)) →
    ∃ a σ' v w' ok' L', R a σ' ∧ ((execOp ρ o).run P w = .ok (.value v) w' ∨ ((execOp ρ o).run P w = .ok .skip w' ∧ v = undef)) ∧ Evo ok L σ w ok' L' σ' w' ∧ Sim ok' L' σ' w' ∧ Rep ok' L' w' a v
section
variable {P : Program} {n : Nat} {Q : APost} {env : Env} {σ σ' : Store} {ops : Array Oper} {rest : List Oper}
theorem al_opR {o : Oper} {R : AVal → Store → Prop} (hop : OpR P o (aval env) σ R) (hg : o.guard = none) (hd : ∀ d, o.dst = some d → d < n)
    (k : ∀ a σ', R a σ' → AL P n ops rest Q (env.putd o.dst a) σ') : AL P n ops (o :: rest) Q env σ := by
  intro ok L w act h1 h2 h3 h4
  refine wpList_plain hg fun K hK => ?_
  obtain ⟨a, σ', v, w', ok', L', hR, hr, he, hs, hv⟩ := hop ok L w act.eval h1 (fun x _ b hx => h2.aval hx)
  have go : K (act.put o.dst v) w' := by
    refine hK _ _ (wpList_after (fun _ _ _ h => Post.after he h) _ _ _ (k a σ' hR ok' L' w' (act.put o.dst v) hs ?_ ?_ ?_))
    · exact (h2.evo h1 he).put hv (fun d hd' => h4 ▸ hd d hd')
    · rw [put_defers]; exact h3
    · rw [put_size]; exact h4
  unfold Oper.wp
  rcases hr with hr | ⟨hr, rfl⟩
  · rw [hr]; exact go
  · rw [hr]; exact go
variable {E : Operand → Option AVal} {d : Option Tmp} {ty : TypeId} {pos : String} {after : Array Edge} {guard : Option (Nat × Bool)}
/-- Of a type: are its values structs or arrays? -/
def TypeDesc.isAggB : TypeDesc → Bool
  | .struct _ | .array _ _ => true
  | _ => false
theorem run_isAgg' {t : TypeId} {td : TypeDesc} {w : World} (ht : P.underlying t = some td) : (isAgg t).run P w = .ok (TypeDesc.isAggB td) w := by
  cases td <;> simp [isAgg, run_underlying ht, TypeDesc.isAggB]
theorem addr_add0 (b o n : Nat) : (⟨b, o, none⟩ : Addr).add n = ⟨b, o + n, none⟩ := by
  unfold Addr.add; split <;> simp_all
theorem RepC.list_form {ok : Nat → Prop} {w : World} {sz : Nat} {els : List (List AVal)} {v : Value} (h : RepC ok w (.list sz els) v) :
    ∃ a c, v = .slice a els.length c ∧ els.length ≤ c ∧ (els = [] ∨ ∃ b o, ∃ vs : Nat → Nat → Value, a = some ⟨b, o, none⟩ ∧ ok b ∧ (∀ e ∈ els, e.length = sz) ∧
      (∀ i e j av, els[i]? = some e → e[j]? = some av → w.cell? ⟨b, o + i * sz + j, none⟩ = some (vs i j)) ∧ (∀ i e j av, els[i]? = some e → e[j]? = some av → RepC ok w av (vs i j)) ∧ (∀ i e j av, els[i]? = some e → e[j]? = some av → (vs i j).oneCell' = true)) := by
  match h with
  | .empty _ a c => exact ⟨a, c, rfl, by simp, .inl rfl⟩
  | .list _ _ b o c vs hok hc hs hcell h1 hrep => exact ⟨_, c, rfl, hc, .inr ⟨b, o, vs, rfl, hok, hs, hcell, hrep, h1⟩⟩
theorem RepC.nil_form {ok : Nat → Prop} {w : World} {v : Value} (h : RepC ok w .nil v) : ∃ a, v = .slice a 0 0 := by
  cases h; exact ⟨_, rfl⟩
theorem RepC.rptr_form {ok : Nat → Prop} {w : World} {cells : List AVal} {v : Value} (h : RepC ok w (.rptr cells) v) :
    ∃ b o, ∃ vs : Nat → Value, v = .pointer (some ⟨b, o, none⟩) ∧ ok b ∧ (∀ j av, cells[j]? = some av → w.cell? ⟨b, o + j, none⟩ = some (vs j)) ∧ (∀ j av, cells[j]? = some av → RepC ok w av (vs j)) := by
  match h with
  | .rptr _ b o vs hok hcell hrep => exact ⟨b, o, vs, rfl, hok, hcell, hrep⟩
theorem Sim.ver {ok : Nat → Prop} {L : Loc} {w : World} (hs : Sim ok L σ w) {id ver : Nat} {ob : AObj} (hid : σ.get id = some (ver, ob)) : L.ver id = ver := by
  have := hs.objs id ver ob hid
  cases ob <;> exact this.1
/-! len -/
theorem op_len_list {x : Operand} {t e sz : Nat} {els : List (List AVal)} (ht : P.underlying t = some (.slice e)) (hx : E x = some (.list sz els)) : OpTo P ⟨d, .call { callee := .builtin .len, args := #[x], argTypes := #[t] }, ty, pos, after, guard⟩ E σ (.v (.int .i64 els.length)) σ :=
  op_value fun ok L w ρ hs hr => by
    obtain ⟨a, c, h1, _⟩ := RepC.list_form (hr x (by simp [Op.operands, Call.operands]) _ hx)
    refine ⟨_, ?_, RepC.v _⟩
    simp [execOp, resolve, invoke, builtin, Builtin.len_, run_underlying ht, goInt, h1]
theorem op_len_slice {x : Operand} {t e id ver off m : Nat} {ob : AObj} (ht : P.underlying t = some (.slice e)) (hx : E x = some (.slice id ver off m)) (hid : σ.get id = some (ver, ob)) : OpTo P ⟨d, .call { callee := .builtin .len, args := #[x], argTypes := #[t] }, ty, pos, after, guard⟩ E σ (.v (.int .i64 m)) σ :=
  op_value fun ok L w ρ hs hr => by
    have h := hr x (by simp [Op.operands, Call.operands]) _ hx
    refine ⟨_, ?_, RepC.v _⟩
    obtain ⟨a, c, h1, _⟩ := h.2 (hs.ver hid)
    simp [execOp, resolve, invoke, builtin, Builtin.len_, run_underlying ht, goInt, h1]
/-! addresses -/
theorem op_index_list {x ix : Operand} {t e sz : Nat} {els : List (List AVal)} {i : Int} {k : IntKind} {inf : TypeInfo} {el : List AVal} (ht : P.underlying t = some (.slice e)) (hi : P.info? e = some inf) (hsz : inf.size = sz)
    (hx : E x = some (.list sz els)) (hix : E ix = some (.v (.int k i))) (h0 : 0 ≤ i) (hel : els[i.toNat]? = some el) : OpTo P ⟨d, .indexAddr t x ix, ty, pos, after, guard⟩ E σ (.rptr el) σ :=
  op_value fun ok L w ρ hs hr => by
    obtain ⟨a, c, h1, h2, h3⟩ := RepC.list_form (hr x (by simp [Op.operands]) _ hx)
    have h4 := rep_bool (hr ix (by simp [Op.operands]) _ hix)
    have hlt : i.toNat < els.length := by
      rcases Nat.lt_or_ge i.toNat els.length with h | h
      · exact h
      · simp [List.getElem?_eq_none h] at hel
    rcases h3 with rfl | ⟨b, o, vs, rfl, hok, hs1, hcell, hrep, _⟩
    · simp at hlt
    · refine ⟨.pointer (some ⟨b, o + i.toNat * sz, none⟩), ?_, RepC.rptr el b _ (vs i.toNat) hok (fun j av hj => hcell _ _ _ _ hel hj) (fun j av hj => hrep _ _ _ _ hel hj)⟩
      have hl : i < (els.length : Int) := by omega
      simp [execOp, Instr.indexAt, asIntOf, run_underlying ht, h1, h4, h0, hl, sizeOf, typeInfo, hi, hsz, addr_add0]
theorem op_index_slice {x ix : Operand} {t e sz id ver off m : Nat} {els : List (List AVal)} {i : Int} {k : IntKind} {inf : TypeInfo} (ht : P.underlying t = some (.slice e)) (hi : P.info? e = some inf) (hsz : inf.size = sz)
    (hx : E x = some (.slice id ver off m)) (hid : σ.get id = some (ver, .row sz els)) (hix : E ix = some (.v (.int k i))) (h0 : 0 ≤ i) (hlt : i < m) : OpTo P ⟨d, .indexAddr t x ix, ty, pos, after, guard⟩ E σ (.ptr id ver (off + i.toNat) 0) σ :=
  op_value fun ok L w ρ hs hr => by
    have h := hr x (by simp [Op.operands]) _ hx
    obtain ⟨a, c, h1, h2, h3, h3'⟩ := h.2 (hs.ver hid)
    have h4 := rep_bool (hr ix (by simp [Op.operands]) _ hix)
    have h5 := h3' (.inl (by omega))
    have h6 : L.sz id = sz := (hs.objs id ver _ hid).2.1
    subst h5
    refine ⟨.pointer (some ⟨L.blk id, (off + i.toNat) * L.sz id + 0, none⟩), ?_, h.1, fun _ => rfl⟩
    simp [execOp, Instr.indexAt, asIntOf, run_underlying ht, h1, h4, h0, hlt, sizeOf, typeInfo, hi, hsz, addr_add0, h6, Nat.add_mul]
theorem op_field_ptr {x : Operand} {s f id ver i j off : Nat} {fs : Array Field} {fl : Field} {inf : TypeInfo} {ob : AObj} (hs' : P.underlying s = some (.struct fs)) (hf : fs[f]? = some fl) (hi : P.info? fl.type = some inf) (h0 : inf.size ≠ 0) (hoff : fl.offset = off)
    (hx : E x = some (.ptr id ver i j)) (hid : σ.get id = some (ver, ob)) : OpTo P ⟨d, .fieldAddr s x f, ty, pos, after, guard⟩ E σ (.ptr id ver i (j + off)) σ :=
  op_value fun ok L w ρ hs hr => by
    have h := hr x (by simp [Op.operands]) _ hx
    have h1 := h.2 (hs.ver hid)
    refine ⟨.pointer (some ⟨L.blk id, i * L.sz id + (j + off), none⟩), ?_, h.1, fun _ => rfl⟩
    simp [execOp, Instr.fieldAt, Instr.sureAddr, run_underlying hs', hf, h1, fieldPlace, sizeOf, typeInfo, hi, h0, addr_add0, hoff, Nat.add_assoc]
theorem op_field_rptr {x : Operand} {s f off : Nat} {fs : Array Field} {fl : Field} {inf : TypeInfo} {cells : List AVal} (hs' : P.underlying s = some (.struct fs)) (hf : fs[f]? = some fl) (hi : P.info? fl.type = some inf) (h0 : inf.size ≠ 0) (hoff : fl.offset = off)
    (hx : E x = some (.rptr cells)) : OpTo P ⟨d, .fieldAddr s x f, ty, pos, after, guard⟩ E σ (.rptr (cells.drop off)) σ :=
  op_value fun ok L w ρ hs hr => by
    obtain ⟨b, o, vs, h1, hok, hcell, hrep⟩ := RepC.rptr_form (hr x (by simp [Op.operands]) _ hx)
    refine ⟨.pointer (some ⟨b, o + off, none⟩), ?_, RepC.rptr _ b _ (fun j => vs (off + j)) hok (fun j av hj => ?_) (fun j av hj => ?_)⟩
    · simp [execOp, Instr.fieldAt, Instr.sureAddr, run_underlying hs', hf, h1, fieldPlace, sizeOf, typeInfo, hi, h0, addr_add0, hoff]
    · rw [List.getElem?_drop] at hj
      rw [Nat.add_assoc]; exact hcell _ _ hj
    · rw [List.getElem?_drop] at hj
      exact hrep _ _ hj
theorem op_nilCheck_ptr {x : Operand} {id ver i j : Nat} {ob : AObj} (hx : E x = some (.ptr id ver i j)) (hid : σ.get id = some (ver, ob)) : OpTo P ⟨d, .nilCheck x, ty, pos, after, guard⟩ E σ (.ptr id ver i j) σ :=
  op_value fun ok L w ρ hs hr => by
    have h := hr x (by simp [Op.operands]) _ hx
    have h1 := h.2 (hs.ver hid)
    exact ⟨ρ x, by simp [execOp, h1], h⟩
/-! loads -/
/-- cells that are read as one value -/
def asOne (agg : Bool) (k : Nat) (cells : List AVal) : Option AVal :=
  match agg with
  | true => if k ≤ cells.length then some (.agg (cells.take k)) else none
  | false => cells.head?
theorem run_loadVar_one {t : TypeId} {td : TypeDesc} {w : World} {a : Addr} {v : Value} (ht : P.underlying t = some td) (hn : TypeDesc.isAggB td = false) (hc : w.cell? a = some v) : (loadVar t a).run P w = .ok v w := by
  simp [loadVar, run_isAgg' ht, hn, hc]
theorem run_loadVar_agg {t : TypeId} {td : TypeDesc} {inf : TypeInfo} {w : World} {a : Addr} {vs : List Value} (ht : P.underlying t = some td) (hn : TypeDesc.isAggB td = true) (hi : P.info? t = some inf) (hk : inf.size = vs.length) (hc : ∀ j v, vs[j]? = some v → w.cell? (a.add j) = some v) :
    (loadVar t a).run P w = .ok (.agg vs.toArray) w := by
  simp [loadVar, run_isAgg' ht, hn, sizeOf, typeInfo, hi, hk, run_loadCells_list w a vs hc]
theorem All2.fill {ok : Nat → Prop} {L : Loc} {w : World} (cells : List AVal) (vs : Nat → Value) (h : ∀ j av, cells[j]? = some av → RepL ok L w av (vs j)) : All2 (RepL ok L w) cells ((List.range cells.length).map vs) :=
  All2.of_get _ _ (by simp) fun i a b ha hb => by
    have hl : i < cells.length := by
      rcases Nat.lt_or_ge i cells.length with h | h
      · exact h
      · simp [List.getElem?_eq_none h] at ha
    simp [List.getElem?_map, List.getElem?_range hl] at hb
    subst hb
    exact h i a ha
/-- a closed value fills one cell -/
def AVal.clo1 : AVal → Bool
  | .v _ | .nil | .list _ _ | .rptr _ => true
  | _ => false
theorem RepC.repL {ok : Nat → Prop} {L : Loc} {w : World} {a : AVal} {v : Value} (h : RepC ok w a v) : RepL ok L w a v := by cases h <;> first | exact .v _ | exact .nil _ | exact .empty _ _ _ | (rename_i h1 h2 h3 h4 h5 h6; exact .list _ _ _ _ _ _ h1 h2 h3 h4 h5 h6) | (rename_i h1 h2 h3; exact .rptr _ _ _ _ h1 h2 h3)
theorem RepL.repC {ok : Nat → Prop} {L : Loc} {w : World} {a : AVal} {v : Value} (h : RepL ok L w a v) (hc : a.clo1 = true) : RepC ok w a v := by
  cases a <;> first | exact h | simp [AVal.clo1] at hc
/-- .. no tuple, no struct -/
def AVal.leaf : AVal → Bool
  | .tuple _ | .agg _ | .fn _ _ => false
  | _ => true
theorem RepL.rep {ok : Nat → Prop} {L : Loc} {w : World} {a : AVal} {v : Value} (h : RepL ok L w a v) (hc : a.leaf = true) : Rep ok L w a v := by
  cases a <;> first | exact h | simp [AVal.leaf] at hc
theorem RepC.leaf {ok : Nat → Prop} {w : World} {a : AVal} {v : Value} (h : RepC ok w a v) : a.leaf = true := by cases h <;> rfl
theorem RepL.leaf {ok : Nat → Prop} {L : Loc} {w : World} {a : AVal} {v : Value} (h : RepL ok L w a v) : a.leaf = true := by
  cases a <;> first | rfl | (exact RepC.leaf (show RepC ok w _ v from h))
theorem op_load_rptr {x : Operand} {t : TypeId} {td : TypeDesc} {inf : TypeInfo} {cells : List AVal} {a : AVal} (ht : P.underlying t = some td) (hi : P.info? t = some inf) (hx : E x = some (.rptr cells)) (ha : asOne (TypeDesc.isAggB td) inf.size cells = some a) : OpTo P ⟨d, .load t x, ty, pos, after, guard⟩ E σ a σ :=
  op_value fun ok L w ρ hs hr => by
    obtain ⟨b, o, vs, h1, hok, hcell, hrep⟩ := RepC.rptr_form (hr x (by simp [Op.operands]) _ hx)
    cases hb : TypeDesc.isAggB td with
    | false =>
      rw [hb] at ha
      have h0 : cells[0]? = some a := by simpa [asOne, List.head?_eq_getElem?] using ha
      refine ⟨vs 0, ?_, (hrep 0 a h0).repL.rep (hrep 0 a h0).leaf⟩
      have hc : w.cell? ⟨b, o, none⟩ = some (vs 0) := hcell 0 a h0
      simp [execOp, Instr.loadAt, Instr.sureAddr, h1, run_loadVar_one ht hb hc]
    | true =>
      rw [hb] at ha
      simp only [asOne] at ha
      split at ha
      · rename_i hk
        cases ha
        have hl : (cells.take inf.size).length = inf.size := by simp; omega
        have hg : ∀ j av, (cells.take inf.size)[j]? = some av → cells[j]? = some av := fun j av hj => by
          rw [List.getElem?_take] at hj
          split at hj
          · exact hj
          · cases hj
        refine ⟨.agg ((List.range (cells.take inf.size).length).map vs).toArray, ?_, _, rfl, All2.fill _ vs (fun j av hj => (hrep j av (hg j av hj)).repL)⟩
        have hc : ∀ j v, ((List.range (cells.take inf.size).length).map vs)[j]? = some v → w.cell? ((⟨b, o, none⟩ : Addr).add j) = some v := by
          intro j v hj
          rw [List.getElem?_map] at hj
          rcases Nat.lt_or_ge j (cells.take inf.size).length with h | h
          · rw [List.getElem?_range h] at hj
            simp at hj
            subst hj
            rw [addr_add0]
            exact hcell j _ (hg j _ (List.getElem?_eq_getElem h))
          · rw [List.getElem?_eq_none (by simpa using h)] at hj
            cases hj
        have := run_loadVar_agg (w := w) (a := ⟨b, o, none⟩) (vs := (List.range (cells.take inf.size).length).map vs) ht hb hi (by simp; omega) hc
        simp [execOp, Instr.loadAt, Instr.sureAddr, h1, this]
      · cases ha
theorem Sim.row {ok : Nat → Prop} {L : Loc} {w : World} (hs : Sim ok L σ w) {id ver sz : Nat} {els : List (List AVal)} (hid : σ.get id = some (ver, .row sz els)) {i : Nat} {el : List AVal} (hel : els[i]? = some el) :
    L.sz id = sz ∧ el.length = sz ∧ L.cap id ≠ 0 ∧ i < L.cap id ∧ ∃ (conc : Array Value) (e : TypeId), w.heap[L.blk id]? = some (.cells conc e (0, 0)) ∧ conc.size = L.cap id * sz ∧
      (∀ i el j av, els[i]? = some el → el[j]? = some av → ∃ v, conc[i * sz + j]? = some v ∧ RepL ok L w av v ∧ v.oneCell' = true) := by
  obtain ⟨h1, h2, h3, h4, h5⟩ := hs.objs id ver _ hid
  have hlt : i < els.length := by
    rcases Nat.lt_or_ge i els.length with h | h
    · exact h
    · simp [List.getElem?_eq_none h] at hel
  have hc : L.cap id ≠ 0 := by omega
  obtain ⟨conc, e, g1, g2, g3⟩ := h5 hc
  exact ⟨h2, h3 el (List.mem_of_getElem? hel), hc, by omega, conc, e, g1, g2, g3⟩
theorem op_load_ptr {x : Operand} {t : TypeId} {td : TypeDesc} {inf : TypeInfo} {id ver i j sz : Nat} {els : List (List AVal)} {el : List AVal} {a : AVal} (ht : P.underlying t = some td) (hi : P.info? t = some inf) (hx : E x = some (.ptr id ver i j)) (hid : σ.get id = some (ver, .row sz els)) (hel : els[i]? = some el)
    (ha : asOne (TypeDesc.isAggB td) inf.size (el.drop j) = some a) : OpTo P ⟨d, .load t x, ty, pos, after, guard⟩ E σ a σ :=
  op_value fun ok L w ρ hs hr => by
    have h := hr x (by simp [Op.operands]) _ hx
    have h1 := h.2 (hs.ver hid)
    obtain ⟨e1, e2, e3, e4, conc, et, g1, g2, g3⟩ := hs.row hid hel
    have hcell : ∀ k v, conc[i * sz + (j + k)]? = some v → w.cell? ⟨L.blk id, i * sz + j + k, none⟩ = some v := by
      intro k v hv
      simp [World.cell?, g1, Nat.add_assoc, hv]
    cases hb : TypeDesc.isAggB td with
    | false =>
      rw [hb] at ha
      have h0 : el[j]? = some a := by simpa [asOne, List.head?_eq_getElem?] using ha
      obtain ⟨v, k1, k2, _⟩ := g3 i el j a hel h0
      refine ⟨v, ?_, k2.rep k2.leaf⟩
      have hc : w.cell? ⟨L.blk id, i * L.sz id + j, none⟩ = some v := by rw [e1]; exact hcell 0 v (by simpa using k1)
      simp [execOp, Instr.loadAt, Instr.sureAddr, h1, run_loadVar_one ht hb hc]
    | true =>
      rw [hb] at ha
      simp only [asOne] at ha
      split at ha
      · rename_i hk
        cases ha
        have hg : ∀ k av, ((el.drop j).take inf.size)[k]? = some av → ∃ v, conc[i * sz + (j + k)]? = some v ∧ RepL ok L w av v ∧ v.oneCell' = true := fun k av hj => by
          rw [List.getElem?_take] at hj
          split at hj
          · rw [List.getElem?_drop] at hj
            exact g3 i el _ av hel hj
          · cases hj
        let vs : Nat → Value := fun k => (conc[i * sz + (j + k)]?).getD undef
        refine ⟨.agg ((List.range ((el.drop j).take inf.size).length).map vs).toArray, ?_, _, rfl, All2.fill _ vs (fun k av hj => ?_)⟩
        · have hc : ∀ k v, ((List.range ((el.drop j).take inf.size).length).map vs)[k]? = some v → w.cell? ((⟨L.blk id, i * L.sz id + j, none⟩ : Addr).add k) = some v := by
            intro k v hj
            rw [List.getElem?_map] at hj
            rcases Nat.lt_or_ge k ((el.drop j).take inf.size).length with h | h
            · rw [List.getElem?_range h] at hj
              simp only [Option.map_some, Option.some.injEq] at hj
              obtain ⟨u, u1, _⟩ := hg k _ (List.getElem?_eq_getElem h)
              have : v = u := by rw [← hj]; show (conc[i * sz + (j + k)]?).getD undef = u; rw [u1]; rfl
              subst this
              rw [addr_add0, e1]
              exact hcell k v u1
            · rw [List.getElem?_eq_none (by simpa using h)] at hj
              cases hj
          have := run_loadVar_agg (w := w) (a := ⟨L.blk id, i * L.sz id + j, none⟩) (vs := (List.range ((el.drop j).take inf.size).length).map vs) ht hb hi (by simp at hk ⊢; omega) hc
          simp [execOp, Instr.loadAt, Instr.sureAddr, h1, this]
        · obtain ⟨u, u1, u2, _⟩ := hg k av hj
          have : vs k = u := by show (conc[i * sz + (j + k)]?).getD undef = u; rw [u1]; rfl
          rw [this]; exact u2
      · cases ha
end
end Go.Proofs.YtcgdlhkiecommaaGreatDoor

/- The engine, part 5: stores, new objects, append, make. -/

set_option linter.unusedVariables false
set_option linter.unusedSimpArgs false
namespace Go.Proofs.YtcgdlhkiecommaaGreatDoor
open Go
theorem Rep.toL {ok : Nat → Prop} {L : Loc} {w : World} {a : AVal} {v : Value} (h : Rep ok L w a v) (hc : a.leaf = true) : RepL ok L w a v := by
  cases a <;> first | exact h | simp [AVal.leaf] at hc
/-- a value that fills one cell, as the machine counts -/
def AVal.oneB : AVal → Bool
  | .v x => x.oneCell'
  | .agg _ | .tuple _ | .fn _ _ => false
  | _ => true
theorem RepC.oneCell {ok : Nat → Prop} {w : World} {a : AVal} {v : Value} (h : RepC ok w a v) (ho : a.oneB = true) : v.oneCell' = true := by
  cases h <;> first | exact ho | rfl
theorem RepL.oneCell {ok : Nat → Prop} {L : Loc} {w : World} {a : AVal} {v : Value} (h : RepL ok L w a v) (ho : a.oneB = true) (hv : ∀ id ver, (∃ off m, a = .slice id ver off m) ∨ (∃ i j, a = .ptr id ver i j) ∨ a = .map id ver → L.ver id = ver) : v.oneCell' = true := by
  cases a with
  | slice id ver off m => obtain ⟨_, _, e, _⟩ := h.2 (hv id ver (.inl ⟨_, _, rfl⟩)); subst e; rfl
  | ptr id ver i j => have e := h.2 (hv id ver (.inr (.inl ⟨_, _, rfl⟩))); subst e; rfl
  | map id ver => have e := h.2 (hv id ver (.inr (.inr rfl))); subst e; rfl
  | _ => exact RepC.oneCell h ho
/-- what is stored is alive -/
def AVal.live (σ : Store) : AVal → Bool
  | .slice id ver _ _ | .ptr id ver _ _ | .map id ver => match σ.get id with | some p => Nat.beq p.1 ver | none => false
  | _ => true
theorem AVal.live_ver {ok : Nat → Prop} {L : Loc} {σ : Store} {w : World} (hs : Sim ok L σ w) {a : AVal} (h : a.live σ = true) : ∀ id ver, (∃ off m, a = .slice id ver off m) ∨ (∃ i j, a = .ptr id ver i j) ∨ a = .map id ver → L.ver id = ver := by
  have key : ∀ id ver, (match σ.get id with | some p => Nat.beq p.1 ver | none => false) = true → L.ver id = ver := by
    intro id ver hh
    cases hg : σ.get id with
    | none => rw [hg] at hh; cases hh
    | some p =>
      obtain ⟨v, o⟩ := p
      rw [hg] at hh
      have := nat_beq_true.1 hh
      subst this
      exact hs.ver hg
  rintro id ver (⟨off, m, rfl⟩ | ⟨i, j, rfl⟩ | rfl)
  · exact key id ver h
  · exact key id ver h
  · exact key id ver h
/-- the cells of a value that is stored -/
def AVal.cells : AVal → List AVal
  | .agg cs => cs
  | a => [a]
section
variable {P : Program} {n : Nat} {Q : APost} {env : Env} {σ σ' : Store} {ops : Array Oper} {rest : List Oper}
variable {E : Operand → Option AVal} {d : Option Tmp} {ty : TypeId} {pos : String} {after : Array Edge} {guard : Option (Nat × Bool)}
/-- A value in memory, cell by cell. -/
theorem Rep.cells {ok : Nat → Prop} {L : Loc} {w : World} {a : AVal} {v : Value} (hs : Sim ok L σ w) (h : Rep ok L w a v) (h1 : a.cells.all AVal.oneB = true) (hl : a.cells.all (AVal.live σ) = true) :
    All2 (RepL ok L w) a.cells v.cells.toList ∧ ∀ u ∈ v.cells.toList, u.oneCell' = true := by
  have key : ∀ (cs : List AVal) (vs : List Value), All2 (RepL ok L w) cs vs → cs.all AVal.oneB = true → cs.all (AVal.live σ) = true → ∀ u ∈ vs, u.oneCell' = true := by
    intro cs
    induction cs with
    | nil => intro vs h _ _ u hu; cases vs with | nil => cases hu | cons _ _ => exact h.elim
    | cons c cs ih =>
      intro vs h h1 h2 u hu
      cases vs with
      | nil => exact h.elim
      | cons x vs =>
        simp only [List.all_cons, Bool.and_eq_true] at h1 h2
        rcases List.mem_cons.1 hu with rfl | hu
        · exact h.1.oneCell h1.1 (AVal.live_ver hs h2.1)
        · exact ih vs h.2 h1.2 h2.2 u hu
  cases a with
  | agg cs =>
    obtain ⟨vs, rfl, h3⟩ := h
    simp only [AVal.cells] at h1 hl ⊢
    simp only [Value.cells, List.toList_toArray]
    exact ⟨h3, key cs vs h3 h1 hl⟩
  | tuple cs => simp [AVal.cells, AVal.oneB] at h1
  | fn f cs => simp [AVal.cells, AVal.oneB] at h1
  | _ =>
    have hr := Rep.toL h rfl
    simp only [AVal.cells, List.all_cons, List.all_nil, Bool.and_true] at h1 hl
    have ho := hr.oneCell h1 (AVal.live_ver hs hl)
    have hc : v.cells = #[v] := by cases v <;> first | rfl | simp [Value.oneCell'] at ho
    rw [hc]
    refine ⟨⟨hr, trivial⟩, fun u hu => ?_⟩
    simp at hu
    subst hu
    exact ho
/-- cells of a row from place j on are written -/
def splice (el : List AVal) (j : Nat) (cs : List AVal) : List AVal := el.take j ++ cs ++ el.drop (j + cs.length)
theorem op_store_ptr {x y : Operand} {t : TypeId} {inf : TypeInfo} {id ver i j sz : Nat} {els : List (List AVal)} {el : List AVal} {a : AVal} (hi : P.info? t = some inf) (hx : E x = some (.ptr id ver i j)) (hy : E y = some a) (hid : σ.get id = some (ver, .row sz els)) (hel : els[i]? = some el)
    (hsz : inf.size = a.cells.length) (h1 : a.cells.all AVal.oneB = true) (hl : a.cells.all (AVal.live σ) = true) (hfit : j + a.cells.length ≤ el.length) :
    OpTo P ⟨d, .store t x y, ty, pos, after, guard⟩ E σ (.v undef) (σ.put id ver (.row sz (els.set i (splice el j a.cells)))) := by
  intro ok L w ρ hs hr
  have hxv := (hr x (by simp [Op.operands]) _ hx).2 (hs.ver hid)
  have hyv := hr y (by simp [Op.operands]) _ hy
  obtain ⟨e1, e2, e3, e4, conc, et, g1, g2, g3⟩ := hs.row hid hel
  obtain ⟨c1, c2⟩ := hyv.cells hs h1 hl
  have clen := All2.length _ _ c1
  generalize hvs : (ρ y).cells.toList = vs at c1 c2 clen
  have hbound : i * sz + j + vs.length ≤ conc.size := by
    rw [g2]
    have : (i + 1) * sz ≤ L.cap id * sz := Nat.mul_le_mul_right _ e4
    rw [Nat.add_mul] at this
    omega
  have hst := run_storeCells_at P (L.blk id) (i * sz + j) et vs 0 conc w g1 (by simpa using hbound) c2
  simp only [Nat.add_zero] at hst
  generalize hcs : (conc.toList.take (i * sz + j) ++ vs ++ conc.toList.drop (i * sz + j + vs.length)).toArray = cs at hst
  have hrun : (execOp ρ ⟨d, .store t x y, ty, pos, after, guard⟩).run P w = .ok .skip (w.setRow (L.blk id) cs) := by
    have hc : (ρ y).cells.size = inf.size := by rw [hsz, clen, ← hvs]; simp
    simp [execOp, Instr.storeAt, Instr.sureAddr, hxv, e1, storeVar, sizeOf, typeInfo, hi, hc, hvs, hst]
  have hget : ∀ k, cs[k]? = if k < i * sz + j then conc[k]? else if k < i * sz + j + vs.length then vs[k - (i * sz + j)]? else conc[k]? := by
    intro k
    rw [← hcs]
    simp only [List.getElem?_toArray, List.append_assoc]
    by_cases h1 : k < i * sz + j
    · rw [if_pos h1, List.getElem?_append_left (by simp; omega), List.getElem?_take, if_pos h1]; simp
    · rw [if_neg h1, List.getElem?_append_right (by simp; omega)]
      have hl1 : (conc.toList.take (i * sz + j)).length = i * sz + j := by simp; omega
      rw [hl1]
      by_cases h2 : k < i * sz + j + vs.length
      · rw [if_pos h2, List.getElem?_append_left (by omega)]
      · rw [if_neg h2, List.getElem?_append_right (by omega), List.getElem?_drop]
        rw [show i * sz + j + vs.length + (k - (i * sz + j) - vs.length) = k from by omega]
        simp
  have hcsz : cs.size = conc.size := by
    rw [← hcs]
    simp
    omega
  have hio : i < els.length := by
    rcases Nat.lt_or_ge i els.length with h | h
    · exact h
    · simp [List.getElem?_eq_none h] at hel
  obtain ⟨he, hs'⟩ := sim_set (w' := w.setRow (L.blk id) cs) hs id ver _ (.row sz (els.set i (splice el j a.cells))) hid e3 rfl rfl rfl (by simp [World.setRow]) (fun k hk => setRow_other w _ k _ hk) (fun he => by
    obtain ⟨o1, o2, o3, o4, o5⟩ := hs.objs id ver _ hid
    have hspl : (splice el j a.cells).length = sz := by
      simp only [splice, List.length_append, List.length_take, List.length_drop]
      omega
    refine ⟨o1, o2, ?_, by simpa using o4, fun _ => ⟨cs, et, setRow_heap w _ conc cs et _ g1, by rw [hcsz]; exact g2, ?_⟩⟩
    · intro e hm
      rcases List.mem_or_eq_of_mem_set hm with h | h
      · exact o3 e h
      · rw [h]; exact hspl
    · intro i' el' j' av hi' hj'
      rw [List.getElem?_set] at hi'
      by_cases hii : i = i'
      · subst hii
        rw [if_pos rfl, if_pos hio] at hi'
        cases hi'
        have hj'' : j' < sz := by
          rcases Nat.lt_or_ge j' (splice el j a.cells).length with h | h
          · omega
          · simp [List.getElem?_eq_none h] at hj'
        simp only [splice, List.append_assoc] at hj'
        rw [hget]
        by_cases h1 : j' < j
        · rw [if_pos (by omega)]
          rw [List.getElem?_append_left (by simp; omega), List.getElem?_take, if_pos h1] at hj'
          obtain ⟨v, k1, k2, k3⟩ := g3 i el j' av hel hj'
          exact ⟨v, k1, k2.evo hs he, k3⟩
        · rw [if_neg (by omega)]
          have hl1 : (el.take j).length = j := by simp; omega
          rw [List.getElem?_append_right (by omega), hl1] at hj'
          by_cases h2 : j' < j + a.cells.length
          · rw [if_pos (by omega)]
            rw [List.getElem?_append_left (by omega)] at hj'
            obtain ⟨v, k1, k2⟩ := All2.get _ _ c1 _ _ hj'
            exact ⟨v, by rw [show i * sz + j' - (i * sz + j) = j' - j from by omega]; exact k1, k2.evo hs he, c2 v (List.mem_of_getElem? k1)⟩
          · rw [if_neg (by omega)]
            rw [List.getElem?_append_right (by omega), List.getElem?_drop, show j + a.cells.length + (j' - j - a.cells.length) = j' from by omega] at hj'
            obtain ⟨v, k1, k2, k3⟩ := g3 i el j' av hel hj'
            exact ⟨v, k1, k2.evo hs he, k3⟩
      · rw [if_neg hii] at hi'
        obtain ⟨v, k1, k2, k3⟩ := g3 i' el' j' av hi' hj'
        have hj'' : j' < sz := by
          have := o3 el' (List.mem_of_getElem? hi')
          rcases Nat.lt_or_ge j' el'.length with h | h
          · omega
          · simp [List.getElem?_eq_none h] at hj'
        refine ⟨v, ?_, k2.evo hs he, k3⟩
        rw [hget]
        rcases Nat.lt_or_gt_of_ne hii with h | h
        · have : (i + 1) * sz ≤ i' * sz := Nat.mul_le_mul_right _ h
          rw [Nat.add_mul] at this
          rw [if_neg (by omega), if_neg (by omega)]; exact k1
        · have : (i' + 1) * sz ≤ i * sz := Nat.mul_le_mul_right _ h
          rw [Nat.add_mul] at this
          rw [if_pos (by omega)]; exact k1)
  exact ⟨undef, _, ok, L, .inr ⟨hrun, rfl⟩, he, hs', RepC.v _⟩
/-! ### New variables -/
theorem objrep_new {ok : Nat → Prop} {L : Loc} {w w' : World} (hs : Sim ok L σ w) {id ver' c sz : Nat} {els : List (List AVal)} {conc : Array Value} {e : TypeId} {σ' : Store}
    (he : Evo ok L σ w ok (L.upd id w.heap.size c sz ver') σ' w') (hb : w'.heap[w.heap.size]? = some (.cells conc e (0, 0))) (hsz : ∀ e ∈ els, e.length = sz) (hl : els.length ≤ c) (hc : conc.size = c * sz)
    (hrep : ∀ i el j av, els[i]? = some el → el[j]? = some av → ∃ v, conc[i * sz + j]? = some v ∧ RepL ok L w av v ∧ v.oneCell' = true) : ObjRep ok (L.upd id w.heap.size c sz ver') w' id ver' (.row sz els) := by
  refine ⟨by simp [Loc.upd], by simp [Loc.upd], hsz, by simpa [Loc.upd] using hl, fun _ => ⟨conc, e, by simpa [Loc.upd] using hb, by simpa [Loc.upd] using hc, fun i el j av hi hj => ?_⟩⟩
  obtain ⟨v, h1, h2, h3⟩ := hrep i el j av hi hj
  exact ⟨v, h1, h2.evo hs he, h3⟩
/-- The variable of a struct, an array or one cell: told as object 'id'. -/
theorem op_alloc {t : TypeId} {inf : TypeInfo} {z : Value} (id : Nat) (hi : P.info? t = some inf) (hz : inf.zero = some z) (hz1 : z.cells.toList.all Value.oneCell' = true) :
    OpR P ⟨d, .alloc t, ty, pos, after, guard⟩ E σ (fun a σ' => ∃ ver, a = .ptr id ver 0 0 ∧ σ' = σ.put id ver (.row z.cells.toList.length [z.cells.toList.map .v])) := by
  intro ok L w ρ hs hr
  obtain ⟨he, hs'⟩ := sim_upd (w' := w.alloc (.cells z.cells t)) hs id w.heap.size 1 z.cells.toList.length (L.ver id + 1) (.row z.cells.toList.length [z.cells.toList.map .v]) (by omega) rfl rfl rfl (by simp) (fun k hk _ => Go.RowKit.Below.heap_alloc w _ k hk) (.inl (Nat.le_refl _)) (fun _ => by simp)
    (fun he => objrep_new hs he (heap_alloc_new w _) (by simp) (by simp) (by simp) (fun i el j av h1 h2 => by
      cases i with
      | succ i => simp at h1
      | zero =>
        simp at h1
        subst h1
        simp only [List.getElem?_map, Option.map_eq_some_iff] at h2
        obtain ⟨v, h3, rfl⟩ := h2
        exact ⟨v, by simpa using h3, RepC.v v, List.all_eq_true.1 hz1 v (List.mem_of_getElem? h3)⟩))
  refine ⟨_, _, .pointer (some ⟨w.heap.size, 0, none⟩), _, ok, _, ⟨_, rfl, rfl⟩, .inl ?_, he, hs', ?_⟩
  · simp [execOp, Instr.alloc, zeroValue, typeInfo, hi, hz, newVar, newRow]
  · refine ⟨by simp [Loc.upd], fun _ => by simp [Loc.upd]⟩
theorem op_box {t : TypeId} {x : Operand} {a : AVal} (id : Nat) (hx : E x = some a) (h1 : a.cells.all AVal.oneB = true) (hl : a.cells.all (AVal.live σ) = true) :
    OpR P ⟨d, .box t x, ty, pos, after, guard⟩ E σ (fun r σ' => ∃ ver, r = .ptr id ver 0 0 ∧ σ' = σ.put id ver (.row a.cells.length [a.cells])) := by
  intro ok L w ρ hs hr
  obtain ⟨c1, c2⟩ := (hr x (by simp [Op.operands]) _ hx).cells hs h1 hl
  have clen := All2.length _ _ c1
  obtain ⟨he, hs'⟩ := sim_upd (w' := w.alloc (.cells (ρ x).cells t)) hs id w.heap.size 1 a.cells.length (L.ver id + 1) (.row a.cells.length [a.cells]) (by omega) rfl rfl rfl (by simp) (fun k hk _ => Go.RowKit.Below.heap_alloc w _ k hk) (.inl (Nat.le_refl _)) (fun _ => by simp)
    (fun he => objrep_new hs he (heap_alloc_new w _) (by simp) (by simp) (by simpa using clen.symm) (fun i el j av h1 h2 => by
      cases i with
      | succ i => simp at h1
      | zero =>
        simp at h1
        subst h1
        obtain ⟨v, h3, h4⟩ := All2.get _ _ c1 j av h2
        exact ⟨v, by simpa using h3, h4, c2 v (List.mem_of_getElem? h3)⟩))
  refine ⟨_, _, .pointer (some ⟨w.heap.size, 0, none⟩), _, ok, _, ⟨_, rfl, rfl⟩, .inl ?_, he, hs', ?_⟩
  · simp [execOp, Instr.box, newVar, newRow]
  · refine ⟨by simp [Loc.upd], fun _ => by simp [Loc.upd]⟩
theorem madeCells_get {z : Array Value} {m k : Nat} (hk : k < m) (hz : z.size ≠ 0) : ∃ v, (madeCells z m)[k]? = some v ∧ z[k % z.size]? = some v := by
  have hlt : k % z.size < z.size := Nat.mod_lt _ (by omega)
  refine ⟨z[k % z.size]!, ?_, ?_⟩
  · simp [madeCells, hk]
  · rw [Array.getElem?_eq_getElem hlt]
    simp [getElem!_pos z (k % z.size) hlt]
/-- make([]T, m): object 'id'. -/
theorem op_make {t e : TypeId} {x y : Operand} {inf : TypeInfo} {z : Value} {k k' : IntKind} {m : Int} (id : Nat) (ht : P.underlying t = some (.slice e)) (hi : P.info? e = some inf) (hz : inf.zero = some z) (hsz : z.cells.toList.length = inf.size) (h0 : inf.size ≠ 0) (hz1 : z.cells.toList.all Value.oneCell' = true)
    (hx : E x = some (.v (.int k m))) (hy : E y = some (.v (.int k' m))) (hm : 0 ≤ m) (hb : (inf.bytes : Int) * m ≤ 281474976710656) (h63 : m ≤ 9223372036854775807) :
    OpR P ⟨d, .makeSlice t x y, ty, pos, after, guard⟩ E σ (fun r σ' => ∃ ver, r = .slice id ver 0 m.toNat ∧ σ' = σ.put id ver (.row inf.size (List.replicate m.toNat (z.cells.toList.map .v)))) := by
  intro ok L w ρ hs hr
  have e1 := rep_bool (hr x (by simp [Op.operands]) _ hx)
  have e2 := rep_bool (hr y (by simp [Op.operands]) _ hy)
  have hrun := run_make (P := P) w t e inf z ht hi hz k k' m m hm (Int.le_refl _) hb h63
  have hzs : z.cells.size = inf.size := by simpa using hsz
  obtain ⟨he, hs'⟩ := sim_upd (w' := w.alloc (.cells (madeCells z.cells (m.toNat * inf.size)) e)) hs id w.heap.size m.toNat inf.size (L.ver id + 1) (.row inf.size (List.replicate m.toNat (z.cells.toList.map .v))) (by omega) rfl rfl rfl (by simp) (fun k hk _ => Go.RowKit.Below.heap_alloc w _ k hk) (.inl (Nat.le_refl _)) (fun _ => by simp)
    (fun he => objrep_new hs he (heap_alloc_new w _) (fun e hm => by
        rw [List.mem_replicate] at hm
        rw [hm.2]; simpa using hsz) (by simp) (by simp [size_madeCells]) (fun i el j av h1 h2 => by
      rw [List.getElem?_replicate] at h1
      split at h1
      · rename_i hi'
        cases h1
        simp only [List.getElem?_map, Option.map_eq_some_iff] at h2
        obtain ⟨v, h3, rfl⟩ := h2
        have hj : j < inf.size := by
          rcases Nat.lt_or_ge j z.cells.toList.length with h | h
          · omega
          · simp [List.getElem?_eq_none h] at h3
        have hlt : i * inf.size + j < m.toNat * inf.size := by
          have : (i + 1) * inf.size ≤ m.toNat * inf.size := Nat.mul_le_mul_right _ hi'
          rw [Nat.add_mul] at this
          omega
        obtain ⟨u, u1, u2⟩ := madeCells_get (z := z.cells) hlt (by omega)
        refine ⟨u, u1, ?_⟩
        rw [hzs, Nat.add_comm, Nat.add_mul_mod_self_right, Nat.mod_eq_of_lt hj] at u2
        have : u = v := by
          have h4 : z.cells[j]? = some v := by simpa using h3
          rw [h4] at u2; cases u2; rfl
        subst this
        exact ⟨RepC.v u, List.all_eq_true.1 hz1 u (List.mem_of_getElem? h3)⟩
      · cases h1))
  refine ⟨_, _, .slice (some ⟨w.heap.size, 0, none⟩) m.toNat m.toNat, _, ok, _, ⟨_, rfl, rfl⟩, .inl ?_, he, hs', ?_⟩
  · simp [execOp, e1, e2, hrun]
  · exact ⟨by simp [Loc.upd], fun _ => ⟨_, _, rfl, Nat.le_refl _, by simp [Loc.upd], fun _ => by simp [Loc.upd]⟩⟩
end
end Go.Proofs.YtcgdlhkiecommaaGreatDoor
