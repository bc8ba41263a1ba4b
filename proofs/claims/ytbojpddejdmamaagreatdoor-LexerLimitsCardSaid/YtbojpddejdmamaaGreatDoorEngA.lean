/- The engine, part 1: abstract values, what they say of memory, and how they last. -/
import Derived.Test.YtbojpddejdmamaaGreatDoorGlob
import Derived.WalkKit
import Derived.Orders
import Derived.Laws.AppendOwn
import Derived.Laws.MakeOwn
set_option linter.unusedVariables false
set_option linter.unusedSimpArgs false
namespace Go.Proofs.YtbojpddejdmamaaGreatDoor
open Go

/-- Abstract values: what a temporary holds, memory told apart from addresses. -/
inductive AVal where
  | v (x : Value)
  | nil
  | list (sz : Nat) (els : List (List AVal))
  | slice (id ver off n : Nat)
  | ptr (id ver i j : Nat)
  | rptr (cells : List AVal)
  | map (id ver : Nat)
  | agg (cells : List AVal)
  | tuple (comps : List AVal)
  | fn (f : FuncId) (caps : List AVal)

/-- Where the named objects lie. -/
structure Loc where
  blk : Nat → Nat
  cap : Nat → Nat
  sz : Nat → Nat
  ver : Nat → Nat

inductive AObj where
  | row (sz : Nat) (els : List (List AVal))
  | map (ents : List (Value × AVal))
  | iter (keys : List Value) (seen : List Nat)

abbrev Store := List (Nat × Nat × AObj)
abbrev Env := List (Nat × AVal)

def Store.get : Store → Nat → Option (Nat × AObj)
  | [], _ => none
  | (i, x) :: r, id => match Nat.beq i id with | true => some x | false => Store.get r id
def Store.put : Store → Nat → Nat → AObj → Store
  | [], id, ver, o => [(id, ver, o)]
  | (i, x) :: r, id, ver, o => match Nat.beq i id with | true => (id, ver, o) :: r | false => (i, x) :: Store.put r id ver o
def Env.get : Env → Nat → Option AVal
  | [], _ => none
  | (i, x) :: r, t => match Nat.beq i t with | true => some x | false => Env.get r t

theorem nat_beq_true {a b : Nat} : Nat.beq a b = true ↔ a = b := by simp
theorem nat_beq_false {a b : Nat} : Nat.beq a b = false ↔ a ≠ b := by
  rw [← Bool.not_eq_true, nat_beq_true]

theorem Store.get_put (s : Store) (id ver : Nat) (o : AObj) (k : Nat) : (s.put id ver o).get k = if id = k then some (ver, o) else s.get k := by
  induction s with
  | nil =>
    simp only [Store.put, Store.get]
    by_cases h : id = k
    · rw [if_pos h, nat_beq_true.2 h]
    · rw [if_neg h, nat_beq_false.2 h]
  | cons p r ih =>
    obtain ⟨i, x⟩ := p
    simp only [Store.put]
    by_cases h : i = id
    · subst h
      rw [nat_beq_true.2 rfl]
      simp only [Store.get]
      by_cases h2 : i = k
      · rw [if_pos h2, nat_beq_true.2 h2]
      · rw [if_neg h2, nat_beq_false.2 h2]
    · rw [nat_beq_false.2 h]
      simp only [Store.get]
      by_cases h2 : i = k
      · rw [nat_beq_true.2 h2, if_neg (by omega)]
      · rw [nat_beq_false.2 h2]; exact ih

theorem Env.get_cons (e : Env) (t : Nat) (a : AVal) (k : Nat) : Env.get ((t, a) :: e) k = if t = k then some a else e.get k := by
  simp only [Env.get]
  by_cases h : t = k
  · rw [if_pos h, nat_beq_true.2 h]
  · rw [if_neg h, nat_beq_false.2 h]

/-- What a closed abstract value says of a value in memory. -/
inductive RepC (ok : Nat → Prop) (w : World) : AVal → Value → Prop
  | v (x : Value) : RepC ok w (.v x) x
  | nil (a : Option Addr) : RepC ok w .nil (.slice a 0 0)
  | empty (sz : Nat) (a : Option Addr) (c : Nat) : RepC ok w (.list sz []) (.slice a 0 c)
  | list (sz : Nat) (els : List (List AVal)) (b o c : Nat) (vs : Nat → Nat → Value) (hok : ok b) (hc : els.length ≤ c)
      (hs : ∀ e ∈ els, e.length = sz)
      (hcell : ∀ i e j av, els[i]? = some e → e[j]? = some av → w.cell? ⟨b, o + i * sz + j, none⟩ = some (vs i j))
      (h1 : ∀ i e j av, els[i]? = some e → e[j]? = some av → (vs i j).oneCell' = true)
      (hrep : ∀ i e j av, els[i]? = some e → e[j]? = some av → RepC ok w av (vs i j)) : RepC ok w (.list sz els) (.slice (some ⟨b, o, none⟩) els.length c)
  | rptr (cells : List AVal) (b o : Nat) (vs : Nat → Value) (hok : ok b)
      (hcell : ∀ j av, cells[j]? = some av → w.cell? ⟨b, o + j, none⟩ = some (vs j))
      (hrep : ∀ j av, cells[j]? = some av → RepC ok w av (vs j)) : RepC ok w (.rptr cells) (.pointer (some ⟨b, o, none⟩))

theorem RepC.mono {ok ok' : Nat → Prop} {w w' : World} {a : AVal} {v : Value} (h : RepC ok w a v) (hok : ∀ b, ok b → ok' b) (hw : ∀ b, ok b → w'.heap[b]? = w.heap[b]?) : RepC ok' w' a v := by
  induction h with
  | v x => exact .v x
  | nil a => exact .nil a
  | empty sz a c => exact .empty sz a c
  | list sz els b o c vs h1 h2 h3 h4 h6 h5 ih => exact .list sz els b o c vs (hok _ h1) h2 h3 (fun i e j av hi hj => (World.cell?_of_block (w := w) (hw b h1)).trans (h4 i e j av hi hj)) h6 ih
  | rptr cells b o vs h1 h4 h5 ih => exact .rptr cells b o vs (hok _ h1) (fun j av hj => (World.cell?_of_block (w := w) (hw b h1)).trans (h4 j av hj)) ih

/-- .. of whatever fills one cell. -/
def RepL (ok : Nat → Prop) (L : Loc) (w : World) : AVal → Value → Prop
  | .slice id ver off n, v => ver ≤ L.ver id ∧ (L.ver id = ver → ∃ a c, v = .slice a n c ∧ n ≤ c ∧ c + off = L.cap id ∧ (0 < n ∨ (off = 0 ∧ L.cap id ≠ 0) → a = some ⟨L.blk id, off * L.sz id, none⟩))
  | .ptr id ver i j, v => ver ≤ L.ver id ∧ (L.ver id = ver → v = .pointer (some ⟨L.blk id, i * L.sz id + j, none⟩))
  | .map id ver, v => ver ≤ L.ver id ∧ (L.ver id = ver → v = .map (some (L.blk id)))
  | a, v => RepC ok w a v

/-- Lists of values, one by one. -/
def All2 {α β : Type} (R : α → β → Prop) : List α → List β → Prop
  | [], [] => True
  | a :: as, b :: bs => R a b ∧ All2 R as bs
  | _, _ => False

/-- .. of structs and arrays too. -/
def RepA (ok : Nat → Prop) (L : Loc) (w : World) : AVal → Value → Prop
  | .agg cells, v => ∃ vs : List Value, v = .agg vs.toArray ∧ All2 (RepL ok L w) cells vs
  | .fn f caps, v => ∃ vs : List Value, v = .func (.func f) #[] vs.toArray ∧ All2 (RepL ok L w) caps vs
  | a, v => RepL ok L w a v

/-- .. of tuples too. -/
def Rep (ok : Nat → Prop) (L : Loc) (w : World) : AVal → Value → Prop
  | .tuple comps, v => ∃ vs : List Value, v = .tuple vs.toArray ∧ All2 (RepA ok L w) comps vs
  | a, v => RepA ok L w a v

theorem All2.mono {α β : Type} {R S : α → β → Prop} (h : ∀ a b, R a b → S a b) : ∀ (as : List α) (bs : List β), All2 R as bs → All2 S as bs
  | [], [], _ => trivial
  | _ :: _, _ :: _, ⟨h1, h2⟩ => ⟨h _ _ h1, All2.mono h _ _ h2⟩
  | [], _ :: _, h => h.elim
  | _ :: _, [], h => h.elim
theorem All2.length {α β : Type} {R : α → β → Prop} : ∀ (as : List α) (bs : List β), All2 R as bs → as.length = bs.length
  | [], [], _ => rfl
  | _ :: _, _ :: _, ⟨_, h2⟩ => by simp [All2.length _ _ h2]
  | [], _ :: _, h => h.elim
  | _ :: _, [], h => h.elim
theorem All2.get {α β : Type} {R : α → β → Prop} : ∀ (as : List α) (bs : List β), All2 R as bs → ∀ (i : Nat) (a : α), as[i]? = some a → ∃ b, bs[i]? = some b ∧ R a b
  | [], [], _, i, a, h => by simp at h
  | x :: _, y :: _, ⟨h1, h2⟩, 0, a, h => by
    simp at h; subst h; exact ⟨y, by simp, h1⟩
  | _ :: _, _ :: _, ⟨_, h2⟩, i + 1, a, h => by
    simp at h
    obtain ⟨b, hb, hr⟩ := All2.get _ _ h2 i a h
    exact ⟨b, by simpa using hb, hr⟩
  | [], _ :: _, h, _, _, _ => h.elim
  | _ :: _, [], h, _, _, _ => h.elim
theorem All2.of_get {α β : Type} {R : α → β → Prop} : ∀ (as : List α) (bs : List β), as.length = bs.length → (∀ (i : Nat) (a : α) (b : β), as[i]? = some a → bs[i]? = some b → R a b) → All2 R as bs
  | [], [], _, _ => trivial
  | x :: as, y :: bs, hl, h => ⟨h 0 x y rfl rfl, All2.of_get as bs (by simpa using hl) (fun i a b ha hb => h (i + 1) a b (by simpa using ha) (by simpa using hb))⟩
  | [], _ :: _, hl, _ => by simp at hl
  | _ :: _, [], hl, _ => by simp at hl

/-- Which blocks the named objects hold. -/
def Foot (L : Loc) (σ : Store) (b : Nat) : Prop := ∃ id ver o, σ.get id = some (ver, o) ∧ L.cap id ≠ 0 ∧ L.blk id = b

/-- The entries of a map bear stamps. -/
def Stamped (es : Array MapEntry) (clock : Nat) : Prop := (∀ m ∈ es.toList, m.born < clock) ∧ (es.toList.map (·.born)).Nodup
def stampOf (es : Array MapEntry) (i : Nat) : Nat := ((es.toList[i]?).map (·.born)).getD 0
/-- What an iterator has handed out. -/
def IterRep (keys : List Value) (seen : List Nat) (es : Array MapEntry) (clock : Nat) (stamps : Array Nat) : Prop :=
  es.toList.map (·.key) = keys ∧ Stamped es clock ∧ stamps.toList = seen.map (stampOf es) ∧ ∀ i ∈ seen, i < keys.length
/-- What a named object says of memory. -/
def ObjRep (ok : Nat → Prop) (L : Loc) (w : World) (id ver : Nat) : AObj → Prop
  | .row sz els => L.ver id = ver ∧ L.sz id = sz ∧ (∀ e ∈ els, e.length = sz) ∧ els.length ≤ L.cap id ∧
      (L.cap id ≠ 0 → ∃ (conc : Array Value) (e : TypeId), w.heap[L.blk id]? = some (.cells conc e (0, 0)) ∧ conc.size = L.cap id * sz ∧
        ∀ i el j av, els[i]? = some el → el[j]? = some av → ∃ v, conc[i * sz + j]? = some v ∧ RepL ok L w av v ∧ v.oneCell' = true)
  | .map ents => L.ver id = ver ∧ L.cap id ≠ 0 ∧ ∃ es clock, w.heap[L.blk id]? = some (.map es clock) ∧
      All2 (fun (a : Value × AVal) (m : MapEntry) => m.key = a.1 ∧ RepA ok L w a.2 m.val) ents es.toList ∧ Stamped es clock
  | .iter keys seen => L.ver id = ver ∧ L.cap id ≠ 0 ∧ ∃ mb es clock stamps, ok mb ∧ w.heap[mb]? = some (.map es clock) ∧ w.heap[L.blk id]? = some (.mapIter (some mb) clock stamps clock) ∧ IterRep keys seen es clock stamps

structure Sim (ok : Nat → Prop) (L : Loc) (σ : Store) (w : World) : Prop where
  objs : ∀ id ver o, σ.get id = some (ver, o) → ObjRep ok L w id ver o
  lt : ∀ b, Foot L σ b → b < w.heap.size
  inj : ∀ i j vi vj oi oj, σ.get i = some (vi, oi) → σ.get j = some (vj, oj) → L.cap i ≠ 0 → L.cap j ≠ 0 → L.blk i = L.blk j → i = j
  okd : ∀ b, ok b → b < w.heap.size ∧ ¬ Foot L σ b
  glob : GlobOK ok w

/-- What a piece of code may have turned. -/
structure Evo (ok : Nat → Prop) (L : Loc) (σ : Store) (w : World) (ok' : Nat → Prop) (L' : Loc) (σ' : Store) (w' : World) : Prop where
  os : w'.os = w.os
  tape : w'.tape = w.tape
  output : w'.output = w.output
  size : w.heap.size ≤ w'.heap.size
  same : ∀ b, b < w.heap.size → ¬ Foot L σ b → w'.heap[b]? = w.heap[b]?
  foot : ∀ b, b < w.heap.size → Foot L' σ' b → Foot L σ b
  okm : ∀ b, ok b → ok' b
  okn : ∀ b, ok' b → b < w.heap.size → ok b ∨ Foot L σ b
  ver : ∀ id, L.ver id ≤ L'.ver id
  stay : ∀ id, L'.ver id = L.ver id → L'.blk id = L.blk id ∧ L'.cap id = L.cap id ∧ L'.sz id = L.sz id

theorem Sim.globEvo {ok ok' : Nat → Prop} {L L' : Loc} {σ σ' : Store} {w w' : World} (hs : Sim ok L σ w) (he : Evo ok L σ w ok' L' σ' w') : GlobOK ok' w' :=
  hs.glob.mono he.okm (fun b hb => he.same b (hs.okd b hb).1 (hs.okd b hb).2)

theorem Evo.refl (ok : Nat → Prop) (L : Loc) (σ : Store) (w : World) : Evo ok L σ w ok L σ w :=
  ⟨rfl, rfl, rfl, Nat.le_refl _, fun _ _ _ => rfl, fun _ _ h => h, fun _ h => h, fun _ h _ => .inl h, fun _ => Nat.le_refl _, fun _ _ => ⟨rfl, rfl, rfl⟩⟩

theorem Evo.trans {ok ok1 ok2 : Nat → Prop} {L L1 L2 : Loc} {σ σ1 σ2 : Store} {w w1 w2 : World} (h : Evo ok L σ w ok1 L1 σ1 w1) (k : Evo ok1 L1 σ1 w1 ok2 L2 σ2 w2) : Evo ok L σ w ok2 L2 σ2 w2 where
  os := k.os.trans h.os
  tape := k.tape.trans h.tape
  output := k.output.trans h.output
  size := Nat.le_trans h.size k.size
  same := fun b hb hf => (k.same b (Nat.lt_of_lt_of_le hb h.size) (fun hf1 => hf (h.foot b hb hf1))).trans (h.same b hb hf)
  foot := fun b hb hf => h.foot b hb (k.foot b (Nat.lt_of_lt_of_le hb h.size) hf)
  okm := fun b hb => k.okm b (h.okm b hb)
  okn := fun b hb hl => (k.okn b hb (Nat.lt_of_lt_of_le hl h.size)).elim (fun h1 => h.okn b h1 hl) (fun h1 => .inr (h.foot b hl h1))
  ver := fun id => Nat.le_trans (h.ver id) (k.ver id)
  stay := fun id e => by
    have h1 := h.ver id
    have h2 := k.ver id
    have e1 : L1.ver id = L.ver id := by omega
    have e2 : L2.ver id = L1.ver id := by omega
    obtain ⟨a1, a2, a3⟩ := h.stay id e1
    obtain ⟨b1, b2, b3⟩ := k.stay id e2
    exact ⟨b1.trans a1, b2.trans a2, b3.trans a3⟩

section
variable {ok ok' : Nat → Prop} {L L' : Loc} {σ σ' : Store} {w w' : World}

theorem RepL.evo {a : AVal} {v : Value} (h : RepL ok L w a v) (hs : Sim ok L σ w) (he : Evo ok L σ w ok' L' σ' w') : RepL ok' L' w' a v := by
  have hc : ∀ {a v}, RepC ok w a v → RepC ok' w' a v := fun h => h.mono he.okm (fun b hb => he.same b (hs.okd b hb).1 (hs.okd b hb).2)
  cases a with
  | slice id ver off n =>
    obtain ⟨h1, h2⟩ := h
    refine ⟨Nat.le_trans h1 (he.ver id), fun e => ?_⟩
    have := he.ver id
    have e1 : L.ver id = ver := by omega
    obtain ⟨b1, b2, b3⟩ := he.stay id (by omega)
    rw [b1, b2, b3]
    exact h2 e1
  | ptr id ver i j =>
    obtain ⟨h1, h2⟩ := h
    refine ⟨Nat.le_trans h1 (he.ver id), fun e => ?_⟩
    have := he.ver id
    have e1 : L.ver id = ver := by omega
    obtain ⟨b1, b2, b3⟩ := he.stay id (by omega)
    rw [b1, b3]
    exact h2 e1
  | map id ver =>
    obtain ⟨h1, h2⟩ := h
    refine ⟨Nat.le_trans h1 (he.ver id), fun e => ?_⟩
    have := he.ver id
    have e1 : L.ver id = ver := by omega
    obtain ⟨b1, b2, b3⟩ := he.stay id (by omega)
    rw [b1]
    exact h2 e1
  | _ => exact hc h

theorem RepA.evo {a : AVal} {v : Value} (h : RepA ok L w a v) (hs : Sim ok L σ w) (he : Evo ok L σ w ok' L' σ' w') : RepA ok' L' w' a v := by
  cases a with
  | agg cells => obtain ⟨vs, h1, h2⟩ := h; exact ⟨vs, h1, All2.mono (fun _ _ h => RepL.evo h hs he) _ _ h2⟩
  | fn f caps => obtain ⟨vs, h1, h2⟩ := h; exact ⟨vs, h1, All2.mono (fun _ _ h => RepL.evo h hs he) _ _ h2⟩
  | _ => simp only [RepA] at h ⊢; exact RepL.evo h hs he

theorem Rep.evo {a : AVal} {v : Value} (h : Rep ok L w a v) (hs : Sim ok L σ w) (he : Evo ok L σ w ok' L' σ' w') : Rep ok' L' w' a v := by
  cases a with
  | tuple comps => obtain ⟨vs, h1, h2⟩ := h; exact ⟨vs, h1, All2.mono (fun _ _ h => RepA.evo h hs he) _ _ h2⟩
  | _ => simp only [Rep] at h ⊢; exact RepA.evo h hs he

/-- The temporaries, as far as they are told. -/
def RepEnv (ok : Nat → Prop) (L : Loc) (w : World) (env : Env) (tmps : Array Value) : Prop :=
  ∀ t a, env.get t = some a → ∃ v, tmps[t]? = some v ∧ Rep ok L w a v

theorem RepEnv.evo {env : Env} {tmps : Array Value} (h : RepEnv ok L w env tmps) (hs : Sim ok L σ w) (he : Evo ok L σ w ok' L' σ' w') : RepEnv ok' L' w' env tmps :=
  fun t a ht => let ⟨v, h1, h2⟩ := h t a ht; ⟨v, h1, h2.evo hs he⟩

/-- A temporary is written. -/
def Env.putd (env : Env) (dst : Option Tmp) (a : AVal) : Env := match dst with | some d => (d, a) :: env | none => env

theorem RepEnv.put {env : Env} {act : Act} {dst : Option Tmp} {a : AVal} {v : Value} (h : RepEnv ok L w env act.tmps) (hv : Rep ok L w a v) (hd : ∀ d, dst = some d → d < act.tmps.size) :
    RepEnv ok L w (env.putd dst a) (act.put dst v).tmps := by
  cases dst with
  | none => exact h
  | some d =>
    intro t b ht
    simp only [Env.putd, Env.get_cons] at ht
    simp only [Act.put]
    by_cases e : d = t
    · subst e
      rw [if_pos rfl] at ht
      cases ht
      exact ⟨v, by rw [Array.getElem?_setIfInBounds_self, if_pos (hd _ rfl)], hv⟩
    · rw [if_neg e] at ht
      obtain ⟨u, h1, h2⟩ := h t b ht
      exact ⟨u, by rw [Array.getElem?_setIfInBounds_ne e]; exact h1, h2⟩

theorem RepEnv.put_undef {env : Env} {act : Act} {dst : Option Tmp} {v : Value} (h : RepEnv ok L w env act.tmps) (hd : ∀ d, dst = some d → env.get d = none) :
    RepEnv ok L w env (act.put dst v).tmps := by
  cases dst with
  | none => exact h
  | some d =>
    intro t b ht
    simp only [Act.put]
    by_cases e : d = t
    · subst e
      rw [hd _ rfl] at ht
      cases ht
    · obtain ⟨u, h1, h2⟩ := h t b ht
      exact ⟨u, by rw [Array.getElem?_setIfInBounds_ne e]; exact h1, h2⟩

theorem RepEnv.weaken {env env' : Env} {tmps : Array Value} (h : RepEnv ok L w env tmps) (hsub : ∀ t a, env'.get t = some a → env.get t = some a) : RepEnv ok L w env' tmps :=
  fun t a ht => h t a (hsub t a ht)

/-- An operand. -/
def aval (env : Env) : Operand → Option AVal
  | .tmp t => env.get t
  | .const (.agg cs) => some (.agg (cs.toList.map .v))
  | .const v => some (.v v)
  | .func f => some (.v (.func (.func f) #[] #[]))
  | .global _ => none

theorem All2.map_v (ok : Nat → Prop) (L : Loc) (w : World) : ∀ vs : List Value, All2 (RepL ok L w) (vs.map .v) vs
  | [] => trivial
  | v :: vs => ⟨RepC.v v, All2.map_v ok L w vs⟩

theorem RepEnv.aval {env : Env} {act : Act} (h : RepEnv ok L w env act.tmps) {x : Operand} {a : AVal} (hx : aval env x = some a) : Rep ok L w a (act.eval x) := by
  cases x with
  | tmp t =>
    obtain ⟨v, h1, h2⟩ := h t a hx
    simp only [Act.eval, Array.getD_eq_getD_getElem?, h1]
    exact h2
  | const v =>
    cases v <;> simp only [Go.Proofs.YtbojpddejdmamaaGreatDoor.aval, Option.some.injEq] at hx <;> subst hx <;> first
      | exact RepC.v _
      | (rename_i cs; exact ⟨cs.toList, by simp [Act.eval], All2.map_v ok L w cs.toList⟩)
  | func f => simp only [Go.Proofs.YtbojpddejdmamaaGreatDoor.aval, Option.some.injEq] at hx; subst hx; exact RepC.v _
  | global g => simp [Go.Proofs.YtbojpddejdmamaaGreatDoor.aval] at hx
end
end Go.Proofs.YtbojpddejdmamaaGreatDoor
