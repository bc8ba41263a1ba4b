import Derived.Test.YtcgdlhkiecommaaGreatDoorGlob
import Derived.WalkKit
import Derived.Orders
import Derived.Laws.AppendOwn
import Derived.Laws.MakeOwn
/- The engine, part 1: abstract values, what they say of memory, and how they last. -/





set_option linter.unusedVariables false
set_option linter.unusedSimpArgs false
namespace Go.Proofs.YtcgdlhkiecommaaGreatDoor
open Go
inductive AVal where
  | v (x : Value)
  | nil
  | list (sz : Nat) (els : List (List AVal))
  | slice (id ver off n : Nat)
  | ptr (id ver i j : Nat)
  | rptr (cells : List AVal)
  | map (id ver : Nat)
  | agg (cells : List AVal)
  | tuple (comps : List AVal)
  | fn (f : FuncId) (caps : List AVal)
structure Loc where
  blk : Nat → Nat
  cap : Nat → Nat
  sz : Nat → Nat
  ver : Nat → Nat
inductive AObj where
  | row (sz : Nat) (els : List (List AVal))
  | map (ents : List (Value × AVal))
  | iter (keys : List Value) (seen : List Nat)
abbrev Store := List (Nat × Nat × AObj)
abbrev Env := List (Nat × AVal)
def Store.get : Store → Nat → Option (Nat × AObj)
  | [], _ => none
  | (i, x) :: r, id => match Nat.beq i id with | true => some x | false => Store.get r id
def Store.put : Store → Nat → Nat → AObj → Store
  | [], id, ver, o => [(id, ver, o)]
  | (i, x) :: r, id, ver, o => match Nat.beq i id with | true => (id, ver, o) :: r | false => (i, x) :: Store.put r id ver o
def Env.get : Env → Nat → Option AVal
  | [], _ => none
  | (i, x) :: r, t => match Nat.beq i t with | true => some x | false => Env.get r t
theorem nat_beq_true {a b : Nat} : Nat.beq a b = true ↔ a = b := by simp
theorem nat_beq_false {a b : Nat} : Nat.beq a b = false ↔ a ≠ b := by
  rw [← Bool.not_eq_true, nat_beq_true]
theorem Store.get_put (s : Store) (id ver : Nat) (o : AObj) (k : Nat) : (s.put id ver o).get k = if id = k then some (ver, o) else s.get k := by
  induction s with
  | nil =>
    simp only [Store.put, Store.get]
    by_cases h : id = k
    · rw [if_pos h, nat_beq_true.2 h]
    · rw [if_neg h, nat_beq_false.2 h]
  | cons p r ih =>
    obtain ⟨i, x⟩ := p
    simp only [Store.put]
    by_cases h : i = id
    · subst h
      rw [nat_beq_true.2 rfl]
      simp only [Store.get]
      by_cases h2 : i = k
      · rw [if_pos h2, nat_beq_true.2 h2]
      · rw [if_neg h2, nat_beq_false.2 h2]
    · rw [nat_beq_false.2 h]
      simp only [Store.get]
      by_cases h2 : i = k
      · rw [nat_beq_true.2 h2, if_neg (by omega)]
      · rw [nat_beq_false.2 h2]; exact ih
theorem Env.get_cons (e : Env) (t : Nat) (a : AVal) (k : Nat) : Env.get ((t, a) :: e) k = if t = k then some a else e.get k := by
  simp only [Env.get]
  by_cases h : t = k
  · rw [if_pos h, nat_beq_true.2 h]
  · rw [if_neg h, nat_beq_false.2 h]
inductive RepC (ok : Nat → Prop) (w : World) : AVal → Value → Prop
  | v (x : Value) : RepC ok w (.v x) x
  | nil (a : Option Addr) : RepC ok w .nil (.slice a 0 0)
  | empty (sz : Nat) (a : Option Addr) (c : Nat) : RepC ok w (.list sz []) (.slice a 0 c)
  | list (sz : Nat) (els : List (List AVal)) (b o c : Nat) (vs : Nat → Nat → Value) (hok : ok b) (hc : els.length ≤ c)
      (hs : ∀ e ∈ els, e.length = sz)
      (hcell : ∀ i e j av, els[i]? = some e → e[j]? = some av → w.cell? ⟨b, o + i * sz + j, none⟩ = some (vs i j))
      (h1 : ∀ i e j av, els[i]? = some e → e[j]? = some av → (vs i j).oneCell' = true)
      (hrep : ∀ i e j av, els[i]? = some e → e[j]? = some av → RepC ok w av (vs i j)) : RepC ok w (.list sz els) (.slice (some ⟨b, o, none⟩) els.length c)
  | rptr (cells : List AVal) (b o : Nat) (vs : Nat → Value) (hok : ok b)
      (hcell : ∀ j av, cells[j]? = some av → w.cell? ⟨b, o + j, none⟩ = some (vs j))
      (hrep : ∀ j av, cells[j]? = some av → RepC ok w av (vs j)) : RepC ok w (.rptr cells) (.pointer (some ⟨b, o, none⟩))
theorem RepC.mono {ok ok' : Nat → Prop} {w w' : World} {a : AVal} {v : Value} (h : RepC ok w a v) (hok : ∀ b, ok b → ok' b) (hw : ∀ b, ok b → w'.heap[b]? = w.heap[b]?) : RepC ok' w' a v := by
  induction h with
  | v x => exact .v x
  | nil a => exact .nil a
  | empty sz a c => exact .empty sz a c
  | list sz els b o c vs h1 h2 h3 h4 h6 h5 ih => exact .list sz els b o c vs (hok _ h1) h2 h3 (fun i e j av hi hj => (World.cell?_of_block (w := w) (hw b h1)).trans (h4 i e j av hi hj)) h6 ih
  | rptr cells b o vs h1 h4 h5 ih => exact .rptr cells b o vs (hok _ h1) (fun j av hj => (World.cell?_of_block (w := w) (hw b h1)).trans (h4 j av hj)) ih
def RepL (ok : Nat → Prop) (L : Loc) (w : World) : AVal → Value → Prop
  | .slice id ver off n, v => ver ≤ L.ver id ∧ (L.ver id = ver → ∃ a c, v = .slice a n c ∧ n ≤ c ∧ c + off = L.cap id ∧ (0 < n ∨ (off = 0 ∧ L.cap id ≠ 0) → a = some ⟨L.blk id, off * L.sz id, none⟩))
  | .ptr id ver i j, v => ver ≤ L.ver id ∧ (L.ver id = ver → v = .pointer (some ⟨L.blk id, i * L.sz id + j, none⟩))
  | .map id ver, v => ver ≤ L.ver id ∧ (L.ver id = ver → v = .map (some (L.blk id)))
  | a, v => RepC ok w a v
def All2 {α β : Type} (R : α → β → Prop) : List α → List β → Prop
  | [], [] => True
  | a :: as, b :: bs => R a b ∧ All2 R as bs
  | _, _ => False
def RepA (ok : Nat → Prop) (L : Loc) (w : World) : AVal → Value → Prop
  | .agg cells, v => ∃ vs : List Value, v = .agg vs.toArray ∧ All2 (RepL ok L w) cells vs
  | .fn f caps, v => ∃ vs : List Value, v = .func (.func f) #[] vs.toArray ∧ All2 (RepL ok L w) caps vs
  | a, v => RepL ok L w a v
def Rep (ok : Nat → Prop) (L : Loc) (w : World) : AVal → Value → Prop
  | .tuple comps, v => ∃ vs : List Value, v = .tuple vs.toArray ∧ All2 (RepA ok L w) comps vs
  | a, v => RepA ok L w a v
theorem All2.mono {α β : Type} {R S : α → β → Prop} (h : ∀ a b, R a b → S a b) : ∀ (as : List α) (bs : List β), All2 R as bs → All2 S as bs
  | [], [], _ => trivial
  | _ :: _, _ :: _, ⟨h1, h2⟩ => ⟨h _ _ h1, All2.mono h _ _ h2⟩
  | [], _ :: _, h => h.elim
  | _ :: _, [], h => h.elim
theorem All2.length {α β : Type} {R : α → β → Prop} : ∀ (as : List α) (bs : List β), All2 R as bs → as.length = bs.length
  | [], [], _ => rfl
  | _ :: _, _ :: _, ⟨_, h2⟩ => by simp [All2.length _ _ h2]
  | [], _ :: _, h => h.elim
  | _ :: _, [], h => h.elim
theorem All2.get {α β : Type} {R : α → β → Prop} : ∀ (as : List α) (bs : List β), All2 R as bs → ∀ (i : Nat) (a : α), as[i]? = some a → ∃ b, bs[i]? = some b ∧ R a b
  | [], [], _, i, a, h => by simp at h
  | x :: _, y :: _, ⟨h1, h2⟩, 0, a, h => by
    simp at h; subst h; exact ⟨y, by simp, h1⟩
  | _ :: _, _ :: _, ⟨_, h2⟩, i + 1, a, h => by
    simp at h
    obtain ⟨b, hb, hr⟩ := All2.get _ _ h2 i a h
    exact ⟨b, by simpa using hb, hr⟩
  | [], _ :: _, h, _, _, _ => h.elim
  | _ :: _, [], h, _, _, _ => h.elim
theorem All2.of_get {α β : Type} {R : α → β → Prop} : ∀ (as : List α) (bs : List β), as.length = bs.length → (∀ (i : Nat) (a : α) (b : β), as[i]? = some a → bs[i]? = some b → R a b) → All2 R as bs
  | [], [], _, _ => trivial
  | x :: as, y :: bs, hl, h => ⟨h 0 x y rfl rfl, All2.of_get as bs (by simpa using hl) (fun i a b ha hb => h (i + 1) a b (by simpa using ha) (by simpa using hb))⟩
  | [], _ :: _, hl, _ => by simp at hl
  | _ :: _, [], hl, _ => by simp at hl
def Foot (L : Loc) (σ : Store) (b : Nat) : Prop := ∃ id ver o, σ.get id = some (ver, o) ∧ L.cap id ≠ 0 ∧ L.blk id = b
def Stamped (es : Array MapEntry) (clock : Nat) : Prop := (∀ m ∈ es.toList, m.born < clock) ∧ (es.toList.map (·.born)).Nodup
def stampOf (es : Array MapEntry) (i : Nat) : Nat := ((es.toList[i]?).map (·.born)).getD 0
def IterRep (keys : List Value) (seen : List Nat) (es : Array MapEntry) (clock : Nat) (stamps : Array Nat) : Prop :=
  es.toList.map (·.key) = keys ∧ Stamped es clock ∧ stamps.toList = seen.map (stampOf es) ∧ ∀ i ∈ seen, i < keys.length
def ObjRep (ok : Nat → Prop) (L : Loc) (w : World) (id ver : Nat) : AObj → Prop
  | .row sz els => L.ver id = ver ∧ L.sz id = sz ∧ (∀ e ∈ els, e.length = sz) ∧ els.length ≤ L.cap id ∧
      (L.cap id ≠ 0 → ∃ (conc : Array Value) (e : TypeId), w.heap[L.blk id]? = some (.cells conc e (0, 0)) ∧ conc.size = L.cap id * sz ∧
        ∀ i el j av, els[i]? = some el → el[j]? = some av → ∃ v, conc[i * sz + j]? = some v ∧ RepL ok L w av v ∧ v.oneCell' = true)
  | .map ents => L.ver id = ver ∧ L.cap id ≠ 0 ∧ ∃ es clock, w.heap[L.blk id]? = some (.map es clock) ∧
      All2 (fun (a : Value × AVal) (m : MapEntry) => m.key = a.1 ∧ RepA ok L w a.2 m.val) ents es.toList ∧ Stamped es clock
  | .iter keys seen => L.ver id = ver ∧ L.cap id ≠ 0 ∧ ∃ mb es clock stamps, ok mb ∧ w.heap[mb]? = some (.map es clock) ∧ w.heap[L.blk id]? = some (.mapIter (some mb) clock stamps clock) ∧ IterRep keys seen es clock stamps
structure Sim (ok : Nat → Prop) (L : Loc) (σ : Store) (w : World) : Prop where
  objs : ∀ id ver o, σ.get id = some (ver, o) → ObjRep ok L w id ver o
  lt : ∀ b, Foot L σ b → b < w.heap.size
  inj : ∀ i j vi vj oi oj, σ.get i = some (vi, oi) → σ.get j = some (vj, oj) → L.cap i ≠ 0 → L.cap j ≠ 0 → L.blk i = L.blk j → i = j
  okd : ∀ b, ok b → b < w.heap.size ∧ ¬ Foot L σ b
  glob : GlobOK ok w
structure Evo (ok : Nat → Prop) (L : Loc) (σ : Store) (w : World) (ok' : Nat → Prop) (L' : Loc) (σ' : Store) (w' : World) : Prop where
  os : w'.os = w.os
  tape : w'.tape = w.tape
  output : w'.output = w.output
  size : w.heap.size ≤ w'.heap.size
  same : ∀ b, b < w.heap.size → ¬ Foot L σ b → w'.heap[b]? = w.heap[b]?
  foot : ∀ b, b < w.heap.size → Foot L' σ' b → Foot L σ b
  okm : ∀ b, ok b → ok' b
  okn : ∀ b, ok' b → b < w.heap.size → ok b ∨ Foot L σ b
  ver : ∀ id, L.ver id ≤ L'.ver id
  stay : ∀ id, L'.ver id = L.ver id → L'.blk id = L.blk id ∧ L'.cap id = L.cap id ∧ L'.sz id = L.sz id
theorem Sim.globEvo {ok ok' : Nat → Prop} {L L' : Loc} {σ σ' : Store} {w w' : World} (hs : Sim ok L σ w) (he : Evo ok L σ w ok' L' σ' w') : GlobOK ok' w' :=
  hs.glob.mono he.okm (fun b hb => he.same b (hs.okd b hb).1 (hs.okd b hb).2)
theorem Evo.refl (ok : Nat → Prop) (L : Loc) (σ : Store) (w : World) : Evo ok L σ w ok L σ w :=
  ⟨rfl, rfl, rfl, Nat.le_refl _, fun _ _ _ => rfl, fun _ _ h => h, fun _ h => h, fun _ h _ => .inl h, fun _ => Nat.le_refl _, fun _ _ => ⟨rfl, rfl, rfl⟩⟩
theorem Evo.trans {ok ok1 ok2 : Nat → Prop} {L L1 L2 : Loc} {σ σ1 σ2 : Store} {w w1 w2 : World} (h : Evo ok L σ w ok1 L1 σ1 w1) (k : Evo ok1 L1 σ1 w1 ok2 L2 σ2 w2) : Evo ok L σ w ok2 L2 σ2 w2 where
  os := k.os.trans h.os
  tape := k.tape.trans h.tape
  output := k.output.trans h.output
  size := Nat.le_trans h.size k.size
  same := fun b hb hf => (k.same b (Nat.lt_of_lt_of_le hb h.size) (fun hf1 => hf (h.foot b hb hf1))).trans (h.same b hb hf)
  foot := fun b hb hf => h.foot b hb (k.foot b (Nat.lt_of_lt_of_le hb h.size) hf)
  okm := fun b hb => k.okm b (h.okm b hb)
  okn := fun b hb hl => (k.okn b hb (Nat.lt_of_lt_of_le hl h.size)).elim (fun h1 => h.okn b h1 hl) (fun h1 => .inr (h.foot b hl h1))
  ver := fun id => Nat.le_trans (h.ver id) (k.ver id)
  stay := fun id e => by
    have h1 := h.ver id
    have h2 := k.ver id
    have e1 : L1.ver id = L.ver id := by omega
    have e2 : L2.ver id = L1.ver id := by omega
    obtain ⟨a1, a2, a3⟩ := h.stay id e1
    obtain ⟨b1, b2, b3⟩ := k.stay id e2
    exact ⟨b1.trans a1, b2.trans a2, b3.trans a3⟩
section
variable {ok ok' : Nat → Prop} {L L' : Loc} {σ σ' : Store} {w w' : World}
theorem RepL.evo {a : AVal} {v : Value} (h : RepL ok L w a v) (hs : Sim ok L σ w) (he : Evo ok L σ w ok' L' σ' w') : RepL ok' L' w' a v := by
  have hc : ∀ {a v}, RepC ok w a v → RepC ok' w' a v := fun h => h.mono he.okm (fun b hb => he.same b (hs.okd b hb).1 (hs.okd b hb).2)
  cases a with
  | slice id ver off n =>
    obtain ⟨h1, h2⟩ := h
    refine ⟨Nat.le_trans h1 (he.ver id), fun e => ?_⟩
    have := he.ver id
    have e1 : L.ver id = ver := by omega
    obtain ⟨b1, b2, b3⟩ := he.stay id (by omega)
    rw [b1, b2, b3]
    exact h2 e1
  | ptr id ver i j =>
    obtain ⟨h1, h2⟩ := h
    refine ⟨Nat.le_trans h1 (he.ver id), fun e => ?_⟩
    have := he.ver id
    have e1 : L.ver id = ver := by omega
    obtain ⟨b1, b2, b3⟩ := he.stay id (by omega)
    rw [b1, b3]
    exact h2 e1
  | map id ver =>
    obtain ⟨h1, h2⟩ := h
    refine ⟨Nat.le_trans h1 (he.ver id), fun e => ?_⟩
    have := he.ver id
    have e1 : L.ver id = ver := by omega
    obtain ⟨b1, b2, b3⟩ := he.stay id (by omega)
    rw [b1]
    exact h2 e1
  | _ => exact hc h
theorem RepA.evo {a : AVal} {v : Value} (h : RepA ok L w a v) (hs : Sim ok L σ w) (he : Evo ok L σ w ok' L' σ' w') : RepA ok' L' w' a v := by
  cases a with
  | agg cells => obtain ⟨vs, h1, h2⟩ := h; exact ⟨vs, h1, All2.mono (fun _ _ h => RepL.evo h hs he) _ _ h2⟩
  | fn f caps => obtain ⟨vs, h1, h2⟩ := h; exact ⟨vs, h1, All2.mono (fun _ _ h => RepL.evo h hs he) _ _ h2⟩
  | _ => simp only [RepA] at h ⊢; exact RepL.evo h hs he
theorem Rep.evo {a : AVal} {v : Value} (h : Rep ok L w a v) (hs : Sim ok L σ w) (he : Evo ok L σ w ok' L' σ' w') : Rep ok' L' w' a v := by
  cases a with
  | tuple comps => obtain ⟨vs, h1, h2⟩ := h; exact ⟨vs, h1, All2.mono (fun _ _ h => RepA.evo h hs he) _ _ h2⟩
  | _ => simp only [Rep] at h ⊢; exact RepA.evo h hs he
def RepEnv (ok : Nat → Prop) (L : Loc) (w : World) (env : Env) (tmps : Array Value) : Prop :=
  ∀ t a, env.get t = some a → ∃ v, tmps[t]? = some v ∧ Rep ok L w a v
theorem RepEnv.evo {env : Env} {tmps : Array Value} (h : RepEnv ok L w env tmps) (hs : Sim ok L σ w) (he : Evo ok L σ w ok' L' σ' w') : RepEnv ok' L' w' env tmps :=
  fun t a ht => let ⟨v, h1, h2⟩ := h t a ht; ⟨v, h1, h2.evo hs he⟩
def Env.putd (env : Env) (dst : Option Tmp) (a : AVal) : Env := match dst with | some d => (d, a) :: env | none => env
theorem RepEnv.put {env : Env} {act : Act} {dst : Option Tmp} {a : AVal} {v : Value} (h : RepEnv ok L w env act.tmps) (hv : Rep ok L w a v) (hd : ∀ d, dst = some d → d < act.tmps.size) :
    RepEnv ok L w (env.putd dst a) (act.put dst v).tmps := by
  cases dst with
  | none => exact h
  | some d =>
    intro t b ht
    simp only [Env.putd, Env.get_cons] at ht
    simp only [Act.put]
    by_cases e : d = t
    · subst e
      rw [if_pos rfl] at ht
      cases ht
      exact ⟨v, by rw [Array.getElem?_setIfInBounds_self, if_pos (hd _ rfl)], hv⟩
    · rw [if_neg e] at ht
      obtain ⟨u, h1, h2⟩ := h t b ht
      exact ⟨u, by rw [Array.getElem?_setIfInBounds_ne e]; exact h1, h2⟩
theorem RepEnv.weaken {env env' : Env} {tmps : Array Value} (h : RepEnv ok L w env tmps) (hsub : ∀ t a, env'.get t = some a → env.get t = some a) : RepEnv ok L w env' tmps :=
  fun t a ht => h t a (hsub t a ht)
def aval (env : Env) : Operand → Option AVal
  | .tmp t => env.get t
  | .const (.agg cs) => some (.agg (cs.toList.map .v))
  | .const v => some (.v v)
  | .func f => some (.v (.func (.func f) #[] #[]))
  | .global _ => none
theorem All2.map_v (ok : Nat → Prop) (L : Loc) (w : World) : ∀ vs : List Value, All2 (RepL ok L w) (vs.map .v) vs
  | [] => trivial
  | v :: vs => ⟨RepC.v v, All2.map_v ok L w vs⟩
theorem RepEnv.aval {env : Env} {act : Act} (h : RepEnv ok L w env act.tmps) {x : Operand} {a : AVal} (hx : aval env x = some a) : Rep ok L w a (act.eval x) := by
  cases x with
  | tmp t =>
    obtain ⟨v, h1, h2⟩ := h t a hx
    simp only [Act.eval, Array.getD_eq_getD_getElem?, h1]
    exact h2
  | const v =>
    cases v <;> simp only [Go.Proofs.YtcgdlhkiecommaaGreatDoor.aval, Option.some.injEq] at hx <;> subst hx <;> first
      | exact RepC.v _
      | (rename_i cs; exact ⟨cs.toList, by simp [Act.eval], All2.map_v ok L w cs.toList⟩)
  | func f => simp only [Go.Proofs.YtcgdlhkiecommaaGreatDoor.aval, Option.some.injEq] at hx; subst hx; exact RepC.v _
  | global g => simp [Go.Proofs.YtcgdlhkiecommaaGreatDoor.aval] at hx
end
end Go.Proofs.YtcgdlhkiecommaaGreatDoor
/- The engine, part 2: pieces of code, calls, loops, over abstract values. -/

namespace Go.Proofs.YtcgdlhkiecommaaGreatDoor
open Go
inductive AExit where
  | normal
  | exit (id : Nat)
  | goto (l : Nat)
  | ret
  | panic (a : AVal)
def ExitRep (ok : Nat → Prop) (L : Loc) (w : World) : AExit → Exit → Prop
  | .normal, .normal => True
  | .exit i, .exit j => i = j
  | .goto i, .goto j => i = j
  | .ret, .ret => True
  | .panic a, .panic chain => ∃ v, chain = [{ v := v, recovered := false }] ∧ Rep ok L w a v
  | _, _ => False
abbrev APost := AExit → Env → Store → Prop
def Post (n : Nat) (Q : APost) (ok : Nat → Prop) (L : Loc) (σ : Store) (w : World) : Exit → Act → World → Prop := fun e act' w' =>
  ∃ ae env' σ' ok' L', Q ae env' σ' ∧ Evo ok L σ w ok' L' σ' w' ∧ Sim ok' L' σ' w' ∧ RepEnv ok' L' w' env' act'.tmps ∧ act'.defers = [] ∧ act'.tmps.size = n ∧ ExitRep ok' L' w' ae e
theorem Post.after {n : Nat} {Q : APost} {ok ok1 : Nat → Prop} {L L1 : Loc} {σ σ1 : Store} {w w1 : World} (he : Evo ok L σ w ok1 L1 σ1 w1) {e : Exit} {a : Act} {w' : World} (h : Post n Q ok1 L1 σ1 w1 e a w') : Post n Q ok L σ w e a w' := by
  obtain ⟨ae, env', σ', ok', L', h1, h2, h3⟩ := h
  exact ⟨ae, env', σ', ok', L', h1, he.trans h2, h3⟩
theorem Post.mono {n : Nat} {Q Q' : APost} {ok : Nat → Prop} {L : Loc} {σ : Store} {w : World} (hq : ∀ ae env σ, Q ae env σ → Q' ae env σ) {e : Exit} {a : Act} {w' : World} (h : Post n Q ok L σ w e a w') : Post n Q' ok L σ w e a w' := by
  obtain ⟨ae, env', σ', ok', L', h1, h2⟩ := h
  exact ⟨ae, env', σ', ok', L', hq _ _ _ h1, h2⟩
def AW (P : Program) (n : Nat) (c : Code) (Q : APost) (env : Env) (σ : Store) : Prop :=
  ∀ ok L w act, Sim ok L σ w → RepEnv ok L w env act.tmps → act.defers = [] → act.tmps.size = n → c.wp P (Post n Q ok L σ w) act w
section
variable {P : Program} {n : Nat} {Q : APost} {env : Env} {σ : Store}
theorem aw_mono {c : Code} {Q' : APost} (hq : ∀ ae env σ, Q ae env σ → Q' ae env σ) (h : AW P n c Q env σ) : AW P n c Q' env σ :=
  fun ok L w act h1 h2 h3 h4 => wp_mono (h ok L w act h1 h2 h3 h4) fun _ _ _ hp => hp.mono hq
theorem aw_weaken {c : Code} (env' : Env) (hsub : ∀ t a, env'.get t = some a → env.get t = some a) (h : AW P n c Q env' σ) : AW P n c Q env σ :=
  fun ok L w act h1 h2 h3 h4 => h ok L w act h1 (h2.weaken hsub) h3 h4
def AExit.then (next : Env → Store → Prop) (Q : APost) : APost
  | .normal, env, σ => next env σ
  | e, env, σ => Q e env σ
def AExit.inBlock (id : Nat) (Q : APost) : APost
  | .exit id', env, σ => match Nat.beq id' id with | true => Q .normal env σ | false => Q (.exit id') env σ
  | e, env, σ => Q e env σ
theorem aw_skip (h : Q .normal env σ) : AW P n .skip Q env σ :=
  fun ok L w act h1 h2 h3 h4 => wp_skip ⟨.normal, env, σ, ok, L, h, .refl _ _ _ _, h1, h2, h3, h4, trivial⟩
theorem aw_exit {id : Nat} (h : Q (.exit id) env σ) : AW P n (.exit id) Q env σ :=
  fun ok L w act h1 h2 h3 h4 => wp_exit ⟨.exit id, env, σ, ok, L, h, .refl _ _ _ _, h1, h2, h3, h4, rfl⟩
theorem aw_ret (h : Q .ret env σ) : AW P n .ret Q env σ :=
  fun ok L w act h1 h2 h3 h4 => wp_ret ⟨.ret, env, σ, ok, L, h, .refl _ _ _ _, h1, h2, h3, h4, trivial⟩
theorem post_then {x : AExit} {e : Exit} {K : Env → Store → Prop} {K' : Act → World → Prop} {ok : Nat → Prop} {L : Loc} {σ : Store} {w : World} {act : Act} {w1 : World}
    (hp : Post n (AExit.then K Q) ok L σ w e act w1)
    (hk : ∀ env1 σ1 ok1 L1, K env1 σ1 → Evo ok L σ w ok1 L1 σ1 w1 → Sim ok1 L1 σ1 w1 → RepEnv ok1 L1 w1 env1 act.tmps → act.defers = [] → act.tmps.size = n → K' act w1) :
    Exit.then K' (Post n Q ok L σ w) e act w1 := by
  obtain ⟨ae, env1, σ1, ok1, L1, hq, he, hs1, hr1, hd1, hn1, hx⟩ := hp
  cases ae <;> cases e <;> simp only [ExitRep] at hx
  · exact hk _ _ _ _ hq he hs1 hr1 hd1 hn1
  · exact ⟨_, env1, σ1, ok1, L1, hq, he, hs1, hr1, hd1, hn1, hx⟩
  · exact ⟨_, env1, σ1, ok1, L1, hq, he, hs1, hr1, hd1, hn1, hx⟩
  · exact ⟨_, env1, σ1, ok1, L1, hq, he, hs1, hr1, hd1, hn1, hx⟩
  · exact ⟨_, env1, σ1, ok1, L1, hq, he, hs1, hr1, hd1, hn1, hx⟩
theorem aw_seq {x y : Code} (h : AW P n x (AExit.then (fun env σ => AW P n y Q env σ) Q) env σ) : AW P n (.seq x y) Q env σ := by
  intro ok L w act hs hr hd hn
  refine wp_seq (wp_mono (h ok L w act hs hr hd hn) fun e a1 w1 hp => post_then (x := .normal) hp ?_)
  intro env1 σ1 ok1 L1 hq he hs1 hr1 hd1 hn1
  exact wp_mono (hq ok1 L1 w1 a1 hs1 hr1 hd1 hn1) fun _ _ _ h => h.after he
theorem aw_block {id : Nat} {c : Code} (h : AW P n c (AExit.inBlock id Q) env σ) : AW P n (.block id c) Q env σ := by
  intro ok L w act hs hr hd hn
  refine wp_block (wp_mono (h ok L w act hs hr hd hn) ?_)
  rintro e a1 w1 ⟨ae, env1, σ1, ok1, L1, hq, he, hs1, hr1, hd1, hn1, hx⟩
  cases ae <;> cases e <;> simp only [ExitRep] at hx
  · exact ⟨_, env1, σ1, ok1, L1, hq, he, hs1, hr1, hd1, hn1, trivial⟩
  · rename_i i j
    subst hx
    simp only [AExit.inBlock] at hq
    simp only [Exit.inBlock]
    by_cases hi : i = id
    · rw [nat_beq_true.2 hi] at hq
      rw [if_pos hi]
      exact ⟨.normal, env1, σ1, ok1, L1, hq, he, hs1, hr1, hd1, hn1, trivial⟩
    · rw [nat_beq_false.2 hi] at hq
      rw [if_neg hi]
      exact ⟨.exit i, env1, σ1, ok1, L1, hq, he, hs1, hr1, hd1, hn1, rfl⟩
  · exact ⟨_, env1, σ1, ok1, L1, hq, he, hs1, hr1, hd1, hn1, hx⟩
  · exact ⟨_, env1, σ1, ok1, L1, hq, he, hs1, hr1, hd1, hn1, hx⟩
  · exact ⟨_, env1, σ1, ok1, L1, hq, he, hs1, hr1, hd1, hn1, hx⟩
theorem rep_bool {ok : Nat → Prop} {L : Loc} {w : World} {x : Value} {v : Value} (h : Rep ok L w (.v x) v) : v = x := by
  cases h; rfl
theorem aw_cond {c : Operand} {x y : Code} {b : Bool} (hc : aval env c = some (.v (.bool b))) (ht : b = true → AW P n x Q env σ) (hf : b = false → AW P n y Q env σ) : AW P n (.cond c x y) Q env σ := by
  intro ok L w act hs hr hd hn
  have e := rep_bool (hr.aval hc)
  exact wp_cond_split e (fun hb => ht hb ok L w act hs hr hd hn) (fun hb => hf hb ok L w act hs hr hd hn)
theorem wp_loop_dec {c : Code} {Q : Exit → Act → World → Prop} (I : Nat → Act → World → Prop)
    (round : ∀ m a w, I m a w → c.wp P (Exit.then (fun a' w' => ∃ m', m' < m ∧ I m' a' w') Q) a w) (m : Nat) (a : Act) (w : World) (h0 : I m a w) : (Code.loop c).wp P Q a w := by
  intro b k cs
  have key : ∀ m a w, I m a w → ∃ e a' w', Q e a' w' ∧ Arrives P (lone (b.at a (.code c :: .inLoop c :: k)) cs w) b k cs e a' w' := by
    intro m
    induction m using Nat.strongRecOn with
    | _ m ih =>
      intro a w hI
      obtain ⟨e, a1, w1, hq, harr⟩ := round m a w hI b (.inLoop c :: k) cs
      cases e with
      | normal =>
        obtain ⟨m', hlt, hI1⟩ := hq
        obtain ⟨e2, a2, w2, hq2, harr2⟩ := ih m' hlt a1 w1 hI1
        exact ⟨e2, a2, w2, hq2, .of_steps (Steps.trans harr (.one step_inLoop)) harr2⟩
      | outgrown => exact ⟨_, a1, w1, hq, .pass (x := .inLoop c) rfl (fun _ _ => .inl (by simp)) harr⟩
      | exit id => exact ⟨_, a1, w1, hq, .pass (x := .inLoop c) rfl (fun _ _ => .inl (by simp)) harr⟩
      | goto l => exact ⟨_, a1, w1, hq, .pass (x := .inLoop c) rfl (fun _ _ => .inl (by simp)) harr⟩
      | ret => exact ⟨_, a1, w1, hq, .pass (x := .inLoop c) rfl (fun _ _ => .inl (by simp)) harr⟩
      | panic ch => exact ⟨_, a1, w1, hq, .pass (x := .inLoop c) rfl (fun _ _ => .inl (by simp)) harr⟩
  obtain ⟨e, a', w', hq, harr⟩ := key m a w h0
  exact ⟨e, a', w', hq, .of_steps (.one step_loop) harr⟩
theorem aw_loop {c : Code} (I : Nat → Env → Store → Prop) (m : Nat) (h0 : I m env σ)
    (round : ∀ m env σ, I m env σ → AW P n c (AExit.then (fun env' σ' => ∃ m', m' < m ∧ I m' env' σ') Q) env σ) : AW P n (.loop c) Q env σ := by
  intro ok L w act hs hr hd hn
  refine wp_loop_dec (fun m a w' => ∃ env1 σ1 ok1 L1, I m env1 σ1 ∧ Evo ok L σ w ok1 L1 σ1 w' ∧ Sim ok1 L1 σ1 w' ∧ RepEnv ok1 L1 w' env1 a.tmps ∧ a.defers = [] ∧ a.tmps.size = n) ?_ m act w
    ⟨env, σ, ok, L, h0, .refl _ _ _ _, hs, hr, hd, hn⟩
  rintro m a w1 ⟨env1, σ1, ok1, L1, hI, he, hs1, hr1, hd1, hn1⟩
  refine wp_mono (round m env1 σ1 hI ok1 L1 w1 a hs1 hr1 hd1 hn1) fun e a2 w2 hp => post_then (x := .normal) (hp.after he) ?_
  rintro env2 σ2 ok2 L2 ⟨m', hlt, hI2⟩ he2 hs2 hr2 hd2 hn2
  exact ⟨m', hlt, env2, σ2, ok2, L2, hI2, he2, hs2, hr2, hd2, hn2⟩
inductive AEnd where
  | ret (a : AVal)
  | pan (a : AVal)
def EndRep (ok : Nat → Prop) (L : Loc) (w : World) : AEnd → Ending → Prop
  | .ret a, .returned v => Rep ok L w a v
  | .pan a, .panicked chain => ∃ v, chain = [{ v := v, recovered := false }] ∧ Rep ok L w a v
  | _, _ => False
def CPost (R : AEnd → Store → Prop) (ok : Nat → Prop) (L : Loc) (σ : Store) (w : World) : Ending → World → Prop := fun e w' =>
  ∃ r σ' ok' L', R r σ' ∧ Evo ok L σ w ok' L' σ' w' ∧ Sim ok' L' σ' w' ∧ EndRep ok' L' w' r e
def AC (P : Program) (f : FuncId) (avs : List AVal) (σ : Store) (R : AEnd → Store → Prop) : Prop :=
  ∀ ok L w vs, Sim ok L σ w → All2 (Rep ok L w) avs vs → Calls P f vs.toArray w (CPost R ok L σ w)
theorem ac_mono {f : FuncId} {avs : List AVal} {R R' : AEnd → Store → Prop} (h : AC P f avs σ R) (hr : ∀ r σ', R r σ' → R' r σ') : AC P f avs σ R' :=
  fun ok L w vs h1 h2 => (h ok L w vs h1 h2).mono fun _ _ ⟨r, σ', ok', L', a, b⟩ => ⟨r, σ', ok', L', hr _ _ a, b⟩
def ResOK (P : Program) (fn : Func) (env : Env) (σ : Store) (r : AVal) : Prop :=
  ∀ ok L w tmps, Sim ok L σ w → RepEnv ok L w env tmps → ∃ v, (results fn tmps).run P w = .ok v w ∧ Rep ok L w r v
def RetPost (P : Program) (fn : Func) (R : AEnd → Store → Prop) : APost
  | .normal, env, σ | .ret, env, σ => ∃ r, ResOK P fn env σ r ∧ R (.ret r) σ
  | .panic a, env, σ => R (.pan a) σ
  | _, _, _ => False
def initEnv : Nat → List AVal → Env
  | _, [] => []
  | k, a :: as => (k, a) :: initEnv (k + 1) as
theorem initEnv_rep {ok : Nat → Prop} {L : Loc} {w : World} (avs : List AVal) (vs : List Value) (h : All2 (Rep ok L w) avs vs) (k : Nat) (pre rest : List Value) (hk : pre.length = k) :
    RepEnv ok L w (initEnv k avs) (pre ++ vs ++ rest).toArray := by
  induction avs generalizing vs k pre with
  | nil => intro t a ht; simp [initEnv, Env.get] at ht
  | cons a as ih =>
    cases vs with
    | nil => exact h.elim
    | cons v vs =>
      obtain ⟨h1, h2⟩ := h
      intro t b ht
      simp only [initEnv, Env.get_cons] at ht
      by_cases e : k = t
      · subst e
        rw [if_pos rfl] at ht
        cases ht
        refine ⟨v, ?_, h1⟩
        simp [← hk]
      · rw [if_neg e] at ht
        have := ih vs h2 (k + 1) (pre ++ [v]) (by simp [hk]) t b ht
        simpa using this
theorem ac_enter {f : FuncId} {fn : Func} {c : Code} {avs : List AVal} {R : AEnd → Store → Prop} (nt : Nat) (hf : P.funcs[f]? = some fn) (hb : fn.body = some c) (hn : fn.ntmps = nt) (hl : avs.length ≤ nt)
    (h : AW P nt c (RetPost P fn R) (initEnv 0 avs) σ) : AC P f avs σ R := by
  intro ok L w vs hs hv
  subst hn
  refine calls_of_wp hf hb (wp_mono (h ok L w _ hs ?_ rfl ?_) ?_)
  · have := initEnv_rep avs vs hv 0 [] (List.replicate (fn.ntmps - vs.length) undef) rfl
    simp only [List.nil_append] at this
    rw [show vs.toArray ++ Array.replicate (fn.ntmps - vs.toArray.size) undef = (vs ++ List.replicate (fn.ntmps - vs.length) undef).toArray from by simp]
    exact this
  · have := All2.length _ _ hv
    simp
    omega
  · rintro e a w' ⟨ae, env', σ', ok', L', hq, he, hs', hr', hd', hn', hx⟩
    cases ae <;> cases e <;> simp only [ExitRep] at hx <;> simp only [RetPost] at hq
    · obtain ⟨r, h1, h2⟩ := hq
      obtain ⟨v, h3, h4⟩ := h1 ok' L' w' a.tmps hs' hr'
      exact ⟨hd', v, h3, .ret r, σ', ok', L', h2, he, hs', h4⟩
    · obtain ⟨r, h1, h2⟩ := hq
      obtain ⟨v, h3, h4⟩ := h1 ok' L' w' a.tmps hs' hr'
      exact ⟨hd', v, h3, .ret r, σ', ok', L', h2, he, hs', h4⟩
    · obtain ⟨v, h3, h4⟩ := hx
      exact ⟨hd', .pan _, σ', ok', L', hq, he, hs', v, h3, h4⟩
theorem getD_of_get {tmps : Array Value} {t : Nat} {v : Value} (h : tmps[t]? = some v) : tmps.getD t undef = v := by
  rw [Array.getD_eq_getD_getElem?, h]; rfl
theorem res_0 {fn : Func} (h : fn.results = #[]) : ResOK P fn env σ (.tuple []) :=
  fun ok L w tmps _ hr => ⟨.tuple #[], results_none h tmps P w, [], rfl, trivial⟩
theorem res_1 {fn : Func} {t : Nat} {a : AVal} (h : fn.results = #[.tmp t]) (ht : env.get t = some a) : ResOK P fn env σ a :=
  fun ok L w tmps _ hr => by
    obtain ⟨v, h1, h2⟩ := hr t a ht
    exact ⟨v, by rw [results_tmp h, getD_of_get h1], h2⟩
def AVal.flat : AVal → Bool
  | .tuple _ => false
  | _ => true
theorem repA_of {ok : Nat → Prop} {L : Loc} {w : World} {a : AVal} {v : Value} (h : Rep ok L w a v) (hf : a.flat = true) : RepA ok L w a v := by
  cases a with
  | tuple _ => simp [AVal.flat] at hf
  | _ => exact h
theorem rep_of {ok : Nat → Prop} {L : Loc} {w : World} {a : AVal} {v : Value} (h : RepA ok L w a v) (hf : a.flat = true) : Rep ok L w a v := by
  cases a with
  | tuple _ => simp [AVal.flat] at hf
  | _ => exact h
theorem res_2 {fn : Func} {t u : Nat} {a b : AVal} (h : fn.results = #[.tmp t, .tmp u]) (ht : env.get t = some a) (hu : env.get u = some b) (ha : a.flat = true) (hb : b.flat = true) : ResOK P fn env σ (.tuple [a, b]) :=
  fun ok L w tmps _ hr => by
    obtain ⟨v, h1, h2⟩ := hr t a ht
    obtain ⟨v', h1', h2'⟩ := hr u b hu
    refine ⟨.tuple #[v, v'], by rw [results_tmp2 h, getD_of_get h1, getD_of_get h1'], [v, v'], rfl, repA_of h2 ha, repA_of h2' hb, trivial⟩
end
end Go.Proofs.YtcgdlhkiecommaaGreatDoor
/- The engine, part 3: regions in the order of the text; operations on plain values. -/

namespace Go.Proofs.YtcgdlhkiecommaaGreatDoor
open Go
def AL (P : Program) (n : Nat) (ops : Array Oper) (l : List Oper) (Q : APost) (env : Env) (σ : Store) : Prop :=
  ∀ ok L w act, Sim ok L σ w → RepEnv ok L w env act.tmps → act.defers = [] → act.tmps.size = n → wpList P ops (Post n Q ok L σ w) l act w
def OpTo (P : Program) (o : Oper) (E : Operand → Option AVal) (σ : Store) (a : AVal) (σ' : Store) : Prop :=
  ∀ ok L w (ρ : Operand → Value), Sim ok L σ w → (∀ x ∈ o.op.operands, ∀ b, E x = some b → Rep ok L w b (ρ x)) →
    ∃ v w' ok' L', ((execOp ρ o).run P w = .ok (.value v) w' ∨ ((execOp ρ o).run P w = .ok .skip w' ∧ v = undef)) ∧ Evo ok L σ w ok' L' σ' w' ∧ Sim ok' L' σ' w' ∧ Rep ok' L' w' a v
section
variable {P : Program} {n : Nat} {Q : APost} {env : Env} {σ σ' : Store} {ops : Array Oper} {rest : List Oper}
theorem aw_region {id : Nat} {l : List Oper} (h : AL P n l.toArray l Q env σ) : AW P n (.region id l.toArray false) Q env σ :=
  fun ok L w act h1 h2 h3 h4 => wp_region_lit (h ok L w act h1 h2 h3 h4)
theorem al_nil (h : Q .normal env σ) : AL P n ops [] Q env σ :=
  fun ok L w act h1 h2 h3 h4 => wpList_nil ⟨.normal, env, σ, ok, L, h, .refl _ _ _ _, h1, h2, h3, h4, trivial⟩
theorem al_weaken {l : List Oper} (env' : Env) (hsub : ∀ t a, env'.get t = some a → env.get t = some a) (h : AL P n ops l Q env' σ) : AL P n ops l Q env σ :=
  fun ok L w act h1 h2 h3 h4 => h ok L w act h1 (h2.weaken hsub) h3 h4
theorem put_defers (act : Act) (d : Option Tmp) (v : Value) : (act.put d v).defers = act.defers := by cases d <;> rfl
theorem put_size (act : Act) (d : Option Tmp) (v : Value) : (act.put d v).tmps.size = act.tmps.size := by cases d <;> simp [Act.put]
theorem wpList_after {Q' : Exit → Act → World → Prop} {Q1 : Exit → Act → World → Prop} (h : ∀ e a w, Q1 e a w → Q' e a w) : ∀ (l : List Oper) (a : Act) (w : World), wpList P ops Q1 l a w → wpList P ops Q' l a w
  | [], a, w, hh => h _ _ _ hh
  | o :: l, a, w, hh => by
    have mono : ∀ (K K' : Act → World → Prop), (∀ a w, K a w → K' a w) → o.wp P a w K Q1 → o.wp P a w K' Q' := by
      intro K K' hK
      unfold Oper.wp
      generalize (execOp a.eval o).run P w = r
      cases r with
      | ok n w' =>
        cases n <;> simp only [Oper.upon] <;> first
          | exact hK _ _
          | exact id
          | (intro hc; exact Calls.mono hc (fun e w'' he => by cases e <;> first | exact hK _ _ he | exact h _ _ _ he | (obtain ⟨a, w, hq⟩ := he; exact ⟨a, w, h _ _ _ hq⟩)))
          | (intro hc; exact Rows.mono hc (fun _ _ he => hK _ _ he))
      | halt x w' => cases x <;> simp only [Oper.upon] <;> first | exact id | exact h _ _ _
    unfold wpList at hh ⊢
    split
    · rename_i hw
      rw [if_pos hw] at hh
      rcases hh with hh | ⟨h1, a1, w1, h2⟩
      · exact .inl (mono _ _ (fun a w => wpList_after h l a w) hh)
      · exact .inr ⟨h1, a1, w1, h _ _ _ h2⟩
    · rename_i hw
      rw [if_neg hw] at hh
      exact wpList_after h l _ _ hh
theorem op_step {o : Oper} {a : AVal} (hop : OpTo P o (aval env) σ a σ') (hd : ∀ d, o.dst = some d → d < n)
    (k : AL P n ops rest Q (env.putd o.dst a) σ') {ok : Nat → Prop} {L : Loc} {w : World} {act : Act} (h1 : Sim ok L σ w) (h2 : RepEnv ok L w env act.tmps) (h3 : act.defers = []) (h4 : act.tmps.size = n)
    (K : Act → World → Prop) (hK : ∀ a w', wpList P ops (Post n Q ok L σ w) rest a w' → K a w') : o.wp P act w K (Post n Q ok L σ w) := by
  obtain ⟨v, w', ok', L', hr, he, hs, hv⟩ := hop ok L w act.eval h1 (fun x _ b hx => h2.aval hx)
  have go : K (act.put o.dst v) w' := by
    refine hK _ _ (wpList_after (fun _ _ _ h => Post.after he h) _ _ _ (k ok' L' w' (act.put o.dst v) hs ?_ ?_ ?_))
    · exact (h2.evo h1 he).put hv (fun d hd' => h4 ▸ hd d hd')
    · rw [put_defers]; exact h3
    · rw [put_size]; exact h4
  unfold Oper.wp
  rcases hr with hr | ⟨hr, rfl⟩
  · rw [hr]; exact go
  · rw [hr]; exact go
theorem al_op {o : Oper} {a : AVal} (hop : OpTo P o (aval env) σ a σ') (hg : o.guard = none) (hd : ∀ d, o.dst = some d → d < n)
    (k : AL P n ops rest Q (env.putd o.dst a) σ') : AL P n ops (o :: rest) Q env σ :=
  fun ok L w act h1 h2 h3 h4 => wpList_plain hg fun K hK => op_step hop hd k h1 h2 h3 h4 K hK
theorem yielded_of {ok : Nat → Prop} {L : Loc} {w : World} {act : Act} {g d : Nat} {og : Oper} {b : Bool} (h2 : RepEnv ok L w env act.tmps) (hog : ops[g]? = some og) (hdst : og.dst = some d) (hb : env.get d = some (.v (.bool b))) : yielded ops act.tmps g = some b := by
  obtain ⟨v, h3, h4⟩ := h2 d _ hb
  have := rep_bool h4
  subst this
  simp [yielded, hog, hdst, h3]
theorem al_take {o : Oper} {a : AVal} {g d : Nat} {og : Oper} {b : Bool} (hop : OpTo P o (aval env) σ a σ') (hg : o.guard = some (g, b)) (hog : ops[g]? = some og) (hdst : og.dst = some d) (hb : env.get d = some (.v (.bool b))) (hd : ∀ d, o.dst = some d → d < n)
    (k : AL P n ops rest Q (env.putd o.dst a) σ') : AL P n ops (o :: rest) Q env σ :=
  fun ok L w act h1 h2 h3 h4 => wpList_step fun K hK => by
    rw [if_pos (by simp [Region.wanted, hg, yielded_of h2 hog hdst hb])]
    exact op_step hop hd k h1 h2 h3 h4 K hK
theorem al_pass {o : Oper} {g d : Nat} {og : Oper} {b : Bool} (hg : o.guard = some (g, b)) (hog : ops[g]? = some og) (hdst : og.dst = some d) (hb : env.get d = some (.v (.bool (!b)))) (hd : ∀ d, o.dst = some d → d < n)
    (k : AL P n ops rest Q (env.putd o.dst (.v undef)) σ) : AL P n ops (o :: rest) Q env σ :=
  fun ok L w act h1 h2 h3 h4 => wpList_step fun K hK => by
    rw [if_neg (by cases b <;> simp [Region.wanted, hg, yielded_of h2 hog hdst hb])]
    refine hK _ _ (k ok L w _ h1 ?_ ?_ ?_)
    · exact h2.put (RepC.v _) (fun d hd' => h4 ▸ hd d hd')
    · rw [put_defers]; exact h3
    · rw [put_size]; exact h4
variable {E : Operand → Option AVal} {d : Option Tmp} {ty : TypeId} {pos : String} {after : Array Edge} {guard : Option (Nat × Bool)}
theorem op_value {o : Oper} {a : AVal} (h : ∀ ok L w (ρ : Operand → Value), Sim ok L σ w → (∀ x ∈ o.op.operands, ∀ b, E x = some b → Rep ok L w b (ρ x)) → ∃ v, (execOp ρ o).run P w = .ok (.value v) w ∧ Rep ok L w a v) : OpTo P o E σ a σ :=
  fun ok L w ρ hs hr => let ⟨v, h1, h2⟩ := h ok L w ρ hs hr; ⟨v, w, ok, L, .inl h1, .refl _ _ _ _, hs, h2⟩
theorem op_move {x : Operand} {a : AVal} (hx : E x = some a) : OpTo P ⟨d, .move x, ty, pos, after, guard⟩ E σ a σ :=
  op_value fun ok L w ρ hs hr => ⟨ρ x, rfl, hr x (by simp [Op.operands]) a hx⟩
theorem op_assign {x : Operand} {a : AVal} (hx : E x = some a) : OpTo P ⟨d, .assign x, ty, pos, after, guard⟩ E σ a σ :=
  op_value fun ok L w ρ hs hr => ⟨ρ x, rfl, hr x (by simp [Op.operands]) a hx⟩
theorem op_pick {c x y : Operand} {a : AVal} {b : Bool} (hc : E c = some (.v (.bool b))) (ha : (bif b then E x else E y) = some a) : OpTo P ⟨d, .pick c x y, ty, pos, after, guard⟩ E σ a σ :=
  op_value fun ok L w ρ hs hr => by
    have e := rep_bool (hr c (by simp [Op.operands]) _ hc)
    refine ⟨bif b then ρ x else ρ y, ?_, ?_⟩
    · simp [execOp, e, asBool]
    · cases b
      · exact hr y (by simp [Op.operands]) a ha
      · exact hr x (by simp [Op.operands]) a ha
theorem op_pickb {c x y : Operand} {b p q : Bool} (hc : E c = some (.v (.bool b))) (hx : E x = some (.v (.bool p))) (hy : E y = some (.v (.bool q))) : OpTo P ⟨d, .pick c x y, ty, pos, after, guard⟩ E σ (.v (.bool (bif b then p else q))) σ :=
  op_value fun ok L w ρ hs hr => by
    have e := rep_bool (hr c (by simp [Op.operands]) _ hc)
    have e1 := rep_bool (hr x (by simp [Op.operands]) _ hx)
    have e2 := rep_bool (hr y (by simp [Op.operands]) _ hy)
    refine ⟨bif b then ρ x else ρ y, by simp [execOp, e, asBool], ?_⟩
    rw [e1, e2]
    cases b <;> exact RepC.v _
theorem op_and {c y : Operand} {b p : Bool} (hc : E c = some (.v (.bool b))) (hx : E y = some (.v (.bool p))) (h0 : E (.const (.bool false)) = some (.v (.bool false))) : OpTo P ⟨d, .pick c y (.const (.bool false)), ty, pos, after, guard⟩ E σ (.v (.bool (b && p))) σ := by
  have := op_pickb (P := P) (σ := σ) (d := d) (ty := ty) (pos := pos) (after := after) (guard := guard) hc hx h0
  cases b <;> exact this
theorem op_two {o : Oper} {x y : Operand} {a b r : Value} (hm : x ∈ o.op.operands) (hm' : y ∈ o.op.operands) (hx : E x = some (.v a)) (hy : E y = some (.v b))
    (h : ∀ (ρ : Operand → Value) (w : World), ρ x = a → ρ y = b → (execOp ρ o).run P w = .ok (.value r) w) : OpTo P o E σ (.v r) σ :=
  op_value fun ok L w ρ hs hr => ⟨r, h ρ w (rep_bool (hr x hm _ hx)) (rep_bool (hr y hm' _ hy)), RepC.v _⟩
theorem op_one {o : Oper} {x : Operand} {a r : Value} (hm : x ∈ o.op.operands) (hx : E x = some (.v a))
    (h : ∀ (ρ : Operand → Value) (w : World), ρ x = a → (execOp ρ o).run P w = .ok (.value r) w) : OpTo P o E σ (.v r) σ :=
  op_value fun ok L w ρ hs hr => ⟨r, h ρ w (rep_bool (hr x hm _ hx)), RepC.v _⟩
section ints
variable {x y : Operand} {t u : TypeId} {k : IntKind} {a b c : Int}
theorem op_add (hx : E x = some (.v (.int k a))) (hy : E y = some (.v (.int k b))) (hw : k.wrap (a + b) = c) : OpTo P ⟨d, .binOp .add t x y u, ty, pos, after, guard⟩ E σ (.v (.int k c)) σ :=
  op_two (by simp [Op.operands]) (by simp [Op.operands]) hx hy fun ρ w h1 h2 => by simp [execOp, eqGuard, binOp, Op.intArith, h1, h2, hw]
theorem op_sub (hx : E x = some (.v (.int k a))) (hy : E y = some (.v (.int k b))) (hw : k.wrap (a - b) = c) : OpTo P ⟨d, .binOp .sub t x y u, ty, pos, after, guard⟩ E σ (.v (.int k c)) σ :=
  op_two (by simp [Op.operands]) (by simp [Op.operands]) hx hy fun ρ w h1 h2 => by simp [execOp, eqGuard, binOp, Op.intArith, h1, h2, hw]
theorem op_mul (hx : E x = some (.v (.int k a))) (hy : E y = some (.v (.int k b))) (hw : k.wrap (a * b) = c) : OpTo P ⟨d, .binOp .mul t x y u, ty, pos, after, guard⟩ E σ (.v (.int k c)) σ :=
  op_two (by simp [Op.operands]) (by simp [Op.operands]) hx hy fun ρ w h1 h2 => by simp [execOp, eqGuard, binOp, Op.intArith, h1, h2, hw]
theorem op_quo (hx : E x = some (.v (.int k a))) (hy : E y = some (.v (.int k b))) (h0 : b ≠ 0) (hw : k.wrap (a.tdiv b) = c) : OpTo P ⟨d, .binOp .quo t x y u, ty, pos, after, guard⟩ E σ (.v (.int k c)) σ :=
  op_two (by simp [Op.operands]) (by simp [Op.operands]) hx hy fun ρ w h1 h2 => by simp [execOp, eqGuard, binOp, Op.intDiv, h1, h2, h0, hw]
theorem op_rem (hx : E x = some (.v (.int k a))) (hy : E y = some (.v (.int k b))) (h0 : b ≠ 0) (hw : a.tmod b = c) : OpTo P ⟨d, .binOp .rem t x y u, ty, pos, after, guard⟩ E σ (.v (.int k c)) σ :=
  op_two (by simp [Op.operands]) (by simp [Op.operands]) hx hy fun ρ w h1 h2 => by simp [execOp, eqGuard, binOp, Op.intDiv, h1, h2, h0, hw]
theorem op_lss (hx : E x = some (.v (.int k a))) (hy : E y = some (.v (.int k b))) : OpTo P ⟨d, .binOp .lss t x y u, ty, pos, after, guard⟩ E σ (.v (.bool (decide (a < b)))) σ :=
  op_two (by simp [Op.operands]) (by simp [Op.operands]) hx hy fun ρ w h1 h2 => by simp [execOp, eqGuard, binOp, Op.intCmp, h1, h2]
theorem op_leq (hx : E x = some (.v (.int k a))) (hy : E y = some (.v (.int k b))) : OpTo P ⟨d, .binOp .leq t x y u, ty, pos, after, guard⟩ E σ (.v (.bool (decide (a ≤ b)))) σ :=
  op_two (by simp [Op.operands]) (by simp [Op.operands]) hx hy fun ρ w h1 h2 => by simp [execOp, eqGuard, binOp, Op.intCmp, h1, h2]
theorem op_gtr (hx : E x = some (.v (.int k a))) (hy : E y = some (.v (.int k b))) : OpTo P ⟨d, .binOp .gtr t x y u, ty, pos, after, guard⟩ E σ (.v (.bool (decide (a > b)))) σ :=
  op_two (by simp [Op.operands]) (by simp [Op.operands]) hx hy fun ρ w h1 h2 => by simp [execOp, eqGuard, binOp, Op.intCmp, h1, h2]
theorem op_geq (hx : E x = some (.v (.int k a))) (hy : E y = some (.v (.int k b))) : OpTo P ⟨d, .binOp .geq t x y u, ty, pos, after, guard⟩ E σ (.v (.bool (decide (a ≥ b)))) σ :=
  op_two (by simp [Op.operands]) (by simp [Op.operands]) hx hy fun ρ w h1 h2 => by simp [execOp, eqGuard, binOp, Op.intCmp, h1, h2]
theorem op_eql (hx : E x = some (.v (.int k a))) (hy : E y = some (.v (.int k b))) : OpTo P ⟨d, .binOp .eql t x y u, ty, pos, after, guard⟩ E σ (.v (.bool (a == b))) σ :=
  op_two (by simp [Op.operands]) (by simp [Op.operands]) hx hy fun ρ w h1 h2 => by simp [execOp, eqGuard, binOp, Op.intCmp, h1, h2]
theorem op_neq (hx : E x = some (.v (.int k a))) (hy : E y = some (.v (.int k b))) : OpTo P ⟨d, .binOp .neq t x y u, ty, pos, after, guard⟩ E σ (.v (.bool (a != b))) σ :=
  op_two (by simp [Op.operands]) (by simp [Op.operands]) hx hy fun ρ w h1 h2 => by simp [execOp, eqGuard, binOp, Op.intCmp, h1, h2]
theorem op_conv {k' : IntKind} {s : TypeId} {td : TypeDesc} (hsrc : P.underlying s = some td) (hdst : P.underlying t = some (.int k')) (hx : E x = some (.v (.int k a))) (hw : k'.wrap a = c) : OpTo P ⟨d, .convert s t x, ty, pos, after, guard⟩ E σ (.v (.int k' c)) σ :=
  op_one (by simp [Op.operands]) hx fun ρ w h1 => by
    rw [← hw]
    simp only [execOp, h1, convert, Sem.run_bind, run_underlying hsrc, run_underlying hdst, Result.andThen_ok]
    cases td <;> simp [Conv.intToInt]
end ints
theorem op_not {x : Operand} {t : TypeId} {b : Bool} (hx : E x = some (.v (.bool b))) : OpTo P ⟨d, .unOp .not t x, ty, pos, after, guard⟩ E σ (.v (.bool (!b))) σ :=
  op_one (by simp [Op.operands]) hx fun ρ w h1 => by simp [execOp, Op.unary, h1]
section strings
variable {x y : Operand} {t u : TypeId} {a b : ByteArray}
theorem op_seql (hx : E x = some (.v (.string a))) (hy : E y = some (.v (.string b))) : OpTo P ⟨d, .binOp .eql t x y u, ty, pos, after, guard⟩ E σ (.v (.bool (a.toList == b.toList))) σ :=
  op_two (by simp [Op.operands]) (by simp [Op.operands]) hx hy fun ρ w h1 h2 => by simp [execOp, eqGuard, binOp, Op.stringOp, h1, h2]
theorem op_sneq (hx : E x = some (.v (.string a))) (hy : E y = some (.v (.string b))) : OpTo P ⟨d, .binOp .neq t x y u, ty, pos, after, guard⟩ E σ (.v (.bool (!(a.toList == b.toList)))) σ :=
  op_two (by simp [Op.operands]) (by simp [Op.operands]) hx hy fun ρ w h1 h2 => by simp [execOp, eqGuard, binOp, Op.stringOp, h1, h2]
theorem op_sadd (hx : E x = some (.v (.string a))) (hy : E y = some (.v (.string b))) (hl : a.size + b.size ≤ 9223372036854775807) : OpTo P ⟨d, .binOp .add t x y u, ty, pos, after, guard⟩ E σ (.v (.string (a ++ b))) σ :=
  op_two (by simp [Op.operands]) (by simp [Op.operands]) hx hy fun ρ w h1 h2 => by
    have : ¬ ((a.size : Int) + (b.size : Int) > IntKind.i64.max) := by simp [IntKind.max, IntKind.bits, IntKind.signed]; omega
    simp only [execOp, eqGuard, binOp, Op.stringOp, h1, h2]
    simp [this]
    omega
theorem op_slen {ts : Array TypeId} (ht : P.underlying t = some .string) (hx : E x = some (.v (.string a))) : OpTo P ⟨d, .call { callee := .builtin .len, args := #[x], argTypes := #[t] }, ty, pos, after, guard⟩ E σ (.v (.int .i64 a.size)) σ :=
  op_one (by simp [Op.operands, Call.operands]) hx fun ρ w h1 => by
    simp [execOp, resolve, invoke, builtin, Builtin.len_, run_underlying ht, h1, goInt]
theorem op_sindex {i : Int} {k : IntKind} (ht : P.underlying t = some .string) (hx : E x = some (.v (.string a))) (hy : E y = some (.v (.int k i))) (h0 : 0 ≤ i) (h1 : i.toNat < a.size) : OpTo P ⟨d, .index t x y, ty, pos, after, guard⟩ E σ (.v (.int .u8 (a[i.toNat]'h1).toNat)) σ :=
  op_two (by simp [Op.operands]) (by simp [Op.operands]) hx hy fun ρ w e1 e2 => by
    have : a[i.toNat]? = some (a[i.toNat]'h1) := getElem?_pos a i.toNat h1
    simp [execOp, Instr.index, asIntOf, run_underlying ht, e1, e2, h0, this]
end strings
theorem wrap_i64 {x : Int} (h0 : -9223372036854775808 ≤ x) (h1 : x ≤ 9223372036854775807) : IntKind.i64.wrap x = x := by
  simp only [IntKind.wrap, IntKind.bits, IntKind.signed, Bool.true_and]
  split <;> rename_i h <;> simp at h <;> omega
theorem wrap_u8 {x : Int} (h0 : 0 ≤ x) (h1 : x ≤ 255) : IntKind.u8.wrap x = x := by
  simp only [IntKind.wrap, IntKind.bits, IntKind.signed, Bool.false_and]
  split <;> rename_i h <;> simp at h ⊢ <;> omega
end
end Go.Proofs.YtcgdlhkiecommaaGreatDoor
/- The engine, part 4: memory: objects made, read, written. -/

namespace Go.Proofs.YtcgdlhkiecommaaGreatDoor
open Go
def Loc.upd (L : Loc) (id b c s v : Nat) : Loc where
  blk := fun k => if k = id then b else L.blk k
  cap := fun k => if k = id then c else L.cap k
  sz := fun k => if k = id then s else L.sz k
  ver := fun k => if k = id then v else L.ver k
section
variable {ok : Nat → Prop} {L : Loc} {σ : Store} {w w' : World}
theorem ObjRep.evo {ok' : Nat → Prop} {L' : Loc} {σ' : Store} {id ver : Nat} {o : AObj} (h : ObjRep ok L w id ver o) (hs : Sim ok L σ w) (he : Evo ok L σ w ok' L' σ' w')
    (hv : L'.ver id = L.ver id) (hb : L.cap id ≠ 0 → w'.heap[L.blk id]? = w.heap[L.blk id]?) : ObjRep ok' L' w' id ver o := by
  obtain ⟨b1, b2, b3⟩ := he.stay id hv
  cases o with
  | row sz els =>
    obtain ⟨h1, h2, h3, h4, h5⟩ := h
    refine ⟨hv.trans h1, b3.trans h2, h3, by rw [b2]; exact h4, fun hc => ?_⟩
    rw [b2] at hc
    obtain ⟨conc, e, g1, g2, g3⟩ := h5 hc
    refine ⟨conc, e, by rw [b1, hb hc]; exact g1, by rw [b2]; exact g2, fun i el j av hi hj => ?_⟩
    obtain ⟨v, k1, k2, k3⟩ := g3 i el j av hi hj
    exact ⟨v, k1, k2.evo hs he, k3⟩
  | map ents =>
    obtain ⟨h1, h2, es, clock, h3, h4, h5⟩ := h
    refine ⟨hv.trans h1, by rw [b2]; exact h2, es, clock, by rw [b1, hb h2]; exact h3, All2.mono ?_ _ _ h4, h5⟩
    rintro a m ⟨k1, k2⟩
    exact ⟨k1, k2.evo hs he⟩
  | iter keys seen =>
    obtain ⟨h1, h2, mb, es, clock, stamps, h3, h4, h5, h6⟩ := h
    obtain ⟨k1, k2⟩ := hs.okd mb h3
    exact ⟨hv.trans h1, by rw [b2]; exact h2, mb, es, clock, stamps, he.okm _ h3, (he.same mb k1 k2).trans h4, by rw [b1, hb h2]; exact h5, h6⟩
theorem sim_upd (hs : Sim ok L σ w) (id b c s ver' : Nat) (obj : AObj) (hver : L.ver id < ver') (hos : w'.os = w.os) (htape : w'.tape = w.tape) (hout : w'.output = w.output) (hsize : w.heap.size ≤ w'.heap.size)
    (hsame : ∀ k, k < w.heap.size → k ≠ b → w'.heap[k]? = w.heap[k]?) (hb : w.heap.size ≤ b ∨ (L.blk id = b ∧ L.cap id ≠ 0 ∧ ∃ ver o, σ.get id = some (ver, o))) (hlt : c ≠ 0 → b < w'.heap.size)
    (hobj : Evo ok L σ w ok (L.upd id b c s ver') (σ.put id ver' obj) w' → ObjRep ok (L.upd id b c s ver') w' id ver' obj) :
    Evo ok L σ w ok (L.upd id b c s ver') (σ.put id ver' obj) w' ∧ Sim ok (L.upd id b c s ver') (σ.put id ver' obj) w' := by
  have hfoot : ∀ k, Foot (L.upd id b c s ver') (σ.put id ver' obj) k → k = b ∨ ∃ i v o, i ≠ id ∧ σ.get i = some (v, o) ∧ L.cap i ≠ 0 ∧ L.blk i = k := by
    rintro k ⟨i, v, o, h1, h2, h3⟩
    rw [Store.get_put] at h1
    by_cases e : id = i
    · subst e
      simp only [Loc.upd, if_pos] at h3
      exact .inl h3.symm
    · rw [if_neg e] at h1
      simp only [Loc.upd, if_neg (Ne.symm e)] at h2 h3
      exact .inr ⟨i, v, o, Ne.symm e, h1, h2, h3⟩
  have he : Evo ok L σ w ok (L.upd id b c s ver') (σ.put id ver' obj) w' := by
    refine ⟨hos, htape, hout, hsize, fun k hk hf => hsame k hk ?_, fun k hk hf => ?_, fun _ h => h, fun k h _ => .inl h, fun i => ?_, fun i hi => ?_⟩
    · rintro rfl
      rcases hb with hb | ⟨h1, h2, v, o, h3⟩
      · omega
      · exact hf ⟨id, v, o, h3, h2, h1⟩
    · rcases hfoot k hf with rfl | ⟨i, v, o, _, h1, h2, h3⟩
      · rcases hb with hb | ⟨h1, h2, v, o, h3⟩
        · omega
        · exact ⟨id, v, o, h3, h2, h1⟩
      · exact ⟨i, v, o, h1, h2, h3⟩
    · by_cases e : i = id
      · subst e; simp only [Loc.upd, if_pos]; omega
      · simp only [Loc.upd, if_neg e]; omega
    · by_cases e : i = id
      · subst e; simp only [Loc.upd, if_pos] at hi; omega
      · simp only [Loc.upd, if_neg e]; exact ⟨trivial, trivial, trivial⟩
  refine ⟨he, ?_⟩
  have hbne : ∀ i v o, i ≠ id → σ.get i = some (v, o) → L.cap i ≠ 0 → L.blk i ≠ b := by
    rintro i v o hi h1 h2 rfl
    rcases hb with hb | ⟨g1, g2, v', o', g3⟩
    · have := hs.lt _ ⟨i, v, o, h1, h2, rfl⟩; omega
    · exact hi (hs.inj i id v v' o o' h1 g3 h2 g2 g1.symm)
  constructor
  · intro i v o h
    rw [Store.get_put] at h
    by_cases e : id = i
    · subst e
      rw [if_pos rfl] at h
      simp only [Option.some.injEq, Prod.mk.injEq] at h
      obtain ⟨rfl, rfl⟩ := h
      exact hobj he
    · rw [if_neg e] at h
      refine (hs.objs i v o h).evo hs he (by simp only [Loc.upd, if_neg (Ne.symm e)]) (fun hc => hsame _ (hs.lt _ ⟨i, v, o, h, hc, rfl⟩) (hbne i v o (Ne.symm e) h hc))
  · intro k hf
    rcases hf with ⟨i, v, o, h1, h2, h3⟩
    rw [Store.get_put] at h1
    by_cases e : id = i
    · subst e
      simp only [Loc.upd, if_pos] at h2 h3
      rw [← h3]; exact hlt h2
    · rw [if_neg e] at h1
      simp only [Loc.upd, if_neg (Ne.symm e)] at h2 h3
      exact Nat.lt_of_lt_of_le (hs.lt k ⟨i, v, o, h1, h2, h3⟩) hsize
  · intro i j vi vj oi oj hi hj ci cj hbl
    rw [Store.get_put] at hi hj
    by_cases ei : id = i
    · by_cases ej : id = j
      · omega
      · rw [if_neg ej] at hj
        simp only [Loc.upd, if_neg (Ne.symm ej)] at cj hbl
        rw [if_pos ei.symm] at hbl
        exact absurd hbl.symm (hbne j vj oj (Ne.symm ej) hj cj)
    · rw [if_neg ei] at hi
      simp only [Loc.upd, if_neg (Ne.symm ei)] at ci hbl
      by_cases ej : id = j
      · rw [if_pos ej.symm] at hbl
        exact absurd hbl (hbne i vi oi (Ne.symm ei) hi ci)
      · rw [if_neg ej] at hj
        simp only [Loc.upd, if_neg (Ne.symm ej)] at cj
        rw [if_neg (Ne.symm ej)] at hbl
        exact hs.inj i j vi vj oi oj hi hj ci cj hbl
  · intro k hk
    obtain ⟨h1, h2⟩ := hs.okd k hk
    refine ⟨Nat.lt_of_lt_of_le h1 hsize, fun hf => h2 ?_⟩
    exact he.foot k h1 hf
  · exact hs.globEvo he
theorem sim_set (hs : Sim ok L σ w) (id ver : Nat) (o0 obj : AObj) (hid : σ.get id = some (ver, o0)) (hcap : L.cap id ≠ 0) (hos : w'.os = w.os) (htape : w'.tape = w.tape) (hout : w'.output = w.output) (hsize : w'.heap.size = w.heap.size)
    (hsame : ∀ k, k ≠ L.blk id → w'.heap[k]? = w.heap[k]?)
    (hobj : Evo ok L σ w ok L (σ.put id ver obj) w' → ObjRep ok L w' id ver obj) :
    Evo ok L σ w ok L (σ.put id ver obj) w' ∧ Sim ok L (σ.put id ver obj) w' := by
  have hfoot : ∀ k, Foot L (σ.put id ver obj) k → Foot L σ k := by
    rintro k ⟨i, v, o, h1, h2, h3⟩
    rw [Store.get_put] at h1
    by_cases e : id = i
    · subst e; exact ⟨id, ver, o0, hid, h2, h3⟩
    · rw [if_neg e] at h1; exact ⟨i, v, o, h1, h2, h3⟩
  have he : Evo ok L σ w ok L (σ.put id ver obj) w' := by
    refine ⟨hos, htape, hout, by omega, fun k hk hf => hsame k ?_, fun k _ hf => hfoot k hf, fun _ h => h, fun k h _ => .inl h, fun i => Nat.le_refl _, fun i _ => ⟨rfl, rfl, rfl⟩⟩
    rintro rfl
    exact hf ⟨id, ver, o0, hid, hcap, rfl⟩
  refine ⟨he, ?_⟩
  constructor
  · intro i v o h
    rw [Store.get_put] at h
    by_cases e : id = i
    · subst e
      rw [if_pos rfl] at h
      simp only [Option.some.injEq, Prod.mk.injEq] at h
      obtain ⟨rfl, rfl⟩ := h
      exact hobj he
    · rw [if_neg e] at h
      exact (hs.objs i v o h).evo hs he rfl (fun hc => hsame _ (fun hbl => e (hs.inj id i ver v o0 o hid h hcap hc hbl.symm)))
  · intro k hf
    rw [hsize]; exact hs.lt k (hfoot k hf)
  · intro i j vi vj oi oj hi hj ci cj hbl
    rw [Store.get_put] at hi hj
    have gi : ∃ v o, σ.get i = some (v, o) := by
      by_cases e : id = i
      · subst e; exact ⟨_, _, hid⟩
      · rw [if_neg e] at hi; exact ⟨_, _, hi⟩
    have gj : ∃ v o, σ.get j = some (v, o) := by
      by_cases e : id = j
      · subst e; exact ⟨_, _, hid⟩
      · rw [if_neg e] at hj; exact ⟨_, _, hj⟩
    obtain ⟨v1, o1, g1⟩ := gi
    obtain ⟨v2, o2, g2⟩ := gj
    exact hs.inj i j v1 v2 o1 o2 g1 g2 ci cj hbl
  · intro k hk
    obtain ⟨h1, h2⟩ := hs.okd k hk
    exact ⟨by rw [hsize]; exact h1, fun hf => h2 (hfoot k hf)⟩
  · exact hs.globEvo he
theorem sim_alloc (hs : Sim ok L σ w) (o : Obj) : Evo ok L σ w ok L σ (w.alloc o) ∧ Sim ok L σ (w.alloc o) := by
  have hb : ∀ k, k < w.heap.size → (w.alloc o).heap[k]? = w.heap[k]? := fun k hk => Go.RowKit.Below.heap_alloc w o k hk
  have he : Evo ok L σ w ok L σ (w.alloc o) :=
    ⟨rfl, rfl, rfl, by simp, fun k hk _ => hb k hk, fun _ _ h => h, fun _ h => h, fun _ h _ => .inl h, fun _ => Nat.le_refl _, fun _ _ => ⟨rfl, rfl, rfl⟩⟩
  refine ⟨he, ⟨fun i v o h => (hs.objs i v o h).evo hs he rfl (fun hc => hb _ (hs.lt _ ⟨i, v, o, h, hc, rfl⟩)), fun k hf => ?_, hs.inj, fun k hk => ?_, hs.globEvo he⟩⟩
  · have := hs.lt k hf; simp; omega
  · have := hs.okd k hk; exact ⟨by simp; omega, this.2⟩
theorem sim_allocI (hs : Sim ok L σ w) (o : Obj) : Evo ok L σ w (fun b => ok b ∨ b = w.heap.size) L σ (w.alloc o) ∧ Sim (fun b => ok b ∨ b = w.heap.size) L σ (w.alloc o) := by
  have hb : ∀ k, k < w.heap.size → (w.alloc o).heap[k]? = w.heap[k]? := fun k hk => Go.RowKit.Below.heap_alloc w o k hk
  have he : Evo ok L σ w (fun b => ok b ∨ b = w.heap.size) L σ (w.alloc o) :=
    ⟨rfl, rfl, rfl, by simp, fun k hk _ => hb k hk, fun _ _ h => h, fun _ h => .inl h, fun k h hk => h.elim .inl (fun e => by omega), fun _ => Nat.le_refl _, fun _ _ => ⟨rfl, rfl, rfl⟩⟩
  refine ⟨he, ⟨fun i v o h => (hs.objs i v o h).evo hs he rfl (fun hc => hb _ (hs.lt _ ⟨i, v, o, h, hc, rfl⟩)), fun k hf => ?_, hs.inj, fun k hk => ?_, hs.globEvo he⟩⟩
  · have := hs.lt k hf; simp; omega
  · rcases hk with hk | rfl
    · have := hs.okd k hk; exact ⟨by simp; omega, this.2⟩
    · exact ⟨by simp, fun hf => by have := hs.lt _ hf; omega⟩
end
def OpR (P : Program) (o : Oper) (E : Operand → Option AVal) (σ : Store) (R : AVal → Store → Prop) : Prop :=
  ∀ ok L w (ρ : Operand → Value), Sim ok L σ w → (∀ x ∈ o.op.operands, ∀ b, E x = some b → Rep ok L w b (ρ x)) →
    ∃ a σ' v w' ok' L', R a σ' ∧ ((execOp ρ o).run P w = .ok (.value v) w' ∨ ((execOp ρ o).run P w = .ok .skip w' ∧ v = undef)) ∧ Evo ok L σ w ok' L' σ' w' ∧ Sim ok' L' σ' w' ∧ Rep ok' L' w' a v
section
variable {P : Program} {n : Nat} {Q : APost} {env : Env} {σ σ' : Store} {ops : Array Oper} {rest : List Oper}
theorem al_opR {o : Oper} {R : AVal → Store → Prop} (hop : OpR P o (aval env) σ R) (hg : o.guard = none) (hd : ∀ d, o.dst = some d → d < n)
    (k : ∀ a σ', R a σ' → AL P n ops rest Q (env.putd o.dst a) σ') : AL P n ops (o :: rest) Q env σ := by
  intro ok L w act h1 h2 h3 h4
  refine wpList_plain hg fun K hK => ?_
  obtain ⟨a, σ', v, w', ok', L', hR, hr, he, hs, hv⟩ := hop ok L w act.eval h1 (fun x _ b hx => h2.aval hx)
  have go : K (act.put o.dst v) w' := by
    refine hK _ _ (wpList_after (fun _ _ _ h => Post.after he h) _ _ _ (k a σ' hR ok' L' w' (act.put o.dst v) hs ?_ ?_ ?_))
    · exact (h2.evo h1 he).put hv (fun d hd' => h4 ▸ hd d hd')
    · rw [put_defers]; exact h3
    · rw [put_size]; exact h4
  unfold Oper.wp
  rcases hr with hr | ⟨hr, rfl⟩
  · rw [hr]; exact go
  · rw [hr]; exact go
variable {E : Operand → Option AVal} {d : Option Tmp} {ty : TypeId} {pos : String} {after : Array Edge} {guard : Option (Nat × Bool)}
def TypeDesc.isAggB : TypeDesc → Bool
  | .struct _ | .array _ _ => true
  | _ => false
theorem run_isAgg' {t : TypeId} {td : TypeDesc} {w : World} (ht : P.underlying t = some td) : (isAgg t).run P w = .ok (TypeDesc.isAggB td) w := by
  cases td <;> simp [isAgg, run_underlying ht, TypeDesc.isAggB]
theorem addr_add0 (b o n : Nat) : (⟨b, o, none⟩ : Addr).add n = ⟨b, o + n, none⟩ := by
  unfold Addr.add; split <;> simp_all
theorem RepC.list_form {ok : Nat → Prop} {w : World} {sz : Nat} {els : List (List AVal)} {v : Value} (h : RepC ok w (.list sz els) v) :
    ∃ a c, v = .slice a els.length c ∧ els.length ≤ c ∧ (els = [] ∨ ∃ b o, ∃ vs : Nat → Nat → Value, a = some ⟨b, o, none⟩ ∧ ok b ∧ (∀ e ∈ els, e.length = sz) ∧
      (∀ i e j av, els[i]? = some e → e[j]? = some av → w.cell? ⟨b, o + i * sz + j, none⟩ = some (vs i j)) ∧ (∀ i e j av, els[i]? = some e → e[j]? = some av → RepC ok w av (vs i j)) ∧ (∀ i e j av, els[i]? = some e → e[j]? = some av → (vs i j).oneCell' = true)) := by
  match h with
  | .empty _ a c => exact ⟨a, c, rfl, by simp, .inl rfl⟩
  | .list _ _ b o c vs hok hc hs hcell h1 hrep => exact ⟨_, c, rfl, hc, .inr ⟨b, o, vs, rfl, hok, hs, hcell, hrep, h1⟩⟩
theorem RepC.nil_form {ok : Nat → Prop} {w : World} {v : Value} (h : RepC ok w .nil v) : ∃ a, v = .slice a 0 0 := by
  cases h; exact ⟨_, rfl⟩
theorem RepC.rptr_form {ok : Nat → Prop} {w : World} {cells : List AVal} {v : Value} (h : RepC ok w (.rptr cells) v) :
    ∃ b o, ∃ vs : Nat → Value, v = .pointer (some ⟨b, o, none⟩) ∧ ok b ∧ (∀ j av, cells[j]? = some av → w.cell? ⟨b, o + j, none⟩ = some (vs j)) ∧ (∀ j av, cells[j]? = some av → RepC ok w av (vs j)) := by
  match h with
  | .rptr _ b o vs hok hcell hrep => exact ⟨b, o, vs, rfl, hok, hcell, hrep⟩
theorem Sim.ver {ok : Nat → Prop} {L : Loc} {w : World} (hs : Sim ok L σ w) {id ver : Nat} {ob : AObj} (hid : σ.get id = some (ver, ob)) : L.ver id = ver := by
  have := hs.objs id ver ob hid
  cases ob <;> exact this.1
theorem op_len_list {x : Operand} {t e sz : Nat} {els : List (List AVal)} (ht : P.underlying t = some (.slice e)) (hx : E x = some (.list sz els)) : OpTo P ⟨d, .call { callee := .builtin .len, args := #[x], argTypes := #[t] }, ty, pos, after, guard⟩ E σ (.v (.int .i64 els.length)) σ :=
  op_value fun ok L w ρ hs hr => by
    obtain ⟨a, c, h1, _⟩ := RepC.list_form (hr x (by simp [Op.operands, Call.operands]) _ hx)
    refine ⟨_, ?_, RepC.v _⟩
    simp [execOp, resolve, invoke, builtin, Builtin.len_, run_underlying ht, goInt, h1]
theorem op_len_slice {x : Operand} {t e id ver off m : Nat} {ob : AObj} (ht : P.underlying t = some (.slice e)) (hx : E x = some (.slice id ver off m)) (hid : σ.get id = some (ver, ob)) : OpTo P ⟨d, .call { callee := .builtin .len, args := #[x], argTypes := #[t] }, ty, pos, after, guard⟩ E σ (.v (.int .i64 m)) σ :=
  op_value fun ok L w ρ hs hr => by
    have h := hr x (by simp [Op.operands, Call.operands]) _ hx
    refine ⟨_, ?_, RepC.v _⟩
    obtain ⟨a, c, h1, _⟩ := h.2 (hs.ver hid)
    simp [execOp, resolve, invoke, builtin, Builtin.len_, run_underlying ht, goInt, h1]
theorem op_index_list {x ix : Operand} {t e sz : Nat} {els : List (List AVal)} {i : Int} {k : IntKind} {inf : TypeInfo} {el : List AVal} (ht : P.underlying t = some (.slice e)) (hi : P.info? e = some inf) (hsz : inf.size = sz)
    (hx : E x = some (.list sz els)) (hix : E ix = some (.v (.int k i))) (h0 : 0 ≤ i) (hel : els[i.toNat]? = some el) : OpTo P ⟨d, .indexAddr t x ix, ty, pos, after, guard⟩ E σ (.rptr el) σ :=
  op_value fun ok L w ρ hs hr => by
    obtain ⟨a, c, h1, h2, h3⟩ := RepC.list_form (hr x (by simp [Op.operands]) _ hx)
    have h4 := rep_bool (hr ix (by simp [Op.operands]) _ hix)
    have hlt : i.toNat < els.length := by
      rcases Nat.lt_or_ge i.toNat els.length with h | h
      · exact h
      · simp [List.getElem?_eq_none h] at hel
    rcases h3 with rfl | ⟨b, o, vs, rfl, hok, hs1, hcell, hrep, _⟩
    · simp at hlt
    · refine ⟨.pointer (some ⟨b, o + i.toNat * sz, none⟩), ?_, RepC.rptr el b _ (vs i.toNat) hok (fun j av hj => hcell _ _ _ _ hel hj) (fun j av hj => hrep _ _ _ _ hel hj)⟩
      have hl : i < (els.length : Int) := by omega
      simp [execOp, Instr.indexAt, asIntOf, run_underlying ht, h1, h4, h0, hl, sizeOf, typeInfo, hi, hsz, addr_add0]
theorem op_index_slice {x ix : Operand} {t e sz id ver off m : Nat} {els : List (List AVal)} {i : Int} {k : IntKind} {inf : TypeInfo} (ht : P.underlying t = some (.slice e)) (hi : P.info? e = some inf) (hsz : inf.size = sz)
    (hx : E x = some (.slice id ver off m)) (hid : σ.get id = some (ver, .row sz els)) (hix : E ix = some (.v (.int k i))) (h0 : 0 ≤ i) (hlt : i < m) : OpTo P ⟨d, .indexAddr t x ix, ty, pos, after, guard⟩ E σ (.ptr id ver (off + i.toNat) 0) σ :=
  op_value fun ok L w ρ hs hr => by
    have h := hr x (by simp [Op.operands]) _ hx
    obtain ⟨a, c, h1, h2, h3, h3'⟩ := h.2 (hs.ver hid)
    have h4 := rep_bool (hr ix (by simp [Op.operands]) _ hix)
    have h5 := h3' (.inl (by omega))
    have h6 : L.sz id = sz := (hs.objs id ver _ hid).2.1
    subst h5
    refine ⟨.pointer (some ⟨L.blk id, (off + i.toNat) * L.sz id + 0, none⟩), ?_, h.1, fun _ => rfl⟩
    simp [execOp, Instr.indexAt, asIntOf, run_underlying ht, h1, h4, h0, hlt, sizeOf, typeInfo, hi, hsz, addr_add0, h6, Nat.add_mul]
theorem op_field_ptr {x : Operand} {s f id ver i j off : Nat} {fs : Array Field} {fl : Field} {inf : TypeInfo} {ob : AObj} (hs' : P.underlying s = some (.struct fs)) (hf : fs[f]? = some fl) (hi : P.info? fl.type = some inf) (h0 : inf.size ≠ 0) (hoff : fl.offset = off)
    (hx : E x = some (.ptr id ver i j)) (hid : σ.get id = some (ver, ob)) : OpTo P ⟨d, .fieldAddr s x f, ty, pos, after, guard⟩ E σ (.ptr id ver i (j + off)) σ :=
  op_value fun ok L w ρ hs hr => by
    have h := hr x (by simp [Op.operands]) _ hx
    have h1 := h.2 (hs.ver hid)
    refine ⟨.pointer (some ⟨L.blk id, i * L.sz id + (j + off), none⟩), ?_, h.1, fun _ => rfl⟩
    simp [execOp, Instr.fieldAt, Instr.sureAddr, run_underlying hs', hf, h1, fieldPlace, sizeOf, typeInfo, hi, h0, addr_add0, hoff, Nat.add_assoc]
theorem op_field_rptr {x : Operand} {s f off : Nat} {fs : Array Field} {fl : Field} {inf : TypeInfo} {cells : List AVal} (hs' : P.underlying s = some (.struct fs)) (hf : fs[f]? = some fl) (hi : P.info? fl.type = some inf) (h0 : inf.size ≠ 0) (hoff : fl.offset = off)
    (hx : E x = some (.rptr cells)) : OpTo P ⟨d, .fieldAddr s x f, ty, pos, after, guard⟩ E σ (.rptr (cells.drop off)) σ :=
  op_value fun ok L w ρ hs hr => by
    obtain ⟨b, o, vs, h1, hok, hcell, hrep⟩ := RepC.rptr_form (hr x (by simp [Op.operands]) _ hx)
    refine ⟨.pointer (some ⟨b, o + off, none⟩), ?_, RepC.rptr _ b _ (fun j => vs (off + j)) hok (fun j av hj => ?_) (fun j av hj => ?_)⟩
    · simp [execOp, Instr.fieldAt, Instr.sureAddr, run_underlying hs', hf, h1, fieldPlace, sizeOf, typeInfo, hi, h0, addr_add0, hoff]
    · rw [List.getElem?_drop] at hj
      rw [Nat.add_assoc]; exact hcell _ _ hj
    · rw [List.getElem?_drop] at hj
      exact hrep _ _ hj
theorem op_nilCheck_ptr {x : Operand} {id ver i j : Nat} {ob : AObj} (hx : E x = some (.ptr id ver i j)) (hid : σ.get id = some (ver, ob)) : OpTo P ⟨d, .nilCheck x, ty, pos, after, guard⟩ E σ (.ptr id ver i j) σ :=
  op_value fun ok L w ρ hs hr => by
    have h := hr x (by simp [Op.operands]) _ hx
    have h1 := h.2 (hs.ver hid)
    exact ⟨ρ x, by simp [execOp, h1], h⟩
def asOne (agg : Bool) (k : Nat) (cells : List AVal) : Option AVal :=
  match agg with
  | true => if k ≤ cells.length then some (.agg (cells.take k)) else none
  | false => cells.head?
theorem run_loadVar_one {t : TypeId} {td : TypeDesc} {w : World} {a : Addr} {v : Value} (ht : P.underlying t = some td) (hn : TypeDesc.isAggB td = false) (hc : w.cell? a = some v) : (loadVar t a).run P w = .ok v w := by
  simp [loadVar, run_isAgg' ht, hn, hc]
theorem run_loadVar_agg {t : TypeId} {td : TypeDesc} {inf : TypeInfo} {w : World} {a : Addr} {vs : List Value} (ht : P.underlying t = some td) (hn : TypeDesc.isAggB td = true) (hi : P.info? t = some inf) (hk : inf.size = vs.length) (hc : ∀ j v, vs[j]? = some v → w.cell? (a.add j) = some v) :
    (loadVar t a).run P w = .ok (.agg vs.toArray) w := by
  simp [loadVar, run_isAgg' ht, hn, sizeOf, typeInfo, hi, hk, run_loadCells_list w a vs hc]
theorem All2.fill {ok : Nat → Prop} {L : Loc} {w : World} (cells : List AVal) (vs : Nat → Value) (h : ∀ j av, cells[j]? = some av → RepL ok L w av (vs j)) : All2 (RepL ok L w) cells ((List.range cells.length).map vs) :=
  All2.of_get _ _ (by simp) fun i a b ha hb => by
    have hl : i < cells.length := by
      rcases Nat.lt_or_ge i cells.length with h | h
      · exact h
      · simp [List.getElem?_eq_none h] at ha
    simp [List.getElem?_map, List.getElem?_range hl] at hb
    subst hb
    exact h i a ha
def AVal.clo1 : AVal → Bool
  | .v _ | .nil | .list _ _ | .rptr _ => true
  | _ => false
theorem RepC.repL {ok : Nat → Prop} {L : Loc} {w : World} {a : AVal} {v : Value} (h : RepC ok w a v) : RepL ok L w a v := by cases h <;> first | exact .v _ | exact .nil _ | exact .empty _ _ _ | (rename_i h1 h2 h3 h4 h5 h6; exact .list _ _ _ _ _ _ h1 h2 h3 h4 h5 h6) | (rename_i h1 h2 h3; exact .rptr _ _ _ _ h1 h2 h3)
theorem RepL.repC {ok : Nat → Prop} {L : Loc} {w : World} {a : AVal} {v : Value} (h : RepL ok L w a v) (hc : a.clo1 = true) : RepC ok w a v := by
  cases a <;> first | exact h | simp [AVal.clo1] at hc
def AVal.leaf : AVal → Bool
  | .tuple _ | .agg _ | .fn _ _ => false
  | _ => true
theorem RepL.rep {ok : Nat → Prop} {L : Loc} {w : World} {a : AVal} {v : Value} (h : RepL ok L w a v) (hc : a.leaf = true) : Rep ok L w a v := by
  cases a <;> first | exact h | simp [AVal.leaf] at hc
theorem RepC.leaf {ok : Nat → Prop} {w : World} {a : AVal} {v : Value} (h : RepC ok w a v) : a.leaf = true := by cases h <;> rfl
theorem RepL.leaf {ok : Nat → Prop} {L : Loc} {w : World} {a : AVal} {v : Value} (h : RepL ok L w a v) : a.leaf = true := by
  cases a <;> first | rfl | (exact RepC.leaf (show RepC ok w _ v from h))
theorem op_load_rptr {x : Operand} {t : TypeId} {td : TypeDesc} {inf : TypeInfo} {cells : List AVal} {a : AVal} (ht : P.underlying t = some td) (hi : P.info? t = some inf) (hx : E x = some (.rptr cells)) (ha : asOne (TypeDesc.isAggB td) inf.size cells = some a) : OpTo P ⟨d, .load t x, ty, pos, after, guard⟩ E σ a σ :=
  op_value fun ok L w ρ hs hr => by
    obtain ⟨b, o, vs, h1, hok, hcell, hrep⟩ := RepC.rptr_form (hr x (by simp [Op.operands]) _ hx)
    cases hb : TypeDesc.isAggB td with
    | false =>
      rw [hb] at ha
      have h0 : cells[0]? = some a := by simpa [asOne, List.head?_eq_getElem?] using ha
      refine ⟨vs 0, ?_, (hrep 0 a h0).repL.rep (hrep 0 a h0).leaf⟩
      have hc : w.cell? ⟨b, o, none⟩ = some (vs 0) := hcell 0 a h0
      simp [execOp, Instr.loadAt, Instr.sureAddr, h1, run_loadVar_one ht hb hc]
    | true =>
      rw [hb] at ha
      simp only [asOne] at ha
      split at ha
      · rename_i hk
        cases ha
        have hl : (cells.take inf.size).length = inf.size := by simp; omega
        have hg : ∀ j av, (cells.take inf.size)[j]? = some av → cells[j]? = some av := fun j av hj => by
          rw [List.getElem?_take] at hj
          split at hj
          · exact hj
          · cases hj
        refine ⟨.agg ((List.range (cells.take inf.size).length).map vs).toArray, ?_, _, rfl, All2.fill _ vs (fun j av hj => (hrep j av (hg j av hj)).repL)⟩
        have hc : ∀ j v, ((List.range (cells.take inf.size).length).map vs)[j]? = some v → w.cell? ((⟨b, o, none⟩ : Addr).add j) = some v := by
          intro j v hj
          rw [List.getElem?_map] at hj
          rcases Nat.lt_or_ge j (cells.take inf.size).length with h | h
          · rw [List.getElem?_range h] at hj
            simp at hj
            subst hj
            rw [addr_add0]
            exact hcell j _ (hg j _ (List.getElem?_eq_getElem h))
          · rw [List.getElem?_eq_none (by simpa using h)] at hj
            cases hj
        have := run_loadVar_agg (w := w) (a := ⟨b, o, none⟩) (vs := (List.range (cells.take inf.size).length).map vs) ht hb hi (by simp; omega) hc
        simp [execOp, Instr.loadAt, Instr.sureAddr, h1, this]
      · cases ha
theorem Sim.row {ok : Nat → Prop} {L : Loc} {w : World} (hs : Sim ok L σ w) {id ver sz : Nat} {els : List (List AVal)} (hid : σ.get id = some (ver, .row sz els)) {i : Nat} {el : List AVal} (hel : els[i]? = some el) :
    L.sz id = sz ∧ el.length = sz ∧ L.cap id ≠ 0 ∧ i < L.cap id ∧ ∃ (conc : Array Value) (e : TypeId), w.heap[L.blk id]? = some (.cells conc e (0, 0)) ∧ conc.size = L.cap id * sz ∧
      (∀ i el j av, els[i]? = some el → el[j]? = some av → ∃ v, conc[i * sz + j]? = some v ∧ RepL ok L w av v ∧ v.oneCell' = true) := by
  obtain ⟨h1, h2, h3, h4, h5⟩ := hs.objs id ver _ hid
  have hlt : i < els.length := by
    rcases Nat.lt_or_ge i els.length with h | h
    · exact h
    · simp [List.getElem?_eq_none h] at hel
  have hc : L.cap id ≠ 0 := by omega
  obtain ⟨conc, e, g1, g2, g3⟩ := h5 hc
  exact ⟨h2, h3 el (List.mem_of_getElem? hel), hc, by omega, conc, e, g1, g2, g3⟩
theorem op_load_ptr {x : Operand} {t : TypeId} {td : TypeDesc} {inf : TypeInfo} {id ver i j sz : Nat} {els : List (List AVal)} {el : List AVal} {a : AVal} (ht : P.underlying t = some td) (hi : P.info? t = some inf) (hx : E x = some (.ptr id ver i j)) (hid : σ.get id = some (ver, .row sz els)) (hel : els[i]? = some el)
    (ha : asOne (TypeDesc.isAggB td) inf.size (el.drop j) = some a) : OpTo P ⟨d, .load t x, ty, pos, after, guard⟩ E σ a σ :=
  op_value fun ok L w ρ hs hr => by
    have h := hr x (by simp [Op.operands]) _ hx
    have h1 := h.2 (hs.ver hid)
    obtain ⟨e1, e2, e3, e4, conc, et, g1, g2, g3⟩ := hs.row hid hel
    have hcell : ∀ k v, conc[i * sz + (j + k)]? = some v → w.cell? ⟨L.blk id, i * sz + j + k, none⟩ = some v := by
      intro k v hv
      simp [World.cell?, g1, Nat.add_assoc, hv]
    cases hb : TypeDesc.isAggB td with
    | false =>
      rw [hb] at ha
      have h0 : el[j]? = some a := by simpa [asOne, List.head?_eq_getElem?] using ha
      obtain ⟨v, k1, k2, _⟩ := g3 i el j a hel h0
      refine ⟨v, ?_, k2.rep k2.leaf⟩
      have hc : w.cell? ⟨L.blk id, i * L.sz id + j, none⟩ = some v := by rw [e1]; exact hcell 0 v (by simpa using k1)
      simp [execOp, Instr.loadAt, Instr.sureAddr, h1, run_loadVar_one ht hb hc]
    | true =>
      rw [hb] at ha
      simp only [asOne] at ha
      split at ha
      · rename_i hk
        cases ha
        have hg : ∀ k av, ((el.drop j).take inf.size)[k]? = some av → ∃ v, conc[i * sz + (j + k)]? = some v ∧ RepL ok L w av v ∧ v.oneCell' = true := fun k av hj => by
          rw [List.getElem?_take] at hj
          split at hj
          · rw [List.getElem?_drop] at hj
            exact g3 i el _ av hel hj
          · cases hj
        let vs : Nat → Value := fun k => (conc[i * sz + (j + k)]?).getD undef
        refine ⟨.agg ((List.range ((el.drop j).take inf.size).length).map vs).toArray, ?_, _, rfl, All2.fill _ vs (fun k av hj => ?_)⟩
        · have hc : ∀ k v, ((List.range ((el.drop j).take inf.size).length).map vs)[k]? = some v → w.cell? ((⟨L.blk id, i * L.sz id + j, none⟩ : Addr).add k) = some v := by
            intro k v hj
            rw [List.getElem?_map] at hj
            rcases Nat.lt_or_ge k ((el.drop j).take inf.size).length with h | h
            · rw [List.getElem?_range h] at hj
              simp only [Option.map_some, Option.some.injEq] at hj
              obtain ⟨u, u1, _⟩ := hg k _ (List.getElem?_eq_getElem h)
              have : v = u := by rw [← hj]; show (conc[i * sz + (j + k)]?).getD undef = u; rw [u1]; rfl
              subst this
              rw [addr_add0, e1]
              exact hcell k v u1
            · rw [List.getElem?_eq_none (by simpa using h)] at hj
              cases hj
          have := run_loadVar_agg (w := w) (a := ⟨L.blk id, i * L.sz id + j, none⟩) (vs := (List.range ((el.drop j).take inf.size).length).map vs) ht hb hi (by simp at hk ⊢; omega) hc
          simp [execOp, Instr.loadAt, Instr.sureAddr, h1, this]
        · obtain ⟨u, u1, u2, _⟩ := hg k av hj
          have : vs k = u := by show (conc[i * sz + (j + k)]?).getD undef = u; rw [u1]; rfl
          rw [this]; exact u2
      · cases ha
end
end Go.Proofs.YtcgdlhkiecommaaGreatDoor
/- The engine, part 5: stores, new objects, append, make. -/

namespace Go.Proofs.YtcgdlhkiecommaaGreatDoor
open Go
theorem Rep.toL {ok : Nat → Prop} {L : Loc} {w : World} {a : AVal} {v : Value} (h : Rep ok L w a v) (hc : a.leaf = true) : RepL ok L w a v := by
  cases a <;> first | exact h | simp [AVal.leaf] at hc
def AVal.oneB : AVal → Bool
  | .v x => x.oneCell'
  | .agg _ | .tuple _ | .fn _ _ => false
  | _ => true
theorem RepC.oneCell {ok : Nat → Prop} {w : World} {a : AVal} {v : Value} (h : RepC ok w a v) (ho : a.oneB = true) : v.oneCell' = true := by
  cases h <;> first | exact ho | rfl
theorem RepL.oneCell {ok : Nat → Prop} {L : Loc} {w : World} {a : AVal} {v : Value} (h : RepL ok L w a v) (ho : a.oneB = true) (hv : ∀ id ver, (∃ off m, a = .slice id ver off m) ∨ (∃ i j, a = .ptr id ver i j) ∨ a = .map id ver → L.ver id = ver) : v.oneCell' = true := by
  cases a with
  | slice id ver off m => obtain ⟨_, _, e, _⟩ := h.2 (hv id ver (.inl ⟨_, _, rfl⟩)); subst e; rfl
  | ptr id ver i j => have e := h.2 (hv id ver (.inr (.inl ⟨_, _, rfl⟩))); subst e; rfl
  | map id ver => have e := h.2 (hv id ver (.inr (.inr rfl))); subst e; rfl
  | _ => exact RepC.oneCell h ho
def AVal.live (σ : Store) : AVal → Bool
  | .slice id ver _ _ | .ptr id ver _ _ | .map id ver => match σ.get id with | some p => Nat.beq p.1 ver | none => false
  | _ => true
theorem AVal.live_ver {ok : Nat → Prop} {L : Loc} {σ : Store} {w : World} (hs : Sim ok L σ w) {a : AVal} (h : a.live σ = true) : ∀ id ver, (∃ off m, a = .slice id ver off m) ∨ (∃ i j, a = .ptr id ver i j) ∨ a = .map id ver → L.ver id = ver := by
  have key : ∀ id ver, (match σ.get id with | some p => Nat.beq p.1 ver | none => false) = true → L.ver id = ver := by
    intro id ver hh
    cases hg : σ.get id with
    | none => rw [hg] at hh; cases hh
    | some p =>
      obtain ⟨v, o⟩ := p
      rw [hg] at hh
      have := nat_beq_true.1 hh
      subst this
      exact hs.ver hg
  rintro id ver (⟨off, m, rfl⟩ | ⟨i, j, rfl⟩ | rfl)
  · exact key id ver h
  · exact key id ver h
  · exact key id ver h
def AVal.cells : AVal → List AVal
  | .agg cs => cs
  | a => [a]
section
variable {P : Program} {n : Nat} {Q : APost} {env : Env} {σ σ' : Store} {ops : Array Oper} {rest : List Oper}
variable {E : Operand → Option AVal} {d : Option Tmp} {ty : TypeId} {pos : String} {after : Array Edge} {guard : Option (Nat × Bool)}
theorem Rep.cells {ok : Nat → Prop} {L : Loc} {w : World} {a : AVal} {v : Value} (hs : Sim ok L σ w) (h : Rep ok L w a v) (h1 : a.cells.all AVal.oneB = true) (hl : a.cells.all (AVal.live σ) = true) :
    All2 (RepL ok L w) a.cells v.cells.toList ∧ ∀ u ∈ v.cells.toList, u.oneCell' = true := by
  have key : ∀ (cs : List AVal) (vs : List Value), All2 (RepL ok L w) cs vs → cs.all AVal.oneB = true → cs.all (AVal.live σ) = true → ∀ u ∈ vs, u.oneCell' = true := by
    intro cs
    induction cs with
    | nil => intro vs h _ _ u hu; cases vs with | nil => cases hu | cons _ _ => exact h.elim
    | cons c cs ih =>
      intro vs h h1 h2 u hu
      cases vs with
      | nil => exact h.elim
      | cons x vs =>
        simp only [List.all_cons, Bool.and_eq_true] at h1 h2
        rcases List.mem_cons.1 hu with rfl | hu
        · exact h.1.oneCell h1.1 (AVal.live_ver hs h2.1)
        · exact ih vs h.2 h1.2 h2.2 u hu
  cases a with
  | agg cs =>
    obtain ⟨vs, rfl, h3⟩ := h
    simp only [AVal.cells] at h1 hl ⊢
    simp only [Value.cells, List.toList_toArray]
    exact ⟨h3, key cs vs h3 h1 hl⟩
  | tuple cs => simp [AVal.cells, AVal.oneB] at h1
  | fn f cs => simp [AVal.cells, AVal.oneB] at h1
  | _ =>
    have hr := Rep.toL h rfl
    simp only [AVal.cells, List.all_cons, List.all_nil, Bool.and_true] at h1 hl
    have ho := hr.oneCell h1 (AVal.live_ver hs hl)
    have hc : v.cells = #[v] := by cases v <;> first | rfl | simp [Value.oneCell'] at ho
    rw [hc]
    refine ⟨⟨hr, trivial⟩, fun u hu => ?_⟩
    simp at hu
    subst hu
    exact ho
def splice (el : List AVal) (j : Nat) (cs : List AVal) : List AVal := el.take j ++ cs ++ el.drop (j + cs.length)
theorem op_store_ptr {x y : Operand} {t : TypeId} {inf : TypeInfo} {id ver i j sz : Nat} {els : List (List AVal)} {el : List AVal} {a : AVal} (hi : P.info? t = some inf) (hx : E x = some (.ptr id ver i j)) (hy : E y = some a) (hid : σ.get id = some (ver, .row sz els)) (hel : els[i]? = some el)
    (hsz : inf.size = a.cells.length) (h1 : a.cells.all AVal.oneB = true) (hl : a.cells.all (AVal.live σ) = true) (hfit : j + a.cells.length ≤ el.length) :
    OpTo P ⟨d, .store t x y, ty, pos, after, guard⟩ E σ (.v undef) (σ.put id ver (.row sz (els.set i (splice el j a.cells)))) := by
  intro ok L w ρ hs hr
  have hxv := (hr x (by simp [Op.operands]) _ hx).2 (hs.ver hid)
  have hyv := hr y (by simp [Op.operands]) _ hy
  obtain ⟨e1, e2, e3, e4, conc, et, g1, g2, g3⟩ := hs.row hid hel
  obtain ⟨c1, c2⟩ := hyv.cells hs h1 hl
  have clen := All2.length _ _ c1
  generalize hvs : (ρ y).cells.toList = vs at c1 c2 clen
  have hbound : i * sz + j + vs.length ≤ conc.size := by
    rw [g2]
    have : (i + 1) * sz ≤ L.cap id * sz := Nat.mul_le_mul_right _ e4
    rw [Nat.add_mul] at this
    omega
  have hst := run_storeCells_at P (L.blk id) (i * sz + j) et vs 0 conc w g1 (by simpa using hbound) c2
  simp only [Nat.add_zero] at hst
  generalize hcs : (conc.toList.take (i * sz + j) ++ vs ++ conc.toList.drop (i * sz + j + vs.length)).toArray = cs at hst
  have hrun : (execOp ρ ⟨d, .store t x y, ty, pos, after, guard⟩).run P w = .ok .skip (w.setRow (L.blk id) cs) := by
    have hc : (ρ y).cells.size = inf.size := by rw [hsz, clen, ← hvs]; simp
    simp [execOp, Instr.storeAt, Instr.sureAddr, hxv, e1, storeVar, sizeOf, typeInfo, hi, hc, hvs, hst]
  have hget : ∀ k, cs[k]? = if k < i * sz + j then conc[k]? else if k < i * sz + j + vs.length then vs[k - (i * sz + j)]? else conc[k]? := by
    intro k
    rw [← hcs]
    simp only [List.getElem?_toArray, List.append_assoc]
    by_cases h1 : k < i * sz + j
    · rw [if_pos h1, List.getElem?_append_left (by simp; omega), List.getElem?_take, if_pos h1]; simp
    · rw [if_neg h1, List.getElem?_append_right (by simp; omega)]
      have hl1 : (conc.toList.take (i * sz + j)).length = i * sz + j := by simp; omega
      rw [hl1]
      by_cases h2 : k < i * sz + j + vs.length
      · rw [if_pos h2, List.getElem?_append_left (by omega)]
      · rw [if_neg h2, List.getElem?_append_right (by omega), List.getElem?_drop]
        rw [show i * sz + j + vs.length + (k - (i * sz + j) - vs.length) = k from by omega]
        simp
  have hcsz : cs.size = conc.size := by
    rw [← hcs]
    simp
    omega
  have hio : i < els.length := by
    rcases Nat.lt_or_ge i els.length with h | h
    · exact h
    · simp [List.getElem?_eq_none h] at hel
  obtain ⟨he, hs'⟩ := sim_set (w' := w.setRow (L.blk id) cs) hs id ver _ (.row sz (els.set i (splice el j a.cells))) hid e3 rfl rfl rfl (by simp [World.setRow]) (fun k hk => setRow_other w _ k _ hk) (fun he => by
    obtain ⟨o1, o2, o3, o4, o5⟩ := hs.objs id ver _ hid
    have hspl : (splice el j a.cells).length = sz := by
      simp only [splice, List.length_append, List.length_take, List.length_drop]
      omega
    refine ⟨o1, o2, ?_, by simpa using o4, fun _ => ⟨cs, et, setRow_heap w _ conc cs et _ g1, by rw [hcsz]; exact g2, ?_⟩⟩
    · intro e hm
      rcases List.mem_or_eq_of_mem_set hm with h | h
      · exact o3 e h
      · rw [h]; exact hspl
    · intro i' el' j' av hi' hj'
      rw [List.getElem?_set] at hi'
      by_cases hii : i = i'
      · subst hii
        rw [if_pos rfl, if_pos hio] at hi'
        cases hi'
        have hj'' : j' < sz := by
          rcases Nat.lt_or_ge j' (splice el j a.cells).length with h | h
          · omega
          · simp [List.getElem?_eq_none h] at hj'
        simp only [splice, List.append_assoc] at hj'
        rw [hget]
        by_cases h1 : j' < j
        · rw [if_pos (by omega)]
          rw [List.getElem?_append_left (by simp; omega), List.getElem?_take, if_pos h1] at hj'
          obtain ⟨v, k1, k2, k3⟩ := g3 i el j' av hel hj'
          exact ⟨v, k1, k2.evo hs he, k3⟩
        · rw [if_neg (by omega)]
          have hl1 : (el.take j).length = j := by simp; omega
          rw [List.getElem?_append_right (by omega), hl1] at hj'
          by_cases h2 : j' < j + a.cells.length
          · rw [if_pos (by omega)]
            rw [List.getElem?_append_left (by omega)] at hj'
            obtain ⟨v, k1, k2⟩ := All2.get _ _ c1 _ _ hj'
            exact ⟨v, by rw [show i * sz + j' - (i * sz + j) = j' - j from by omega]; exact k1, k2.evo hs he, c2 v (List.mem_of_getElem? k1)⟩
          · rw [if_neg (by omega)]
            rw [List.getElem?_append_right (by omega), List.getElem?_drop, show j + a.cells.length + (j' - j - a.cells.length) = j' from by omega] at hj'
            obtain ⟨v, k1, k2, k3⟩ := g3 i el j' av hel hj'
            exact ⟨v, k1, k2.evo hs he, k3⟩
      · rw [if_neg hii] at hi'
        obtain ⟨v, k1, k2, k3⟩ := g3 i' el' j' av hi' hj'
        have hj'' : j' < sz := by
          have := o3 el' (List.mem_of_getElem? hi')
          rcases Nat.lt_or_ge j' el'.length with h | h
          · omega
          · simp [List.getElem?_eq_none h] at hj'
        refine ⟨v, ?_, k2.evo hs he, k3⟩
        rw [hget]
        rcases Nat.lt_or_gt_of_ne hii with h | h
        · have : (i + 1) * sz ≤ i' * sz := Nat.mul_le_mul_right _ h
          rw [Nat.add_mul] at this
          rw [if_neg (by omega), if_neg (by omega)]; exact k1
        · have : (i' + 1) * sz ≤ i * sz := Nat.mul_le_mul_right _ h
          rw [Nat.add_mul] at this
          rw [if_pos (by omega)]; exact k1)
  exact ⟨undef, _, ok, L, .inr ⟨hrun, rfl⟩, he, hs', RepC.v _⟩
theorem objrep_new {ok : Nat → Prop} {L : Loc} {w w' : World} (hs : Sim ok L σ w) {id ver' c sz : Nat} {els : List (List AVal)} {conc : Array Value} {e : TypeId} {σ' : Store}
    (he : Evo ok L σ w ok (L.upd id w.heap.size c sz ver') σ' w') (hb : w'.heap[w.heap.size]? = some (.cells conc e (0, 0))) (hsz : ∀ e ∈ els, e.length = sz) (hl : els.length ≤ c) (hc : conc.size = c * sz)
    (hrep : ∀ i el j av, els[i]? = some el → el[j]? = some av → ∃ v, conc[i * sz + j]? = some v ∧ RepL ok L w av v ∧ v.oneCell' = true) : ObjRep ok (L.upd id w.heap.size c sz ver') w' id ver' (.row sz els) := by
  refine ⟨by simp [Loc.upd], by simp [Loc.upd], hsz, by simpa [Loc.upd] using hl, fun _ => ⟨conc, e, by simpa [Loc.upd] using hb, by simpa [Loc.upd] using hc, fun i el j av hi hj => ?_⟩⟩
  obtain ⟨v, h1, h2, h3⟩ := hrep i el j av hi hj
  exact ⟨v, h1, h2.evo hs he, h3⟩
theorem op_alloc {t : TypeId} {inf : TypeInfo} {z : Value} (id : Nat) (hi : P.info? t = some inf) (hz : inf.zero = some z) (hz1 : z.cells.toList.all Value.oneCell' = true) :
    OpR P ⟨d, .alloc t, ty, pos, after, guard⟩ E σ (fun a σ' => ∃ ver, a = .ptr id ver 0 0 ∧ σ' = σ.put id ver (.row z.cells.toList.length [z.cells.toList.map .v])) := by
  intro ok L w ρ hs hr
  obtain ⟨he, hs'⟩ := sim_upd (w' := w.alloc (.cells z.cells t)) hs id w.heap.size 1 z.cells.toList.length (L.ver id + 1) (.row z.cells.toList.length [z.cells.toList.map .v]) (by omega) rfl rfl rfl (by simp) (fun k hk _ => Go.RowKit.Below.heap_alloc w _ k hk) (.inl (Nat.le_refl _)) (fun _ => by simp)
    (fun he => objrep_new hs he (heap_alloc_new w _) (by simp) (by simp) (by simp) (fun i el j av h1 h2 => by
      cases i with
      | succ i => simp at h1
      | zero =>
        simp at h1
        subst h1
        simp only [List.getElem?_map, Option.map_eq_some_iff] at h2
        obtain ⟨v, h3, rfl⟩ := h2
        exact ⟨v, by simpa using h3, RepC.v v, List.all_eq_true.1 hz1 v (List.mem_of_getElem? h3)⟩))
  refine ⟨_, _, .pointer (some ⟨w.heap.size, 0, none⟩), _, ok, _, ⟨_, rfl, rfl⟩, .inl ?_, he, hs', ?_⟩
  · simp [execOp, Instr.alloc, zeroValue, typeInfo, hi, hz, newVar, newRow]
  · refine ⟨by simp [Loc.upd], fun _ => by simp [Loc.upd]⟩
theorem op_box {t : TypeId} {x : Operand} {a : AVal} (id : Nat) (hx : E x = some a) (h1 : a.cells.all AVal.oneB = true) (hl : a.cells.all (AVal.live σ) = true) :
    OpR P ⟨d, .box t x, ty, pos, after, guard⟩ E σ (fun r σ' => ∃ ver, r = .ptr id ver 0 0 ∧ σ' = σ.put id ver (.row a.cells.length [a.cells])) := by
  intro ok L w ρ hs hr
  obtain ⟨c1, c2⟩ := (hr x (by simp [Op.operands]) _ hx).cells hs h1 hl
  have clen := All2.length _ _ c1
  obtain ⟨he, hs'⟩ := sim_upd (w' := w.alloc (.cells (ρ x).cells t)) hs id w.heap.size 1 a.cells.length (L.ver id + 1) (.row a.cells.length [a.cells]) (by omega) rfl rfl rfl (by simp) (fun k hk _ => Go.RowKit.Below.heap_alloc w _ k hk) (.inl (Nat.le_refl _)) (fun _ => by simp)
    (fun he => objrep_new hs he (heap_alloc_new w _) (by simp) (by simp) (by simpa using clen.symm) (fun i el j av h1 h2 => by
      cases i with
      | succ i => simp at h1
      | zero =>
        simp at h1
        subst h1
        obtain ⟨v, h3, h4⟩ := All2.get _ _ c1 j av h2
        exact ⟨v, by simpa using h3, h4, c2 v (List.mem_of_getElem? h3)⟩))
  refine ⟨_, _, .pointer (some ⟨w.heap.size, 0, none⟩), _, ok, _, ⟨_, rfl, rfl⟩, .inl ?_, he, hs', ?_⟩
  · simp [execOp, Instr.box, newVar, newRow]
  · refine ⟨by simp [Loc.upd], fun _ => by simp [Loc.upd]⟩
theorem madeCells_get {z : Array Value} {m k : Nat} (hk : k < m) (hz : z.size ≠ 0) : ∃ v, (madeCells z m)[k]? = some v ∧ z[k % z.size]? = some v := by
  have hlt : k % z.size < z.size := Nat.mod_lt _ (by omega)
  refine ⟨z[k % z.size]!, ?_, ?_⟩
  · simp [madeCells, hk]
  · rw [Array.getElem?_eq_getElem hlt]
    simp [getElem!_pos z (k % z.size) hlt]
theorem op_make {t e : TypeId} {x y : Operand} {inf : TypeInfo} {z : Value} {k k' : IntKind} {m : Int} (id : Nat) (ht : P.underlying t = some (.slice e)) (hi : P.info? e = some inf) (hz : inf.zero = some z) (hsz : z.cells.toList.length = inf.size) (h0 : inf.size ≠ 0) (hz1 : z.cells.toList.all Value.oneCell' = true)
    (hx : E x = some (.v (.int k m))) (hy : E y = some (.v (.int k' m))) (hm : 0 ≤ m) (hb : (inf.bytes : Int) * m ≤ 281474976710656) (h63 : m ≤ 9223372036854775807) :
    OpR P ⟨d, .makeSlice t x y, ty, pos, after, guard⟩ E σ (fun r σ' => ∃ ver, r = .slice id ver 0 m.toNat ∧ σ' = σ.put id ver (.row inf.size (List.replicate m.toNat (z.cells.toList.map .v)))) := by
  intro ok L w ρ hs hr
  have e1 := rep_bool (hr x (by simp [Op.operands]) _ hx)
  have e2 := rep_bool (hr y (by simp [Op.operands]) _ hy)
  have hrun := run_make (P := P) w t e inf z ht hi hz k k' m m hm (Int.le_refl _) hb h63
  have hzs : z.cells.size = inf.size := by simpa using hsz
  obtain ⟨he, hs'⟩ := sim_upd (w' := w.alloc (.cells (madeCells z.cells (m.toNat * inf.size)) e)) hs id w.heap.size m.toNat inf.size (L.ver id + 1) (.row inf.size (List.replicate m.toNat (z.cells.toList.map .v))) (by omega) rfl rfl rfl (by simp) (fun k hk _ => Go.RowKit.Below.heap_alloc w _ k hk) (.inl (Nat.le_refl _)) (fun _ => by simp)
    (fun he => objrep_new hs he (heap_alloc_new w _) (fun e hm => by
        rw [List.mem_replicate] at hm
        rw [hm.2]; simpa using hsz) (by simp) (by simp [size_madeCells]) (fun i el j av h1 h2 => by
      rw [List.getElem?_replicate] at h1
      split at h1
      · rename_i hi'
        cases h1
        simp only [List.getElem?_map, Option.map_eq_some_iff] at h2
        obtain ⟨v, h3, rfl⟩ := h2
        have hj : j < inf.size := by
          rcases Nat.lt_or_ge j z.cells.toList.length with h | h
          · omega
          · simp [List.getElem?_eq_none h] at h3
        have hlt : i * inf.size + j < m.toNat * inf.size := by
          have : (i + 1) * inf.size ≤ m.toNat * inf.size := Nat.mul_le_mul_right _ hi'
          rw [Nat.add_mul] at this
          omega
        obtain ⟨u, u1, u2⟩ := madeCells_get (z := z.cells) hlt (by omega)
        refine ⟨u, u1, ?_⟩
        rw [hzs, Nat.add_comm, Nat.add_mul_mod_self_right, Nat.mod_eq_of_lt hj] at u2
        have : u = v := by
          have h4 : z.cells[j]? = some v := by simpa using h3
          rw [h4] at u2; cases u2; rfl
        subst this
        exact ⟨RepC.v u, List.all_eq_true.1 hz1 u (List.mem_of_getElem? h3)⟩
      · cases h1))
  refine ⟨_, _, .slice (some ⟨w.heap.size, 0, none⟩) m.toNat m.toNat, _, ok, _, ⟨_, rfl, rfl⟩, .inl ?_, he, hs', ?_⟩
  · simp [execOp, e1, e2, hrun]
  · exact ⟨by simp [Loc.upd], fun _ => ⟨_, _, rfl, Nat.le_refl _, by simp [Loc.upd], fun _ => by simp [Loc.upd]⟩⟩
end
end Go.Proofs.YtcgdlhkiecommaaGreatDoor
/- The engine, part 6: append; structs and arrays as values; slices cut; calls. -/

namespace Go.Proofs.YtcgdlhkiecommaaGreatDoor
open Go
section
variable {P : Program} {w : World}
def notInt : TypeDesc → Bool
  | .slice _ => true
  | .string => true
  | _ => false
theorem run_append_fit {t u ty e : TypeId} {ud : TypeDesc} {inf : TypeInfo} (ht : P.underlying t = some (.slice e)) (hu : P.underlying u = some ud) (hn : notInt ud = true) (hi : P.info? e = some inf)
    (base : Option Addr) (sLen sCap m : Nat) (x : Value) (vals : List Value) (hlen : (Builtin.lenOf x).run P w = .ok m w) (hf : (Builtin.firstCells inf.size m x).run P w = .ok vals.toArray w) (hfit : sLen + m ≤ sCap) :
    (Builtin.append_ #[t, u] ty #[.slice base sLen sCap, x]).run P w = (match base with
      | some a => ((storeCells (a.add (sLen * inf.size)) vals).run P w).andThen fun _ w' => .ok (.slice base (sLen + m) sCap) w'
      | none => .ok (.slice base (sLen + m) sCap) w) := by
  cases ud with
  | slice e' => cases base <;> simp [Builtin.append_, run_underlying ht, run_underlying hu, sizeOf, typeInfo, hi, hlen, hf, hfit]
  | string => cases base <;> simp [Builtin.append_, run_underlying ht, run_underlying hu, sizeOf, typeInfo, hi, hlen, hf, hfit]
  | _ => simp [notInt] at hn
theorem run_append_new {t u ty e : TypeId} {ud : TypeDesc} {inf : TypeInfo} {z : Value} (ht : P.underlying t = some (.slice e)) (hu : P.underlying u = some ud) (hn : notInt ud = true) (hi : P.info? e = some inf) (hz : inf.zero = some z)
    (base : Option Addr) (sLen sCap m : Nat) (x : Value) (olds vals : List Value) (hlen : (Builtin.lenOf x).run P w = .ok m w)
    (hfo : (Builtin.firstCells inf.size sLen (.slice base sLen sCap)).run P w.drew = .ok olds.toArray w.drew) (hf : (Builtin.firstCells inf.size m x).run P w.drew = .ok vals.toArray w.drew) (hfit : sCap < sLen + m)
    (h63 : ((sLen + m : Nat) : Int) ≤ 9223372036854775807) (hby : (sLen + m) * inf.bytes ≤ 140737488355328) :
    (Builtin.append_ #[t, u] ty #[.slice base sLen sCap, x]).run P w = .ok (.slice (some ⟨w.heap.size, 0, none⟩) (sLen + m) (grownCap w (sLen + m) sCap e))
        (w.drew.alloc (.cells (olds.toArray ++ (vals.toArray ++ Builtin.zeroCells z.cells (grownCap w (sLen + m) sCap e - (sLen + m)))) e)) := by
  have hn' : ¬ (sLen + m ≤ sCap) := by omega
  have h63' : ¬ (9223372036854775807 < ((sLen : Int) + (m : Int))) := by omega
  have h48' : ¬ (281474976710656 < Builtin.nextslicecap (sLen + m) sCap * inf.bytes) := by
    have := growslice_fits hfit hby
    omega
  cases ud with
  | slice e' => simp [Builtin.append_, run_underlying ht, run_underlying hu, sizeOf, typeInfo, zeroValue, hi, hz, hlen, hn', h63', h48', Question.forced, hfo, hf, newRow, grownCap]
  | string => simp [Builtin.append_, run_underlying ht, run_underlying hu, sizeOf, typeInfo, zeroValue, hi, hz, hlen, hn', h63', h48', Question.forced, hfo, hf, newRow, grownCap]
  | _ => simp [notInt] at hn
def Src (P : Program) (ok : Nat → Prop) (L : Loc) (w : World) (sz : Nat) (x : Value) (news : List (List AVal)) : Prop :=
  (∀ el ∈ news, el.length = sz) ∧ ∃ vals : List Value, vals.length = news.length * sz ∧ (Builtin.lenOf x).run P w = .ok news.length w ∧
    (Builtin.firstCells sz news.length x).run P w = .ok vals.toArray w ∧ (Builtin.firstCells sz news.length x).run P w.drew = .ok vals.toArray w.drew ∧
    ∀ i el j av, news[i]? = some el → el[j]? = some av → ∃ v, vals[i * sz + j]? = some v ∧ RepL ok L w av v ∧ v.oneCell' = true
theorem firstCells_at {sz m c : Nat} {b o : Nat} {vals : List Value} (hl : vals.length = m * sz) (h : ∀ k v, vals[k]? = some v → w.cell? ⟨b, o + k, none⟩ = some v) (len : Nat) :
    (Builtin.firstCells sz m (.slice (some ⟨b, o, none⟩) len c)).run P w = .ok vals.toArray w :=
  run_firstCells_some (P := P) w sz m ⟨b, o, none⟩ len c vals hl (fun j v hj => by rw [addr_add0]; exact h j v hj)
theorem flat_vals (sz : Nat) (news : List (List AVal)) (f : Nat → Value) (k : Nat) (hk : k < news.length * sz) : ((List.range (news.length * sz)).map f)[k]? = some (f k) := by
  rw [List.getElem?_map, List.getElem?_range hk]; rfl
theorem place_lt {i j sz m : Nat} (hi : i < m) (hj : j < sz) : i * sz + j < m * sz := by
  have : (i + 1) * sz ≤ m * sz := Nat.mul_le_mul_right _ hi
  rw [Nat.add_mul] at this
  omega
theorem place_div {i j sz : Nat} (hj : j < sz) : (i * sz + j) / sz = i ∧ (i * sz + j) % sz = j := by
  have h0 : 0 < sz := by omega
  constructor
  · rw [Nat.mul_comm, Nat.mul_add_div h0, Nat.div_eq_of_lt hj]; rfl
  · rw [Nat.mul_comm, Nat.mul_add_mod, Nat.mod_eq_of_lt hj]
theorem src_list {ok : Nat → Prop} {L : Loc} {sz : Nat} {els : List (List AVal)} {v : Value} (h0 : 0 < sz) (h : RepC ok w (.list sz els) v) : Src P ok L w sz v els := by
  obtain ⟨a, c, rfl, hc, hh⟩ := h.list_form
  rcases hh with rfl | ⟨b, o, vs, rfl, hok, hs, hcell, hrep, h1⟩
  · refine ⟨by simp, [], by simp, by simp [Builtin.lenOf], ?_, ?_, by simp⟩
    · cases a <;> simp [Builtin.firstCells, loadCells, loadCellsFrom]
    · cases a <;> simp [Builtin.firstCells, loadCells, loadCellsFrom]
  · let f : Nat → Value := fun k => vs (k / sz) (k % sz)
    have hf : ∀ i el j av, els[i]? = some el → el[j]? = some av → ((List.range (els.length * sz)).map f)[i * sz + j]? = some (vs i j) := by
      intro i el j av hi hj
      have hi' : i < els.length := by
        rcases Nat.lt_or_ge i els.length with h | h
        · exact h
        · simp [List.getElem?_eq_none h] at hi
      have hj' : j < sz := by
        have := hs el (List.mem_of_getElem? hi)
        rcases Nat.lt_or_ge j el.length with h | h
        · omega
        · simp [List.getElem?_eq_none h] at hj
      rw [flat_vals sz els f _ (place_lt hi' hj')]
      show some (vs ((i * sz + j) / sz) ((i * sz + j) % sz)) = _
      rw [(place_div hj').1, (place_div hj').2]
    have hcells : ∀ k u, ((List.range (els.length * sz)).map f)[k]? = some u → w.cell? ⟨b, o + k, none⟩ = some u := by
      intro k u hk
      rcases Nat.lt_or_ge k (els.length * sz) with hl | hl
      · rw [flat_vals sz els f k hl] at hk
        cases hk
        have hi' : k / sz < els.length := by rw [Nat.div_lt_iff_lt_mul h0]; exact hl
        have hj' : k % sz < sz := Nat.mod_lt _ h0
        have hm := List.getElem_mem hi'
        have hlen := hs _ hm
        have := hcell (k / sz) _ (k % sz) _ (List.getElem?_eq_getElem hi') (List.getElem?_eq_getElem (by omega))
        have e : o + k / sz * sz + k % sz = o + k := by have := Nat.div_add_mod k sz; rw [Nat.mul_comm] at this; omega
        rw [e] at this
        exact this
      · rw [List.getElem?_eq_none (by simpa using hl)] at hk; cases hk
    refine ⟨hs, (List.range (els.length * sz)).map f, by simp, by simp [Builtin.lenOf], firstCells_at (by simp) hcells _, firstCells_at (by simp) (by simpa using hcells) _, fun i el j av hi hj => ?_⟩
    exact ⟨vs i j, hf i el j av hi hj, (hrep i el j av hi hj).repL, h1 i el j av hi hj⟩
theorem src_nil {ok : Nat → Prop} {L : Loc} {sz : Nat} {v : Value} (h : RepC ok w .nil v) : Src P ok L w sz v [] := by
  obtain ⟨a, rfl⟩ := h.nil_form
  refine ⟨by simp, [], by simp, by simp [Builtin.lenOf], ?_, ?_, by simp⟩
  · cases a <;> simp [Builtin.firstCells, loadCells, loadCellsFrom]
  · cases a <;> simp [Builtin.firstCells, loadCells, loadCellsFrom]
theorem src_string {ok : Nat → Prop} {L : Loc} (s : ByteArray) : Src P ok L w 1 (.string s) (s.data.toList.map fun b => [.v (.int .u8 b.toNat)]) := by
  have hx : s.extract 0 s.size = s := by simp
  refine ⟨by simp, s.data.toList.map fun b => .int .u8 b.toNat, by simp, ?_, ?_, ?_, ?_⟩
  · simp [Builtin.lenOf]
  · simp [Builtin.firstCells, hx]
    apply Array.ext'
    simp
  · simp [Builtin.firstCells, hx]
    apply Array.ext'
    simp
  · intro i el j av hi hj
    rw [List.getElem?_map, Option.map_eq_some_iff] at hi
    obtain ⟨b, h1, rfl⟩ := hi
    cases j with
    | succ j => simp at hj
    | zero =>
      simp at hj
      subst hj
      refine ⟨.int .u8 b.toNat, ?_, RepC.v _, rfl⟩
      rw [Nat.mul_one, Nat.add_zero, List.getElem?_map, h1]; rfl
theorem src_slice {ok : Nat → Prop} {L : Loc} {σ : Store} {sz id ver off m : Nat} {els : List (List AVal)} {v : Value} (h0 : 0 < sz) (hs : Sim ok L σ w) (hid : σ.get id = some (ver, .row sz els)) (hm : off + m ≤ els.length) (h : RepL ok L w (.slice id ver off m) v) : Src P ok L w sz v ((els.drop off).take m) := by
  obtain ⟨a, c, rfl, hc, _, h3⟩ := h.2 (hs.ver hid)
  have hlen : ((els.drop off).take m).length = m := by simp; omega
  rcases Nat.eq_zero_or_pos m with rfl | hpos
  · refine ⟨by simp, [], by simp, by simp [Builtin.lenOf], ?_, ?_, by simp⟩
    · cases a <;> simp [Builtin.firstCells, loadCells, loadCellsFrom]
    · cases a <;> simp [Builtin.firstCells, loadCells, loadCellsFrom]
  · have ha := h3 (.inl hpos)
    subst ha
    obtain ⟨o1, o2, o3, o4, o5⟩ := hs.objs id ver _ hid
    obtain ⟨conc, et, g1, g2, g3⟩ := o5 (by omega)
    let f : Nat → Value := fun k => (conc[off * sz + k]?).getD undef
    have hg : ∀ i el, ((els.drop off).take m)[i]? = some el → i < m ∧ els[off + i]? = some el := by
      intro i el hi
      rw [List.getElem?_take] at hi
      split at hi
      · rename_i hlt
        rw [List.getElem?_drop] at hi
        exact ⟨hlt, hi⟩
      · cases hi
    have hin : ∀ k, k < m * sz → ∃ u, conc[off * sz + k]? = some u := by
      intro k hk
      refine ⟨conc[off * sz + k]'?_, Array.getElem?_eq_getElem _⟩
      have h1 : (off + m) * sz ≤ L.cap id * sz := Nat.mul_le_mul_right _ (by omega)
      rw [Nat.add_mul] at h1
      omega
    refine ⟨fun el hm => ?_, (List.range (((els.drop off).take m).length * sz)).map f, by simp, by simp [Builtin.lenOf, hlen], ?_, ?_, fun i el j av hi hj => ?_⟩
    · exact o3 el (List.mem_of_mem_drop (List.mem_of_mem_take hm))
    · refine firstCells_at (by simp) (fun k u hk => ?_) _
      rcases Nat.lt_or_ge k (((els.drop off).take m).length * sz) with hl | hl
      · rw [flat_vals sz _ f k hl] at hk
        cases hk
        rw [hlen] at hl
        obtain ⟨u, hu⟩ := hin k hl
        simp only [World.cell?, o2, g1, f, hu]
        simp [hu]
      · rw [List.getElem?_eq_none (by simpa using hl)] at hk; cases hk
    · refine firstCells_at (by simp) (fun k u hk => ?_) _
      rcases Nat.lt_or_ge k (((els.drop off).take m).length * sz) with hl | hl
      · rw [flat_vals sz _ f k hl] at hk
        cases hk
        rw [hlen] at hl
        obtain ⟨u, hu⟩ := hin k hl
        have g1' : w.drew.heap[L.blk id]? = some (.cells conc et (0, 0)) := g1
        simp only [World.cell?, o2, g1', f, hu]
        simp [hu]
      · rw [List.getElem?_eq_none (by simpa using hl)] at hk; cases hk
    · obtain ⟨hi1, hi2⟩ := hg i el hi
      have hj' : j < sz := by
        have := o3 el (List.mem_of_getElem? hi2)
        rcases Nat.lt_or_ge j el.length with h | h
        · omega
        · simp [List.getElem?_eq_none h] at hj
      obtain ⟨u, u1, u2, u3⟩ := g3 (off + i) el j av hi2 hj
      refine ⟨u, ?_, u2, u3⟩
      rw [flat_vals sz _ f _ (by rw [hlen]; exact place_lt hi1 hj')]
      show some ((conc[off * sz + (i * sz + j)]?).getD undef) = _
      rw [show off * sz + (i * sz + j) = (off + i) * sz + j from by rw [Nat.add_mul]; omega, u1]
      rfl
end
section
variable {P : Program} {n : Nat} {Q : APost} {env : Env} {σ σ' : Store} {ops : Array Oper} {rest : List Oper}
variable {E : Operand → Option AVal} {d : Option Tmp} {ty : TypeId} {pos : String} {after : Array Edge} {guard : Option (Nat × Bool)}
inductive Head (σ : Store) (sz id : Nat) : AVal → List (List AVal) → Prop
  | nil : Head σ sz id .nil []
  | row (ver m : Nat) (els : List (List AVal)) : σ.get id = some (ver, .row sz els) → m ≤ els.length → Head σ sz id (.slice id ver 0 m) (els.take m)
theorem append_core {ok : Nat → Prop} {L : Loc} {w : World} {t u e sz id : Nat} {ud : TypeDesc} {inf : TypeInfo} {z : Value} {a : AVal} {v x : Value} {olds news : List (List AVal)} (ht : P.underlying t = some (.slice e)) (hu : P.underlying u = some ud) (hn : notInt ud = true) (hi : P.info? e = some inf) (hz : inf.zero = some z)
    (hsz : inf.size = sz) (h0 : 0 < sz) (hzs : z.cells.toList.length = sz) (hs : Sim ok L σ w) (hh : Head σ sz id a olds) (hv : RepL ok L w a v) (hsrc : Src P ok L w sz x news)
    (h63 : olds.length + news.length ≤ 9223372036854775807) (hby : (olds.length + news.length) * inf.bytes ≤ 140737488355328) :
    ∃ v' w' L' ver', (Builtin.append_ #[t, u] ty #[v, x]).run P w = .ok v' w' ∧ Evo ok L σ w ok L' (σ.put id ver' (.row sz (olds ++ news))) w' ∧ Sim ok L' (σ.put id ver' (.row sz (olds ++ news))) w' ∧ RepL ok L' w' (.slice id ver' 0 (olds.length + news.length)) v' := by
  obtain ⟨hns, vals, hvl, hlen, hf, hf', hrep⟩ := hsrc
  -- the head in memory
  have hd : ∃ base c, v = .slice base olds.length c ∧ (∀ el ∈ olds, el.length = sz) ∧
      ((c = 0 ∧ olds = []) ∨ (∃ ver els conc et m, a = .slice id ver 0 m ∧ σ.get id = some (ver, .row sz els) ∧ base = some ⟨L.blk id, 0, none⟩ ∧ c = L.cap id ∧ L.cap id ≠ 0 ∧ olds.length ≤ c ∧ w.heap[L.blk id]? = some (.cells conc et (0, 0)) ∧ conc.size = c * sz ∧
        ∀ i el j av, olds[i]? = some el → el[j]? = some av → ∃ v, conc[i * sz + j]? = some v ∧ RepL ok L w av v ∧ v.oneCell' = true)) := by
    cases hh with
    | nil =>
      obtain ⟨b, rfl⟩ := RepC.nil_form hv
      exact ⟨b, 0, rfl, by simp, .inl ⟨rfl, rfl⟩⟩
    | row ver m els hid hm =>
      obtain ⟨b, c, rfl, h2, h3, h4⟩ := hv.2 (hs.ver hid)
      obtain ⟨o1, o2, o3, o4, o5⟩ := hs.objs id ver _ hid
      have hc : c = L.cap id := by omega
      have hol : (els.take m).length = m := by simp; omega
      refine ⟨b, c, by rw [hol], fun el hm => o3 el (List.mem_of_mem_take hm), ?_⟩
      by_cases hcap : L.cap id = 0
      · left
        refine ⟨by omega, ?_⟩
        have : m = 0 := by omega
        subst this
        simp
      · right
        obtain ⟨conc, et, g1, g2, g3⟩ := o5 hcap
        refine ⟨ver, els, conc, et, m, rfl, hid, ?_, hc, hcap, by omega, g1, by rw [hc]; exact g2, fun i el j av hi hj => ?_⟩
        · have := h4 (.inr ⟨rfl, hcap⟩)
          simpa using this
        · rw [List.getElem?_take] at hi
          split at hi
          · exact g3 i el j av hi hj
          · cases hi
  obtain ⟨base, c, rfl, hos, hd⟩ := hd
  have hall : ∀ el ∈ olds ++ news, el.length = sz := fun el hm => (List.mem_append.1 hm).elim (hos el) (hns el)
  have hlt : ∀ {l : List (List AVal)} {i : Nat} {el : List AVal}, l[i]? = some el → i < l.length := by
    intro l i el hi
    rcases Nat.lt_or_ge i l.length with h | h
    · exact h
    · simp [List.getElem?_eq_none h] at hi
  have hltj : ∀ {el : List AVal} {j : Nat} {av : AVal}, el.length = sz → el[j]? = some av → j < sz := by
    intro el j av hl hj
    rcases Nat.lt_or_ge j el.length with h | h
    · omega
    · simp [List.getElem?_eq_none h] at hj
  by_cases hfit : olds.length + news.length ≤ c
  · rcases hd with ⟨rfl, rfl⟩ | ⟨ver, els, conc, et, m, rfl, hid, rfl, rfl, hcap, hoc, g1, g2, g3⟩
    · -- nothing is appended to nothing
      have hnn : news = [] := List.eq_nil_of_length_eq_zero (by simp at hfit; simpa using hfit)
      subst hnn
      have hvn : vals = [] := List.eq_nil_of_length_eq_zero (by simpa using hvl)
      subst hvn
      have hrun := run_append_fit (ty := ty) ht hu hn hi base 0 0 0 x [] hlen (by rw [hsz]; exact hf) (Nat.le_refl _)
      have hrun' : (Builtin.append_ #[t, u] ty #[.slice base 0 0, x]).run P w = .ok (.slice base 0 0) w := by
        rw [hrun]
        cases base <;> simp [storeCells]
      obtain ⟨he, hs'⟩ := sim_upd (w' := w) hs id w.heap.size 0 sz (L.ver id + 1) (.row sz ([] ++ [])) (by omega) rfl rfl rfl (Nat.le_refl _) (fun k hk _ => rfl) (.inl (Nat.le_refl _)) (fun h => absurd rfl h)
        (fun he => ⟨by simp [Loc.upd], by simp [Loc.upd], by simp, by simp, fun h => by simp [Loc.upd] at h⟩)
      exact ⟨_, w, _, _, hrun', he, hs', by simp [Loc.upd], fun _ => ⟨base, 0, rfl, by simp, by simp [Loc.upd], fun h => by simp [Loc.upd] at h⟩⟩
    · have h1 : ∀ v ∈ vals, v.oneCell' = true := by
        intro v hv
        obtain ⟨k, hk⟩ := List.getElem?_of_mem hv
        have hkl : k < news.length * sz := by
          rw [← hvl]
          rcases Nat.lt_or_ge k vals.length with h | h
          · exact h
          · simp [List.getElem?_eq_none h] at hk
        have hi' : k / sz < news.length := by rw [Nat.div_lt_iff_lt_mul h0]; exact hkl
        have hj' : k % sz < sz := Nat.mod_lt _ h0
        have hel := hns _ (List.getElem_mem hi')
        obtain ⟨u, u1, _, u3⟩ := hrep (k / sz) _ (k % sz) _ (List.getElem?_eq_getElem hi') (List.getElem?_eq_getElem (by omega))
        have e : k / sz * sz + k % sz = k := by have := Nat.div_add_mod k sz; rw [Nat.mul_comm] at this; omega
        rw [e, hk] at u1
        cases u1
        exact u3
      have hbound : olds.length * sz + vals.length ≤ conc.size := by
        rw [hvl, g2, ← Nat.add_mul]
        exact Nat.mul_le_mul_right _ hfit
      have hst := run_storeCells_at P (L.blk id) (olds.length * sz) et vals 0 conc w g1 (by simpa using hbound) h1
      simp only [Nat.add_zero] at hst
      generalize hcs : (conc.toList.take (olds.length * sz) ++ vals ++ conc.toList.drop (olds.length * sz + vals.length)).toArray = cs at hst
      have hrun := run_append_fit (ty := ty) ht hu hn hi (some ⟨L.blk id, 0, none⟩) olds.length (L.cap id) news.length x vals hlen (by rw [hsz]; exact hf) hfit
      have hrun' : (Builtin.append_ #[t, u] ty #[.slice (some ⟨L.blk id, 0, none⟩) olds.length (L.cap id), x]).run P w = .ok (.slice (some ⟨L.blk id, 0, none⟩) (olds.length + news.length) (L.cap id)) (w.setRow (L.blk id) cs) := by
        rw [hrun]
        simp only [addr_add0, hsz, Nat.zero_add, hst, Result.andThen_ok]
      have hget : ∀ k, cs[k]? = if k < olds.length * sz then conc[k]? else if k < olds.length * sz + vals.length then vals[k - olds.length * sz]? else conc[k]? := by
        intro k
        rw [← hcs]
        simp only [List.getElem?_toArray, List.append_assoc]
        by_cases h1 : k < olds.length * sz
        · rw [if_pos h1, List.getElem?_append_left (by simp; omega), List.getElem?_take, if_pos h1]; simp
        · rw [if_neg h1, List.getElem?_append_right (by simp; omega)]
          have hl1 : (conc.toList.take (olds.length * sz)).length = olds.length * sz := by simp; omega
          rw [hl1]
          by_cases h2 : k < olds.length * sz + vals.length
          · rw [if_pos h2, List.getElem?_append_left (by omega)]
          · rw [if_neg h2, List.getElem?_append_right (by omega), List.getElem?_drop]
            rw [show olds.length * sz + vals.length + (k - olds.length * sz - vals.length) = k from by omega]
            simp
      have hcsz : cs.size = conc.size := by
        rw [← hcs]
        simp
        omega
      obtain ⟨he, hs'⟩ := sim_upd (w' := w.setRow (L.blk id) cs) hs id (L.blk id) (L.cap id) sz (L.ver id + 1) (.row sz (olds ++ news)) (by omega) rfl rfl rfl (by simp [World.setRow]) (fun k hk hne => setRow_other w _ k _ hne) (.inr ⟨rfl, hcap, _, _, hid⟩) (fun _ => by
          have := hs.lt (L.blk id) ⟨id, _, _, hid, hcap, rfl⟩
          simpa [World.setRow] using this)
        (fun he => by
          refine ⟨by simp [Loc.upd], by simp [Loc.upd], hall, by simpa [Loc.upd] using hfit, fun _ => ⟨cs, et, by simpa [Loc.upd] using setRow_heap w _ conc cs et _ g1, by simp only [Loc.upd, if_pos]; rw [hcsz]; exact g2, fun i el j av hi hj => ?_⟩⟩
          have hj' := hltj (hall el (List.mem_of_getElem? hi)) hj
          rw [List.getElem?_append] at hi
          rw [hget]
          split at hi
          · rename_i hlo
            have hpl := place_lt hlo hj'
            rw [if_pos hpl]
            obtain ⟨v, k1, k2, k3⟩ := g3 i el j av hi hj
            exact ⟨v, k1, k2.evo hs he, k3⟩
          · rename_i hlo
            have hge : olds.length * sz ≤ i * sz := Nat.mul_le_mul_right _ (by omega)
            rw [if_neg (by omega)]
            obtain ⟨v, k1, k2, k3⟩ := hrep _ el j av hi hj
            have e : i * sz + j - olds.length * sz = (i - olds.length) * sz + j := by rw [Nat.sub_mul]; omega
            have hpl := place_lt (hlt hi) hj'
            rw [if_pos (by rw [hvl]; omega), e]
            exact ⟨v, k1, k2.evo hs he, k3⟩)
      refine ⟨_, _, _, _, hrun', he, hs', by simp [Loc.upd], fun _ => ⟨_, _, rfl, hfit, by simp [Loc.upd], fun _ => by simp [Loc.upd]⟩⟩
  · -- a new block
    have holds : ∃ ovals : List Value, ovals.length = olds.length * sz ∧ (Builtin.firstCells sz olds.length (.slice base olds.length c)).run P w.drew = .ok ovals.toArray w.drew ∧
        ∀ i el j av, olds[i]? = some el → el[j]? = some av → ∃ v, ovals[i * sz + j]? = some v ∧ RepL ok L w av v ∧ v.oneCell' = true := by
      rcases hd with ⟨rfl, rfl⟩ | ⟨ver, els, conc, et, m, rfl, hid, rfl, rfl, hcap, hoc, g1, g2, g3⟩
      · refine ⟨[], by simp, ?_, by simp⟩
        cases base <;> simp [Builtin.firstCells, loadCells, loadCellsFrom]
      · have hle : olds.length * sz ≤ conc.size := by rw [g2]; exact Nat.mul_le_mul_right _ hoc
        refine ⟨conc.toList.take (olds.length * sz), by simp; omega, ?_, fun i el j av hi hj => ?_⟩
        · refine firstCells_at (w := w.drew) (by simp; omega) (fun k u hk => ?_) _
          rw [List.getElem?_take] at hk
          split at hk
          · have : conc[k]? = some u := by simpa using hk
            have g1' : w.drew.heap[L.blk id]? = some (.cells conc et (0, 0)) := g1
            simp [World.cell?, g1', this]
          · cases hk
        · obtain ⟨v, k1, k2, k3⟩ := g3 i el j av hi hj
          refine ⟨v, ?_, k2, k3⟩
          rw [List.getElem?_take, if_pos (place_lt (hlt hi) (hltj (hos el (List.mem_of_getElem? hi)) hj))]
          simpa using k1
    obtain ⟨ovals, hol, hfo, hog⟩ := holds
    have hrun := run_append_new (ty := ty) ht hu hn hi hz base olds.length c news.length x ovals vals hlen (by rw [hsz]; exact hfo) (by rw [hsz]; exact hf') (by omega) (by omega) hby
    generalize hcap' : grownCap w (olds.length + news.length) c e = cap' at hrun
    have hge : olds.length + news.length ≤ cap' := by rw [← hcap']; exact grownCap_ge w _ _ _
    rw [← Array.append_assoc] at hrun
    generalize hconc : ovals.toArray ++ vals.toArray ++ Builtin.zeroCells z.cells (cap' - (olds.length + news.length)) = conc' at hrun
    have hcz : conc'.size = cap' * sz := by
      rw [← hconc]
      simp only [Array.size_append, List.size_toArray, size_zeroCells, hol, hvl, ← Nat.add_mul]
      rw [show z.cells.size = sz from by simpa using hzs, ← Nat.add_mul]
      congr 1
      omega
    have hget : ∀ k, k < (olds.length + news.length) * sz → conc'[k]? = if k < olds.length * sz then ovals[k]? else vals[k - olds.length * sz]? := by
      intro k hk
      rw [← hconc]
      rw [Nat.add_mul] at hk
      rw [Array.getElem?_append_left (by simp; omega)]
      by_cases h1 : k < olds.length * sz
      · rw [if_pos h1, Array.getElem?_append_left (by simp; omega)]; simp
      · rw [if_neg h1, Array.getElem?_append_right (by simp; omega)]; simp [hol]
    obtain ⟨he, hs'⟩ := sim_upd (w' := w.drew.alloc (.cells conc' e)) hs id w.heap.size cap' sz (L.ver id + 1) (.row sz (olds ++ news)) (by omega) rfl rfl rfl (by simp) (fun k hk _ => Go.RowKit.Below.heap_alloc w.drew _ k hk) (.inl (Nat.le_refl _)) (fun _ => by simp)
      (fun he => objrep_new hs he (heap_alloc_new w.drew _) hall (by simpa using hge) hcz (fun i el j av hi hj => by
        have hj' := hltj (hall el (List.mem_of_getElem? hi)) hj
        have hi' := hlt hi
        rw [List.length_append] at hi'
        rw [hget _ (place_lt hi' hj')]
        rw [List.getElem?_append] at hi
        split at hi
        · rename_i hlo
          rw [if_pos (place_lt hlo hj')]
          exact hog i el j av hi hj
        · rename_i hlo
          have hge' : olds.length * sz ≤ i * sz := Nat.mul_le_mul_right _ (by omega)
          rw [if_neg (by omega), show i * sz + j - olds.length * sz = (i - olds.length) * sz + j from by rw [Nat.sub_mul]; omega]
          exact hrep _ el j av hi hj))
    exact ⟨_, _, _, _, hrun, he, hs', by simp [Loc.upd], fun _ => ⟨_, _, rfl, hge, by simp [Loc.upd], fun _ => by simp [Loc.upd]⟩⟩
theorem op_append {x y : Operand} {t u e sz : Nat} {ud : TypeDesc} {inf : TypeInfo} {z : Value} {a b : AVal} {olds news : List (List AVal)} (id : Nat) (ht : P.underlying t = some (.slice e)) (hu : P.underlying u = some ud) (hn : notInt ud = true) (hi : P.info? e = some inf) (hz : inf.zero = some z)
    (hsz : inf.size = sz) (h0 : 0 < sz) (hzs : z.cells.toList.length = sz) (hx : E x = some a) (hy : E y = some b) (hh : Head σ sz id a olds)
    (hsrc : ∀ ok L w v, Sim ok L σ w → Rep ok L w b v → Src P ok L w sz v news)
    (h63 : olds.length + news.length ≤ 9223372036854775807) (hby : (olds.length + news.length) * inf.bytes ≤ 140737488355328) :
    OpR P ⟨d, .call { callee := .builtin .append, args := #[x, y], argTypes := #[t, u] }, ty, pos, after, guard⟩ E σ (fun r σ' => ∃ ver, r = .slice id ver 0 (olds.length + news.length) ∧ σ' = σ.put id ver (.row sz (olds ++ news))) := by
  intro ok L w ρ hs hr
  have hv : RepL ok L w a (ρ x) := by
    have := hr x (by simp [Op.operands, Call.operands]) _ hx
    cases hh <;> exact this
  have hy' := hsrc ok L w _ hs (hr y (by simp [Op.operands, Call.operands]) _ hy)
  obtain ⟨v', w', L', ver', h1, h2, h3, h4⟩ := append_core (ty := ty) ht hu hn hi hz hsz h0 hzs hs hh hv hy' h63 hby
  refine ⟨_, _, v', w', ok, L', ⟨ver', rfl, rfl⟩, .inl ?_, h2, h3, h4⟩
  simp [execOp, resolve, invoke, builtin, h1]
end
end Go.Proofs.YtcgdlhkiecommaaGreatDoor
/- The engine, part 7: structs and arrays as values, tuples, cuts, calls and what may be lent to them. -/

namespace Go.Proofs.YtcgdlhkiecommaaGreatDoor
open Go
section
variable {P : Program} {n : Nat} {Q : APost} {env : Env} {σ σ' : Store} {ops : Array Oper} {rest : List Oper}
variable {E : Operand → Option AVal} {d : Option Tmp} {ty : TypeId} {pos : String} {after : Array Edge} {guard : Option (Nat × Bool)}
theorem run_part {ok : Nat → Prop} {L : Loc} {w : World} {t : TypeId} {td : TypeDesc} {inf : TypeInfo} {cells : List AVal} {vs : List Value} {off : Nat} {a : AVal} (ht : P.underlying t = some td) (hi : P.info? t = some inf) (h : All2 (RepL ok L w) cells vs) (ha : asOne (TypeDesc.isAggB td) inf.size (cells.drop off) = some a) :
    ∃ v, (part t vs.toArray off).run P w = .ok v w ∧ Rep ok L w a v := by
  have hl := All2.length _ _ h
  cases hb : TypeDesc.isAggB td with
  | false =>
    rw [hb] at ha
    have h0 : cells[off]? = some a := by simpa [asOne, List.head?_eq_getElem?] using ha
    obtain ⟨v, h1, h2⟩ := All2.get _ _ h off a h0
    exact ⟨v, by simp [part, run_isAgg' ht, hb, h1], h2.rep h2.leaf⟩
  | true =>
    rw [hb] at ha
    simp only [asOne] at ha
    split at ha
    · rename_i hk
      cases ha
      refine ⟨.agg (vs.toArray.extract off (off + inf.size)), by simp [part, run_isAgg' ht, hb, sizeOf, typeInfo, hi], (vs.drop off).take inf.size, ?_, ?_⟩
      · apply congrArg
        apply Array.ext'
        simp [Array.toList_extract, List.extract_eq_take_drop]
      · refine All2.of_get _ _ (by simp; omega) fun i x y hx hy => ?_
        rw [List.getElem?_take] at hx hy
        split at hx
        · rename_i hlt
          rw [if_pos hlt] at hy
          rw [List.getElem?_drop] at hx hy
          obtain ⟨v, h1, h2⟩ := All2.get _ _ h _ _ hx
          rw [h1] at hy
          cases hy
          exact h2
        · cases hx
    · cases ha
theorem op_field {x : Operand} {s f off : Nat} {fs : Array Field} {fl : Field} {td : TypeDesc} {inf : TypeInfo} {cells : List AVal} {a : AVal} (hs' : P.underlying s = some (.struct fs)) (hf : fs[f]? = some fl) (ht : P.underlying fl.type = some td) (hi : P.info? fl.type = some inf) (hoff : fl.offset = off)
    (hx : E x = some (.agg cells)) (ha : asOne (TypeDesc.isAggB td) inf.size (cells.drop off) = some a) : OpTo P ⟨d, .field s x f, ty, pos, after, guard⟩ E σ a σ :=
  op_value fun ok L w ρ hs hr => by
    obtain ⟨vs, h1, h2⟩ := hr x (by simp [Op.operands]) _ hx
    obtain ⟨v, h3, h4⟩ := run_part (P := P) (t := fl.type) ht hi h2 ha
    refine ⟨v, ?_, h4⟩
    simp [execOp, Instr.field, run_underlying hs', hf, h1, asAgg, hoff, h3]
theorem op_extract {x : Operand} {i : Nat} {comps : List AVal} {a : AVal} (hx : E x = some (.tuple comps)) (ha : comps[i]? = some a) (hf : a.flat = true) : OpTo P ⟨d, .extract x i, ty, pos, after, guard⟩ E σ a σ :=
  op_value fun ok L w ρ hs hr => by
    obtain ⟨vs, h1, h2⟩ := hr x (by simp [Op.operands]) _ hx
    obtain ⟨v, h3, h4⟩ := All2.get _ _ h2 i a ha
    exact ⟨v, by simp [execOp, Instr.extract, h1, h3], rep_of h4 hf⟩
def avals (E : Operand → Option AVal) : List Operand → Option (List AVal)
  | [] => some []
  | x :: xs => match E x, avals E xs with
    | some a, some as => some (a :: as)
    | _, _ => none
theorem avals_rep {ok : Nat → Prop} {L : Loc} {w : World} {ρ : Operand → Value} : ∀ (xs : List Operand) (as : List AVal), (∀ x ∈ xs, ∀ b, E x = some b → Rep ok L w b (ρ x)) → avals E xs = some as → All2 (Rep ok L w) as (xs.map ρ)
  | [], as, _, h => by simp [avals] at h; subst h; trivial
  | x :: xs, as, hr, h => by
    simp only [avals] at h
    split at h
    · rename_i a as' h1 h2
      cases h
      exact ⟨hr x (by simp) a h1, avals_rep xs as' (fun y hy => hr y (by simp [hy])) h2⟩
    · cases h
theorem avals_leaf {ok : Nat → Prop} {L : Loc} {w : World} : ∀ (as : List AVal) (vs : List Value), All2 (Rep ok L w) as vs → as.all AVal.leaf = true → All2 (RepL ok L w) as vs
  | [], [], _, _ => trivial
  | a :: as, v :: vs, ⟨h1, h2⟩, h => by
    simp only [List.all_cons, Bool.and_eq_true] at h
    exact ⟨h1.toL h.1, avals_leaf as vs h2 h.2⟩
  | [], _ :: _, h, _ => h.elim
  | _ :: _, [], h, _ => h.elim
theorem op_closure {f : FuncId} {caps : Array Operand} {as : List AVal} (hc : avals E caps.toList = some as) (hl : as.all AVal.leaf = true) : OpTo P ⟨d, .makeFunc (.func f) #[] caps, ty, pos, after, guard⟩ E σ (.fn f as) σ :=
  op_value fun ok L w ρ hs hr => by
    have h1 := avals_rep (ρ := ρ) (ok := ok) (L := L) (w := w) caps.toList as (fun x hx b hb => hr x (by simpa [Op.operands] using hx) b hb) hc
    refine ⟨.func (.func f) #[] (caps.map ρ), by simp [execOp, Instr.makeFunc], _, ?_, avals_leaf _ _ h1 hl⟩
    congr 1
    apply Array.ext'
    simp
def OptI (E : Operand → Option AVal) (o : Option Operand) (dflt l : Nat) : Prop := (o = none ∧ l = dflt) ∨ ∃ x k i, o = some x ∧ E x = some (.v (.int k i)) ∧ i = (l : Int)
theorem OptI.of {x : Operand} {k : IntKind} {i : Int} {l dflt : Nat} (h : E x = some (.v (.int k i))) (he : i = (l : Int)) : OptI E (some x) dflt l := .inr ⟨x, k, i, rfl, h, he⟩
theorem OptI.none {l : Nat} : OptI E .none l l := .inl ⟨rfl, rfl⟩
theorem optI_mem {lo : Option Operand} {dflt l : Nat} {ok : Nat → Prop} {L : Loc} {w : World} {ρ : Operand → Value} (h : OptI E lo dflt l) (hr : ∀ x, lo = some x → ∀ b, E x = some b → Rep ok L w b (ρ x)) : (lo = none ∧ l = dflt) ∨ ∃ x k, lo = some x ∧ ρ x = .int k (l : Int) := by
  rcases h with h | ⟨x, k, i, h1, h2, rfl⟩
  · exact .inl h
  · exact .inr ⟨x, k, h1, rep_bool (hr x h1 _ h2)⟩
theorem run_bounds {w : World} {isSlice : Bool} {len cap l h : Nat} {ρ : Operand → Value} {lo hi : Option Operand} (hlo : (lo = none ∧ l = 0) ∨ ∃ x k, lo = some x ∧ ρ x = .int k (l : Int)) (hhi : (hi = none ∧ h = len) ∨ ∃ x k, hi = some x ∧ ρ x = .int k (h : Int)) (hlh : l ≤ h) (hhc : h ≤ cap) :
    (Instr.sliceBounds isSlice len cap (lo.map ρ) (hi.map ρ) none).run P w = .ok (l, h, cap) w := by
  rcases hlo with ⟨rfl, rfl⟩ | ⟨x, k, rfl, h1⟩ <;> rcases hhi with ⟨rfl, rfl⟩ | ⟨y, k', rfl, h2⟩ <;>
    (simp only [Option.map_some, Option.map_none, Instr.sliceBounds, Instr.sliceBound, asIntOf, *]; simp [hlh, hhc, *])
theorem op_cut_string {x : Operand} {t : TypeId} {lo hi : Option Operand} {s : ByteArray} {l h : Nat} (ht : P.underlying t = some .string) (hx : E x = some (.v (.string s))) (hlo : OptI E lo 0 l) (hhi : OptI E hi s.size h) (hlh : l ≤ h) (hhs : h ≤ s.size) :
    OpTo P ⟨d, .slice t x lo hi none, ty, pos, after, guard⟩ E σ (.v (.string (s.extract l h))) σ :=
  op_value fun ok L w ρ hs hr => by
    have h1 := rep_bool (hr x (by simp [Op.operands]) _ hx)
    have h2 := optI_mem hlo (ρ := ρ) (ok := ok) (L := L) (w := w) (fun y hy => hr y (by simp [Op.operands, hy]))
    have h3 := optI_mem hhi (ρ := ρ) (ok := ok) (L := L) (w := w) (fun y hy => hr y (by simp [Op.operands, hy]))
    have h4 := run_bounds (P := P) (w := w) (isSlice := false) h2 h3 hlh hhs
    refine ⟨_, ?_, RepC.v _⟩
    simp [execOp, Instr.sliceAt, run_underlying ht, Instr.slice, h1, h4]
theorem op_cut_list {x : Operand} {t e sz : Nat} {inf : TypeInfo} {lo hi : Option Operand} {els : List (List AVal)} {l h : Nat} (ht : P.underlying t = some (.slice e)) (hi' : P.info? e = some inf) (hsz : inf.size = sz) (hx : E x = some (.list sz els)) (hlo : OptI E lo 0 l) (hhi : OptI E hi els.length h) (hlh : l ≤ h) (hhs : h ≤ els.length) :
    OpTo P ⟨d, .slice t x lo hi none, ty, pos, after, guard⟩ E σ (.list sz ((els.drop l).take (h - l))) σ :=
  op_value fun ok L w ρ hs hr => by
    obtain ⟨a, c, h1, hc, hh⟩ := RepC.list_form (hr x (by simp [Op.operands]) _ hx)
    have h2 := optI_mem hlo (ρ := ρ) (ok := ok) (L := L) (w := w) (fun y hy => hr y (by simp [Op.operands, hy]))
    have h3 := optI_mem hhi (ρ := ρ) (ok := ok) (L := L) (w := w) (fun y hy => hr y (by simp [Op.operands, hy]))
    have h4 := run_bounds (P := P) (w := w) (isSlice := true) h2 h3 hlh (Nat.le_trans hhs hc)
    have hlen : ((els.drop l).take (h - l)).length = h - l := by simp; omega
    refine ⟨.slice (if c = l then a else a.map (·.add (l * sz))) (h - l) (c - l), by simp [execOp, Instr.sliceAt, run_underlying ht, Instr.slice, h1, h4, sizeOf, typeInfo, hi', hsz], ?_⟩
    by_cases hne : h - l = 0
    · have : (els.drop l).take (h - l) = [] := List.eq_nil_of_length_eq_zero (by omega)
      rw [this, hne]
      exact RepC.empty _ _ _
    · rcases hh with rfl | ⟨b, o, vs, rfl, hok, hs1, hcell, hrep, h1'⟩
      · simp at hhs; omega
      · rw [if_neg (by omega)]
        simp only [Option.map_some, addr_add0]
        have hg : ∀ i e, ((els.drop l).take (h - l))[i]? = some e → els[l + i]? = some e := by
          intro i e hi
          rw [List.getElem?_take] at hi
          split at hi
          · rwa [List.getElem?_drop] at hi
          · cases hi
        have key := RepC.list (ok := ok) (w := w) sz ((els.drop l).take (h - l)) b (o + l * sz) (c - l) (fun i j => vs (l + i) j) hok (by rw [hlen]; omega) (fun e he => hs1 e (List.mem_of_mem_drop (List.mem_of_mem_take he))) (fun i e j av hi hj => by
          have := hcell _ _ _ _ (hg i e hi) hj
          rw [show o + l * sz + i * sz + j = o + (l + i) * sz + j from by rw [Nat.add_mul]; omega]
          exact this) (fun i e j av hi hj => h1' _ _ _ _ (hg i e hi) hj) (fun i e j av hi hj => hrep _ _ _ _ (hg i e hi) hj)
        rw [hlen] at key
        exact key
end
end Go.Proofs.YtcgdlhkiecommaaGreatDoor
/- The engine, part 8: values built; calls; what is lent to a call, what is handed over. -/

namespace Go.Proofs.YtcgdlhkiecommaaGreatDoor
open Go
section
variable {P : Program} {n : Nat} {Q : APost} {env : Env} {σ σ' : Store} {ops : Array Oper} {rest : List Oper}
variable {E : Operand → Option AVal} {d : Option Tmp} {ty : TypeId} {pos : String} {after : Array Edge} {guard : Option (Nat × Bool)}
def fillA (place : Nat → Option (Nat × Nat)) (cells : List AVal) : List (Nat × AVal) → Option (List AVal)
  | [] => some cells
  | (i, a) :: rest =>
    match place i with
    | none => none
    | some (off, size) => if a.cells.length = size ∧ off + size ≤ cells.length then fillA place (splice cells off a.cells) rest else none
theorem foldl_set (vs : List Value) (off k : Nat) (cells : Array Value) (h : off + k + vs.length ≤ cells.size) :
    ((vs.zipIdx k).foldl (fun cs (c : Value × Nat) => cs.setIfInBounds (off + c.2) c.1) cells).toList = cells.toList.take (off + k) ++ vs ++ cells.toList.drop (off + k + vs.length) := by
  induction vs generalizing k cells with
  | nil => simp
  | cons v vs ih =>
    simp only [List.zipIdx_cons, List.foldl_cons, List.length_cons] at h ⊢
    rw [ih (k + 1) _ (by simp; omega)]
    have hlt : off + k < cells.toList.length := by simp; omega
    simp only [Array.toList_setIfInBounds]
    rw [List.set_eq_take_append_cons_drop, if_pos hlt]
    have hl : (cells.toList.take (off + k)).length = off + k := by simp; omega
    rw [show off + (k + 1) = (off + k) + 1 from by omega]
    rw [List.take_append, List.drop_append, hl]
    simp only [Nat.add_sub_cancel_left]
    rw [show off + k + 1 + vs.length - (off + k) = vs.length + 1 from by omega]
    rw [List.drop_eq_nil_of_le (as := cells.toList.take (off + k)) (by rw [hl]; omega)]
    rw [List.take_of_length_le (l := cells.toList.take (off + k)) (by rw [hl]; omega)]
    simp [List.drop_drop]
    congr 1
    omega
theorem All2.append {α β : Type} {R : α → β → Prop} : ∀ {as : List α} {bs : List β} {as' : List α} {bs' : List β}, All2 R as bs → All2 R as' bs' → All2 R (as ++ as') (bs ++ bs')
  | [], [], _, _, _, h => h
  | _ :: _, _ :: _, _, _, ⟨h1, h2⟩, h => ⟨h1, All2.append h2 h⟩
  | [], _ :: _, _, _, h, _ => h.elim
  | _ :: _, [], _, _, h, _ => h.elim
theorem All2.take {α β : Type} {R : α → β → Prop} : ∀ {as : List α} {bs : List β} (k : Nat), All2 R as bs → All2 R (as.take k) (bs.take k)
  | [], [], k, _ => by simp [All2]
  | _ :: _, _ :: _, 0, _ => by simp [All2]
  | _ :: _, _ :: _, k + 1, ⟨h1, h2⟩ => ⟨h1, All2.take k h2⟩
  | [], _ :: _, _, h => h.elim
  | _ :: _, [], _, h => h.elim
theorem All2.drop {α β : Type} {R : α → β → Prop} : ∀ {as : List α} {bs : List β} (k : Nat), All2 R as bs → All2 R (as.drop k) (bs.drop k)
  | [], [], k, _ => by simp [All2]
  | _ :: _, _ :: _, 0, h => h
  | _ :: _, _ :: _, k + 1, ⟨h1, h2⟩ => All2.drop k h2
  | [], _ :: _, _, h => h.elim
  | _ :: _, [], _, h => h.elim
theorem fill_rep {ok : Nat → Prop} {L : Loc} {w : World} {ρ : Operand → Value} (hs : Sim ok L σ w) (place : Nat → Option (Nat × Nat)) : ∀ (parts : List (Nat × Operand)) (pa : List (Nat × AVal)) (cells : List AVal) (vs : Array Value) (res : List AVal), All2 (RepL ok L w) cells vs.toList →
    All2 (fun (p : Nat × AVal) (q : Nat × Operand) => p.1 = q.1 ∧ Rep ok L w p.2 (ρ q.2) ∧ p.2.cells.all AVal.oneB = true ∧ p.2.cells.all (AVal.live σ) = true) pa parts → fillA place cells pa = some res →
    ∃ out : Array Value, Instr.fill place vs (parts.map fun q => (q.1, ρ q.2)) = some out ∧ All2 (RepL ok L w) res out.toList := by
  intro parts
  induction parts with
  | nil =>
    intro pa cells vs res hc hp hf
    cases pa with
    | nil => simp only [fillA, Option.some.injEq] at hf; subst hf; exact ⟨vs, by simp [Instr.fill], hc⟩
    | cons _ _ => exact hp.elim
  | cons q parts ih =>
    intro pa cells vs res hc hp hf
    cases pa with
    | nil => exact hp.elim
    | cons p pa =>
      obtain ⟨⟨e, hr, h1, hl⟩, hp⟩ := hp
      obtain ⟨i, a⟩ := p
      obtain ⟨i', x⟩ := q
      simp only at e hr h1 hl
      subst e
      simp only [fillA] at hf
      cases hpl : place i with
      | none => rw [hpl] at hf; cases hf
      | some os =>
        obtain ⟨off, size⟩ := os
        rw [hpl] at hf
        simp only at hf
        split at hf
        · rename_i hcond
          obtain ⟨c1, c2⟩ := hcond
          obtain ⟨k1, _⟩ := hr.cells hs h1 hl
          have kl := All2.length _ _ k1
          have hcl := All2.length _ _ hc
          have hsz : (ρ x).cells.size = size := by rw [← c1, kl]; simp
          have hfit : off + size ≤ vs.size := by rw [show vs.size = cells.length from by rw [hcl]; simp]; exact c2
          have hfold := foldl_set (ρ x).cells.toList off 0 vs (by simp; omega)
          obtain ⟨out, o1, o2⟩ := ih pa (splice cells off a.cells) ((ρ x).cells.zipIdx.foldl (fun cs (c : Value × Nat) => cs.setIfInBounds (off + c.2) c.1) vs) res (by
            rw [← Array.foldl_toList, Array.toList_zipIdx, hfold]
            simp only [Nat.add_zero]
            refine All2.append (All2.append (All2.take off hc) k1) ?_
            rw [← kl]
            exact All2.drop _ hc) hp hf
          refine ⟨out, ?_, o2⟩
          simp only [List.map_cons, Instr.fill, hpl]
          rw [if_neg (by simp [hsz]; omega)]
          exact o1
        · cases hf
def partsA (E : Operand → Option AVal) : List (Nat × Operand) → Option (List (Nat × AVal))
  | [] => some []
  | (i, x) :: r => match E x, partsA E r with
    | some a, some as => some ((i, a) :: as)
    | _, _ => none
def okPart (σ : Store) (a : AVal) : Bool := a.cells.all AVal.oneB && a.cells.all (AVal.live σ)
theorem partsA_rep {ok : Nat → Prop} {L : Loc} {w : World} {ρ : Operand → Value} : ∀ (ps : List (Nat × Operand)) (as : List (Nat × AVal)), (∀ p ∈ ps, ∀ b, E p.2 = some b → Rep ok L w b (ρ p.2)) → partsA E ps = some as → as.all (fun p => okPart σ p.2) = true →
    All2 (fun (p : Nat × AVal) (q : Nat × Operand) => p.1 = q.1 ∧ Rep ok L w p.2 (ρ q.2) ∧ p.2.cells.all AVal.oneB = true ∧ p.2.cells.all (AVal.live σ) = true) as ps
  | [], as, _, h, _ => by simp [partsA] at h; subst h; trivial
  | (i, x) :: ps, as, hr, h, ho => by
    simp only [partsA] at h
    split at h
    · rename_i a as' h1 h2
      cases h
      simp only [List.all_cons, Bool.and_eq_true, okPart] at ho
      exact ⟨⟨rfl, hr (i, x) (by simp) a h1, ho.1.1, ho.1.2⟩, partsA_rep ps as' (fun p hp => hr p (by simp [hp])) h2 (by simpa [okPart] using ho.2)⟩
    · cases h
theorem op_build_struct {t : TypeId} {parts : Array (Nat × Operand)} {fs : Array Field} {inf : TypeInfo} {z : Value} {places : Array (Nat × Nat)} {pa : List (Nat × AVal)} {res : List AVal} (ht : P.underlying t = some (.struct fs)) (hi : P.info? t = some inf) (hz : inf.zero = some z)
    (hpl : ∀ w, ((fs.mapM fun f => do pure (f.offset, ← sizeOf f.type) : Sem (Array (Nat × Nat)))).run P w = .ok places w)
    (hp : partsA E parts.toList = some pa) (ho : pa.all (fun p => okPart σ p.2) = true) (hf : fillA (places[·]?) (z.cells.toList.map .v) pa = some res) :
    OpTo P ⟨d, .build t parts, ty, pos, after, guard⟩ E σ (.agg res) σ :=
  op_value fun ok L w ρ hs hr => by
    have h1 := partsA_rep (σ := σ) (ρ := ρ) (ok := ok) (L := L) (w := w) parts.toList pa (fun p hp b hb => hr p.2 (by simp [Op.operands]; exact ⟨p.1, by simpa using hp⟩) b hb) hp ho
    obtain ⟨out, o1, o2⟩ := fill_rep hs (places[·]?) parts.toList pa _ z.cells res (All2.map_v ok L w _) h1 hf
    refine ⟨.agg out, ?_, out.toList, by simp, o2⟩
    have e : (parts.map fun (p : Nat × Operand) => (p.1, ρ p.2)).toList = parts.toList.map fun q => (q.1, ρ q.2) := by simp
    simp only [execOp, Instr.build, zeroValue, typeInfo, Sem.run_bind, run_program, hi, hz, run_underlying ht, Result.andThen_ok, Sem.run_pure, hpl, e, o1]
theorem map_range_fill {z : Array Value} {sz m : Nat} (hz : z.size = sz) (h0 : 0 < sz) : ((Array.range (m * sz)).map (z[· % z.size]!)).toList = (List.replicate m z.toList).flatten := by
  subst hz
  induction m with
  | zero => simp
  | succ m ih =>
    apply List.ext_getElem?
    intro i
    rw [List.replicate_succ', List.flatten_append, ← ih]
    simp only [Array.toList_map, Array.toList_range, List.getElem?_map, List.flatten_singleton]
    rw [List.getElem?_append]
    simp only [List.length_map, List.length_range]
    by_cases h : i < m * z.size
    · rw [if_pos h, List.getElem?_map, List.getElem?_range (by rw [Nat.add_mul]; omega), List.getElem?_range h]
    · rw [if_neg h]
      by_cases h2 : i < (m + 1) * z.size
      · rw [List.getElem?_range h2]
        have e : i % z.size = i - m * z.size := by
          rw [Nat.add_mul] at h2
          have : i = z.size * m + (i - m * z.size) := by rw [Nat.mul_comm]; omega
          rw [this, Nat.mul_add_mod, Nat.mod_eq_of_lt (by omega)]
          rw [Nat.mul_comm]; omega
        have hlt : i - m * z.size < z.size := by rw [Nat.add_mul] at h2; omega
        simp [e, hlt]
      · rw [List.getElem?_eq_none (by simpa using h2), List.getElem?_eq_none (by rw [Nat.add_mul] at h2; simp; omega)]
        rfl
def chunk (sz : Nat) : Nat → List AVal → List (List AVal)
  | 0, _ => []
  | m + 1, l => l.take sz :: chunk sz m (l.drop sz)
theorem chunk_get (sz : Nat) : ∀ (m : Nat) (l : List AVal) (i : Nat), i < m → (chunk sz m l)[i]? = some ((l.drop (i * sz)).take sz)
  | m + 1, l, 0, _ => by simp [chunk]
  | m + 1, l, i + 1, h => by
    simp only [chunk, List.getElem?_cons_succ]
    rw [chunk_get sz m _ i (by omega), List.drop_drop]
    congr 3
    rw [Nat.add_mul]; omega
theorem chunk_length (sz : Nat) : ∀ (m : Nat) (l : List AVal), (chunk sz m l).length = m
  | 0, _ => rfl
  | m + 1, l => by simp [chunk, chunk_length sz m]
theorem chunk_at {sz m : Nat} {l : List AVal} {i j : Nat} {el : List AVal} {av : AVal} (h1 : (chunk sz m l)[i]? = some el) (h2 : el[j]? = some av) : i < m ∧ j < sz ∧ l[i * sz + j]? = some av := by
  have hi : i < m := by
    rcases Nat.lt_or_ge i m with h | h
    · exact h
    · rw [List.getElem?_eq_none (by rw [chunk_length]; exact h)] at h1; cases h1
  rw [chunk_get sz m l i hi] at h1
  cases h1
  rw [List.getElem?_take] at h2
  split at h2
  · rename_i hj
    rw [List.getElem?_drop] at h2
    exact ⟨hi, hj, h2⟩
  · cases h2
theorem buildSlice_core {ok : Nat → Prop} {L : Loc} {w : World} {ρ : Operand → Value} {t e m sz : Nat} {parts : Array (Nat × Operand)} {inf : TypeInfo} {z : Value} {pa : List (Nat × AVal)} {res : List AVal} (hs : Sim ok L σ w) (hr : ∀ p ∈ parts.toList, ∀ b, E p.2 = some b → Rep ok L w b (ρ p.2)) (ht : P.underlying t = some (.slice e)) (hi : P.info? e = some inf) (hz : inf.zero = some z) (hsz : inf.size = sz) (h0 : 0 < sz) (hzs : z.cells.toList.length = sz) (hm : m * sz ≤ 16777216)
    (hp : partsA E parts.toList = some pa) (ho : pa.all (fun p => okPart σ p.2) = true) (hf : fillA (fun i => some (i * sz, sz)) ((List.replicate m (z.cells.toList.map .v)).flatten) pa = some res) :
    ∃ out : Array Value, (Instr.buildSlice t m (parts.map fun (p : Nat × Operand) => (p.1, ρ p.2))).run P w = .ok (.slice (some ⟨w.heap.size, 0, none⟩) m m) (w.alloc (.cells out e)) ∧ All2 (RepL ok L w) res out.toList ∧ out.size = m * sz := by
  have h1 := partsA_rep (σ := σ) (ρ := ρ) (ok := ok) (L := L) (w := w) parts.toList pa hr hp ho
  have hzz : z.cells.size = sz := by simpa using hzs
  have hstart : All2 (RepL ok L w) ((List.replicate m (z.cells.toList.map .v)).flatten) ((Array.range (m * sz)).map (z.cells[· % z.cells.size]!)).toList := by
    rw [map_range_fill hzz h0]
    have : (List.replicate m (z.cells.toList.map AVal.v)).flatten = ((List.replicate m z.cells.toList).flatten).map AVal.v := by
      rw [List.map_flatten]; simp
    rw [this]
    exact All2.map_v ok L w _
  obtain ⟨out, o1, o2⟩ := fill_rep hs (fun i => some (i * sz, sz)) parts.toList pa _ _ res hstart h1 hf
  have hlen : ∀ (place : Nat → Option (Nat × Nat)) (pa : List (Nat × AVal)) (cells res : List AVal), fillA place cells pa = some res → res.length = cells.length := by
    intro place pa
    induction pa with
    | nil => intro cells res h; simp only [fillA, Option.some.injEq] at h; rw [h]
    | cons p pa ih =>
      intro cells res h
      obtain ⟨i, a⟩ := p
      simp only [fillA] at h
      split at h
      · cases h
      · split at h
        · rename_i hc
          rw [ih _ _ h]
          simp only [splice, List.length_append, List.length_take, List.length_drop]
          omega
        · cases h
  refine ⟨out, ?_, o2, ?_⟩
  · have e : (parts.map fun (p : Nat × Operand) => (p.1, ρ p.2)).toList = parts.toList.map fun q => (q.1, ρ q.2) := by simp
    have hb : ¬ (m * sz > 2 ^ 24) := by omega
    simp only [Instr.buildSlice, Sem.run_bind, run_underlying ht, Result.andThen_ok, sizeOf, typeInfo, run_program, hi, Sem.run_pure, hsz]
    by_cases hmz : m * sz = 0
    · rw [if_neg hb, if_pos hmz]
      have e2 : ∀ f : Nat → Value, (Array.range (m * sz)).map f = #[] := by intro f; rw [hmz]; simp
      rw [e2] at o1
      simp only [Sem.run_pure, Result.andThen_ok, e2, e, o1]
      simp [newRow]
    · rw [if_neg hb, if_neg hmz]
      simp only [zeroValue, typeInfo, Sem.run_bind, run_program, hi, hz, Result.andThen_ok, Sem.run_pure, e, o1]
      simp [newRow]
  · have h2 := All2.length _ _ o2
    have h3 := hlen _ _ _ _ hf
    rw [h3] at h2
    simp at h2
    rw [← h2]
    have : z.cells.size = sz := hzz
    simp [this]
theorem op_buildSlice_own {t e m sz : Nat} {parts : Array (Nat × Operand)} {inf : TypeInfo} {z : Value} {pa : List (Nat × AVal)} {res : List AVal} (id : Nat) (ht : P.underlying t = some (.slice e)) (hi : P.info? e = some inf) (hz : inf.zero = some z) (hsz : inf.size = sz) (h0 : 0 < sz) (hzs : z.cells.toList.length = sz) (hm : m * sz ≤ 16777216)
    (hp : partsA E parts.toList = some pa) (ho : pa.all (fun p => okPart σ p.2) = true) (hf : fillA (fun i => some (i * sz, sz)) ((List.replicate m (z.cells.toList.map .v)).flatten) pa = some res) (h1 : res.all AVal.oneB = true) (hl : res.all (AVal.live σ) = true) :
    OpR P ⟨d, .buildSlice t m parts, ty, pos, after, guard⟩ E σ (fun r σ' => ∃ ver, r = .slice id ver 0 m ∧ σ' = σ.put id ver (.row sz (chunk sz m res))) := by
  intro ok L w ρ hs hr
  obtain ⟨out, o1, o2, o3⟩ := buildSlice_core (E := E) hs (fun p hp b hb => hr p.2 (by simp [Op.operands]; exact ⟨p.1, by simpa using hp⟩) b hb) ht hi hz hsz h0 hzs hm hp ho hf
  have hrl : res.length = m * sz := by rw [All2.length _ _ o2]; simpa using o3
  obtain ⟨he, hs'⟩ := sim_upd (w' := w.alloc (.cells out e)) hs id w.heap.size m sz (L.ver id + 1) (.row sz (chunk sz m res)) (by omega) rfl rfl rfl (by simp) (fun k hk _ => Go.RowKit.Below.heap_alloc w _ k hk) (.inl (Nat.le_refl _)) (fun _ => by simp)
    (fun he => objrep_new hs he (heap_alloc_new w _) (fun el hel => by
        obtain ⟨i, hi'⟩ := List.getElem?_of_mem hel
        have hlt : i < m := by
          rcases Nat.lt_or_ge i m with h | h
          · exact h
          · rw [List.getElem?_eq_none (by rw [chunk_length]; exact h)] at hi'; cases hi'
        rw [chunk_get sz m res i hlt] at hi'
        cases hi'
        have : (i + 1) * sz ≤ m * sz := Nat.mul_le_mul_right _ hlt
        rw [Nat.add_mul] at this
        simp; omega) (by rw [chunk_length]; exact Nat.le_refl _) o3 (fun i el j av h1' h2' => by
      obtain ⟨_, _, h3⟩ := chunk_at h1' h2'
      obtain ⟨v, h4, h5⟩ := All2.get _ _ o2 _ _ h3
      have hm := List.mem_of_getElem? h3
      exact ⟨v, by simpa using h4, h5, h5.oneCell (List.all_eq_true.1 h1 av hm) (AVal.live_ver hs (List.all_eq_true.1 hl av hm))⟩))
  refine ⟨_, _, .slice (some ⟨w.heap.size, 0, none⟩) m m, _, ok, _, ⟨_, rfl, rfl⟩, .inl ?_, he, hs', by simp [Loc.upd], fun _ => ⟨_, _, rfl, Nat.le_refl _, by simp [Loc.upd], fun _ => by simp [Loc.upd]⟩⟩
  simp [execOp, o1]
theorem op_buildSlice {t e m sz : Nat} {parts : Array (Nat × Operand)} {inf : TypeInfo} {z : Value} {pa : List (Nat × AVal)} {res : List AVal} (ht : P.underlying t = some (.slice e)) (hi : P.info? e = some inf) (hz : inf.zero = some z) (hsz : inf.size = sz) (h0 : 0 < sz) (hzs : z.cells.toList.length = sz) (hm : m * sz ≤ 16777216)
    (hp : partsA E parts.toList = some pa) (ho : pa.all (fun p => okPart σ p.2) = true) (hf : fillA (fun i => some (i * sz, sz)) ((List.replicate m (z.cells.toList.map .v)).flatten) pa = some res) (h1 : res.all AVal.oneB = true) (hc : res.all AVal.clo1 = true) :
    OpTo P ⟨d, .buildSlice t m parts, ty, pos, after, guard⟩ E σ (.list sz (chunk sz m res)) σ := by
  intro ok L w ρ hs hr
  obtain ⟨out, o1, o2, o3⟩ := buildSlice_core (E := E) hs (fun p hp b hb => hr p.2 (by simp [Op.operands]; exact ⟨p.1, by simpa using hp⟩) b hb) ht hi hz hsz h0 hzs hm hp ho hf
  have hrl : res.length = m * sz := by rw [All2.length _ _ o2]; simpa using o3
  obtain ⟨he, hs'⟩ := sim_allocI hs (.cells out e)
  refine ⟨_, _, _, L, .inl (by simp [execOp, o1]; rfl), he, hs', ?_⟩
  have key : ∀ i el j av, (chunk sz m res)[i]? = some el → el[j]? = some av → ∃ v, out[i * sz + j]? = some v ∧ RepC ok w av v := by
    intro i el j av h1' h2'
    obtain ⟨_, _, h3⟩ := chunk_at h1' h2'
    obtain ⟨v, h4, h5⟩ := All2.get _ _ o2 _ _ h3
    exact ⟨v, by simpa using h4, h5.repC (List.all_eq_true.1 hc av (List.mem_of_getElem? h3))⟩
  have res' := RepC.list (ok := fun b => ok b ∨ b = w.heap.size) (w := w.alloc (.cells out e)) sz (chunk sz m res) w.heap.size 0 m (fun i j => (out[i * sz + j]?).getD undef) (.inr rfl) (by rw [chunk_length]; exact Nat.le_refl _) (fun el hel => by
        obtain ⟨i, hi'⟩ := List.getElem?_of_mem hel
        have hlt : i < m := by
          rcases Nat.lt_or_ge i m with h | h
          · exact h
          · rw [List.getElem?_eq_none (by rw [chunk_length]; exact h)] at hi'; cases hi'
        rw [chunk_get sz m res i hlt] at hi'
        cases hi'
        have : (i + 1) * sz ≤ m * sz := Nat.mul_le_mul_right _ hlt
        rw [Nat.add_mul] at this
        simp; omega) (fun i el j av h1' h2' => by
      obtain ⟨v, h3, _⟩ := key i el j av h1' h2'
      rw [World.cell?_alloc_new, Nat.zero_add, h3]; rfl) (fun i el j av h1' h2' => by
      obtain ⟨v, h3, h4⟩ := key i el j av h1' h2'
      rw [h3]
      obtain ⟨_, _, h5⟩ := chunk_at h1' h2'
      exact h4.oneCell (List.all_eq_true.1 h1 av (List.mem_of_getElem? h5))) (fun i el j av h1' h2' => by
      obtain ⟨v, h3, h4⟩ := key i el j av h1' h2'
      rw [h3]
      exact h4.mono (fun b hb => .inl hb) (fun b hb => Go.RowKit.Below.heap_alloc w _ b (hs.okd b hb).1))
  rw [chunk_length] at res'
  exact res'
end
end Go.Proofs.YtcgdlhkiecommaaGreatDoor
