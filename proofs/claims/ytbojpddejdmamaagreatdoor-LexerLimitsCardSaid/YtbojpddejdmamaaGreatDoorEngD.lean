/- The engine, part 4: memory: objects made, read, written. -/
import Derived.Test.YtbojpddejdmamaaGreatDoorEngC
set_option linter.unusedVariables false
set_option linter.unusedSimpArgs false
namespace Go.Proofs.YtbojpddejdmamaaGreatDoor
open Go

def Loc.upd (L : Loc) (id b c s v : Nat) : Loc where
  blk := fun k => if k = id then b else L.blk k
  cap := fun k => if k = id then c else L.cap k
  sz := fun k => if k = id then s else L.sz k
  ver := fun k => if k = id then v else L.ver k

section
variable {ok : Nat → Prop} {L : Loc} {σ : Store} {w w' : World}

theorem ObjRep.evo {ok' : Nat → Prop} {L' : Loc} {σ' : Store} {id ver : Nat} {o : AObj} (h : ObjRep ok L w id ver o) (hs : Sim ok L σ w) (he : Evo ok L σ w ok' L' σ' w')
    (hv : L'.ver id = L.ver id) (hb : L.cap id ≠ 0 → w'.heap[L.blk id]? = w.heap[L.blk id]?) : ObjRep ok' L' w' id ver o := by
  obtain ⟨b1, b2, b3⟩ := he.stay id hv
  cases o with
  | row sz els =>
    obtain ⟨h1, h2, h3, h4, h5⟩ := h
    refine ⟨hv.trans h1, b3.trans h2, h3, by rw [b2]; exact h4, fun hc => ?_⟩
    rw [b2] at hc
    obtain ⟨conc, e, g1, g2, g3⟩ := h5 hc
    refine ⟨conc, e, by rw [b1, hb hc]; exact g1, by rw [b2]; exact g2, fun i el j av hi hj => ?_⟩
    obtain ⟨v, k1, k2, k3⟩ := g3 i el j av hi hj
    exact ⟨v, k1, k2.evo hs he, k3⟩
  | map ents =>
    obtain ⟨h1, h2, es, clock, h3, h4, h5⟩ := h
    refine ⟨hv.trans h1, by rw [b2]; exact h2, es, clock, by rw [b1, hb h2]; exact h3, All2.mono ?_ _ _ h4, h5⟩
    rintro a m ⟨k1, k2⟩
    exact ⟨k1, k2.evo hs he⟩
  | iter keys seen =>
    obtain ⟨h1, h2, mb, es, clock, stamps, h3, h4, h5, h6⟩ := h
    obtain ⟨k1, k2⟩ := hs.okd mb h3
    exact ⟨hv.trans h1, by rw [b2]; exact h2, mb, es, clock, stamps, he.okm _ h3, (he.same mb k1 k2).trans h4, by rw [b1, hb h2]; exact h5, h6⟩

/-- An object is made anew, or moves: it is block b from now on. -/
theorem sim_upd (hs : Sim ok L σ w) (id b c s ver' : Nat) (obj : AObj) (hver : L.ver id < ver') (hos : w'.os = w.os) (htape : w'.tape = w.tape) (hout : w'.output = w.output) (hsize : w.heap.size ≤ w'.heap.size)
    (hsame : ∀ k, k < w.heap.size → k ≠ b → w'.heap[k]? = w.heap[k]?) (hb : w.heap.size ≤ b ∨ (L.blk id = b ∧ L.cap id ≠ 0 ∧ ∃ ver o, σ.get id = some (ver, o))) (hlt : c ≠ 0 → b < w'.heap.size)
    (hobj : Evo ok L σ w ok (L.upd id b c s ver') (σ.put id ver' obj) w' → ObjRep ok (L.upd id b c s ver') w' id ver' obj) :
    Evo ok L σ w ok (L.upd id b c s ver') (σ.put id ver' obj) w' ∧ Sim ok (L.upd id b c s ver') (σ.put id ver' obj) w' := by
  have hfoot : ∀ k, Foot (L.upd id b c s ver') (σ.put id ver' obj) k → k = b ∨ ∃ i v o, i ≠ id ∧ σ.get i = some (v, o) ∧ L.cap i ≠ 0 ∧ L.blk i = k := by
    rintro k ⟨i, v, o, h1, h2, h3⟩
    rw [Store.get_put] at h1
    by_cases e : id = i
    · subst e
      simp only [Loc.upd, if_pos] at h3
      exact .inl h3.symm
    · rw [if_neg e] at h1
      simp only [Loc.upd, if_neg (Ne.symm e)] at h2 h3
      exact .inr ⟨i, v, o, Ne.symm e, h1, h2, h3⟩
  have he : Evo ok L σ w ok (L.upd id b c s ver') (σ.put id ver' obj) w' := by
    refine ⟨hos, htape, hout, hsize, fun k hk hf => hsame k hk ?_, fun k hk hf => ?_, fun _ h => h, fun k h _ => .inl h, fun i => ?_, fun i hi => ?_⟩
    · rintro rfl
      rcases hb with hb | ⟨h1, h2, v, o, h3⟩
      · omega
      · exact hf ⟨id, v, o, h3, h2, h1⟩
    · rcases hfoot k hf with rfl | ⟨i, v, o, _, h1, h2, h3⟩
      · rcases hb with hb | ⟨h1, h2, v, o, h3⟩
        · omega
        · exact ⟨id, v, o, h3, h2, h1⟩
      · exact ⟨i, v, o, h1, h2, h3⟩
    · by_cases e : i = id
      · subst e; simp only [Loc.upd, if_pos]; omega
      · simp only [Loc.upd, if_neg e]; omega
    · by_cases e : i = id
      · subst e; simp only [Loc.upd, if_pos] at hi; omega
      · simp only [Loc.upd, if_neg e]; exact ⟨trivial, trivial, trivial⟩
  refine ⟨he, ?_⟩
  have hbne : ∀ i v o, i ≠ id → σ.get i = some (v, o) → L.cap i ≠ 0 → L.blk i ≠ b := by
    rintro i v o hi h1 h2 rfl
    rcases hb with hb | ⟨g1, g2, v', o', g3⟩
    · have := hs.lt _ ⟨i, v, o, h1, h2, rfl⟩; omega
    · exact hi (hs.inj i id v v' o o' h1 g3 h2 g2 g1.symm)
  constructor
  · intro i v o h
    rw [Store.get_put] at h
    by_cases e : id = i
    · subst e
      rw [if_pos rfl] at h
      simp only [Option.some.injEq, Prod.mk.injEq] at h
      obtain ⟨rfl, rfl⟩ := h
      exact hobj he
    · rw [if_neg e] at h
      refine (hs.objs i v o h).evo hs he (by simp only [Loc.upd, if_neg (Ne.symm e)]) (fun hc => hsame _ (hs.lt _ ⟨i, v, o, h, hc, rfl⟩) (hbne i v o (Ne.symm e) h hc))
  · intro k hf
    rcases hf with ⟨i, v, o, h1, h2, h3⟩
    rw [Store.get_put] at h1
    by_cases e : id = i
    · subst e
      simp only [Loc.upd, if_pos] at h2 h3
      rw [← h3]; exact hlt h2
    · rw [if_neg e] at h1
      simp only [Loc.upd, if_neg (Ne.symm e)] at h2 h3
      exact Nat.lt_of_lt_of_le (hs.lt k ⟨i, v, o, h1, h2, h3⟩) hsize
  · intro i j vi vj oi oj hi hj ci cj hbl
    rw [Store.get_put] at hi hj
    by_cases ei : id = i
    · by_cases ej : id = j
      · omega
      · rw [if_neg ej] at hj
        simp only [Loc.upd, if_neg (Ne.symm ej)] at cj hbl
        rw [if_pos ei.symm] at hbl
        exact absurd hbl.symm (hbne j vj oj (Ne.symm ej) hj cj)
    · rw [if_neg ei] at hi
      simp only [Loc.upd, if_neg (Ne.symm ei)] at ci hbl
      by_cases ej : id = j
      · rw [if_pos ej.symm] at hbl
        exact absurd hbl (hbne i vi oi (Ne.symm ei) hi ci)
      · rw [if_neg ej] at hj
        simp only [Loc.upd, if_neg (Ne.symm ej)] at cj
        rw [if_neg (Ne.symm ej)] at hbl
        exact hs.inj i j vi vj oi oj hi hj ci cj hbl
  · intro k hk
    obtain ⟨h1, h2⟩ := hs.okd k hk
    refine ⟨Nat.lt_of_lt_of_le h1 hsize, fun hf => h2 ?_⟩
    exact he.foot k h1 hf
  · exact hs.globEvo he

/-- What a named object holds is written. -/
theorem sim_set (hs : Sim ok L σ w) (id ver : Nat) (o0 obj : AObj) (hid : σ.get id = some (ver, o0)) (hcap : L.cap id ≠ 0) (hos : w'.os = w.os) (htape : w'.tape = w.tape) (hout : w'.output = w.output) (hsize : w'.heap.size = w.heap.size)
    (hsame : ∀ k, k ≠ L.blk id → w'.heap[k]? = w.heap[k]?)
    (hobj : Evo ok L σ w ok L (σ.put id ver obj) w' → ObjRep ok L w' id ver obj) :
    Evo ok L σ w ok L (σ.put id ver obj) w' ∧ Sim ok L (σ.put id ver obj) w' := by
  have hfoot : ∀ k, Foot L (σ.put id ver obj) k → Foot L σ k := by
    rintro k ⟨i, v, o, h1, h2, h3⟩
    rw [Store.get_put] at h1
    by_cases e : id = i
    · subst e; exact ⟨id, ver, o0, hid, h2, h3⟩
    · rw [if_neg e] at h1; exact ⟨i, v, o, h1, h2, h3⟩
  have he : Evo ok L σ w ok L (σ.put id ver obj) w' := by
    refine ⟨hos, htape, hout, by omega, fun k hk hf => hsame k ?_, fun k _ hf => hfoot k hf, fun _ h => h, fun k h _ => .inl h, fun i => Nat.le_refl _, fun i _ => ⟨rfl, rfl, rfl⟩⟩
    rintro rfl
    exact hf ⟨id, ver, o0, hid, hcap, rfl⟩
  refine ⟨he, ?_⟩
  constructor
  · intro i v o h
    rw [Store.get_put] at h
    by_cases e : id = i
    · subst e
      rw [if_pos rfl] at h
      simp only [Option.some.injEq, Prod.mk.injEq] at h
      obtain ⟨rfl, rfl⟩ := h
      exact hobj he
    · rw [if_neg e] at h
      exact (hs.objs i v o h).evo hs he rfl (fun hc => hsame _ (fun hbl => e (hs.inj id i ver v o0 o hid h hcap hc hbl.symm)))
  · intro k hf
    rw [hsize]; exact hs.lt k (hfoot k hf)
  · intro i j vi vj oi oj hi hj ci cj hbl
    rw [Store.get_put] at hi hj
    have gi : ∃ v o, σ.get i = some (v, o) := by
      by_cases e : id = i
      · subst e; exact ⟨_, _, hid⟩
      · rw [if_neg e] at hi; exact ⟨_, _, hi⟩
    have gj : ∃ v o, σ.get j = some (v, o) := by
      by_cases e : id = j
      · subst e; exact ⟨_, _, hid⟩
      · rw [if_neg e] at hj; exact ⟨_, _, hj⟩
    obtain ⟨v1, o1, g1⟩ := gi
    obtain ⟨v2, o2, g2⟩ := gj
    exact hs.inj i j v1 v2 o1 o2 g1 g2 ci cj hbl
  · intro k hk
    obtain ⟨h1, h2⟩ := hs.okd k hk
    exact ⟨by rw [hsize]; exact h1, fun hf => h2 (hfoot k hf)⟩
  · exact hs.globEvo he

/-- Nothing but garbage is made. -/
theorem sim_alloc (hs : Sim ok L σ w) (o : Obj) : Evo ok L σ w ok L σ (w.alloc o) ∧ Sim ok L σ (w.alloc o) := by
  have hb : ∀ k, k < w.heap.size → (w.alloc o).heap[k]? = w.heap[k]? := fun k hk => Go.RowKit.Below.heap_alloc w o k hk
  have he : Evo ok L σ w ok L σ (w.alloc o) :=
    ⟨rfl, rfl, rfl, by simp, fun k hk _ => hb k hk, fun _ _ h => h, fun _ h => h, fun _ h _ => .inl h, fun _ => Nat.le_refl _, fun _ _ => ⟨rfl, rfl, rfl⟩⟩
  refine ⟨he, ⟨fun i v o h => (hs.objs i v o h).evo hs he rfl (fun hc => hb _ (hs.lt _ ⟨i, v, o, h, hc, rfl⟩)), fun k hf => ?_, hs.inj, fun k hk => ?_, hs.globEvo he⟩⟩
  · have := hs.lt k hf; simp; omega
  · have := hs.okd k hk; exact ⟨by simp; omega, this.2⟩

/-- What is new is told as what may be read from now on. -/
theorem sim_allocI (hs : Sim ok L σ w) (o : Obj) : Evo ok L σ w (fun b => ok b ∨ b = w.heap.size) L σ (w.alloc o) ∧ Sim (fun b => ok b ∨ b = w.heap.size) L σ (w.alloc o) := by
  have hb : ∀ k, k < w.heap.size → (w.alloc o).heap[k]? = w.heap[k]? := fun k hk => Go.RowKit.Below.heap_alloc w o k hk
  have he : Evo ok L σ w (fun b => ok b ∨ b = w.heap.size) L σ (w.alloc o) :=
    ⟨rfl, rfl, rfl, by simp, fun k hk _ => hb k hk, fun _ _ h => h, fun _ h => .inl h, fun k h hk => h.elim .inl (fun e => by omega), fun _ => Nat.le_refl _, fun _ _ => ⟨rfl, rfl, rfl⟩⟩
  refine ⟨he, ⟨fun i v o h => (hs.objs i v o h).evo hs he rfl (fun hc => hb _ (hs.lt _ ⟨i, v, o, h, hc, rfl⟩)), fun k hf => ?_, hs.inj, fun k hk => ?_, hs.globEvo he⟩⟩
  · have := hs.lt k hf; simp; omega
  · rcases hk with hk | rfl
    · have := hs.okd k hk; exact ⟨by simp; omega, this.2⟩
    · exact ⟨by simp, fun hf => by have := hs.lt _ hf; omega⟩
end

/-! ### Rules whose result hangs on what is made -/
def OpR (P : Program) (o : Oper) (E : Operand → Option AVal) (σ : Store) (R : AVal → Store → Prop) : Prop :=
  ∀ ok L w (ρ : Operand → Value), Sim ok L σ w → (∀ x ∈ o.op.operands, ∀ b, E x = some b → Rep ok L w b (ρ x)) →
    ∃ a σ' v w' ok' L', R a σ' ∧ ((execOp ρ o).run P w = .ok (.value v) w' ∨ ((execOp ρ o).run P w = .ok .skip w' ∧ v = undef)) ∧ Evo ok L σ w ok' L' σ' w' ∧ Sim ok' L' σ' w' ∧ Rep ok' L' w' a v

section
variable {P : Program} {n : Nat} {Q : APost} {env : Env} {σ σ' : Store} {ops : Array Oper} {rest : List Oper}
theorem al_opR {o : Oper} {R : AVal → Store → Prop} (hop : OpR P o (aval env) σ R) (hg : o.guard = none) (hd : ∀ d, o.dst = some d → d < n)
    (k : ∀ a σ', R a σ' → AL P n ops rest Q (env.putd o.dst a) σ') : AL P n ops (o :: rest) Q env σ := by
  intro ok L w act h1 h2 h3 h4
  refine wpList_plain hg fun K hK => ?_
  obtain ⟨a, σ', v, w', ok', L', hR, hr, he, hs, hv⟩ := hop ok L w act.eval h1 (fun x _ b hx => h2.aval hx)
  have go : K (act.put o.dst v) w' := by
    refine hK _ _ (wpList_after (fun _ _ _ h => Post.after he h) _ _ _ (k a σ' hR ok' L' w' (act.put o.dst v) hs ?_ ?_ ?_))
    · exact (h2.evo h1 he).put hv (fun d hd' => h4 ▸ hd d hd')
    · rw [put_defers]; exact h3
    · rw [put_size]; exact h4
  unfold Oper.wp
  rcases hr with hr | ⟨hr, rfl⟩
  · rw [hr]; exact go
  · rw [hr]; exact go

variable {E : Operand → Option AVal} {d : Option Tmp} {ty : TypeId} {pos : String} {after : Array Edge} {guard : Option (Nat × Bool)}

/-- Of a type: are its values structs or arrays? -/
def TypeDesc.isAggB : TypeDesc → Bool
  | .struct _ | .array _ _ => true
  | _ => false
theorem run_isAgg' {t : TypeId} {td : TypeDesc} {w : World} (ht : P.underlying t = some td) : (isAgg t).run P w = .ok (TypeDesc.isAggB td) w := by
  cases td <;> simp [isAgg, run_underlying ht, TypeDesc.isAggB]

theorem addr_add0 (b o n : Nat) : (⟨b, o, none⟩ : Addr).add n = ⟨b, o + n, none⟩ := by
  unfold Addr.add; split <;> simp_all

theorem RepC.list_form {ok : Nat → Prop} {w : World} {sz : Nat} {els : List (List AVal)} {v : Value} (h : RepC ok w (.list sz els) v) :
    ∃ a c, v = .slice a els.length c ∧ els.length ≤ c ∧ (els = [] ∨ ∃ b o, ∃ vs : Nat → Nat → Value, a = some ⟨b, o, none⟩ ∧ ok b ∧ (∀ e ∈ els, e.length = sz) ∧
      (∀ i e j av, els[i]? = some e → e[j]? = some av → w.cell? ⟨b, o + i * sz + j, none⟩ = some (vs i j)) ∧ (∀ i e j av, els[i]? = some e → e[j]? = some av → RepC ok w av (vs i j)) ∧ (∀ i e j av, els[i]? = some e → e[j]? = some av → (vs i j).oneCell' = true)) := by
  match h with
  | .empty _ a c => exact ⟨a, c, rfl, by simp, .inl rfl⟩
  | .list _ _ b o c vs hok hc hs hcell h1 hrep => exact ⟨_, c, rfl, hc, .inr ⟨b, o, vs, rfl, hok, hs, hcell, hrep, h1⟩⟩
theorem RepC.nil_form {ok : Nat → Prop} {w : World} {v : Value} (h : RepC ok w .nil v) : ∃ a, v = .slice a 0 0 := by
  cases h; exact ⟨_, rfl⟩
theorem RepC.rptr_form {ok : Nat → Prop} {w : World} {cells : List AVal} {v : Value} (h : RepC ok w (.rptr cells) v) :
    ∃ b o, ∃ vs : Nat → Value, v = .pointer (some ⟨b, o, none⟩) ∧ ok b ∧ (∀ j av, cells[j]? = some av → w.cell? ⟨b, o + j, none⟩ = some (vs j)) ∧ (∀ j av, cells[j]? = some av → RepC ok w av (vs j)) := by
  match h with
  | .rptr _ b o vs hok hcell hrep => exact ⟨b, o, vs, rfl, hok, hcell, hrep⟩
theorem Sim.ver {ok : Nat → Prop} {L : Loc} {w : World} (hs : Sim ok L σ w) {id ver : Nat} {ob : AObj} (hid : σ.get id = some (ver, ob)) : L.ver id = ver := by
  have := hs.objs id ver ob hid
  cases ob <;> exact this.1

/-! len -/
theorem op_len_list {x : Operand} {t e sz : Nat} {els : List (List AVal)} (ht : P.underlying t = some (.slice e)) (hx : E x = some (.list sz els)) : OpTo P ⟨d, .call { callee := .builtin .len, args := #[x], argTypes := #[t] }, ty, pos, after, guard⟩ E σ (.v (.int .i64 els.length)) σ :=
  op_value fun ok L w ρ hs hr => by
    obtain ⟨a, c, h1, _⟩ := RepC.list_form (hr x (by simp [Op.operands, Call.operands]) _ hx)
    refine ⟨_, ?_, RepC.v _⟩
    simp [execOp, resolve, invoke, builtin, Builtin.len_, run_underlying ht, goInt, h1]
theorem op_len_nil {x : Operand} {t e : Nat} (ht : P.underlying t = some (.slice e)) (hx : E x = some .nil) : OpTo P ⟨d, .call { callee := .builtin .len, args := #[x], argTypes := #[t] }, ty, pos, after, guard⟩ E σ (.v (.int .i64 0)) σ :=
  op_value fun ok L w ρ hs hr => by
    obtain ⟨a, h1⟩ := RepC.nil_form (hr x (by simp [Op.operands, Call.operands]) _ hx)
    refine ⟨_, ?_, RepC.v _⟩
    simp [execOp, resolve, invoke, builtin, Builtin.len_, run_underlying ht, goInt, h1]
theorem op_len_slice {x : Operand} {t e id ver off m : Nat} {ob : AObj} (ht : P.underlying t = some (.slice e)) (hx : E x = some (.slice id ver off m)) (hid : σ.get id = some (ver, ob)) : OpTo P ⟨d, .call { callee := .builtin .len, args := #[x], argTypes := #[t] }, ty, pos, after, guard⟩ E σ (.v (.int .i64 m)) σ :=
  op_value fun ok L w ρ hs hr => by
    have h := hr x (by simp [Op.operands, Call.operands]) _ hx
    refine ⟨_, ?_, RepC.v _⟩
    obtain ⟨a, c, h1, _⟩ := h.2 (hs.ver hid)
    simp [execOp, resolve, invoke, builtin, Builtin.len_, run_underlying ht, goInt, h1]

/-! addresses -/
theorem op_index_list {x ix : Operand} {t e sz : Nat} {els : List (List AVal)} {i : Int} {k : IntKind} {inf : TypeInfo} {el : List AVal} (ht : P.underlying t = some (.slice e)) (hi : P.info? e = some inf) (hsz : inf.size = sz)
    (hx : E x = some (.list sz els)) (hix : E ix = some (.v (.int k i))) (h0 : 0 ≤ i) (hel : els[i.toNat]? = some el) : OpTo P ⟨d, .indexAddr t x ix, ty, pos, after, guard⟩ E σ (.rptr el) σ :=
  op_value fun ok L w ρ hs hr => by
    obtain ⟨a, c, h1, h2, h3⟩ := RepC.list_form (hr x (by simp [Op.operands]) _ hx)
    have h4 := rep_bool (hr ix (by simp [Op.operands]) _ hix)
    have hlt : i.toNat < els.length := by
      rcases Nat.lt_or_ge i.toNat els.length with h | h
      · exact h
      · simp [List.getElem?_eq_none h] at hel
    rcases h3 with rfl | ⟨b, o, vs, rfl, hok, hs1, hcell, hrep, _⟩
    · simp at hlt
    · refine ⟨.pointer (some ⟨b, o + i.toNat * sz, none⟩), ?_, RepC.rptr el b _ (vs i.toNat) hok (fun j av hj => hcell _ _ _ _ hel hj) (fun j av hj => hrep _ _ _ _ hel hj)⟩
      have hl : i < (els.length : Int) := by omega
      simp [execOp, Instr.indexAt, asIntOf, run_underlying ht, h1, h4, h0, hl, sizeOf, typeInfo, hi, hsz, addr_add0]
theorem op_index_slice {x ix : Operand} {t e sz id ver off m : Nat} {els : List (List AVal)} {i : Int} {k : IntKind} {inf : TypeInfo} (ht : P.underlying t = some (.slice e)) (hi : P.info? e = some inf) (hsz : inf.size = sz)
    (hx : E x = some (.slice id ver off m)) (hid : σ.get id = some (ver, .row sz els)) (hix : E ix = some (.v (.int k i))) (h0 : 0 ≤ i) (hlt : i < m) : OpTo P ⟨d, .indexAddr t x ix, ty, pos, after, guard⟩ E σ (.ptr id ver (off + i.toNat) 0) σ :=
  op_value fun ok L w ρ hs hr => by
    have h := hr x (by simp [Op.operands]) _ hx
    obtain ⟨a, c, h1, h2, h3, h3'⟩ := h.2 (hs.ver hid)
    have h4 := rep_bool (hr ix (by simp [Op.operands]) _ hix)
    have h5 := h3' (.inl (by omega))
    have h6 : L.sz id = sz := (hs.objs id ver _ hid).2.1
    subst h5
    refine ⟨.pointer (some ⟨L.blk id, (off + i.toNat) * L.sz id + 0, none⟩), ?_, h.1, fun _ => rfl⟩
    simp [execOp, Instr.indexAt, asIntOf, run_underlying ht, h1, h4, h0, hlt, sizeOf, typeInfo, hi, hsz, addr_add0, h6, Nat.add_mul]
theorem op_index_aptr {x ix : Operand} {t e sz id ver i0 j m : Nat} {i : Int} {k : IntKind} {inf : TypeInfo} {ob : AObj} (ht : P.underlying t = some (.array m e)) (hi : P.info? e = some inf) (hsz : inf.size = sz)
    (hx : E x = some (.ptr id ver i0 j)) (hid : σ.get id = some (ver, ob)) (hix : E ix = some (.v (.int k i))) (h0 : 0 ≤ i) (hlt : i < m) : OpTo P ⟨d, .indexAddr t x ix, ty, pos, after, guard⟩ E σ (.ptr id ver i0 (j + i.toNat * sz)) σ :=
  op_value fun ok L w ρ hs hr => by
    have h := hr x (by simp [Op.operands]) _ hx
    have h1 := h.2 (hs.ver hid)
    have h4 := rep_bool (hr ix (by simp [Op.operands]) _ hix)
    refine ⟨.pointer (some ⟨L.blk id, i0 * L.sz id + (j + i.toNat * sz), none⟩), ?_, h.1, fun _ => rfl⟩
    simp [execOp, Instr.indexAt, Instr.sureAddr, asIntOf, run_underlying ht, h1, h4, h0, hlt, sizeOf, typeInfo, hi, hsz, addr_add0, Nat.add_assoc]
theorem op_index_arptr {x ix : Operand} {t e sz m : Nat} {cells : List AVal} {i : Int} {k : IntKind} {inf : TypeInfo} (ht : P.underlying t = some (.array m e)) (hi : P.info? e = some inf) (hsz : inf.size = sz)
    (hx : E x = some (.rptr cells)) (hix : E ix = some (.v (.int k i))) (h0 : 0 ≤ i) (hlt : i < m) : OpTo P ⟨d, .indexAddr t x ix, ty, pos, after, guard⟩ E σ (.rptr (cells.drop (i.toNat * sz))) σ :=
  op_value fun ok L w ρ hs hr => by
    obtain ⟨b, o, vs, h1, hok, hcell, hrep⟩ := RepC.rptr_form (hr x (by simp [Op.operands]) _ hx)
    have h4 := rep_bool (hr ix (by simp [Op.operands]) _ hix)
    refine ⟨.pointer (some ⟨b, o + i.toNat * sz, none⟩), ?_, RepC.rptr _ b _ (fun j => vs (i.toNat * sz + j)) hok (fun j av hj => ?_) (fun j av hj => ?_)⟩
    · simp [execOp, Instr.indexAt, Instr.sureAddr, asIntOf, run_underlying ht, h1, h4, h0, hlt, sizeOf, typeInfo, hi, hsz, addr_add0]
    · rw [List.getElem?_drop] at hj
      rw [Nat.add_assoc]; exact hcell _ _ hj
    · rw [List.getElem?_drop] at hj
      exact hrep _ _ hj
theorem op_field_ptr {x : Operand} {s f id ver i j off : Nat} {fs : Array Field} {fl : Field} {inf : TypeInfo} {ob : AObj} (hs' : P.underlying s = some (.struct fs)) (hf : fs[f]? = some fl) (hi : P.info? fl.type = some inf) (h0 : inf.size ≠ 0) (hoff : fl.offset = off)
    (hx : E x = some (.ptr id ver i j)) (hid : σ.get id = some (ver, ob)) : OpTo P ⟨d, .fieldAddr s x f, ty, pos, after, guard⟩ E σ (.ptr id ver i (j + off)) σ :=
  op_value fun ok L w ρ hs hr => by
    have h := hr x (by simp [Op.operands]) _ hx
    have h1 := h.2 (hs.ver hid)
    refine ⟨.pointer (some ⟨L.blk id, i * L.sz id + (j + off), none⟩), ?_, h.1, fun _ => rfl⟩
    simp [execOp, Instr.fieldAt, Instr.sureAddr, run_underlying hs', hf, h1, fieldPlace, sizeOf, typeInfo, hi, h0, addr_add0, hoff, Nat.add_assoc]
theorem op_field_rptr {x : Operand} {s f off : Nat} {fs : Array Field} {fl : Field} {inf : TypeInfo} {cells : List AVal} (hs' : P.underlying s = some (.struct fs)) (hf : fs[f]? = some fl) (hi : P.info? fl.type = some inf) (h0 : inf.size ≠ 0) (hoff : fl.offset = off)
    (hx : E x = some (.rptr cells)) : OpTo P ⟨d, .fieldAddr s x f, ty, pos, after, guard⟩ E σ (.rptr (cells.drop off)) σ :=
  op_value fun ok L w ρ hs hr => by
    obtain ⟨b, o, vs, h1, hok, hcell, hrep⟩ := RepC.rptr_form (hr x (by simp [Op.operands]) _ hx)
    refine ⟨.pointer (some ⟨b, o + off, none⟩), ?_, RepC.rptr _ b _ (fun j => vs (off + j)) hok (fun j av hj => ?_) (fun j av hj => ?_)⟩
    · simp [execOp, Instr.fieldAt, Instr.sureAddr, run_underlying hs', hf, h1, fieldPlace, sizeOf, typeInfo, hi, h0, addr_add0, hoff]
    · rw [List.getElem?_drop] at hj
      rw [Nat.add_assoc]; exact hcell _ _ hj
    · rw [List.getElem?_drop] at hj
      exact hrep _ _ hj
theorem op_nilCheck_ptr {x : Operand} {id ver i j : Nat} {ob : AObj} (hx : E x = some (.ptr id ver i j)) (hid : σ.get id = some (ver, ob)) : OpTo P ⟨d, .nilCheck x, ty, pos, after, guard⟩ E σ (.ptr id ver i j) σ :=
  op_value fun ok L w ρ hs hr => by
    have h := hr x (by simp [Op.operands]) _ hx
    have h1 := h.2 (hs.ver hid)
    exact ⟨ρ x, by simp [execOp, h1], h⟩
theorem op_nilCheck_rptr {x : Operand} {cells : List AVal} (hx : E x = some (.rptr cells)) : OpTo P ⟨d, .nilCheck x, ty, pos, after, guard⟩ E σ (.rptr cells) σ :=
  op_value fun ok L w ρ hs hr => by
    have h := hr x (by simp [Op.operands]) _ hx
    obtain ⟨b, o, vs, h1, _⟩ := RepC.rptr_form h
    exact ⟨ρ x, by simp [execOp, h1], h⟩

/-! loads -/
/-- cells that are read as one value -/
def asOne (agg : Bool) (k : Nat) (cells : List AVal) : Option AVal :=
  match agg with
  | true => if k ≤ cells.length then some (.agg (cells.take k)) else none
  | false => cells.head?

theorem run_loadVar_one {t : TypeId} {td : TypeDesc} {w : World} {a : Addr} {v : Value} (ht : P.underlying t = some td) (hn : TypeDesc.isAggB td = false) (hc : w.cell? a = some v) : (loadVar t a).run P w = .ok v w := by
  simp [loadVar, run_isAgg' ht, hn, hc]
theorem run_loadVar_agg {t : TypeId} {td : TypeDesc} {inf : TypeInfo} {w : World} {a : Addr} {vs : List Value} (ht : P.underlying t = some td) (hn : TypeDesc.isAggB td = true) (hi : P.info? t = some inf) (hk : inf.size = vs.length) (hc : ∀ j v, vs[j]? = some v → w.cell? (a.add j) = some v) :
    (loadVar t a).run P w = .ok (.agg vs.toArray) w := by
  simp [loadVar, run_isAgg' ht, hn, sizeOf, typeInfo, hi, hk, run_loadCells_list w a vs hc]

theorem All2.fill {ok : Nat → Prop} {L : Loc} {w : World} (cells : List AVal) (vs : Nat → Value) (h : ∀ j av, cells[j]? = some av → RepL ok L w av (vs j)) : All2 (RepL ok L w) cells ((List.range cells.length).map vs) :=
  All2.of_get _ _ (by simp) fun i a b ha hb => by
    have hl : i < cells.length := by
      rcases Nat.lt_or_ge i cells.length with h | h
      · exact h
      · simp [List.getElem?_eq_none h] at ha
    simp [List.getElem?_map, List.getElem?_range hl] at hb
    subst hb
    exact h i a ha
/-- a closed value fills one cell -/
def AVal.clo1 : AVal → Bool
  | .v _ | .nil | .list _ _ | .rptr _ => true
  | _ => false
theorem RepC.clo {ok : Nat → Prop} {w : World} {a : AVal} {v : Value} (h : RepC ok w a v) : a.clo1 = true := by cases h <;> rfl
theorem RepC.repL {ok : Nat → Prop} {L : Loc} {w : World} {a : AVal} {v : Value} (h : RepC ok w a v) : RepL ok L w a v := by cases h <;> first | exact .v _ | exact .nil _ | exact .empty _ _ _ | (rename_i h1 h2 h3 h4 h5 h6; exact .list _ _ _ _ _ _ h1 h2 h3 h4 h5 h6) | (rename_i h1 h2 h3; exact .rptr _ _ _ _ h1 h2 h3)
theorem RepL.repC {ok : Nat → Prop} {L : Loc} {w : World} {a : AVal} {v : Value} (h : RepL ok L w a v) (hc : a.clo1 = true) : RepC ok w a v := by
  cases a <;> first | exact h | simp [AVal.clo1] at hc
/-- .. no tuple, no struct -/
def AVal.leaf : AVal → Bool
  | .tuple _ | .agg _ | .fn _ _ => false
  | _ => true
theorem RepL.rep {ok : Nat → Prop} {L : Loc} {w : World} {a : AVal} {v : Value} (h : RepL ok L w a v) (hc : a.leaf = true) : Rep ok L w a v := by
  cases a <;> first | exact h | simp [AVal.leaf] at hc
theorem RepC.leaf {ok : Nat → Prop} {w : World} {a : AVal} {v : Value} (h : RepC ok w a v) : a.leaf = true := by cases h <;> rfl
theorem RepL.leaf {ok : Nat → Prop} {L : Loc} {w : World} {a : AVal} {v : Value} (h : RepL ok L w a v) : a.leaf = true := by
  cases a <;> first | rfl | (exact RepC.leaf (show RepC ok w _ v from h))

theorem op_load_rptr {x : Operand} {t : TypeId} {td : TypeDesc} {inf : TypeInfo} {cells : List AVal} {a : AVal} (ht : P.underlying t = some td) (hi : P.info? t = some inf) (hx : E x = some (.rptr cells)) (ha : asOne (TypeDesc.isAggB td) inf.size cells = some a) : OpTo P ⟨d, .load t x, ty, pos, after, guard⟩ E σ a σ :=
  op_value fun ok L w ρ hs hr => by
    obtain ⟨b, o, vs, h1, hok, hcell, hrep⟩ := RepC.rptr_form (hr x (by simp [Op.operands]) _ hx)
    cases hb : TypeDesc.isAggB td with
    | false =>
      rw [hb] at ha
      have h0 : cells[0]? = some a := by simpa [asOne, List.head?_eq_getElem?] using ha
      refine ⟨vs 0, ?_, (hrep 0 a h0).repL.rep (hrep 0 a h0).leaf⟩
      have hc : w.cell? ⟨b, o, none⟩ = some (vs 0) := hcell 0 a h0
      simp [execOp, Instr.loadAt, Instr.sureAddr, h1, run_loadVar_one ht hb hc]
    | true =>
      rw [hb] at ha
      simp only [asOne] at ha
      split at ha
      · rename_i hk
        cases ha
        have hl : (cells.take inf.size).length = inf.size := by simp; omega
        have hg : ∀ j av, (cells.take inf.size)[j]? = some av → cells[j]? = some av := fun j av hj => by
          rw [List.getElem?_take] at hj
          split at hj
          · exact hj
          · cases hj
        refine ⟨.agg ((List.range (cells.take inf.size).length).map vs).toArray, ?_, _, rfl, All2.fill _ vs (fun j av hj => (hrep j av (hg j av hj)).repL)⟩
        have hc : ∀ j v, ((List.range (cells.take inf.size).length).map vs)[j]? = some v → w.cell? ((⟨b, o, none⟩ : Addr).add j) = some v := by
          intro j v hj
          rw [List.getElem?_map] at hj
          rcases Nat.lt_or_ge j (cells.take inf.size).length with h | h
          · rw [List.getElem?_range h] at hj
            simp at hj
            subst hj
            rw [addr_add0]
            exact hcell j _ (hg j _ (List.getElem?_eq_getElem h))
          · rw [List.getElem?_eq_none (by simpa using h)] at hj
            cases hj
        have := run_loadVar_agg (w := w) (a := ⟨b, o, none⟩) (vs := (List.range (cells.take inf.size).length).map vs) ht hb hi (by simp; omega) hc
        simp [execOp, Instr.loadAt, Instr.sureAddr, h1, this]
      · cases ha

theorem Sim.row {ok : Nat → Prop} {L : Loc} {w : World} (hs : Sim ok L σ w) {id ver sz : Nat} {els : List (List AVal)} (hid : σ.get id = some (ver, .row sz els)) {i : Nat} {el : List AVal} (hel : els[i]? = some el) :
    L.sz id = sz ∧ el.length = sz ∧ L.cap id ≠ 0 ∧ i < L.cap id ∧ ∃ (conc : Array Value) (e : TypeId), w.heap[L.blk id]? = some (.cells conc e (0, 0)) ∧ conc.size = L.cap id * sz ∧
      (∀ i el j av, els[i]? = some el → el[j]? = some av → ∃ v, conc[i * sz + j]? = some v ∧ RepL ok L w av v ∧ v.oneCell' = true) := by
  obtain ⟨h1, h2, h3, h4, h5⟩ := hs.objs id ver _ hid
  have hlt : i < els.length := by
    rcases Nat.lt_or_ge i els.length with h | h
    · exact h
    · simp [List.getElem?_eq_none h] at hel
  have hc : L.cap id ≠ 0 := by omega
  obtain ⟨conc, e, g1, g2, g3⟩ := h5 hc
  exact ⟨h2, h3 el (List.mem_of_getElem? hel), hc, by omega, conc, e, g1, g2, g3⟩

theorem op_load_ptr {x : Operand} {t : TypeId} {td : TypeDesc} {inf : TypeInfo} {id ver i j sz : Nat} {els : List (List AVal)} {el : List AVal} {a : AVal} (ht : P.underlying t = some td) (hi : P.info? t = some inf) (hx : E x = some (.ptr id ver i j)) (hid : σ.get id = some (ver, .row sz els)) (hel : els[i]? = some el)
    (ha : asOne (TypeDesc.isAggB td) inf.size (el.drop j) = some a) : OpTo P ⟨d, .load t x, ty, pos, after, guard⟩ E σ a σ :=
  op_value fun ok L w ρ hs hr => by
    have h := hr x (by simp [Op.operands]) _ hx
    have h1 := h.2 (hs.ver hid)
    obtain ⟨e1, e2, e3, e4, conc, et, g1, g2, g3⟩ := hs.row hid hel
    have hcell : ∀ k v, conc[i * sz + (j + k)]? = some v → w.cell? ⟨L.blk id, i * sz + j + k, none⟩ = some v := by
      intro k v hv
      simp [World.cell?, g1, Nat.add_assoc, hv]
    cases hb : TypeDesc.isAggB td with
    | false =>
      rw [hb] at ha
      have h0 : el[j]? = some a := by simpa [asOne, List.head?_eq_getElem?] using ha
      obtain ⟨v, k1, k2, _⟩ := g3 i el j a hel h0
      refine ⟨v, ?_, k2.rep k2.leaf⟩
      have hc : w.cell? ⟨L.blk id, i * L.sz id + j, none⟩ = some v := by rw [e1]; exact hcell 0 v (by simpa using k1)
      simp [execOp, Instr.loadAt, Instr.sureAddr, h1, run_loadVar_one ht hb hc]
    | true =>
      rw [hb] at ha
      simp only [asOne] at ha
      split at ha
      · rename_i hk
        cases ha
        have hg : ∀ k av, ((el.drop j).take inf.size)[k]? = some av → ∃ v, conc[i * sz + (j + k)]? = some v ∧ RepL ok L w av v ∧ v.oneCell' = true := fun k av hj => by
          rw [List.getElem?_take] at hj
          split at hj
          · rw [List.getElem?_drop] at hj
            exact g3 i el _ av hel hj
          · cases hj
        let vs : Nat → Value := fun k => (conc[i * sz + (j + k)]?).getD undef
        refine ⟨.agg ((List.range ((el.drop j).take inf.size).length).map vs).toArray, ?_, _, rfl, All2.fill _ vs (fun k av hj => ?_)⟩
        · have hc : ∀ k v, ((List.range ((el.drop j).take inf.size).length).map vs)[k]? = some v → w.cell? ((⟨L.blk id, i * L.sz id + j, none⟩ : Addr).add k) = some v := by
            intro k v hj
            rw [List.getElem?_map] at hj
            rcases Nat.lt_or_ge k ((el.drop j).take inf.size).length with h | h
            · rw [List.getElem?_range h] at hj
              simp only [Option.map_some, Option.some.injEq] at hj
              obtain ⟨u, u1, _⟩ := hg k _ (List.getElem?_eq_getElem h)
              have : v = u := by rw [← hj]; show (conc[i * sz + (j + k)]?).getD undef = u; rw [u1]; rfl
              subst this
              rw [addr_add0, e1]
              exact hcell k v u1
            · rw [List.getElem?_eq_none (by simpa using h)] at hj
              cases hj
          have := run_loadVar_agg (w := w) (a := ⟨L.blk id, i * L.sz id + j, none⟩) (vs := (List.range ((el.drop j).take inf.size).length).map vs) ht hb hi (by simp at hk ⊢; omega) hc
          simp [execOp, Instr.loadAt, Instr.sureAddr, h1, this]
        · obtain ⟨u, u1, u2, _⟩ := hg k av hj
          have : vs k = u := by show (conc[i * sz + (j + k)]?).getD undef = u; rw [u1]; rfl
          rw [this]; exact u2
      · cases ha
end
end Go.Proofs.YtbojpddejdmamaaGreatDoor
