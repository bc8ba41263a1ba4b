/- The engine, part 15: more rules for printed walks. -/
import Derived.Test.YtnnklpmgncbgnaaGreatEngN
set_option linter.unusedVariables false
set_option linter.unusedSimpArgs false
namespace Go.Proofs.YtnnklpmgncbgnaaGreat
open Go

section
variable {P : Program} {n : Nat} {Q : APost} {env : Env} {σ σ' : Store} {ops : Array Oper} {rest : List Oper}
variable {E : Operand → Option AVal} {d : Option Tmp} {ty : TypeId} {pos : String} {after : Array Edge} {guard : Option (Nat × Bool)}

theorem op_len_map {α : Type} {f : α → List AVal} {l : List α} {x : Operand} {t e sz : Nat} (ht : P.underlying t = some (.slice e)) (hx : E x = some (.list sz (l.map f))) : OpTo P ⟨d, .call { callee := .builtin .len, args := #[x], argTypes := #[t] }, ty, pos, after, guard⟩ E σ (.v (.int .i64 l.length)) σ := by
  have := op_len_list (P := P) (E := E) (σ := σ) (d := d) (ty := ty) (pos := pos) (after := after) (guard := guard) ht hx
  rwa [List.length_map] at this

theorem op_len_v {x : Operand} {t e : Nat} (ht : P.underlying t = some (.slice e)) (hx : E x = some (.v (.slice none 0 0))) : OpTo P ⟨d, .call { callee := .builtin .len, args := #[x], argTypes := #[t] }, ty, pos, after, guard⟩ E σ (.v (.int .i64 0)) σ :=
  op_one (by simp [Op.operands, Call.operands]) hx fun ρ w h1 => by
    simp [execOp, resolve, invoke, builtin, Builtin.len_, run_underlying ht, h1, goInt]

theorem op_load_map {α : Type} {f : α → List AVal} {l : List α} {x : Operand} {t : TypeId} {td : TypeDesc} {inf : TypeInfo} {id ver i j sz : Nat} {a : AVal} [Inhabited α] (ht : P.underlying t = some td) (hi : P.info? t = some inf) (hx : E x = some (.ptr id ver i j)) (hid : σ.get id = some (ver, .row sz (l.map f))) (hel : i < l.length)
    (ha : asOne (TypeDesc.isAggB td) inf.size ((f (l.getD i default)).drop j) = some a) : OpTo P ⟨d, .load t x, ty, pos, after, guard⟩ E σ a σ := by
  refine op_load_ptr ht hi hx hid (el := f (l.getD i default)) ?_ ha
  rw [List.getElem?_map, List.getElem?_eq_getElem hel, List.getD_eq_getElem?_getD, List.getElem?_eq_getElem hel]
  rfl

/-- What stands at an index of a row is written. -/
theorem op_store_map {α : Type} {f : α → List AVal} {l : List α} {x y : Operand} {t : TypeId} {inf : TypeInfo} {id ver i j sz : Nat} {a : AVal} [Inhabited α] (b : α) (hi : P.info? t = some inf) (hx : E x = some (.ptr id ver i j)) (hy : E y = some a) (hid : σ.get id = some (ver, .row sz (l.map f))) (hel : i < l.length)
    (hsz : inf.size = a.cells.length) (h1 : a.cells.all AVal.oneB = true) (hl : a.cells.all (AVal.live σ) = true) (hfit : j + a.cells.length ≤ (f (l.getD i default)).length) (hb : splice (f (l.getD i default)) j a.cells = f b) :
    OpTo P ⟨d, .store t x y, ty, pos, after, guard⟩ E σ (.v undef) (σ.put id ver (.row sz ((l.set i b).map f))) := by
  have := op_store_ptr (P := P) (E := E) (σ := σ) (d := d) (ty := ty) (pos := pos) (after := after) (guard := guard) (el := f (l.getD i default)) hi hx hy hid (by
    rw [List.getElem?_map, List.getElem?_eq_getElem hel, List.getD_eq_getElem?_getD, List.getElem?_eq_getElem hel]
    rfl) hsz h1 hl hfit
  rw [hb] at this
  rwa [List.map_set]

theorem op_sindex_at {x y : Operand} {t : TypeId} {s : ByteArray} {i : Int} {j : Nat} {k : IntKind} (ht : P.underlying t = some .string) (hx : E x = some (.v (.string s))) (hy : E y = some (.v (.int k i))) (hj : i.toNat = j) (h0 : 0 ≤ i) (h1 : j < s.size) : OpTo P ⟨d, .index t x y, ty, pos, after, guard⟩ E σ (.v (.int .u8 ((s.data.toList.getD j default).toNat : Int))) σ := by
  subst hj
  have := op_sindex (P := P) (E := E) (σ := σ) (d := d) (ty := ty) (pos := pos) (after := after) (guard := guard) ht hx hy h0 h1
  have e : s.data.toList.getD i.toNat default = s[i.toNat]'h1 := by
    have h2 : i.toNat < s.data.toList.length := by simpa using h1
    rw [List.getD_eq_getElem?_getD, List.getElem?_eq_getElem h2]
    simp
    rfl
  rwa [e]

theorem op_make0 {α : Type} {f : α → List AVal} {t e : TypeId} {x y : Operand} {inf : TypeInfo} {z : Value} {k k' : IntKind} {mc : Int} (id : Nat) (ht : P.underlying t = some (.slice e)) (hi : P.info? e = some inf) (hz : inf.zero = some z) (hsz : z.cells.toList.length = inf.size) (h0 : inf.size ≠ 0) (hz1 : z.cells.toList.all Value.oneCell' = true)
    (hx : E x = some (.v (.int k 0))) (hy : E y = some (.v (.int k' mc))) (hmc : 0 ≤ mc) (hb : (inf.bytes : Int) * mc ≤ 281474976710656) (h63 : mc ≤ 9223372036854775807) :
    OpR P ⟨d, .makeSlice t x y, ty, pos, after, guard⟩ E σ (fun r σ' => ∃ ver, r = .slice id ver 0 ([] : List α).length ∧ σ' = σ.put id ver (.row inf.size (([] : List α).map f))) :=
  op_make_cap id ht hi hz hsz h0 hz1 hx hy (Int.le_refl _) hmc hb h63

theorem op_makeN {α : Type} {f : α → List AVal} {t e : TypeId} {x y : Operand} {inf : TypeInfo} {z : Value} {k k' : IntKind} {m : Int} (id : Nat) (z0 : α) (ht : P.underlying t = some (.slice e)) (hi : P.info? e = some inf) (hz : inf.zero = some z) (hsz : z.cells.toList.length = inf.size) (h0 : inf.size ≠ 0) (hz1 : z.cells.toList.all Value.oneCell' = true)
    (hx : E x = some (.v (.int k m))) (hy : E y = some (.v (.int k' m))) (hf : f z0 = z.cells.toList.map .v) (hm : 0 ≤ m) (hb : (inf.bytes : Int) * m ≤ 281474976710656) (h63 : m ≤ 9223372036854775807) :
    OpR P ⟨d, .makeSlice t x y, ty, pos, after, guard⟩ E σ (fun r σ' => ∃ ver, r = .slice id ver 0 (List.replicate m.toNat z0).length ∧ σ' = σ.put id ver (.row inf.size ((List.replicate m.toNat z0).map f))) := by
  have := op_make (P := P) (E := E) (σ := σ) (d := d) (ty := ty) (pos := pos) (after := after) (guard := guard) id ht hi hz hsz h0 hz1 hx hy hm hb h63
  rw [List.map_replicate, hf, List.length_replicate]
  exact this

theorem ql_plain {env' : Env} {o : Oper} {a : AVal} {as : List AVal} (hg : o.guard = none) (h : OpTo P o (aval env) σ a σ) (k : QL P ops σ (env.putd o.dst a) rest as env') : QL P ops σ env (o :: rest) (a :: as) env' :=
  QL.cons _ _ _ _ _ _ (QStep.plain hg (opk_of h)) k
theorem ql_call {env' : Env} {as : List AVal} {f : Operand} {args : Array Operand} {ts : Array TypeId} {fa a : AVal} {g : FuncId} {caps : List AVal} {avs : List AVal} (hin : Into P g)
    (hf : aval env f = some fa) (hc : calleeOf fa = some (g, caps)) (ha : avals (aval env) args.toList = some avs) (h : AC P g (avs ++ caps) σ (fun r σ' => r = .ret a ∧ σ' = σ)) (k : QL P ops σ (env.putd d a) rest as env') :
    QL P ops σ env (⟨d, .call { callee := .value f, args := args, argTypes := ts }, ty, pos, after, none⟩ :: rest) (a :: as) env' :=
  QL.cons _ _ _ _ _ _ (QStep.plain rfl (opk_call hin hf hc ha h)) k
theorem acp_lent {f : FuncId} {avs bvs : List AVal} {a : AVal} (hl : All2 (LendA σ) avs bvs) (h : ACp P f bvs a) (hs : a.scal = true) : AC P f avs σ (fun r σ' => r = .ret a ∧ σ' = σ) := acp_lend h hs hl
theorem ac_told {f : FuncId} {avs bvs : List AVal} {R : AEnd → Store → Prop} (hl : All2 ReA avs bvs) (h : AC P f bvs σ R) : AC P f avs σ R := ac_re h hl
theorem ql_take {env' : Env} {o : Oper} {a : AVal} {as : List AVal} {g t : Nat} {b : Bool} {og : Oper} (hg : o.guard = some (g, b)) (hog : ops[g]? = some og) (hdst : og.dst = some t) (hb : env.get t = some (.v (.bool b))) (h : OpTo P o (aval env) σ a σ) (k : QL P ops σ (env.putd o.dst a) rest as env') : QL P ops σ env (o :: rest) (a :: as) env' :=
  QL.cons _ _ _ _ _ _ (QStep.take g t b og hg hog hdst hb (opk_of h)) k
theorem ql_call_take {env' : Env} {as : List AVal} {f : Operand} {args : Array Operand} {ts : Array TypeId} {fa a : AVal} {g : FuncId} {caps : List AVal} {avs : List AVal} {j t : Nat} {b : Bool} {og : Oper} (hin : Into P g)
    (hog : ops[j]? = some og) (hdst : og.dst = some t) (hb : env.get t = some (.v (.bool b)))
    (hf : aval env f = some fa) (hc : calleeOf fa = some (g, caps)) (ha : avals (aval env) args.toList = some avs) (h : AC P g (avs ++ caps) σ (fun r σ' => r = .ret a ∧ σ' = σ)) (k : QL P ops σ (env.putd d a) rest as env') :
    QL P ops σ env (⟨d, .call { callee := .value f, args := args, argTypes := ts }, ty, pos, after, some (j, b)⟩ :: rest) (a :: as) env' :=
  QL.cons _ _ _ _ _ _ (QStep.take j t b og rfl hog hdst hb (opk_call hin hf hc ha h)) k
theorem ql_pass {env' : Env} {o : Oper} {as : List AVal} {g t : Nat} {b : Bool} {og : Oper} (hg : o.guard = some (g, b)) (hog : ops[g]? = some og) (hdst : og.dst = some t) (hb : env.get t = some (.v (.bool (!b)))) (k : QL P ops σ (env.putd o.dst (.v undef)) rest as env') : QL P ops σ env (o :: rest) (.v undef :: as) env' :=
  QL.cons _ _ _ _ _ _ (QStep.pass g t b og hg hog hdst hb rfl) k
theorem aany_weaken {p : Nat} (env' : Env) (hsub : ∀ t a, env'.get t = some a → env.get t = some a) (h : AAny P n ops Q p env' σ) : AAny P n ops Q p env σ :=
  fun ok L w act h1 h2 h3 h4 => h ok L w act h1 (h2.weaken hsub) h3 h4
theorem aany_known {p q t dd : Nat} {l : List Oper} {b c v : Bool} (hok : segOK ops p q = true) (hl : (ops.toList.drop p).take (q - p) = l) (hpq : p ≤ q) (ht : env.get t = some (.v (.bool b))) (hd : ∀ o ∈ l, ∀ d, o.dst = some d → d < n)
    (hb : b = v) (h : ∃ as env', QL P ops σ ((t, .v (.bool v)) :: env) l as env' ∧ env'.get dd = some (.v (.bool c)) ∧ SubX [dd] env env')
    (hnext : AAny P n ops Q q ((dd, .v (.bool c)) :: env) σ) : AAny P n ops Q p env σ := by
  subst hb
  obtain ⟨as, env', h1, h2, h3⟩ := h
  refine aany_weaken ((t, .v (.bool b)) :: env) (fun u a hu => ?_) (aany_seg hok hl hpq h1 hd (aany_weaken _ (fun u a hu => ?_) hnext))
  · rw [Env.get_cons] at hu
    split at hu
    · rename_i e; subst e; cases hu; exact ht
    · exact hu
  · rw [Env.get_cons] at hu
    split at hu
    · rename_i e; subst e; cases hu; exact h2
    · rename_i e; exact h3 u a (by simp; omega) hu
theorem aany_or (p q t dd : Nat) {l : List Oper} {b c : Bool} (hok : segOK ops p q = true) (hl : (ops.toList.drop p).take (q - p) = l) (hpq : p ≤ q) (ht : env.get t = some (.v (.bool b))) (hd : ∀ o ∈ l, ∀ d, o.dst = some d → d < n)
    (h2 : b = false → ∃ as env', QL P ops σ ((t, .v (.bool false)) :: env) l as env' ∧ env'.get dd = some (.v (.bool c)) ∧ SubX [dd] env env')
    (h1 : b = true → ∃ as env', QL P ops σ ((t, .v (.bool true)) :: env) l as env' ∧ env'.get dd = some (.v (.bool true)) ∧ SubX [dd] env env')
    (hnext : AAny P n ops Q q ((dd, .v (.bool (b || c))) :: env) σ) : AAny P n ops Q p env σ := by
  cases hb : b
  · rw [hb] at hnext; exact aany_known hok hl hpq ht hd hb (h2 hb) hnext
  · rw [hb] at hnext; exact aany_known hok hl hpq ht hd hb (h1 hb) hnext
theorem aany_and (p q t dd : Nat) {l : List Oper} {b c : Bool} (hok : segOK ops p q = true) (hl : (ops.toList.drop p).take (q - p) = l) (hpq : p ≤ q) (ht : env.get t = some (.v (.bool b))) (hd : ∀ o ∈ l, ∀ d, o.dst = some d → d < n)
    (h2 : b = true → ∃ as env', QL P ops σ ((t, .v (.bool true)) :: env) l as env' ∧ env'.get dd = some (.v (.bool c)) ∧ SubX [dd] env env')
    (h1 : b = false → ∃ as env', QL P ops σ ((t, .v (.bool false)) :: env) l as env' ∧ env'.get dd = some (.v (.bool false)) ∧ SubX [dd] env env')
    (hnext : AAny P n ops Q q ((dd, .v (.bool (b && c))) :: env) σ) : AAny P n ops Q p env σ := by
  cases hb : b
  · rw [hb] at hnext; exact aany_known hok hl hpq ht hd hb (h1 hb) hnext
  · rw [hb] at hnext; exact aany_known hok hl hpq ht hd hb (h2 hb) hnext
theorem ql_ex {l : List Oper} {as : List AVal} {env0 env' : Env} {dd : Nat} {c : Bool} (h : QL P ops σ env0 l as env') (h1 : env'.get dd = some (.v (.bool c))) (h2 : SubX [dd] env env') : ∃ as env', QL P ops σ env0 l as env' ∧ env'.get dd = some (.v (.bool c)) ∧ SubX [dd] env env' := ⟨as, env', h, h1, h2⟩

/-- A list built, told by what it lists. -/
theorem op_list {α : Type} {t e m sz : Nat} {parts : Array (Nat × Operand)} {inf : TypeInfo} {z : Value} {pa : List (Nat × AVal)} {res : List AVal} (f : α → List AVal) (l : List α) (ht : P.underlying t = some (.slice e)) (hi : P.info? e = some inf) (hz : inf.zero = some z) (hsz : inf.size = sz) (h0 : 0 < sz) (hzs : z.cells.toList.length = sz) (hm : m * sz ≤ 16777216)
    (hp : partsA E parts.toList = some pa) (ho : pa.all (fun p => okPart σ p.2) = true) (hf : fillA (fun i => some (i * sz, sz)) ((List.replicate m (z.cells.toList.map .v)).flatten) pa = some res) (h1 : res.all AVal.oneB = true) (hc : res.all AVal.clo1 = true) (hl : chunk sz m res = l.map f) :
    OpTo P ⟨d, .buildSlice t m parts, ty, pos, after, guard⟩ E σ (.list sz (l.map f)) σ := hl ▸ op_buildSlice ht hi hz hsz h0 hzs hm hp ho hf h1 hc
theorem op_list_own {α : Type} {t e m sz : Nat} {parts : Array (Nat × Operand)} {inf : TypeInfo} {z : Value} {pa : List (Nat × AVal)} {res : List AVal} (f : α → List AVal) (l : List α) (id : Nat) (ht : P.underlying t = some (.slice e)) (hi : P.info? e = some inf) (hz : inf.zero = some z) (hsz : inf.size = sz) (h0 : 0 < sz) (hzs : z.cells.toList.length = sz) (hm : m * sz ≤ 16777216)
    (hp : partsA E parts.toList = some pa) (ho : pa.all (fun p => okPart σ p.2) = true) (hf : fillA (fun i => some (i * sz, sz)) ((List.replicate m (z.cells.toList.map .v)).flatten) pa = some res) (h1 : res.all AVal.oneB = true) (hl' : res.all (AVal.live σ) = true) (hl : chunk sz m res = l.map f) (hml : m = l.length) :
    OpR P ⟨d, .buildSlice t m parts, ty, pos, after, guard⟩ E σ (fun r σ' => ∃ ver, r = .slice id ver 0 l.length ∧ σ' = σ.put id ver (.row sz (l.map f))) := by
  have := op_buildSlice_own (P := P) (E := E) (σ := σ) (d := d) (ty := ty) (pos := pos) (after := after) (guard := guard) id ht hi hz hsz h0 hzs hm hp ho hf h1 hl'
  rw [hl, hml] at this
  rw [hml]
  exact this
theorem ql_nil : QL P ops σ env [] [] env := QL.nil env

/-! ### Loops, the memory told by what it was ahead -/
theorem aw_forT {c : Code} {ι : Type} (X drop : List Nat) (μ : ι → Nat) (Inv : ι → Prop) (mods : ι → Env) (T : ι → Store → Store) (i0 : ι) (h0 : Inv i0) (hE : Sub (mods i0) env) (hS : σ = T i0 σ)
    (round : ∀ i, Inv i → AW P n c (AExit.then (fun env' σ' => ∃ j, μ j < μ i ∧ Inv j ∧ Sub (mods j) env' ∧ SubX X env env' ∧ σ'.keep (fun k => !drop.contains k) = T j σ) Q) (mods i ++ env.del X) (T i σ)) : AW P n (.loop c) Q env σ :=
  aw_for X drop μ Inv mods (fun i => T i σ) i0 h0 hE hS round
theorem aw_for2T {c : Code} {α β : Type} (X drop : List Nat) (μ : α → β → Nat) (Inv : α → β → Prop) (mods : α → β → Env) (T : α → β → Store → Store) (a0 : α) (b0 : β) (h0 : Inv a0 b0) (hE : Sub (mods a0 b0) env) (hS : σ = T a0 b0 σ)
    (round : ∀ a b, Inv a b → AW P n c (AExit.then (fun env' σ' => ∃ a' b', μ a' b' < μ a b ∧ Inv a' b' ∧ Sub (mods a' b') env' ∧ SubX X env env' ∧ σ'.keep (fun k => !drop.contains k) = T a' b' σ) Q) (mods a b ++ env.del X) (T a b σ)) : AW P n (.loop c) Q env σ :=
  aw_for2 X drop μ Inv mods (fun a b => T a b σ) a0 b0 h0 hE hS round
theorem aw_for3T {c : Code} {α β γ : Type} (X drop : List Nat) (μ : α → β → γ → Nat) (Inv : α → β → γ → Prop) (mods : α → β → γ → Env) (T : α → β → γ → Store → Store) (a0 : α) (b0 : β) (c0 : γ) (h0 : Inv a0 b0 c0) (hE : Sub (mods a0 b0 c0) env) (hS : σ = T a0 b0 c0 σ)
    (round : ∀ a b c', Inv a b c' → AW P n c (AExit.then (fun env' σ' => ∃ a' b' c'', μ a' b' c'' < μ a b c' ∧ Inv a' b' c'' ∧ Sub (mods a' b' c'') env' ∧ SubX X env env' ∧ σ'.keep (fun k => !drop.contains k) = T a' b' c'' σ) Q) (mods a b c' ++ env.del X) (T a b c' σ)) : AW P n (.loop c) Q env σ :=
  aw_for3 X drop μ Inv mods (fun a b c => T a b c σ) a0 b0 c0 h0 hE hS round
end

/-! ### How lists lie in memory -/
theorem getD_mem {α : Type} [Inhabited α] {v : List α} {i : Nat} (h : i < v.length) : v.getD i default ∈ v := by
  rw [List.getD_eq_getElem?_getD, List.getElem?_eq_getElem h]
  exact List.getElem_mem h

def encI (x : Int) : List AVal := [.v (.int .i64 x)]
def encB (x : Int) : List AVal := [.v (.int .u8 x)]
def encS (s : ByteArray) : List AVal := [.v (.string s)]
def encT (b : Bool) : List AVal := [.v (.bool b)]
def encY (b : UInt8) : List AVal := [.v (.int .u8 b.toNat)]
end Go.Proofs.YtnnklpmgncbgnaaGreat
