/- The engine, part 14: rules in the form in which the printed walks use them. -/
import Derived.Test.YtnnklpmgncbgnaaGreatEngM
import Derived.Laws.Cover3
import Derived.Laws.Pointers
import Derived.Laws.StructEq
import Derived.Laws.IdiomStrings
set_option linter.unusedVariables false
set_option linter.unusedSimpArgs false
namespace Go.Proofs.YtnnklpmgncbgnaaGreat
open Go

section
variable {P : Program} {n : Nat} {Q : APost} {env : Env} {σ σ' : Store} {ops : Array Oper} {rest : List Oper}
variable {E : Operand → Option AVal} {d : Option Tmp} {ty : TypeId} {pos : String} {after : Array Edge} {guard : Option (Nat × Bool)}

/-! ### Numbers -/
theorem quo_nn {a b : Int} (h0 : 0 ≤ a) (h1 : a ≤ 9223372036854775807) (hb : 0 < b) : IntKind.i64.wrap (a.tdiv b) = a / b := by
  rw [Int.tdiv_eq_ediv_of_nonneg h0]
  have h2 : a / b ≤ a := Int.ediv_le_self b h0
  have h3 : 0 ≤ a / b := Int.ediv_nonneg h0 (by omega)
  exact wrap_i64 (by omega) (by omega)
theorem quo_u8 {a b : Int} (h0 : 0 ≤ a) (h1 : a ≤ 255) (hb : 0 < b) : IntKind.u8.wrap (a.tdiv b) = a / b := by
  rw [Int.tdiv_eq_ediv_of_nonneg h0]
  have h2 : a / b ≤ a := Int.ediv_le_self b h0
  have h3 : 0 ≤ a / b := Int.ediv_nonneg h0 (by omega)
  exact wrap_u8 (by omega) (by omega)
theorem rem_nn {a b : Int} (h0 : 0 ≤ a) : a.tmod b = a % b := Int.tmod_eq_emod_of_nonneg h0
theorem rem_any {a b : Int} : a.tmod b = a.tmod b := rfl

theorem and_one (a : Int) : IntKind.i64.wrap (BitVec.ofInt IntKind.i64.bits a &&& BitVec.ofInt IntKind.i64.bits 1).toNat = a % 2 := by
  have h : (BitVec.ofInt 64 a &&& BitVec.ofInt 64 1).toNat = (a % 2).toNat := by
    have e : BitVec.ofInt 64 1 = 1#64 := rfl
    rw [BitVec.toNat_and, e]
    have : (1#64 : BitVec 64).toNat = 1 := rfl
    rw [this, Nat.and_one_is_mod, BitVec.toNat_ofInt]
    omega
  show IntKind.i64.wrap ((BitVec.ofInt 64 a &&& BitVec.ofInt 64 1).toNat : Int) = a % 2
  rw [h]
  have h1 : 0 ≤ a % 2 := Int.emod_nonneg _ (by omega)
  have h2 : a % 2 < 2 := Int.emod_lt_of_pos _ (by omega)
  rw [Int.toNat_of_nonneg h1]
  exact wrap_i64 (by omega) (by omega)

/-- The inverse of a literal. -/
def flip (a : Int) : Int := if a % 2 = 0 then a + 1 else a - 1

theorem nat_xor_one (k : Nat) : k ^^^ 1 = if k % 2 = 0 then k + 1 else k - 1 := by
  have h1 : (k ^^^ 1) / 2 = k / 2 := by rw [Nat.xor_div_two]; simp
  have h2 : (k ^^^ 1) % 2 = (k + 1) % 2 := by
    have := Nat.xor_mod_two_pow (a := k) (b := 1) (n := 1)
    simp only [Nat.pow_one] at this
    rw [this]
    rcases Nat.mod_two_eq_zero_or_one k with h | h <;> rw [h]
    · show 1 = (k + 1) % 2; omega
    · show 0 = (k + 1) % 2; omega
  split <;> omega
theorem xor_one {a : Int} (h0 : 0 ≤ a) (h1 : a ≤ 4611686018427387904) : IntKind.i64.wrap (BitVec.ofInt IntKind.i64.bits a ^^^ BitVec.ofInt IntKind.i64.bits 1).toNat = flip a := by
  obtain ⟨k, rfl⟩ := Int.eq_ofNat_of_zero_le h0
  have h : (BitVec.ofInt 64 (k : Int) ^^^ BitVec.ofInt 64 1).toNat = k ^^^ 1 := by
    have e : (BitVec.ofInt 64 1).toNat = 1 := rfl
    rw [BitVec.toNat_xor, e, BitVec.toNat_ofInt]
    congr 1
    omega
  show IntKind.i64.wrap ((BitVec.ofInt 64 (k : Int) ^^^ BitVec.ofInt 64 1).toNat : Int) = flip k
  rw [h, nat_xor_one, wrap_i64 (by omega) (by split <;> omega)]
  unfold flip
  split <;> split <;> omega
theorem xor_bit {a b : Int} (h0 : 0 ≤ a) (h1 : a ≤ 4611686018427387904) (hb : b = 0 ∨ b = 1) : IntKind.i64.wrap (BitVec.ofInt IntKind.i64.bits a ^^^ BitVec.ofInt IntKind.i64.bits b).toNat = if b = 1 then flip a else a := by
  rcases hb with rfl | rfl
  · obtain ⟨k, rfl⟩ := Int.eq_ofNat_of_zero_le h0
    have h : (BitVec.ofInt 64 (k : Int) ^^^ BitVec.ofInt 64 0).toNat = k := by
      have e : (BitVec.ofInt 64 0).toNat = 0 := rfl
      rw [BitVec.toNat_xor, e, BitVec.toNat_ofInt, Nat.xor_zero]
      omega
    show IntKind.i64.wrap ((BitVec.ofInt 64 (k : Int) ^^^ BitVec.ofInt 64 0).toNat : Int) = _
    rw [h, if_neg (by decide), wrap_i64 (by omega) (by omega)]
  · rw [if_pos rfl]; exact xor_one h0 h1

theorem op_min {x y : Operand} {ts : Array TypeId} {k : IntKind} {a b : Int} (hx : E x = some (.v (.int k a))) (hy : E y = some (.v (.int k b))) : OpTo P ⟨d, .call { callee := .builtin .min, args := #[x, y], argTypes := ts }, ty, pos, after, guard⟩ E σ (.v (.int k (min a b))) σ :=
  op_two (by simp [Op.operands, Call.operands]) (by simp [Op.operands, Call.operands]) hx hy fun ρ w h1 h2 => by
    simp [execOp, resolve, invoke, builtin, Builtin.min_, Builtin.min2, h1, h2]
    split <;> omega
theorem op_max {x y : Operand} {ts : Array TypeId} {k : IntKind} {a b : Int} (hx : E x = some (.v (.int k a))) (hy : E y = some (.v (.int k b))) : OpTo P ⟨d, .call { callee := .builtin .max, args := #[x, y], argTypes := ts }, ty, pos, after, guard⟩ E σ (.v (.int k (max a b))) σ :=
  op_two (by simp [Op.operands, Call.operands]) (by simp [Op.operands, Call.operands]) hx hy fun ρ w h1 h2 => by
    simp [execOp, resolve, invoke, builtin, Builtin.max_, Builtin.max2, h1, h2]
    split <;> omega

/-! ### Is it nil -/
theorem repc_slice {ok : Nat → Prop} {w : World} {sz : Nat} {els : List (List AVal)} {v : Value} (h : RepC ok w (.list sz els) v) : ∃ a c, v = .slice a els.length c ∧ (a = none → els = []) := by
  cases h with
  | empty a c => exact ⟨c, _, rfl, fun _ => rfl⟩
  | list b o c vs h1 h2 h3 h4 h5 h6 => exact ⟨_, _, rfl, fun h => by cases h⟩

theorem op_snil {x y : Operand} {t u e sz : Nat} {els : List (List AVal)} (ht : P.underlying t = some (.slice e)) (hx : E x = some (.list sz els)) (hy : E y = some (.v (.slice none 0 0))) :
    OpR P ⟨d, .binOp .eql t x y u, ty, pos, after, guard⟩ E σ (fun a σ' => (∃ b, a = .v (.bool b) ∧ (b = true → els = [])) ∧ σ' = σ) := by
  intro ok L w ρ hs hr
  have h1 := hr x (by simp [Op.operands]) _ hx
  have h2 := rep_bool (hr y (by simp [Op.operands]) _ hy)
  obtain ⟨a, c, e1, e2⟩ := repc_slice (show RepC ok w (.list sz els) (ρ x) from h1)
  refine ⟨.v (.bool a.isNone), σ, .bool a.isNone, w, ok, L, ⟨⟨a.isNone, rfl, fun h => e2 (by simpa using h)⟩, rfl⟩, .inl ?_, .refl _ _ _ _, hs, RepC.v _⟩
  have he := run_equal_slice_nil (P := P) w t e a els.length c ht
  simp only [execOp, eqGuard, binOp, e1, h2]
  simp [he]

theorem op_make_cap {t e : TypeId} {x y : Operand} {inf : TypeInfo} {z : Value} {k k' : IntKind} {m mc : Int} (id : Nat) (ht : P.underlying t = some (.slice e)) (hi : P.info? e = some inf) (hz : inf.zero = some z) (hsz : z.cells.toList.length = inf.size) (h0 : inf.size ≠ 0) (hz1 : z.cells.toList.all Value.oneCell' = true)
    (hx : E x = some (.v (.int k m))) (hy : E y = some (.v (.int k' mc))) (hm : 0 ≤ m) (hmc : m ≤ mc) (hb : (inf.bytes : Int) * mc ≤ 281474976710656) (h63 : mc ≤ 9223372036854775807) :
    OpR P ⟨d, .makeSlice t x y, ty, pos, after, guard⟩ E σ (fun r σ' => ∃ ver, r = .slice id ver 0 m.toNat ∧ σ' = σ.put id ver (.row inf.size (List.replicate m.toNat (z.cells.toList.map .v)))) := by
  intro ok L w ρ hs hr
  have e1 := rep_bool (hr x (by simp [Op.operands]) _ hx)
  have e2 := rep_bool (hr y (by simp [Op.operands]) _ hy)
  have hrun := run_make (P := P) w t e inf z ht hi hz k k' m mc hm hmc hb h63
  have hzs : z.cells.size = inf.size := by simpa using hsz
  obtain ⟨he, hs'⟩ := sim_upd (w' := w.alloc (.cells (madeCells z.cells (mc.toNat * inf.size)) e)) hs id w.heap.size mc.toNat inf.size (L.ver id + 1) (.row inf.size (List.replicate m.toNat (z.cells.toList.map .v))) (by omega) rfl rfl rfl (by simp) (fun k hk _ => Go.RowKit.Below.heap_alloc w _ k hk) (.inl (Nat.le_refl _)) (fun _ => by simp)
    (fun he => objrep_new hs he (heap_alloc_new w _) (fun e hm => by
        rw [List.mem_replicate] at hm
        rw [hm.2]; simpa using hsz) (by simp; omega) (by simp [size_madeCells]) (fun i el j av h1 h2 => by
      rw [List.getElem?_replicate] at h1
      split at h1
      · rename_i hi'
        cases h1
        simp only [List.getElem?_map, Option.map_eq_some_iff] at h2
        obtain ⟨v, h3, rfl⟩ := h2
        have hj : j < inf.size := by
          rcases Nat.lt_or_ge j z.cells.toList.length with h | h
          · omega
          · simp [List.getElem?_eq_none h] at h3
        have hlt : i * inf.size + j < mc.toNat * inf.size := by
          have h7 : m.toNat ≤ mc.toNat := by omega
          have h8 : (i + 1) * inf.size ≤ mc.toNat * inf.size := Nat.mul_le_mul_right _ (by omega)
          have : (i + 1) * inf.size ≤ mc.toNat * inf.size := h8
          rw [Nat.add_mul] at this
          omega
        obtain ⟨u, u1, u2⟩ := madeCells_get (z := z.cells) hlt (by omega)
        refine ⟨u, u1, ?_⟩
        rw [hzs, Nat.add_comm, Nat.add_mul_mod_self_right, Nat.mod_eq_of_lt hj] at u2
        have : u = v := by
          have h4 : z.cells[j]? = some v := by simpa using h3
          rw [h4] at u2; cases u2; rfl
        subst this
        exact ⟨RepC.v u, List.all_eq_true.1 hz1 u (List.mem_of_getElem? h3)⟩
      · cases h1))
  refine ⟨_, _, .slice (some ⟨w.heap.size, 0, none⟩) m.toNat mc.toNat, _, ok, _, ⟨_, rfl, rfl⟩, .inl ?_, he, hs', ?_⟩
  · simp [execOp, e1, e2, hrun]
  · exact ⟨by simp [Loc.upd], fun _ => ⟨_, _, rfl, by omega, by simp [Loc.upd], fun _ => by simp [Loc.upd]⟩⟩


/-! ### Lists told by what they list -/
theorem op_index_map {α : Type} {x ix : Operand} {t e sz : Nat} {f : α → List AVal} {l : List α} {i : Int} {j : Nat} {k : IntKind} {inf : TypeInfo} (dflt : α) (ht : P.underlying t = some (.slice e)) (hi : P.info? e = some inf) (hsz : inf.size = sz)
    (hx : E x = some (.list sz (l.map f))) (hix : E ix = some (.v (.int k i))) (hj : i.toNat = j) (h0 : 0 ≤ i) (hlt : j < l.length) : OpTo P ⟨d, .indexAddr t x ix, ty, pos, after, guard⟩ E σ (.rptr (f (l.getD j dflt))) σ := by
  subst hj
  refine op_index_list ht hi hsz hx hix h0 ?_
  rw [List.getElem?_map, List.getElem?_eq_getElem hlt, List.getD_eq_getElem?_getD, List.getElem?_eq_getElem hlt]
  rfl
/-- Where lists come from. -/
inductive SrcIs (σ : Store) (sz : Nat) : AVal → List (List AVal) → Prop
  | list (els : List (List AVal)) : SrcIs σ sz (.list sz els) els
  | nil : SrcIs σ sz .nil []
  | vnil : SrcIs σ sz (.v (.slice none 0 0)) []
  | str (s : ByteArray) : sz = 1 → SrcIs σ sz (.v (.string s)) (s.data.toList.map fun b => [.v (.int .u8 b.toNat)])
  | row (id ver m : Nat) (els : List (List AVal)) : σ.get id = some (ver, .row sz els) → m = els.length → SrcIs σ sz (.slice id ver 0 m) els
theorem SrcIs.src {sz : Nat} {b : AVal} {news : List (List AVal)} (h : SrcIs σ sz b news) (h0 : 0 < sz) : ∀ ok L w v, Sim ok L σ w → Rep ok L w b v → Src P ok L w sz v news := by
  intro ok L w v hs hr
  cases h with
  | list els => exact src_list h0 hr
  | nil => exact src_nil hr
  | vnil =>
    have := rep_bool hr
    subst this
    exact src_nil (.nil none)
  | str s h1 =>
    subst h1
    have := rep_bool hr
    subst this
    exact src_string s
  | row id ver m els h1 h2 =>
    subst h2
    have := src_slice (P := P) h0 hs h1 (off := 0) (m := news.length) (by omega) hr
    simpa using this
theorem op_append_map {α : Type} {f : α → List AVal} {l k : List α} {x y : Operand} {t u e sz id ver m : Nat} {ud : TypeDesc} {inf : TypeInfo} {z : Value} {b : AVal} {news : List (List AVal)} (ht : P.underlying t = some (.slice e)) (hu : P.underlying u = some ud) (hn : notInt ud = true) (hi : P.info? e = some inf) (hz : inf.zero = some z)
    (hsz : inf.size = sz) (h0 : 0 < sz) (hzs : z.cells.toList.length = sz) (hx : E x = some (.slice id ver 0 m)) (hid : σ.get id = some (ver, .row sz (l.map f))) (hm : m = l.length) (hy : E y = some b) (hb : SrcIs σ sz b news) (hk : news = k.map f)
    (h63 : l.length + k.length ≤ 9223372036854775807) (hby : (l.length + k.length) * inf.bytes ≤ 140737488355328) :
    OpR P ⟨d, .call { callee := .builtin .append, args := #[x, y], argTypes := #[t, u] }, ty, pos, after, guard⟩ E σ (fun r σ' => ∃ ver', r = .slice id ver' 0 (l ++ k).length ∧ σ' = σ.put id ver' (.row sz ((l ++ k).map f))) := by
  subst hk hm
  have := op_append (P := P) (E := E) (σ := σ) (d := d) (ty := ty) (pos := pos) (after := after) (guard := guard) id ht hu hn hi hz hsz h0 hzs hx hy (Head.row ver l.length (l.map f) hid (by simp)) (hb.src h0) (by simpa using h63) (by simpa using hby)
  rw [List.take_of_length_le (by simp)] at this
  simpa using this
/-- One more. -/
theorem op_append_one {α : Type} {f : α → List AVal} {l : List α} {x y : Operand} {t u e sz id ver m : Nat} {ud : TypeDesc} {inf : TypeInfo} {z : Value} {els : List (List AVal)} (a : α) (ht : P.underlying t = some (.slice e)) (hu : P.underlying u = some ud) (hn : notInt ud = true) (hi : P.info? e = some inf) (hz : inf.zero = some z)
    (hsz : inf.size = sz) (h0 : 0 < sz) (hzs : z.cells.toList.length = sz) (hx : E x = some (.slice id ver 0 m)) (hid : σ.get id = some (ver, .row sz (l.map f))) (hm : m = l.length) (hy : E y = some (.list sz els)) (hk : els = [f a])
    (h63 : l.length + 1 ≤ 9223372036854775807) (hby : (l.length + 1) * inf.bytes ≤ 140737488355328) :
    OpR P ⟨d, .call { callee := .builtin .append, args := #[x, y], argTypes := #[t, u] }, ty, pos, after, guard⟩ E σ (fun r σ' => ∃ ver', r = .slice id ver' 0 (l ++ [a]).length ∧ σ' = σ.put id ver' (.row sz ((l ++ [a]).map f))) :=
  op_append_map (k := [a]) ht hu hn hi hz hsz h0 hzs hx hid hm hy (.list _) hk (by simpa using h63) (by simpa using hby)

theorem clo_map {α : Type} {f : α → List AVal} {l : List α} (h : ∀ x, (f x).all AVal.clo1 = true) : ∀ el ∈ l.map f, el.all AVal.clo1 = true := by
  intro el hel
  obtain ⟨x, _, rfl⟩ := List.mem_map.1 hel
  exact h x

/-- An empty list to grow, of elements that f tells. -/
theorem aw_own_map {α : Type} {c : Code} (f : α → List AVal) (id sz : Nat) (t : Tmp) {a : AVal} (ht : env.get t = some a) (hn : a.nilB = true) (h : ∀ ver, AW P n c Q ((t, .slice id ver 0 ([] : List α).length) :: env) (σ.put id ver (.row sz (([] : List α).map f)))) : AW P n c Q env σ := aw_own id sz ht hn h
theorem al_own_map {α : Type} {l : List Oper} (f : α → List AVal) (id sz : Nat) (t : Tmp) {a : AVal} (ht : env.get t = some a) (hn : a.nilB = true) (h : ∀ ver, AL P n ops l Q ((t, .slice id ver 0 ([] : List α).length) :: env) (σ.put id ver (.row sz (([] : List α).map f)))) : AL P n ops l Q env σ := al_own id sz ht hn h

/-! ### Loops -/
def Env.del (X : List Nat) : Env → Env
  | [] => []
  | (i, x) :: r => match X.contains i with | true => Env.del X r | false => (i, x) :: Env.del X r
theorem Env.get_del (X : List Nat) (env : Env) (t : Nat) : (env.del X).get t = if X.contains t then none else env.get t := by
  induction env with
  | nil => simp [Env.del, Env.get]
  | cons p r ih =>
    obtain ⟨i, x⟩ := p
    simp only [Env.del]
    split
    · rename_i h
      rw [ih, Env.get_cons]
      by_cases e : i = t
      · subst e; simp only [h, if_true]
      · rw [if_neg e]
    · rename_i h
      rw [Env.get_cons, Env.get_cons, ih]
      by_cases e : i = t
      · subst e; simp only [h, if_true]; simp
      · simp only [if_neg e]
theorem Env.get_app (a b : Env) (t : Nat) : (a ++ b : Env).get t = match a.get t with | some x => some x | none => b.get t := by
  induction a with
  | nil => rfl
  | cons p r ih =>
    obtain ⟨i, x⟩ := p
    show Env.get ((i, x) :: (r ++ b)) t = _
    rw [Env.get_cons, Env.get_cons, ih]
    by_cases e : i = t <;> simp [e]

def SubX (X : List Nat) (env env' : Env) : Prop := ∀ t a, X.contains t = false → env.get t = some a → env'.get t = some a
theorem subx_refl {X : List Nat} : SubX X env env := fun _ _ _ h => h
theorem subx_del {X : List Nat} : SubX X env (env.del X) := fun t a h1 h2 => by rw [Env.get_del, h1]; exact h2
theorem subx_put {X : List Nat} {k : Nat} {x : AVal} {env1 : Env} (h : (X.contains k || (env.get k).isNone) = true) (hs : SubX X env env1) : SubX X env ((k, x) :: env1) := by
  intro t a h1 h2
  rw [Env.get_cons]
  by_cases e : k = t
  · subst e
    rw [h1, h2] at h
    cases h
  · rw [if_neg e]; exact hs t a h1 h2
theorem subx_known {X : List Nat} {k : Nat} {b b' : Bool} {env1 : Env} (hg : env.get k = some (.v (.bool b))) (hb : b = b') (hs : SubX X env env1) : SubX X env ((k, .v (.bool b')) :: env1) := by
  subst hb
  intro t a h1 h2
  rw [Env.get_cons]
  by_cases e : k = t
  · subst e; rw [hg] at h2; rw [if_pos rfl]; exact h2
  · rw [if_neg e]; exact hs t a h1 h2
theorem keep_of {k : Nat} {env1 : Env} (h : SubX [k] env env1) : ∀ u a, u ≠ k → env.get u = some a → env1.get u = some a :=
  fun u a h1 h2 => h u a (by simpa using h1) h2

theorem aw_for {c : Code} {ι : Type} (X drop : List Nat) (μ : ι → Nat) (Inv : ι → Prop) (mods : ι → Env) (S : ι → Store) (i0 : ι) (h0 : Inv i0) (hE : Sub (mods i0) env) (hS : σ = S i0)
    (round : ∀ i, Inv i → AW P n c (AExit.then (fun env' σ' => ∃ j, μ j < μ i ∧ Inv j ∧ Sub (mods j) env' ∧ SubX X env env' ∧ σ'.keep (fun k => !drop.contains k) = S j) Q) (mods i ++ env.del X) (S i)) : AW P n (.loop c) Q env σ := by
  subst hS
  have hsub : ∀ i env', Sub (mods i) env' → SubX X env env' → ∀ t a, (mods i ++ env.del X : Env).get t = some a → env'.get t = some a := by
    intro i env' h1 h2 t a h
    rw [Env.get_app] at h
    cases hm : (mods i).get t with
    | some x => rw [hm] at h; cases h; exact h1 t _ hm
    | none =>
      rw [hm] at h
      simp only at h
      rw [Env.get_del] at h
      cases hc : X.contains t
      · rw [hc] at h; exact h2 t a hc h
      · rw [hc] at h; cases h
  refine aw_weaken _ (hsub i0 env hE subx_refl) (aw_loop (fun m env1 σ1 => ∃ i q, m = μ i ∧ Inv i ∧ (∀ t a, (mods i ++ env.del X : Env).get t = some a → env1.get t = some a) ∧ σ1.keep q = S i) (μ i0) ⟨i0, fun _ => true, rfl, h0, fun _ _ h => h, ?_⟩ ?_)
  · have : ∀ s : Store, s.keep (fun _ => true) = s := by
      intro s
      induction s with
      | nil => rfl
      | cons p r ih => obtain ⟨i, x⟩ := p; simp only [Store.keep, ih]
    exact this _
  · rintro m env1 σ1 ⟨i, q, rfl, hi, hsb, hk⟩
    refine aw_weaken _ hsb (aw_freeze q fsub_same ?_)
    rw [hk]
    refine aw_mono ?_ (round i hi)
    intro e env2 σ2 hq
    cases e <;> try exact hq
    obtain ⟨j, j1, j2, j3, j4, j5⟩ := hq
    exact ⟨μ j, j1, j, _, rfl, j2, hsub j env2 j3 j4, j5⟩

theorem aw_for2 {c : Code} {α β : Type} (X drop : List Nat) (μ : α → β → Nat) (Inv : α → β → Prop) (mods : α → β → Env) (S : α → β → Store) (a0 : α) (b0 : β) (h0 : Inv a0 b0) (hE : Sub (mods a0 b0) env) (hS : σ = S a0 b0)
    (round : ∀ a b, Inv a b → AW P n c (AExit.then (fun env' σ' => ∃ a' b', μ a' b' < μ a b ∧ Inv a' b' ∧ Sub (mods a' b') env' ∧ SubX X env env' ∧ σ'.keep (fun k => !drop.contains k) = S a' b') Q) (mods a b ++ env.del X) (S a b)) : AW P n (.loop c) Q env σ :=
  aw_for X drop (fun p : α × β => μ p.1 p.2) (fun p => Inv p.1 p.2) (fun p => mods p.1 p.2) (fun p => S p.1 p.2) (a0, b0) h0 hE hS (fun p hp => aw_mono (fun e env2 σ2 hq => by
    cases e <;> try exact hq
    obtain ⟨a', b', h⟩ := hq
    exact ⟨(a', b'), h⟩) (round p.1 p.2 hp))
theorem aw_for3 {c : Code} {α β γ : Type} (X drop : List Nat) (μ : α → β → γ → Nat) (Inv : α → β → γ → Prop) (mods : α → β → γ → Env) (S : α → β → γ → Store) (a0 : α) (b0 : β) (c0 : γ) (h0 : Inv a0 b0 c0) (hE : Sub (mods a0 b0 c0) env) (hS : σ = S a0 b0 c0)
    (round : ∀ a b c', Inv a b c' → AW P n c (AExit.then (fun env' σ' => ∃ a' b' c'', μ a' b' c'' < μ a b c' ∧ Inv a' b' c'' ∧ Sub (mods a' b' c'') env' ∧ SubX X env env' ∧ σ'.keep (fun k => !drop.contains k) = S a' b' c'') Q) (mods a b c' ++ env.del X) (S a b c')) : AW P n (.loop c) Q env σ :=
  aw_for X drop (fun p : α × β × γ => μ p.1 p.2.1 p.2.2) (fun p => Inv p.1 p.2.1 p.2.2) (fun p => mods p.1 p.2.1 p.2.2) (fun p => S p.1 p.2.1 p.2.2) (a0, b0, c0) h0 hE hS (fun p hp => aw_mono (fun e env2 σ2 hq => by
    cases e <;> try exact hq
    obtain ⟨a', b', c', h⟩ := hq
    exact ⟨(a', b', c'), h⟩) (round p.1 p.2.1 p.2.2 hp))

/-- '[]byte(s)' -/
theorem op_bytes {x : Operand} {t u e : Nat} {s : ByteArray} (hs' : P.underlying u = some .string) (ht : P.underlying t = some (.slice e)) (he : P.underlying e = some (.int .u8)) (hx : E x = some (.v (.string s))) :
    OpTo P ⟨d, .convert u t x, ty, pos, after, guard⟩ E σ (.list 1 (s.data.toList.map fun b => [.v (.int .u8 b.toNat)])) σ := by
  intro ok L w ρ hs hr
  have e1 := rep_bool (hr x (by simp [Op.operands]) _ hx)
  have hrun := run_bytes_of_string (P := P) w u t e s hs' ht he
  have hc := grownCap_ge w s.size 0 e
  generalize grownCap w s.size 0 e = cap at hrun hc
  have hd : Evo ok L σ w ok L σ w.drew := ⟨rfl, rfl, rfl, Nat.le_refl _, fun _ _ _ => rfl, fun _ _ h => h, fun _ h => h, fun _ h _ => .inl h, fun _ => Nat.le_refl _, fun _ _ => ⟨rfl, rfl, rfl⟩⟩
  have hs1 : Sim ok L σ w.drew := ⟨fun id v o h => (hs.objs id v o h).evo hs hd rfl (fun _ => rfl), hs.lt, hs.inj, hs.okd, hs.globEvo hd⟩
  obtain ⟨he', hs''⟩ := sim_allocI hs1 (.cells (bytesRow s cap) e ((bytesRow s cap).size, (bytesRow s cap).size + 1))
  refine ⟨_, _, _, L, .inl (by simp [execOp, e1, hrun]; rfl), hd.trans he', hs'', ?_⟩
  have hlen : (s.data.toList.map fun b => [AVal.v (.int .u8 b.toNat)]).length = s.size := by simp
  have key : ∀ i el j av, (s.data.toList.map fun b => [AVal.v (.int .u8 b.toNat)])[i]? = some el → el[j]? = some av → ∃ x : Value, (w.drew.alloc (.cells (bytesRow s cap) e ((bytesRow s cap).size, (bytesRow s cap).size + 1))).cell? ⟨w.heap.size, 0 + i * 1 + j, none⟩ = some x ∧ x.oneCell' = true ∧ av = .v x := by
    intro i el j av h1 h2
    rw [List.getElem?_map, Option.map_eq_some_iff] at h1
    obtain ⟨b, h3, rfl⟩ := h1
    cases j with
    | succ j => simp at h2
    | zero =>
      simp at h2
      subst h2
      have hb : (bytesRow s cap)[i]? = some (.int .u8 b.toNat) := by
        have h4 : s.data[i]? = some b := by simpa using h3
        have hi : i < s.data.size := (Array.getElem?_eq_some_iff.1 h4).1
        unfold bytesRow
        rw [Array.getElem?_append_left (by simpa using hi), Array.getElem?_map, h4]
        rfl
      refine ⟨_, ?_, rfl, rfl⟩
      simp only [World.cell?]
      rw [show w.heap.size = w.drew.heap.size from rfl, heap_alloc_new w.drew]
      simpa using hb
  rw [← hlen] at hc
  rw [show s.size = (s.data.toList.map fun b => [AVal.v (.int .u8 b.toNat)]).length from hlen.symm]
  refine RepC.list (ok := fun b => ok b ∨ b = w.drew.heap.size) 1 _ w.heap.size 0 _ (fun i j => ((w.drew.alloc (.cells (bytesRow s cap) e ((bytesRow s cap).size, (bytesRow s cap).size + 1))).cell? ⟨w.heap.size, 0 + i * 1 + j, none⟩).getD undef) (.inr rfl) ?_ ?_ ?_ ?_ ?_
  · exact hc
  · intro el hel
    obtain ⟨b, _, rfl⟩ := List.mem_map.1 hel
    rfl
  all_goals
    intro i el j av h1 h2
    obtain ⟨x, h3, h4, h5⟩ := key i el j av h1 h2
    rw [h3]
  · rfl
  · exact h4
  · subst h5; exact RepC.v _
end
end Go.Proofs.YtnnklpmgncbgnaaGreat
