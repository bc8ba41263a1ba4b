/- The engine, part 28: strings told by their bytes. -/
import Derived.Test.YtcgdlhkiecommaaGreatDoorEngNest
import Derived.Laws.Strings
import Derived.Laws.BytesString
import Derived.Laws.BytesArg
import Derived.Stop.IfaceNil
set_option linter.unusedVariables false
set_option linter.unusedSimpArgs false
namespace Go.Proofs.YtcgdlhkiecommaaGreatDoor
open Go
abbrev Bs := List UInt8
def str (l : Bs) : ByteArray := ⟨l.toArray⟩
theorem str_toList (l : Bs) : (str l).toList = l := ByteArray.toList_mk l
theorem str_size (l : Bs) : (str l).size = l.length := rfl
theorem str_inj {a b : Bs} (h : str a = str b) : a = b := by
  have := congrArg (fun s : ByteArray => s.data.toList) h
  exact this
theorem str_app (a b : Bs) : str a ++ str b = str (a ++ b) := by
  apply ByteArray.ext
  simp [str]
theorem str_cut (s : Bs) (l h : Nat) (hh : h ≤ s.length) : (str s).extract l h = str ((s.drop l).take (h - l)) := by
  apply ByteArray.ext
  apply Array.ext'
  simp [str, List.take_drop, List.extract_eq_take_drop]
section
variable {P : Program} {σ : Store} {E : Operand → Option AVal} {d : Option Tmp} {ty : TypeId} {pos : String} {after : Array Edge} {guard : Option (Nat × Bool)}
variable {x y : Operand} {t u : TypeId} {s a b : Bs}
theorem op_cut_str {lo hi : Option Operand} {l h : Nat} (ht : P.underlying t = some .string) (hx : E x = some (.v (.string (str s)))) (hlo : OptI E lo 0 l) (hhi : OptI E hi s.length h) (hlh : l ≤ h) (hhs : h ≤ s.length) :
    OpTo P ⟨d, .slice t x lo hi none, ty, pos, after, guard⟩ E σ (.v (.string (str ((s.drop l).take (h - l))))) σ := by
  have := op_cut_string (P := P) (σ := σ) (d := d) (ty := ty) (pos := pos) (after := after) (guard := guard) (s := str s) ht hx hlo hhi hlh hhs
  rwa [str_cut s l h hhs] at this
theorem op_cut_to {hi : Option Operand} {h : Nat} (ht : P.underlying t = some .string) (hx : E x = some (.v (.string (str s)))) (hhi : OptI E hi s.length h) (hhs : h ≤ s.length) :
    OpTo P ⟨d, .slice t x none hi none, ty, pos, after, guard⟩ E σ (.v (.string (str (s.take h)))) σ := by
  have := op_cut_str (P := P) (σ := σ) (d := d) (ty := ty) (pos := pos) (after := after) (guard := guard) (lo := none) ht hx (.inl ⟨rfl, rfl⟩) hhi (Nat.zero_le _) hhs
  simpa using this
theorem op_sadd_str (hx : E x = some (.v (.string (str a)))) (hy : E y = some (.v (.string (str b)))) (hl : a.length + b.length ≤ 9223372036854775807) : OpTo P ⟨d, .binOp .add t x y u, ty, pos, after, guard⟩ E σ (.v (.string (str (a ++ b)))) σ := by
  have := op_sadd (P := P) (σ := σ) (t := t) (u := u) (d := d) (ty := ty) (pos := pos) (after := after) (guard := guard) hx hy hl
  rwa [str_app] at this
theorem op_slen_str {ts : Array TypeId} (ht : P.underlying t = some .string) (hx : E x = some (.v (.string (str a)))) : OpTo P ⟨d, .call { callee := .builtin .len, args := #[x], argTypes := #[t] }, ty, pos, after, guard⟩ E σ (.v (.int .i64 a.length)) σ := op_slen (ts := ts) ht hx
theorem op_sidx_str {i : Int} {j : Nat} {k : IntKind} (ht : P.underlying t = some .string) (hx : E x = some (.v (.string (str s)))) (hy : E y = some (.v (.int k i))) (hj : i.toNat = j) (h0 : 0 ≤ i) (h1 : j < s.length) : OpTo P ⟨d, .index t x y, ty, pos, after, guard⟩ E σ (.v (.int .u8 ((s.getD j default).toNat : Int))) σ :=
  op_sindex_at (s := str s) ht hx hy hj h0 h1
theorem op_ifn_eql {v : Value} {b : Bool} (ht : P.isIface t = true) (hx : E x = some (.v v)) (hy : E (.const .nilIface) = some (.v .nilIface)) (hv : (v = .nilIface ∧ b = true) ∨ ((∃ te pe, v = .iface te pe) ∧ b = false)) : OpTo P ⟨d, .binOp .eql t x (.const .nilIface) u, ty, pos, after, guard⟩ E σ (.v (.bool b)) σ :=
  op_value fun ok L w ρ hs hr => by
    have h1 := rep_bool (hr x (by simp [Op.operands]) _ hx)
    have h2 := rep_bool (hr (.const .nilIface) (by simp [Op.operands]) _ hy)
    refine ⟨.bool b, ?_, RepC.v _⟩
    rcases hv with ⟨rfl, rfl⟩ | ⟨⟨te, pe, rfl⟩, rfl⟩
    · have := run_eql_nil_nil_at (P := P) w t ht
      simp [execOp, eqGuard, h1, h2, this]
    · have := run_eql_iface_nil (P := P) w t ht te pe
      simp [execOp, eqGuard, h1, h2, this]
theorem conv_core {ok : Nat → Prop} {w : World} {t2 e : TypeId} {l : Bs} {v : Value} (hs' : P.underlying t = some (.slice e)) (he : P.underlying e = some (.int .u8)) (hd : P.underlying t2 = some .string) (h : RepC ok w (.list 1 (l.map encY)) v) :
    (convert t t2 v).run P w = .ok (.string (str l)) w := by
  obtain ⟨a, c, rfl, hc, h2⟩ := h.list_form
  rw [List.length_map]
  rcases h2 with e0 | ⟨b, o, vs, rfl, hb, _, h3, h4, _⟩
  · have : l = [] := by simpa using e0
    subst this
    cases a with
    | none => exact run_convert_bytes_nil w t e hs' he 0 c t2 hd
    | some a => exact run_convert_bytes_back w t t2 e a c [] hs' he hd (fun j hj => by simp at hj)
  · refine run_convert_bytes_back w t t2 e ⟨b, o, none⟩ c l hs' he hd (fun j hj => ?_)
    have hx2 : (l.map encY)[j]? = some (encY l[j]) := by rw [List.getElem?_map, List.getElem?_eq_getElem hj]; rfl
    have h5 := h3 j _ 0 _ hx2 rfl
    have h6 := h4 j _ 0 _ hx2 rfl
    rw [addr_add0]
    have e1 : vs j 0 = .int .u8 (l[j].toNat : Int) := by
      generalize vs j 0 = u at h6
      cases h6; rfl
    rw [e1] at h5
    simpa using h5
theorem op_str_list {t2 e : TypeId} {l : Bs} (hs' : P.underlying t = some (.slice e)) (he : P.underlying e = some (.int .u8)) (hd : P.underlying t2 = some .string) (hx : E x = some (.list 1 (l.map encY))) :
    OpTo P ⟨d, .convert t t2 x, ty, pos, after, guard⟩ E σ (.v (.string (str l))) σ :=
  op_value fun ok L w ρ hs hr => ⟨.string (str l), by simp [execOp, conv_core hs' he hd (hr x (by simp [Op.operands]) _ hx)], RepC.v _⟩
theorem op_seql_str (hx : E x = some (.v (.string (str a)))) (hy : E y = some (.v (.string (str b)))) : OpTo P ⟨d, .binOp .eql t x y u, ty, pos, after, guard⟩ E σ (.v (.bool (a == b))) σ := by
  have := op_seql (P := P) (σ := σ) (t := t) (u := u) (d := d) (ty := ty) (pos := pos) (after := after) (guard := guard) hx hy
  rwa [str_toList, str_toList] at this
theorem op_sneq_str (hx : E x = some (.v (.string (str a)))) (hy : E y = some (.v (.string (str b)))) : OpTo P ⟨d, .binOp .neq t x y u, ty, pos, after, guard⟩ E σ (.v (.bool (!(a == b)))) σ := by
  have := op_sneq (P := P) (σ := σ) (t := t) (u := u) (d := d) (ty := ty) (pos := pos) (after := after) (guard := guard) hx hy
  rwa [str_toList, str_toList] at this
end
section
variable {P : Program} {n : Nat} {Q : APost} {env : Env} {σ : Store}
theorem aw_as {c : Code} (t : Nat) {a : AVal} (b : AVal) (h : env.get t = some a) (e : a = b) (k : AW P n c Q ((t, b) :: env) σ) : AW P n c Q env σ := by
  subst e
  refine aw_weaken _ (fun u x hu => ?_) k
  rw [Env.get_cons] at hu
  split at hu
  · rename_i e; subst e; rw [h]; exact hu
  · exact hu
theorem res_tmp_cell {fn : Func} {t ty u : Nat} {td : TypeDesc} {inf : TypeInfo} {id ver sz : Nat} {els : List (List AVal)} {el : List AVal} {a b : AVal} (h : fn.results = #[.tmp u, .cell t ty]) (hb : env.get u = some b) (hu : P.underlying ty = some td) (hi : P.info? ty = some inf) (ht : env.get t = some (.ptr id ver 0 0)) (hid : σ.get id = some (ver, .row sz els)) (hel : els[0]? = some el)
    (ha : asOne (TypeDesc.isAggB td) inf.size (el.drop 0) = some a) (hfb : b.flat = true) (hfa : a.flat = true) : ResOK P fn env σ (.tuple [b, a]) := by
  intro ok L w tmps hs hr
  obtain ⟨p, p1, p2⟩ := hr t _ ht
  obtain ⟨q, q1, q2⟩ := hr u _ hb
  obtain ⟨ad, rfl, v, hv, hrep⟩ := load_core hu hi hid hel ha hs (show RepL ok L w (.ptr id ver 0 0) p from p2)
  refine ⟨.tuple #[q, v], ?_, [q, v], rfl, repA_of q2 hfb, repA_of hrep hfa, trivial⟩
  simp [results, h, p1, q1, asAddr, hv]
end
theorem bool_as {P : Program} {o : Oper} {E : Operand → Option AVal} {σ : Store} {b v : Bool} (e : b = v) (h : OpTo P o E σ (.v (.bool b)) σ) : OpTo P o E σ (.v (.bool v)) σ := e ▸ h
section
variable {P : Program} {n : Nat} {Q : APost} {env : Env} {σ : Store} {ops : Array Oper}
theorem aany_known2 {p q t dd d2 : Nat} {l : List Oper} {b c v : Bool} {a2 : AVal} (hok : segOK ops p q = true) (hl : (ops.toList.drop p).take (q - p) = l) (hpq : p ≤ q) (ht : env.get t = some (.v (.bool b))) (hd : ∀ o ∈ l, ∀ d, o.dst = some d → d < n)
    (hb : b = v) (h : ∃ as env', QL P ops σ ((t, .v (.bool v)) :: env) l as env' ∧ env'.get dd = some (.v (.bool c)) ∧ env'.get d2 = some a2 ∧ SubX [dd, d2] env env')
    (hnext : AAny P n ops Q q ((dd, .v (.bool c)) :: (d2, a2) :: env) σ) : AAny P n ops Q p env σ := by
  subst hb
  obtain ⟨as, env', h1, h2, h4, h3⟩ := h
  refine aany_weaken ((t, .v (.bool b)) :: env) (fun u a hu => ?_) (aany_seg hok hl hpq h1 hd (aany_weaken _ (fun u a hu => ?_) hnext))
  · rw [Env.get_cons] at hu
    split at hu
    · rename_i e; subst e; cases hu; exact ht
    · exact hu
  · rw [Env.get_cons] at hu
    split at hu
    · rename_i e; subst e; cases hu; exact h2
    · rename_i e
      rw [Env.get_cons] at hu
      split at hu
      · rename_i e2; subst e2; cases hu; exact h4
      · rename_i e2; exact h3 u a (by simp; omega) hu
theorem aany_and2 (p q t dd d2 : Nat) (a2 : AVal) {l : List Oper} {b c : Bool} (hok : segOK ops p q = true) (hl : (ops.toList.drop p).take (q - p) = l) (hpq : p ≤ q) (ht : env.get t = some (.v (.bool b))) (hd : ∀ o ∈ l, ∀ d, o.dst = some d → d < n)
    (h2 : b = true → ∃ as env', QL P ops σ ((t, .v (.bool true)) :: env) l as env' ∧ env'.get dd = some (.v (.bool c)) ∧ env'.get d2 = some a2 ∧ SubX [dd, d2] env env')
    (h1 : b = false → ∃ as env', QL P ops σ ((t, .v (.bool false)) :: env) l as env' ∧ env'.get dd = some (.v (.bool false)) ∧ env'.get d2 = some a2 ∧ SubX [dd, d2] env env')
    (hnext : AAny P n ops Q q ((dd, .v (.bool (b && c))) :: (d2, a2) :: env) σ) : AAny P n ops Q p env σ := by
  cases hb : b
  · rw [hb] at hnext; exact aany_known2 hok hl hpq ht hd hb (h1 hb) hnext
  · rw [hb] at hnext; exact aany_known2 hok hl hpq ht hd hb (h2 hb) hnext
theorem ql_ex2 {l : List Oper} {as : List AVal} {env0 env' : Env} {dd d2 : Nat} {c : Bool} {a2 : AVal} (h : QL P ops σ env0 l as env') (h1 : env'.get dd = some (.v (.bool c))) (h3 : env'.get d2 = some a2) (h2 : SubX [dd, d2] env env') : ∃ as env', QL P ops σ env0 l as env' ∧ env'.get dd = some (.v (.bool c)) ∧ env'.get d2 = some a2 ∧ SubX [dd, d2] env env' := ⟨as, env', h, h1, h3, h2⟩
end
section
variable {P : Program}
open Go.RowKit
theorem sim_below {ok : Nat → Prop} {L : Loc} {σ : Store} {w w' : World} (hs : Sim ok L σ w) (hb : Below w.heap.size w w') (ok2 : Nat → Prop) (h2 : ∀ b, ok2 b → w.heap.size ≤ b ∧ b < w'.heap.size) :
    Evo ok L σ w (fun b => ok b ∨ ok2 b) L σ w' ∧ Sim (fun b => ok b ∨ ok2 b) L σ w' := by
  obtain ⟨e1, e2, e3, e4, e5⟩ := hb
  have he : Evo ok L σ w (fun b => ok b ∨ ok2 b) L σ w' := ⟨e1, e2, e3, e4, fun b hb _ => e5 b hb, fun _ _ h => h, fun _ h => .inl h, fun b h hlt => h.elim .inl (fun h => by have := h2 b h; omega), fun _ => Nat.le_refl _, fun _ _ => ⟨rfl, rfl, rfl⟩⟩
  refine ⟨he, ⟨fun i v o h => (hs.objs i v o h).evo hs he rfl (fun hc => e5 _ (hs.lt _ ⟨i, v, o, h, hc, rfl⟩)), fun k hf => Nat.lt_of_lt_of_le (hs.lt k hf) e4, hs.inj, fun k hk => ?_, hs.globEvo he⟩⟩
  rcases hk with hk | hk
  · exact ⟨Nat.lt_of_lt_of_le (hs.okd k hk).1 e4, (hs.okd k hk).2⟩
  · exact ⟨(h2 k hk).2, fun hf => by have := hs.lt _ hf; have := h2 k hk; omega⟩
theorem acp_below {f : FuncId} {avs : List AVal} {vs : List Value} {a : Value} (hv : avs = vs.map .v) (h : ∀ ok w, GlobOK ok w → Calls P f vs.toArray w fun e w' => e = .returned a ∧ Below w.heap.size w w') : ACp P f avs (.v a) := by
  subst hv
  intro σ ok L w vs' hs hvs
  have e : vs' = vs := by
    clear h hs
    induction vs generalizing vs' with
    | nil => cases vs' with
      | nil => rfl
      | cons _ _ => exact hvs.elim
    | cons v vs ih => cases vs' with
      | nil => exact hvs.elim
      | cons v' vs' => rw [ih _ hvs.2, rep_bool hvs.1]
  subst e
  refine (h ok w hs.glob).mono ?_
  rintro e w' ⟨rfl, hb⟩
  obtain ⟨he, hs'⟩ := sim_below hs hb (fun _ => False) (fun _ h => h.elim)
  exact ⟨.ret (.v a), σ, _, L, ⟨rfl, rfl⟩, he, hs', RepC.v a⟩
end
end Go.Proofs.YtcgdlhkiecommaaGreatDoor
