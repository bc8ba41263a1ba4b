/- The engine, part 7: structs and arrays as values, tuples, cuts, calls and what may be lent to them. -/
import Derived.Test.YtbojpddejdmamaaGreatDoorEngF
set_option linter.unusedVariables false
set_option linter.unusedSimpArgs false
namespace Go.Proofs.YtbojpddejdmamaaGreatDoor
open Go

section
variable {P : Program} {n : Nat} {Q : APost} {env : Env} {σ σ' : Store} {ops : Array Oper} {rest : List Oper}
variable {E : Operand → Option AVal} {d : Option Tmp} {ty : TypeId} {pos : String} {after : Array Edge} {guard : Option (Nat × Bool)}

/-- Part of a struct or an array told by its cells. -/
theorem run_part {ok : Nat → Prop} {L : Loc} {w : World} {t : TypeId} {td : TypeDesc} {inf : TypeInfo} {cells : List AVal} {vs : List Value} {off : Nat} {a : AVal} (ht : P.underlying t = some td) (hi : P.info? t = some inf) (h : All2 (RepL ok L w) cells vs) (ha : asOne (TypeDesc.isAggB td) inf.size (cells.drop off) = some a) :
    ∃ v, (part t vs.toArray off).run P w = .ok v w ∧ Rep ok L w a v := by
  have hl := All2.length _ _ h
  cases hb : TypeDesc.isAggB td with
  | false =>
    rw [hb] at ha
    have h0 : cells[off]? = some a := by simpa [asOne, List.head?_eq_getElem?] using ha
    obtain ⟨v, h1, h2⟩ := All2.get _ _ h off a h0
    exact ⟨v, by simp [part, run_isAgg' ht, hb, h1], h2.rep h2.leaf⟩
  | true =>
    rw [hb] at ha
    simp only [asOne] at ha
    split at ha
    · rename_i hk
      cases ha
      refine ⟨.agg (vs.toArray.extract off (off + inf.size)), by simp [part, run_isAgg' ht, hb, sizeOf, typeInfo, hi], (vs.drop off).take inf.size, ?_, ?_⟩
      · apply congrArg
        apply Array.ext'
        simp [Array.toList_extract, List.extract_eq_take_drop]
      · refine All2.of_get _ _ (by simp; omega) fun i x y hx hy => ?_
        rw [List.getElem?_take] at hx hy
        split at hx
        · rename_i hlt
          rw [if_pos hlt] at hy
          rw [List.getElem?_drop] at hx hy
          obtain ⟨v, h1, h2⟩ := All2.get _ _ h _ _ hx
          rw [h1] at hy
          cases hy
          exact h2
        · cases hx
    · cases ha

theorem op_field {x : Operand} {s f off : Nat} {fs : Array Field} {fl : Field} {td : TypeDesc} {inf : TypeInfo} {cells : List AVal} {a : AVal} (hs' : P.underlying s = some (.struct fs)) (hf : fs[f]? = some fl) (ht : P.underlying fl.type = some td) (hi : P.info? fl.type = some inf) (hoff : fl.offset = off)
    (hx : E x = some (.agg cells)) (ha : asOne (TypeDesc.isAggB td) inf.size (cells.drop off) = some a) : OpTo P ⟨d, .field s x f, ty, pos, after, guard⟩ E σ a σ :=
  op_value fun ok L w ρ hs hr => by
    obtain ⟨vs, h1, h2⟩ := hr x (by simp [Op.operands]) _ hx
    obtain ⟨v, h3, h4⟩ := run_part (P := P) (t := fl.type) ht hi h2 ha
    refine ⟨v, ?_, h4⟩
    simp [execOp, Instr.field, run_underlying hs', hf, h1, asAgg, hoff, h3]

theorem op_index {x ix : Operand} {t e m : Nat} {td : TypeDesc} {inf : TypeInfo} {cells : List AVal} {a : AVal} {i : Int} {k : IntKind} (ht' : P.underlying t = some (.array m e)) (ht : P.underlying e = some td) (hi : P.info? e = some inf)
    (hx : E x = some (.agg cells)) (hix : E ix = some (.v (.int k i))) (h0 : 0 ≤ i) (hlt : i < m) (ha : asOne (TypeDesc.isAggB td) inf.size (cells.drop (i.toNat * inf.size)) = some a) : OpTo P ⟨d, .index t x ix, ty, pos, after, guard⟩ E σ a σ :=
  op_value fun ok L w ρ hs hr => by
    obtain ⟨vs, h1, h2⟩ := hr x (by simp [Op.operands]) _ hx
    have h4 := rep_bool (hr ix (by simp [Op.operands]) _ hix)
    obtain ⟨v, h3, h5⟩ := run_part (P := P) (t := e) ht hi h2 ha
    refine ⟨v, ?_, h5⟩
    simp [execOp, Instr.index, asIntOf, run_underlying ht', h1, h4, h0, hlt, sizeOf, typeInfo, hi, h3]

theorem op_extract {x : Operand} {i : Nat} {comps : List AVal} {a : AVal} (hx : E x = some (.tuple comps)) (ha : comps[i]? = some a) (hf : a.flat = true) : OpTo P ⟨d, .extract x i, ty, pos, after, guard⟩ E σ a σ :=
  op_value fun ok L w ρ hs hr => by
    obtain ⟨vs, h1, h2⟩ := hr x (by simp [Op.operands]) _ hx
    obtain ⟨v, h3, h4⟩ := All2.get _ _ h2 i a ha
    exact ⟨v, by simp [execOp, Instr.extract, h1, h3], rep_of h4 hf⟩

/-- operands, one by one -/
def avals (E : Operand → Option AVal) : List Operand → Option (List AVal)
  | [] => some []
  | x :: xs => match E x, avals E xs with
    | some a, some as => some (a :: as)
    | _, _ => none
theorem avals_rep {ok : Nat → Prop} {L : Loc} {w : World} {ρ : Operand → Value} : ∀ (xs : List Operand) (as : List AVal), (∀ x ∈ xs, ∀ b, E x = some b → Rep ok L w b (ρ x)) → avals E xs = some as → All2 (Rep ok L w) as (xs.map ρ)
  | [], as, _, h => by simp [avals] at h; subst h; trivial
  | x :: xs, as, hr, h => by
    simp only [avals] at h
    split at h
    · rename_i a as' h1 h2
      cases h
      exact ⟨hr x (by simp) a h1, avals_rep xs as' (fun y hy => hr y (by simp [hy])) h2⟩
    · cases h
theorem avals_leaf {ok : Nat → Prop} {L : Loc} {w : World} : ∀ (as : List AVal) (vs : List Value), All2 (Rep ok L w) as vs → as.all AVal.leaf = true → All2 (RepL ok L w) as vs
  | [], [], _, _ => trivial
  | a :: as, v :: vs, ⟨h1, h2⟩, h => by
    simp only [List.all_cons, Bool.and_eq_true] at h
    exact ⟨h1.toL h.1, avals_leaf as vs h2 h.2⟩
  | [], _ :: _, h, _ => h.elim
  | _ :: _, [], h, _ => h.elim

/-- a closure -/
theorem op_closure {f : FuncId} {caps : Array Operand} {as : List AVal} (hc : avals E caps.toList = some as) (hl : as.all AVal.leaf = true) : OpTo P ⟨d, .makeFunc (.func f) #[] caps, ty, pos, after, guard⟩ E σ (.fn f as) σ :=
  op_value fun ok L w ρ hs hr => by
    have h1 := avals_rep (ρ := ρ) (ok := ok) (L := L) (w := w) caps.toList as (fun x hx b hb => hr x (by simpa [Op.operands] using hx) b hb) hc
    refine ⟨.func (.func f) #[] (caps.map ρ), by simp [execOp, Instr.makeFunc], _, ?_, avals_leaf _ _ h1 hl⟩
    congr 1
    apply Array.ext'
    simp
theorem op_func {f : FuncId} : OpTo P ⟨d, .makeFunc (.func f) #[] #[], ty, pos, after, guard⟩ E σ (.v (.func (.func f) #[] #[])) σ :=
  op_value fun ok L w ρ hs hr => ⟨_, by simp [execOp, Instr.makeFunc], RepC.v _⟩

/-! ### Cuts -/
def OptI (E : Operand → Option AVal) (o : Option Operand) (dflt l : Nat) : Prop := (o = none ∧ l = dflt) ∨ ∃ x k i, o = some x ∧ E x = some (.v (.int k i)) ∧ i = (l : Int)
theorem OptI.of {x : Operand} {k : IntKind} {i : Int} {l dflt : Nat} (h : E x = some (.v (.int k i))) (he : i = (l : Int)) : OptI E (some x) dflt l := .inr ⟨x, k, i, rfl, h, he⟩
theorem OptI.none {l : Nat} : OptI E .none l l := .inl ⟨rfl, rfl⟩

theorem optI_mem {lo : Option Operand} {dflt l : Nat} {ok : Nat → Prop} {L : Loc} {w : World} {ρ : Operand → Value} (h : OptI E lo dflt l) (hr : ∀ x, lo = some x → ∀ b, E x = some b → Rep ok L w b (ρ x)) : (lo = none ∧ l = dflt) ∨ ∃ x k, lo = some x ∧ ρ x = .int k (l : Int) := by
  rcases h with h | ⟨x, k, i, h1, h2, rfl⟩
  · exact .inl h
  · exact .inr ⟨x, k, h1, rep_bool (hr x h1 _ h2)⟩

theorem run_bounds {w : World} {isSlice : Bool} {len cap l h : Nat} {ρ : Operand → Value} {lo hi : Option Operand} (hlo : (lo = none ∧ l = 0) ∨ ∃ x k, lo = some x ∧ ρ x = .int k (l : Int)) (hhi : (hi = none ∧ h = len) ∨ ∃ x k, hi = some x ∧ ρ x = .int k (h : Int)) (hlh : l ≤ h) (hhc : h ≤ cap) :
    (Instr.sliceBounds isSlice len cap (lo.map ρ) (hi.map ρ) none).run P w = .ok (l, h, cap) w := by
  rcases hlo with ⟨rfl, rfl⟩ | ⟨x, k, rfl, h1⟩ <;> rcases hhi with ⟨rfl, rfl⟩ | ⟨y, k', rfl, h2⟩ <;>
    (simp only [Option.map_some, Option.map_none, Instr.sliceBounds, Instr.sliceBound, asIntOf, *]; simp [hlh, hhc, *])

theorem op_cut_string {x : Operand} {t : TypeId} {lo hi : Option Operand} {s : ByteArray} {l h : Nat} (ht : P.underlying t = some .string) (hx : E x = some (.v (.string s))) (hlo : OptI E lo 0 l) (hhi : OptI E hi s.size h) (hlh : l ≤ h) (hhs : h ≤ s.size) :
    OpTo P ⟨d, .slice t x lo hi none, ty, pos, after, guard⟩ E σ (.v (.string (s.extract l h))) σ :=
  op_value fun ok L w ρ hs hr => by
    have h1 := rep_bool (hr x (by simp [Op.operands]) _ hx)
    have h2 := optI_mem hlo (ρ := ρ) (ok := ok) (L := L) (w := w) (fun y hy => hr y (by simp [Op.operands, hy]))
    have h3 := optI_mem hhi (ρ := ρ) (ok := ok) (L := L) (w := w) (fun y hy => hr y (by simp [Op.operands, hy]))
    have h4 := run_bounds (P := P) (w := w) (isSlice := false) h2 h3 hlh hhs
    refine ⟨_, ?_, RepC.v _⟩
    simp [execOp, Instr.sliceAt, run_underlying ht, Instr.slice, h1, h4]

theorem op_cut_list {x : Operand} {t e sz : Nat} {inf : TypeInfo} {lo hi : Option Operand} {els : List (List AVal)} {l h : Nat} (ht : P.underlying t = some (.slice e)) (hi' : P.info? e = some inf) (hsz : inf.size = sz) (hx : E x = some (.list sz els)) (hlo : OptI E lo 0 l) (hhi : OptI E hi els.length h) (hlh : l ≤ h) (hhs : h ≤ els.length) :
    OpTo P ⟨d, .slice t x lo hi none, ty, pos, after, guard⟩ E σ (.list sz ((els.drop l).take (h - l))) σ :=
  op_value fun ok L w ρ hs hr => by
    obtain ⟨a, c, h1, hc, hh⟩ := RepC.list_form (hr x (by simp [Op.operands]) _ hx)
    have h2 := optI_mem hlo (ρ := ρ) (ok := ok) (L := L) (w := w) (fun y hy => hr y (by simp [Op.operands, hy]))
    have h3 := optI_mem hhi (ρ := ρ) (ok := ok) (L := L) (w := w) (fun y hy => hr y (by simp [Op.operands, hy]))
    have h4 := run_bounds (P := P) (w := w) (isSlice := true) h2 h3 hlh (Nat.le_trans hhs hc)
    have hlen : ((els.drop l).take (h - l)).length = h - l := by simp; omega
    refine ⟨.slice (if c = l then a else a.map (·.add (l * sz))) (h - l) (c - l), by simp [execOp, Instr.sliceAt, run_underlying ht, Instr.slice, h1, h4, sizeOf, typeInfo, hi', hsz], ?_⟩
    by_cases hne : h - l = 0
    · have : (els.drop l).take (h - l) = [] := List.eq_nil_of_length_eq_zero (by omega)
      rw [this, hne]
      exact RepC.empty _ _ _
    · rcases hh with rfl | ⟨b, o, vs, rfl, hok, hs1, hcell, hrep, h1'⟩
      · simp at hhs; omega
      · rw [if_neg (by omega)]
        simp only [Option.map_some, addr_add0]
        have hg : ∀ i e, ((els.drop l).take (h - l))[i]? = some e → els[l + i]? = some e := by
          intro i e hi
          rw [List.getElem?_take] at hi
          split at hi
          · rwa [List.getElem?_drop] at hi
          · cases hi
        have key := RepC.list (ok := ok) (w := w) sz ((els.drop l).take (h - l)) b (o + l * sz) (c - l) (fun i j => vs (l + i) j) hok (by rw [hlen]; omega) (fun e he => hs1 e (List.mem_of_mem_drop (List.mem_of_mem_take he))) (fun i e j av hi hj => by
          have := hcell _ _ _ _ (hg i e hi) hj
          rw [show o + l * sz + i * sz + j = o + (l + i) * sz + j from by rw [Nat.add_mul]; omega]
          exact this) (fun i e j av hi hj => h1' _ _ _ _ (hg i e hi) hj) (fun i e j av hi hj => hrep _ _ _ _ (hg i e hi) hj)
        rw [hlen] at key
        exact key

/-- 's[lo:hi]' of a row of one's own. -/
theorem op_cut_slice {x : Operand} {t e sz id ver off m : Nat} {inf : TypeInfo} {lo hi : Option Operand} {els : List (List AVal)} {l h : Nat} (ht : P.underlying t = some (.slice e)) (hi' : P.info? e = some inf) (hsz : inf.size = sz) (hx : E x = some (.slice id ver off m)) (hid : σ.get id = some (ver, .row sz els)) (hlo : OptI E lo 0 l) (hhi : OptI E hi m h) (hlh : l ≤ h) (hhs : h ≤ m) :
    OpTo P ⟨d, .slice t x lo hi none, ty, pos, after, guard⟩ E σ (.slice id ver (off + l) (h - l)) σ :=
  op_value fun ok L w ρ hs hr => by
    have hx' := hr x (by simp [Op.operands]) _ hx
    obtain ⟨a, c, h1, hc, hc0, ha⟩ := hx'.2 (hs.ver hid)
    have h2 := optI_mem hlo (ρ := ρ) (ok := ok) (L := L) (w := w) (fun y hy => hr y (by simp [Op.operands, hy]))
    have h3 := optI_mem hhi (ρ := ρ) (ok := ok) (L := L) (w := w) (fun y hy => hr y (by simp [Op.operands, hy]))
    have h4 := run_bounds (P := P) (w := w) (isSlice := true) h2 h3 hlh (Nat.le_trans hhs hc)
    have hsz' : L.sz id = sz := (hs.objs id ver _ hid).2.1
    refine ⟨.slice (if c = l then a else a.map (·.add (l * sz))) (h - l) (c - l), by simp [execOp, Instr.sliceAt, run_underlying ht, Instr.slice, h1, h4, sizeOf, typeInfo, hi', hsz], hx'.1, fun hv => ⟨_, _, rfl, by omega, by omega, fun hh => ?_⟩⟩
    · rcases hh with hh | ⟨h0, hcap⟩
      · have := ha (.inl (by omega))
        rw [if_neg (by omega), this]
        simp [addr_add0, hsz', Nat.add_mul]
      · have e1 : off = 0 := by omega
        have e2 : l = 0 := by omega
        subst e1 e2
        have := ha (.inr ⟨rfl, hcap⟩)
        rw [this]
        simp [addr_add0]

/-- 's[lo:hi:hi]' with hi = lo: nothing, and no room. -/
theorem op_cut_zero {x : Operand} {t e sz : Nat} {inf : TypeInfo} {lo hi mx : Option Operand} {els : List (List AVal)} {a : AVal} (ht : P.underlying t = some (.slice e)) (hi' : P.info? e = some inf) (hx : E x = some a) (ha : ∀ ok L w v, Sim ok L σ w → Rep ok L w a v → ∃ b m c, v = .slice b m c)
    (hlo : OptI E lo 0 0) (hhi : ∃ y, hi = some y ∧ ∃ k, E y = some (.v (.int k 0))) (hmx : ∃ y, mx = some y ∧ ∃ k, E y = some (.v (.int k 0))) :
    OpTo P ⟨d, .slice t x lo hi mx, ty, pos, after, guard⟩ E σ .nil σ :=
  op_value fun ok L w ρ hs hr => by
    obtain ⟨b, m, c, h1⟩ := ha ok L w _ hs (hr x (by simp [Op.operands]) _ hx)
    have h2 := optI_mem hlo (ρ := ρ) (ok := ok) (L := L) (w := w) (fun y hy => hr y (by simp [Op.operands, hy]))
    obtain ⟨y, rfl, k1, hy⟩ := hhi
    obtain ⟨z, rfl, k2, hz⟩ := hmx
    have e1 := rep_bool (hr y (by simp [Op.operands]) _ hy)
    have e2 := rep_bool (hr z (by simp [Op.operands]) _ hz)
    refine ⟨.slice b 0 0, ?_, RepC.nil _⟩
    rcases h2 with ⟨rfl, _⟩ | ⟨q, k3, rfl, e3⟩ <;> simp [execOp, Instr.sliceAt, run_underlying ht, Instr.slice, Instr.sliceBounds, Instr.sliceBound, asIntOf, sizeOf, typeInfo, hi', *]
end
end Go.Proofs.YtbojpddejdmamaaGreatDoor
