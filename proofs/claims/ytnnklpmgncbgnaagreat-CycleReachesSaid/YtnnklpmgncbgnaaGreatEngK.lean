/- The engine, part 11: maps. -/
import Derived.Test.YtnnklpmgncbgnaaGreatEngJ
import Derived.ChangeKeysEq
set_option linter.unusedVariables false
set_option linter.unusedSimpArgs false
namespace Go.Proofs.YtnnklpmgncbgnaaGreat
open Go

theorem bytes_eq (a b : ByteArray) : (a == b) = true ↔ a = b := by
  obtain ⟨x⟩ := a
  obtain ⟨y⟩ := b
  constructor
  · intro h
    have e : x = y := by simpa using (show (x == y) = true from h)
    rw [e]
  · intro h
    cases h
    show (x == x) = true
    simp

/-- Keys that are plain: the same? -/
def keyEq1 : Value → Value → Bool
  | .int _ a, .int _ b => a == b
  | .string a, .string b => a == b
  | .bool a, .bool b => a == b
  | _, _ => false
def keyEq : Value → Value → Bool
  | .agg as, .agg bs => as.toList.length == bs.toList.length && (as.toList.zip bs.toList).all fun p => keyEq1 p.1 p.2
  | a, b => keyEq1 a b

def mapFind (k : Value) : List (Value × AVal) → Option AVal
  | [] => none
  | (k', a) :: r => if keyEq k k' then some a else mapFind k r
def mapPut (k : Value) (a : AVal) : List (Value × AVal) → List (Value × AVal)
  | [] => [(k, a)]
  | (k', a') :: r => if keyEq k k' then (k', a) :: r else (k', a') :: mapPut k a r

/-- How the machine finds a key: K says which values are keys. -/
structure KeyLaw (P : Program) (kt : TypeId) (K : Value → Prop) : Prop where
  check : ∀ (e : Bool) (k : Value) (w : World), K k → (Instr.checkKey e 10000 kt k).run P w = .ok () w
  find : ∀ (k : Value) (es : List MapEntry) (w : World), K k → (∀ m ∈ es, K m.key) → (Instr.findKey kt k es).run P w = .ok ((es.findIdx? fun m => keyEq k m.key).bind fun i => (es[i]?).map fun m => (i, m.val)) w
  stays : ∀ (k k' : Value), K k → K k' → keyEq k k' = true → k' = k
  bits : ∀ (k : Value), K k → Instr.sameBits 10000 k k = true

section
variable {P : Program}

theorem findNow_idx (td : TypeDesc) (k : Value) (K : Value → Prop) (h : ∀ k', K k' → Instr.sameNow td k k' = some (keyEq k k')) : ∀ (es : List MapEntry) (i : Nat), (∀ m ∈ es, K m.key) →
    Instr.findNow td k es i = some ((es.findIdx? fun m => keyEq k m.key).bind fun j => (es[j]?).map fun m => (j + i, m.val))
  | [], i, _ => by simp [Instr.findNow]
  | e :: es, i, hm => by
    simp only [Instr.findNow, h e.key (hm e (by simp))]
    rw [List.findIdx?_cons]
    cases hk : keyEq k e.key with
    | true => simp
    | false =>
      simp only [Bool.false_eq_true, if_false]
      rw [findNow_idx td k K h es (i + 1) (fun m hmm => hm m (by simp [hmm]))]
      cases hf : es.findIdx? (fun m => keyEq k m.key) with
      | none => simp
      | some j => simp [Nat.add_assoc, Nat.add_comm 1 i]

theorem keyLaw_int {kt : TypeId} {k : IntKind} (ht : P.underlying kt = some (.int k)) : KeyLaw P kt (fun v => ∃ n, v = .int k n) where
  check := by
    rintro e _ w ⟨n, rfl⟩
    show (Instr.checkKey e (9999 + 1) kt _).run P w = _
    rw [Instr.checkKey]
    simp [run_underlying ht]
  find := by
    rintro _ es w ⟨n, rfl⟩ hm
    have := findNow_idx (.int k) (.int k n) (fun v => ∃ n, v = .int k n) (by rintro _ ⟨m, rfl⟩; simp [Instr.sameNow, keyEq, keyEq1]) es 0 hm
    simp only [Nat.add_zero] at this
    simp [Instr.findKey, run_underlying ht, this]
  stays := by
    rintro _ _ ⟨n, rfl⟩ ⟨m, rfl⟩ h
    simp only [keyEq, keyEq1, beq_iff_eq] at h
    rw [h]
  bits := by
    rintro _ ⟨n, rfl⟩
    show Instr.sameBits (9999 + 1) _ _ = true
    simp [Instr.sameBits]

theorem keyLaw_string {kt : TypeId} (ht : P.underlying kt = some .string) : KeyLaw P kt (fun v => ∃ s, v = .string s) where
  check := by
    rintro e _ w ⟨n, rfl⟩
    show (Instr.checkKey e (9999 + 1) kt _).run P w = _
    rw [Instr.checkKey]
    simp [run_underlying ht]
  find := by
    rintro _ es w ⟨n, rfl⟩ hm
    have := findNow_idx .string (.string n) (fun v => ∃ n, v = .string n) (by rintro _ ⟨m, rfl⟩; simp [Instr.sameNow, keyEq, keyEq1]) es 0 hm
    simp only [Nat.add_zero] at this
    simp [Instr.findKey, run_underlying ht, this]
  stays := by
    rintro _ _ ⟨n, rfl⟩ ⟨m, rfl⟩ h
    simp only [keyEq, keyEq1] at h
    rw [(bytes_eq n m).1 h]
  bits := by
    rintro _ ⟨n, rfl⟩
    show Instr.sameBits (9999 + 1) _ _ = true
    simp only [Instr.sameBits]
    exact (bytes_eq n n).2 rfl

/-- '[2]int' as a key. -/
theorem run_equal_pair {kt et : TypeId} {k : IntKind} {inf : TypeInfo} {a b c d : Int} (w : World) (ht : P.underlying kt = some (.array 2 et)) (he : P.underlying et = some (.int k)) (hi : P.info? et = some inf) (hs : inf.size = 1) :
    (Op.equal kt (.agg #[.int k a, .int k b]) (.agg #[.int k c, .int k d])).run P w = .ok (a == c && b == d) w := by
  have hc : P.cellsOf et = 1 := by simp [Program.cellsOf, hi, hs]
  show (Op.equalIn (9999 + 1) kt _ _).run P w = _
  rw [run_equalIn_array w 9999 _ _ ht hi, hc]
  have e1 : ∀ (x y : Int), (Op.equalIn 9999 et (.int k x) (.int k y)).run P w = .ok (x == y) w := fun x y => run_equalIn_int w 9998 et k k x y he
  have ha : ∀ w, (isAgg et).run P w = .ok false w := fun w => run_isAgg' he
  simp only [show List.range 2 = [0, 1] from rfl, Op.eqItems, Sem.run_bind, part, ha, Result.andThen_ok]
  simp only [Bool.false_eq_true, if_false, Nat.zero_mul, Nat.one_mul]
  simp [e1]
  cases h : (a == c) <;> cases h2 : (b == d) <;> simp_all

theorem run_check_pair {kt et : TypeId} {k : IntKind} {inf : TypeInfo} {a b : Int} (e : Bool) (w : World) (ht : P.underlying kt = some (.array 2 et)) (he : P.underlying et = some (.int k)) (hi : P.info? et = some inf) (hs : inf.size = 1) :
    (Instr.checkKey e 10000 kt (.agg #[.int k a, .int k b])).run P w = .ok () w := by
  show (Instr.checkKey e (9999 + 1) kt _).run P w = _
  rw [Instr.checkKey]
  have c1 : ∀ x : Int, (Instr.checkKey e 9999 et (.int k x)).run P w = .ok () w := by
    intro x
    show (Instr.checkKey e (9998 + 1) et _).run P w = _
    rw [Instr.checkKey]
    simp [run_underlying he]
  simp only [Sem.run_bind, run_underlying ht, Result.andThen_ok]
  simp only [Std.Legacy.Range.forIn_eq_forIn_range', Std.Legacy.Range.size, Nat.sub_zero, Nat.add_one_sub_one, Nat.div_one]
  have ha : ∀ w, (isAgg et).run P w = .ok false w := fun w => run_isAgg' he
  have hz : ∀ w, (sizeOf et).run P w = .ok 1 w := fun w => by simp [sizeOf, typeInfo, hi, hs]
  simp only [show List.range' 0 2 1 = [0, 1] from rfl, List.forIn_cons, List.forIn_nil, Sem.run_bind, hz, Result.andThen_ok, Sem.run_pure, part, ha, Bool.false_eq_true, if_false]
  simp [c1, hz, ha]

theorem keyLaw_pair {kt et : TypeId} {k : IntKind} {inf : TypeInfo} (ht : P.underlying kt = some (.array 2 et)) (he : P.underlying et = some (.int k)) (hi : P.info? et = some inf) (hs : inf.size = 1) : KeyLaw P kt (fun v => ∃ a b, v = .agg #[.int k a, .int k b]) where
  check := by
    rintro e _ w ⟨a, b, rfl⟩
    exact run_check_pair e w ht he hi hs
  find := by
    rintro _ es w ⟨a, b, rfl⟩ hm
    have key : ∀ (es : List MapEntry) (i : Nat), (∀ m ∈ es, ∃ a b, m.key = .agg #[.int k a, .int k b]) → (Instr.findAsking kt (.agg #[.int k a, .int k b]) es i).run P w = .ok ((es.findIdx? fun m => keyEq (.agg #[.int k a, .int k b]) m.key).bind fun j => (es[j]?).map fun m => (j + i, m.val)) w := by
      intro es
      induction es with
      | nil => intro i _; simp [Instr.findAsking]
      | cons e es ih =>
        intro i hm
        obtain ⟨c, d, hk⟩ := hm e (by simp)
        have heq : keyEq (.agg #[.int k a, .int k b]) e.key = (a == c && b == d) := by rw [hk]; simp [keyEq, keyEq1]
        simp only [Instr.findAsking, Sem.run_bind, hk, run_equal_pair w ht he hi hs, Result.andThen_ok]
        rw [List.findIdx?_cons, heq]
        cases hb : (a == c && b == d) with
        | true => simp
        | false =>
          simp only [Bool.false_eq_true, if_false]
          rw [ih (i + 1) (fun m hmm => hm m (by simp [hmm]))]
          cases hf : es.findIdx? (fun m => keyEq (.agg #[.int k a, .int k b]) m.key) with
          | none => simp
          | some j => simp [Nat.add_assoc, Nat.add_comm 1 i]
    have hk := key es 0 hm
    simp only [Nat.add_zero] at hk
    have hnow : Instr.findNow (.array 2 et) (.agg #[.int k a, .int k b]) es 0 = none ∨ es = [] := by
      cases es with
      | nil => exact .inr rfl
      | cons e es => left; obtain ⟨c, d, hk⟩ := hm e (by simp); simp [Instr.findNow, Instr.sameNow, hk]
    rcases hnow with hnow | rfl
    · simp [Instr.findKey, run_underlying ht, hnow, hk]
    · simp [Instr.findKey, run_underlying ht, Instr.findNow]
  stays := by
    rintro _ _ ⟨a, b, rfl⟩ ⟨c, d, rfl⟩ h
    simp [keyEq, keyEq1] at h
    rw [h.1, h.2]
  bits := by
    rintro _ ⟨a, b, rfl⟩
    show Instr.sameBits (9998 + 1 + 1) _ _ = true
    simp [Instr.sameBits]

theorem run_getObj_map {w : World} {r : Nat} {es : Array MapEntry} {c : Nat} (h : w.heap[r]? = some (.map es c)) : (getObj r).run P w = .ok (.map es c) w := by
  simp [getObj, Sem.run, h]
theorem run_setObj_map {w : World} {r : Nat} {es : Array MapEntry} {c : Nat} {o : Obj} (h : w.heap[r]? = some (.map es c)) : (setObj r o).run P w = .ok () { w with heap := w.heap.setIfInBounds r o } := by
  simp [setObj, Sem.run, h]

theorem mapFind_idx {R : AVal → Value → Prop} (k : Value) : ∀ (ents : List (Value × AVal)) (es : List MapEntry), All2 (fun (a : Value × AVal) (m : MapEntry) => m.key = a.1 ∧ R a.2 m.val) ents es →
    match mapFind k ents with
    | some a => ∃ i m, es.findIdx? (fun m => keyEq k m.key) = some i ∧ es[i]? = some m ∧ R a m.val
    | none => es.findIdx? (fun m => keyEq k m.key) = none
  | [], [], _ => by simp [mapFind]
  | (k', a) :: ents, m :: es, ⟨⟨h1, h2⟩, h3⟩ => by
    simp only [mapFind]
    rw [List.findIdx?_cons]
    simp only at h1 h2
    rw [h1]
    cases hb : keyEq k k' with
    | true =>
      simp only [if_true]
      exact ⟨0, m, rfl, rfl, h2⟩
    | false =>
      have ih := mapFind_idx k ents es h3
      simp only [Bool.false_eq_true, if_false]
      cases hf : mapFind k ents with
      | none => rw [hf] at ih; simp only at ih; rw [ih]; rfl
      | some b =>
        rw [hf] at ih
        obtain ⟨i, m', h4, h5, h6⟩ := ih
        exact ⟨i + 1, m', by rw [h4]; rfl, by simpa using h5, h6⟩
  | [], _ :: _, h => h.elim
  | _ :: _, [], h => h.elim

theorem mapPut_rep {R : AVal → Value → Prop} {k : Value} {a : AVal} {v : Value} (clock : Nat) (hR : R a v) : ∀ (ents : List (Value × AVal)) (es : List MapEntry), All2 (fun (a : Value × AVal) (m : MapEntry) => m.key = a.1 ∧ R a.2 m.val) ents es →
    All2 (fun (a : Value × AVal) (m : MapEntry) => m.key = a.1 ∧ R a.2 m.val) (mapPut k a ents) (match es.findIdx? (fun m => keyEq k m.key) with
      | some i => es.modify i fun e => { e with val := v }
      | none => es ++ [{ key := k, val := v, born := clock }])
  | [], [], _ => ⟨⟨rfl, hR⟩, trivial⟩
  | (k', b) :: ents, m :: es, ⟨⟨h1, h2⟩, h3⟩ => by
    simp only [mapPut]
    rw [List.findIdx?_cons]
    simp only at h1 h2
    rw [h1]
    cases hb : keyEq k k' with
    | true =>
      simp only [if_true]
      exact ⟨⟨h1, hR⟩, h3⟩
    | false =>
      have ih := mapPut_rep (k := k) clock hR ents es h3
      simp only [Bool.false_eq_true, if_false]
      cases hf : es.findIdx? (fun m => keyEq k m.key) with
      | none => rw [hf] at ih; exact ⟨⟨h1, h2⟩, ih⟩
      | some i => rw [hf] at ih; exact ⟨⟨h1, h2⟩, ih⟩
  | [], _ :: _, h => h.elim
  | _ :: _, [], h => h.elim
end

section
variable {P : Program} {n : Nat} {Q : APost} {env : Env} {σ σ' : Store} {ops : Array Oper} {rest : List Oper}
variable {E : Operand → Option AVal} {d : Option Tmp} {ty : TypeId} {pos : String} {after : Array Edge} {guard : Option (Nat × Bool)}

/-- A plain key, as the machine holds it. -/
def concOf : AVal → Option Value
  | .v x => some x
  | .agg cs => (cs.mapM (fun (a : AVal) => match a with | AVal.v x => some x | _ => none) : Option (List Value)).map fun vs => .agg vs.toArray
  | _ => none
theorem conc_rep {ok : Nat → Prop} {L : Loc} {w : World} {a : AVal} {v k : Value} (h : Rep ok L w a v) (hc : concOf a = some k) : v = k := by
  cases a with
  | v x => simp only [concOf, Option.some.injEq] at hc; subst hc; exact rep_bool h
  | agg cs =>
    obtain ⟨vs, rfl, h2⟩ := h
    simp only [concOf, Option.map_eq_some_iff] at hc
    obtain ⟨us, h3, rfl⟩ := hc
    congr 2
    have key : ∀ (cs : List AVal) (vs us : List Value), All2 (RepL ok L w) cs vs → (cs.mapM fun (a : AVal) => match a with | AVal.v x => some x | _ => none) = some us → vs = us := by
      intro cs
      induction cs with
      | nil => intro vs us h1 h2; cases vs with | nil => simp at h2; exact h2.symm | cons _ _ => exact h1.elim
      | cons c cs ih =>
        intro vs us h1 h2
        cases vs with
        | nil => exact h1.elim
        | cons v vs =>
          rw [List.mapM_cons] at h2
          simp only [bind, Option.bind_eq_some_iff, pure, Option.some.injEq] at h2
          obtain ⟨x, hx, us', h4, rfl⟩ := h2
          cases c with
          | v y =>
            simp only [Option.some.injEq] at hx
            subst hx
            rw [rep_bool (ok := ok) (L := L) (w := w) (x := y) (v := v) h1.1, ih vs us' h1.2 h4]
          | _ => cases hx
    exact key cs vs us h2 h3
  | _ => cases hc

theorem op_makeMap {t kt et : TypeId} {r : Option Operand} (id : Nat) (ht : P.underlying t = some (.map kt et)) (hr0 : r = none ∨ ∃ x k i, r = some x ∧ E x = some (.v (.int k i))) :
    OpR P ⟨d, .makeMap t r, ty, pos, after, guard⟩ E σ (fun a σ' => ∃ ver, a = .map id ver ∧ σ' = σ.put id ver (.map [])) := by
  intro ok L w ρ hs hr
  obtain ⟨he, hs'⟩ := sim_upd (w' := w.alloc (.map #[] 0)) hs id w.heap.size 1 1 (L.ver id + 1) (.map []) (by omega) rfl rfl rfl (by simp) (fun k hk _ => Go.RowKit.Below.heap_alloc w _ k hk) (.inl (Nat.le_refl _)) (fun _ => by simp)
    (fun he => ⟨by simp [Loc.upd], by simp [Loc.upd], #[], 0, by simpa [Loc.upd] using heap_alloc_new w _, trivial, ⟨by simp, by simp⟩⟩)
  refine ⟨_, _, .map (some w.heap.size), _, ok, _, ⟨_, rfl, rfl⟩, .inl ?_, he, hs', by simp [Loc.upd], fun _ => by simp [Loc.upd]⟩
  rcases hr0 with rfl | ⟨x, k, i, rfl, hx⟩
  · simp [execOp, Instr.makeMap]
  · have e := rep_bool (hr x (by simp [Op.operands]) _ hx)
    simp [execOp, Instr.makeMap, run_underlying ht, e, asInt, asIntOf]

theorem op_lookup {x y : Operand} {t kt et : TypeId} {K : Value → Prop} {id ver : Nat} {ents : List (Value × AVal)} {ka a z : AVal} {k : Value} {inf : TypeInfo} {zv : Value} (ht : P.underlying t = some (.map kt et)) (law : KeyLaw P kt K) (hi : P.info? et = some inf) (hz : inf.zero = some zv) (hzz : z = (match zv with | .agg cs => .agg (cs.toList.map .v) | v => .v v))
    (hx : E x = some (.map id ver)) (hid : σ.get id = some (ver, .map ents)) (hy : E y = some ka) (hk : concOf ka = some k) (hK : K k) (hKs : ∀ e ∈ ents, K e.1) (hf : (mapFind k ents).getD z = a) (hfl : a.flat = true) :
    OpTo P ⟨d, .lookup t x y false, ty, pos, after, guard⟩ E σ a σ :=
  op_value fun ok L w ρ hs hr => by
    have h1 := (hr x (by simp [Op.operands]) _ hx).2 (hs.ver hid)
    have h2 := conc_rep (hr y (by simp [Op.operands]) _ hy) hk
    obtain ⟨o1, o2, es, clock, o3, o4, o5⟩ := hs.objs id ver _ hid
    have hKe : ∀ m ∈ es.toList, K m.key := by
      intro m hm
      obtain ⟨i, hi⟩ := List.getElem?_of_mem hm
      have hl := All2.length _ _ o4
      have hlt : i < ents.length := by rw [hl]; exact (List.getElem?_eq_some_iff.1 hi).1
      obtain ⟨m', h3, h4, _⟩ := All2.get _ _ o4 i _ (List.getElem?_eq_getElem hlt)
      rw [hi] at h3
      cases h3
      rw [h4]
      exact hKs _ (List.getElem_mem hlt)
    have hfind := law.find k es.toList w hK hKe
    have hidx := mapFind_idx k ents es.toList o4
    cases hm : mapFind k ents with
    | some b =>
      rw [hm] at hidx hf
      obtain ⟨i, m, h3, h4, h5⟩ := hidx
      simp only [Option.getD_some] at hf
      subst hf
      refine ⟨m.val, ?_, rep_of h5 hfl⟩
      simp only [h3, Option.bind_some, h4, Option.map_some] at hfind
      simp [execOp, Instr.lookup, run_underlying ht, h1, h2, run_getObj_map o3, law.check _ k w hK, hfind]
    | none =>
      rw [hm] at hidx hf
      simp only at hidx
      simp only [Option.getD_none] at hf
      subst hf
      refine ⟨zv, ?_, ?_⟩
      · simp only [hidx, Option.bind_none] at hfind
        simp [execOp, Instr.lookup, run_underlying ht, h1, h2, run_getObj_map o3, law.check _ k w hK, hfind, zeroValue, typeInfo, hi, hz]
      · subst hzz
        cases zv <;> first
          | exact RepC.v _
          | (rename_i cs; exact ⟨cs.toList, by simp, All2.map_v ok L w _⟩)

/-- 'v, ok := m[k]' -/
theorem op_lookup_ok {x y : Operand} {t kt et : TypeId} {K : Value → Prop} {id ver : Nat} {ents : List (Value × AVal)} {ka a z : AVal} {k : Value} {inf : TypeInfo} {zv : Value} (ht : P.underlying t = some (.map kt et)) (law : KeyLaw P kt K) (hi : P.info? et = some inf) (hz : inf.zero = some zv) (hzz : z = (match zv with | .agg cs => .agg (cs.toList.map .v) | v => .v v))
    (hx : E x = some (.map id ver)) (hid : σ.get id = some (ver, .map ents)) (hy : E y = some ka) (hk : concOf ka = some k) (hK : K k) (hKs : ∀ e ∈ ents, K e.1) (hf : (mapFind k ents).getD z = a) :
    OpTo P ⟨d, .lookup t x y true, ty, pos, after, guard⟩ E σ (.tuple [a, .v (.bool (mapFind k ents).isSome)]) σ :=
  op_value fun ok L w ρ hs hr => by
    have h1 := (hr x (by simp [Op.operands]) _ hx).2 (hs.ver hid)
    have h2 := conc_rep (hr y (by simp [Op.operands]) _ hy) hk
    obtain ⟨o1, o2, es, clock, o3, o4, o5⟩ := hs.objs id ver _ hid
    have hKe : ∀ m ∈ es.toList, K m.key := by
      intro m hm
      obtain ⟨i, hi⟩ := List.getElem?_of_mem hm
      have hl := All2.length _ _ o4
      have hlt : i < ents.length := by rw [hl]; exact (List.getElem?_eq_some_iff.1 hi).1
      obtain ⟨m', h3, h4, _⟩ := All2.get _ _ o4 i _ (List.getElem?_eq_getElem hlt)
      rw [hi] at h3
      cases h3
      rw [h4]
      exact hKs _ (List.getElem_mem hlt)
    have hfind := law.find k es.toList w hK hKe
    have hidx := mapFind_idx k ents es.toList o4
    cases hm : mapFind k ents with
    | some b =>
      rw [hm] at hidx hf
      obtain ⟨i, m, h3, h4, h5⟩ := hidx
      simp only [Option.getD_some] at hf
      subst hf
      refine ⟨.tuple #[m.val, .bool true], ?_, [m.val, .bool true], rfl, h5, RepC.v _, trivial⟩
      simp only [h3, Option.bind_some, h4, Option.map_some] at hfind
      simp [execOp, Instr.lookup, run_underlying ht, h1, h2, run_getObj_map o3, law.check _ k w hK, hfind]
    | none =>
      rw [hm] at hidx hf
      simp only at hidx
      simp only [Option.getD_none] at hf
      subst hf
      refine ⟨.tuple #[zv, .bool false], ?_, [zv, .bool false], rfl, ?_, RepC.v _, trivial⟩
      · simp only [hidx, Option.bind_none] at hfind
        simp [execOp, Instr.lookup, run_underlying ht, h1, h2, run_getObj_map o3, law.check _ k w hK, hfind, zeroValue, typeInfo, hi, hz]
      · subst hzz
        cases zv <;> first
          | exact RepC.v _
          | (rename_i cs; exact ⟨cs.toList, by simp, All2.map_v ok L w _⟩)

theorem op_mapUpdate {x y u : Operand} {t kt et : TypeId} {K : Value → Prop} {id ver : Nat} {ents : List (Value × AVal)} {ka a : AVal} {k : Value} (ht : P.underlying t = some (.map kt et)) (law : KeyLaw P kt K)
    (hx : E x = some (.map id ver)) (hid : σ.get id = some (ver, .map ents)) (hy : E y = some ka) (hk : concOf ka = some k) (hK : K k) (hKs : ∀ e ∈ ents, K e.1) (hu : E u = some a) (hfl : a.flat = true) :
    OpTo P ⟨d, .mapUpdate t x y u, ty, pos, after, guard⟩ E σ (.v undef) (σ.put id ver (.map (mapPut k a ents))) := by
  intro ok L w ρ hs hr
  have h1 := (hr x (by simp [Op.operands]) _ hx).2 (hs.ver hid)
  have h2 := conc_rep (hr y (by simp [Op.operands]) _ hy) hk
  have h3 := repA_of (hr u (by simp [Op.operands]) _ hu) hfl
  obtain ⟨o1, o2, es, clock, o3, o4, o5⟩ := hs.objs id ver _ hid
  have hKe : ∀ m ∈ es.toList, K m.key := by
    intro m hm
    obtain ⟨i, hi⟩ := List.getElem?_of_mem hm
    have hl := All2.length _ _ o4
    have hlt : i < ents.length := by rw [hl]; exact (List.getElem?_eq_some_iff.1 hi).1
    obtain ⟨m', h3, h4, _⟩ := All2.get _ _ o4 i _ (List.getElem?_eq_getElem hlt)
    rw [hi] at h3
    cases h3
    rw [h4]
    exact hKs _ (List.getElem_mem hlt)
  have hfind := law.find k es.toList w hK hKe
  have hput := mapPut_rep (R := RepA ok L w) (k := k) clock h3 ents es.toList o4
  have hltb : L.blk id < w.heap.size := (Array.getElem?_eq_some_iff.1 o3).1
  -- what is laid into the block
  have main : ∃ es' clock', (execOp ρ ⟨d, .mapUpdate t x y u, ty, pos, after, guard⟩).run P w = .ok .skip { w with heap := w.heap.setIfInBounds (L.blk id) (.map es' clock') } ∧ All2 (fun (a : Value × AVal) (m : MapEntry) => m.key = a.1 ∧ RepA ok L w a.2 m.val) (mapPut k a ents) es'.toList ∧ Stamped es' clock' := by
    cases hf : es.toList.findIdx? (fun m => keyEq k m.key) with
    | none =>
      rw [hf] at hfind hput
      refine ⟨es.push { key := k, val := ρ u, born := clock }, clock + 1, ?_, by simpa using hput, ?_⟩
      rotate_left
      · refine ⟨fun m hm => ?_, ?_⟩
        · rw [Array.toList_push, List.mem_append] at hm
          rcases hm with hm | hm
          · exact Nat.lt_succ_of_lt (o5.1 m hm)
          · rw [List.mem_singleton] at hm; subst hm; exact Nat.lt_succ_self _
        · rw [Array.toList_push, List.map_append, List.nodup_append]
          refine ⟨o5.2, by simp, fun a ha b hb e => ?_⟩
          obtain ⟨m, hm, rfl⟩ := List.mem_map.1 ha
          have := o5.1 m hm
          simp at hb
          omega
      simp only [Option.bind_none] at hfind
      simp [execOp, Instr.mapUpdate, run_underlying ht, h1, h2, run_getObj_map o3, run_setObj_map o3, law.check _ k w hK, hfind]
    | some i =>
      rw [hf] at hfind hput
      obtain ⟨hi, hp, _⟩ := List.findIdx?_eq_some_iff_getElem.1 hf
      have hi' : i < es.size := by simpa using hi
      have hkey : es[i].key = k := law.stays k _ hK (hKe _ (by simp)) (by simpa using hp)
      refine ⟨es.modify i fun e => { e with val := ρ u }, clock, ?_, by simpa using hput, ?_⟩
      rotate_left
      · have hb : (es.modify i fun e => { e with val := ρ u }).toList.map (·.born) = es.toList.map (·.born) := by
          apply List.ext_getElem (by simp)
          intro j h1 h2
          simp only [List.getElem_map, Array.toList_modify, List.getElem_modify]
          split <;> rfl
        refine ⟨fun m hm => ?_, by rw [hb]; exact o5.2⟩
        have hm2 := List.mem_map_of_mem (f := (·.born)) hm
        rw [hb] at hm2
        obtain ⟨m', h1, h2⟩ := List.mem_map.1 hm2
        have := o5.1 m' h1
        exact h2 ▸ this
      simp only [Option.bind_some, List.getElem?_eq_getElem hi, Option.map_some] at hfind
      have hes : es.modify i (fun e => { e with key := k, val := ρ u }) = es.modify i (fun e => { e with val := ρ u }) := by
        apply Array.ext (by simp)
        intro j h1 h2
        simp only [Array.getElem_modify]
        split
        · rename_i hij
          subst hij
          rw [hkey]
        · rfl
      have hst : Instr.keyThatStays k k = (pure k : Sem Value) := by simp [Instr.keyThatStays, law.bits k hK]
      simp [execOp, Instr.mapUpdate, run_underlying ht, h1, h2, run_getObj_map o3, run_setObj_map o3, law.check _ k w hK, hfind, hi', hkey, hst, hes]
  obtain ⟨es', clock', hrun, hrep, hstm⟩ := main
  obtain ⟨he, hs'⟩ := sim_set (w' := { w with heap := w.heap.setIfInBounds (L.blk id) (.map es' clock') }) hs id ver _ (.map (mapPut k a ents)) hid o2 rfl rfl rfl (by simp) (fun j hj => by simp [Array.getElem?_setIfInBounds_ne (Ne.symm hj)]) (fun he => by
    refine ⟨o1, o2, es', clock', by simp [hltb], All2.mono ?_ _ _ hrep, hstm⟩
    rintro p m ⟨k1, k2⟩
    exact ⟨k1, k2.evo hs he⟩)
  exact ⟨undef, _, ok, L, .inr ⟨hrun, rfl⟩, he, hs', RepC.v _⟩
end
end Go.Proofs.YtnnklpmgncbgnaaGreat
