/- The engine, part 10: regions that draw their order. -/
import Derived.Test.YtnnklpmgncbgnaaGreatEngI
set_option linter.unusedVariables false
set_option linter.unusedSimpArgs false
namespace Go.Proofs.YtnnklpmgncbgnaaGreat
open Go

/-- The operations that must have come up before number i, and all of them that those ask for. -/
def ancestors (ops : Array Oper) : Nat → Nat → List Nat
  | 0, _ => []
  | k + 1, i => match ops[i]? with
    | none => []
    | some o => o.after.toList.foldr (fun e acc => if Region.binds .any e then e.on :: (ancestors ops k e.on ++ acc) else acc) []

/-- Number j can't come up before number i has. -/
inductive Before (ops : Array Oper) : Nat → Nat → Prop
  | edge (i j : Nat) (o : Oper) (e : Edge) : ops[j]? = some o → e ∈ o.after → Region.binds .any e = true → e.on = i → Before ops i j
  | trans (i j k : Nat) : Before ops i j → Before ops j k → Before ops i k

theorem before_of_ancestors {ops : Array Oper} : ∀ (k i j : Nat), i ∈ ancestors ops k j → Before ops i j
  | 0, i, j, h => by simp [ancestors] at h
  | k + 1, i, j, h => by
    simp only [ancestors] at h
    cases ho : ops[j]? with
    | none => rw [ho] at h; simp at h
    | some o =>
      rw [ho] at h
      simp only at h
      have key : ∀ es : List Edge, (∀ e ∈ es, e ∈ o.after) → i ∈ es.foldr (fun e acc => if Region.binds .any e then e.on :: (ancestors ops k e.on ++ acc) else acc) [] → Before ops i j := by
        intro es
        induction es with
        | nil => intro _ h; simp at h
        | cons e es ih =>
          intro hsub h
          simp only [List.foldr_cons] at h
          have he := hsub e (by simp)
          split at h
          · rename_i hb
            simp only [List.mem_cons, List.mem_append] at h
            rcases h with h | h | h
            · exact .edge i j o e ho he hb h.symm
            · exact .trans i e.on j (before_of_ancestors k i e.on h) (.edge e.on j o e ho he hb rfl)
            · exact ih (fun x hx => hsub x (by simp [hx])) h
          · exact ih (fun x hx => hsub x (by simp [hx])) h
      exact key o.after.toList (fun e he => by simpa using he) h

/-- What has come up is closed. -/
def Closed (ops : Array Oper) (listed : Array Bool) : Prop := ∀ i j, Before ops i j → listed.getD j false = true → listed.getD i false = true

theorem getD_set (listed : Array Bool) (i k : Nat) (d : Bool) : (listed.setIfInBounds i true).getD k d = if i = k ∧ k < listed.size then true else listed.getD k d := by
  simp only [Array.getD_eq_getD_getElem?, Array.getElem?_setIfInBounds]
  by_cases h : i = k
  · subst h
    by_cases h2 : i < listed.size
    · simp [h2]
    · simp [h2]
  · simp [h]

theorem ready_deps {ops : Array Oper} {listed : Array Bool} {j : Nat} (h : j ∈ Region.ready .any ops listed) : j < ops.size ∧ listed.getD j true = false ∧ ∀ o, ops[j]? = some o → ∀ e ∈ o.after, Region.binds .any e = true → listed.getD e.on false = true := by
  obtain ⟨h1, o, h2, h3⟩ := mem_ready.1 h
  refine ⟨(Array.getElem?_eq_some_iff.1 h2).1, h1, fun o' ho' e he hb => ?_⟩
  rw [h2] at ho'
  cases ho'
  exact h3 e he hb

theorem closed_before {ops : Array Oper} {listed : Array Bool} (hc : Closed ops listed) {i j : Nat} (hj : j ∈ Region.ready .any ops listed) (hb : Before ops i j) : listed.getD i false = true := by
  obtain ⟨h1, h2, h3⟩ := ready_deps hj
  induction hb with
  | edge i j o e ho he hbd hon => subst hon; exact h3 o ho e he hbd
  | trans i j k h1' h2' ih1 ih2 => exact hc _ _ h1' (ih2 hj h1 h2 h3)

theorem closed_set {ops : Array Oper} {listed : Array Bool} (hc : Closed ops listed) {j : Nat} (hj : j ∈ Region.ready .any ops listed) (hsz : listed.size = ops.size) : Closed ops (listed.setIfInBounds j true) := by
  intro i k hb hk
  rw [getD_set] at hk ⊢
  by_cases h : j = i ∧ i < listed.size
  · rw [if_pos h]
  · rw [if_neg h]
    by_cases h2 : j = k ∧ k < listed.size
    · obtain ⟨rfl, _⟩ := h2
      exact closed_before hc hj hb
    · rw [if_neg h2] at hk
      exact hc i k hb hk

section
variable {P : Program} {n : Nat} {Q : APost} {env : Env} {σ σ' : Store} {ops : Array Oper}

def prefixB (m p : Nat) : Array Bool := ((List.range m).map fun i => decide (i < p)).toArray
theorem prefix_size (m p : Nat) : (prefixB m p).size = m := by simp [prefixB]
theorem prefix_get (m p k : Nat) (d : Bool) : (prefixB m p).getD k d = if k < m then decide (k < p) else d := by
  simp only [prefixB, Array.getD_eq_getD_getElem?, List.getElem?_toArray, List.getElem?_map]
  by_cases h : k < m
  · rw [List.getElem?_range h]; simp [h]
  · rw [List.getElem?_eq_none (by simpa using h)]; simp [h]

/-- The first p operations have come up; the others may in whatever order is allowed. -/
def AAny (P : Program) (n : Nat) (ops : Array Oper) (Q : APost) (p : Nat) (env : Env) (σ : Store) : Prop :=
  ∀ ok L w act, Sim ok L σ w → RepEnv ok L w env act.tmps → act.defers = [] → act.tmps.size = n → wpAny P .any ops (Post n Q ok L σ w) (ops.size - p) (prefixB ops.size p) act w

theorem aw_any {id : Nat} {l : List Oper} (hm : P.follows .mixedOrders = true) (h : AAny P n l.toArray Q 0 env σ) : AW P n (.region id l.toArray true) Q env σ := by
  intro ok L w act h1 h2 h3 h4
  have hd : Evo ok L σ w ok L σ w.drew := ⟨rfl, rfl, rfl, Nat.le_refl _, fun _ _ _ => rfl, fun _ _ h => h, fun _ h => h, fun _ h _ => .inl h, fun _ => Nat.le_refl _, fun _ _ => ⟨rfl, rfl, rfl⟩⟩
  have hs : Sim ok L σ w.drew := ⟨fun i v o h => (h1.objs i v o h).evo h1 hd rfl (fun _ => rfl), h1.lt, h1.inj, h1.okd, h1.globEvo hd⟩
  have := h ok L w.drew act hs (h2.evo h1 hd) h3 h4
  refine wp_mono (wp_region_any (Q := Post n Q ok L σ w.drew) hm ?_) (fun _ _ _ h => Post.after hd h)
  have e : prefixB l.toArray.size 0 = Array.replicate l.toArray.size false := by
    apply Array.ext (by simp [prefix_size])
    intro i h1 h2
    simp [prefixB]
  rw [e] at this
  simpa using this

/-- What one operation does, said of its operands alone. -/
def OpK (P : Program) (o : Oper) (E : Operand → Option AVal) (σ : Store) (a : AVal) : Prop :=
  ∀ ok L w (act : Act), Sim ok L σ w → (∀ x ∈ o.op.operands, ∀ b, E x = some b → Rep ok L w b (act.eval x)) →
    ∀ (K : Act → World → Prop) (Q' : Exit → Act → World → Prop), (∀ v w' ok' L', Evo ok L σ w ok' L' σ w' → Sim ok' L' σ w' → Rep ok' L' w' a v → K (act.put o.dst v) w') → o.wp P act w K Q'

theorem opk_of {o : Oper} {E : Operand → Option AVal} {a : AVal} (h : OpTo P o E σ a σ) : OpK P o E σ a := by
  intro ok L w act hs hr K Q' hK
  obtain ⟨v, w', ok', L', h1, he, hs', hv⟩ := h ok L w act.eval hs hr
  unfold Oper.wp
  rcases h1 with h1 | ⟨h1, rfl⟩
  · rw [h1]; exact hK v w' ok' L' he hs' hv
  · rw [h1]; exact hK undef w' ok' L' he hs' hv

theorem opk_call {f : Operand} {args : Array Operand} {ts : Array TypeId} {fa a : AVal} {g : FuncId} {caps : List AVal} {avs : List AVal} {E : Operand → Option AVal} {d : Option Tmp} {ty : TypeId} {pos : String} {after : Array Edge} {guard : Option (Nat × Bool)} (hin : Into P g)
    (hf : E f = some fa) (hc : calleeOf fa = some (g, caps)) (ha : avals E args.toList = some avs) (h : AC P g (avs ++ caps) σ (fun r σ' => r = .ret a ∧ σ' = σ)) : OpK P ⟨d, .call { callee := .value f, args := args, argTypes := ts }, ty, pos, after, guard⟩ E σ a := by
  intro ok L w act hs hr K Q' hK
  obtain ⟨vs, hrun, hv⟩ := call_run (E := E) (d := d) (ty := ty) (pos := pos) (after := after) (guard := guard) (ts := ts) hin hr hf hc ha
  unfold Oper.wp
  rw [hrun]
  refine (h ok L w vs hs hv).mono ?_
  rintro e w' ⟨r, σ', ok', L', ⟨rfl, rfl⟩, he, hs', hx⟩
  cases e with
  | returned v => exact hK v w' ok' L' he hs' hx
  | _ => exact hx.elim

/-- One step of the walk through a piece in which nothing that is held is written. -/
inductive QStep (P : Program) (ops : Array Oper) (o : Oper) (env : Env) (σ : Store) (a : AVal) : Prop
  | plain : o.guard = none → OpK P o (aval env) σ a → QStep P ops o env σ a
  | take (g d : Nat) (b : Bool) (og : Oper) : o.guard = some (g, b) → ops[g]? = some og → og.dst = some d → env.get d = some (.v (.bool b)) → OpK P o (aval env) σ a → QStep P ops o env σ a
  | pass (g d : Nat) (b : Bool) (og : Oper) : o.guard = some (g, b) → ops[g]? = some og → og.dst = some d → env.get d = some (.v (.bool (!b))) → a = .v undef → QStep P ops o env σ a

inductive QL (P : Program) (ops : Array Oper) (σ : Store) : Env → List Oper → List AVal → Env → Prop
  | nil (env : Env) : QL P ops σ env [] [] env
  | cons (env env' : Env) (o : Oper) (rest : List Oper) (a : AVal) (as : List AVal) : QStep P ops o env σ a → QL P ops σ (env.putd o.dst a) rest as env' → QL P ops σ env (o :: rest) (a :: as) env'

/-- The temporaries that an operation looks at. -/
def looks (ops : Array Oper) (o : Oper) : List Tmp :=
  (o.op.operands.toList.filterMap fun | .tmp t => some t | _ => none) ++ (match o.guard with | some (g, _) => ((ops[g]?).bind (·.dst)).toList | none => [])

/-- Numbers p to q - 1: nobody writes what another one looks at or writes but in one order. -/
def segOK (ops : Array Oper) (p q : Nat) : Bool :=
  decide (q ≤ ops.size) && ((List.range ops.size).all fun j => match ops[j]? with | some o => o.after.toList.all (fun e => !Region.binds .any e || decide (e.on < j)) | none => true) && (List.range ops.size).all fun j =>
    let anc := ancestors ops ops.size j
    (if p ≤ j && j < q then
      (List.range ops.size).all fun i =>
        if p ≤ i && i < j then
          match (ops[i]?).bind (·.dst), ops[j]? with
          | some d, some oj => ((!(looks ops oj).contains d || anc.contains i) && oj.dst != some d)
          | _, _ => true
        else true
      else true) &&
    (if p ≤ j && j < q then
      (List.range ops.size).all fun i =>
        if p ≤ i && i < j then
          match (ops[j]?).bind (·.dst), ops[i]? with
          | some d, some oi => (!(looks ops oi).contains d || anc.contains i)
          | _, _ => true
        else true
      else true) &&
    (if q ≤ j then (List.range ops.size).all fun i => if p ≤ i && i < q then anc.contains i else true else true)

/-! ### How many are still to come -/
def togo (listed : Array Bool) : Nat → Nat
  | 0 => 0
  | m + 1 => togo listed m + (bif listed.getD m true then 0 else 1)
theorem togo_set (listed : Array Bool) (i : Nat) (hi : listed.getD i true = false) : ∀ m, togo (listed.setIfInBounds i true) m + (bif decide (i < m) then 1 else 0) = togo listed m := by
  have hlt : i < listed.size := by
    rcases Nat.lt_or_ge i listed.size with h | h
    · exact h
    · simp [Array.getD_eq_getD_getElem?, Array.getElem?_eq_none h] at hi
  intro m
  induction m with
  | zero => simp [togo]
  | succ m ih =>
    simp only [togo]
    have e := getD_set listed i m true
    by_cases h : i = m
    · subst h
      rw [if_pos ⟨rfl, hlt⟩] at e
      rw [e, hi]
      have d1 : decide (i < i + 1) = true := by simp
      have d2 : decide (i < i) = false := by simp
      rw [d1]
      rw [d2] at ih
      simp only [cond_true, cond_false] at ih ⊢
      omega
    · rw [if_neg (fun h' => h h'.1)] at e
      rw [e]
      by_cases h2 : i < m
      · have d1 : decide (i < m + 1) = true := by simp; omega
        have d2 : decide (i < m) = true := by simp [h2]
        rw [d1]
        rw [d2] at ih
        simp only [cond_true] at ih ⊢
        omega
      · have d1 : decide (i < m + 1) = false := by simp; omega
        have d2 : decide (i < m) = false := by simp [h2]
        rw [d1]
        rw [d2] at ih
        simp only [cond_false] at ih ⊢
        omega
theorem togo_prefix (m p : Nat) : ∀ k, k ≤ m → togo (prefixB m p) k = k - p := by
  intro k
  induction k with
  | zero => simp [togo]
  | succ k ih =>
    intro hk
    simp only [togo]
    have e := prefix_get m p k true
    rw [if_pos (show k < m by omega)] at e
    rw [ih (by omega), e]
    by_cases h : k < p
    · have d : decide (k < p) = true := by simp [h]
      rw [d]
      simp only [cond_true]
      omega
    · have d : decide (k < p) = false := by simp [h]
      rw [d]
      simp only [cond_false]
      omega

/-! ### A piece in which nothing that is held is written -/
def envUp : Env → List Oper → List AVal → Nat → Env
  | env, _, _, 0 => env
  | env, o :: l, a :: as, k + 1 => envUp (env.putd o.dst a) l as k
  | env, _, _, _ => env

theorem putd_get (env : Env) (dst : Option Tmp) (a : AVal) (t : Nat) : (env.putd dst a).get t = if dst = some t then some a else env.get t := by
  cases dst with
  | none => simp [Env.putd]
  | some d =>
    simp only [Env.putd, Env.get_cons]
    by_cases h : d = t
    · simp [h]
    · simp [h]

theorem envUp_get (l : List Oper) : ∀ (env : Env) (as : List AVal) (k : Nat) (t : Nat), l.length = as.length → k ≤ l.length →
    (∃ m o a, m < k ∧ l[m]? = some o ∧ as[m]? = some a ∧ o.dst = some t ∧ (envUp env l as k).get t = some a) ∨ ((∀ m o, m < k → l[m]? = some o → o.dst ≠ some t) ∧ (envUp env l as k).get t = env.get t) := by
  induction l with
  | nil => intro env as k t hl hk; right; exact ⟨fun m o _ h => by simp at h, by cases k <;> simp [envUp]⟩
  | cons o l ih =>
    intro env as k t hl hk
    cases as with
    | nil => simp at hl
    | cons a as =>
      cases k with
      | zero => right; exact ⟨fun m o h => by omega, rfl⟩
      | succ k =>
        simp only [envUp]
        rcases ih (env.putd o.dst a) as k t (by simpa using hl) (by simpa using hk) with ⟨m, o', a', h1, h2, h3, h4, h5⟩ | ⟨h1, h2⟩
        · exact .inl ⟨m + 1, o', a', by omega, by simpa using h2, by simpa using h3, h4, h5⟩
        · rw [putd_get] at h2
          by_cases h : o.dst = some t
          · rw [if_pos h] at h2
            exact .inl ⟨0, o, a, by omega, by simp, by simp, h, h2⟩
          · rw [if_neg h] at h2
            refine .inr ⟨fun m o' hm ho' => ?_, h2⟩
            cases m with
            | zero => simp at ho'; subst ho'; exact h
            | succ m => exact h1 m o' (by omega) (by simpa using ho')

theorem QL.out {l : List Oper} {as : List AVal} {env env' : Env} (h : QL P ops σ env l as env') : l.length = as.length ∧ env' = envUp env l as l.length ∧ ∀ k o, l[k]? = some o → ∃ a, as[k]? = some a ∧ QStep P ops o (envUp env l as k) σ a := by
  induction h with
  | nil env => exact ⟨rfl, rfl, fun k o h => by simp at h⟩
  | cons env env' o rest a as hq hr ih =>
    obtain ⟨h1, h2, h3⟩ := ih
    refine ⟨by simp [h1], by simpa [envUp] using h2, fun k o' hk => ?_⟩
    cases k with
    | zero => simp at hk; subst hk; exact ⟨a, by simp, hq⟩
    | succ k =>
      obtain ⟨b, h4, h5⟩ := h3 k o' (by simpa using hk)
      exact ⟨b, by simpa using h4, h5⟩

theorem operand_mem {o : Oper} {t : Nat} (h : Operand.tmp t ∈ o.op.operands) : t ∈ looks ops o := by
  simp only [looks, List.mem_append]
  exact .inl (List.mem_filterMap.2 ⟨.tmp t, by simpa using h, rfl⟩)
theorem guard_mem {o og : Oper} {g d : Nat} {b : Bool} (h1 : o.guard = some (g, b)) (h2 : ops[g]? = some og) (h3 : og.dst = some d) : d ∈ looks ops o := by
  simp only [looks, List.mem_append]
  right
  simp [h1, h2, h3]

theorem oper_wp_mono2 {o : Oper} {a : Act} {w : World} {K K' : Act → World → Prop} {Q1 Q2 : Exit → Act → World → Prop} (hK : ∀ a w, K a w → K' a w) (h : ∀ e a w, Q1 e a w → Q2 e a w) (hh : o.wp P a w K Q1) : o.wp P a w K' Q2 := by
  unfold Oper.wp at *
  generalize (execOp a.eval o).run P w = r at *
  cases r with
  | ok n w' =>
    cases n <;> simp only [Oper.upon] at hh ⊢ <;> first
      | exact hK _ _ hh
      | exact hh
      | exact Calls.mono hh (fun e w'' he => by cases e <;> first | exact hK _ _ he | exact h _ _ _ he | (obtain ⟨a, w, hq⟩ := he; exact ⟨a, w, h _ _ _ hq⟩))
      | exact Rows.mono hh (fun _ _ he => hK _ _ he)
  | halt x w' => cases x <;> simp only [Oper.upon] at hh ⊢ <;> first | exact hh | exact h _ _ _ hh
theorem wpAny_monoQ {Q1 Q2 : Exit → Act → World → Prop} (h : ∀ e a w, Q1 e a w → Q2 e a w) : ∀ (fuel : Nat) (listed : Array Bool) (a : Act) (w : World), wpAny P .any ops Q1 fuel listed a w → wpAny P .any ops Q2 fuel listed a w
  | 0, _, _, _, hh => ⟨hh.1, h _ _ _ hh.2⟩
  | fuel + 1, listed, a, w, hh => ⟨fun h0 => h _ _ _ (hh.1 h0), fun i hi => by
      have h1 := hh.2 i hi
      unfold wpOp at h1 ⊢
      split
      · rename_i ho; rw [ho] at h1; exact wpAny_monoQ h fuel _ _ _ h1
      · rename_i o ho
        rw [ho] at h1
        simp only at h1
        split
        · rename_i hw
          rw [if_pos hw] at h1
          rcases h1 with h1 | ⟨h2, a1, w1, h3⟩
          · exact .inl (oper_wp_mono2 (fun a w => wpAny_monoQ h fuel _ a w) h h1)
          · exact .inr ⟨h2, a1, w1, h _ _ _ h3⟩
        · rename_i hw
          rw [if_neg hw] at h1
          exact wpAny_monoQ h fuel _ _ _ h1⟩

theorem togo_pos {listed : Array Bool} {i : Nat} (hi : listed.getD i true = false) : ∀ m, i < m → 0 < togo listed m
  | m + 1, h => by
    simp only [togo]
    by_cases e : i = m
    · subst e; rw [hi]; simp
    · have := togo_pos hi m (by omega); omega

theorem aval_rep {ok : Nat → Prop} {L : Loc} {w : World} {e : Env} {act : Act} {x : Operand} {a : AVal} (h : ∀ t, x = .tmp t → ∀ a, e.get t = some a → ∃ v, act.tmps[t]? = some v ∧ Rep ok L w a v) (hx : aval e x = some a) : Rep ok L w a (act.eval x) := by
  cases x with
  | tmp t =>
    obtain ⟨v, h1, h2⟩ := h t rfl a hx
    simp only [Act.eval, Array.getD_eq_getD_getElem?, h1]
    exact h2
  | const v => exact RepEnv.aval (env := []) (act := act) (fun t a ht => by cases ht) (by cases v <;> exact hx)
  | func f => exact RepEnv.aval (env := []) (act := act) (fun t a ht => by cases ht) hx
  | global g => simp [aval] at hx

theorem getD_true_of_false {listed : Array Bool} {i : Nat} (h : listed.getD i false = true) : listed.getD i true = true := by
  simp only [Array.getD_eq_getD_getElem?] at h ⊢
  cases hx : listed[i]? with
  | none => rfl
  | some b => rw [hx] at h; exact h
theorem getD_false_of_true {listed : Array Bool} {i : Nat} (hi : i < listed.size) (h : listed.getD i true = true) : listed.getD i false = true := by
  simp only [Array.getD_eq_getD_getElem?] at h ⊢
  rw [Array.getElem?_eq_getElem hi] at h ⊢
  exact h

theorem seg_core {p q : Nat} {l : List Oper} {as : List AVal} {env env' : Env} (hok : segOK ops p q = true) (hl : ∀ k, k < q - p → l[k]? = ops[p + k]?) (hlen : l.length = q - p) (hpq : p ≤ q) (hq : QL P ops σ env l as env') (hd : ∀ o ∈ l, ∀ d, o.dst = some d → d < n) (hnext : AAny P n ops Q q env' σ)
    {ok0 : Nat → Prop} {L0 : Loc} {σ0 : Store} {w0 : World} :
    ∀ (r : Nat) (listed : Array Bool) (ok : Nat → Prop) (L : Loc) (w : World) (act : Act), listed.size = ops.size → togo listed ops.size = r → Closed ops listed → (∀ i, i < p → i < ops.size → listed.getD i true = true) → (∀ i, q ≤ i → i < ops.size → listed.getD i true = false) →
      Evo ok0 L0 σ0 w0 ok L σ w → Sim ok L σ w → act.defers = [] → act.tmps.size = n →
      (∀ k o d a, l[k]? = some o → as[k]? = some a → o.dst = some d → listed.getD (p + k) true = true → ∃ v, act.tmps[d]? = some v ∧ Rep ok L w a v) →
      (∀ t a, env.get t = some a → (∀ k o, l[k]? = some o → o.dst = some t → listed.getD (p + k) true = false) → ∃ v, act.tmps[t]? = some v ∧ Rep ok L w a v) →
      wpAny P .any ops (Post n Q ok0 L0 σ0 w0) r listed act w := by
  obtain ⟨ql1, ql2, ql3⟩ := hq.out
  simp only [segOK, Bool.and_eq_true, decide_eq_true_eq] at hok
  obtain ⟨⟨hqs, hlow⟩, hok⟩ := hok
  rw [List.all_eq_true] at hok hlow
  have low : ∀ (j : Nat) (o : Oper), ops[j]? = some o → ∀ e ∈ o.after, Region.binds .any e = true → e.on < j := by
    intro j o ho e he hb
    have h := hlow j (List.mem_range.2 (Array.getElem?_eq_some_iff.1 ho).1)
    rw [ho] at h
    simp only [List.all_eq_true] at h
    have := h e (by simpa using he)
    simpa [hb] using this
  have chk : ∀ j, j < ops.size → (p ≤ j ∧ j < q → ∀ i, p ≤ i → i < j → (∀ d oi oj, ops[i]? = some oi → oi.dst = some d → ops[j]? = some oj → (d ∈ looks ops oj → Before ops i j) ∧ oj.dst ≠ some d) ∧ (∀ d oi oj, ops[j]? = some oj → oj.dst = some d → ops[i]? = some oi → d ∈ looks ops oi → Before ops i j)) ∧ (q ≤ j → ∀ i, p ≤ i → i < q → Before ops i j) := by
    intro j hj
    have h := hok j (List.mem_range.2 hj)
    simp only [Bool.and_eq_true] at h
    obtain ⟨⟨h1, h2⟩, h3⟩ := h
    refine ⟨fun hpj => ?_, fun hqj i hi hiq => ?_⟩
    · rw [if_pos hpj] at h1 h2
      rw [List.all_eq_true] at h1 h2
      intro i hi hij
      have g1 := h1 i (List.mem_range.2 (by omega))
      have g2 := h2 i (List.mem_range.2 (by omega))
      rw [if_pos ⟨hi, hij⟩] at g1 g2
      refine ⟨fun d oi oj e1 e2 e3 => ?_, fun d oi oj e1 e2 e3 hm => ?_⟩
      · simp only [e1, e2, e3, Option.bind_some] at g1
        simp only [Bool.and_eq_true, Bool.or_eq_true] at g1
        obtain ⟨g1, g1'⟩ := g1
        refine ⟨fun hm => ?_, by simpa using g1'⟩
        rcases g1 with g1 | g1
        · simp [hm] at g1
        · exact before_of_ancestors _ _ _ (by simpa using g1)
      · simp only [e1, e2, e3, Option.bind_some] at g2
        simp only [Bool.or_eq_true] at g2
        rcases g2 with g2 | g2
        · simp [hm] at g2
        · exact before_of_ancestors _ _ _ (by simpa using g2)
    · rw [if_pos hqj, List.all_eq_true] at h3
      have g3 := h3 i (List.mem_range.2 (by omega))
      rw [if_pos ⟨hi, hiq⟩] at g3
      exact before_of_ancestors _ _ _ (by simpa using g3)
  have done : ∀ (listed : Array Bool) (ok : Nat → Prop) (L : Loc) (w : World) (act : Act) (r : Nat), listed.size = ops.size → togo listed ops.size = r → (∀ i, i < p → i < ops.size → listed.getD i true = true) → (∀ i, q ≤ i → i < ops.size → listed.getD i true = false) →
      Evo ok0 L0 σ0 w0 ok L σ w → Sim ok L σ w → act.defers = [] → act.tmps.size = n →
      (∀ k o d a, l[k]? = some o → as[k]? = some a → o.dst = some d → listed.getD (p + k) true = true → ∃ v, act.tmps[d]? = some v ∧ Rep ok L w a v) →
      (∀ t a, env.get t = some a → (∀ k o, l[k]? = some o → o.dst = some t → listed.getD (p + k) true = false) → ∃ v, act.tmps[t]? = some v ∧ Rep ok L w a v) →
      (∀ i, p ≤ i → i < q → listed.getD i true = true) → wpAny P .any ops (Post n Q ok0 L0 σ0 w0) r listed act w := by
    intro listed ok L w act r hsz hleft hlo hhi he hs hdf hn hA hB hall
    have hpre : listed = prefixB ops.size q := by
      apply Array.ext (by rw [hsz, prefix_size])
      intro i h1 h2
      have e1 : listed.getD i true = listed[i] := by simp [Array.getD_eq_getD_getElem?, h1]
      have e2 : (prefixB ops.size q).getD i true = (prefixB ops.size q)[i] := by simp [Array.getD_eq_getD_getElem?, h2]
      rw [← e1, ← e2, prefix_get, if_pos (by omega)]
      rcases Nat.lt_or_ge i p with h | h
      · rw [hlo i h (by omega)]; simp; omega
      · rcases Nat.lt_or_ge i q with h' | h'
        · rw [hall i h h']; simp [h']
        · rw [hhi i h' (by omega)]; simp; omega
    have hr : r = ops.size - q := by rw [← hleft, hpre]; exact togo_prefix _ _ _ (Nat.le_refl _)
    subst hr
    rw [hpre]
    refine wpAny_monoQ (fun _ _ _ h => Post.after he h) _ _ _ _ (hnext ok L w act hs ?_ hdf hn)
    intro t a ht
    rw [ql2] at ht
    rcases envUp_get l env as l.length t ql1 (Nat.le_refl _) with ⟨m, o', a', h1, h2, h3, h4, h5⟩ | ⟨h1, h2⟩
    · rw [h5] at ht
      cases ht
      exact hA m o' t a h2 h3 h4 (hall _ (by omega) (by omega))
    · rw [h2] at ht
      refine hB t a ht (fun k' o' hk' hd' => ?_)
      have hlt' : k' < l.length := (List.getElem?_eq_some_iff.1 hk').1
      exact absurd hd' (h1 k' o' hlt' hk')
  intro r
  induction r with
  | zero =>
    intro listed ok L w act hsz hleft hcl hlo hhi he hs hdf hn hA hB
    exact (done listed ok L w act 0 hsz hleft hlo hhi he hs hdf hn hA hB (fun i hi hiq => by
      cases hh : listed.getD i true with
      | true => rfl
      | false => have := togo_pos hh ops.size (by omega); omega))
  | succ r ih =>
    intro listed ok L w act hsz hleft hcl hlo hhi he hs hdf hn hA hB
    by_cases hall : ∀ i, p ≤ i → i < q → listed.getD i true = true
    · exact done listed ok L w act (r + 1) hsz hleft hlo hhi he hs hdf hn hA hB hall
    · refine ⟨fun hr => ?_, fun j hj => ?_⟩
      · -- something may come up
        exfalso
        have hex : ∃ i, i < ops.size ∧ listed.getD i true = false := by
          apply Classical.byContradiction
          intro hno
          refine hall (fun i hi hiq => ?_)
          cases hh : listed.getD i true with
          | true => rfl
          | false => exact (hno ⟨i, by omega, hh⟩).elim
        obtain ⟨i, hi, hf⟩ := hex
        have least : ∀ m i, i ≤ m → i < ops.size → listed.getD i true = false → ∃ k, k < ops.size ∧ listed.getD k true = false ∧ ∀ k', k' < k → listed.getD k' true = true := by
          intro m
          induction m with
          | zero => intro i him hi hf; exact ⟨i, hi, hf, fun k' hk' => by omega⟩
          | succ m ihm =>
            intro i him hi hf
            by_cases hall' : ∀ k', k' < i → listed.getD k' true = true
            · exact ⟨i, hi, hf, hall'⟩
            · have : ∃ k', k' < i ∧ listed.getD k' true = false := by
                apply Classical.byContradiction
                intro hno
                refine hall' (fun k' hk' => ?_)
                cases hh : listed.getD k' true with
                | true => rfl
                | false => exact (hno ⟨k', hk', hh⟩).elim
              obtain ⟨k', hk', hf'⟩ := this
              exact ihm k' (by omega) (by omega) hf'
        obtain ⟨k, hk, hkf, hkl⟩ := least i i (Nat.le_refl _) hi hf
        have : k ∈ Region.ready .any ops listed := mem_ready.2 ⟨hkf, ops[k], Array.getElem?_eq_getElem hk, fun e hem hb => by
          have h1 := low k _ (Array.getElem?_eq_getElem hk) e hem hb
          exact getD_false_of_true (by omega) (hkl _ h1)⟩
        rw [hr] at this
        cases this
      · obtain ⟨hjs, hjf, hjd⟩ := ready_deps hj
        have hjp : p ≤ j := by
          rcases Nat.lt_or_ge j p with h | h
          · have := hlo j h hjs; rw [this] at hjf; cases hjf
          · exact h
        have hjq : j < q := by
          rcases Nat.lt_or_ge j q with h | h
          · exact h
          · exfalso
            exact hall (fun i hi hiq => getD_true_of_false (closed_before hcl hj ((chk j hjs).2 h i hi hiq)))
        obtain ⟨k, rfl⟩ : ∃ k, j = p + k := ⟨j - p, by omega⟩
        have hlk : l[k]? = ops[p + k]? := hl k (by omega)
        have ho := Array.getElem?_eq_getElem hjs
        rw [ho] at hlk
        generalize ops[p + k] = o at ho hlk
        obtain ⟨a, hak, hst⟩ := ql3 k o hlk
        -- what is looked at is there
        have known : ∀ t ∈ looks ops o, ∀ b, (envUp env l as k).get t = some b → ∃ v, act.tmps[t]? = some v ∧ Rep ok L w b v := by
          intro t ht b hb
          rcases envUp_get l env as k t ql1 (by omega) with ⟨m, o', a', h1, h2, h3, h4, h5⟩ | ⟨h1, h2⟩
          · rw [h5] at hb
            cases hb
            have ho' : ops[p + m]? = some o' := by rw [← hl m (by omega)]; exact h2
            have hbef := (((chk (p + k) hjs).1 ⟨hjp, hjq⟩ (p + m) (by omega) (by omega)).1 t o' o ho' h4 ho).1 ht
            exact hA m o' t b h2 h3 h4 (getD_true_of_false (closed_before hcl hj hbef))
          · rw [h2] at hb
            refine hB t b hb (fun k' o' hk' hd' => ?_)
            have hlt' : k' < l.length := (List.getElem?_eq_some_iff.1 hk').1
            have ho' : ops[p + k']? = some o' := by rw [← hl k' (by omega)]; exact hk'
            rcases Nat.lt_trichotomy k' k with h | h | h
            · exact absurd hd' (h1 k' o' h hk')
            · subst h; exact hjf
            · cases hh : listed.getD (p + k') true with
              | false => rfl
              | true =>
                exfalso
                have hbef := ((chk (p + k') (by omega)).1 ⟨by omega, by omega⟩ (p + k) (by omega) (by omega)).2 t o o' ho' hd' ho ht
                have := hcl _ _ hbef (getD_false_of_true (by omega) hh)
                rw [getD_true_of_false this] at hjf
                cases hjf
        -- on
        have next : ∀ v w' ok' L', Evo ok L σ w ok' L' σ w' → Sim ok' L' σ w' → Rep ok' L' w' a v → wpAny P .any ops (Post n Q ok0 L0 σ0 w0) r (listed.setIfInBounds (p + k) true) (act.put o.dst v) w' := by
          intro v w' ok' L' hev hs' hv
          have hset : ∀ i, (listed.setIfInBounds (p + k) true).getD i true = if p + k = i then true else listed.getD i true := by
            intro i
            rw [getD_set]
            by_cases h : p + k = i
            · rw [if_pos ⟨h, by omega⟩, if_pos h]
            · rw [if_neg (fun hh => h hh.1), if_neg h]
          refine ih (listed.setIfInBounds (p + k) true) ok' L' w' (act.put o.dst v) (by simpa using hsz) ?_ (closed_set hcl hj hsz) (fun i hi his => ?_) (fun i hi his => ?_) (he.trans hev) hs' (by rw [put_defers]; exact hdf) (by rw [put_size]; exact hn) (fun k' o' d a' hk' ha' hd' hlst => ?_) (fun t b hb hno => ?_)
          · have := togo_set listed (p + k) hjf ops.size
            rw [show decide (p + k < ops.size) = true from by simp [hjs]] at this
            simp only [cond_true] at this
            omega
          · rw [hset, if_neg (by omega)]; exact hlo i hi his
          · rw [hset, if_neg (by omega)]; exact hhi i hi his
          · have hlt' : k' < l.length := (List.getElem?_eq_some_iff.1 hk').1
            by_cases e : k' = k
            · subst e
              rw [hlk] at hk'
              cases hk'
              rw [hak] at ha'
              cases ha'
              refine ⟨v, ?_, hv⟩
              have hdn : d < n := hd o (List.mem_of_getElem? hlk) d hd'
              rw [hd']
              simp only [Act.put]
              rw [Array.getElem?_setIfInBounds_self, if_pos (hn.symm ▸ hdn)]
            · rw [hset, if_neg (by omega)] at hlst
              obtain ⟨u, u1, u2⟩ := hA k' o' d a' hk' ha' hd' hlst
              refine ⟨u, ?_, u2.evo hs hev⟩
              have ho' : ops[p + k']? = some o' := by rw [← hl k' (by omega)]; exact hk'
              have hne : o.dst ≠ some d := by
                rcases Nat.lt_or_gt_of_ne e with h | h
                · exact (((chk (p + k) hjs).1 ⟨hjp, hjq⟩ (p + k') (by omega) (by omega)).1 d o' o ho' hd' ho).2
                · intro hod
                  exact (((chk (p + k') (by omega)).1 ⟨by omega, by omega⟩ (p + k) (by omega) (by omega)).1 d o o' ho hod ho').2 hd'
              cases hod : o.dst with
              | none => exact u1
              | some d' =>
                simp only [Act.put]
                rw [Array.getElem?_setIfInBounds_ne (fun h => hne (by rw [hod, h]))]
                exact u1
          · have hnd : o.dst ≠ some t := by
              intro h
              have := hno k o hlk h
              rw [hset, if_pos rfl] at this
              cases this
            obtain ⟨u, u1, u2⟩ := hB t b hb (fun k' o' hk' hd' => by
              have h1 := hno k' o' hk' hd'
              rw [hset] at h1
              split at h1
              · cases h1
              · exact h1)
            refine ⟨u, ?_, u2.evo hs hev⟩
            cases hod : o.dst with
            | none => exact u1
            | some d' =>
              simp only [Act.put]
              rw [Array.getElem?_setIfInBounds_ne (fun h => hnd (by rw [hod, h]))]
              exact u1
        have opr : ∀ x ∈ o.op.operands, ∀ b, aval (envUp env l as k) x = some b → Rep ok L w b (act.eval x) := fun x hx b hb => aval_rep (fun t ht a ha => known t (operand_mem (by subst ht; exact hx)) a ha) hb
        unfold wpOp
        rw [ho]
        simp only
        cases hst with
        | plain hg hk => rw [if_pos (by simp [Region.wanted, hg])]; exact .inl (hk ok L w act hs opr _ _ next)
        | take g d b og hg hog hod hb hk =>
          obtain ⟨v, v1, v2⟩ := known d (guard_mem hg hog hod) _ hb
          have hv := rep_bool v2
          subst hv
          rw [if_pos (by simp [Region.wanted, hg, yielded, hog, hod, v1])]
          exact .inl (hk ok L w act hs opr _ _ next)
        | pass g d b og hg hog hod hb ha =>
          obtain ⟨v, v1, v2⟩ := known d (guard_mem hg hog hod) _ hb
          have hv := rep_bool v2
          subst hv
          rw [if_neg (by cases b <;> simp [Region.wanted, hg, yielded, hog, hod, v1])]
          subst ha
          exact next undef w ok L (.refl _ _ _ _) hs (RepC.v _)

/-- A piece in which nothing that is held is written: walked once, in the order of the text. -/
theorem aany_seg {p q : Nat} {l : List Oper} {as : List AVal} {env env' : Env} (hok : segOK ops p q = true) (hl : (ops.toList.drop p).take (q - p) = l) (hpq : p ≤ q) (hq : QL P ops σ env l as env') (hd : ∀ o ∈ l, ∀ d, o.dst = some d → d < n) (hnext : AAny P n ops Q q env' σ) : AAny P n ops Q p env σ := by
  intro ok L w act hs hr hdf hn
  have hqs : q ≤ ops.size := by
    simp only [segOK, Bool.and_eq_true, decide_eq_true_eq] at hok
    exact hok.1.1
  have hlen : l.length = q - p := by rw [← hl]; simp; omega
  refine seg_core (env := env) (as := as) (env' := env') hok (fun k hk => ?_) hlen hpq hq hd hnext (ops.size - p) (prefixB ops.size p) ok L w act (prefix_size _ _) (by rw [togo_prefix _ _ _ (Nat.le_refl _)]) ?_ (fun i hi his => by rw [prefix_get, if_pos his]; simp [hi]) (fun i hi his => by rw [prefix_get, if_pos his]; simp; omega) (.refl _ _ _ _) hs hdf hn (fun k o d a hk ha hd' hlst => ?_) (fun t a ht _ => hr t a ht)
  · rw [← hl, List.getElem?_take, if_pos hk, List.getElem?_drop]; simp
  · have hlow : ∀ (j : Nat) (o : Oper), ops[j]? = some o → ∀ e ∈ o.after, Region.binds .any e = true → e.on < j := by
      intro j o ho e he hb
      simp only [segOK, Bool.and_eq_true] at hok
      have h := List.all_eq_true.1 hok.1.2 j (List.mem_range.2 (Array.getElem?_eq_some_iff.1 ho).1)
      rw [ho] at h
      simp only [List.all_eq_true] at h
      have := h e (by simpa using he)
      simpa [hb] using this
    have hlt : ∀ i j, Before ops i j → i < j := by
      intro i j hb
      induction hb with
      | edge i j o e ho he hbd hon => subst hon; exact hlow j o ho e he hbd
      | trans i j k _ _ ih1 ih2 => omega
    intro i j hb hj
    have h1 := hlt i j hb
    rw [prefix_get] at hj ⊢
    by_cases hjs : j < ops.size
    · rw [if_pos hjs] at hj
      rw [if_pos (by omega)]
      simp at hj ⊢
      omega
    · rw [if_neg hjs] at hj; cases hj
  · have hlt' : k < l.length := (List.getElem?_eq_some_iff.1 hk).1
    rw [prefix_get, if_pos (by omega)] at hlst
    simp at hlst
    omega

/-- The one operation that may come up now. -/
def forcedOK (ops : Array Oper) (p : Nat) : Bool := Region.ready .any ops (prefixB ops.size p) == [p]

theorem prefix_succ {m p : Nat} (h : p < m) : (prefixB m p).setIfInBounds p true = prefixB m (p + 1) := by
  apply Array.ext (by simp [prefix_size])
  intro i h1 h2
  have h3 : i < m := by simpa [prefix_size] using h2
  have e1 := getD_set (prefixB m p) p i true
  have e2 := prefix_get m (p + 1) i true
  rw [if_pos h3] at e2
  simp only [Array.getD_eq_getD_getElem?, Array.getElem?_eq_getElem h1, Option.getD_some] at e1
  simp only [Array.getD_eq_getD_getElem?, Array.getElem?_eq_getElem h2, Option.getD_some] at e2
  rw [e1, e2]
  by_cases hp : p = i
  · subst hp; rw [if_pos ⟨rfl, by rw [prefix_size]; exact h⟩]; simp
  · rw [if_neg (fun hh => hp hh.1)]
    have e3 := prefix_get m p i true
    rw [if_pos h3] at e3
    simp only [Array.getD_eq_getD_getElem?] at e3
    rw [e3]
    simp
    omega

theorem aany_forced {p : Nat} {o : Oper} (hok : forcedOK ops p = true) (ho : ops[p]? = some o) (hg : o.guard = none)
    (h : ∀ ok L w act, Sim ok L σ w → RepEnv ok L w env act.tmps → act.defers = [] → act.tmps.size = n → ∀ (K : Act → World → Prop), (∀ env' σ' ok' L' w' act', AAny P n ops Q (p + 1) env' σ' → Evo ok L σ w ok' L' σ' w' → Sim ok' L' σ' w' → RepEnv ok' L' w' env' act'.tmps → act'.defers = [] → act'.tmps.size = n → K act' w') → o.wp P act w K (Post n Q ok L σ w)) :
    AAny P n ops Q p env σ := by
  have hps : p < ops.size := (Array.getElem?_eq_some_iff.1 ho).1
  have hr : Region.ready .any ops (prefixB ops.size p) = [p] := by simpa [forcedOK] using hok
  intro ok L w act h1 h2 h3 h4
  obtain ⟨k, hk⟩ : ∃ k, ops.size - p = k + 1 := ⟨ops.size - p - 1, by omega⟩
  rw [hk]
  refine ⟨fun h0 => ?_, fun i hi => ?_⟩
  · rw [hr] at h0; cases h0
  rw [hr] at hi
  simp only [List.mem_singleton] at hi
  subst hi
  unfold wpOp
  rw [ho]
  simp only
  rw [if_pos (by simp [Region.wanted, hg])]
  refine .inl (h ok L w act h1 h2 h3 h4 _ ?_)
  intro env' σ' ok' L' w' act' hA he hs hr' hdf hn
  rw [prefix_succ hps]
  have e : k = ops.size - (i + 1) := by omega
  subst e
  exact wpAny_monoQ (fun _ _ _ h => Post.after he h) _ _ _ _ (hA ok' L' w' act' hs hr' hdf hn)

theorem aany_op {p : Nat} {o : Oper} {a : AVal} (hok : forcedOK ops p = true) (ho : ops[p]? = some o) (hg : o.guard = none) (hop : OpTo P o (aval env) σ a σ') (hd : ∀ d, o.dst = some d → d < n)
    (k : AAny P n ops Q (p + 1) (env.putd o.dst a) σ') : AAny P n ops Q p env σ :=
  aany_forced hok ho hg fun ok L w act h1 h2 h3 h4 K hK => by
    obtain ⟨v, w', ok', L', hr, he, hs, hv⟩ := hop ok L w act.eval h1 (fun x _ b hx => h2.aval hx)
    have go : K (act.put o.dst v) w' := hK _ _ _ _ _ _ k he hs ((h2.evo h1 he).put hv (fun d hd' => h4 ▸ hd d hd')) (by rw [put_defers]; exact h3) (by rw [put_size]; exact h4)
    unfold Oper.wp
    rcases hr with hr | ⟨hr, rfl⟩
    · rw [hr]; exact go
    · rw [hr]; exact go
theorem aany_opR {p : Nat} {o : Oper} {R : AVal → Store → Prop} (hok : forcedOK ops p = true) (ho : ops[p]? = some o) (hg : o.guard = none) (hop : OpR P o (aval env) σ R) (hd : ∀ d, o.dst = some d → d < n)
    (k : ∀ a σ', R a σ' → AAny P n ops Q (p + 1) (env.putd o.dst a) σ') : AAny P n ops Q p env σ :=
  aany_forced hok ho hg fun ok L w act h1 h2 h3 h4 K hK => by
    obtain ⟨a, σ', v, w', ok', L', hR, hr, he, hs, hv⟩ := hop ok L w act.eval h1 (fun x _ b hx => h2.aval hx)
    have go : K (act.put o.dst v) w' := hK _ _ _ _ _ _ (k a σ' hR) he hs ((h2.evo h1 he).put hv (fun d hd' => h4 ▸ hd d hd')) (by rw [put_defers]; exact h3) (by rw [put_size]; exact h4)
    unfold Oper.wp
    rcases hr with hr | ⟨hr, rfl⟩
    · rw [hr]; exact go
    · rw [hr]; exact go
theorem aany_call {p : Nat} {f : Operand} {args : Array Operand} {ts : Array TypeId} {fa : AVal} {g : FuncId} {caps : List AVal} {avs : List AVal} {R : AEnd → Store → Prop} {d : Option Tmp} {ty : TypeId} {pos : String} {after : Array Edge} (hok : forcedOK ops p = true) (ho : ops[p]? = some ⟨d, .call { callee := .value f, args := args, argTypes := ts }, ty, pos, after, none⟩) (hin : Into P g)
    (hf : aval env f = some fa) (hc : calleeOf fa = some (g, caps)) (ha : avals (aval env) args.toList = some avs) (h : AC P g (avs ++ caps) σ R) (hd : ∀ t, d = some t → t < n)
    (k : ∀ r σ', R r σ' → match r with | .ret a => AAny P n ops Q (p + 1) (env.putd d a) σ' | .pan a => Q (.panic a) env σ') : AAny P n ops Q p env σ :=
  aany_forced hok ho rfl fun ok L w act h1 h2 h3 h4 K hK => by
    obtain ⟨vs, hrun, hv⟩ := call_run (E := aval env) (d := d) (ty := ty) (pos := pos) (after := after) (guard := none) (ts := ts) hin (fun x _ b hb => h2.aval (x := x) hb) hf hc ha
    unfold Oper.wp
    rw [hrun]
    refine (h ok L w vs h1 hv).mono ?_
    rintro e w' ⟨r, σ', ok', L', hR, he, hs, hx⟩
    have hk := k _ _ hR
    cases r with
    | ret a =>
      cases e with
      | returned v => exact hK _ _ _ _ _ _ hk he hs ((h2.evo h1 he).put hx (fun t ht => h4 ▸ hd t ht)) (by rw [put_defers]; exact h3) (by rw [put_size]; exact h4)
      | _ => exact hx.elim
    | pan a =>
      cases e with
      | panicked chain => exact ⟨.panic a, env, σ', ok', L', hk, he, hs, h2.evo h1 he, h3, h4, hx⟩
      | _ => exact hx.elim

theorem aany_end {p : Nat} (hp : p = ops.size) (hok : (Region.ready .any ops (prefixB ops.size p)).isEmpty = true) (h : Q .normal env σ) : AAny P n ops Q p env σ := by
  intro ok L w act h1 h2 h3 h4
  subst hp
  rw [Nat.sub_self]
  exact ⟨by simpa using hok, .normal, env, σ, ok, L, h, .refl _ _ _ _, h1, h2, h3, h4, trivial⟩
end
end Go.Proofs.YtnnklpmgncbgnaaGreat
