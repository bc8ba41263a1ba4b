/- The engine, part 18: regions that draw their order, with operations that write: quiet operations float, the others come in a row. -/
import Derived.Test.YtnnklpmgncbgnaaGreatEngQ
set_option linter.unusedVariables false
set_option linter.unusedSimpArgs false
namespace Go.Proofs.YtnnklpmgncbgnaaGreat
open Go

section
variable {P : Program} {n : Nat} {Q : APost} {env : Env} {σ : Store}
/-- Some temporaries alone. -/
theorem aw_only {c : Code} {env' : Env} (hs : Sub env' env) (h : AW P n c Q env' σ) : AW P n c Q env σ := aw_weaken env' hs h
end
/-! ### Who must come before whom, as bits -/
def ancB (tab : List Nat) (es : List Edge) : Nat := es.foldr (fun e acc => if Region.binds .any e then acc ||| ((1 <<< e.on) ||| tab.getD e.on 0) else acc) 0
def ancTab : List Oper → List Nat → List Nat
  | [], tab => tab
  | o :: r, tab => ancTab r (tab ++ [ancB tab o.after.toList])
theorem ancB_spec {ops : Array Oper} {tab : List Nat} {j : Nat} {o : Oper} (ho : ops[j]? = some o) (ht : ∀ k i, (tab.getD k 0).testBit i = true → Before ops i k) : ∀ (es : List Edge), (∀ e ∈ es, e ∈ o.after) → ∀ i, (ancB tab es).testBit i = true → Before ops i j
  | [], _, i, h => by simp [ancB] at h
  | e :: es, hs, i, h => by
    have ih := ancB_spec ho ht es (fun x hx => hs x (by simp [hx])) i
    simp only [ancB, List.foldr_cons] at h
    change (if Region.binds .any e = true then ancB tab es ||| (1 <<< e.on ||| tab.getD e.on 0) else ancB tab es).testBit i = true at h
    split at h
    · rename_i hb
      rw [Nat.testBit_or, Nat.testBit_or, Bool.or_eq_true, Bool.or_eq_true] at h
      have he := hs e (by simp)
      rcases h with h | h | h
      · exact ih h
      · have e1 : i = e.on := by
          rw [Nat.one_shiftLeft, Nat.testBit_two_pow] at h
          simpa using (of_decide_eq_true h).symm
        exact .edge i j o e ho he hb e1.symm
      · exact .trans i e.on j (ht _ _ h) (.edge e.on j o e ho he hb rfl)
    · exact ih h
theorem ancTab_spec {ops : Array Oper} : ∀ (l : List Oper) (tab : List Nat), (∀ k, l[k]? = ops[tab.length + k]?) → (∀ k i, (tab.getD k 0).testBit i = true → Before ops i k) → ∀ k i, ((ancTab l tab).getD k 0).testBit i = true → Before ops i k
  | [], tab, _, ht, k, i, h => ht k i h
  | o :: l, tab, hl, ht, k, i, h => by
    have ho : ops[tab.length]? = some o := by have := hl 0; simpa using this.symm
    refine ancTab_spec l (tab ++ [ancB tab o.after.toList]) (fun k => ?_) (fun k i h => ?_) k i h
    · have := hl (k + 1)
      simp only [List.getElem?_cons_succ] at this
      rw [this, List.length_append, List.length_singleton]
      congr 1; omega
    · rw [List.getD_eq_getElem?_getD] at h
      by_cases hk : k < tab.length
      · rw [List.getElem?_append_left hk, ← List.getD_eq_getElem?_getD] at h
        exact ht k i h
      · rw [List.getElem?_append_right (by omega)] at h
        by_cases e : k = tab.length
        · subst e
          simp only [Nat.sub_self, List.getElem?_cons_zero, Option.getD_some] at h
          exact ancB_spec ho ht _ (fun e he => by simpa using he) i h
        · obtain ⟨m, hm⟩ : ∃ m, k - tab.length = m + 1 := ⟨k - tab.length - 1, by omega⟩
          rw [hm] at h
          simp at h
def bef (ops : Array Oper) (i j : Nat) : Bool := ((ancTab ops.toList []).getD j 0).testBit i
theorem bef_before {ops : Array Oper} {i j : Nat} (h : bef ops i j = true) : Before ops i j :=
  ancTab_spec ops.toList [] (fun k => by simp) (fun k i h => by simp at h) j i h

/-- i is walked before j: nobody writes what the other looks at or writes but in this order. -/
def pairOK (ops : Array Oper) (i j : Nat) : Bool := i != j && match ops[i]?, ops[j]? with
  | some oi, some oj => (match oi.dst with | some d => (!(looks ops oj).contains d || bef ops i j) && oj.dst != some d | none => true) && (match oj.dst with | some d => !(looks ops oi).contains d || bef ops i j | none => true)
  | _, _ => false
structure PR (ops : Array Oper) (i j : Nat) : Prop where
  ne : i ≠ j
  data : ∀ oi oj d, ops[i]? = some oi → ops[j]? = some oj → oi.dst = some d → d ∈ looks ops oj → Before ops i j
  dst : ∀ oi oj d, ops[i]? = some oi → ops[j]? = some oj → oi.dst = some d → oj.dst ≠ some d
  anti : ∀ oi oj d, ops[i]? = some oi → ops[j]? = some oj → oj.dst = some d → d ∈ looks ops oi → Before ops i j
theorem pairOK_pr {ops : Array Oper} {i j : Nat} (h : pairOK ops i j = true) : PR ops i j := by
  unfold pairOK at h
  rw [Bool.and_eq_true, bne_iff_ne] at h
  obtain ⟨hne, h⟩ := h
  refine ⟨hne, fun oi oj d h1 h2 h3 h4 => ?_, fun oi oj d h1 h2 h3 => ?_, fun oi oj d h1 h2 h3 h4 => ?_⟩
  · simp only [h1, h2, h3, Bool.and_eq_true, Bool.or_eq_true] at h
    rcases h.1.1 with g | g
    · simp [h4] at g
    · exact bef_before g
  · simp only [h1, h2, h3, Bool.and_eq_true] at h
    simpa using h.1.2
  · simp only [h1, h2, h3, Bool.and_eq_true, Bool.or_eq_true] at h
    rcases h.2 with g | g
    · simp [h4] at g
    · exact bef_before g
def pairsOK (ops : Array Oper) : List Nat → Bool
  | [] => true
  | i :: r => r.all (pairOK ops i) && pairsOK ops r
theorem pairsOK_pw {ops : Array Oper} : ∀ {l : List Nat}, pairsOK ops l = true → l.Pairwise (PR ops)
  | [], _ => .nil
  | i :: r, h => by
    rw [pairsOK, Bool.and_eq_true, List.all_eq_true] at h
    exact .cons (fun j hj => pairOK_pr (h.1 j hj)) (pairsOK_pw h.2)
def lowOK (ops : Array Oper) : Bool := (List.range ops.size).all fun j => match ops[j]? with | some o => o.after.toList.all (fun e => !Region.binds .any e || decide (e.on < j)) | none => true
def planOK (ops : Array Oper) (π : List Nat) : Bool := (lowOK ops && (List.range ops.size).all (fun k => π.contains k)) && pairsOK ops π
def effOK (ops : Array Oper) (e : Nat) (rem : List Nat) : Bool := rem.all (bef ops e)

/-- One operation that was walked. -/
structure Stp where
  i : Nat
  a : AVal
  env : Env
  f : Bool
def dstOf (ops : Array Oper) (i : Nat) : Option Tmp := (ops[i]?).bind (·.dst)
def Coh (ops : Array Oper) (env0 : Env) : List Stp → Env → Prop
  | [], env => env = env0
  | s :: r, env => env = s.env.putd (dstOf ops s.i) s.a ∧ Coh ops env0 r s.env
theorem coh_get {ops : Array Oper} {env0 : Env} {t : Nat} {b : AVal} : ∀ {l : List Stp} {env : Env}, Coh ops env0 l env → env.get t = some b → (∃ m ∈ l, dstOf ops m.i = some t ∧ m.a = b) ∨ (env0.get t = some b ∧ ∀ m ∈ l, dstOf ops m.i ≠ some t)
  | [], env, h, hg => by cases h; exact .inr ⟨hg, by simp⟩
  | s :: r, env, h, hg => by
    obtain ⟨rfl, h2⟩ := h
    rw [putd_get] at hg
    split at hg
    · rename_i e
      cases hg
      exact .inl ⟨s, by simp, e, rfl⟩
    · rename_i e
      rcases coh_get h2 hg with ⟨m, h3, h4⟩ | ⟨h3, h4⟩
      · exact .inl ⟨m, by simp [h3], h4⟩
      · refine .inr ⟨h3, fun m hm => ?_⟩
        rcases List.mem_cons.1 hm with rfl | hm
        · exact e
        · exact h4 m hm
theorem coh_split {ops : Array Oper} {env0 : Env} : ∀ {l1 : List Stp} {s : Stp} {l2 : List Stp} {env : Env}, Coh ops env0 (l1 ++ s :: l2) env → Coh ops env0 l2 s.env
  | [], s, l2, env, h => h.2
  | x :: l1, s, l2, env, h => coh_split (l1 := l1) h.2
section
variable {P : Program} {n : Nat} {Q : APost} {env env0 : Env} {σ σ' : Store} {ops : Array Oper} {steps : List Stp} {rem : List Nat}

def Good (P : Program) (ops : Array Oper) (σ : Store) (steps : List Stp) : Prop := ∀ s ∈ steps, s.f = false → ∃ o, ops[s.i]? = some o ∧ o.guard = none ∧ (∀ d, o.dst = some d → d < n) ∧ OpK P o (aval s.env) σ s.a

structure Inv (n : Nat) (ops : Array Oper) (env0 : Env) (σ : Store) (steps : List Stp) (listed : Array Bool) (ok : Nat → Prop) (L : Loc) (w : World) (act : Act) : Prop where
  sz : listed.size = ops.size
  cl : Closed ops listed
  sub : ∀ i, i < ops.size → listed.getD i true = true → ∃ s ∈ steps, s.i = i
  fx : ∀ s ∈ steps, s.f = true → listed.getD s.i true = true
  sim : Sim ok L σ w
  df : act.defers = []
  hn : act.tmps.size = n
  vals : ∀ s ∈ steps, ∀ d, dstOf ops s.i = some d → listed.getD s.i true = true → ∃ v, act.tmps[d]? = some v ∧ Rep ok L w s.a v
  base : ∀ t a, env0.get t = some a → (∀ s ∈ steps, dstOf ops s.i = some t → listed.getD s.i true = false) → ∃ v, act.tmps[t]? = some v ∧ Rep ok L w a v

theorem ready_none {listed : Array Bool} (hlow : lowOK ops = true) (hsz : listed.size = ops.size) (hr : Region.ready .any ops listed = []) : ∀ i, i < ops.size → listed.getD i true = true := by
  have low : ∀ (j : Nat) (o : Oper), ops[j]? = some o → ∀ e ∈ o.after, Region.binds .any e = true → e.on < j := by
    intro j o ho e he hb
    have h := List.all_eq_true.1 hlow j (List.mem_range.2 (Array.getElem?_eq_some_iff.1 ho).1)
    rw [ho] at h
    simp only [List.all_eq_true] at h
    have := h e (by simpa using he)
    simpa [hb] using this
  intro i
  induction i using Nat.strongRecOn with
  | ind i ih =>
    intro hi
    cases hf : listed.getD i true with
    | true => rfl
    | false =>
      have : i ∈ Region.ready .any ops listed := mem_ready.2 ⟨hf, ops[i], Array.getElem?_eq_getElem hi, fun e hem hb => by
        have h1 := low i _ (Array.getElem?_eq_getElem hi) e hem hb
        exact getD_false_of_true (by omega) (ih _ h1 (by omega))⟩
      rw [hr] at this
      cases this

theorem getD_set_true (listed : Array Bool) (j i : Nat) (hj : j < listed.size) : (listed.setIfInBounds j true).getD i true = if j = i then true else listed.getD i true := by
  rw [getD_set]
  by_cases h : j = i
  · rw [if_pos ⟨h, by omega⟩, if_pos h]
  · rw [if_neg (fun hh => h hh.1), if_neg h]

theorem steps_pair {R : Stp → Stp → Prop} {l1 l2 : List Stp} {s : Stp} (h : (l1 ++ s :: l2).Pairwise R) : (∀ m ∈ l2, R s m) ∧ (∀ m ∈ l1, R m s) := by
  rw [List.pairwise_append] at h
  obtain ⟨_, h2, h3⟩ := h
  rw [List.pairwise_cons] at h2
  exact ⟨h2.1, fun m hm => h3 m hm s (by simp)⟩

/-- What a ready operation looks at is there. -/
theorem inv_known {listed : Array Bool} {ok : Nat → Prop} {L : Loc} {w : World} {act : Act} (hI : Inv n ops env0 σ steps listed ok L w act) {l1 l2 : List Stp} {e : Env} {j : Nat} {o : Oper} (hs : ∀ m, m ∈ steps → m ∈ l1 ∨ m.i = j ∨ m ∈ l2) (hl1 : ∀ m ∈ l1, m ∈ steps ∧ PR ops j m.i) (hl2 : ∀ m ∈ l2, m ∈ steps ∧ PR ops m.i j) (hc : Coh ops env0 l2 e) (hj : j ∈ Region.ready .any ops listed) (ho : ops[j]? = some o) :
    ∀ t ∈ looks ops o, ∀ b, e.get t = some b → ∃ v, act.tmps[t]? = some v ∧ Rep ok L w b v := by
  intro t ht b hb
  obtain ⟨hjs, hjf, _⟩ := ready_deps hj
  rcases coh_get hc hb with ⟨m, h1, h2, rfl⟩ | ⟨h1, h2⟩
  · obtain ⟨hm1, hm2⟩ := hl2 m h1
    cases hom : ops[m.i]? with
    | none => rw [dstOf, hom] at h2; cases h2
    | some om =>
      have h3 : om.dst = some t := by rw [dstOf, hom] at h2; exact h2
      exact hI.vals m hm1 t h2 (getD_true_of_false (closed_before hI.cl hj (hm2.data om o t hom ho h3 ht)))
  · refine hI.base t b h1 (fun m hm hd => ?_)
    rcases hs m hm with h | h | h
    · obtain ⟨hm1, hm2⟩ := hl1 m h
      cases hom : ops[m.i]? with
      | none => rw [dstOf, hom] at hd; cases hd
      | some om =>
        have h3 : om.dst = some t := by rw [dstOf, hom] at hd; exact hd
        have hbf := hm2.anti o om t ho hom h3 ht
        cases hh : listed.getD m.i true with
        | false => rfl
        | true =>
          have hms : m.i < ops.size := (Array.getElem?_eq_some_iff.1 hom).1
          have := hI.cl _ _ hbf (getD_false_of_true (by rw [hI.sz]; exact hms) hh)
          rw [getD_true_of_false this] at hjf
          cases hjf
    · rw [h]; exact hjf
    · exact absurd hd (h2 m h)

/-- One operation more that has come up. -/
theorem inv_next {listed : Array Bool} {ok ok' : Nat → Prop} {L L' : Loc} {w w' : World} {act : Act} (hI : Inv n ops env0 σ steps listed ok L w act) {steps' : List Stp} {j : Nat} {o : Oper} {a : AVal} {v : Value} (hj : j ∈ Region.ready .any ops listed) (ho : ops[j]? = some o)
    (h1 : ∀ m ∈ steps', (∃ m' ∈ steps, m'.i = m.i ∧ m'.a = m.a) ∨ (m.i = j ∧ m.a = a)) (h2 : ∀ m ∈ steps', m.i = j → m.a = a) (h3 : ∀ m ∈ steps, ∃ m' ∈ steps', m'.i = m.i) (h4 : ∃ m ∈ steps', m.i = j)
    (h5 : ∀ m ∈ steps', m.f = true → m.i = j ∨ listed.getD m.i true = true) (hdst : ∀ m ∈ steps', m.i ≠ j → ∀ d, dstOf ops m.i = some d → o.dst ≠ some d) (hd : ∀ d, o.dst = some d → d < n)
    (he : Evo ok L σ w ok' L' σ' w') (hs' : Sim ok' L' σ' w') (hv : Rep ok' L' w' a v) : Inv n ops env0 σ' steps' (listed.setIfInBounds j true) ok' L' w' (act.put o.dst v) := by
  obtain ⟨hjs, hjf, _⟩ := ready_deps hj
  have hset : ∀ i, (listed.setIfInBounds j true).getD i true = if j = i then true else listed.getD i true := fun i => getD_set_true listed j i (by rw [hI.sz]; exact hjs)
  refine ⟨by simpa using hI.sz, closed_set hI.cl hj hI.sz, fun i hi hl => ?_, fun m hm hf => ?_, hs', by rw [put_defers]; exact hI.df, by rw [put_size]; exact hI.hn, fun m hm d hmd hl => ?_, fun t b hb hno => ?_⟩
  · rw [hset] at hl
    split at hl
    · rename_i e; subst e; exact h4
    · obtain ⟨m, hm, rfl⟩ := hI.sub i hi hl
      exact h3 m hm
  · rw [hset]
    split
    · rfl
    · rename_i e
      rcases h5 m hm hf with h | h
      · exact absurd h.symm e
      · exact h
  · by_cases e : m.i = j
    · have ha := h2 m hm e
      rw [e, dstOf, ho] at hmd
      change o.dst = some d at hmd
      rw [ha]
      refine ⟨v, ?_, hv⟩
      rw [hmd]
      simp only [Act.put]
      rw [Array.getElem?_setIfInBounds_self, if_pos (hI.hn.symm ▸ hd d hmd)]
    · rw [hset, if_neg (fun h => e h.symm)] at hl
      rcases h1 m hm with ⟨m', hm', g1, g2⟩ | ⟨g1, _⟩
      · obtain ⟨u, u1, u2⟩ := hI.vals m' hm' d (by rw [g1]; exact hmd) (by rw [g1]; exact hl)
        rw [g2] at u2
        refine ⟨u, ?_, u2.evo hI.sim he⟩
        have hne := hdst m hm e d hmd
        cases hod : o.dst with
        | none => exact u1
        | some d' =>
          simp only [Act.put]
          rw [Array.getElem?_setIfInBounds_ne (fun h => hne (by rw [hod, h]))]
          exact u1
      · exact absurd g1 e
  · have hnd : o.dst ≠ some t := by
      intro h
      obtain ⟨m, hm, hmj⟩ := h4
      have := hno m hm (by rw [hmj, dstOf, ho]; exact h)
      rw [hset, if_pos hmj.symm] at this
      cases this
    obtain ⟨u, u1, u2⟩ := hI.base t b hb (fun m hm hmd => by
      obtain ⟨m', hm', g1⟩ := h3 m hm
      have := hno m' hm' (by rw [g1]; exact hmd)
      rw [hset] at this
      split at this
      · cases this
      · rw [← g1]; exact this)
    refine ⟨u, ?_, u2.evo hI.sim he⟩
    cases hod : o.dst with
    | none => exact u1
    | some d' =>
      simp only [Act.put]
      rw [Array.getElem?_setIfInBounds_ne (fun h => hnd (by rw [hod, h]))]
      exact u1

theorem fl_run (hlow : lowOK ops = true) (hpw : steps.Pairwise (fun s m => PR ops m.i s.i)) (hcoh : Coh ops env0 steps env) (hgood : Good (n := n) P ops σ steps) {ok0 : Nat → Prop} {L0 : Loc} {σ0 : Store} {w0 : World} {Q0 : Exit → Act → World → Prop}
    (hend : ∀ listed ok L w act, Inv n ops env0 σ steps listed ok L w act → Evo ok0 L0 σ0 w0 ok L σ w → (∀ i, i < ops.size → listed.getD i true = true) → Q0 .normal act w)
    (hoth : ∀ r listed ok L w act, Inv n ops env0 σ steps listed ok L w act → Evo ok0 L0 σ0 w0 ok L σ w → togo listed ops.size = r + 1 → ∀ j ∈ Region.ready .any ops listed, (∀ s ∈ steps, s.i ≠ j) → wpOp P ops Q0 j (wpAny P .any ops Q0 r (listed.setIfInBounds j true)) act w) :
    ∀ r listed ok L w act, Inv n ops env0 σ steps listed ok L w act → Evo ok0 L0 σ0 w0 ok L σ w → togo listed ops.size = r → wpAny P .any ops Q0 r listed act w := by
  intro r
  induction r with
  | zero =>
    intro listed ok L w act hI he ht
    have hall : ∀ i, i < ops.size → listed.getD i true = true := fun i hi => by
      cases hh : listed.getD i true with
      | true => rfl
      | false => have := togo_pos hh ops.size hi; omega
    refine ⟨?_, hend listed ok L w act hI he hall⟩
    cases hr : Region.ready .any ops listed with
    | nil => rfl
    | cons j r =>
      obtain ⟨h1, h2, _⟩ := ready_deps (ops := ops) (listed := listed) (j := j) (by rw [hr]; simp)
      rw [hall j h1] at h2; cases h2
  | succ r ih =>
    intro listed ok L w act hI he ht
    refine ⟨fun hr => hend listed ok L w act hI he (ready_none hlow hI.sz hr), fun j hj => ?_⟩
    by_cases hin : ∃ s ∈ steps, s.i = j
    · obtain ⟨s, hs, rfl⟩ := hin
      obtain ⟨hjs, hjf, _⟩ := ready_deps hj
      have hsf : s.f = false := by
        cases h : s.f with
        | false => rfl
        | true => rw [hI.fx s hs h] at hjf; cases hjf
      obtain ⟨o, ho, hg, hd, hk⟩ := hgood s hs hsf
      obtain ⟨l1, l2, rfl⟩ := List.append_of_mem hs
      obtain ⟨p1, p2⟩ := steps_pair hpw
      have known := inv_known hI (l1 := l1) (l2 := l2) (e := s.env) (j := s.i) (fun m hm => by
        rcases List.mem_append.1 hm with h | h
        · exact .inl h
        · rcases List.mem_cons.1 h with rfl | h
          · exact .inr (.inl rfl)
          · exact .inr (.inr h)) (fun m hm => ⟨by simp [hm], p2 m hm⟩) (fun m hm => ⟨by simp [hm], p1 m hm⟩) (coh_split hcoh) hj ho
      have opr : ∀ x ∈ o.op.operands, ∀ b, aval s.env x = some b → Rep ok L w b (act.eval x) := fun x hx b hb => aval_rep (fun t ht a ha => known t (operand_mem (by subst ht; exact hx)) a ha) hb
      unfold wpOp
      rw [ho]
      simp only
      rw [if_pos (by simp [Region.wanted, hg])]
      refine .inl (hk ok L w act hI.sim opr _ _ fun v w' ok' L' hev hs' hv => ?_)
      refine ih (listed.setIfInBounds s.i true) ok' L' w' (act.put o.dst v) ?_ (he.trans hev) ?_
      · refine inv_next hI hj ho (a := s.a) (fun m hm => .inl ⟨m, hm, rfl, rfl⟩) (fun m hm e => ?_) (fun m hm => ⟨m, hm, rfl⟩) ⟨s, hs, rfl⟩ (fun m hm hf => .inr (hI.fx m hm hf)) (fun m hm hne d hmd => ?_) hd hev hs' hv
        · rcases List.mem_append.1 hm with h | h
          · exact absurd e.symm (p2 m h).ne
          · rcases List.mem_cons.1 h with rfl | h
            · rfl
            · exact absurd e (p1 m h).ne
        · cases hom : ops[m.i]? with
          | none => rw [dstOf, hom] at hmd; cases hmd
          | some om =>
            have h3 : om.dst = some d := by rw [dstOf, hom] at hmd; exact hmd
            rcases List.mem_append.1 hm with h | h
            · intro hod
              exact (p2 m h).dst o om d ho hom hod h3
            · rcases List.mem_cons.1 h with rfl | h
              · exact absurd rfl hne
              · exact (p1 m h).dst om o d hom ho h3
      · have := togo_set listed s.i hjf ops.size
        rw [show decide (s.i < ops.size) = true from by simp [hjs]] at this
        simp only [cond_true] at this
        omega
    · exact hoth r listed ok L w act hI he ht j hj (fun s hs e => hin ⟨s, hs, e⟩)

/-- Some operations were walked; the quiet ones may or may not have come up; the others are still to come. -/
def AFl (P : Program) (n : Nat) (ops : Array Oper) (Q : APost) (env0 : Env) (steps : List Stp) (rem : List Nat) (env : Env) (σ : Store) : Prop :=
  planOK ops (steps.reverse.map (·.i) ++ rem) = true → Coh ops env0 steps env → Good (n := n) P ops σ steps → ∀ listed ok L w act, Inv n ops env0 σ steps listed ok L w act → wpAny P .any ops (Post n Q ok L σ w) (togo listed ops.size) listed act w

theorem plan_facts {l : List Nat} (h : planOK ops (steps.reverse.map (·.i) ++ l) = true) : lowOK ops = true ∧ (∀ k, k < ops.size → (∃ s ∈ steps, s.i = k) ∨ k ∈ l) ∧ steps.Pairwise (fun s m => PR ops m.i s.i) ∧ l.Pairwise (PR ops) ∧ ∀ s ∈ steps, ∀ k ∈ l, PR ops s.i k := by
  simp only [planOK, Bool.and_eq_true] at h
  obtain ⟨⟨h1, h2⟩, h3⟩ := h
  have hp := pairsOK_pw h3
  rw [List.pairwise_append] at hp
  obtain ⟨p1, p2, p3⟩ := hp
  refine ⟨h1, fun k hk => ?_, ?_, p2, fun s hs k hk => p3 _ (List.mem_map.2 ⟨s, by simpa using hs, rfl⟩) _ hk⟩
  · have := List.all_eq_true.1 h2 k (List.mem_range.2 hk)
    rw [List.contains_iff_mem, List.mem_append] at this
    rcases this with h | h
    · obtain ⟨s, hs, e⟩ := List.mem_map.1 h
      exact .inl ⟨s, by simpa using hs, e⟩
    · exact .inr h
  · rw [List.pairwise_map, List.pairwise_reverse] at p1
    exact p1

theorem aw_plan {id : Nat} {l : List Oper} (π : List Nat) (hm : P.follows .mixedOrders = true) (hok : planOK l.toArray π = true) (h : AFl P n l.toArray Q env [] π env σ) : AW P n (.region id l.toArray true) Q env σ := by
  refine aw_any hm ?_
  intro ok L w act hs hr hdf hn
  have hf : ∀ i, i < l.toArray.size → (prefixB l.toArray.size 0).getD i true = false := fun i hi => by rw [prefix_get, if_pos hi]; simp
  have e : l.toArray.size - 0 = togo (prefixB l.toArray.size 0) l.toArray.size := by rw [togo_prefix _ _ _ (Nat.le_refl _)]
  rw [e]
  refine h (by simpa using hok) rfl (fun s hs => by cases hs) _ ok L w act ⟨prefix_size _ _, fun i j hb hj => ?_, fun i hi hl => ?_, fun s hs => (by cases hs), hs, hdf, hn, fun s hs => (by cases hs), fun t a ht _ => hr t a ht⟩
  · rw [prefix_get] at hj
    split at hj
    · simp at hj
    · cases hj
  · rw [hf i hi] at hl; cases hl

theorem afl_float {i : Nat} {o : Oper} {a : AVal} (ho : ops[i]? = some o) (hg : o.guard = none) (hk : OpK P o (aval env) σ a) (hd : ∀ d, o.dst = some d → d < n)
    (k : AFl P n ops Q env0 (⟨i, a, env, false⟩ :: steps) rem (env.putd o.dst a) σ) : AFl P n ops Q env0 steps (i :: rem) env σ := by
  intro hplan hcoh hgood listed ok L w act hI
  obtain ⟨_, _, _, _, hx⟩ := plan_facts hplan
  have hd1 : dstOf ops i = o.dst := by rw [dstOf, ho]; rfl
  have his : i < ops.size := (Array.getElem?_eq_some_iff.1 ho).1
  have hnl : listed.getD i true = false := by
    cases h : listed.getD i true with
    | false => rfl
    | true =>
      obtain ⟨s, hs, e⟩ := hI.sub i his h
      exact absurd e (hx s hs i (by simp)).ne
  refine k (by simpa using hplan) ⟨by rw [hd1], hcoh⟩ (fun s hs hf => ?_) listed ok L w act ⟨hI.sz, hI.cl, fun j hj hl => ?_, fun s hs hf => ?_, hI.sim, hI.df, hI.hn, fun s hs d hsd hl => ?_, fun t b hb hno => hI.base t b hb (fun s hs => hno s (by simp [hs]))⟩
  · rcases List.mem_cons.1 hs with rfl | hs
    · exact ⟨o, ho, hg, hd, hk⟩
    · exact hgood s hs hf
  · obtain ⟨s, hs, e⟩ := hI.sub j hj hl
    exact ⟨s, by simp [hs], e⟩
  · rcases List.mem_cons.1 hs with rfl | hs
    · cases hf
    · exact hI.fx s hs hf
  · rcases List.mem_cons.1 hs with rfl | hs
    · rw [hnl] at hl; cases hl
    · exact hI.vals s hs d hsd hl

/-- Those that need not have come up before e: they do the same later. -/
def Loose (P : Program) (ops : Array Oper) (e : Nat) (σ : Store) : List Stp → Prop
  | [] => True
  | s :: r => (s.f = true ∨ bef ops s.i e = true ∨ ∃ o, ops[s.i]? = some o ∧ OpK P o (aval s.env) σ s.a) ∧ Loose P ops e σ r
theorem Loose.all {e : Nat} : ∀ {l : List Stp}, Loose P ops e σ l → ∀ s ∈ l, s.f = true ∨ bef ops s.i e = true ∨ ∃ o, ops[s.i]? = some o ∧ OpK P o (aval s.env) σ s.a
  | _ :: _, h, s, hs => by
    rcases List.mem_cons.1 hs with rfl | hs
    · exact h.1
    · exact Loose.all h.2 s hs
def fixS (ops : Array Oper) (e : Nat) (s : Stp) : Stp := { s with f := s.f || bef ops s.i e }
theorem coh_fix {e : Nat} : ∀ {l : List Stp} {env : Env}, Coh ops env0 l env → Coh ops env0 (l.map (fixS ops e)) env
  | [], _, h => h
  | s :: r, _, h => ⟨h.1, coh_fix h.2⟩

theorem afl_forced {e : Nat} {o : Oper} (ho : ops[e]? = some o) (hg : o.guard = none) (hok : effOK ops e rem = true) (hd : ∀ d, o.dst = some d → d < n)
    (h : ∀ ok L w (act : Act), Sim ok L σ w → (∀ x ∈ o.op.operands, ∀ b, aval env x = some b → Rep ok L w b (act.eval x)) → ∀ (K : Act → World → Prop),
      (∀ a σ' ok' L' w' v, Loose P ops e σ' steps → AFl P n ops Q env0 (⟨e, a, env, true⟩ :: steps.map (fixS ops e)) rem (env.putd o.dst a) σ' → Evo ok L σ w ok' L' σ' w' → Sim ok' L' σ' w' → Rep ok' L' w' a v → K (act.put o.dst v) w') → o.wp P act w K (fun _ _ _ => False)) :
    AFl P n ops Q env0 steps (e :: rem) env σ := by
  intro hplan hcoh hgood listed ok L w act hI
  obtain ⟨hlow, hcov, hpw, hpr, hx⟩ := plan_facts hplan
  have hes : e < ops.size := (Array.getElem?_eq_some_iff.1 ho).1
  have hnot : ∀ s ∈ steps, s.i ≠ e := fun s hs => (hx s hs e (by simp)).ne
  refine fl_run (ok0 := ok) (L0 := L) (σ0 := σ) (w0 := w) hlow hpw hcoh hgood (fun listed ok1 L1 w1 act1 hI1 he1 hall => ?_) (fun r listed ok1 L1 w1 act1 hI1 he1 ht j hj hjn => ?_) _ listed ok L w act hI (.refl _ _ _ _) rfl
  · obtain ⟨s, hs, h1⟩ := hI1.sub e hes (hall e hes)
    exact absurd h1 (hnot s hs)
  · obtain ⟨hjs, hjf, _⟩ := ready_deps hj
    have hje : j = e := by
      rcases hcov j hjs with ⟨s, hs, h1⟩ | h1
      · exact absurd h1 (hjn s hs)
      · rcases List.mem_cons.1 h1 with h1 | h1
        · exact h1
        · have hb := bef_before (List.all_eq_true.1 hok j h1)
          have hl := getD_true_of_false (closed_before hI1.cl hj hb)
          obtain ⟨s, hs, h2⟩ := hI1.sub e hes hl
          exact absurd h2 (hnot s hs)
    subst hje
    have known := inv_known hI1 (l1 := []) (l2 := steps) (e := env) (j := j) (fun m hm => .inr (.inr hm)) (fun m hm => by cases hm) (fun m hm => ⟨hm, hx m hm j (by simp)⟩) hcoh hj ho
    have opr : ∀ x ∈ o.op.operands, ∀ b, aval env x = some b → Rep ok1 L1 w1 b (act1.eval x) := fun x hx b hb => aval_rep (fun t ht a ha => known t (operand_mem (by subst ht; exact hx)) a ha) hb
    unfold wpOp
    rw [ho]
    simp only
    rw [if_pos (by simp [Region.wanted, hg])]
    refine .inl (oper_wp_mono2 (fun _ _ h => h) (fun _ _ _ h => h.elim) (h ok1 L1 w1 act1 hI1.sim opr _ ?_))
    intro a σ' ok' L' w' v hloose hk hev hs' hv
    have htg : togo (listed.setIfInBounds j true) ops.size = r := by
      have := togo_set listed j hjf ops.size
      rw [show decide (j < ops.size) = true from by simp [hjs]] at this
      simp only [cond_true] at this
      omega
    rw [← htg]
    refine wpAny_monoQ (fun _ _ _ h => Post.after (he1.trans hev) h) _ _ _ _ (hk ?_ ⟨by rw [dstOf, ho]; rfl, coh_fix hcoh⟩ (fun s hs hf => ?_) _ ok' L' w' _ (inv_next hI1 hj ho (a := a) (fun m hm => ?_) (fun m hm e => ?_) (fun m hm => ?_) ⟨_, List.mem_cons_self .., rfl⟩ (fun m hm hf => ?_) (fun m hm hne d hmd => ?_) hd hev hs' hv))
    · have e1 : ((⟨j, a, env, true⟩ :: steps.map (fixS ops j) : List Stp).reverse.map (·.i) ++ rem) = steps.reverse.map (·.i) ++ j :: rem := by
        rw [List.reverse_cons, List.map_append, List.append_assoc, ← List.map_reverse, List.map_map]
        rfl
      rw [e1]; exact hplan
    · rcases List.mem_cons.1 hs with rfl | hs
      · cases hf
      · obtain ⟨s0, hs0, rfl⟩ := List.mem_map.1 hs
        change (s0.f || bef ops s0.i j) = false at hf
        rw [Bool.or_eq_false_iff] at hf
        obtain ⟨o1, g1, g2, g3, _⟩ := hgood s0 hs0 hf.1
        rcases hloose.all s0 hs0 with h | h | ⟨o2, h1, h2⟩
        · rw [hf.1] at h; cases h
        · rw [hf.2] at h; cases h
        · rw [g1] at h1; cases h1
          exact ⟨o1, g1, g2, g3, h2⟩
    · rcases List.mem_cons.1 hm with rfl | hm
      · exact .inr ⟨rfl, rfl⟩
      · obtain ⟨s0, hs0, rfl⟩ := List.mem_map.1 hm
        exact .inl ⟨s0, hs0, rfl, rfl⟩
    · rcases List.mem_cons.1 hm with rfl | hm
      · rfl
      · obtain ⟨s0, hs0, rfl⟩ := List.mem_map.1 hm
        exact absurd e (hnot s0 hs0)
    · exact ⟨fixS ops j m, by simp only [List.mem_cons, List.mem_map]; exact .inr ⟨m, hm, rfl⟩, rfl⟩
    · rcases List.mem_cons.1 hm with rfl | hm
      · exact .inl rfl
      · obtain ⟨s0, hs0, rfl⟩ := List.mem_map.1 hm
        change (s0.f || bef ops s0.i j) = true at hf
        rw [Bool.or_eq_true] at hf
        rcases hf with hf | hf
        · exact .inr (hI1.fx s0 hs0 hf)
        · exact .inr (getD_true_of_false (closed_before hI1.cl hj (bef_before hf)))
    · rcases List.mem_cons.1 hm with rfl | hm
      · exact absurd rfl hne
      · obtain ⟨s0, hs0, rfl⟩ := List.mem_map.1 hm
        change dstOf ops s0.i = some d at hmd
        cases hom : ops[s0.i]? with
        | none => rw [dstOf, hom] at hmd; cases hmd
        | some om =>
          have h3 : om.dst = some d := by rw [dstOf, hom] at hmd; exact hmd
          exact (hx s0 hs0 j (by simp)).dst om o d hom ho h3

theorem afl_eff {e : Nat} {o : Oper} {a : AVal} (ho : ops[e]? = some o) (hg : o.guard = none) (hok : effOK ops e rem = true) (hop : OpTo P o (aval env) σ a σ') (hd : ∀ d, o.dst = some d → d < n) (hl : Loose P ops e σ' steps)
    (k : AFl P n ops Q env0 (⟨e, a, env, true⟩ :: steps.map (fixS ops e)) rem (env.putd o.dst a) σ') : AFl P n ops Q env0 steps (e :: rem) env σ :=
  afl_forced ho hg hok hd fun ok L w act hs hr K hK => by
    obtain ⟨v, w', ok', L', h1, he, hs', hv⟩ := hop ok L w act.eval hs hr
    unfold Oper.wp
    rcases h1 with h1 | ⟨h1, rfl⟩
    · rw [h1]; exact hK _ _ _ _ _ _ hl k he hs' hv
    · rw [h1]; exact hK _ _ _ _ _ _ hl k he hs' hv
theorem afl_effR {e : Nat} {o : Oper} {R : AVal → Store → Prop} (ho : ops[e]? = some o) (hg : o.guard = none) (hok : effOK ops e rem = true) (hop : OpR P o (aval env) σ R) (hd : ∀ d, o.dst = some d → d < n)
    (k : ∀ a σ', R a σ' → Loose P ops e σ' steps ∧ AFl P n ops Q env0 (⟨e, a, env, true⟩ :: steps.map (fixS ops e)) rem (env.putd o.dst a) σ') : AFl P n ops Q env0 steps (e :: rem) env σ :=
  afl_forced ho hg hok hd fun ok L w act hs hr K hK => by
    obtain ⟨a, σ', v, w', ok', L', hR, h1, he, hs', hv⟩ := hop ok L w act.eval hs hr
    obtain ⟨k1, k2⟩ := k a σ' hR
    unfold Oper.wp
    rcases h1 with h1 | ⟨h1, rfl⟩
    · rw [h1]; exact hK _ _ _ _ _ _ k1 k2 he hs' hv
    · rw [h1]; exact hK _ _ _ _ _ _ k1 k2 he hs' hv
theorem afl_end (h : Q .normal env σ) : AFl P n ops Q env0 steps [] env σ := by
  intro hplan hcoh hgood listed ok L w act hI
  obtain ⟨hlow, hcov, hpw, hpr, hx⟩ := plan_facts hplan
  refine fl_run (ok0 := ok) (L0 := L) (σ0 := σ) (w0 := w) hlow hpw hcoh hgood (fun listed ok1 L1 w1 act1 hI1 he1 hall => ?_) (fun r listed ok1 L1 w1 act1 hI1 he1 ht j hj hjn => ?_) _ listed ok L w act hI (.refl _ _ _ _) rfl
  · refine ⟨.normal, env, σ, ok1, L1, h, he1, hI1.sim, fun t a ht => ?_, hI1.df, hI1.hn, trivial⟩
    rcases coh_get hcoh ht with ⟨m, h1, h2, rfl⟩ | ⟨h1, h2⟩
    · have : m.i < ops.size := by
        cases hom : ops[m.i]? with
        | none => rw [dstOf, hom] at h2; cases h2
        | some om => exact (Array.getElem?_eq_some_iff.1 hom).1
      exact hI1.vals m h1 t h2 (hall _ this)
    · exact hI1.base t a h1 (fun s hs hd => absurd hd (h2 s hs))
  · obtain ⟨hjs, _, _⟩ := ready_deps hj
    rcases hcov j hjs with ⟨s, hs, h1⟩ | h1
    · exact absurd h1 (hjn s hs)
    · cases h1
theorem loose_nil {e : Nat} : Loose P ops e σ [] := trivial
theorem loose_fix {e : Nat} {s : Stp} {r : List Stp} (h : (s.f || bef ops s.i e) = true) (k : Loose P ops e σ r) : Loose P ops e σ (s :: r) := by
  refine ⟨?_, k⟩
  rw [Bool.or_eq_true] at h
  rcases h with h | h
  · exact .inl h
  · exact .inr (.inl h)
theorem loose_anc {e : Nat} {s : Stp} {r : List Stp} (i : Nat) (hi : s.i = i) (h : bef ops i e = true) (k : Loose P ops e σ r) : Loose P ops e σ (s :: r) := ⟨.inr (.inl (by rw [hi]; exact h)), k⟩
theorem loose_k {e : Nat} {s : Stp} {r : List Stp} {o : Oper} (ho : ops[s.i]? = some o) (hk : OpK P o (aval s.env) σ s.a) (k : Loose P ops e σ r) : Loose P ops e σ (s :: r) := ⟨.inr (.inr ⟨o, ho, hk⟩), k⟩
theorem loose_op {e : Nat} {s : Stp} {r : List Stp} {o : Oper} (ho : ops[s.i]? = some o) (hk : OpTo P o (aval s.env) σ s.a σ) (k : Loose P ops e σ r) : Loose P ops e σ (s :: r) := ⟨.inr (.inr ⟨o, ho, opk_of hk⟩), k⟩
end
end Go.Proofs.YtnnklpmgncbgnaaGreat
