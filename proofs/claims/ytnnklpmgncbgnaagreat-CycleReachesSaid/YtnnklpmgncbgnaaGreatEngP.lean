/- The engine, part 16: a contract in the caller's names; lists made anew; results that lie in cells. -/
import Derived.Test.YtnnklpmgncbgnaaGreatEngO
set_option linter.unusedVariables false
set_option linter.unusedSimpArgs false
namespace Go.Proofs.YtnnklpmgncbgnaaGreat
open Go

/-! ### Other names for the objects -/
def AVal.rn1 (ρ : Nat → Nat) : AVal → AVal
  | .slice id ver off n => .slice (ρ id) ver off n
  | .ptr id ver i j => .ptr (ρ id) ver i j
  | .map id ver => .map (ρ id) ver
  | a => a
def AVal.rnA (ρ : Nat → Nat) : AVal → AVal
  | .agg cells => .agg (cells.map (AVal.rn1 ρ))
  | .fn f caps => .fn f (caps.map (AVal.rn1 ρ))
  | a => a.rn1 ρ
def AVal.rn (ρ : Nat → Nat) : AVal → AVal
  | .tuple comps => .tuple (comps.map (AVal.rnA ρ))
  | a => a.rnA ρ
def AEnd.rn (ρ : Nat → Nat) : AEnd → AEnd
  | .ret a => .ret (a.rn ρ)
  | .pan a => .pan (a.rn ρ)
def AObj.rn (ρ : Nat → Nat) : AObj → AObj
  | .row sz els => .row sz (els.map (List.map (AVal.rn1 ρ)))
  | .map ents => .map (ents.map fun e => (e.1, e.2.rnA ρ))
  | .iter keys seen => .iter keys seen
def Loc.re (L : Loc) (ρ : Nat → Nat) : Loc := ⟨fun j => L.blk (ρ j), fun j => L.cap (ρ j), fun j => L.sz (ρ j), fun j => L.ver (ρ j)⟩

section
variable {ok : Nat → Prop} {L : Loc} {w : World} {ρ : Nat → Nat}
theorem repL_rn {a : AVal} {v : Value} : RepL ok L w (a.rn1 ρ) v ↔ RepL ok (L.re ρ) w a v := by cases a <;> exact Iff.rfl
theorem All2.map_l {α β γ : Type} {f : α → β} {R : β → γ → Prop} : ∀ (as : List α) (cs : List γ), All2 R (as.map f) cs ↔ All2 (fun a c => R (f a) c) as cs
  | [], [] => Iff.rfl
  | _ :: as, _ :: cs => by simp only [List.map_cons, All2, All2.map_l as cs]
  | [], _ :: _ => Iff.rfl
  | _ :: _, [] => Iff.rfl
theorem All2.iff {α β : Type} {R S : α → β → Prop} (h : ∀ a b, R a b ↔ S a b) (as : List α) (bs : List β) : All2 R as bs ↔ All2 S as bs := ⟨All2.mono (fun a b => (h a b).1) as bs, All2.mono (fun a b => (h a b).2) as bs⟩
theorem repA_rn {a : AVal} {v : Value} : RepA ok L w (a.rnA ρ) v ↔ RepA ok (L.re ρ) w a v := by
  cases a with
  | agg cells => simp only [AVal.rnA, RepA, All2.map_l]; exact exists_congr fun vs => and_congr Iff.rfl (All2.iff (fun a b => repL_rn) _ _)
  | fn f caps => simp only [AVal.rnA, RepA, All2.map_l]; exact exists_congr fun vs => and_congr Iff.rfl (All2.iff (fun a b => repL_rn) _ _)
  | _ => first | exact repL_rn (ok := ok) (L := L) (w := w) (ρ := ρ) (v := v) (a := .v _) | exact repL_rn (ok := ok) (L := L) (w := w) (ρ := ρ) (v := v) (a := .nil) | exact repL_rn (ok := ok) (L := L) (w := w) (ρ := ρ) (v := v) (a := .list _ _) | exact repL_rn (ok := ok) (L := L) (w := w) (ρ := ρ) (v := v) (a := .slice _ _ _ _) | exact repL_rn (ok := ok) (L := L) (w := w) (ρ := ρ) (v := v) (a := .ptr _ _ _ _) | exact repL_rn (ok := ok) (L := L) (w := w) (ρ := ρ) (v := v) (a := .rptr _) | exact repL_rn (ok := ok) (L := L) (w := w) (ρ := ρ) (v := v) (a := .map _ _) | exact repL_rn (ok := ok) (L := L) (w := w) (ρ := ρ) (v := v) (a := .tuple _) | exact repL_rn (ok := ok) (L := L) (w := w) (ρ := ρ) (v := v) (a := .agg _) | exact repL_rn (ok := ok) (L := L) (w := w) (ρ := ρ) (v := v) (a := .fn _ _)
theorem rep_rn {a : AVal} {v : Value} : Rep ok L w (a.rn ρ) v ↔ Rep ok (L.re ρ) w a v := by
  cases a with
  | tuple comps => simp only [AVal.rn, Rep, All2.map_l]; exact exists_congr fun vs => and_congr Iff.rfl (All2.iff (fun a b => repA_rn) _ _)
  | _ => first | exact repA_rn (ok := ok) (L := L) (w := w) (ρ := ρ) (v := v) (a := .v _) | exact repA_rn (ok := ok) (L := L) (w := w) (ρ := ρ) (v := v) (a := .nil) | exact repA_rn (ok := ok) (L := L) (w := w) (ρ := ρ) (v := v) (a := .list _ _) | exact repA_rn (ok := ok) (L := L) (w := w) (ρ := ρ) (v := v) (a := .slice _ _ _ _) | exact repA_rn (ok := ok) (L := L) (w := w) (ρ := ρ) (v := v) (a := .ptr _ _ _ _) | exact repA_rn (ok := ok) (L := L) (w := w) (ρ := ρ) (v := v) (a := .rptr _) | exact repA_rn (ok := ok) (L := L) (w := w) (ρ := ρ) (v := v) (a := .map _ _) | exact repA_rn (ok := ok) (L := L) (w := w) (ρ := ρ) (v := v) (a := .tuple _) | exact repA_rn (ok := ok) (L := L) (w := w) (ρ := ρ) (v := v) (a := .agg _) | exact repA_rn (ok := ok) (L := L) (w := w) (ρ := ρ) (v := v) (a := .fn _ _)
theorem objRep_rn {id ver : Nat} {o : AObj} : ObjRep ok L w (ρ id) ver (o.rn ρ) ↔ ObjRep ok (L.re ρ) w id ver o := by
  cases o with
  | row sz els =>
    simp only [AObj.rn, ObjRep, List.length_map]
    refine and_congr Iff.rfl (and_congr Iff.rfl (and_congr ?_ (and_congr Iff.rfl ?_)))
    · constructor
      · intro h e he; simpa using h _ (List.mem_map.2 ⟨e, he, rfl⟩)
      · intro h e he; obtain ⟨e', h1, rfl⟩ := List.mem_map.1 he; simpa using h e' h1
    · refine imp_congr Iff.rfl (exists_congr fun conc => exists_congr fun e => and_congr Iff.rfl (and_congr Iff.rfl ?_))
      constructor
      · intro h i el j av h1 h2
        obtain ⟨v, h3, h4, h5⟩ := h i (el.map (AVal.rn1 ρ)) j (av.rn1 ρ) (by simp [h1]) (by simp [h2])
        exact ⟨v, h3, repL_rn.1 h4, h5⟩
      · intro h i el j av h1 h2
        rw [List.getElem?_map, Option.map_eq_some_iff] at h1
        obtain ⟨el', h1, rfl⟩ := h1
        rw [List.getElem?_map, Option.map_eq_some_iff] at h2
        obtain ⟨av', h2, rfl⟩ := h2
        obtain ⟨v, h3, h4, h5⟩ := h i el' j av' h1 h2
        exact ⟨v, h3, repL_rn.2 h4, h5⟩
  | map ents =>
    simp only [AObj.rn, ObjRep, All2.map_l]
    exact and_congr Iff.rfl (and_congr Iff.rfl (exists_congr fun es => exists_congr fun cl => and_congr Iff.rfl (and_congr (All2.iff (fun a b => and_congr Iff.rfl repA_rn) _ _) Iff.rfl)))
  | iter keys seen => exact Iff.rfl
end

/-! ### Stores that say the same -/
theorem Foot.congr {L : Loc} {σ τ : Store} (h : ∀ id, σ.get id = τ.get id) {b : Nat} (hf : Foot L σ b) : Foot L τ b := by
  obtain ⟨id, ver, o, h1, h2⟩ := hf
  exact ⟨id, ver, o, by rw [← h]; exact h1, h2⟩
theorem Sim.congr {ok : Nat → Prop} {L : Loc} {σ τ : Store} {w : World} (h : ∀ id, σ.get id = τ.get id) (hs : Sim ok L σ w) : Sim ok L τ w :=
  ⟨fun id ver o h1 => hs.objs id ver o (by rw [h]; exact h1), fun b hb => hs.lt b (hb.congr fun id => (h id).symm), fun i j vi vj oi oj h1 h2 => hs.inj i j vi vj oi oj (by rw [h]; exact h1) (by rw [h]; exact h2), fun b hb => ⟨(hs.okd b hb).1, fun hf => (hs.okd b hb).2 (hf.congr fun id => (h id).symm)⟩, hs.glob⟩
theorem Evo.congr {ok ok' : Nat → Prop} {L L' : Loc} {σ σ' τ : Store} {w w' : World} (h : ∀ id, σ'.get id = τ.get id) (he : Evo ok L σ w ok' L' σ' w') : Evo ok L σ w ok' L' τ w' :=
  ⟨he.os, he.tape, he.output, he.size, he.same, fun b hb hf => he.foot b hb (hf.congr fun id => (h id).symm), he.okm, he.okn, he.ver, he.stay⟩

def Store.ren (ρ : Nat → Nat) : Store → Store
  | [] => []
  | (i, v, o) :: r => (ρ i, v, o.rn ρ) :: Store.ren ρ r
theorem Store.get_ren {ρ : Nat → Nat} (hρ : ∀ i j, ρ i = ρ j → i = j) (σ : Store) (j : Nat) : (σ.ren ρ).get (ρ j) = (σ.get j).map fun p => (p.1, p.2.rn ρ) := by
  induction σ with
  | nil => rfl
  | cons p r ih =>
    obtain ⟨i, v, o⟩ := p
    simp only [Store.ren, Store.get]
    by_cases e : i = j
    · subst e; rw [nat_beq_true.2 rfl, nat_beq_true.2 rfl]; rfl
    · rw [nat_beq_false.2 e, nat_beq_false.2 (fun h => e (hρ _ _ h))]; exact ih
theorem Store.get_ren_none {ρ : Nat → Nat} (σ : Store) {id : Nat} (h : ∀ j, ρ j ≠ id) : (σ.ren ρ).get id = none := by
  induction σ with
  | nil => rfl
  | cons p r ih =>
    obtain ⟨i, v, o⟩ := p
    simp only [Store.ren, Store.get]
    rw [nat_beq_false.2 (h i)]; exact ih
theorem Store.get_app (σ τ : Store) (id : Nat) : Store.get (σ ++ τ) id = match σ.get id with | some x => some x | none => τ.get id := by
  induction σ with
  | nil => rfl
  | cons p r ih =>
    obtain ⟨i, x⟩ := p
    show Store.get ((i, x) :: (r ++ τ)) id = _
    simp only [Store.get]
    cases Nat.beq i id
    · exact ih
    · rfl

variable {P : Program}
open Classical in
/-- **A contract, in the caller's names.** -/
theorem ac_ren {f : FuncId} {bvs : List AVal} {σ0 σ : Store} {R : AEnd → Store → Prop} (ρ : Nat → Nat) (hρ : ∀ i j, ρ i = ρ j → i = j) (h : AC P f bvs σ0 R)
    (h0 : ∀ j ver o, σ0.get j = some (ver, o) → σ.get (ρ j) = some (ver, o.rn ρ)) (h1 : ∀ j, σ0.get j = none → σ.get (ρ j) = none) :
    AC P f (bvs.map (AVal.rn ρ)) σ (fun r σ' => ∃ r0 σ0', R r0 σ0' ∧ r = r0.rn ρ ∧ (∀ j, σ'.get (ρ j) = (σ0'.get j).map fun p => (p.1, p.2.rn ρ)) ∧ ∀ id, (∀ j, ρ j ≠ id) → σ'.get id = σ.get id) := by
  intro ok L w vs hs hv
  have hf0 : ∀ b, Foot (L.re ρ) σ0 b → Foot L σ b := fun b ⟨j, ver, o, g1, g2, g3⟩ => ⟨ρ j, ver, o.rn ρ, h0 _ _ _ g1, g2, g3⟩
  have hs0 : Sim ok (L.re ρ) σ0 w := ⟨fun j ver o g => objRep_rn.1 (hs.objs _ _ _ (h0 _ _ _ g)), fun b hb => hs.lt b (hf0 b hb), fun i j vi vj oi oj gi gj ci cj hb => hρ _ _ (hs.inj _ _ _ _ _ _ (h0 _ _ _ gi) (h0 _ _ _ gj) ci cj hb), fun b hb => ⟨(hs.okd b hb).1, fun hf => (hs.okd b hb).2 (hf0 b hf)⟩, hs.glob⟩
  have hv0 : All2 (Rep ok (L.re ρ) w) bvs vs := (All2.iff (fun a b => rep_rn) _ _).1 ((All2.map_l _ _).1 hv)
  refine (h ok (L.re ρ) w vs hs0 hv0).mono ?_
  rintro e w' ⟨r0, σ0', ok', L0', hR, he, hs', hx⟩
  let inR : Nat → Prop := fun id => ∃ j, ρ j = id
  let L' : Loc := ⟨fun id => if h : inR id then L0'.blk h.choose else L.blk id, fun id => if h : inR id then L0'.cap h.choose else L.cap id, fun id => if h : inR id then L0'.sz h.choose else L.sz id, fun id => if h : inR id then L0'.ver h.choose else L.ver id⟩
  have hch : ∀ j (hh : inR (ρ j)), hh.choose = j := fun j hh => hρ _ _ hh.choose_spec
  have hre : L'.re ρ = L0' := by
    have hin : ∀ j, inR (ρ j) := fun j => ⟨j, rfl⟩
    simp only [Loc.re, L', hin, dite_true, hch]
  have hout : ∀ id, ¬ inR id → L'.blk id = L.blk id ∧ L'.cap id = L.cap id ∧ L'.sz id = L.sz id ∧ L'.ver id = L.ver id := fun id hid => by simp only [L', hid, dite_false, and_self]
  have hin : ∀ j, L'.blk (ρ j) = L0'.blk j ∧ L'.cap (ρ j) = L0'.cap j ∧ L'.sz (ρ j) = L0'.sz j ∧ L'.ver (ρ j) = L0'.ver j := fun j => by rw [← hre]; exact ⟨rfl, rfl, rfl, rfl⟩
  let q : Nat → Bool := fun id => decide (¬ inR id)
  let σ' : Store := σ0'.ren ρ ++ σ.keep q
  have g1 : ∀ j, σ'.get (ρ j) = (σ0'.get j).map fun p => (p.1, p.2.rn ρ) := fun j => by
    show Store.get (σ0'.ren ρ ++ σ.keep q) (ρ j) = _
    rw [Store.get_app, Store.get_ren hρ]
    cases σ0'.get j with
    | some p => rfl
    | none =>
      simp only [Option.map_none]
      rw [Store.get_keep, if_neg (by simp only [q, decide_eq_true_eq, not_not]; exact ⟨j, rfl⟩)]
  have g2 : ∀ id, (∀ j, ρ j ≠ id) → σ'.get id = σ.get id := fun id hid => by
    show Store.get (σ0'.ren ρ ++ σ.keep q) id = _
    rw [Store.get_app, Store.get_ren_none _ hid]
    simp only
    rw [Store.get_keep, if_pos (by simp only [q, decide_eq_true_eq]; rintro ⟨j, hj⟩; exact hid j hj)]
  have hfoot : ∀ b, Foot L' σ' b → Foot L0' σ0' b ∨ ∃ id ver o, (∀ j, ρ j ≠ id) ∧ σ.get id = some (ver, o) ∧ L.cap id ≠ 0 ∧ L.blk id = b := by
    rintro b ⟨id, ver, o, k1, k2, k3⟩
    by_cases hi : inR id
    · obtain ⟨j, rfl⟩ := hi
      rw [g1, Option.map_eq_some_iff] at k1
      obtain ⟨⟨v, oo⟩, k4, k5⟩ := k1
      obtain ⟨i1, i2, _, _⟩ := hin j
      exact .inl ⟨j, v, oo, k4, by rw [← i2]; exact k2, by rw [← i1]; exact k3⟩
    · obtain ⟨i1, i2, _, _⟩ := hout id hi
      have hi' : ∀ j, ρ j ≠ id := fun j hj => hi ⟨j, hj⟩
      rw [g2 id hi'] at k1
      exact .inr ⟨id, ver, o, hi', k1, by rw [← i2]; exact k2, by rw [← i1]; exact k3⟩
  have hne : ∀ b id ver o, (∀ j, ρ j ≠ id) → σ.get id = some (ver, o) → L.cap id ≠ 0 → L.blk id = b → ¬ Foot (L.re ρ) σ0 b := by
    rintro b id ver o hi k1 k2 k3 ⟨j, v, oo, k4, k5, k6⟩
    exact hi j (hs.inj _ _ _ _ _ _ (h0 _ _ _ k4) k1 k5 k2 (k6.trans k3.symm))
  have hev : Evo ok L σ w ok' L' σ' w' := by
    refine ⟨he.os, he.tape, he.output, he.size, fun b hb hf => he.same b hb (fun h => hf (hf0 b h)), fun b hb hf => ?_, he.okm, fun b hb hl => (he.okn b hb hl).imp id (hf0 b), fun id => ?_, fun id hid => ?_⟩
    · rcases hfoot b hf with h | ⟨id, ver, o, _, k1, k2, k3⟩
      · exact hf0 b (he.foot b hb h)
      · exact ⟨id, ver, o, k1, k2, k3⟩
    · by_cases hi : inR id
      · obtain ⟨j, rfl⟩ := hi
        rw [(hin j).2.2.2]; exact he.ver j
      · rw [(hout id hi).2.2.2]; exact Nat.le_refl _
    · by_cases hi : inR id
      · obtain ⟨j, rfl⟩ := hi
        obtain ⟨i1, i2, i3, i4⟩ := hin j
        rw [i4] at hid
        rw [i1, i2, i3]
        exact he.stay j hid
      · obtain ⟨i1, i2, i3, i4⟩ := hout id hi
        exact ⟨i1, i2, i3⟩
  refine ⟨r0.rn ρ, σ', ok', L', ⟨r0, σ0', hR, rfl, g1, g2⟩, hev, ⟨fun id ver o k1 => ?_, fun b hb => ?_, ?_, fun b hb => ?_, hs.globEvo hev⟩, ?_⟩
  · by_cases hi : inR id
    · obtain ⟨j, rfl⟩ := hi
      rw [g1, Option.map_eq_some_iff] at k1
      obtain ⟨⟨v, oo⟩, k4, k5⟩ := k1
      cases k5
      rw [objRep_rn, hre]
      exact hs'.objs j v oo k4
    · have hi' : ∀ j, ρ j ≠ id := fun j hj => hi ⟨j, hj⟩
      rw [g2 id hi'] at k1
      exact (hs.objs id ver o k1).evo hs hev (hout id hi).2.2.2 (fun hc => he.same _ (hs.lt _ ⟨id, ver, o, k1, hc, rfl⟩) (hne _ id ver o hi' k1 hc rfl))
  · rcases hfoot b hb with h | ⟨id, ver, o, _, k1, k2, k3⟩
    · exact hs'.lt b h
    · exact Nat.lt_of_lt_of_le (hs.lt b ⟨id, ver, o, k1, k2, k3⟩) he.size
  · have mixed : ∀ i j vi vj oi oj, σ'.get (ρ i) = some (vi, oi) → (∀ k, ρ k ≠ j) → σ.get j = some (vj, oj) → L'.cap (ρ i) ≠ 0 → L.cap j ≠ 0 → L'.blk (ρ i) ≠ L.blk j := by
      intro i j vi vj oi oj k1 hj k2 c1 c2 hb
      rw [g1, Option.map_eq_some_iff] at k1
      obtain ⟨⟨v, oo⟩, k4, k5⟩ := k1
      obtain ⟨i1, i2, _, _⟩ := hin i
      rw [i2] at c1
      rw [i1] at hb
      have hlt := hs.lt _ ⟨j, vj, oj, k2, c2, rfl⟩
      exact hne _ j vj oj hj k2 c2 rfl (he.foot _ hlt ⟨i, v, oo, k4, c1, hb⟩)
    intro i j vi vj oi oj k1 k2 c1 c2 hb
    by_cases hi : inR i
    · obtain ⟨i', rfl⟩ := hi
      by_cases hj : inR j
      · obtain ⟨j', rfl⟩ := hj
        rw [g1, Option.map_eq_some_iff] at k1 k2
        obtain ⟨⟨v, oo⟩, k4, k5⟩ := k1
        obtain ⟨⟨v', oo'⟩, k6, k7⟩ := k2
        obtain ⟨a1, a2, _, _⟩ := hin i'
        obtain ⟨b1, b2, _, _⟩ := hin j'
        rw [a2] at c1; rw [b2] at c2; rw [a1, b1] at hb
        rw [hs'.inj _ _ _ _ _ _ k4 k6 c1 c2 hb]
      · have hj' : ∀ k, ρ k ≠ j := fun k hk => hj ⟨k, hk⟩
        rw [g2 j hj'] at k2
        obtain ⟨a1, a2, _, _⟩ := hout j hj
        rw [a2] at c2; rw [a1] at hb
        exact absurd hb (mixed i' j vi vj oi oj k1 hj' k2 c1 c2)
    · have hi' : ∀ k, ρ k ≠ i := fun k hk => hi ⟨k, hk⟩
      rw [g2 i hi'] at k1
      obtain ⟨a1, a2, _, _⟩ := hout i hi
      rw [a2] at c1; rw [a1] at hb
      by_cases hj : inR j
      · obtain ⟨j', rfl⟩ := hj
        exact absurd hb.symm (mixed j' i vj vi oj oi k2 hi' k1 c2 c1)
      · have hj' : ∀ k, ρ k ≠ j := fun k hk => hj ⟨k, hk⟩
        rw [g2 j hj'] at k2
        obtain ⟨b1, b2, _, _⟩ := hout j hj
        rw [b2] at c2; rw [b1] at hb
        exact hs.inj i j vi vj oi oj k1 k2 c1 c2 hb
  · refine ⟨(hs'.okd b hb).1, fun hf => ?_⟩
    rcases hfoot b hf with h | ⟨id, ver, o, hi, k1, k2, k3⟩
    · exact (hs'.okd b hb).2 h
    · have hlt := hs.lt b ⟨id, ver, o, k1, k2, k3⟩
      rcases he.okn b hb hlt with h | h
      · exact (hs.okd b h).2 ⟨id, ver, o, k1, k2, k3⟩
      · exact hne b id ver o hi k1 k2 k3 h
  · cases r0 with
    | ret a =>
      cases e with
      | returned v => show Rep ok' L' w' (a.rn ρ) v; rw [rep_rn, hre]; exact hx
      | _ => exact hx.elim
    | pan a =>
      cases e with
      | panicked chain => obtain ⟨v, e1, e2⟩ := hx; exact ⟨v, e1, by rw [rep_rn, hre]; exact e2⟩
      | _ => exact hx.elim

/-! ### .. by a table -/
def tab (t : List Nat) (j : Nat) : Nat := match t[j]? with | some i => i | none => j + 1000
def tabOK (t : List Nat) : Bool := t.all (fun i => decide (i < 1000)) && decide t.Nodup
theorem tab_inj {t : List Nat} (h : tabOK t = true) : ∀ i j, tab t i = tab t j → i = j := by
  simp only [tabOK, Bool.and_eq_true, List.all_eq_true, decide_eq_true_eq] at h
  obtain ⟨h1, h2⟩ := h
  intro i j e
  simp only [tab] at e
  cases hi : t[i]? with
  | some x =>
    rw [hi] at e
    obtain ⟨li, ei⟩ := List.getElem?_eq_some_iff.1 hi
    cases hj : t[j]? with
    | some y =>
      rw [hj] at e
      obtain ⟨lj, ej⟩ := List.getElem?_eq_some_iff.1 hj
      exact (List.getElem_inj h2).1 (ei.trans (e.trans ej.symm))
    | none =>
      rw [hj] at e
      have := h1 x (List.mem_of_getElem? hi)
      simp only at e
      omega
  | none =>
    rw [hi] at e
    cases hj : t[j]? with
    | some y =>
      rw [hj] at e
      have := h1 y (List.mem_of_getElem? hj)
      simp only at e
      omega
    | none => rw [hj] at e; simp only at e; omega

def Store.below (B : Nat) : Store → Bool
  | [] => true
  | (i, _) :: r => decide (i < B) && Store.below B r
theorem Store.get_below {B : Nat} {σ : Store} (h : σ.below B = true) {id : Nat} (hid : B ≤ id) : σ.get id = none := by
  induction σ with
  | nil => rfl
  | cons p r ih =>
    obtain ⟨i, x⟩ := p
    simp only [Store.below, Bool.and_eq_true, decide_eq_true_eq] at h
    simp only [Store.get]
    rw [nat_beq_false.2 (by omega)]
    exact ih h.2
/-- What the callee sees lies there. -/
def Store.match (ρ : Nat → Nat) (σ : Store) : Store → Prop
  | [] => True
  | (j, v, o) :: r => σ.get (ρ j) = some (v, o.rn ρ) ∧ Store.match ρ σ r
theorem Store.match_get {ρ : Nat → Nat} {σ : Store} : ∀ {σ0 : Store}, Store.match ρ σ σ0 → ∀ j ver o, σ0.get j = some (ver, o) → σ.get (ρ j) = some (ver, o.rn ρ)
  | [], _, j, ver, o, h => by cases h
  | (i, v, o') :: r, ⟨h1, h2⟩, j, ver, o, h => by
    simp only [Store.get] at h
    by_cases e : i = j
    · subst e; rw [nat_beq_true.2 rfl] at h; cases h; exact h1
    · rw [nat_beq_false.2 e] at h; exact Store.match_get h2 j ver o h
def Store.free (t : List Nat) (σ0 σ : Store) : Bool := (List.range t.length).all fun j => (σ0.get j).isSome || (σ.get (tab t j)).isNone
def Store.putAll (ρ : Nat → Nat) : Store → Store → Store
  | [], σ => σ
  | (i, v, o) :: r, σ => (Store.putAll ρ r σ).put (ρ i) v (o.rn ρ)
theorem Store.get_putAll {ρ : Nat → Nat} (hρ : ∀ i j, ρ i = ρ j → i = j) (σ0 σ : Store) (j : Nat) : (Store.putAll ρ σ0 σ).get (ρ j) = match σ0.get j with | some p => some (p.1, p.2.rn ρ) | none => σ.get (ρ j) := by
  induction σ0 with
  | nil => rfl
  | cons p r ih =>
    obtain ⟨i, v, o⟩ := p
    simp only [Store.putAll, Store.get]
    rw [Store.get_put]
    by_cases e : i = j
    · subst e; rw [if_pos rfl, nat_beq_true.2 rfl]
    · rw [if_neg (fun h => e (hρ _ _ h)), nat_beq_false.2 e]; exact ih
theorem Store.get_putAll_out {ρ : Nat → Nat} (σ0 σ : Store) {id : Nat} (h : ∀ j, ρ j ≠ id) : (Store.putAll ρ σ0 σ).get id = σ.get id := by
  induction σ0 with
  | nil => rfl
  | cons p r ih =>
    obtain ⟨i, v, o⟩ := p
    simp only [Store.putAll]
    rw [Store.get_put, if_neg (h i)]; exact ih
def Store.hasAll (σ0 σ0' : Store) : Prop := ∀ j, σ0'.get j = none → σ0.get j = none

/-- **The same, with a table of the caller's names.** -/
theorem ac_at {f : FuncId} {bvs : List AVal} {σ0 σ : Store} {R : AEnd → Store → Prop} (t : List Nat) (ht : tabOK t = true) (h : AC P f bvs σ0 R) (hm : Store.match (tab t) σ σ0) (hf : Store.free t σ0 σ = true) (hb : σ.below 1000 = true)
    (hR : ∀ r σ', R r σ' → Store.hasAll σ0 σ') :
    AC P f (bvs.map (AVal.rn (tab t))) σ (fun r σ' => ∃ r0 σ0', R r0 σ0' ∧ r = r0.rn (tab t) ∧ σ' = Store.putAll (tab t) σ0' σ) := by
  have hρ := tab_inj ht
  have h1 : ∀ j, σ0.get j = none → σ.get (tab t j) = none := by
    intro j hj
    by_cases hl : j < t.length
    · have := List.all_eq_true.1 hf j (List.mem_range.2 hl)
      rw [hj] at this
      simpa using this
    · have e : tab t j = j + 1000 := by simp only [tab]; rw [List.getElem?_eq_none (by omega)]
      rw [e]
      exact Store.get_below hb (by omega)
  intro ok L w vs hs hv
  refine (ac_ren (tab t) hρ h (Store.match_get hm) h1 ok L w vs hs hv).mono ?_
  rintro e w' ⟨r, σ', ok', L', ⟨r0, σ0', hr, rfl, g1, g2⟩, he, hs', hx⟩
  have hg : ∀ id, σ'.get id = (Store.putAll (tab t) σ0' σ).get id := by
    intro id
    by_cases hi : ∃ j, tab t j = id
    · obtain ⟨j, rfl⟩ := hi
      rw [g1, Store.get_putAll hρ]
      cases hj : σ0'.get j with
      | some p => rfl
      | none => rw [h1 j (hR _ _ hr j hj)]; rfl
    · have hi' : ∀ j, tab t j ≠ id := fun j hj => hi ⟨j, hj⟩
      rw [g2 id hi', Store.get_putAll_out _ _ hi']
  exact ⟨_, _, ok', L', ⟨r0, σ0', hr, rfl, rfl⟩, he.congr hg, hs'.congr hg, hx⟩
theorem rn1_sca {ρ : Nat → Nat} {a : AVal} (h : a.clo1 = true) : a.rn1 ρ = a := by cases a <;> first | rfl | simp [AVal.clo1] at h
theorem rn_cells {ρ : Nat → Nat} : ∀ {l : List AVal}, l.all AVal.clo1 = true → l.map (AVal.rn1 ρ) = l
  | [], _ => rfl
  | a :: l, h => by
    simp only [List.all_cons, Bool.and_eq_true] at h
    rw [List.map_cons, rn1_sca h.1, rn_cells h.2]
theorem rn_rows {α : Type} {ρ : Nat → Nat} {f : α → List AVal} (h : ∀ x, (f x).all AVal.clo1 = true) (l : List α) : (l.map f).map (List.map (AVal.rn1 ρ)) = l.map f := by
  rw [List.map_map]
  exact List.map_congr_left fun x _ => rn_cells (h x)

/-! ### Lists made anew -/
/-- A contract whose result is a list in new memory. -/
def ACn (P : Program) (f : FuncId) (bvs : List AVal) (a : AVal) : Prop := ∀ ok L w vs, Sim ok L [] w → All2 (Rep ok L w) bvs vs → Calls P f vs.toArray w fun e w' => ∃ ok' L', Evo ok L [] w ok' L' [] w' ∧ Sim ok' L' [] w' ∧ ∃ v, e = .returned v ∧ RepC (fun b => ok' b ∧ w.heap.size ≤ b) w' a v
theorem acn_of {f : FuncId} {bvs : List AVal} {sz : Nat} {els : List (List AVal)} (h : AC P f bvs [] (fun r σ' => ∃ id ver, r = .ret (.slice id ver 0 els.length) ∧ σ'.get id = some (ver, .row sz els))) (hs : ∀ el ∈ els, el.all AVal.sca = true) : ACn P f bvs (.list sz els) := by
  intro ok L w vs h1 h2
  refine (h ok L w vs h1 h2).mono ?_
  rintro e w' ⟨r, σ', ok', L', ⟨id, ver, rfl, hid⟩, he, hs', hx⟩
  cases e with
  | returned v =>
    have hx' : RepL ok' L' w' (.slice id ver 0 els.length) v := hx
    have hclo : ∀ el ∈ els, el.all AVal.clo1 = true := by
      intro el hel
      have := hs el hel
      rw [List.all_eq_true] at this ⊢
      intro a ha
      have := this a ha
      cases a <;> simp [AVal.sca, AVal.clo1] at this ⊢
    have hnew : ∀ b, Foot L' σ' b → w.heap.size ≤ b := by
      intro b hb
      rcases Nat.lt_or_ge b w.heap.size with h | h
      · exact (foot_empty (he.foot b h hb)).elim
      · exact h
    obtain ⟨ok2, L2, he2, hs2, hk, hdead⟩ := freeze_core hs' (fun _ => false)
    have hk2 : σ'.keep (fun _ => false) = [] := by
      have : ∀ s : Store, s.keep (fun _ => false) = [] := by
        intro s
        induction s with
        | nil => rfl
        | cons p r ih => obtain ⟨i, x⟩ := p; simp only [Store.keep, ih]
      exact this _
    rw [hk2] at he2 hs2
    have hev := he.trans he2
    refine ⟨ok2, L2, hev, hs2, v, rfl, ?_⟩
    have hl' := row_scal hs' hid hs hx'
    refine hl'.mono (fun b hb' => ?_) (fun b _ => rfl)
    refine ⟨hdead b ?_, hnew b hb'⟩
    obtain ⟨i, v', o, k1, k2, k3⟩ := hb'
    exact ⟨i, v', o, by rw [Store.get_keep, if_pos (by rfl)]; exact k1, k2, k3⟩
  | _ => exact hx.elim
theorem acn_lend {f : FuncId} {avs bvs : List AVal} {sz : Nat} {els : List (List AVal)} {σ : Store} (hl : All2 (LendA σ) avs bvs) (h : ACn P f bvs (.list sz els)) : AC P f avs σ (fun r σ' => r = .ret (.list sz els) ∧ σ' = σ) := by
  intro ok L w vs hs hv
  have hv' : All2 (Rep (fun x => ok x ∨ Foot L σ x) L w) bvs vs := All2.two (fun a b c h1 h3 => h1.rep hs h3) _ _ _ hl hv
  refine (h _ L w vs (sim_empty (fun b hb => hb.elim (fun h => (hs.okd b h).1) (fun h => hs.lt b h)) (hs.glob.mono (fun b hb => .inl hb) (fun _ _ => rfl))) hv').mono ?_
  rintro e w' ⟨ok', L', he, hs', v, rfl, hx⟩
  obtain ⟨he2, hs2⟩ := back_pure hs _ (fun b hb => hb) (fun b hb => .inl hb) he hs'
  refine ⟨.ret (.list sz els), σ, _, L, ⟨rfl, rfl⟩, he2, hs2, ?_⟩
  have : RepC (fun b => ok' b ∧ ¬ Foot L σ b) w' (.list sz els) v := hx.mono (fun b hb => ⟨hb.1, fun hf => by have := hs.lt b hf; omega⟩) (fun b _ => rfl)
  exact this

/-! ### Results that lie in cells -/
/-- What a pointer leads to. -/
theorem load_core {P : Program} {σ : Store} {t : TypeId} {td : TypeDesc} {inf : TypeInfo} {id ver i j sz : Nat} {els : List (List AVal)} {el : List AVal} {a : AVal} (ht : P.underlying t = some td) (hi : P.info? t = some inf) (hid : σ.get id = some (ver, .row sz els)) (hel : els[i]? = some el)
    (ha : asOne (TypeDesc.isAggB td) inf.size (el.drop j) = some a) {ok : Nat → Prop} {L : Loc} {w : World} (hs : Sim ok L σ w) {p : Value} (h : RepL ok L w (.ptr id ver i j) p) :
    ∃ ad, p = .pointer (some ad) ∧ ∃ v, (loadVar t ad).run P w = .ok v w ∧ Rep ok L w a v := by
  have h1 := h.2 (hs.ver hid)
  subst h1
  refine ⟨⟨L.blk id, i * L.sz id + j, none⟩, rfl, ?_⟩
  obtain ⟨e1, e2, e3, e4, conc, et, g1, g2, g3⟩ := hs.row hid hel
  have hcell : ∀ k v, conc[i * sz + (j + k)]? = some v → w.cell? ⟨L.blk id, i * sz + j + k, none⟩ = some v := by
    intro k v hv
    simp [World.cell?, g1, Nat.add_assoc, hv]
  cases hb : TypeDesc.isAggB td with
  | false =>
    rw [hb] at ha
    have h0 : el[j]? = some a := by simpa [asOne, List.head?_eq_getElem?] using ha
    obtain ⟨v, k1, k2, _⟩ := g3 i el j a hel h0
    refine ⟨v, ?_, k2.rep k2.leaf⟩
    have hc : w.cell? ⟨L.blk id, i * L.sz id + j, none⟩ = some v := by rw [e1]; exact hcell 0 v (by simpa using k1)
    exact run_loadVar_one ht hb hc
  | true =>
    rw [hb] at ha
    simp only [asOne] at ha
    split at ha
    · rename_i hk
      cases ha
      have hg : ∀ k av, ((el.drop j).take inf.size)[k]? = some av → ∃ v, conc[i * sz + (j + k)]? = some v ∧ RepL ok L w av v ∧ v.oneCell' = true := fun k av hj => by
        rw [List.getElem?_take] at hj
        split at hj
        · rw [List.getElem?_drop] at hj
          exact g3 i el _ av hel hj
        · cases hj
      let vs : Nat → Value := fun k => (conc[i * sz + (j + k)]?).getD undef
      refine ⟨.agg ((List.range ((el.drop j).take inf.size).length).map vs).toArray, ?_, _, rfl, All2.fill _ vs (fun k av hj => ?_)⟩
      · have hc : ∀ k v, ((List.range ((el.drop j).take inf.size).length).map vs)[k]? = some v → w.cell? ((⟨L.blk id, i * L.sz id + j, none⟩ : Addr).add k) = some v := by
          intro k v hj
          rw [List.getElem?_map] at hj
          rcases Nat.lt_or_ge k ((el.drop j).take inf.size).length with h | h
          · rw [List.getElem?_range h] at hj
            simp only [Option.map_some, Option.some.injEq] at hj
            obtain ⟨u, u1, _⟩ := hg k _ (List.getElem?_eq_getElem h)
            have : v = u := by rw [← hj]; show (conc[i * sz + (j + k)]?).getD undef = u; rw [u1]; rfl
            subst this
            rw [addr_add0, e1]
            exact hcell k v u1
          · rw [List.getElem?_eq_none (by simpa using h)] at hj
            cases hj
        have := run_loadVar_agg (w := w) (a := ⟨L.blk id, i * L.sz id + j, none⟩) (vs := (List.range ((el.drop j).take inf.size).length).map vs) ht hb hi (by simp at hk ⊢; omega) hc
        exact this
      · obtain ⟨u, u1, u2, _⟩ := hg k av hj
        have : vs k = u := by show (conc[i * sz + (j + k)]?).getD undef = u; rw [u1]; rfl
        rw [this]; exact u2
    · cases ha
theorem res_cell {fn : Func} {t ty : Nat} {td : TypeDesc} {inf : TypeInfo} {id ver sz : Nat} {els : List (List AVal)} {el : List AVal} {a : AVal} {env : Env} {σ : Store} (h : fn.results = #[.cell t ty]) (hu : P.underlying ty = some td) (hi : P.info? ty = some inf) (ht : env.get t = some (.ptr id ver 0 0)) (hid : σ.get id = some (ver, .row sz els)) (hel : els[0]? = some el)
    (ha : asOne (TypeDesc.isAggB td) inf.size (el.drop 0) = some a) : ResOK P fn env σ a := by
  intro ok L w tmps hs hr
  obtain ⟨p, p1, p2⟩ := hr t _ ht
  obtain ⟨ad, rfl, v, hv, hrep⟩ := load_core hu hi hid hel ha hs (show RepL ok L w (.ptr id ver 0 0) p from p2)
  refine ⟨v, ?_, hrep⟩
  simp [results, h, p1, asAddr, hv]
theorem res_cell_tmp {fn : Func} {t ty u : Nat} {td : TypeDesc} {inf : TypeInfo} {id ver sz : Nat} {els : List (List AVal)} {el : List AVal} {a b : AVal} {env : Env} {σ : Store} (h : fn.results = #[.cell t ty, .tmp u]) (hu : P.underlying ty = some td) (hi : P.info? ty = some inf) (ht : env.get t = some (.ptr id ver 0 0)) (hid : σ.get id = some (ver, .row sz els)) (hel : els[0]? = some el)
    (ha : asOne (TypeDesc.isAggB td) inf.size (el.drop 0) = some a) (hb : env.get u = some b) (hfa : a.flat = true) (hfb : b.flat = true) : ResOK P fn env σ (.tuple [a, b]) := by
  intro ok L w tmps hs hr
  obtain ⟨p, p1, p2⟩ := hr t _ ht
  obtain ⟨q, q1, q2⟩ := hr u _ hb
  obtain ⟨ad, rfl, v, hv, hrep⟩ := load_core hu hi hid hel ha hs (show RepL ok L w (.ptr id ver 0 0) p from p2)
  refine ⟨.tuple #[v, q], ?_, [v, q], rfl, repA_of hrep hfa, repA_of q2 hfb, trivial⟩
  simp [results, h, p1, q1, asAddr, hv]
end Go.Proofs.YtnnklpmgncbgnaaGreat
