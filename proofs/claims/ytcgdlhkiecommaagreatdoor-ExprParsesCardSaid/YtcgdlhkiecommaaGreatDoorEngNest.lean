import Derived.Test.YtcgdlhkiecommaaGreatDoorEngO
import Derived.DeepKeys
import Derived.Defers
import Derived.Recover
import Derived.Laws.Shifts
import Derived.Laws.IdiomRangeMap
import Derived.Sort.OwnSortedInts
/- The engine, part 16: a contract in the caller's names; lists made anew; results that lie in cells. -/

set_option linter.unusedVariables false
set_option linter.unusedSimpArgs false
namespace Go.Proofs.YtcgdlhkiecommaaGreatDoor
open Go
def AVal.rn1 (ρ : Nat → Nat) : AVal → AVal
  | .slice id ver off n => .slice (ρ id) ver off n
  | .ptr id ver i j => .ptr (ρ id) ver i j
  | .map id ver => .map (ρ id) ver
  | a => a
def AVal.rnA (ρ : Nat → Nat) : AVal → AVal
  | .agg cells => .agg (cells.map (AVal.rn1 ρ))
  | .fn f caps => .fn f (caps.map (AVal.rn1 ρ))
  | a => a.rn1 ρ
def AVal.rn (ρ : Nat → Nat) : AVal → AVal
  | .tuple comps => .tuple (comps.map (AVal.rnA ρ))
  | a => a.rnA ρ
def AEnd.rn (ρ : Nat → Nat) : AEnd → AEnd
  | .ret a => .ret (a.rn ρ)
  | .pan a => .pan (a.rn ρ)
def AObj.rn (ρ : Nat → Nat) : AObj → AObj
  | .row sz els => .row sz (els.map (List.map (AVal.rn1 ρ)))
  | .map ents => .map (ents.map fun e => (e.1, e.2.rnA ρ))
  | .iter keys seen => .iter keys seen
def Loc.re (L : Loc) (ρ : Nat → Nat) : Loc := ⟨fun j => L.blk (ρ j), fun j => L.cap (ρ j), fun j => L.sz (ρ j), fun j => L.ver (ρ j)⟩
section
variable {ok : Nat → Prop} {L : Loc} {w : World} {ρ : Nat → Nat}
theorem repL_rn {a : AVal} {v : Value} : RepL ok L w (a.rn1 ρ) v ↔ RepL ok (L.re ρ) w a v := by cases a <;> exact Iff.rfl
theorem All2.map_l {α β γ : Type} {f : α → β} {R : β → γ → Prop} : ∀ (as : List α) (cs : List γ), All2 R (as.map f) cs ↔ All2 (fun a c => R (f a) c) as cs
  | [], [] => Iff.rfl
  | _ :: as, _ :: cs => by simp only [List.map_cons, All2, All2.map_l as cs]
  | [], _ :: _ => Iff.rfl
  | _ :: _, [] => Iff.rfl
theorem All2.iff {α β : Type} {R S : α → β → Prop} (h : ∀ a b, R a b ↔ S a b) (as : List α) (bs : List β) : All2 R as bs ↔ All2 S as bs := ⟨All2.mono (fun a b => (h a b).1) as bs, All2.mono (fun a b => (h a b).2) as bs⟩
theorem repA_rn {a : AVal} {v : Value} : RepA ok L w (a.rnA ρ) v ↔ RepA ok (L.re ρ) w a v := by
  cases a with
  | agg cells => simp only [AVal.rnA, RepA, All2.map_l]; exact exists_congr fun vs => and_congr Iff.rfl (All2.iff (fun a b => repL_rn) _ _)
  | fn f caps => simp only [AVal.rnA, RepA, All2.map_l]; exact exists_congr fun vs => and_congr Iff.rfl (All2.iff (fun a b => repL_rn) _ _)
  | _ => first | exact repL_rn (ok := ok) (L := L) (w := w) (ρ := ρ) (v := v) (a := .v _) | exact repL_rn (ok := ok) (L := L) (w := w) (ρ := ρ) (v := v) (a := .nil) | exact repL_rn (ok := ok) (L := L) (w := w) (ρ := ρ) (v := v) (a := .list _ _) | exact repL_rn (ok := ok) (L := L) (w := w) (ρ := ρ) (v := v) (a := .slice _ _ _ _) | exact repL_rn (ok := ok) (L := L) (w := w) (ρ := ρ) (v := v) (a := .ptr _ _ _ _) | exact repL_rn (ok := ok) (L := L) (w := w) (ρ := ρ) (v := v) (a := .rptr _) | exact repL_rn (ok := ok) (L := L) (w := w) (ρ := ρ) (v := v) (a := .map _ _) | exact repL_rn (ok := ok) (L := L) (w := w) (ρ := ρ) (v := v) (a := .tuple _) | exact repL_rn (ok := ok) (L := L) (w := w) (ρ := ρ) (v := v) (a := .agg _) | exact repL_rn (ok := ok) (L := L) (w := w) (ρ := ρ) (v := v) (a := .fn _ _)
theorem rep_rn {a : AVal} {v : Value} : Rep ok L w (a.rn ρ) v ↔ Rep ok (L.re ρ) w a v := by
  cases a with
  | tuple comps => simp only [AVal.rn, Rep, All2.map_l]; exact exists_congr fun vs => and_congr Iff.rfl (All2.iff (fun a b => repA_rn) _ _)
  | _ => first | exact repA_rn (ok := ok) (L := L) (w := w) (ρ := ρ) (v := v) (a := .v _) | exact repA_rn (ok := ok) (L := L) (w := w) (ρ := ρ) (v := v) (a := .nil) | exact repA_rn (ok := ok) (L := L) (w := w) (ρ := ρ) (v := v) (a := .list _ _) | exact repA_rn (ok := ok) (L := L) (w := w) (ρ := ρ) (v := v) (a := .slice _ _ _ _) | exact repA_rn (ok := ok) (L := L) (w := w) (ρ := ρ) (v := v) (a := .ptr _ _ _ _) | exact repA_rn (ok := ok) (L := L) (w := w) (ρ := ρ) (v := v) (a := .rptr _) | exact repA_rn (ok := ok) (L := L) (w := w) (ρ := ρ) (v := v) (a := .map _ _) | exact repA_rn (ok := ok) (L := L) (w := w) (ρ := ρ) (v := v) (a := .tuple _) | exact repA_rn (ok := ok) (L := L) (w := w) (ρ := ρ) (v := v) (a := .agg _) | exact repA_rn (ok := ok) (L := L) (w := w) (ρ := ρ) (v := v) (a := .fn _ _)
theorem objRep_rn {id ver : Nat} {o : AObj} : ObjRep ok L w (ρ id) ver (o.rn ρ) ↔ ObjRep ok (L.re ρ) w id ver o := by
  cases o with
  | row sz els =>
    simp only [AObj.rn, ObjRep, List.length_map]
    refine and_congr Iff.rfl (and_congr Iff.rfl (and_congr ?_ (and_congr Iff.rfl ?_)))
    · constructor
      · intro h e he; simpa using h _ (List.mem_map.2 ⟨e, he, rfl⟩)
      · intro h e he; obtain ⟨e', h1, rfl⟩ := List.mem_map.1 he; simpa using h e' h1
    · refine imp_congr Iff.rfl (exists_congr fun conc => exists_congr fun e => and_congr Iff.rfl (and_congr Iff.rfl ?_))
      constructor
      · intro h i el j av h1 h2
        obtain ⟨v, h3, h4, h5⟩ := h i (el.map (AVal.rn1 ρ)) j (av.rn1 ρ) (by simp [h1]) (by simp [h2])
        exact ⟨v, h3, repL_rn.1 h4, h5⟩
      · intro h i el j av h1 h2
        rw [List.getElem?_map, Option.map_eq_some_iff] at h1
        obtain ⟨el', h1, rfl⟩ := h1
        rw [List.getElem?_map, Option.map_eq_some_iff] at h2
        obtain ⟨av', h2, rfl⟩ := h2
        obtain ⟨v, h3, h4, h5⟩ := h i el' j av' h1 h2
        exact ⟨v, h3, repL_rn.2 h4, h5⟩
  | map ents =>
    simp only [AObj.rn, ObjRep, All2.map_l]
    exact and_congr Iff.rfl (and_congr Iff.rfl (exists_congr fun es => exists_congr fun cl => and_congr Iff.rfl (and_congr (All2.iff (fun a b => and_congr Iff.rfl repA_rn) _ _) Iff.rfl)))
  | iter keys seen => exact Iff.rfl
end
theorem Foot.congr {L : Loc} {σ τ : Store} (h : ∀ id, σ.get id = τ.get id) {b : Nat} (hf : Foot L σ b) : Foot L τ b := by
  obtain ⟨id, ver, o, h1, h2⟩ := hf
  exact ⟨id, ver, o, by rw [← h]; exact h1, h2⟩
theorem Sim.congr {ok : Nat → Prop} {L : Loc} {σ τ : Store} {w : World} (h : ∀ id, σ.get id = τ.get id) (hs : Sim ok L σ w) : Sim ok L τ w :=
  ⟨fun id ver o h1 => hs.objs id ver o (by rw [h]; exact h1), fun b hb => hs.lt b (hb.congr fun id => (h id).symm), fun i j vi vj oi oj h1 h2 => hs.inj i j vi vj oi oj (by rw [h]; exact h1) (by rw [h]; exact h2), fun b hb => ⟨(hs.okd b hb).1, fun hf => (hs.okd b hb).2 (hf.congr fun id => (h id).symm)⟩, hs.glob⟩
theorem Evo.congr {ok ok' : Nat → Prop} {L L' : Loc} {σ σ' τ : Store} {w w' : World} (h : ∀ id, σ'.get id = τ.get id) (he : Evo ok L σ w ok' L' σ' w') : Evo ok L σ w ok' L' τ w' :=
  ⟨he.os, he.tape, he.output, he.size, he.same, fun b hb hf => he.foot b hb (hf.congr fun id => (h id).symm), he.okm, he.okn, he.ver, he.stay⟩
def Store.ren (ρ : Nat → Nat) : Store → Store
  | [] => []
  | (i, v, o) :: r => (ρ i, v, o.rn ρ) :: Store.ren ρ r
theorem Store.get_ren {ρ : Nat → Nat} (hρ : ∀ i j, ρ i = ρ j → i = j) (σ : Store) (j : Nat) : (σ.ren ρ).get (ρ j) = (σ.get j).map fun p => (p.1, p.2.rn ρ) := by
  induction σ with
  | nil => rfl
  | cons p r ih =>
    obtain ⟨i, v, o⟩ := p
    simp only [Store.ren, Store.get]
    by_cases e : i = j
    · subst e; rw [nat_beq_true.2 rfl, nat_beq_true.2 rfl]; rfl
    · rw [nat_beq_false.2 e, nat_beq_false.2 (fun h => e (hρ _ _ h))]; exact ih
theorem Store.get_ren_none {ρ : Nat → Nat} (σ : Store) {id : Nat} (h : ∀ j, ρ j ≠ id) : (σ.ren ρ).get id = none := by
  induction σ with
  | nil => rfl
  | cons p r ih =>
    obtain ⟨i, v, o⟩ := p
    simp only [Store.ren, Store.get]
    rw [nat_beq_false.2 (h i)]; exact ih
theorem Store.get_app (σ τ : Store) (id : Nat) : Store.get (σ ++ τ) id = match σ.get id with | some x => some x | none => τ.get id := by
  induction σ with
  | nil => rfl
  | cons p r ih =>
    obtain ⟨i, x⟩ := p
    show Store.get ((i, x) :: (r ++ τ)) id = _
    simp only [Store.get]
    cases Nat.beq i id
    · exact ih
    · rfl
variable {P : Program}
open Classical in
theorem ac_ren {f : FuncId} {bvs : List AVal} {σ0 σ : Store} {R : AEnd → Store → Prop} (ρ : Nat → Nat) (hρ : ∀ i j, ρ i = ρ j → i = j) (h : AC P f bvs σ0 R)
    (h0 : ∀ j ver o, σ0.get j = some (ver, o) → σ.get (ρ j) = some (ver, o.rn ρ)) (h1 : ∀ j, σ0.get j = none → σ.get (ρ j) = none) :
    AC P f (bvs.map (AVal.rn ρ)) σ (fun r σ' => ∃ r0 σ0', R r0 σ0' ∧ r = r0.rn ρ ∧ (∀ j, σ'.get (ρ j) = (σ0'.get j).map fun p => (p.1, p.2.rn ρ)) ∧ ∀ id, (∀ j, ρ j ≠ id) → σ'.get id = σ.get id) := by
  intro ok L w vs hs hv
  have hf0 : ∀ b, Foot (L.re ρ) σ0 b → Foot L σ b := fun b ⟨j, ver, o, g1, g2, g3⟩ => ⟨ρ j, ver, o.rn ρ, h0 _ _ _ g1, g2, g3⟩
  have hs0 : Sim ok (L.re ρ) σ0 w := ⟨fun j ver o g => objRep_rn.1 (hs.objs _ _ _ (h0 _ _ _ g)), fun b hb => hs.lt b (hf0 b hb), fun i j vi vj oi oj gi gj ci cj hb => hρ _ _ (hs.inj _ _ _ _ _ _ (h0 _ _ _ gi) (h0 _ _ _ gj) ci cj hb), fun b hb => ⟨(hs.okd b hb).1, fun hf => (hs.okd b hb).2 (hf0 b hf)⟩, hs.glob⟩
  have hv0 : All2 (Rep ok (L.re ρ) w) bvs vs := (All2.iff (fun a b => rep_rn) _ _).1 ((All2.map_l _ _).1 hv)
  refine (h ok (L.re ρ) w vs hs0 hv0).mono ?_
  rintro e w' ⟨r0, σ0', ok', L0', hR, he, hs', hx⟩
  let inR : Nat → Prop := fun id => ∃ j, ρ j = id
  let L' : Loc := ⟨fun id => if h : inR id then L0'.blk h.choose else L.blk id, fun id => if h : inR id then L0'.cap h.choose else L.cap id, fun id => if h : inR id then L0'.sz h.choose else L.sz id, fun id => if h : inR id then L0'.ver h.choose else L.ver id⟩
  have hch : ∀ j (hh : inR (ρ j)), hh.choose = j := fun j hh => hρ _ _ hh.choose_spec
  have hre : L'.re ρ = L0' := by
    have hin : ∀ j, inR (ρ j) := fun j => ⟨j, rfl⟩
    simp only [Loc.re, L', hin, dite_true, hch]
  have hout : ∀ id, ¬ inR id → L'.blk id = L.blk id ∧ L'.cap id = L.cap id ∧ L'.sz id = L.sz id ∧ L'.ver id = L.ver id := fun id hid => by simp only [L', hid, dite_false, and_self]
  have hin : ∀ j, L'.blk (ρ j) = L0'.blk j ∧ L'.cap (ρ j) = L0'.cap j ∧ L'.sz (ρ j) = L0'.sz j ∧ L'.ver (ρ j) = L0'.ver j := fun j => by rw [← hre]; exact ⟨rfl, rfl, rfl, rfl⟩
  let q : Nat → Bool := fun id => decide (¬ inR id)
  let σ' : Store := σ0'.ren ρ ++ σ.keep q
  have g1 : ∀ j, σ'.get (ρ j) = (σ0'.get j).map fun p => (p.1, p.2.rn ρ) := fun j => by
    show Store.get (σ0'.ren ρ ++ σ.keep q) (ρ j) = _
    rw [Store.get_app, Store.get_ren hρ]
    cases σ0'.get j with
    | some p => rfl
    | none =>
      simp only [Option.map_none]
      rw [Store.get_keep, if_neg (by simp only [q, decide_eq_true_eq, not_not]; exact ⟨j, rfl⟩)]
  have g2 : ∀ id, (∀ j, ρ j ≠ id) → σ'.get id = σ.get id := fun id hid => by
    show Store.get (σ0'.ren ρ ++ σ.keep q) id = _
    rw [Store.get_app, Store.get_ren_none _ hid]
    simp only
    rw [Store.get_keep, if_pos (by simp only [q, decide_eq_true_eq]; rintro ⟨j, hj⟩; exact hid j hj)]
  have hfoot : ∀ b, Foot L' σ' b → Foot L0' σ0' b ∨ ∃ id ver o, (∀ j, ρ j ≠ id) ∧ σ.get id = some (ver, o) ∧ L.cap id ≠ 0 ∧ L.blk id = b := by
    rintro b ⟨id, ver, o, k1, k2, k3⟩
    by_cases hi : inR id
    · obtain ⟨j, rfl⟩ := hi
      rw [g1, Option.map_eq_some_iff] at k1
      obtain ⟨⟨v, oo⟩, k4, k5⟩ := k1
      obtain ⟨i1, i2, _, _⟩ := hin j
      exact .inl ⟨j, v, oo, k4, by rw [← i2]; exact k2, by rw [← i1]; exact k3⟩
    · obtain ⟨i1, i2, _, _⟩ := hout id hi
      have hi' : ∀ j, ρ j ≠ id := fun j hj => hi ⟨j, hj⟩
      rw [g2 id hi'] at k1
      exact .inr ⟨id, ver, o, hi', k1, by rw [← i2]; exact k2, by rw [← i1]; exact k3⟩
  have hne : ∀ b id ver o, (∀ j, ρ j ≠ id) → σ.get id = some (ver, o) → L.cap id ≠ 0 → L.blk id = b → ¬ Foot (L.re ρ) σ0 b := by
    rintro b id ver o hi k1 k2 k3 ⟨j, v, oo, k4, k5, k6⟩
    exact hi j (hs.inj _ _ _ _ _ _ (h0 _ _ _ k4) k1 k5 k2 (k6.trans k3.symm))
  have hev : Evo ok L σ w ok' L' σ' w' := by
    refine ⟨he.os, he.tape, he.output, he.size, fun b hb hf => he.same b hb (fun h => hf (hf0 b h)), fun b hb hf => ?_, he.okm, fun b hb hl => (he.okn b hb hl).imp id (hf0 b), fun id => ?_, fun id hid => ?_⟩
    · rcases hfoot b hf with h | ⟨id, ver, o, _, k1, k2, k3⟩
      · exact hf0 b (he.foot b hb h)
      · exact ⟨id, ver, o, k1, k2, k3⟩
    · by_cases hi : inR id
      · obtain ⟨j, rfl⟩ := hi
        rw [(hin j).2.2.2]; exact he.ver j
      · rw [(hout id hi).2.2.2]; exact Nat.le_refl _
    · by_cases hi : inR id
      · obtain ⟨j, rfl⟩ := hi
        obtain ⟨i1, i2, i3, i4⟩ := hin j
        rw [i4] at hid
        rw [i1, i2, i3]
        exact he.stay j hid
      · obtain ⟨i1, i2, i3, i4⟩ := hout id hi
        exact ⟨i1, i2, i3⟩
  refine ⟨r0.rn ρ, σ', ok', L', ⟨r0, σ0', hR, rfl, g1, g2⟩, hev, ⟨fun id ver o k1 => ?_, fun b hb => ?_, ?_, fun b hb => ?_, hs.globEvo hev⟩, ?_⟩
  · by_cases hi : inR id
    · obtain ⟨j, rfl⟩ := hi
      rw [g1, Option.map_eq_some_iff] at k1
      obtain ⟨⟨v, oo⟩, k4, k5⟩ := k1
      cases k5
      rw [objRep_rn, hre]
      exact hs'.objs j v oo k4
    · have hi' : ∀ j, ρ j ≠ id := fun j hj => hi ⟨j, hj⟩
      rw [g2 id hi'] at k1
      exact (hs.objs id ver o k1).evo hs hev (hout id hi).2.2.2 (fun hc => he.same _ (hs.lt _ ⟨id, ver, o, k1, hc, rfl⟩) (hne _ id ver o hi' k1 hc rfl))
  · rcases hfoot b hb with h | ⟨id, ver, o, _, k1, k2, k3⟩
    · exact hs'.lt b h
    · exact Nat.lt_of_lt_of_le (hs.lt b ⟨id, ver, o, k1, k2, k3⟩) he.size
  · have mixed : ∀ i j vi vj oi oj, σ'.get (ρ i) = some (vi, oi) → (∀ k, ρ k ≠ j) → σ.get j = some (vj, oj) → L'.cap (ρ i) ≠ 0 → L.cap j ≠ 0 → L'.blk (ρ i) ≠ L.blk j := by
      intro i j vi vj oi oj k1 hj k2 c1 c2 hb
      rw [g1, Option.map_eq_some_iff] at k1
      obtain ⟨⟨v, oo⟩, k4, k5⟩ := k1
      obtain ⟨i1, i2, _, _⟩ := hin i
      rw [i2] at c1
      rw [i1] at hb
      have hlt := hs.lt _ ⟨j, vj, oj, k2, c2, rfl⟩
      exact hne _ j vj oj hj k2 c2 rfl (he.foot _ hlt ⟨i, v, oo, k4, c1, hb⟩)
    intro i j vi vj oi oj k1 k2 c1 c2 hb
    by_cases hi : inR i
    · obtain ⟨i', rfl⟩ := hi
      by_cases hj : inR j
      · obtain ⟨j', rfl⟩ := hj
        rw [g1, Option.map_eq_some_iff] at k1 k2
        obtain ⟨⟨v, oo⟩, k4, k5⟩ := k1
        obtain ⟨⟨v', oo'⟩, k6, k7⟩ := k2
        obtain ⟨a1, a2, _, _⟩ := hin i'
        obtain ⟨b1, b2, _, _⟩ := hin j'
        rw [a2] at c1; rw [b2] at c2; rw [a1, b1] at hb
        rw [hs'.inj _ _ _ _ _ _ k4 k6 c1 c2 hb]
      · have hj' : ∀ k, ρ k ≠ j := fun k hk => hj ⟨k, hk⟩
        rw [g2 j hj'] at k2
        obtain ⟨a1, a2, _, _⟩ := hout j hj
        rw [a2] at c2; rw [a1] at hb
        exact absurd hb (mixed i' j vi vj oi oj k1 hj' k2 c1 c2)
    · have hi' : ∀ k, ρ k ≠ i := fun k hk => hi ⟨k, hk⟩
      rw [g2 i hi'] at k1
      obtain ⟨a1, a2, _, _⟩ := hout i hi
      rw [a2] at c1; rw [a1] at hb
      by_cases hj : inR j
      · obtain ⟨j', rfl⟩ := hj
        exact absurd hb.symm (mixed j' i vj vi oj oi k2 hi' k1 c2 c1)
      · have hj' : ∀ k, ρ k ≠ j := fun k hk => hj ⟨k, hk⟩
        rw [g2 j hj'] at k2
        obtain ⟨b1, b2, _, _⟩ := hout j hj
        rw [b2] at c2; rw [b1] at hb
        exact hs.inj i j vi vj oi oj k1 k2 c1 c2 hb
  · refine ⟨(hs'.okd b hb).1, fun hf => ?_⟩
    rcases hfoot b hf with h | ⟨id, ver, o, hi, k1, k2, k3⟩
    · exact (hs'.okd b hb).2 h
    · have hlt := hs.lt b ⟨id, ver, o, k1, k2, k3⟩
      rcases he.okn b hb hlt with h | h
      · exact (hs.okd b h).2 ⟨id, ver, o, k1, k2, k3⟩
      · exact hne b id ver o hi k1 k2 k3 h
  · cases r0 with
    | ret a =>
      cases e with
      | returned v => show Rep ok' L' w' (a.rn ρ) v; rw [rep_rn, hre]; exact hx
      | _ => exact hx.elim
    | pan a =>
      cases e with
      | panicked chain => obtain ⟨v, e1, e2⟩ := hx; exact ⟨v, e1, by rw [rep_rn, hre]; exact e2⟩
      | _ => exact hx.elim
def tab (t : List Nat) (j : Nat) : Nat := match t[j]? with | some i => i | none => j + 1000
def tabOK (t : List Nat) : Bool := t.all (fun i => decide (i < 1000)) && decide t.Nodup
theorem tab_inj {t : List Nat} (h : tabOK t = true) : ∀ i j, tab t i = tab t j → i = j := by
  simp only [tabOK, Bool.and_eq_true, List.all_eq_true, decide_eq_true_eq] at h
  obtain ⟨h1, h2⟩ := h
  intro i j e
  simp only [tab] at e
  cases hi : t[i]? with
  | some x =>
    rw [hi] at e
    obtain ⟨li, ei⟩ := List.getElem?_eq_some_iff.1 hi
    cases hj : t[j]? with
    | some y =>
      rw [hj] at e
      obtain ⟨lj, ej⟩ := List.getElem?_eq_some_iff.1 hj
      exact (List.getElem_inj h2).1 (ei.trans (e.trans ej.symm))
    | none =>
      rw [hj] at e
      have := h1 x (List.mem_of_getElem? hi)
      simp only at e
      omega
  | none =>
    rw [hi] at e
    cases hj : t[j]? with
    | some y =>
      rw [hj] at e
      have := h1 y (List.mem_of_getElem? hj)
      simp only at e
      omega
    | none => rw [hj] at e; simp only at e; omega
def Store.below (B : Nat) : Store → Bool
  | [] => true
  | (i, _) :: r => decide (i < B) && Store.below B r
theorem Store.get_below {B : Nat} {σ : Store} (h : σ.below B = true) {id : Nat} (hid : B ≤ id) : σ.get id = none := by
  induction σ with
  | nil => rfl
  | cons p r ih =>
    obtain ⟨i, x⟩ := p
    simp only [Store.below, Bool.and_eq_true, decide_eq_true_eq] at h
    simp only [Store.get]
    rw [nat_beq_false.2 (by omega)]
    exact ih h.2
def Store.match (ρ : Nat → Nat) (σ : Store) : Store → Prop
  | [] => True
  | (j, v, o) :: r => σ.get (ρ j) = some (v, o.rn ρ) ∧ Store.match ρ σ r
theorem Store.match_get {ρ : Nat → Nat} {σ : Store} : ∀ {σ0 : Store}, Store.match ρ σ σ0 → ∀ j ver o, σ0.get j = some (ver, o) → σ.get (ρ j) = some (ver, o.rn ρ)
  | [], _, j, ver, o, h => by cases h
  | (i, v, o') :: r, ⟨h1, h2⟩, j, ver, o, h => by
    simp only [Store.get] at h
    by_cases e : i = j
    · subst e; rw [nat_beq_true.2 rfl] at h; cases h; exact h1
    · rw [nat_beq_false.2 e] at h; exact Store.match_get h2 j ver o h
def Store.free (t : List Nat) (σ0 σ : Store) : Bool := (List.range t.length).all fun j => (σ0.get j).isSome || (σ.get (tab t j)).isNone
def Store.putAll (ρ : Nat → Nat) : Store → Store → Store
  | [], σ => σ
  | (i, v, o) :: r, σ => (Store.putAll ρ r σ).put (ρ i) v (o.rn ρ)
theorem Store.get_putAll {ρ : Nat → Nat} (hρ : ∀ i j, ρ i = ρ j → i = j) (σ0 σ : Store) (j : Nat) : (Store.putAll ρ σ0 σ).get (ρ j) = match σ0.get j with | some p => some (p.1, p.2.rn ρ) | none => σ.get (ρ j) := by
  induction σ0 with
  | nil => rfl
  | cons p r ih =>
    obtain ⟨i, v, o⟩ := p
    simp only [Store.putAll, Store.get]
    rw [Store.get_put]
    by_cases e : i = j
    · subst e; rw [if_pos rfl, nat_beq_true.2 rfl]
    · rw [if_neg (fun h => e (hρ _ _ h)), nat_beq_false.2 e]; exact ih
theorem Store.get_putAll_out {ρ : Nat → Nat} (σ0 σ : Store) {id : Nat} (h : ∀ j, ρ j ≠ id) : (Store.putAll ρ σ0 σ).get id = σ.get id := by
  induction σ0 with
  | nil => rfl
  | cons p r ih =>
    obtain ⟨i, v, o⟩ := p
    simp only [Store.putAll]
    rw [Store.get_put, if_neg (h i)]; exact ih
def Store.hasAll (σ0 σ0' : Store) : Prop := ∀ j, σ0'.get j = none → σ0.get j = none
theorem ac_at {f : FuncId} {bvs : List AVal} {σ0 σ : Store} {R : AEnd → Store → Prop} (t : List Nat) (ht : tabOK t = true) (h : AC P f bvs σ0 R) (hm : Store.match (tab t) σ σ0) (hf : Store.free t σ0 σ = true) (hb : σ.below 1000 = true)
    (hR : ∀ r σ', R r σ' → Store.hasAll σ0 σ') :
    AC P f (bvs.map (AVal.rn (tab t))) σ (fun r σ' => ∃ r0 σ0', R r0 σ0' ∧ r = r0.rn (tab t) ∧ σ' = Store.putAll (tab t) σ0' σ) := by
  have hρ := tab_inj ht
  have h1 : ∀ j, σ0.get j = none → σ.get (tab t j) = none := by
    intro j hj
    by_cases hl : j < t.length
    · have := List.all_eq_true.1 hf j (List.mem_range.2 hl)
      rw [hj] at this
      simpa using this
    · have e : tab t j = j + 1000 := by simp only [tab]; rw [List.getElem?_eq_none (by omega)]
      rw [e]
      exact Store.get_below hb (by omega)
  intro ok L w vs hs hv
  refine (ac_ren (tab t) hρ h (Store.match_get hm) h1 ok L w vs hs hv).mono ?_
  rintro e w' ⟨r, σ', ok', L', ⟨r0, σ0', hr, rfl, g1, g2⟩, he, hs', hx⟩
  have hg : ∀ id, σ'.get id = (Store.putAll (tab t) σ0' σ).get id := by
    intro id
    by_cases hi : ∃ j, tab t j = id
    · obtain ⟨j, rfl⟩ := hi
      rw [g1, Store.get_putAll hρ]
      cases hj : σ0'.get j with
      | some p => rfl
      | none => rw [h1 j (hR _ _ hr j hj)]; rfl
    · have hi' : ∀ j, tab t j ≠ id := fun j hj => hi ⟨j, hj⟩
      rw [g2 id hi', Store.get_putAll_out _ _ hi']
  exact ⟨_, _, ok', L', ⟨r0, σ0', hr, rfl, rfl⟩, he.congr hg, hs'.congr hg, hx⟩
theorem load_core {P : Program} {σ : Store} {t : TypeId} {td : TypeDesc} {inf : TypeInfo} {id ver i j sz : Nat} {els : List (List AVal)} {el : List AVal} {a : AVal} (ht : P.underlying t = some td) (hi : P.info? t = some inf) (hid : σ.get id = some (ver, .row sz els)) (hel : els[i]? = some el)
    (ha : asOne (TypeDesc.isAggB td) inf.size (el.drop j) = some a) {ok : Nat → Prop} {L : Loc} {w : World} (hs : Sim ok L σ w) {p : Value} (h : RepL ok L w (.ptr id ver i j) p) :
    ∃ ad, p = .pointer (some ad) ∧ ∃ v, (loadVar t ad).run P w = .ok v w ∧ Rep ok L w a v := by
  have h1 := h.2 (hs.ver hid)
  subst h1
  refine ⟨⟨L.blk id, i * L.sz id + j, none⟩, rfl, ?_⟩
  obtain ⟨e1, e2, e3, e4, conc, et, g1, g2, g3⟩ := hs.row hid hel
  have hcell : ∀ k v, conc[i * sz + (j + k)]? = some v → w.cell? ⟨L.blk id, i * sz + j + k, none⟩ = some v := by
    intro k v hv
    simp [World.cell?, g1, Nat.add_assoc, hv]
  cases hb : TypeDesc.isAggB td with
  | false =>
    rw [hb] at ha
    have h0 : el[j]? = some a := by simpa [asOne, List.head?_eq_getElem?] using ha
    obtain ⟨v, k1, k2, _⟩ := g3 i el j a hel h0
    refine ⟨v, ?_, k2.rep k2.leaf⟩
    have hc : w.cell? ⟨L.blk id, i * L.sz id + j, none⟩ = some v := by rw [e1]; exact hcell 0 v (by simpa using k1)
    exact run_loadVar_one ht hb hc
  | true =>
    rw [hb] at ha
    simp only [asOne] at ha
    split at ha
    · rename_i hk
      cases ha
      have hg : ∀ k av, ((el.drop j).take inf.size)[k]? = some av → ∃ v, conc[i * sz + (j + k)]? = some v ∧ RepL ok L w av v ∧ v.oneCell' = true := fun k av hj => by
        rw [List.getElem?_take] at hj
        split at hj
        · rw [List.getElem?_drop] at hj
          exact g3 i el _ av hel hj
        · cases hj
      let vs : Nat → Value := fun k => (conc[i * sz + (j + k)]?).getD undef
      refine ⟨.agg ((List.range ((el.drop j).take inf.size).length).map vs).toArray, ?_, _, rfl, All2.fill _ vs (fun k av hj => ?_)⟩
      · have hc : ∀ k v, ((List.range ((el.drop j).take inf.size).length).map vs)[k]? = some v → w.cell? ((⟨L.blk id, i * L.sz id + j, none⟩ : Addr).add k) = some v := by
          intro k v hj
          rw [List.getElem?_map] at hj
          rcases Nat.lt_or_ge k ((el.drop j).take inf.size).length with h | h
          · rw [List.getElem?_range h] at hj
            simp only [Option.map_some, Option.some.injEq] at hj
            obtain ⟨u, u1, _⟩ := hg k _ (List.getElem?_eq_getElem h)
            have : v = u := by rw [← hj]; show (conc[i * sz + (j + k)]?).getD undef = u; rw [u1]; rfl
            subst this
            rw [addr_add0, e1]
            exact hcell k v u1
          · rw [List.getElem?_eq_none (by simpa using h)] at hj
            cases hj
        have := run_loadVar_agg (w := w) (a := ⟨L.blk id, i * L.sz id + j, none⟩) (vs := (List.range ((el.drop j).take inf.size).length).map vs) ht hb hi (by simp at hk ⊢; omega) hc
        exact this
      · obtain ⟨u, u1, u2, _⟩ := hg k av hj
        have : vs k = u := by show (conc[i * sz + (j + k)]?).getD undef = u; rw [u1]; rfl
        rw [this]; exact u2
    · cases ha
theorem res_cell {fn : Func} {t ty : Nat} {td : TypeDesc} {inf : TypeInfo} {id ver sz : Nat} {els : List (List AVal)} {el : List AVal} {a : AVal} {env : Env} {σ : Store} (h : fn.results = #[.cell t ty]) (hu : P.underlying ty = some td) (hi : P.info? ty = some inf) (ht : env.get t = some (.ptr id ver 0 0)) (hid : σ.get id = some (ver, .row sz els)) (hel : els[0]? = some el)
    (ha : asOne (TypeDesc.isAggB td) inf.size (el.drop 0) = some a) : ResOK P fn env σ a := by
  intro ok L w tmps hs hr
  obtain ⟨p, p1, p2⟩ := hr t _ ht
  obtain ⟨ad, rfl, v, hv, hrep⟩ := load_core hu hi hid hel ha hs (show RepL ok L w (.ptr id ver 0 0) p from p2)
  refine ⟨v, ?_, hrep⟩
  simp [results, h, p1, asAddr, hv]
theorem res_cell_tmp {fn : Func} {t ty u : Nat} {td : TypeDesc} {inf : TypeInfo} {id ver sz : Nat} {els : List (List AVal)} {el : List AVal} {a b : AVal} {env : Env} {σ : Store} (h : fn.results = #[.cell t ty, .tmp u]) (hu : P.underlying ty = some td) (hi : P.info? ty = some inf) (ht : env.get t = some (.ptr id ver 0 0)) (hid : σ.get id = some (ver, .row sz els)) (hel : els[0]? = some el)
    (ha : asOne (TypeDesc.isAggB td) inf.size (el.drop 0) = some a) (hb : env.get u = some b) (hfa : a.flat = true) (hfb : b.flat = true) : ResOK P fn env σ (.tuple [a, b]) := by
  intro ok L w tmps hs hr
  obtain ⟨p, p1, p2⟩ := hr t _ ht
  obtain ⟨q, q1, q2⟩ := hr u _ hb
  obtain ⟨ad, rfl, v, hv, hrep⟩ := load_core hu hi hid hel ha hs (show RepL ok L w (.ptr id ver 0 0) p from p2)
  refine ⟨.tuple #[v, q], ?_, [v, q], rfl, repA_of hrep hfa, repA_of q2 hfb, trivial⟩
  simp [results, h, p1, q1, asAddr, hv]
end Go.Proofs.YtcgdlhkiecommaaGreatDoor
/- The engine, part 17: lists grown inside an object; pointers held against nil. -/

namespace Go.Proofs.YtcgdlhkiecommaaGreatDoor
open Go
section
variable {P : Program} {n : Nat} {Q : APost} {env : Env} {σ σ' : Store} {ops : Array Oper} {rest : List Oper}
variable {E : Operand → Option AVal} {d : Option Tmp} {ty : TypeId} {pos : String} {after : Array Edge} {guard : Option (Nat × Bool)}
theorem own_in_core {ok : Nat → Prop} {L : Loc} {w : World} {act : Act} (hs : Sim ok L σ w) (hr : RepEnv ok L w env act.tmps) (m g esz k : Nat) {vm sz : Nat} {cells : List AVal} {a : AVal} (hg : g ≠ m) (hid : σ.get m = some (vm, .row sz [cells])) (hk : cells[k]? = some a) (hn : a.nilB = true) :
    ∃ vg L', Evo ok L σ w ok L' ((σ.put g vg (.row esz [])).put m vm (.row sz [cells.set k (.slice g vg 0 0)])) w ∧ Sim ok L' ((σ.put g vg (.row esz [])).put m vm (.row sz [cells.set k (.slice g vg 0 0)])) w ∧ RepEnv ok L' w env act.tmps := by
  obtain ⟨he, hs'⟩ := sim_upd (w' := w) hs g w.heap.size 0 esz (L.ver g + 1) (.row esz []) (by omega) rfl rfl rfl (Nat.le_refl _) (fun _ _ _ => rfl) (.inl (Nat.le_refl _)) (fun h => absurd rfl h)
    (fun _ => ⟨by simp [Loc.upd], by simp [Loc.upd], by simp, by simp, fun h => by simp [Loc.upd] at h⟩)
  have hid' : (σ.put g (L.ver g + 1) (.row esz [])).get m = some (vm, .row sz [cells]) := by rw [Store.get_put, if_neg hg]; exact hid
  obtain ⟨o1, o2, o3, o4, o5⟩ := hs'.objs _ _ _ hid'
  have hcap : (L.upd g w.heap.size 0 esz (L.ver g + 1)).cap m ≠ 0 := by simp at o4; omega
  obtain ⟨he2, hs2⟩ := sim_set (w' := w) hs' m vm _ (.row sz [cells.set k (.slice g (L.ver g + 1) 0 0)]) hid' hcap rfl rfl rfl rfl (fun _ _ => rfl) (fun _ => by
    refine ⟨o1, o2, ?_, by simpa using o4, fun hc => ?_⟩
    · intro e hm
      simp only [List.mem_singleton] at hm
      subst hm
      rw [List.length_set]; exact o3 _ (by simp)
    · obtain ⟨conc, et, c1, c2, c3⟩ := o5 hc
      refine ⟨conc, et, c1, c2, fun i el j av h1 h2 => ?_⟩
      cases i with
      | succ i => simp at h1
      | zero =>
        simp at h1
        subst h1
        rw [List.getElem?_set] at h2
        by_cases e : k = j
        · subst e
          rw [if_pos rfl] at h2
          split at h2
          · cases h2
            obtain ⟨v, v1, v2, v3⟩ := c3 0 cells k a rfl hk
            refine ⟨v, v1, ?_, v3⟩
            obtain ⟨b, rfl⟩ := rep_nil hn (v2.rep v2.leaf)
            exact ⟨by simp [Loc.upd], fun _ => ⟨b, 0, rfl, Nat.le_refl _, by simp [Loc.upd], fun h => by simp [Loc.upd] at h⟩⟩
          · cases h2
        · rw [if_neg e] at h2
          exact c3 0 cells j av rfl h2)
  exact ⟨_, _, he.trans he2, hs2, (hr.evo hs he).evo hs' he2⟩
theorem aw_own_in {α : Type} {c : Code} (f : α → List AVal) (m g esz k : Nat) {vm sz : Nat} {cells : List AVal} {a : AVal} (hg : g ≠ m) (hid : σ.get m = some (vm, .row sz [cells])) (hk : cells[k]? = some a) (hn : a.nilB = true)
    (h : ∀ vg, AW P n c Q env ((σ.put g vg (.row esz (([] : List α).map f))).put m vm (.row sz [cells.set k (.slice g vg 0 ([] : List α).length)]))) : AW P n c Q env σ := fun ok L w act h1 h2 h3 h4 => by
  obtain ⟨vg, L', he, hs', hr'⟩ := own_in_core h1 h2 m g esz k hg hid hk hn
  exact wp_mono (h vg ok L' w act hs' hr' h3 h4) fun _ _ _ hp => hp.after he
end
theorem ac_ro {P : Program} {f : FuncId} {bvs : List AVal} {σ0 σ : Store} {a : AVal} (t : List Nat) (ht : tabOK t = true) (h : AC P f bvs σ0 (fun r σ' => r = .ret a ∧ σ' = σ0)) (hm : Store.match (tab t) σ σ0) (hf : Store.free t σ0 σ = true) (hb : σ.below 1000 = true) :
    AC P f (bvs.map (AVal.rn (tab t))) σ (fun r σ' => r = .ret (a.rn (tab t)) ∧ σ' = σ) := by
  have hρ := tab_inj ht
  have h1 : ∀ j, σ0.get j = none → σ.get (tab t j) = none := by
    intro j hj
    by_cases hl : j < t.length
    · have := List.all_eq_true.1 hf j (List.mem_range.2 hl)
      rw [hj] at this
      simpa using this
    · have e : tab t j = j + 1000 := by simp only [tab]; rw [List.getElem?_eq_none (by omega)]
      rw [e]
      exact Store.get_below hb (by omega)
  intro ok L w vs hs hv
  refine (ac_ren (tab t) hρ h (Store.match_get hm) h1 ok L w vs hs hv).mono ?_
  rintro e w' ⟨r, σ', ok', L', ⟨r0, σ0', ⟨rfl, rfl⟩, rfl, g1, g2⟩, he, hs', hx⟩
  have hg : ∀ id, σ'.get id = σ.get id := by
    intro id
    by_cases hi : ∃ j, tab t j = id
    · obtain ⟨j, rfl⟩ := hi
      rw [g1]
      cases hj : σ0'.get j with
      | some p => obtain ⟨v, o⟩ := p; rw [Store.match_get hm j v o hj]; rfl
      | none => rw [h1 j hj]; rfl
    · exact g2 id (fun j hj => hi ⟨j, hj⟩)
  exact ⟨_, _, ok', L', ⟨rfl, rfl⟩, he.congr hg, hs'.congr hg, hx⟩
theorem all_live_nil {σ : Store} : ([] : List AVal).all (AVal.live σ) = true := rfl
theorem all_live_clo {σ : Store} {a : AVal} {l : List AVal} (h : a.clo1 = true) (hs : l.all (AVal.live σ) = true) : (a :: l).all (AVal.live σ) = true := by
  rw [List.all_cons, hs, Bool.and_true]
  cases a <;> first | rfl | simp [AVal.clo1] at h
theorem all_live_slice {σ : Store} {id ver off m : Nat} {o : AObj} {l : List AVal} (h : σ.get id = some (ver, o)) (hs : l.all (AVal.live σ) = true) : (AVal.slice id ver off m :: l).all (AVal.live σ) = true := by
  rw [List.all_cons, hs, Bool.and_true]; simp [AVal.live, h]
theorem all_live_ptr {σ : Store} {id ver i j : Nat} {o : AObj} {l : List AVal} (h : σ.get id = some (ver, o)) (hs : l.all (AVal.live σ) = true) : (AVal.ptr id ver i j :: l).all (AVal.live σ) = true := by
  rw [List.all_cons, hs, Bool.and_true]; simp [AVal.live, h]
theorem ac_keep {P : Program} {f : FuncId} {avs : List AVal} {σ : Store} {R : AEnd → Store → Prop} (q : Nat → Bool) (h : AC P f avs σ R) : AC P f avs σ (fun r σ' => ∃ σ1, R r σ1 ∧ σ' = σ1.keep q) := by
  intro ok L w vs hs hv
  refine (h ok L w vs hs hv).mono ?_
  rintro e w' ⟨r, σ1, ok', L', hR, he, hs', hx⟩
  obtain ⟨ok2, L2, he2, hs2, _, _⟩ := freeze_core hs' q
  refine ⟨r, _, ok2, L2, ⟨σ1, hR, rfl⟩, he.trans he2, hs2, ?_⟩
  cases r with
  | ret a =>
    cases e with
    | returned v => exact Rep.evo (show Rep ok' L' w' a v from hx) hs' he2
    | _ => exact hx.elim
  | pan a =>
    cases e with
    | panicked chain => obtain ⟨v, e1, e2⟩ := hx; exact ⟨v, e1, e2.evo hs' he2⟩
    | _ => exact hx.elim
end Go.Proofs.YtcgdlhkiecommaaGreatDoor
/- The engine, part 18: regions that draw their order, with operations that write: quiet operations float, the others come in a row. -/

namespace Go.Proofs.YtcgdlhkiecommaaGreatDoor
open Go
section
variable {P : Program} {n : Nat} {Q : APost} {env : Env} {σ : Store}
end
def ancB (tab : List Nat) (es : List Edge) : Nat := es.foldr (fun e acc => if Region.binds .any e then acc ||| ((1 <<< e.on) ||| tab.getD e.on 0) else acc) 0
def ancTab : List Oper → List Nat → List Nat
  | [], tab => tab
  | o :: r, tab => ancTab r (tab ++ [ancB tab o.after.toList])
theorem ancB_spec {ops : Array Oper} {tab : List Nat} {j : Nat} {o : Oper} (ho : ops[j]? = some o) (ht : ∀ k i, (tab.getD k 0).testBit i = true → Before ops i k) : ∀ (es : List Edge), (∀ e ∈ es, e ∈ o.after) → ∀ i, (ancB tab es).testBit i = true → Before ops i j
  | [], _, i, h => by simp [ancB] at h
  | e :: es, hs, i, h => by
    have ih := ancB_spec ho ht es (fun x hx => hs x (by simp [hx])) i
    simp only [ancB, List.foldr_cons] at h
    change (if Region.binds .any e = true then ancB tab es ||| (1 <<< e.on ||| tab.getD e.on 0) else ancB tab es).testBit i = true at h
    split at h
    · rename_i hb
      rw [Nat.testBit_or, Nat.testBit_or, Bool.or_eq_true, Bool.or_eq_true] at h
      have he := hs e (by simp)
      rcases h with h | h | h
      · exact ih h
      · have e1 : i = e.on := by
          rw [Nat.one_shiftLeft, Nat.testBit_two_pow] at h
          simpa using (of_decide_eq_true h).symm
        exact .edge i j o e ho he hb e1.symm
      · exact .trans i e.on j (ht _ _ h) (.edge e.on j o e ho he hb rfl)
    · exact ih h
theorem ancTab_spec {ops : Array Oper} : ∀ (l : List Oper) (tab : List Nat), (∀ k, l[k]? = ops[tab.length + k]?) → (∀ k i, (tab.getD k 0).testBit i = true → Before ops i k) → ∀ k i, ((ancTab l tab).getD k 0).testBit i = true → Before ops i k
  | [], tab, _, ht, k, i, h => ht k i h
  | o :: l, tab, hl, ht, k, i, h => by
    have ho : ops[tab.length]? = some o := by have := hl 0; simpa using this.symm
    refine ancTab_spec l (tab ++ [ancB tab o.after.toList]) (fun k => ?_) (fun k i h => ?_) k i h
    · have := hl (k + 1)
      simp only [List.getElem?_cons_succ] at this
      rw [this, List.length_append, List.length_singleton]
      congr 1; omega
    · rw [List.getD_eq_getElem?_getD] at h
      by_cases hk : k < tab.length
      · rw [List.getElem?_append_left hk, ← List.getD_eq_getElem?_getD] at h
        exact ht k i h
      · rw [List.getElem?_append_right (by omega)] at h
        by_cases e : k = tab.length
        · subst e
          simp only [Nat.sub_self, List.getElem?_cons_zero, Option.getD_some] at h
          exact ancB_spec ho ht _ (fun e he => by simpa using he) i h
        · obtain ⟨m, hm⟩ : ∃ m, k - tab.length = m + 1 := ⟨k - tab.length - 1, by omega⟩
          rw [hm] at h
          simp at h
def bef (ops : Array Oper) (i j : Nat) : Bool := ((ancTab ops.toList []).getD j 0).testBit i
theorem bef_before {ops : Array Oper} {i j : Nat} (h : bef ops i j = true) : Before ops i j :=
  ancTab_spec ops.toList [] (fun k => by simp) (fun k i h => by simp at h) j i h
def pairOK (ops : Array Oper) (i j : Nat) : Bool := i != j && match ops[i]?, ops[j]? with
  | some oi, some oj => (match oi.dst with | some d => (!(looks ops oj).contains d || bef ops i j) && oj.dst != some d | none => true) && (match oj.dst with | some d => !(looks ops oi).contains d || bef ops i j | none => true)
  | _, _ => false
structure PR (ops : Array Oper) (i j : Nat) : Prop where
  ne : i ≠ j
  data : ∀ oi oj d, ops[i]? = some oi → ops[j]? = some oj → oi.dst = some d → d ∈ looks ops oj → Before ops i j
  dst : ∀ oi oj d, ops[i]? = some oi → ops[j]? = some oj → oi.dst = some d → oj.dst ≠ some d
  anti : ∀ oi oj d, ops[i]? = some oi → ops[j]? = some oj → oj.dst = some d → d ∈ looks ops oi → Before ops i j
theorem pairOK_pr {ops : Array Oper} {i j : Nat} (h : pairOK ops i j = true) : PR ops i j := by
  unfold pairOK at h
  rw [Bool.and_eq_true, bne_iff_ne] at h
  obtain ⟨hne, h⟩ := h
  refine ⟨hne, fun oi oj d h1 h2 h3 h4 => ?_, fun oi oj d h1 h2 h3 => ?_, fun oi oj d h1 h2 h3 h4 => ?_⟩
  · simp only [h1, h2, h3, Bool.and_eq_true, Bool.or_eq_true] at h
    rcases h.1.1 with g | g
    · simp [h4] at g
    · exact bef_before g
  · simp only [h1, h2, h3, Bool.and_eq_true] at h
    simpa using h.1.2
  · simp only [h1, h2, h3, Bool.and_eq_true, Bool.or_eq_true] at h
    rcases h.2 with g | g
    · simp [h4] at g
    · exact bef_before g
def pairsOK (ops : Array Oper) : List Nat → Bool
  | [] => true
  | i :: r => r.all (pairOK ops i) && pairsOK ops r
theorem pairsOK_pw {ops : Array Oper} : ∀ {l : List Nat}, pairsOK ops l = true → l.Pairwise (PR ops)
  | [], _ => .nil
  | i :: r, h => by
    rw [pairsOK, Bool.and_eq_true, List.all_eq_true] at h
    exact .cons (fun j hj => pairOK_pr (h.1 j hj)) (pairsOK_pw h.2)
def lowOK (ops : Array Oper) : Bool := (List.range ops.size).all fun j => match ops[j]? with | some o => o.after.toList.all (fun e => !Region.binds .any e || decide (e.on < j)) | none => true
def planOK (ops : Array Oper) (π : List Nat) : Bool := (lowOK ops && (List.range ops.size).all (fun k => π.contains k)) && pairsOK ops π
def effOK (ops : Array Oper) (e : Nat) (rem : List Nat) : Bool := rem.all (bef ops e)
structure Stp where
  i : Nat
  a : AVal
  env : Env
  f : Bool
def dstOf (ops : Array Oper) (i : Nat) : Option Tmp := (ops[i]?).bind (·.dst)
def Coh (ops : Array Oper) (env0 : Env) : List Stp → Env → Prop
  | [], env => env = env0
  | s :: r, env => env = s.env.putd (dstOf ops s.i) s.a ∧ Coh ops env0 r s.env
theorem coh_get {ops : Array Oper} {env0 : Env} {t : Nat} {b : AVal} : ∀ {l : List Stp} {env : Env}, Coh ops env0 l env → env.get t = some b → (∃ m ∈ l, dstOf ops m.i = some t ∧ m.a = b) ∨ (env0.get t = some b ∧ ∀ m ∈ l, dstOf ops m.i ≠ some t)
  | [], env, h, hg => by cases h; exact .inr ⟨hg, by simp⟩
  | s :: r, env, h, hg => by
    obtain ⟨rfl, h2⟩ := h
    rw [putd_get] at hg
    split at hg
    · rename_i e
      cases hg
      exact .inl ⟨s, by simp, e, rfl⟩
    · rename_i e
      rcases coh_get h2 hg with ⟨m, h3, h4⟩ | ⟨h3, h4⟩
      · exact .inl ⟨m, by simp [h3], h4⟩
      · refine .inr ⟨h3, fun m hm => ?_⟩
        rcases List.mem_cons.1 hm with rfl | hm
        · exact e
        · exact h4 m hm
theorem coh_split {ops : Array Oper} {env0 : Env} : ∀ {l1 : List Stp} {s : Stp} {l2 : List Stp} {env : Env}, Coh ops env0 (l1 ++ s :: l2) env → Coh ops env0 l2 s.env
  | [], s, l2, env, h => h.2
  | x :: l1, s, l2, env, h => coh_split (l1 := l1) h.2
section
variable {P : Program} {n : Nat} {Q : APost} {env env0 : Env} {σ σ' : Store} {ops : Array Oper} {steps : List Stp} {rem : List Nat}
def Good (P : Program) (ops : Array Oper) (σ : Store) (steps : List Stp) : Prop := ∀ s ∈ steps, s.f = false → ∃ o, ops[s.i]? = some o ∧ o.guard = none ∧ (∀ d, o.dst = some d → d < n) ∧ OpK P o (aval s.env) σ s.a
structure Inv (n : Nat) (ops : Array Oper) (env0 : Env) (σ : Store) (steps : List Stp) (listed : Array Bool) (ok : Nat → Prop) (L : Loc) (w : World) (act : Act) : Prop where
  sz : listed.size = ops.size
  cl : Closed ops listed
  sub : ∀ i, i < ops.size → listed.getD i true = true → ∃ s ∈ steps, s.i = i
  fx : ∀ s ∈ steps, s.f = true → listed.getD s.i true = true
  sim : Sim ok L σ w
  df : act.defers = []
  hn : act.tmps.size = n
  vals : ∀ s ∈ steps, ∀ d, dstOf ops s.i = some d → listed.getD s.i true = true → ∃ v, act.tmps[d]? = some v ∧ Rep ok L w s.a v
  base : ∀ t a, env0.get t = some a → (∀ s ∈ steps, dstOf ops s.i = some t → listed.getD s.i true = false) → ∃ v, act.tmps[t]? = some v ∧ Rep ok L w a v
theorem ready_none {listed : Array Bool} (hlow : lowOK ops = true) (hsz : listed.size = ops.size) (hr : Region.ready .any ops listed = []) : ∀ i, i < ops.size → listed.getD i true = true := by
  have low : ∀ (j : Nat) (o : Oper), ops[j]? = some o → ∀ e ∈ o.after, Region.binds .any e = true → e.on < j := by
    intro j o ho e he hb
    have h := List.all_eq_true.1 hlow j (List.mem_range.2 (Array.getElem?_eq_some_iff.1 ho).1)
    rw [ho] at h
    simp only [List.all_eq_true] at h
    have := h e (by simpa using he)
    simpa [hb] using this
  intro i
  induction i using Nat.strongRecOn with
  | ind i ih =>
    intro hi
    cases hf : listed.getD i true with
    | true => rfl
    | false =>
      have : i ∈ Region.ready .any ops listed := mem_ready.2 ⟨hf, ops[i], Array.getElem?_eq_getElem hi, fun e hem hb => by
        have h1 := low i _ (Array.getElem?_eq_getElem hi) e hem hb
        exact getD_false_of_true (by omega) (ih _ h1 (by omega))⟩
      rw [hr] at this
      cases this
theorem getD_set_true (listed : Array Bool) (j i : Nat) (hj : j < listed.size) : (listed.setIfInBounds j true).getD i true = if j = i then true else listed.getD i true := by
  rw [getD_set]
  by_cases h : j = i
  · rw [if_pos ⟨h, by omega⟩, if_pos h]
  · rw [if_neg (fun hh => h hh.1), if_neg h]
theorem steps_pair {R : Stp → Stp → Prop} {l1 l2 : List Stp} {s : Stp} (h : (l1 ++ s :: l2).Pairwise R) : (∀ m ∈ l2, R s m) ∧ (∀ m ∈ l1, R m s) := by
  rw [List.pairwise_append] at h
  obtain ⟨_, h2, h3⟩ := h
  rw [List.pairwise_cons] at h2
  exact ⟨h2.1, fun m hm => h3 m hm s (by simp)⟩
theorem inv_known {listed : Array Bool} {ok : Nat → Prop} {L : Loc} {w : World} {act : Act} (hI : Inv n ops env0 σ steps listed ok L w act) {l1 l2 : List Stp} {e : Env} {j : Nat} {o : Oper} (hs : ∀ m, m ∈ steps → m ∈ l1 ∨ m.i = j ∨ m ∈ l2) (hl1 : ∀ m ∈ l1, m ∈ steps ∧ PR ops j m.i) (hl2 : ∀ m ∈ l2, m ∈ steps ∧ PR ops m.i j) (hc : Coh ops env0 l2 e) (hj : j ∈ Region.ready .any ops listed) (ho : ops[j]? = some o) :
    ∀ t ∈ looks ops o, ∀ b, e.get t = some b → ∃ v, act.tmps[t]? = some v ∧ Rep ok L w b v := by
  intro t ht b hb
  obtain ⟨hjs, hjf, _⟩ := ready_deps hj
  rcases coh_get hc hb with ⟨m, h1, h2, rfl⟩ | ⟨h1, h2⟩
  · obtain ⟨hm1, hm2⟩ := hl2 m h1
    cases hom : ops[m.i]? with
    | none => rw [dstOf, hom] at h2; cases h2
    | some om =>
      have h3 : om.dst = some t := by rw [dstOf, hom] at h2; exact h2
      exact hI.vals m hm1 t h2 (getD_true_of_false (closed_before hI.cl hj (hm2.data om o t hom ho h3 ht)))
  · refine hI.base t b h1 (fun m hm hd => ?_)
    rcases hs m hm with h | h | h
    · obtain ⟨hm1, hm2⟩ := hl1 m h
      cases hom : ops[m.i]? with
      | none => rw [dstOf, hom] at hd; cases hd
      | some om =>
        have h3 : om.dst = some t := by rw [dstOf, hom] at hd; exact hd
        have hbf := hm2.anti o om t ho hom h3 ht
        cases hh : listed.getD m.i true with
        | false => rfl
        | true =>
          have hms : m.i < ops.size := (Array.getElem?_eq_some_iff.1 hom).1
          have := hI.cl _ _ hbf (getD_false_of_true (by rw [hI.sz]; exact hms) hh)
          rw [getD_true_of_false this] at hjf
          cases hjf
    · rw [h]; exact hjf
    · exact absurd hd (h2 m h)
theorem inv_next {listed : Array Bool} {ok ok' : Nat → Prop} {L L' : Loc} {w w' : World} {act : Act} (hI : Inv n ops env0 σ steps listed ok L w act) {steps' : List Stp} {j : Nat} {o : Oper} {a : AVal} {v : Value} (hj : j ∈ Region.ready .any ops listed) (ho : ops[j]? = some o)
    (h1 : ∀ m ∈ steps', (∃ m' ∈ steps, m'.i = m.i ∧ m'.a = m.a) ∨ (m.i = j ∧ m.a = a)) (h2 : ∀ m ∈ steps', m.i = j → m.a = a) (h3 : ∀ m ∈ steps, ∃ m' ∈ steps', m'.i = m.i) (h4 : ∃ m ∈ steps', m.i = j)
    (h5 : ∀ m ∈ steps', m.f = true → m.i = j ∨ listed.getD m.i true = true) (hdst : ∀ m ∈ steps', m.i ≠ j → ∀ d, dstOf ops m.i = some d → o.dst ≠ some d) (hd : ∀ d, o.dst = some d → d < n)
    (he : Evo ok L σ w ok' L' σ' w') (hs' : Sim ok' L' σ' w') (hv : Rep ok' L' w' a v) : Inv n ops env0 σ' steps' (listed.setIfInBounds j true) ok' L' w' (act.put o.dst v) := by
  obtain ⟨hjs, hjf, _⟩ := ready_deps hj
  have hset : ∀ i, (listed.setIfInBounds j true).getD i true = if j = i then true else listed.getD i true := fun i => getD_set_true listed j i (by rw [hI.sz]; exact hjs)
  refine ⟨by simpa using hI.sz, closed_set hI.cl hj hI.sz, fun i hi hl => ?_, fun m hm hf => ?_, hs', by rw [put_defers]; exact hI.df, by rw [put_size]; exact hI.hn, fun m hm d hmd hl => ?_, fun t b hb hno => ?_⟩
  · rw [hset] at hl
    split at hl
    · rename_i e; subst e; exact h4
    · obtain ⟨m, hm, rfl⟩ := hI.sub i hi hl
      exact h3 m hm
  · rw [hset]
    split
    · rfl
    · rename_i e
      rcases h5 m hm hf with h | h
      · exact absurd h.symm e
      · exact h
  · by_cases e : m.i = j
    · have ha := h2 m hm e
      rw [e, dstOf, ho] at hmd
      change o.dst = some d at hmd
      rw [ha]
      refine ⟨v, ?_, hv⟩
      rw [hmd]
      simp only [Act.put]
      rw [Array.getElem?_setIfInBounds_self, if_pos (hI.hn.symm ▸ hd d hmd)]
    · rw [hset, if_neg (fun h => e h.symm)] at hl
      rcases h1 m hm with ⟨m', hm', g1, g2⟩ | ⟨g1, _⟩
      · obtain ⟨u, u1, u2⟩ := hI.vals m' hm' d (by rw [g1]; exact hmd) (by rw [g1]; exact hl)
        rw [g2] at u2
        refine ⟨u, ?_, u2.evo hI.sim he⟩
        have hne := hdst m hm e d hmd
        cases hod : o.dst with
        | none => exact u1
        | some d' =>
          simp only [Act.put]
          rw [Array.getElem?_setIfInBounds_ne (fun h => hne (by rw [hod, h]))]
          exact u1
      · exact absurd g1 e
  · have hnd : o.dst ≠ some t := by
      intro h
      obtain ⟨m, hm, hmj⟩ := h4
      have := hno m hm (by rw [hmj, dstOf, ho]; exact h)
      rw [hset, if_pos hmj.symm] at this
      cases this
    obtain ⟨u, u1, u2⟩ := hI.base t b hb (fun m hm hmd => by
      obtain ⟨m', hm', g1⟩ := h3 m hm
      have := hno m' hm' (by rw [g1]; exact hmd)
      rw [hset] at this
      split at this
      · cases this
      · rw [← g1]; exact this)
    refine ⟨u, ?_, u2.evo hI.sim he⟩
    cases hod : o.dst with
    | none => exact u1
    | some d' =>
      simp only [Act.put]
      rw [Array.getElem?_setIfInBounds_ne (fun h => hnd (by rw [hod, h]))]
      exact u1
theorem fl_run (hlow : lowOK ops = true) (hpw : steps.Pairwise (fun s m => PR ops m.i s.i)) (hcoh : Coh ops env0 steps env) (hgood : Good (n := n) P ops σ steps) {ok0 : Nat → Prop} {L0 : Loc} {σ0 : Store} {w0 : World} {Q0 : Exit → Act → World → Prop}
    (hend : ∀ listed ok L w act, Inv n ops env0 σ steps listed ok L w act → Evo ok0 L0 σ0 w0 ok L σ w → (∀ i, i < ops.size → listed.getD i true = true) → Q0 .normal act w)
    (hoth : ∀ r listed ok L w act, Inv n ops env0 σ steps listed ok L w act → Evo ok0 L0 σ0 w0 ok L σ w → togo listed ops.size = r + 1 → ∀ j ∈ Region.ready .any ops listed, (∀ s ∈ steps, s.i ≠ j) → wpOp P ops Q0 j (wpAny P .any ops Q0 r (listed.setIfInBounds j true)) act w) :
    ∀ r listed ok L w act, Inv n ops env0 σ steps listed ok L w act → Evo ok0 L0 σ0 w0 ok L σ w → togo listed ops.size = r → wpAny P .any ops Q0 r listed act w := by
  intro r
  induction r with
  | zero =>
    intro listed ok L w act hI he ht
    have hall : ∀ i, i < ops.size → listed.getD i true = true := fun i hi => by
      cases hh : listed.getD i true with
      | true => rfl
      | false => have := togo_pos hh ops.size hi; omega
    refine ⟨?_, hend listed ok L w act hI he hall⟩
    cases hr : Region.ready .any ops listed with
    | nil => rfl
    | cons j r =>
      obtain ⟨h1, h2, _⟩ := ready_deps (ops := ops) (listed := listed) (j := j) (by rw [hr]; simp)
      rw [hall j h1] at h2; cases h2
  | succ r ih =>
    intro listed ok L w act hI he ht
    refine ⟨fun hr => hend listed ok L w act hI he (ready_none hlow hI.sz hr), fun j hj => ?_⟩
    by_cases hin : ∃ s ∈ steps, s.i = j
    · obtain ⟨s, hs, rfl⟩ := hin
      obtain ⟨hjs, hjf, _⟩ := ready_deps hj
      have hsf : s.f = false := by
        cases h : s.f with
        | false => rfl
        | true => rw [hI.fx s hs h] at hjf; cases hjf
      obtain ⟨o, ho, hg, hd, hk⟩ := hgood s hs hsf
      obtain ⟨l1, l2, rfl⟩ := List.append_of_mem hs
      obtain ⟨p1, p2⟩ := steps_pair hpw
      have known := inv_known hI (l1 := l1) (l2 := l2) (e := s.env) (j := s.i) (fun m hm => by
        rcases List.mem_append.1 hm with h | h
        · exact .inl h
        · rcases List.mem_cons.1 h with rfl | h
          · exact .inr (.inl rfl)
          · exact .inr (.inr h)) (fun m hm => ⟨by simp [hm], p2 m hm⟩) (fun m hm => ⟨by simp [hm], p1 m hm⟩) (coh_split hcoh) hj ho
      have opr : ∀ x ∈ o.op.operands, ∀ b, aval s.env x = some b → Rep ok L w b (act.eval x) := fun x hx b hb => aval_rep (fun t ht a ha => known t (operand_mem (by subst ht; exact hx)) a ha) hb
      unfold wpOp
      rw [ho]
      simp only
      rw [if_pos (by simp [Region.wanted, hg])]
      refine .inl (hk ok L w act hI.sim opr _ _ fun v w' ok' L' hev hs' hv => ?_)
      refine ih (listed.setIfInBounds s.i true) ok' L' w' (act.put o.dst v) ?_ (he.trans hev) ?_
      · refine inv_next hI hj ho (a := s.a) (fun m hm => .inl ⟨m, hm, rfl, rfl⟩) (fun m hm e => ?_) (fun m hm => ⟨m, hm, rfl⟩) ⟨s, hs, rfl⟩ (fun m hm hf => .inr (hI.fx m hm hf)) (fun m hm hne d hmd => ?_) hd hev hs' hv
        · rcases List.mem_append.1 hm with h | h
          · exact absurd e.symm (p2 m h).ne
          · rcases List.mem_cons.1 h with rfl | h
            · rfl
            · exact absurd e (p1 m h).ne
        · cases hom : ops[m.i]? with
          | none => rw [dstOf, hom] at hmd; cases hmd
          | some om =>
            have h3 : om.dst = some d := by rw [dstOf, hom] at hmd; exact hmd
            rcases List.mem_append.1 hm with h | h
            · intro hod
              exact (p2 m h).dst o om d ho hom hod h3
            · rcases List.mem_cons.1 h with rfl | h
              · exact absurd rfl hne
              · exact (p1 m h).dst om o d hom ho h3
      · have := togo_set listed s.i hjf ops.size
        rw [show decide (s.i < ops.size) = true from by simp [hjs]] at this
        simp only [cond_true] at this
        omega
    · exact hoth r listed ok L w act hI he ht j hj (fun s hs e => hin ⟨s, hs, e⟩)
def AFl (P : Program) (n : Nat) (ops : Array Oper) (Q : APost) (env0 : Env) (steps : List Stp) (rem : List Nat) (env : Env) (σ : Store) : Prop :=
  planOK ops (steps.reverse.map (·.i) ++ rem) = true → Coh ops env0 steps env → Good (n := n) P ops σ steps → ∀ listed ok L w act, Inv n ops env0 σ steps listed ok L w act → wpAny P .any ops (Post n Q ok L σ w) (togo listed ops.size) listed act w
theorem plan_facts {l : List Nat} (h : planOK ops (steps.reverse.map (·.i) ++ l) = true) : lowOK ops = true ∧ (∀ k, k < ops.size → (∃ s ∈ steps, s.i = k) ∨ k ∈ l) ∧ steps.Pairwise (fun s m => PR ops m.i s.i) ∧ l.Pairwise (PR ops) ∧ ∀ s ∈ steps, ∀ k ∈ l, PR ops s.i k := by
  simp only [planOK, Bool.and_eq_true] at h
  obtain ⟨⟨h1, h2⟩, h3⟩ := h
  have hp := pairsOK_pw h3
  rw [List.pairwise_append] at hp
  obtain ⟨p1, p2, p3⟩ := hp
  refine ⟨h1, fun k hk => ?_, ?_, p2, fun s hs k hk => p3 _ (List.mem_map.2 ⟨s, by simpa using hs, rfl⟩) _ hk⟩
  · have := List.all_eq_true.1 h2 k (List.mem_range.2 hk)
    rw [List.contains_iff_mem, List.mem_append] at this
    rcases this with h | h
    · obtain ⟨s, hs, e⟩ := List.mem_map.1 h
      exact .inl ⟨s, by simpa using hs, e⟩
    · exact .inr h
  · rw [List.pairwise_map, List.pairwise_reverse] at p1
    exact p1
theorem aw_plan {id : Nat} {l : List Oper} (π : List Nat) (hm : P.follows .mixedOrders = true) (hok : planOK l.toArray π = true) (h : AFl P n l.toArray Q env [] π env σ) : AW P n (.region id l.toArray true) Q env σ := by
  refine aw_any hm ?_
  intro ok L w act hs hr hdf hn
  have hf : ∀ i, i < l.toArray.size → (prefixB l.toArray.size 0).getD i true = false := fun i hi => by rw [prefix_get, if_pos hi]; simp
  have e : l.toArray.size - 0 = togo (prefixB l.toArray.size 0) l.toArray.size := by rw [togo_prefix _ _ _ (Nat.le_refl _)]
  rw [e]
  refine h (by simpa using hok) rfl (fun s hs => by cases hs) _ ok L w act ⟨prefix_size _ _, fun i j hb hj => ?_, fun i hi hl => ?_, fun s hs => (by cases hs), hs, hdf, hn, fun s hs => (by cases hs), fun t a ht _ => hr t a ht⟩
  · rw [prefix_get] at hj
    split at hj
    · simp at hj
    · cases hj
  · rw [hf i hi] at hl; cases hl
theorem afl_float {i : Nat} {o : Oper} {a : AVal} (ho : ops[i]? = some o) (hg : o.guard = none) (hk : OpK P o (aval env) σ a) (hd : ∀ d, o.dst = some d → d < n)
    (k : AFl P n ops Q env0 (⟨i, a, env, false⟩ :: steps) rem (env.putd o.dst a) σ) : AFl P n ops Q env0 steps (i :: rem) env σ := by
  intro hplan hcoh hgood listed ok L w act hI
  obtain ⟨_, _, _, _, hx⟩ := plan_facts hplan
  have hd1 : dstOf ops i = o.dst := by rw [dstOf, ho]; rfl
  have his : i < ops.size := (Array.getElem?_eq_some_iff.1 ho).1
  have hnl : listed.getD i true = false := by
    cases h : listed.getD i true with
    | false => rfl
    | true =>
      obtain ⟨s, hs, e⟩ := hI.sub i his h
      exact absurd e (hx s hs i (by simp)).ne
  refine k (by simpa using hplan) ⟨by rw [hd1], hcoh⟩ (fun s hs hf => ?_) listed ok L w act ⟨hI.sz, hI.cl, fun j hj hl => ?_, fun s hs hf => ?_, hI.sim, hI.df, hI.hn, fun s hs d hsd hl => ?_, fun t b hb hno => hI.base t b hb (fun s hs => hno s (by simp [hs]))⟩
  · rcases List.mem_cons.1 hs with rfl | hs
    · exact ⟨o, ho, hg, hd, hk⟩
    · exact hgood s hs hf
  · obtain ⟨s, hs, e⟩ := hI.sub j hj hl
    exact ⟨s, by simp [hs], e⟩
  · rcases List.mem_cons.1 hs with rfl | hs
    · cases hf
    · exact hI.fx s hs hf
  · rcases List.mem_cons.1 hs with rfl | hs
    · rw [hnl] at hl; cases hl
    · exact hI.vals s hs d hsd hl
def Loose (P : Program) (ops : Array Oper) (e : Nat) (σ : Store) : List Stp → Prop
  | [] => True
  | s :: r => (s.f = true ∨ bef ops s.i e = true ∨ ∃ o, ops[s.i]? = some o ∧ OpK P o (aval s.env) σ s.a) ∧ Loose P ops e σ r
theorem Loose.all {e : Nat} : ∀ {l : List Stp}, Loose P ops e σ l → ∀ s ∈ l, s.f = true ∨ bef ops s.i e = true ∨ ∃ o, ops[s.i]? = some o ∧ OpK P o (aval s.env) σ s.a
  | _ :: _, h, s, hs => by
    rcases List.mem_cons.1 hs with rfl | hs
    · exact h.1
    · exact Loose.all h.2 s hs
def fixS (ops : Array Oper) (e : Nat) (s : Stp) : Stp := { s with f := s.f || bef ops s.i e }
theorem coh_fix {e : Nat} : ∀ {l : List Stp} {env : Env}, Coh ops env0 l env → Coh ops env0 (l.map (fixS ops e)) env
  | [], _, h => h
  | s :: r, _, h => ⟨h.1, coh_fix h.2⟩
theorem afl_forced {e : Nat} {o : Oper} (ho : ops[e]? = some o) (hg : o.guard = none) (hok : effOK ops e rem = true) (hd : ∀ d, o.dst = some d → d < n)
    (h : ∀ ok L w (act : Act), Sim ok L σ w → (∀ x ∈ o.op.operands, ∀ b, aval env x = some b → Rep ok L w b (act.eval x)) → ∀ (K : Act → World → Prop),
      (∀ a σ' ok' L' w' v, Loose P ops e σ' steps → AFl P n ops Q env0 (⟨e, a, env, true⟩ :: steps.map (fixS ops e)) rem (env.putd o.dst a) σ' → Evo ok L σ w ok' L' σ' w' → Sim ok' L' σ' w' → Rep ok' L' w' a v → K (act.put o.dst v) w') → o.wp P act w K (fun _ _ _ => False)) :
    AFl P n ops Q env0 steps (e :: rem) env σ := by
  intro hplan hcoh hgood listed ok L w act hI
  obtain ⟨hlow, hcov, hpw, hpr, hx⟩ := plan_facts hplan
  have hes : e < ops.size := (Array.getElem?_eq_some_iff.1 ho).1
  have hnot : ∀ s ∈ steps, s.i ≠ e := fun s hs => (hx s hs e (by simp)).ne
  refine fl_run (ok0 := ok) (L0 := L) (σ0 := σ) (w0 := w) hlow hpw hcoh hgood (fun listed ok1 L1 w1 act1 hI1 he1 hall => ?_) (fun r listed ok1 L1 w1 act1 hI1 he1 ht j hj hjn => ?_) _ listed ok L w act hI (.refl _ _ _ _) rfl
  · obtain ⟨s, hs, h1⟩ := hI1.sub e hes (hall e hes)
    exact absurd h1 (hnot s hs)
  · obtain ⟨hjs, hjf, _⟩ := ready_deps hj
    have hje : j = e := by
      rcases hcov j hjs with ⟨s, hs, h1⟩ | h1
      · exact absurd h1 (hjn s hs)
      · rcases List.mem_cons.1 h1 with h1 | h1
        · exact h1
        · have hb := bef_before (List.all_eq_true.1 hok j h1)
          have hl := getD_true_of_false (closed_before hI1.cl hj hb)
          obtain ⟨s, hs, h2⟩ := hI1.sub e hes hl
          exact absurd h2 (hnot s hs)
    subst hje
    have known := inv_known hI1 (l1 := []) (l2 := steps) (e := env) (j := j) (fun m hm => .inr (.inr hm)) (fun m hm => by cases hm) (fun m hm => ⟨hm, hx m hm j (by simp)⟩) hcoh hj ho
    have opr : ∀ x ∈ o.op.operands, ∀ b, aval env x = some b → Rep ok1 L1 w1 b (act1.eval x) := fun x hx b hb => aval_rep (fun t ht a ha => known t (operand_mem (by subst ht; exact hx)) a ha) hb
    unfold wpOp
    rw [ho]
    simp only
    rw [if_pos (by simp [Region.wanted, hg])]
    refine .inl (oper_wp_mono2 (fun _ _ h => h) (fun _ _ _ h => h.elim) (h ok1 L1 w1 act1 hI1.sim opr _ ?_))
    intro a σ' ok' L' w' v hloose hk hev hs' hv
    have htg : togo (listed.setIfInBounds j true) ops.size = r := by
      have := togo_set listed j hjf ops.size
      rw [show decide (j < ops.size) = true from by simp [hjs]] at this
      simp only [cond_true] at this
      omega
    rw [← htg]
    refine wpAny_monoQ (fun _ _ _ h => Post.after (he1.trans hev) h) _ _ _ _ (hk ?_ ⟨by rw [dstOf, ho]; rfl, coh_fix hcoh⟩ (fun s hs hf => ?_) _ ok' L' w' _ (inv_next hI1 hj ho (a := a) (fun m hm => ?_) (fun m hm e => ?_) (fun m hm => ?_) ⟨_, List.mem_cons_self .., rfl⟩ (fun m hm hf => ?_) (fun m hm hne d hmd => ?_) hd hev hs' hv))
    · have e1 : ((⟨j, a, env, true⟩ :: steps.map (fixS ops j) : List Stp).reverse.map (·.i) ++ rem) = steps.reverse.map (·.i) ++ j :: rem := by
        rw [List.reverse_cons, List.map_append, List.append_assoc, ← List.map_reverse, List.map_map]
        rfl
      rw [e1]; exact hplan
    · rcases List.mem_cons.1 hs with rfl | hs
      · cases hf
      · obtain ⟨s0, hs0, rfl⟩ := List.mem_map.1 hs
        change (s0.f || bef ops s0.i j) = false at hf
        rw [Bool.or_eq_false_iff] at hf
        obtain ⟨o1, g1, g2, g3, _⟩ := hgood s0 hs0 hf.1
        rcases hloose.all s0 hs0 with h | h | ⟨o2, h1, h2⟩
        · rw [hf.1] at h; cases h
        · rw [hf.2] at h; cases h
        · rw [g1] at h1; cases h1
          exact ⟨o1, g1, g2, g3, h2⟩
    · rcases List.mem_cons.1 hm with rfl | hm
      · exact .inr ⟨rfl, rfl⟩
      · obtain ⟨s0, hs0, rfl⟩ := List.mem_map.1 hm
        exact .inl ⟨s0, hs0, rfl, rfl⟩
    · rcases List.mem_cons.1 hm with rfl | hm
      · rfl
      · obtain ⟨s0, hs0, rfl⟩ := List.mem_map.1 hm
        exact absurd e (hnot s0 hs0)
    · exact ⟨fixS ops j m, by simp only [List.mem_cons, List.mem_map]; exact .inr ⟨m, hm, rfl⟩, rfl⟩
    · rcases List.mem_cons.1 hm with rfl | hm
      · exact .inl rfl
      · obtain ⟨s0, hs0, rfl⟩ := List.mem_map.1 hm
        change (s0.f || bef ops s0.i j) = true at hf
        rw [Bool.or_eq_true] at hf
        rcases hf with hf | hf
        · exact .inr (hI1.fx s0 hs0 hf)
        · exact .inr (getD_true_of_false (closed_before hI1.cl hj (bef_before hf)))
    · rcases List.mem_cons.1 hm with rfl | hm
      · exact absurd rfl hne
      · obtain ⟨s0, hs0, rfl⟩ := List.mem_map.1 hm
        change dstOf ops s0.i = some d at hmd
        cases hom : ops[s0.i]? with
        | none => rw [dstOf, hom] at hmd; cases hmd
        | some om =>
          have h3 : om.dst = some d := by rw [dstOf, hom] at hmd; exact hmd
          exact (hx s0 hs0 j (by simp)).dst om o d hom ho h3
theorem afl_eff {e : Nat} {o : Oper} {a : AVal} (ho : ops[e]? = some o) (hg : o.guard = none) (hok : effOK ops e rem = true) (hop : OpTo P o (aval env) σ a σ') (hd : ∀ d, o.dst = some d → d < n) (hl : Loose P ops e σ' steps)
    (k : AFl P n ops Q env0 (⟨e, a, env, true⟩ :: steps.map (fixS ops e)) rem (env.putd o.dst a) σ') : AFl P n ops Q env0 steps (e :: rem) env σ :=
  afl_forced ho hg hok hd fun ok L w act hs hr K hK => by
    obtain ⟨v, w', ok', L', h1, he, hs', hv⟩ := hop ok L w act.eval hs hr
    unfold Oper.wp
    rcases h1 with h1 | ⟨h1, rfl⟩
    · rw [h1]; exact hK _ _ _ _ _ _ hl k he hs' hv
    · rw [h1]; exact hK _ _ _ _ _ _ hl k he hs' hv
theorem afl_effR {e : Nat} {o : Oper} {R : AVal → Store → Prop} (ho : ops[e]? = some o) (hg : o.guard = none) (hok : effOK ops e rem = true) (hop : OpR P o (aval env) σ R) (hd : ∀ d, o.dst = some d → d < n)
    (k : ∀ a σ', R a σ' → Loose P ops e σ' steps ∧ AFl P n ops Q env0 (⟨e, a, env, true⟩ :: steps.map (fixS ops e)) rem (env.putd o.dst a) σ') : AFl P n ops Q env0 steps (e :: rem) env σ :=
  afl_forced ho hg hok hd fun ok L w act hs hr K hK => by
    obtain ⟨a, σ', v, w', ok', L', hR, h1, he, hs', hv⟩ := hop ok L w act.eval hs hr
    obtain ⟨k1, k2⟩ := k a σ' hR
    unfold Oper.wp
    rcases h1 with h1 | ⟨h1, rfl⟩
    · rw [h1]; exact hK _ _ _ _ _ _ k1 k2 he hs' hv
    · rw [h1]; exact hK _ _ _ _ _ _ k1 k2 he hs' hv
theorem afl_end (h : Q .normal env σ) : AFl P n ops Q env0 steps [] env σ := by
  intro hplan hcoh hgood listed ok L w act hI
  obtain ⟨hlow, hcov, hpw, hpr, hx⟩ := plan_facts hplan
  refine fl_run (ok0 := ok) (L0 := L) (σ0 := σ) (w0 := w) hlow hpw hcoh hgood (fun listed ok1 L1 w1 act1 hI1 he1 hall => ?_) (fun r listed ok1 L1 w1 act1 hI1 he1 ht j hj hjn => ?_) _ listed ok L w act hI (.refl _ _ _ _) rfl
  · refine ⟨.normal, env, σ, ok1, L1, h, he1, hI1.sim, fun t a ht => ?_, hI1.df, hI1.hn, trivial⟩
    rcases coh_get hcoh ht with ⟨m, h1, h2, rfl⟩ | ⟨h1, h2⟩
    · have : m.i < ops.size := by
        cases hom : ops[m.i]? with
        | none => rw [dstOf, hom] at h2; cases h2
        | some om => exact (Array.getElem?_eq_some_iff.1 hom).1
      exact hI1.vals m h1 t h2 (hall _ this)
    · exact hI1.base t a h1 (fun s hs hd => absurd hd (h2 s hs))
  · obtain ⟨hjs, _, _⟩ := ready_deps hj
    rcases hcov j hjs with ⟨s, hs, h1⟩ | h1
    · exact absurd h1 (hjn s hs)
    · cases h1
theorem loose_nil {e : Nat} : Loose P ops e σ [] := trivial
theorem loose_fix {e : Nat} {s : Stp} {r : List Stp} (h : (s.f || bef ops s.i e) = true) (k : Loose P ops e σ r) : Loose P ops e σ (s :: r) := by
  refine ⟨?_, k⟩
  rw [Bool.or_eq_true] at h
  rcases h with h | h
  · exact .inl h
  · exact .inr (.inl h)
theorem loose_anc {e : Nat} {s : Stp} {r : List Stp} (i : Nat) (hi : s.i = i) (h : bef ops i e = true) (k : Loose P ops e σ r) : Loose P ops e σ (s :: r) := ⟨.inr (.inl (by rw [hi]; exact h)), k⟩
theorem loose_k {e : Nat} {s : Stp} {r : List Stp} {o : Oper} (ho : ops[s.i]? = some o) (hk : OpK P o (aval s.env) σ s.a) (k : Loose P ops e σ r) : Loose P ops e σ (s :: r) := ⟨.inr (.inr ⟨o, ho, hk⟩), k⟩
end
end Go.Proofs.YtcgdlhkiecommaaGreatDoor
/- The engine, part 19: results told by their content; calls that write among quiet operations; equal structs and arrays. -/


namespace Go.Proofs.YtcgdlhkiecommaaGreatDoor
open Go
instance : Inhabited AVal := ⟨.nil⟩
inductive FrzT (σ : Store) (q : Nat → Bool) : AVal → AVal → Prop
  | one (a b : AVal) : FrzA σ q a b → FrzT σ q a b
  | tuple (as bs : List AVal) : All2 (FrzA σ q) as bs → FrzT σ q (.tuple as) (.tuple bs)
theorem frz2_nil {σ : Store} {q : Nat → Bool} : All2 (FrzL σ q) [] [] := trivial
theorem frz2_cons {σ : Store} {q : Nat → Bool} {a b : AVal} {as bs : List AVal} (h : FrzL σ q a b) (hs : All2 (FrzL σ q) as bs) : All2 (FrzL σ q) (a :: as) (b :: bs) := ⟨h, hs⟩
theorem frz3_nil {σ : Store} {q : Nat → Bool} : All2 (FrzA σ q) [] [] := trivial
theorem frz3_cons {σ : Store} {q : Nat → Bool} {a b : AVal} {as bs : List AVal} (h : FrzA σ q a b) (hs : All2 (FrzA σ q) as bs) : All2 (FrzA σ q) (a :: as) (b :: bs) := ⟨h, hs⟩
theorem frzA_rep {ok ok' : Nat → Prop} {L L' : Loc} {w : World} {σ σ' : Store} {q : Nat → Bool} (hs : Sim ok L σ w) (he : Evo ok L σ w ok' L' σ' w) (hk : ∀ a b v, FrzL σ q a b → RepL ok L w a v → RepL ok' L' w b v) {a b : AVal} {v : Value} (h : FrzA σ q a b) (hr : RepA ok L w a v) : RepA ok' L' w b v := by
  cases h with
  | leaf a b hl =>
    cases hl with
    | same => exact hr.evo hs he
    | nil sz => exact hk _ _ _ (.nil sz) hr
    | vnil sz => exact hk _ _ _ (.vnil sz) hr
    | slice id ver off m sz els h3 h4 h5 h6 => exact hk _ _ _ (.slice id ver off m sz els h3 h4 h5 h6) hr
  | agg as bs hl =>
    obtain ⟨vs, e, h3⟩ := hr
    exact ⟨vs, e, All2.two (S := RepL ok L w) (T := RepL ok' L' w) (fun a b c h1 h4 => hk a b c h1 h4) _ _ _ hl h3⟩
theorem frzT_rep {ok ok' : Nat → Prop} {L L' : Loc} {w : World} {σ σ' : Store} {q : Nat → Bool} (hs : Sim ok L σ w) (he : Evo ok L σ w ok' L' σ' w) (hk : ∀ a b v, FrzL σ q a b → RepL ok L w a v → RepL ok' L' w b v) {a b : AVal} {v : Value} (h : FrzT σ q a b) (hr : Rep ok L w a v) : Rep ok' L' w b v := by
  cases h with
  | one a b hl =>
    cases hl with
    | leaf a b hl =>
      cases hl with
      | same => exact hr.evo hs he
      | nil sz => exact hk _ _ _ (.nil sz) hr
      | vnil sz => exact hk _ _ _ (.vnil sz) hr
      | slice id ver off m sz els h3 h4 h5 h6 => exact hk _ _ _ (.slice id ver off m sz els h3 h4 h5 h6) hr
    | agg as bs hl =>
      obtain ⟨vs, e, h3⟩ := hr
      exact ⟨vs, e, All2.two (S := RepL ok L w) (T := RepL ok' L' w) (fun a b c h1 h4 => hk a b c h1 h4) _ _ _ hl h3⟩
  | tuple as bs hl =>
    obtain ⟨vs, e, h3⟩ := hr
    exact ⟨vs, e, All2.two (S := RepA ok L w) (T := RepA ok' L' w) (fun a b c h1 h4 => frzA_rep hs he hk h1 h4) _ _ _ hl h3⟩
theorem ac_frz {P : Program} {f : FuncId} {avs : List AVal} {σ : Store} {R R' : AEnd → Store → Prop} (q : Nat → Bool) (h : AC P f avs σ R) (hR : ∀ r σ1, R r σ1 → ∃ a b, r = .ret a ∧ FrzT σ1 q a b ∧ R' (.ret b) (σ1.keep q)) : AC P f avs σ R' := by
  intro ok L w vs hs hv
  refine (h ok L w vs hs hv).mono ?_
  rintro e w' ⟨r, σ1, ok', L', hr, he, hs', hx⟩
  obtain ⟨a, b, rfl, hf, hb⟩ := hR r σ1 hr
  obtain ⟨ok2, L2, he2, hs2, hk, _⟩ := freeze_core hs' q
  refine ⟨.ret b, _, ok2, L2, hb, he.trans he2, hs2, ?_⟩
  cases e with
  | returned v => exact frzT_rep hs' he2 hk hf (show Rep ok' L' w' a v from hx)
  | _ => exact hx.elim
section
variable {P : Program} {n : Nat} {Q : APost} {env env0 : Env} {σ σ' : Store} {ops : Array Oper} {steps : List Stp} {rem : List Nat}
theorem afl_call {e : Nat} {f : Operand} {args : Array Operand} {ts : Array TypeId} {fa : AVal} {g : FuncId} {caps : List AVal} {avs : List AVal} {R : AEnd → Store → Prop} {d : Option Tmp} {ty : TypeId} {pos : String} {after : Array Edge} (ho : ops[e]? = some ⟨d, .call { callee := .value f, args := args, argTypes := ts }, ty, pos, after, none⟩) (hok : effOK ops e rem = true) (hin : Into P g)
    (hf : aval env f = some fa) (hc : calleeOf fa = some (g, caps)) (ha : avals (aval env) args.toList = some avs) (h : AC P g (avs ++ caps) σ R) (hd : ∀ t, d = some t → t < n)
    (k : ∀ r σ', R r σ' → ∃ a, r = .ret a ∧ Loose P ops e σ' steps ∧ AFl P n ops Q env0 (⟨e, a, env, true⟩ :: steps.map (fixS ops e)) rem (env.putd d a) σ') : AFl P n ops Q env0 steps (e :: rem) env σ :=
  afl_forced ho rfl hok hd fun ok L w act hs hr K hK => by
    obtain ⟨vs, hrun, hv⟩ := call_run (E := aval env) (d := d) (ty := ty) (pos := pos) (after := after) (guard := none) (ts := ts) hin hr hf hc ha
    unfold Oper.wp
    rw [hrun]
    refine (h ok L w vs hs hv).mono ?_
    rintro x w' ⟨r, σ', ok', L', hR, he, hs', hx⟩
    obtain ⟨a, rfl, k1, k2⟩ := k _ _ hR
    cases x with
    | returned v => exact hK _ _ _ _ _ _ k1 k2 he hs' hx
    | _ => exact hx.elim
end
section
variable {P : Program} {n : Nat} {Q : APost} {env : Env} {σ : Store} {ops : Array Oper} {rest : List Oper}
theorem al_pass_undef {o : Oper} {g d : Nat} {og : Oper} {b : Bool} (hg : o.guard = some (g, b)) (hog : ops[g]? = some og) (hdst : og.dst = some d) (hb : env.get d = some (.v undef)) (hd : ∀ d, o.dst = some d → d < n)
    (k : AL P n ops rest Q (env.putd o.dst (.v undef)) σ) : AL P n ops (o :: rest) Q env σ :=
  fun ok L w act h1 h2 h3 h4 => wpList_step fun K hK => by
    obtain ⟨v, v1, v2⟩ := h2 d _ hb
    have hv := rep_bool v2
    subst hv
    rw [if_neg (by simp [Region.wanted, hg, yielded, hog, hdst, v1, undef])]
    refine hK _ _ (k ok L w _ h1 ?_ ?_ ?_)
    · exact h2.put (RepC.v _) (fun d hd' => h4 ▸ hd d hd')
    · rw [put_defers]; exact h3
    · rw [put_size]; exact h4
end
section
variable {P : Program} {σ : Store} {E : Operand → Option AVal} {d : Option Tmp} {ty : TypeId} {pos : String} {after : Array Edge} {guard : Option (Nat × Bool)}
theorem op_aeq {t u : TypeId} {x y : Operand} {a b : AVal} {xs ys : Array Value} {r : Bool} (hx : E x = some a) (hy : E y = some b) (ha : concOf a = some (.agg xs)) (hb : concOf b = some (.agg ys)) (hg : P.eqGuardType P.depth t = false) (h : ∀ w, (Op.equal t (.agg xs) (.agg ys)).run P w = .ok r w) :
    OpTo P ⟨d, .binOp .eql t x y u, ty, pos, after, guard⟩ E σ (.v (.bool r)) σ :=
  op_value fun ok L w ρ hs hr => by
    have h1 := conc_rep (hr x (by simp [Op.operands]) _ hx) ha
    have h2 := conc_rep (hr y (by simp [Op.operands]) _ hy) hb
    refine ⟨.bool r, ?_, RepC.v _⟩
    simp only [execOp, h1, h2]
    simp [run_eqGuard_agg, hg, binOp, h]
theorem op_aneq {t u : TypeId} {x y : Operand} {a b : AVal} {xs ys : Array Value} {r : Bool} (hx : E x = some a) (hy : E y = some b) (ha : concOf a = some (.agg xs)) (hb : concOf b = some (.agg ys)) (hg : P.eqGuardType P.depth t = false) (h : ∀ w, (Op.equal t (.agg xs) (.agg ys)).run P w = .ok r w) :
    OpTo P ⟨d, .binOp .neq t x y u, ty, pos, after, guard⟩ E σ (.v (.bool (!r))) σ :=
  op_value fun ok L w ρ hs hr => by
    have h1 := conc_rep (hr x (by simp [Op.operands]) _ hx) ha
    have h2 := conc_rep (hr y (by simp [Op.operands]) _ hy) hb
    refine ⟨.bool (!r), ?_, RepC.v _⟩
    simp only [execOp, h1, h2]
    simp [run_eqGuard_agg, hg, binOp, h]
end
end Go.Proofs.YtcgdlhkiecommaaGreatDoor
/- The engine, part 20: results in new memory (told by content), for arguments that are only lent; results that are not looked at. -/

namespace Go.Proofs.YtcgdlhkiecommaaGreatDoor
open Go
section
variable {P : Program} {n : Nat} {Q : APost} {env : Env} {σ : Store} {ops : Array Oper}
theorem aw_st {c : Code} {σ2 : Store} (e : σ = σ2) (h : AW P n c Q env σ2) : AW P n c Q env σ := e ▸ h
end
theorem keep_nothing (σ : Store) : σ.keep (fun _ => false) = [] := by
  induction σ with
  | nil => rfl
  | cons p r ih => obtain ⟨i, x⟩ := p; simp only [Store.keep, ih]
end Go.Proofs.YtcgdlhkiecommaaGreatDoor
/- The engine, part 21: two operations that write, in either order. -/

namespace Go.Proofs.YtcgdlhkiecommaaGreatDoor
open Go
section
variable {P : Program} {n : Nat} {Q : APost} {env env0 : Env} {σ σ' : Store} {ops : Array Oper} {steps : List Stp} {rem : List Nat}
def Next (P : Program) (n : Nat) (ops : Array Oper) (Q : APost) (env0 : Env) (steps : List Stp) (e : Nat) (o : Oper) (rem : List Nat) (env : Env) (σ : Store) : Prop :=
  ∀ ok L w (act : Act), Sim ok L σ w → (∀ x ∈ o.op.operands, ∀ b, aval env x = some b → Rep ok L w b (act.eval x)) → ∀ (K : Act → World → Prop),
      (∀ a σ' ok' L' w' v, Loose P ops e σ' steps → AFl P n ops Q env0 (⟨e, a, env, true⟩ :: steps.map (fixS ops e)) rem (env.putd o.dst a) σ' → Evo ok L σ w ok' L' σ' w' → Sim ok' L' σ' w' → Rep ok' L' w' a v → K (act.put o.dst v) w') → o.wp P act w K (fun _ _ _ => False)
theorem next_opR {e : Nat} {o : Oper} {R : AVal → Store → Prop} (hop : OpR P o (aval env) σ R)
    (k : ∀ a σ', R a σ' → Loose P ops e σ' steps ∧ AFl P n ops Q env0 (⟨e, a, env, true⟩ :: steps.map (fixS ops e)) rem (env.putd o.dst a) σ') : Next P n ops Q env0 steps e o rem env σ := fun ok L w act hs hr K hK => by
    obtain ⟨a, σ', v, w', ok', L', hR, h1, he, hs', hv⟩ := hop ok L w act.eval hs hr
    obtain ⟨k1, k2⟩ := k a σ' hR
    unfold Oper.wp
    rcases h1 with h1 | ⟨h1, rfl⟩
    · rw [h1]; exact hK _ _ _ _ _ _ k1 k2 he hs' hv
    · rw [h1]; exact hK _ _ _ _ _ _ k1 k2 he hs' hv
theorem afl_two {e1 : Nat} {o1 o2 : Oper} {rem1 : List Nat} (e2 : Nat) (rem2 : List Nat) (ho1 : ops[e1]? = some o1) (hg1 : o1.guard = none) (ho2 : ops[e2]? = some o2) (hg2 : o2.guard = none)
    (hok : rem1.all (fun k => k == e2 || bef ops e1 k || bef ops e2 k) = true) (hplan2 : planOK ops (steps.reverse.map (·.i) ++ e2 :: rem2) = true) (hd1 : ∀ d, o1.dst = some d → d < n) (hd2 : ∀ d, o2.dst = some d → d < n)
    (h1 : Next P n ops Q env0 steps e1 o1 rem1 env σ) (h2 : Next P n ops Q env0 steps e2 o2 rem2 env σ) : AFl P n ops Q env0 steps (e1 :: rem1) env σ := by
  intro hplan hcoh hgood listed ok L w act hI
  obtain ⟨hlow, hcov, hpw, _, hx0⟩ := plan_facts hplan
  have hes1 : e1 < ops.size := (Array.getElem?_eq_some_iff.1 ho1).1
  refine fl_run (ok0 := ok) (L0 := L) (σ0 := σ) (w0 := w) hlow hpw hcoh hgood (fun listed ok1 L1 w1 act1 hI1 he1 hall => ?_) (fun r listed ok1 L1 w1 act1 hI1 he1 ht j hj hjn => ?_) _ listed ok L w act hI (.refl _ _ _ _) rfl
  · obtain ⟨s, hs, h3⟩ := hI1.sub e1 hes1 (hall e1 hes1)
    exact absurd h3 (hx0 s hs e1 (by simp)).ne
  · obtain ⟨hjs, hjf, _⟩ := ready_deps hj
    have take : ∀ (o : Oper) (rem : List Nat), planOK ops (steps.reverse.map (·.i) ++ j :: rem) = true → ops[j]? = some o → o.guard = none → (∀ d, o.dst = some d → d < n) → Next P n ops Q env0 steps j o rem env σ → wpOp P ops (Post n Q ok L σ w) j (wpAny P .any ops (Post n Q ok L σ w) r (listed.setIfInBounds j true)) act1 w1 := by
      intro o rem hplan ho hg hd h
      obtain ⟨_, _, _, hpr, hx⟩ := plan_facts hplan
      have hnot : ∀ s ∈ steps, s.i ≠ j := fun s hs => (hx s hs j (by simp)).ne
      have known := inv_known hI1 (l1 := []) (l2 := steps) (e := env) (j := j) (fun m hm => .inr (.inr hm)) (fun m hm => by cases hm) (fun m hm => ⟨hm, hx m hm j (by simp)⟩) hcoh hj ho
      have opr : ∀ x ∈ o.op.operands, ∀ b, aval env x = some b → Rep ok1 L1 w1 b (act1.eval x) := fun x hx b hb => aval_rep (fun t ht a ha => known t (operand_mem (by subst ht; exact hx)) a ha) hb
      unfold wpOp
      rw [ho]
      simp only
      rw [if_pos (by simp [Region.wanted, hg])]
      refine .inl (oper_wp_mono2 (fun _ _ h => h) (fun _ _ _ h => h.elim) (h ok1 L1 w1 act1 hI1.sim opr _ ?_))
      intro a σ' ok' L' w' v hloose hk hev hs' hv
      have htg : togo (listed.setIfInBounds j true) ops.size = r := by
        have := togo_set listed j hjf ops.size
        rw [show decide (j < ops.size) = true from by simp [hjs]] at this
        simp only [cond_true] at this
        omega
      rw [← htg]
      refine wpAny_monoQ (fun _ _ _ h => Post.after (he1.trans hev) h) _ _ _ _ (hk ?_ ⟨by rw [dstOf, ho]; rfl, coh_fix hcoh⟩ (fun s hs hf => ?_) _ ok' L' w' _ (inv_next hI1 hj ho (a := a) (fun m hm => ?_) (fun m hm e => ?_) (fun m hm => ?_) ⟨_, List.mem_cons_self .., rfl⟩ (fun m hm hf => ?_) (fun m hm hne d hmd => ?_) hd hev hs' hv))
      · have e1 : ((⟨j, a, env, true⟩ :: steps.map (fixS ops j) : List Stp).reverse.map (·.i) ++ rem) = steps.reverse.map (·.i) ++ j :: rem := by
          rw [List.reverse_cons, List.map_append, List.append_assoc, ← List.map_reverse, List.map_map]
          rfl
        rw [e1]; exact hplan
      · rcases List.mem_cons.1 hs with rfl | hs
        · cases hf
        · obtain ⟨s0, hs0, rfl⟩ := List.mem_map.1 hs
          change (s0.f || bef ops s0.i j) = false at hf
          rw [Bool.or_eq_false_iff] at hf
          obtain ⟨o1, g1, g2, g3, _⟩ := hgood s0 hs0 hf.1
          rcases hloose.all s0 hs0 with h | h | ⟨o2, h1, h2⟩
          · rw [hf.1] at h; cases h
          · rw [hf.2] at h; cases h
          · rw [g1] at h1; cases h1
            exact ⟨o1, g1, g2, g3, h2⟩
      · rcases List.mem_cons.1 hm with rfl | hm
        · exact .inr ⟨rfl, rfl⟩
        · obtain ⟨s0, hs0, rfl⟩ := List.mem_map.1 hm
          exact .inl ⟨s0, hs0, rfl, rfl⟩
      · rcases List.mem_cons.1 hm with rfl | hm
        · rfl
        · obtain ⟨s0, hs0, rfl⟩ := List.mem_map.1 hm
          exact absurd e (hnot s0 hs0)
      · exact ⟨fixS ops j m, by simp only [List.mem_cons, List.mem_map]; exact .inr ⟨m, hm, rfl⟩, rfl⟩
      · rcases List.mem_cons.1 hm with rfl | hm
        · exact .inl rfl
        · obtain ⟨s0, hs0, rfl⟩ := List.mem_map.1 hm
          change (s0.f || bef ops s0.i j) = true at hf
          rw [Bool.or_eq_true] at hf
          rcases hf with hf | hf
          · exact .inr (hI1.fx s0 hs0 hf)
          · exact .inr (getD_true_of_false (closed_before hI1.cl hj (bef_before hf)))
      · rcases List.mem_cons.1 hm with rfl | hm
        · exact absurd rfl hne
        · obtain ⟨s0, hs0, rfl⟩ := List.mem_map.1 hm
          change dstOf ops s0.i = some d at hmd
          cases hom : ops[s0.i]? with
          | none => rw [dstOf, hom] at hmd; cases hmd
          | some om =>
            have h3 : om.dst = some d := by rw [dstOf, hom] at hmd; exact hmd
            exact (hx s0 hs0 j (by simp)).dst om o d hom ho h3
    rcases hcov j hjs with ⟨s, hs, h3⟩ | h3
    · exact absurd h3 (hjn s hs)
    · rcases List.mem_cons.1 h3 with h3 | h3
      · subst h3; exact take o1 rem1 hplan ho1 hg1 hd1 h1
      · have hb := List.all_eq_true.1 hok j h3
        simp only [Bool.or_eq_true, beq_iff_eq] at hb
        rcases hb with (rfl | hb) | hb
        · exact take o2 rem2 hplan2 ho2 hg2 hd2 h2
        · obtain ⟨s, hs, h4⟩ := hI1.sub e1 hes1 (getD_true_of_false (closed_before hI1.cl hj (bef_before hb)))
          exact absurd h4 (hx0 s hs e1 (by simp)).ne
        · obtain ⟨_, _, _, _, hx2⟩ := plan_facts hplan2
          obtain ⟨s, hs, h4⟩ := hI1.sub e2 (Array.getElem?_eq_some_iff.1 ho2).1 (getD_true_of_false (closed_before hI1.cl hj (bef_before hb)))
          exact absurd h4 (hx2 s hs e2 (by simp)).ne
end
end Go.Proofs.YtcgdlhkiecommaaGreatDoor
/- The engine: panics, values in interfaces, deferred calls. -/



set_option linter.all false
namespace Go.Proofs.YtcgdlhkiecommaaGreatDoor
open Go
section
variable {P : Program} {n : Nat} {Q : APost} {env : Env} {σ σ' : Store} {ops : Array Oper} {rest : List Oper}
variable {E : Operand → Option AVal} {d : Option Tmp} {ty : TypeId} {pos : String} {after : Array Edge} {guard : Option (Nat × Bool)}
theorem al_panic {x : Operand} {t : TypeId} {v : Value} (hx : aval env x = some (.v (.iface t v))) (h : Q (.panic (.v (.iface t v))) env σ) : AL P n ops (⟨d, .panic x, ty, pos, after, none⟩ :: rest) Q env σ :=
  fun ok L w act h1 h2 h3 h4 => wpList_plain rfl fun K hK => by
    have e := rep_bool (h2.aval hx)
    unfold Oper.wp
    have hr : (execOp act.eval ⟨d, .panic x, ty, pos, after, none⟩).run P w = .halt (.panic (.iface t v)) w := by
      simp [execOp, Instr.panic, e, goPanic]
    rw [hr, Oper.upon_panic]
    exact ⟨.panic (.v (.iface t v)), env, σ, ok, L, h, .refl _ _ _ _, h1, h2, h3, h4, _, rfl, .v _⟩
theorem op_iface_agg {x : Operand} {t : TypeId} {vals : List Value} (hc : P.concrete t = true) (hx : E x = some (.agg (vals.map .v))) : OpTo P ⟨d, .makeInterface t x, ty, pos, after, guard⟩ E σ (.v (.iface t (.agg vals.toArray))) σ :=
  op_value fun ok L w ρ hs hr => by
    obtain ⟨vs, h1, h2⟩ := hr x (by simp [Op.operands]) _ hx
    have key : ∀ (vals vs : List Value), All2 (RepL ok L w) (vals.map .v) vs → vs = vals := by
      intro vals
      induction vals with
      | nil => intro vs h; cases vs with
        | nil => rfl
        | cons _ _ => exact h.elim
      | cons a r ih => intro vs h; cases vs with
        | nil => exact h.elim
        | cons b s =>
          obtain ⟨h3, h4⟩ := h
          have : b = a := by cases h3; rfl
          rw [this, ih s h4]
    have e := key vals vs h2
    subst e
    refine ⟨.iface t (.agg vs.toArray), ?_, .v _⟩
    simp [execOp, h1, run_makeInterface _ t _ hc]
abbrev ADefs := List (FuncId × List AVal)
def DefRep (ok : Nat → Prop) (L : Loc) (w : World) : ADefs → List Deferred → Prop :=
  All2 fun a d => ∃ vs : List Value, d = { target := .fn (.func a.1) #[], args := vs.toArray } ∧ All2 (Rep ok L w) a.2 vs
abbrev DPost := AExit → Env → Store → ADefs → Prop
def PostD (n : Nat) (Q : DPost) (ok : Nat → Prop) (L : Loc) (σ : Store) (w : World) : Exit → Act → World → Prop := fun e act' w' =>
  ∃ ae env' σ' D' ok' L', Q ae env' σ' D' ∧ Evo ok L σ w ok' L' σ' w' ∧ Sim ok' L' σ' w' ∧ RepEnv ok' L' w' env' act'.tmps ∧ DefRep ok' L' w' D' act'.defers ∧ act'.tmps.size = n ∧ ExitRep ok' L' w' ae e
theorem postD_after {Q : DPost} {ok ok1 : Nat → Prop} {L L1 : Loc} {σ σ1 : Store} {w w1 : World} (he : Evo ok L σ w ok1 L1 σ1 w1) {e : Exit} {a : Act} {w' : World} (h : PostD n Q ok1 L1 σ1 w1 e a w') : PostD n Q ok L σ w e a w' := by
  obtain ⟨ae, env', σ', D', ok', L', h1, h2, h3⟩ := h
  exact ⟨ae, env', σ', D', ok', L', h1, he.trans h2, h3⟩
def AWD (P : Program) (n : Nat) (c : Code) (Q : DPost) (env : Env) (σ : Store) (D : ADefs) : Prop :=
  ∀ ok L w act, Sim ok L σ w → RepEnv ok L w env act.tmps → DefRep ok L w D act.defers → act.tmps.size = n → c.wp P (PostD n Q ok L σ w) act w
def ALD (P : Program) (n : Nat) (ops : Array Oper) (l : List Oper) (Q : DPost) (env : Env) (σ : Store) (D : ADefs) : Prop :=
  ∀ ok L w act, Sim ok L σ w → RepEnv ok L w env act.tmps → DefRep ok L w D act.defers → act.tmps.size = n → wpList P ops (PostD n Q ok L σ w) l act w
def AExit.thenD (next : Env → Store → ADefs → Prop) (Q : DPost) : DPost
  | .normal, env, σ, D => next env σ D
  | e, env, σ, D => Q e env σ D
theorem DefRep.evo {ok ok' : Nat → Prop} {L L' : Loc} {w w' : World} {D : ADefs} {ds : List Deferred} (h : DefRep ok L w D ds) (hs : Sim ok L σ w) (he : Evo ok L σ w ok' L' σ' w') : DefRep ok' L' w' D ds :=
  All2.mono (fun a b ⟨vs, e, h2⟩ => ⟨vs, e, All2.mono (fun _ _ h => h.evo hs he) _ _ h2⟩) _ _ h
variable {QD : DPost} {D : ADefs}
theorem awd_seq {x y : Code} (h : AWD P n x (AExit.thenD (fun env σ D => AWD P n y QD env σ D) QD) env σ D) : AWD P n (.seq x y) QD env σ D := by
  intro ok L w act hs hr hd hn
  refine wp_seq (wp_mono (h ok L w act hs hr hd hn) ?_)
  rintro e a1 w1 ⟨ae, env1, σ1, D1, ok1, L1, hq, he, hs1, hr1, hd1, hn1, hx⟩
  cases ae <;> cases e <;> simp only [ExitRep] at hx
  · exact wp_mono (hq ok1 L1 w1 a1 hs1 hr1 hd1 hn1) fun _ _ _ h => postD_after he h
  · exact ⟨_, env1, σ1, D1, ok1, L1, hq, he, hs1, hr1, hd1, hn1, hx⟩
  · exact ⟨_, env1, σ1, D1, ok1, L1, hq, he, hs1, hr1, hd1, hn1, hx⟩
  · exact ⟨_, env1, σ1, D1, ok1, L1, hq, he, hs1, hr1, hd1, hn1, hx⟩
  · exact ⟨_, env1, σ1, D1, ok1, L1, hq, he, hs1, hr1, hd1, hn1, hx⟩
theorem awd_cond {c : Operand} {x y : Code} {b : Bool} (hc : aval env c = some (.v (.bool b))) (ht : b = true → AWD P n x QD env σ D) (hf : b = false → AWD P n y QD env σ D) : AWD P n (.cond c x y) QD env σ D := by
  intro ok L w act hs hr hd hn
  have e := rep_bool (hr.aval hc)
  exact wp_cond_split e (fun hb => ht hb ok L w act hs hr hd hn) (fun hb => hf hb ok L w act hs hr hd hn)
theorem awd_skip (h : QD .normal env σ D) : AWD P n .skip QD env σ D :=
  fun ok L w act h1 h2 h3 h4 => wp_skip ⟨.normal, env, σ, D, ok, L, h, .refl _ _ _ _, h1, h2, h3, h4, trivial⟩
theorem awd_ret (h : QD .ret env σ D) : AWD P n .ret QD env σ D :=
  fun ok L w act h1 h2 h3 h4 => wp_ret ⟨.ret, env, σ, D, ok, L, h, .refl _ _ _ _, h1, h2, h3, h4, trivial⟩
theorem awd_region {id : Nat} {l : List Oper} (h : ALD P n l.toArray l QD env σ D) : AWD P n (.region id l.toArray false) QD env σ D :=
  fun ok L w act h1 h2 h3 h4 => wp_region_lit (h ok L w act h1 h2 h3 h4)
theorem ald_nil (h : QD .normal env σ D) : ALD P n ops [] QD env σ D :=
  fun ok L w act h1 h2 h3 h4 => wpList_nil ⟨.normal, env, σ, D, ok, L, h, .refl _ _ _ _, h1, h2, h3, h4, trivial⟩
theorem ald_call {f : Operand} {args : Array Operand} {ts : Array TypeId} {fa : AVal} {g : FuncId} {caps : List AVal} {avs : List AVal} {R : AEnd → Store → Prop} (hin : Into P g)
    (hf : aval env f = some fa) (hc : calleeOf fa = some (g, caps)) (ha : avals (aval env) args.toList = some avs) (h : AC P g (avs ++ caps) σ R) (hd : ∀ t, d = some t → t < n)
    (k : ∀ r σ', R r σ' → match r with | .ret a => ALD P n ops rest QD (env.putd d a) σ' D | .pan a => QD (.panic a) env σ' D) : ALD P n ops (⟨d, .call { callee := .value f, args := args, argTypes := ts }, ty, pos, after, none⟩ :: rest) QD env σ D := by
  intro ok L w act h1 h2 h3 h4
  refine wpList_plain rfl fun K hK => ?_
  obtain ⟨vs, hrun, hv⟩ := call_run (E := aval env) (d := d) (ty := ty) (pos := pos) (after := after) (guard := none) (ts := ts) hin (fun x _ b hb => h2.aval (x := x) hb) hf hc ha
  unfold Oper.wp
  rw [hrun]
  refine (h ok L w vs h1 hv).mono ?_
  rintro e w' ⟨r, σ', ok', L', hR, he, hs, hx⟩
  have hk := k _ _ hR
  cases r with
  | ret a =>
    cases e with
    | returned v =>
      refine hK _ _ (wpList_after (fun _ _ _ h => postD_after he h) _ _ _ (hk ok' L' w' (act.put d v) hs ?_ ?_ ?_))
      · exact (h2.evo h1 he).put hx (fun t ht => h4 ▸ hd t ht)
      · rw [put_defers]; exact h3.evo h1 he
      · rw [put_size]; exact h4
    | _ => exact hx.elim
  | pan a =>
    cases e with
    | panicked chain => exact ⟨.panic a, env, σ', D, ok', L', hk, he, hs, h2.evo h1 he, h3.evo h1 he, h4, hx⟩
    | _ => exact hx.elim
theorem ald_defer {g : FuncId} {args : Array Operand} {ts : Array TypeId} {avs : List AVal} (ha : avals (aval env) args.toList = some avs) (hd : d = none)
    (k : ALD P n ops rest QD env σ ((g, avs) :: D)) : ALD P n ops (⟨d, .defer { callee := .value (.func g), args := args, argTypes := ts }, ty, pos, after, none⟩ :: rest) QD env σ D := by
  intro ok L w act h1 h2 h3 h4
  refine wpList_plain rfl fun K hK => ?_
  subst hd
  have h5 := avals_rep (ρ := act.eval) (ok := ok) (L := L) (w := w) args.toList avs (fun x hx b hb => h2.aval (x := x) hb) ha
  have hr : (execOp act.eval ⟨none, .defer { callee := .value (.func g), args := args, argTypes := ts }, ty, pos, after, none⟩).run P w = .ok (.defer { target := .fn (.func g) #[], args := (args.toList.map act.eval).toArray }) w := by
    have e2 : args.map act.eval = (args.toList.map act.eval).toArray := by apply Array.ext'; simp
    simp [execOp, resolve, Deferred.ofValue, Act.eval]
    exact e2
  unfold Oper.wp
  rw [hr, Oper.upon_defer]
  exact hK _ _ (k ok L w _ h1 h2 ⟨⟨_, rfl, h5⟩, h3⟩ h4)
def ACDr (P : Program) (g : FuncId) (avs : List AVal) (σ : Store) (R : Store → Prop) : Prop :=
  ∀ ok L w vs, Sim ok L σ w → All2 (Rep ok L w) avs vs → CallsD P g vs.toArray .returning w fun e u' w' => ∃ v, e = .returned v ∧ u' = .returning ∧ ∃ σ' ok' L', R σ' ∧ Evo ok L σ w ok' L' σ' w' ∧ Sim ok' L' σ' w'
def ACDp (P : Program) (g : FuncId) (avs : List AVal) (a : AVal) (σ : Store) (R : Store → Prop) : Prop :=
  ∀ ok L w vs pv, Sim ok L σ w → All2 (Rep ok L w) avs vs → Rep ok L w a pv → CallsD P g vs.toArray (.panicking [{ v := pv, recovered := false }]) w fun e u' w' => ∃ v, e = .returned v ∧ settle u' = .returning ∧ ∃ σ' ok' L', R σ' ∧ Evo ok L σ w ok' L' σ' w' ∧ Sim ok' L' σ' w'
def RetPostD (P : Program) (fn : Func) (R : AEnd → Store → Prop) : DPost
  | .normal, env, σ, [] | .ret, env, σ, [] => ∃ r, ResOK P fn env σ r ∧ R (.ret r) σ
  | .panic a, env, σ, [] => R (.pan a) σ
  | .ret, env, σ, [(g, avs)] => Into P g ∧ ∃ R1, ACDr P g avs σ R1 ∧ ∀ σ', R1 σ' → ∃ r, ResOK P fn env σ' r ∧ R (.ret r) σ'
  | .panic a, env, σ, [(g, avs)] => Into P g ∧ ∃ R1, ACDp P g avs a σ R1 ∧ ∀ σ', R1 σ' → ∃ r, ResOK P fn env σ' r ∧ R (.ret r) σ'
  | _, _, _, _ => False
theorem retd_ret {fn : Func} {R : AEnd → Store → Prop} {g : FuncId} {avs : List AVal} {R1 : Store → Prop} (hi : Into P g) (h1 : ACDr P g avs σ R1) (h2 : ∀ σ', R1 σ' → ∃ r, ResOK P fn env σ' r ∧ R (.ret r) σ') : RetPostD P fn R .ret env σ [(g, avs)] := ⟨hi, R1, h1, h2⟩
theorem acd_enter {f : FuncId} {fn : Func} {c : Code} {avs : List AVal} {R : AEnd → Store → Prop} (nt : Nat) (hf : P.funcs[f]? = some fn) (hb : fn.body = some c) (hn : fn.ntmps = nt) (hl : avs.length ≤ nt)
    (h : AWD P nt c (RetPostD P fn R) (initEnv 0 avs) σ []) : AC P f avs σ R := by
  intro ok L w vs hs hv
  subst hn
  refine calls_of_wp_defers hf hb (wp_mono (h ok L w _ hs ?_ trivial ?_) ?_)
  · have := initEnv_rep avs vs hv 0 [] (List.replicate (fn.ntmps - vs.length) undef) rfl
    simp only [List.nil_append] at this
    rw [show vs.toArray ++ Array.replicate (fn.ntmps - vs.toArray.size) undef = (vs ++ List.replicate (fn.ntmps - vs.length) undef).toArray from by simp]
    exact this
  · have := All2.length _ _ hv
    simp
    omega
  · have nil : ∀ {ok L w} {ds : List Deferred}, DefRep ok L w [] ds → ds = [] := by
      intro ok L w ds h
      cases ds with
      | nil => rfl
      | cons a r => exact h.elim
    rintro e a w' ⟨ae, env', σ', D', ok', L', hq, he, hs', hr', hd', hn', hx⟩
    match D', hq, hd' with
    | [], hq, hd' =>
      have hdn := nil hd'
      clear hd'
      cases ae <;> cases e <;> simp only [ExitRep] at hx <;> simp only [RetPostD] at hq <;> simp only [bodyPostD]
      · obtain ⟨r, h1, h2⟩ := hq
        obtain ⟨v, h3, h4⟩ := h1 ok' L' w' a.tmps hs' hr'
        rw [hdn]
        exact ⟨v, h3, .ret r, σ', ok', L', h2, he, hs', h4⟩
      · obtain ⟨r, h1, h2⟩ := hq
        obtain ⟨v, h3, h4⟩ := h1 ok' L' w' a.tmps hs' hr'
        rw [hdn]
        exact ⟨v, h3, .ret r, σ', ok', L', h2, he, hs', h4⟩
      · obtain ⟨v, h3, h4⟩ := hx
        rw [hdn]
        exact ⟨.pan _, σ', ok', L', hq, he, hs', v, h3, h4⟩
    | [(g, avs2)], hq, hd' =>
      obtain ⟨d0, hd0, ⟨vs2, rfl, hv2⟩⟩ : ∃ d0, a.defers = [d0] ∧ ∃ vs : List Value, d0 = { target := .fn (.func g) #[], args := vs.toArray } ∧ All2 (Rep ok' L' w') avs2 vs := by
        cases hds : a.defers with
        | nil => rw [hds] at hd'; exact hd'.elim
        | cons d0 r =>
          rw [hds] at hd'
          obtain ⟨h1, h2⟩ := hd'
          exact ⟨d0, by rw [nil h2], h1⟩
      have hinv : Into P g → (invoke (Target.fn (.func g) #[]) vs2.toArray).run P w' = .ok (.enter g vs2.toArray) w' := fun hin => by
        simp [invoke, run_callFunc hin]
      cases ae <;> cases e <;> simp only [ExitRep] at hx <;> simp only [RetPostD] at hq <;> simp only [bodyPostD]
      · rw [hd0]
        obtain ⟨hin, R1, h1, h2⟩ := hq
        refine ⟨by simp, .func g, #[], g, vs2.toArray, rfl, hinv hin, ?_⟩
        refine CallsD.mono (h1 ok' L' w' vs2 hs' hv2) ?_
        rintro e u' w'' ⟨v, rfl, rfl, σ2, ok2, L2, hR1, he2, hs2⟩
        obtain ⟨r, h3, h4⟩ := h2 σ2 hR1
        obtain ⟨v2, h5, h6⟩ := h3 ok2 L2 w'' a.tmps hs2 (hr'.evo hs' he2)
        exact ⟨v2, h5, .ret r, σ2, ok2, L2, h4, he.trans he2, hs2, h6⟩
      · obtain ⟨pv, rfl, h7⟩ := hx
        rw [hd0]
        obtain ⟨hin, R1, h1, h2⟩ := hq
        refine ⟨by simp, .func g, #[], g, vs2.toArray, rfl, hinv hin, ?_⟩
        refine CallsD.mono (h1 ok' L' w' vs2 pv hs' hv2 h7) ?_
        rintro e u' w'' ⟨v, rfl, hu, σ2, ok2, L2, hR1, he2, hs2⟩
        obtain ⟨r, h3, h4⟩ := h2 σ2 hR1
        obtain ⟨v2, h5, h6⟩ := h3 ok2 L2 w'' a.tmps hs2 (hr'.evo hs' he2)
        show Leaves P fn a.tmps _ [] (settle u') w''
        rw [hu]
        exact ⟨v2, h5, .ret r, σ2, ok2, L2, h4, he.trans he2, hs2, h6⟩
    | _ :: _ :: _, hq, hd' => cases ae <;> simp only [RetPostD] at hq
end
section
variable {P : Program} {n : Nat} {Q : APost} {env env0 : Env} {σ σ' : Store} {ops : Array Oper} {steps : List Stp} {rem : List Nat}
def PanQ (QP : AVal → Store → Prop) (ok : Nat → Prop) (L : Loc) (σ : Store) (w : World) (act : Act) : Exit → Act → World → Prop := fun e a w' =>
  ∃ x σ' ok' L' v, QP x σ' ∧ Evo ok L σ w ok' L' σ' w' ∧ Sim ok' L' σ' w' ∧ e = .panic [{ v := v, recovered := false }] ∧ a = act ∧ Rep ok' L' w' x v
theorem afl_forcedP (QP : AVal → Store → Prop) (hQ : ∀ a σ', QP a σ' → Q (.panic a) [] σ') {e : Nat} {o : Oper} (ho : ops[e]? = some o) (hg : o.guard = none) (hok : effOK ops e rem = true) (hd : ∀ d, o.dst = some d → d < n)
    (h : ∀ ok L w (act : Act), Sim ok L σ w → (∀ x ∈ o.op.operands, ∀ b, aval env x = some b → Rep ok L w b (act.eval x)) → ∀ (K : Act → World → Prop),
      (∀ a σ' ok' L' w' v, Loose P ops e σ' steps → AFl P n ops Q env0 (⟨e, a, env, true⟩ :: steps.map (fixS ops e)) rem (env.putd o.dst a) σ' → Evo ok L σ w ok' L' σ' w' → Sim ok' L' σ' w' → Rep ok' L' w' a v → K (act.put o.dst v) w') → o.wp P act w K (PanQ QP ok L σ w act)) :
    AFl P n ops Q env0 steps (e :: rem) env σ := by
  intro hplan hcoh hgood listed ok L w act hI
  obtain ⟨hlow, hcov, hpw, hpr, hx⟩ := plan_facts hplan
  have hes : e < ops.size := (Array.getElem?_eq_some_iff.1 ho).1
  have hnot : ∀ s ∈ steps, s.i ≠ e := fun s hs => (hx s hs e (by simp)).ne
  refine fl_run (ok0 := ok) (L0 := L) (σ0 := σ) (w0 := w) hlow hpw hcoh hgood (fun listed ok1 L1 w1 act1 hI1 he1 hall => ?_) (fun r listed ok1 L1 w1 act1 hI1 he1 ht j hj hjn => ?_) _ listed ok L w act hI (.refl _ _ _ _) rfl
  · obtain ⟨s, hs, h1⟩ := hI1.sub e hes (hall e hes)
    exact absurd h1 (hnot s hs)
  · obtain ⟨hjs, hjf, _⟩ := ready_deps hj
    have hje : j = e := by
      rcases hcov j hjs with ⟨s, hs, h1⟩ | h1
      · exact absurd h1 (hjn s hs)
      · rcases List.mem_cons.1 h1 with h1 | h1
        · exact h1
        · have hb := bef_before (List.all_eq_true.1 hok j h1)
          have hl := getD_true_of_false (closed_before hI1.cl hj hb)
          obtain ⟨s, hs, h2⟩ := hI1.sub e hes hl
          exact absurd h2 (hnot s hs)
    subst hje
    have known := inv_known hI1 (l1 := []) (l2 := steps) (e := env) (j := j) (fun m hm => .inr (.inr hm)) (fun m hm => by cases hm) (fun m hm => ⟨hm, hx m hm j (by simp)⟩) hcoh hj ho
    have opr : ∀ x ∈ o.op.operands, ∀ b, aval env x = some b → Rep ok1 L1 w1 b (act1.eval x) := fun x hx b hb => aval_rep (fun t ht a ha => known t (operand_mem (by subst ht; exact hx)) a ha) hb
    unfold wpOp
    rw [ho]
    simp only
    rw [if_pos (by simp [Region.wanted, hg])]
    refine .inl (oper_wp_mono2 (fun _ _ h => h) ?_ (h ok1 L1 w1 act1 hI1.sim opr _ ?_))
    · rintro e a w' ⟨x, σ', ok', L', v, h1, h2, h3, rfl, rfl, h4⟩
      exact Post.after he1 ⟨.panic x, [], σ', ok', L', hQ _ _ h1, h2, h3, (fun t a ht => by cases ht), hI1.df, hI1.hn, v, rfl, h4⟩
    intro a σ' ok' L' w' v hloose hk hev hs' hv
    have htg : togo (listed.setIfInBounds j true) ops.size = r := by
      have := togo_set listed j hjf ops.size
      rw [show decide (j < ops.size) = true from by simp [hjs]] at this
      simp only [cond_true] at this
      omega
    rw [← htg]
    refine wpAny_monoQ (fun _ _ _ h => Post.after (he1.trans hev) h) _ _ _ _ (hk ?_ ⟨by rw [dstOf, ho]; rfl, coh_fix hcoh⟩ (fun s hs hf => ?_) _ ok' L' w' _ (inv_next hI1 hj ho (a := a) (fun m hm => ?_) (fun m hm e => ?_) (fun m hm => ?_) ⟨_, List.mem_cons_self .., rfl⟩ (fun m hm hf => ?_) (fun m hm hne d hmd => ?_) hd hev hs' hv))
    · have e1 : ((⟨j, a, env, true⟩ :: steps.map (fixS ops j) : List Stp).reverse.map (·.i) ++ rem) = steps.reverse.map (·.i) ++ j :: rem := by
        rw [List.reverse_cons, List.map_append, List.append_assoc, ← List.map_reverse, List.map_map]
        rfl
      rw [e1]; exact hplan
    · rcases List.mem_cons.1 hs with rfl | hs
      · cases hf
      · obtain ⟨s0, hs0, rfl⟩ := List.mem_map.1 hs
        change (s0.f || bef ops s0.i j) = false at hf
        rw [Bool.or_eq_false_iff] at hf
        obtain ⟨o1, g1, g2, g3, _⟩ := hgood s0 hs0 hf.1
        rcases hloose.all s0 hs0 with h | h | ⟨o2, h1, h2⟩
        · rw [hf.1] at h; cases h
        · rw [hf.2] at h; cases h
        · rw [g1] at h1; cases h1
          exact ⟨o1, g1, g2, g3, h2⟩
    · rcases List.mem_cons.1 hm with rfl | hm
      · exact .inr ⟨rfl, rfl⟩
      · obtain ⟨s0, hs0, rfl⟩ := List.mem_map.1 hm
        exact .inl ⟨s0, hs0, rfl, rfl⟩
    · rcases List.mem_cons.1 hm with rfl | hm
      · rfl
      · obtain ⟨s0, hs0, rfl⟩ := List.mem_map.1 hm
        exact absurd e (hnot s0 hs0)
    · exact ⟨fixS ops j m, by simp only [List.mem_cons, List.mem_map]; exact .inr ⟨m, hm, rfl⟩, rfl⟩
    · rcases List.mem_cons.1 hm with rfl | hm
      · exact .inl rfl
      · obtain ⟨s0, hs0, rfl⟩ := List.mem_map.1 hm
        change (s0.f || bef ops s0.i j) = true at hf
        rw [Bool.or_eq_true] at hf
        rcases hf with hf | hf
        · exact .inr (hI1.fx s0 hs0 hf)
        · exact .inr (getD_true_of_false (closed_before hI1.cl hj (bef_before hf)))
    · rcases List.mem_cons.1 hm with rfl | hm
      · exact absurd rfl hne
      · obtain ⟨s0, hs0, rfl⟩ := List.mem_map.1 hm
        change dstOf ops s0.i = some d at hmd
        cases hom : ops[s0.i]? with
        | none => rw [dstOf, hom] at hmd; cases hmd
        | some om =>
          have h3 : om.dst = some d := by rw [dstOf, hom] at hmd; exact hmd
          exact (hx s0 hs0 j (by simp)).dst om o d hom ho h3
theorem afl_callP {e : Nat} {f : Operand} {args : Array Operand} {ts : Array TypeId} {fa : AVal} {g : FuncId} {caps : List AVal} {avs : List AVal} {R : AEnd → Store → Prop} {d : Option Tmp} {ty : TypeId} {pos : String} {after : Array Edge} (ho : ops[e]? = some ⟨d, .call { callee := .value f, args := args, argTypes := ts }, ty, pos, after, none⟩) (hok : effOK ops e rem = true) (hin : Into P g)
    (hf : aval env f = some fa) (hc : calleeOf fa = some (g, caps)) (ha : avals (aval env) args.toList = some avs) (h : AC P g (avs ++ caps) σ R) (hd : ∀ t, d = some t → t < n)
    (k : ∀ r σ', R r σ' → match r with | .ret a => Loose P ops e σ' steps ∧ AFl P n ops Q env0 (⟨e, a, env, true⟩ :: steps.map (fixS ops e)) rem (env.putd d a) σ' | .pan a => Q (.panic a) [] σ') : AFl P n ops Q env0 steps (e :: rem) env σ :=
  afl_forcedP (fun a σ' => Q (.panic a) [] σ') (fun _ _ h => h) ho rfl hok hd fun ok L w act hs hr K hK => by
    obtain ⟨vs, hrun, hv⟩ := call_run (E := aval env) (d := d) (ty := ty) (pos := pos) (after := after) (guard := none) (ts := ts) hin hr hf hc ha
    unfold Oper.wp
    rw [hrun]
    refine (h ok L w vs hs hv).mono ?_
    rintro x w' ⟨r, σ', ok', L', hR, he, hs', hx⟩
    have hk := k _ _ hR
    cases r with
    | ret a =>
      cases x with
      | returned v => exact hK _ _ _ _ _ _ hk.1 hk.2 he hs' hx
      | _ => exact hx.elim
    | pan a =>
      cases x with
      | panicked chain =>
        obtain ⟨v, rfl, h4⟩ := hx
        exact ⟨a, σ', ok', L', v, hk, he, hs', rfl, rfl, h4⟩
      | _ => exact hx.elim
theorem aany_panic {p : Nat} {x : Operand} {t : TypeId} {v : Value} {d : Option Tmp} {ty : TypeId} {pos : String} {after : Array Edge} (hok : forcedOK ops p = true) (ho : ops[p]? = some ⟨d, .panic x, ty, pos, after, none⟩)
    (hx : aval env x = some (.v (.iface t v))) (h : Q (.panic (.v (.iface t v))) env σ) : AAny P n ops Q p env σ :=
  aany_forced hok ho rfl fun ok L w act h1 h2 h3 h4 K hK => by
    have e := rep_bool (h2.aval hx)
    unfold Oper.wp
    have hr : (execOp act.eval ⟨d, .panic x, ty, pos, after, none⟩).run P w = .halt (.panic (.iface t v)) w := by
      simp [execOp, Instr.panic, e, goPanic]
    rw [hr, Oper.upon_panic]
    exact ⟨.panic (.v (.iface t v)), env, σ, ok, L, h, .refl _ _ _ _, h1, h2, h3, h4, _, rfl, .v _⟩
theorem opR_of {o : Oper} {E : Operand → Option AVal} {a : AVal} (h : OpTo P o E σ a σ') : OpR P o E σ (fun b σ2 => b = a ∧ σ2 = σ') := fun ok L w ρ hs hr => by
  obtain ⟨v, w', ok', L', h1, h2, h3, h4⟩ := h ok L w ρ hs hr
  exact ⟨a, σ', v, w', ok', L', ⟨rfl, rfl⟩, h1, h2, h3, h4⟩
theorem val_re {o : Oper} {E : Operand → Option AVal} {a : AVal} (b : AVal) (h : OpTo P o E σ a σ') (r : ReA a b) : OpTo P o E σ b σ' := by
  intro ok L w ρ hs hr
  obtain ⟨v, w', ok', L', h1, h2, h3, h4⟩ := h ok L w ρ hs hr
  exact ⟨v, w', ok', L', h1, h2, h3, r.rep h4⟩
end
section
variable {P : Program} {n : Nat} {env : Env} {σ : Store} {QD : DPost} {D : ADefs}
def Act.addD (a : Act) (ds : List Deferred) : Act := { a with defers := a.defers ++ ds }
def QAdd (Q : Exit → Act → World → Prop) (ds : List Deferred) : Exit → Act → World → Prop := fun e a w => ∃ a0, a = Act.addD a0 ds ∧ Q e a0 w
theorem addD_put (a : Act) (ds : List Deferred) (d : Option Tmp) (v : Value) : (Act.addD a ds).put d v = Act.addD (a.put d v) ds := by cases d <;> rfl
theorem addD_eval (a : Act) (ds : List Deferred) : (Act.addD a ds).eval = a.eval := rfl
theorem oper_addD {o : Oper} {a : Act} {w : World} {K K' : Act → World → Prop} {Q : Exit → Act → World → Prop} {ds : List Deferred} (hK : ∀ a w, K a w → K' (Act.addD a ds) w) (h : o.wp P a w K Q) : o.wp P (Act.addD a ds) w K' (QAdd Q ds) := by
  unfold Oper.wp at *
  rw [addD_eval]
  generalize (execOp a.eval o).run P w = r at *
  cases r with
  | ok x w' =>
    cases x <;> simp only [Oper.upon] at h ⊢ <;> first
      | exact h
      | (rw [addD_put]; exact hK _ _ h)
      | exact Calls.mono h (fun e w'' he => by cases e <;> first | (simp only at he ⊢; rw [addD_put]; exact hK _ _ he) | exact ⟨_, rfl, he⟩ | (obtain ⟨a0, w0, hq⟩ := he; exact ⟨_, w0, a0, rfl, hq⟩))
      | exact Rows.mono h (fun _ _ he => by rw [addD_put]; exact hK _ _ he)
      | (have := hK _ _ h; rw [← addD_put] at this; exact this)
  | halt x w' => cases x <;> simp only [Oper.upon] at h ⊢ <;> first | exact h | exact ⟨_, rfl, h⟩
theorem letsOut_addD {Q : Exit → Act → World → Prop} {ds : List Deferred} (h : LetsOut Q) : LetsOut (QAdd Q ds) := by
  obtain ⟨a, w, hq⟩ := h
  exact ⟨Act.addD a ds, w, a, rfl, hq⟩
theorem wpList_addD {ops : Array Oper} {Q : Exit → Act → World → Prop} {ds : List Deferred} : ∀ (l : List Oper) (a : Act) (w : World), wpList P ops Q l a w → wpList P ops (QAdd Q ds) l (Act.addD a ds) w
  | [], a, w, h => ⟨a, rfl, h⟩
  | o :: l, a, w, h => by
    unfold wpList at h ⊢
    split
    · rename_i hw
      have hw' : Region.wanted o (yielded ops a.tmps) = true := hw
      rw [if_pos hw'] at h
      rcases h with h | ⟨h1, h2⟩
      · exact .inl (oper_addD (fun a w h => wpList_addD l a w h) h)
      · exact .inr ⟨h1, letsOut_addD h2⟩
    · rename_i hw
      have hw' : ¬ Region.wanted o (yielded ops a.tmps) = true := hw
      rw [if_neg hw'] at h
      rw [addD_put]
      exact wpList_addD l _ _ h
theorem wpOp_addD {ops : Array Oper} {Q : Exit → Act → World → Prop} {ds : List Deferred} {K K' : Act → World → Prop} {i : Nat} {a : Act} {w : World} (hK : ∀ a w, K a w → K' (Act.addD a ds) w) (h : wpOp P ops Q i K a w) : wpOp P ops (QAdd Q ds) i K' (Act.addD a ds) w := by
  unfold wpOp at *
  cases ho : ops[i]? with
  | none => rw [ho] at h; exact hK _ _ h
  | some o =>
    rw [ho] at h
    simp only at h ⊢
    by_cases hw : Region.wanted o (yielded ops a.tmps) = true
    · rw [if_pos hw] at h
      rw [if_pos (show Region.wanted o (yielded ops (Act.addD a ds).tmps) = true from hw)]
      rcases h with h | ⟨h1, h2⟩
      · exact .inl (oper_addD hK h)
      · exact .inr ⟨h1, letsOut_addD h2⟩
    · rw [if_neg hw] at h
      rw [if_neg (show ¬ Region.wanted o (yielded ops (Act.addD a ds).tmps) = true from hw), addD_put]
      exact hK _ _ h
theorem wpAny_addD {md : Region.Mode} {ops : Array Oper} {Q : Exit → Act → World → Prop} {ds : List Deferred} : ∀ (fuel : Nat) (listed : Array Bool) (a : Act) (w : World), wpAny P md ops Q fuel listed a w → wpAny P md ops (QAdd Q ds) fuel listed (Act.addD a ds) w
  | 0, listed, a, w, h => ⟨h.1, a, rfl, h.2⟩
  | fuel + 1, listed, a, w, h => ⟨fun h0 => ⟨a, rfl, h.1 h0⟩, fun i hi => wpOp_addD (fun a w h => wpAny_addD fuel _ a w h) (h.2 i hi)⟩
theorem postD_of_add {ok : Nat → Prop} {L : Loc} {w : World} {ds : List Deferred} (hs : Sim ok L σ w) (hd : DefRep ok L w D ds) {e : Exit} {a : Act} {w' : World} (h : QAdd (Post n (fun ae env σ => QD ae env σ D) ok L σ w) ds e a w') : PostD n QD ok L σ w e a w' := by
  obtain ⟨a0, rfl, ae, env', σ', ok', L', hq, he, hs', hr', hd', hn', hx⟩ := h
  refine ⟨ae, env', σ', D, ok', L', hq, he, hs', hr', ?_, hn', hx⟩
  show DefRep ok' L' w' D (a0.defers ++ ds)
  rw [hd', List.nil_append]
  exact hd.evo hs he
theorem awd_region_l {id : Nat} {l : List Oper} (h : AL P n l.toArray l (fun ae env σ => QD ae env σ D) env σ) : AWD P n (.region id l.toArray false) QD env σ D := by
  intro ok L w act h1 h2 h3 h4
  have h5 := wpList_addD (ds := act.defers) l _ _ (h ok L w { act with defers := [] } h1 h2 rfl h4)
  have e : Act.addD { act with defers := [] } act.defers = act := by simp [Act.addD]
  rw [e] at h5
  exact wp_mono (wp_region_lit h5) (fun _ _ _ hp => postD_of_add h1 h3 hp)
theorem awd_any {id : Nat} {l : List Oper} (hm : P.follows .mixedOrders = true) (h : AAny P n l.toArray (fun ae env σ => QD ae env σ D) 0 env σ) : AWD P n (.region id l.toArray true) QD env σ D := by
  intro ok L w act h1 h2 h3 h4
  have hd : Evo ok L σ w ok L σ w.drew := ⟨rfl, rfl, rfl, Nat.le_refl _, fun _ _ _ => rfl, fun _ _ h => h, fun _ h => h, fun _ h _ => .inl h, fun _ => Nat.le_refl _, fun _ _ => ⟨rfl, rfl, rfl⟩⟩
  have hs : Sim ok L σ w.drew := ⟨fun i v o h => (h1.objs i v o h).evo h1 hd rfl (fun _ => rfl), h1.lt, h1.inj, h1.okd, h1.globEvo hd⟩
  have h5 := wpAny_addD (ds := act.defers) _ _ _ _ (h ok L w.drew { act with defers := [] } hs (h2.evo h1 hd) rfl h4)
  have e : Act.addD { act with defers := [] } act.defers = act := by simp [Act.addD]
  rw [e] at h5
  refine wp_mono (wp_region_any (Q := QAdd (Post n (fun ae env σ => QD ae env σ D) ok L σ w.drew) act.defers) hm ?_) (fun _ _ _ hp => postD_after hd (postD_of_add hs (h3.evo h1 hd) hp))
  have e2 : prefixB l.toArray.size 0 = Array.replicate l.toArray.size false := by
    apply Array.ext (by simp [prefix_size])
    intro i h1 h2
    simp [prefixB]
  rw [e2] at h5
  simpa using h5
theorem awd_plan {id : Nat} {l : List Oper} (π : List Nat) (hm : P.follows .mixedOrders = true) (hok : planOK l.toArray π = true) (h : AFl P n l.toArray (fun ae env σ => QD ae env σ D) env [] π env σ) : AWD P n (.region id l.toArray true) QD env σ D := by
  refine awd_any hm ?_
  intro ok L w act hs hr hdf hn
  have hf : ∀ i, i < l.toArray.size → (prefixB l.toArray.size 0).getD i true = false := fun i hi => by rw [prefix_get, if_pos hi]; simp
  have e : l.toArray.size - 0 = togo (prefixB l.toArray.size 0) l.toArray.size := by rw [togo_prefix _ _ _ (Nat.le_refl _)]
  rw [e]
  refine h (by simpa using hok) rfl (fun s hs => by cases hs) _ ok L w act ⟨prefix_size _ _, fun i j hb hj => ?_, fun i hi hl => ?_, fun s hs => (by cases hs), hs, hdf, hn, fun s hs => (by cases hs), fun t a ht _ => hr t a ht⟩
  · rw [prefix_get] at hj
    split at hj
    · simp at hj
    · cases hj
  · rw [hf i hi] at hl; cases hl
theorem acd_recover {g : FuncId} {fn : Func} {id t nt : Nat} {ty : TypeId} {pos : String} {after : Array Edge} {rest : Code} {avs : List AVal} {R : Store → Prop} (u u' : FrameMode) (a : AVal) (v : Value)
    (hf : P.funcs[g]? = some fn) (hb : fn.body = some (.seq (.region id #[⟨some t, .call { callee := .builtin .recover, args := #[], argTypes := #[] }, ty, pos, after, none⟩] false) rest)) (hn : fn.ntmps = nt) (hl : avs.length ≤ nt) (ht : t < nt) (hr : fn.results = #[])
    (hrec : ∀ (c₀ : Frame) (cs : List Frame), c₀.mode = u → (match recoverD (c₀ :: cs) with | some (x, cs') => x = v ∧ cs' = { c₀ with mode := u' } :: cs | none => v = .nilIface ∧ u' = u))
    (h : AW P nt rest (fun ae env' σ' => (ae = .normal ∨ ae = .ret) ∧ R σ') ((t, a) :: initEnv 0 avs) σ)
    {ok : Nat → Prop} {L : Loc} {w : World} {vs : List Value} (hs : Sim ok L σ w) (hv : All2 (Rep ok L w) avs vs) (hp : Rep ok L w a v) :
    CallsD P g vs.toArray u w fun e u2 w' => ∃ x, e = .returned x ∧ u2 = u' ∧ ∃ σ' ok' L', R σ' ∧ Evo ok L σ w ok' L' σ' w' ∧ Sim ok' L' σ' w' := by
  subst hn
  refine callsD_of_wpS hf hb fun c₀ cs hu => ?_
  apply wpS_seq
  apply wpS_region
  have hk := hrec c₀ cs hu
  have hlen := All2.length _ _ hv
  have key : ∀ act : Act, act.tmps.size = fn.ntmps → RepEnv ok L w (initEnv 0 avs) act.tmps → act.defers = [] → rest.wpS P (bodyPostS P fn c₀ cs (fun e u2 w' => ∃ x, e = .returned x ∧ u2 = u' ∧ ∃ σ' ok' L', R σ' ∧ Evo ok L σ w ok' L' σ' w' ∧ Sim ok' L' σ' w')) (act.put (some t) v) ({ c₀ with mode := u' } :: cs) w := by
    intro act hsz hre hde
    refine wpS_of_wp (wp_mono (h ok L w (act.put (some t) v) hs ?_ hde ?_) ?_)
    · exact RepEnv.put (dst := some t) hre hp (fun d hd => by cases hd; exact hsz.symm ▸ ht)
    · rw [put_size]; exact hsz
    · rintro e a' w' ⟨ae, env', σ', ok', L', ⟨hq, hR⟩, he, hs', hr', hd', hn', hx⟩
      have hres : (results fn a'.tmps).run P w' = .ok (.tuple #[]) w' := results_none hr a'.tmps P w'
      rcases hq with rfl | rfl <;> cases e <;> simp only [ExitRep] at hx <;> exact ⟨hd', u', rfl, _, hres, _, rfl, rfl, σ', ok', L', hR, he, hs'⟩
  have hre : RepEnv ok L w (initEnv 0 avs) (vs.toArray ++ Array.replicate (fn.ntmps - vs.toArray.size) undef) := by
    have := initEnv_rep avs vs hv 0 [] (List.replicate (fn.ntmps - vs.length) undef) rfl
    simp only [List.nil_append] at this
    rw [show vs.toArray ++ Array.replicate (fn.ntmps - vs.toArray.size) undef = (vs ++ List.replicate (fn.ntmps - vs.length) undef).toArray from by simp]
    exact this
  have hk2 := key { tmps := vs.toArray ++ Array.replicate (fn.ntmps - vs.toArray.size) undef, defers := [] } (by simp; omega) hre rfl
  have hw : Region.wanted (⟨some t, .call { callee := .builtin .recover, args := #[], argTypes := #[] }, ty, pos, after, none⟩ : Oper) (yielded #[⟨some t, .call { callee := .builtin .recover, args := #[], argTypes := #[] }, ty, pos, after, none⟩] (vs.toArray ++ Array.replicate (fn.ntmps - vs.toArray.size) undef)) = true := by simp [Region.wanted]
  have hx : ∀ (ρ : Operand → Value), (execOp ρ ⟨some t, .call { callee := .builtin .recover, args := #[], argTypes := #[] }, ty, pos, after, none⟩).run P w = .ok .recover w := fun ρ => by simp [go_sem]
  show wpOpsS P _ _ [0] _ _ _
  simp only [wpOpsS, List.getElem?_toArray, List.getElem?_cons_zero, hw, if_true, hx]
  cases hrd : recoverD (c₀ :: cs) with
  | none =>
    rw [hrd] at hk
    obtain ⟨rfl, rfl⟩ := hk
    subst hu
    exact hk2
  | some p =>
    obtain ⟨x, cs'⟩ := p
    rw [hrd] at hk
    obtain ⟨rfl, rfl⟩ := hk
    exact hk2
theorem acdp_of {g : FuncId} {fn : Func} {id t nt : Nat} {ty : TypeId} {pos : String} {after : Array Edge} {rest : Code} {avs : List AVal} {a : AVal} {R : Store → Prop}
    (hf : P.funcs[g]? = some fn) (hb : fn.body = some (.seq (.region id #[⟨some t, .call { callee := .builtin .recover, args := #[], argTypes := #[] }, ty, pos, after, none⟩] false) rest)) (hn : fn.ntmps = nt) (hl : avs.length ≤ nt) (ht : t < nt) (hr : fn.results = #[])
    (h : AW P nt rest (fun ae env' σ' => (ae = .normal ∨ ae = .ret) ∧ R σ') ((t, a) :: initEnv 0 avs) σ) : ACDp P g avs a σ R := by
  intro ok L w vs pv hs hv hp
  refine CallsD.mono (acd_recover (.panicking [{ v := pv, recovered := false }]) (.panicking [{ v := pv, recovered := true }]) a pv hf hb hn hl ht hr ?_ h hs hv hp) ?_
  · intro c₀ cs hu
    simp [recoverD, hu]
  · rintro e u2 w' ⟨x, rfl, rfl, h2⟩
    exact ⟨x, rfl, rfl, h2⟩
theorem acdr_of {g : FuncId} {fn : Func} {id t nt : Nat} {ty : TypeId} {pos : String} {after : Array Edge} {rest : Code} {avs : List AVal} {R : Store → Prop}
    (hf : P.funcs[g]? = some fn) (hb : fn.body = some (.seq (.region id #[⟨some t, .call { callee := .builtin .recover, args := #[], argTypes := #[] }, ty, pos, after, none⟩] false) rest)) (hn : fn.ntmps = nt) (hl : avs.length ≤ nt) (ht : t < nt) (hr : fn.results = #[])
    (h : AW P nt rest (fun ae env' σ' => (ae = .normal ∨ ae = .ret) ∧ R σ') ((t, .v .nilIface) :: initEnv 0 avs) σ) : ACDr P g avs σ R := by
  intro ok L w vs hs hv
  refine CallsD.mono (acd_recover .returning .returning (.v .nilIface) .nilIface hf hb hn hl ht hr ?_ h hs hv (.v _)) ?_
  · intro c₀ cs hu
    simp [recoverD, hu]
  · rintro e u2 w' ⟨x, rfl, rfl, h2⟩
    exact ⟨x, rfl, rfl, h2⟩
theorem op_assert_agg {E : Operand → Option AVal} {d : Option Tmp} {ty : TypeId} {pos : String} {after : Array Edge} {guard : Option (Nat × Bool)} {x : Operand} {s t : TypeId} {vals : List Value} {td : TypeDesc} (ht : P.underlying t = some td) (hi : (match td with | .interface _ => false | _ => true) = true) (hx : E x = some (.v (.iface t (.agg vals.toArray)))) :
    OpTo P ⟨d, .typeAssert x s t true, ty, pos, after, guard⟩ E σ (.tuple [.agg (vals.map .v), .v (.bool true)]) σ :=
  op_value fun ok L w ρ hs hr => by
    have e := rep_bool (hr x (by simp [Op.operands]) _ hx)
    have key : ∀ vals : List Value, All2 (RepL ok L w) (vals.map .v) vals := by
      intro vals
      induction vals with
      | nil => trivial
      | cons a r ih => exact ⟨RepC.v a, ih⟩
    refine ⟨.tuple #[.agg vals.toArray, .bool true], ?_, [.agg vals.toArray, .bool true], rfl, ⟨vals, rfl, key vals⟩, RepC.v _, trivial⟩
    cases td <;> simp_all [execOp, Instr.typeAssert, run_underlying ht]
end
end Go.Proofs.YtcgdlhkiecommaaGreatDoor
/- The engine: the rules that walks use most, under short names, with what is always proved the same way. -/


namespace Go.Proofs.YtcgdlhkiecommaaGreatDoor
open Go
section
variable {P : Program} {n : Nat} {Q : APost} {env : Env} {σ : Store} {ops : Array Oper} {rest : List Oper}
variable {d : Option Tmp} {ty : TypeId} {pos : String} {after : Array Edge} {guard : Option (Nat × Bool)}
theorem aw_sr {id : Nat} {l : List Oper} {y : Code} (h : AL P n l.toArray l (AExit.then (fun env σ => AW P n y Q env σ) Q) env σ) : AW P n (.seq (.region id l.toArray false) y) Q env σ := aw_seq (aw_region h)
theorem al_mv {x : Operand} {a : AVal} (k : AL P n ops rest Q (env.putd d a) σ) (h : aval env x = some a := by exact rfl) (hd : ∀ e, d = some e → e < n := by simp) : AL P n ops (⟨d, .move x, ty, pos, after, none⟩ :: rest) Q env σ := al_op (op_move h) rfl hd k
theorem al_gs {x : Operand} {a : AVal} (k : AL P n ops rest Q (env.putd d a) σ) (h : aval env x = some a := by exact rfl) (hd : ∀ e, d = some e → e < n := by simp) : AL P n ops (⟨d, .assign x, ty, pos, after, none⟩ :: rest) Q env σ := al_op (op_assign h) rfl hd k
theorem al_pk {c x y : Operand} {a : AVal} {b : Bool} (k : AL P n ops rest Q (env.putd d a) σ) (hc : aval env c = some (.v (.bool b)) := by exact rfl) (ha : (bif b then aval env x else aval env y) = some a := by exact rfl) (hd : ∀ e, d = some e → e < n := by simp) : AL P n ops (⟨d, .pick c x y, ty, pos, after, none⟩ :: rest) Q env σ := al_op (op_pick hc ha) rfl hd k
theorem al_ld {x : Operand} {t : TypeId} {td : TypeDesc} {inf : TypeInfo} {id ver i j sz : Nat} {els : List (List AVal)} {el : List AVal} {a : AVal} (ht : P.underlying t = some td) (hi : P.info? t = some inf) (k : AL P n ops rest Q (env.putd d a) σ) (hx : aval env x = some (.ptr id ver i j) := by exact rfl) (hid : σ.get id = some (ver, .row sz els) := by exact rfl) (hel : els[i]? = some el := by exact rfl)
    (ha : asOne (TypeDesc.isAggB td) inf.size (el.drop j) = some a := by exact rfl) (hd : ∀ e, d = some e → e < n := by simp) : AL P n ops (⟨d, .load t x, ty, pos, after, none⟩ :: rest) Q env σ := al_op (op_load_ptr ht hi hx hid hel ha) rfl hd k
theorem tk_ld {x : Operand} {t : TypeId} {td : TypeDesc} {inf : TypeInfo} {id ver i j sz : Nat} {els : List (List AVal)} {el : List AVal} {a : AVal} {g gd : Nat} {og : Oper} {b : Bool} (ht : P.underlying t = some td) (hi : P.info? t = some inf) (k : AL P n ops rest Q (env.putd d a) σ) (hx : aval env x = some (.ptr id ver i j) := by exact rfl) (hid : σ.get id = some (ver, .row sz els) := by exact rfl) (hel : els[i]? = some el := by exact rfl)
    (ha : asOne (TypeDesc.isAggB td) inf.size (el.drop j) = some a := by exact rfl) (hog : ops[g]? = some og := by exact rfl) (hdst : og.dst = some gd := by exact rfl) (hb : env.get gd = some (.v (.bool b)) := by exact rfl) (hd : ∀ e, d = some e → e < n := by simp) : AL P n ops (⟨d, .load t x, ty, pos, after, some (g, b)⟩ :: rest) Q env σ := al_take (op_load_ptr ht hi hx hid hel ha) rfl hog hdst hb hd k
theorem tk_mv {x : Operand} {a : AVal} {g gd : Nat} {og : Oper} {b : Bool} (k : AL P n ops rest Q (env.putd d a) σ) (h : aval env x = some a := by exact rfl) (hog : ops[g]? = some og := by exact rfl) (hdst : og.dst = some gd := by exact rfl) (hb : env.get gd = some (.v (.bool b)) := by exact rfl) (hd : ∀ e, d = some e → e < n := by simp) : AL P n ops (⟨d, .move x, ty, pos, after, some (g, b)⟩ :: rest) Q env σ := al_take (op_move h) rfl hog hdst hb hd k
theorem al_fp {x : Operand} {s f ft id ver i j off : Nat} {fs : Array Field} {fl : Field} {inf : TypeInfo} {ob : AObj} (hs' : P.underlying s = some (.struct fs)) (hi : P.info? ft = some inf) (k : AL P n ops rest Q (env.putd d (.ptr id ver i (j + off))) σ) (hf : fs[f]? = some fl := by exact rfl) (hft : fl.type = ft := by exact rfl) (h0 : inf.size ≠ 0 := by decide) (hoff : fl.offset = off := by exact rfl)
    (hx : aval env x = some (.ptr id ver i j) := by exact rfl) (hid : σ.get id = some (ver, ob) := by exact rfl) (hd : ∀ e, d = some e → e < n := by simp) : AL P n ops (⟨d, .fieldAddr s x f, ty, pos, after, none⟩ :: rest) Q env σ := al_op (op_field_ptr hs' hf (hft ▸ hi) h0 hoff hx hid) rfl hd k
theorem tk_fp {x : Operand} {s f ft id ver i j off : Nat} {fs : Array Field} {fl : Field} {inf : TypeInfo} {ob : AObj} {g gd : Nat} {og : Oper} {b : Bool} (hs' : P.underlying s = some (.struct fs)) (hi : P.info? ft = some inf) (k : AL P n ops rest Q (env.putd d (.ptr id ver i (j + off))) σ) (hf : fs[f]? = some fl := by exact rfl) (hft : fl.type = ft := by exact rfl) (h0 : inf.size ≠ 0 := by decide) (hoff : fl.offset = off := by exact rfl)
    (hx : aval env x = some (.ptr id ver i j) := by exact rfl) (hid : σ.get id = some (ver, ob) := by exact rfl) (hog : ops[g]? = some og := by exact rfl) (hdst : og.dst = some gd := by exact rfl) (hb : env.get gd = some (.v (.bool b)) := by exact rfl) (hd : ∀ e, d = some e → e < n := by simp) : AL P n ops (⟨d, .fieldAddr s x f, ty, pos, after, some (g, b)⟩ :: rest) Q env σ := al_take (op_field_ptr hs' hf (hft ▸ hi) h0 hoff hx hid) rfl hog hdst hb hd k
theorem al_sp {x y : Operand} {t : TypeId} {inf : TypeInfo} {id ver i j sz : Nat} {els : List (List AVal)} {el : List AVal} {a : AVal} (hi : P.info? t = some inf) (k : AL P n ops rest Q (env.putd d (.v undef)) (σ.put id ver (.row sz (els.set i (splice el j a.cells))))) (hx : aval env x = some (.ptr id ver i j) := by exact rfl) (hy : aval env y = some a := by exact rfl) (hid : σ.get id = some (ver, .row sz els) := by exact rfl) (hel : els[i]? = some el := by exact rfl)
    (hsz : inf.size = a.cells.length := by exact rfl) (h1 : a.cells.all AVal.oneB = true := by exact rfl) (hl : a.cells.all (AVal.live σ) = true := by first | rfl | exact live_one rfl | (repeat (first | exact all_live_nil | refine all_live_clo rfl ?_ | refine all_live_slice rfl ?_ | refine all_live_map rfl ?_ | refine all_live_ptr rfl ?_))) (hfit : j + a.cells.length ≤ el.length := by first | decide | exact Nat.le_of_ble_eq_true rfl) (hd : ∀ e, d = some e → e < n := by simp) :
    AL P n ops (⟨d, .store t x y, ty, pos, after, none⟩ :: rest) Q env σ := al_op (op_store_ptr hi hx hy hid hel hsz h1 hl hfit) rfl hd k
theorem al_bx {t : TypeId} {x : Operand} {a : AVal} (id : Nat) (k : ∀ ver, AL P n ops rest Q (env.putd d (.ptr id ver 0 0)) (σ.put id ver (.row a.cells.length [a.cells]))) (hx : aval env x = some a := by exact rfl) (h1 : a.cells.all AVal.oneB = true := by exact rfl) (hl : a.cells.all (AVal.live σ) = true := by first | rfl | exact live_one rfl | (repeat (first | exact all_live_nil | refine all_live_clo rfl ?_ | refine all_live_slice rfl ?_ | refine all_live_map rfl ?_ | refine all_live_ptr rfl ?_))) (hd : ∀ e, d = some e → e < n := by simp) :
    AL P n ops (⟨d, .box t x, ty, pos, after, none⟩ :: rest) Q env σ := al_opR (op_box id hx h1 hl) rfl hd (by rintro _ _ ⟨ver, rfl, rfl⟩; exact k ver)
theorem al_ps {o : Oper} {g gd : Nat} {og : Oper} {b : Bool} (k : AL P n ops rest Q (env.putd o.dst (.v undef)) σ) (hg : o.guard = some (g, b) := by exact rfl) (hog : ops[g]? = some og := by exact rfl) (hdst : og.dst = some gd := by exact rfl) (hb : env.get gd = some (.v (.bool (!b))) := by exact rfl) (hd : ∀ d, o.dst = some d → d < n := by simp) : AL P n ops (o :: rest) Q env σ := al_pass hg hog hdst hb hd k
theorem subk {p q : Prop} (g : q) (h : q → p := by intro g; repeat (first | exact subx_refl | exact subx_known rfl g subx_refl | refine subx_put rfl ?_)) : p := h g
theorem al_nk {q : Prop} {k : Nat} {env0 : Env} {v : AVal} (g : q) (hv : env.get k = some v := by exact rfl) (h : q → SubX [k] env0 env := by intro g; repeat (first | exact subx_refl | exact subx_known rfl g subx_refl | refine subx_put rfl ?_)) : AL P n ops [] (fun e env' σ' => e = .normal ∧ σ' = σ ∧ env'.get k = some v ∧ ∀ u a, u ≠ k → env0.get u = some a → env'.get u = some a) env σ := al_nil ⟨rfl, rfl, hv, keep_of (h g)⟩
theorem fz1 {t : Nat} {a : AVal} (k : AW P n .ret Q [(t, a)] (σ.keep fun _ => false)) (h : env.get t = some a := by exact rfl) : AW P n .ret Q env σ := aw_freeze (fun _ => false) (fsub_cons (t := t) h (.leaf _ _ (.same _)) fsub_nil) k
theorem al_sr {id : Nat} {l : List Oper} {y : Code} {Q' : APost} (h : AL P n l.toArray l (AExit.then (fun env σ => AW P n y Q' env σ) Q') env σ) : AL P n ops [] (AExit.then (fun env σ => AW P n (.seq (.region id l.toArray false) y) Q' env σ) Q') env σ := al_nil (aw_sr h)
theorem al_ad {x y : Operand} {t u : TypeId} {k : IntKind} {a b c : Int} (kk : AL P n ops rest Q (env.putd d (.v (.int k c))) σ) (hx : aval env x = some (.v (.int k a)) := by exact rfl) (hy : aval env y = some (.v (.int k b)) := by exact rfl) (hw : k.wrap (a + b) = c := by first | exact wrap_i64 (by omega) (by omega) | exact wrap_u8 (by omega) (by omega)) (hd : ∀ e, d = some e → e < n := by simp) : AL P n ops (⟨d, .binOp .add t x y u, ty, pos, after, none⟩ :: rest) Q env σ := al_op (op_add hx hy hw) rfl hd kk
theorem al_eq {x y : Operand} {t u : TypeId} {k : IntKind} {a b : Int} (kk : AL P n ops rest Q (env.putd d (.v (.bool (a == b)))) σ) (hx : aval env x = some (.v (.int k a)) := by exact rfl) (hy : aval env y = some (.v (.int k b)) := by exact rfl) (hd : ∀ e, d = some e → e < n := by simp) : AL P n ops (⟨d, .binOp .eql t x y u, ty, pos, after, none⟩ :: rest) Q env σ := al_op (op_eql hx hy) rfl hd kk
theorem tk_eq {x y : Operand} {t u : TypeId} {k : IntKind} {a b : Int} {g gd : Nat} {og : Oper} {c : Bool} (kk : AL P n ops rest Q (env.putd d (.v (.bool (a == b)))) σ) (hx : aval env x = some (.v (.int k a)) := by exact rfl) (hy : aval env y = some (.v (.int k b)) := by exact rfl) (hog : ops[g]? = some og := by exact rfl) (hdst : og.dst = some gd := by exact rfl) (hb : env.get gd = some (.v (.bool c)) := by exact rfl) (hd : ∀ e, d = some e → e < n := by simp) : AL P n ops (⟨d, .binOp .eql t x y u, ty, pos, after, some (g, c)⟩ :: rest) Q env σ := al_take (op_eql hx hy) rfl hog hdst hb hd kk
theorem al_ls {x y : Operand} {t u : TypeId} {k : IntKind} {a b : Int} (kk : AL P n ops rest Q (env.putd d (.v (.bool (decide (a < b))))) σ) (hx : aval env x = some (.v (.int k a)) := by exact rfl) (hy : aval env y = some (.v (.int k b)) := by exact rfl) (hd : ∀ e, d = some e → e < n := by simp) : AL P n ops (⟨d, .binOp .lss t x y u, ty, pos, after, none⟩ :: rest) Q env σ := al_op (op_lss hx hy) rfl hd kk
theorem al_xt {x : Operand} {i : Nat} {comps : List AVal} {a : AVal} (kk : AL P n ops rest Q (env.putd d a) σ) (hx : aval env x = some (.tuple comps) := by exact rfl) (ha : comps[i]? = some a := by exact rfl) (hf : a.flat = true := by exact rfl) (hd : ∀ e, d = some e → e < n := by simp) : AL P n ops (⟨d, .extract x i, ty, pos, after, none⟩ :: rest) Q env σ := al_op (op_extract hx ha hf) rfl hd kk
theorem al_lm {α : Type} {f : α → List AVal} {l : List α} {x : Operand} {t e sz : Nat} (ht : P.underlying t = some (.slice e)) (kk : AL P n ops rest Q (env.putd d (.v (.int .i64 l.length))) σ) (hx : aval env x = some (.list sz (l.map f)) := by exact rfl) (hd : ∀ e, d = some e → e < n := by simp) : AL P n ops (⟨d, .call { callee := .builtin .len, args := #[x], argTypes := #[t] }, ty, pos, after, none⟩ :: rest) Q env σ := al_op (op_len_map ht hx) rfl hd kk
theorem al_lr {x : Operand} {t : TypeId} {td : TypeDesc} {inf : TypeInfo} {cells : List AVal} {a : AVal} (ht : P.underlying t = some td) (hi : P.info? t = some inf) (kk : AL P n ops rest Q (env.putd d a) σ) (hx : aval env x = some (.rptr cells) := by exact rfl) (ha : asOne (TypeDesc.isAggB td) inf.size cells = some a := by exact rfl) (hd : ∀ e, d = some e → e < n := by simp) : AL P n ops (⟨d, .load t x, ty, pos, after, none⟩ :: rest) Q env σ := al_op (op_load_rptr ht hi hx ha) rfl hd kk
theorem al_pu {o : Oper} {g gd : Nat} {og : Oper} {b : Bool} (k : AL P n ops rest Q (env.putd o.dst (.v undef)) σ) (hg : o.guard = some (g, b) := by exact rfl) (hog : ops[g]? = some og := by exact rfl) (hdst : og.dst = some gd := by exact rfl) (hb : env.get gd = some (.v undef) := by exact rfl) (hd : ∀ d, o.dst = some d → d < n := by simp) : AL P n ops (o :: rest) Q env σ := al_pass_undef hg hog hdst hb hd k
theorem al_al {t : TypeId} {inf : TypeInfo} {z : Value} (id : Nat) (hi : P.info? t = some inf) (k : ∀ ver, AL P n ops rest Q (env.putd d (.ptr id ver 0 0)) (σ.put id ver (.row z.cells.toList.length [z.cells.toList.map .v]))) (hz : inf.zero = some z := by exact rfl) (hz1 : z.cells.toList.all Value.oneCell' = true := by exact rfl) (hd : ∀ e, d = some e → e < n := by simp) : AL P n ops (⟨d, .alloc t, ty, pos, after, none⟩ :: rest) Q env σ := al_opR (op_alloc id hi hz hz1) rfl hd (by rintro _ _ ⟨ver, rfl, rfl⟩; exact k ver)
theorem tk_pk {c x y : Operand} {a : AVal} {b : Bool} {g gd : Nat} {og : Oper} {b' : Bool} (k : AL P n ops rest Q (env.putd d a) σ) (hc : aval env c = some (.v (.bool b)) := by exact rfl) (ha : (bif b then aval env x else aval env y) = some a := by exact rfl) (hog : ops[g]? = some og := by exact rfl) (hdst : og.dst = some gd := by exact rfl) (hb : env.get gd = some (.v (.bool b')) := by exact rfl) (hd : ∀ e, d = some e → e < n := by simp) : AL P n ops (⟨d, .pick c x y, ty, pos, after, some (g, b')⟩ :: rest) Q env σ := al_take (op_pick hc ha) rfl hog hdst hb hd k
theorem fz2 {t u : Nat} {a b : AVal} (k : AW P n .ret Q [(t, a), (u, b)] (σ.keep fun _ => false)) (h : env.get t = some a := by exact rfl) (h' : env.get u = some b := by exact rfl) : AW P n .ret Q env σ := aw_freeze (fun _ => false) (fsub_cons (t := t) h (.leaf _ _ (.same _)) (fsub_cons (t := u) h' (.leaf _ _ (.same _)) fsub_nil)) k
theorem ace {f : FuncId} {fn : Func} {c : Code} {avs : List AVal} {R : AEnd → Store → Prop} (nt : Nat) (hf : P.funcs[f]? = some fn) (h : AW P nt c (RetPost P fn R) (initEnv 0 avs) σ) (hb : fn.body = some c := by exact rfl) (hn : fn.ntmps = nt := by exact rfl) (hl : avs.length ≤ nt := by simp) : AC P f avs σ R := ac_enter nt hf hb hn hl h
theorem al_o {o : Oper} {a : AVal} {σ' : Store} (hop : OpTo P o (aval env) σ a σ') (k : AL P n ops rest Q (env.putd o.dst a) σ') (hg : o.guard = none := by exact rfl) (hd : ∀ d, o.dst = some d → d < n := by simp) : AL P n ops (o :: rest) Q env σ := al_op hop hg hd k
theorem al_t {o : Oper} {a : AVal} {σ' : Store} {g gd : Nat} {og : Oper} {b : Bool} (hop : OpTo P o (aval env) σ a σ') (k : AL P n ops rest Q (env.putd o.dst a) σ') (hg : o.guard = some (g, b) := by exact rfl) (hog : ops[g]? = some og := by exact rfl) (hdst : og.dst = some gd := by exact rfl) (hb : env.get gd = some (.v (.bool b)) := by exact rfl) (hd : ∀ d, o.dst = some d → d < n := by simp) : AL P n ops (o :: rest) Q env σ := al_take hop hg hog hdst hb hd k
theorem sub_1 {t : Nat} {a b : AVal} (e : a = b) (h : env.get t = some a := by exact rfl) : Sub [(t, b)] env := sub_cons (get_as h e) sub_nil
theorem sub_2 {t t' : Nat} {a b a' b' : AVal} (e : a = b) (e' : a' = b') (h : env.get t = some a := by exact rfl) (h' : env.get t' = some a' := by exact rfl) : Sub [(t, b), (t', b')] env := sub_cons (get_as h e) (sub_cons (get_as h' e') sub_nil)
theorem sbl {p : Prop} (h : p := by repeat (first | exact subx_refl | exact subx_del | refine subx_put rfl ?_)) : p := h
end
section
variable {P : Program} {E : Operand → Option AVal} {σ : Store} {d : Option Tmp} {ty : TypeId} {pos : String} {after : Array Edge} {guard : Option (Nat × Bool)}
theorem op_bs {t : TypeId} {parts : Array (Nat × Operand)} {fs : Array Field} {inf : TypeInfo} {z : Value} {places : Array (Nat × Nat)} {pa : List (Nat × AVal)} {res : List AVal} (ht : P.underlying t = some (.struct fs)) (hi : P.info? t = some inf) (hpl : ∀ w, ((fs.mapM fun f => do pure (f.offset, ← sizeOf f.type) : Sem (Array (Nat × Nat)))).run P w = .ok places w)
    (hz : inf.zero = some z := by exact rfl) (hp : partsA E parts.toList = some pa := by exact rfl) (ho : pa.all (fun p => okPart σ p.2) = true := by first | rfl | (repeat (first | exact parts_nil | refine parts_cons rfl (by repeat (first | exact all_live_nil | refine all_live_clo rfl ?_ | refine all_live_slice rfl ?_ | refine all_live_map rfl ?_ | refine all_live_ptr rfl ?_)) ?_))) (hf : fillA (places[·]?) (z.cells.toList.map .v) pa = some res := by exact rfl) :
    OpTo P ⟨d, .build t parts, ty, pos, after, guard⟩ E σ (.agg res) σ := op_build_struct ht hi hz hpl hp ho hf
theorem op_sp {x y : Operand} {t : TypeId} {inf : TypeInfo} {id ver i j sz : Nat} {els : List (List AVal)} {el : List AVal} {a : AVal} (hi : P.info? t = some inf) (hx : E x = some (.ptr id ver i j) := by exact rfl) (hy : E y = some a := by exact rfl) (hid : σ.get id = some (ver, .row sz els) := by exact rfl) (hel : els[i]? = some el := by exact rfl)
    (hsz : inf.size = a.cells.length := by exact rfl) (h1 : a.cells.all AVal.oneB = true := by exact rfl) (hl : a.cells.all (AVal.live σ) = true := by first | rfl | exact live_one rfl | (repeat (first | exact all_live_nil | refine all_live_clo rfl ?_ | refine all_live_slice rfl ?_ | refine all_live_map rfl ?_ | refine all_live_ptr rfl ?_))) (hfit : j + a.cells.length ≤ el.length := by first | decide | exact Nat.le_of_ble_eq_true rfl) :
    OpTo P ⟨d, .store t x y, ty, pos, after, guard⟩ E σ (.v undef) (σ.put id ver (.row sz (els.set i (splice el j a.cells)))) := op_store_ptr hi hx hy hid hel hsz h1 hl hfit
theorem op_am {α : Type} {f : α → List AVal} {l k : List α} {x y : Operand} {t u e sz id ver m : Nat} {ud : TypeDesc} {inf : TypeInfo} {z : Value} {b : AVal} {news : List (List AVal)} (ht : P.underlying t = some (.slice e)) (hu : P.underlying u = some ud) (hi : P.info? e = some inf) (nb : Nat) (hn : notInt ud = true := by exact rfl) (hz : inf.zero = some z := by exact rfl)
    (hsz : inf.size = sz := by exact rfl) (h0 : 0 < sz := by decide) (hzs : z.cells.toList.length = sz := by exact rfl) (hx : E x = some (.slice id ver 0 m) := by exact rfl) (hid : σ.get id = some (ver, .row sz (l.map f)) := by exact rfl) (hm : m = l.length := by first | rfl | simp) (hy : E y = some b := by exact rfl) (hb : SrcIs σ sz b news := by first | exact .list _ | exact .vnil | exact .nil | exact .row _ _ _ _ rfl (by first | rfl | simp)) (hk : news = k.map f := by exact rfl)
    (h63 : l.length + k.length ≤ 9223372036854775807 := by first | omega | (simp; done) | (simp; omega)) (hnb : inf.bytes = nb := by exact rfl) (hby : (l.length + k.length) * nb ≤ 140737488355328 := by first | omega | (simp; done) | (simp; omega)) :
    OpR P ⟨d, .call { callee := .builtin .append, args := #[x, y], argTypes := #[t, u] }, ty, pos, after, guard⟩ E σ (fun r σ' => ∃ ver', r = .slice id ver' 0 (l ++ k).length ∧ σ' = σ.put id ver' (.row sz ((l ++ k).map f))) := op_append_map ht hu hn hi hz hsz h0 hzs hx hid hm hy hb hk h63 (by rw [hnb]; exact hby)
theorem op_ol {α : Type} {t e m sz : Nat} {parts : Array (Nat × Operand)} {inf : TypeInfo} {z : Value} {pa : List (Nat × AVal)} {res : List AVal} (f : α → List AVal) (l : List α) (ht : P.underlying t = some (.slice e)) (hi : P.info? e = some inf) (hz : inf.zero = some z := by exact rfl) (hsz : inf.size = sz := by exact rfl) (h0 : 0 < sz := by decide) (hzs : z.cells.toList.length = sz := by exact rfl) (hm : m * sz ≤ 16777216 := by decide)
    (hp : partsA E parts.toList = some pa := by exact rfl) (ho : pa.all (fun p => okPart σ p.2) = true := by first | rfl | (repeat (first | exact parts_nil | refine parts_cons rfl (by repeat (first | exact all_live_nil | refine all_live_clo rfl ?_ | refine all_live_slice rfl ?_ | refine all_live_map rfl ?_ | refine all_live_ptr rfl ?_)) ?_))) (hf : fillA (fun i => some (i * sz, sz)) ((List.replicate m (z.cells.toList.map .v)).flatten) pa = some res := by exact rfl) (h1 : res.all AVal.oneB = true := by exact rfl) (hc : res.all AVal.clo1 = true := by exact rfl) (hl : chunk sz m res = l.map f := by exact rfl) :
    OpTo P ⟨d, .buildSlice t m parts, ty, pos, after, guard⟩ E σ (.list sz (l.map f)) σ := op_list f l ht hi hz hsz h0 hzs hm hp ho hf h1 hc hl
theorem op_im {α : Type} [Inhabited α] {x ix : Operand} {t e sz : Nat} {f : α → List AVal} {l : List α} {i : Int} {j : Nat} {k : IntKind} {inf : TypeInfo} (ht : P.underlying t = some (.slice e)) (hi : P.info? e = some inf) (hsz : inf.size = sz := by exact rfl) (hx : E x = some (.list sz (l.map f)) := by exact rfl) (hix : E ix = some (.v (.int k i)) := by exact rfl) (hj : i.toNat = j := by first | (with_reducible exact Int.toNat_natCast _) | rfl) (h0 : 0 ≤ i := by omega) (hlt : j < l.length := by omega) : OpTo P ⟨d, .indexAddr t x ix, ty, pos, after, guard⟩ E σ (.rptr (f (l.getD j default))) σ := op_index_map default ht hi hsz hx hix hj h0 hlt
end
end Go.Proofs.YtcgdlhkiecommaaGreatDoor
/- The engine, part 22: shifts; numbers of 64 bits; appending behind an offset. -/


namespace Go.Proofs.YtcgdlhkiecommaaGreatDoor
open Go
section
variable {P : Program} {σ σ' : Store} {E : Operand → Option AVal} {d : Option Tmp} {ty : TypeId} {pos : String} {after : Array Edge} {guard : Option (Nat × Bool)}
variable {x y : Operand} {t u : TypeId} {k k' : IntKind} {a b c : Int}
end
section
variable {P : Program} {σ : Store} {w : World}
variable {E : Operand → Option AVal} {d : Option Tmp} {ty : TypeId} {pos : String} {after : Array Edge} {guard : Option (Nat × Bool)}
end
end Go.Proofs.YtcgdlhkiecommaaGreatDoor
/- The engine, part 23: maps that are ranged over; map literals. -/


namespace Go.Proofs.YtcgdlhkiecommaaGreatDoor
open Go
section
variable {P : Program} {n : Nat} {Q : APost} {env : Env} {σ σ' : Store}
variable {E : Operand → Option AVal} {d : Option Tmp} {ty : TypeId} {pos : String} {after : Array Edge} {guard : Option (Nat × Bool)}
end
end Go.Proofs.YtcgdlhkiecommaaGreatDoor
/- The engine, part 24: an object written over by the library's sort. -/


namespace Go.Proofs.YtcgdlhkiecommaaGreatDoor
open Go
section
variable {ok : Nat → Prop} {L : Loc} {σ : Store} {w w' : World}
end
section
variable {P : Program} {σ σ' : Store}
variable {E : Operand → Option AVal} {d : Option Tmp} {ty : TypeId} {pos : String} {after : Array Edge} {guard : Option (Nat × Bool)}
end
end Go.Proofs.YtcgdlhkiecommaaGreatDoor
/- A cut with a bound on the room: 's[l:h:h]' of a closed list. -/

namespace Go.Proofs.YtcgdlhkiecommaaGreatDoor
open Go
section
variable {P : Program} {n : Nat} {Q : APost} {env : Env} {σ σ' : Store} {ops : Array Oper} {rest : List Oper}
variable {E : Operand → Option AVal} {d : Option Tmp} {ty : TypeId} {pos : String} {after : Array Edge} {guard : Option (Nat × Bool)}
theorem al_as {l : List Oper} (t : Nat) {a : AVal} (b : AVal) (h : env.get t = some a) (e : a = b) (k : AL P n ops l Q ((t, b) :: env) σ) : AL P n ops l Q env σ := by
  refine al_weaken _ (fun u c hu => ?_) k
  rw [Env.get_cons] at hu
  split at hu
  · rename_i e2; subst e2; cases hu; rw [h, e]
  · exact hu
theorem op_cut_map {α : Type} {f : α → List AVal} {v : List α} {x : Operand} {t e sz : Nat} {inf : TypeInfo} {lo hi : Option Operand} {l h : Nat} (ht : P.underlying t = some (.slice e)) (hi' : P.info? e = some inf) (hsz : inf.size = sz) (hx : E x = some (.list sz (v.map f))) (hlo : OptI E lo 0 l) (hhi : OptI E hi v.length h) (hlh : l ≤ h) (hhs : h ≤ v.length) :
    OpTo P ⟨d, .slice t x lo hi none, ty, pos, after, guard⟩ E σ (.list sz (((v.drop l).take (h - l)).map f)) σ := by
  rw [List.map_take, List.map_drop]
  exact op_cut_list ht hi' hsz hx hlo (by rw [List.length_map]; exact hhi) hlh (by rw [List.length_map]; exact hhs)
end
end Go.Proofs.YtcgdlhkiecommaaGreatDoor
/- The engine, part 26: objects are dropped, and the cells of a kept row turn from their slices to closed lists. -/

namespace Go.Proofs.YtcgdlhkiecommaaGreatDoor
open Go
section
variable {P : Program} {n : Nat} {Q : APost} {env : Env} {σ σ' : Store} {ops : Array Oper} {rest : List Oper}
end
end Go.Proofs.YtcgdlhkiecommaaGreatDoor
/- The engine, part 27: a store with a row of objects whose number is not fixed. -/

namespace Go.Proofs.YtcgdlhkiecommaaGreatDoor
open Go
end Go.Proofs.YtcgdlhkiecommaaGreatDoor
