/- The reader in memory, and what a call on it leaves. -/
import Derived.Test.YtcgdlhkiecommaaGreatDoorEngStr
import Derived.Test.YtcgdlhkiecommaaGreatDoorXWrite
set_option linter.unusedVariables false
set_option linter.all false
namespace Go.Proofs.YtcgdlhkiecommaaGreatDoor
open Go
theorem reL_nil : All2 ReL [] [] := trivial
theorem reL_cons {a b : AVal} {xs ys : List AVal} (h : ReL a b) (t : All2 ReL xs ys) : All2 ReL (a :: xs) (b :: ys) := ⟨h, t⟩
/-- The cells of a reader; d: how much deeper it may go. -/
def rdr (l : List Tk) (i d : Nat) : List AVal := [.list 5 (l.map encK), .v (.int .i64 (i : Int)), .v (.int .i64 12), .v (.string (str [])), .v (.int .i64 0), .v (.int .i64 0), .v (.int .i64 (40 - (d : Int)))]
abbrev rd (v0 : Nat) (l : List Tk) (i d : Nat) (τ : Store) : Store := (0, v0, .row 7 [rdr l i d]) :: τ
def encSL (l : List Bs) : List AVal := [.list 1 (l.map encBs)]
/-- What an expression holds that was made and not yet written. -/
def zeroE : List AVal := [.v (.int .i64 0), .v (.string (str [])), .v (.int .i64 0), .v (.slice none 0 0), .v (.int .i64 0), .v (.int .i64 0), .v (.slice none 0 0), .v (.slice none 0 0), .v (.slice none 0 0), .v (.int .i64 0), .v (.int .i64 0), .v (.string (str [])), .v (.slice none 0 0), .v (.slice none 0 0), .v (.int .i64 0), .v (.int .i64 0)]
def zeroR : List AVal := [.v (.string (str [])), .v (.slice none 0 0), .v (.slice none 0 0), .v (.int .i64 0), .v (.int .i64 0)]
def faultI (g : Flt) : AVal := .v (.iface 40 (.agg #[.int .i64 g.code, .string (str g.name), .int .i64 g.line, .int .i64 g.col]))
def k0 (i : Nat) : Bool := Nat.beq i 0
section
variable {α : Type}
/-- What a call leaves that reads or panics. -/
def RdT (v0 : Nat) (l : List Tk) (d : Nat) (enc : α → AVal) (x : Rd α) (τ : Store) (r : AEnd) (σ' : Store) : Prop :=
  (∃ g i' d', x = .bad g ∧ r = .pan (faultI g) ∧ σ' = rd v0 l i' d' τ) ∨ (∃ a j, x = .ok a j ∧ r = .ret (enc a) ∧ σ' = rd v0 l j d τ)
def RdK (v0 : Nat) (l : List Tk) (d : Nat) (enc : α → AVal) (x : Rd α) (r : AEnd) (σ' : Store) : Prop :=
  (∃ g i' d', x = .bad g ∧ r = .pan (faultI g) ∧ σ'.keep k0 = rd v0 l i' d' []) ∨ (∃ a j, x = .ok a j ∧ r = .ret (enc a) ∧ σ'.keep k0 = rd v0 l j d [])
theorem rd_lift {P : Program} {n : FuncId} {extra : List AVal} {v0 i d d' : Nat} {l : List Tk} {enc : α → AVal} {x : Rd α} (hx : extra.map (AVal.rn (tab [0])) = extra) (henc : ∀ a, (enc a).rn (tab [0]) = enc a)
    (h : AC P n (.ptr 0 v0 0 0 :: extra) (rd v0 l i d []) (RdK v0 l d' enc x)) (τ : Store) (hb : (rd v0 l i d τ).below 1000 = true) : AC P n (.ptr 0 v0 0 0 :: extra) (rd v0 l i d τ) (RdT v0 l d' enc x τ) := by
  have hf : Store.free [0] (rd v0 l i d []) (rd v0 l i d τ) = true := by simp [Store.free, Store.get, List.range_succ]
  have hm : Store.match (tab [0]) (rd v0 l i d τ) (rd v0 l i d []) := ⟨rfl, trivial⟩
  have := ac_at (σ := rd v0 l i d τ) [0] rfl (ac_keep k0 h) hm hf hb (by
    rintro r σ' ⟨σ1, h1, rfl⟩ j hj
    rcases h1 with ⟨g, i', d2, _, _, e2⟩ | ⟨a, j2, _, _, e2⟩ <;>
    · rw [e2] at hj
      revert hj
      simp only [Store.get]
      cases Nat.beq 0 j <;> simp)
  rw [List.map_cons, hx] at this
  refine ac_mono this ?_
  rintro r σ' ⟨r0, σ0, ⟨σ1, h1, rfl⟩, rfl, rfl⟩
  rcases h1 with ⟨g, i', d2, e1, rfl, e2⟩ | ⟨a, j2, e1, rfl, e2⟩
  · rw [e2]; exact .inl ⟨g, i', d2, e1, rfl, rfl⟩
  · rw [e2]; exact .inr ⟨a, j2, e1, by simp only [AEnd.rn, henc], rfl⟩
/-- What only looks. -/
theorem rd_look {P : Program} {n : FuncId} {extra : List AVal} {v0 i d : Nat} {l : List Tk} {b : AVal} (hx : extra.map (AVal.rn (tab [0])) = extra) (hb2 : b.rn (tab [0]) = b)
    (h : AC P n (.ptr 0 v0 0 0 :: extra) (rd v0 l i d []) (fun r σ' => r = .ret b ∧ σ'.keep k0 = rd v0 l i d [])) {σ : Store} (h1 : σ.get 0 = some (v0, .row 7 [rdr l i d])) (hb : σ.below 1000 = true) : AC P n (.ptr 0 v0 0 0 :: extra) σ (fun r σ' => r = .ret b ∧ σ' = σ) := by
  have hk : AC P n (.ptr 0 v0 0 0 :: extra) (rd v0 l i d []) (fun r σ' => r = .ret b ∧ σ' = rd v0 l i d []) := ac_mono (ac_keep k0 h) (by
    rintro r σ' ⟨σ1, ⟨h2, h3⟩, rfl⟩
    exact ⟨h2, h3⟩)
  have := ac_ro [0] rfl hk (⟨h1, trivial⟩ : Store.match (tab [0]) σ (rd v0 l i d [])) (by simp [Store.free, Store.get, List.range_succ]) hb
  rw [List.map_cons, hx, hb2] at this
  exact this
end
theorem keep_keep (q : Nat → Bool) (σ : Store) : (σ.keep q).keep q = σ.keep q := by
  induction σ with
  | nil => rfl
  | cons p r ih =>
    obtain ⟨i, y⟩ := p
    cases hq : q i with
    | true => simp [Store.keep, hq, ih]
    | false => simp [Store.keep, hq, ih]
theorem rdk_bad {α : Type} {v0 : Nat} {l : List Tk} {d i' d' : Nat} {enc : α → AVal} {x : Rd α} {g : Flt} {σ' : Store} (h : x = .bad g) (hs : σ'.keep k0 = rd v0 l i' d' []) : RdK v0 l d enc x (.pan (faultI g)) σ' := .inl ⟨g, i', d', h, rfl, hs⟩
theorem rdk_ok {α : Type} {v0 : Nat} {l : List Tk} {d : Nat} {enc : α → AVal} {x : Rd α} {σ' : Store} (a : α) (j : Nat) (h : x = .ok a j) (hs : σ'.keep k0 = rd v0 l j d []) : RdK v0 l d enc x (.ret (enc a)) σ' := .inr ⟨a, j, h, rfl, hs⟩
abbrev encX (e : Ex) : AVal := .agg (cellsE e)
abbrev encRr (r : Tr) : AVal := .agg (cellsR r)
theorem elem1 (a : Tr) : [cellsR a] = [a].map encR := by rw [encR_fun]; rfl
abbrev encUnit (_ : Unit) : AVal := .tuple []
/-- A result, its lists told by their content. -/
def RdF (v0 : Nat) (l : List Tk) (d : Nat) (x : Rd Ex) (r : AEnd) (σ' : Store) : Prop :=
  (∃ g i' d', x = .bad g ∧ r = .pan (faultI g) ∧ σ'.keep k0 = rd v0 l i' d' []) ∨ (∃ e j, x = .ok e j ∧ ∃ a, r = .ret a ∧ FrzT σ' k0 a (encX e) ∧ σ'.keep k0 = rd v0 l j d [])
theorem rdf_bad {v0 : Nat} {l : List Tk} {d i' d' : Nat} {x : Rd Ex} {g : Flt} {σ' : Store} (h : x = .bad g) (hs : σ'.keep k0 = rd v0 l i' d' []) : RdF v0 l d x (.pan (faultI g)) σ' := .inl ⟨g, i', d', h, rfl, hs⟩
theorem rdf_ok {v0 : Nat} {l : List Tk} {d : Nat} {x : Rd Ex} {σ' : Store} {a : AVal} (e : Ex) (j : Nat) (h : x = .ok e j) (hf : FrzT σ' k0 a (encX e)) (hs : σ'.keep k0 = rd v0 l j d []) : RdF v0 l d x (.ret a) σ' := .inr ⟨e, j, h, a, rfl, hf, hs⟩
theorem ac_rdf {P : Program} {f : FuncId} {avs : List AVal} {σ : Store} {v0 : Nat} {l : List Tk} {d : Nat} {x : Rd Ex} (h : AC P f avs σ (RdF v0 l d x)) : AC P f avs σ (RdK v0 l d encX x) := by
  intro ok L w vs hs hv
  refine (h ok L w vs hs hv).mono ?_
  rintro e w' ⟨r, σ1, ok', L', hr, he, hs', hx⟩
  obtain ⟨ok2, L2, he2, hs2, hk, _⟩ := freeze_core hs' k0
  have kk := keep_keep k0 σ1
  rcases hr with ⟨g, i', d', h1, rfl, h2⟩ | ⟨e2, j, h1, a, rfl, hf, h2⟩
  · refine ⟨.pan (faultI g), _, ok2, L2, .inl ⟨g, i', d', h1, rfl, by rw [kk, h2]⟩, he.trans he2, hs2, ?_⟩
    cases e with
    | panicked chain => obtain ⟨v, e1, e3⟩ := hx; exact ⟨v, e1, e3.evo hs' he2⟩
    | _ => exact hx.elim
  · refine ⟨.ret (encX e2), _, ok2, L2, .inr ⟨e2, j, h1, rfl, by rw [kk, h2]⟩, he.trans he2, hs2, ?_⟩
    cases e with
    | returned v => exact frzT_rep hs' he2 hk hf (show Rep ok' L' w' a v from hx)
    | _ => exact hx.elim
theorem retd_pan2 {P : Program} {fn : Func} {R : AEnd → Store → Prop} {g : FuncId} {avs : List AVal} {a : AVal} {R1 : Store → Prop} {env : Env} {σ σ0 : Store} {D : ADefs} (hi : Into P g) (h1 : ACDp P g avs a σ0 R1) (hs : σ = σ0) (hD : D = [(g, avs)]) (h2 : ∀ σ', R1 σ' → ∃ r, ResOK P fn env σ' r ∧ R (.ret r) σ') : RetPostD P fn R (.panic a) env σ D := by
  subst hs; subst hD; exact ⟨hi, R1, h1, h2⟩
/-- The same of a reader of another name. -/
theorem rd_call {α : Type} {P : Program} {n : FuncId} {v0 i d d' : Nat} {l : List Tk} {enc : α → AVal} {x : Rd α} (c : Nat) (hc : c < 1000) (henc : ∀ a, (enc a).rn (tab [c]) = enc a)
    (h : AC P n [.ptr 0 v0 0 0] (rd v0 l i d []) (RdK v0 l d' enc x)) {σ : Store} (h1 : σ.get c = some (v0, .row 7 [rdr l i d])) (hb : σ.below 1000 = true) :
    AC P n [.ptr c v0 0 0] σ (fun r σ' => (∃ g i' d2, x = .bad g ∧ r = .pan (faultI g) ∧ σ' = σ.put c v0 (.row 7 [rdr l i' d2])) ∨ (∃ a j, x = .ok a j ∧ r = .ret (enc a) ∧ σ' = σ.put c v0 (.row 7 [rdr l j d']))) := by
  have ht : tabOK [c] = true := by simp [tabOK, hc]
  have hf : Store.free [c] (rd v0 l i d []) σ = true := by simp [Store.free, Store.get, List.range_succ]
  have hm : Store.match (tab [c]) σ (rd v0 l i d []) := ⟨h1, trivial⟩
  have := ac_at (σ := σ) [c] ht (ac_keep k0 h) hm hf hb (by
    rintro r σ' ⟨σ1, h1, rfl⟩ j hj
    rcases h1 with ⟨g, i', d2, _, _, e2⟩ | ⟨a, j2, _, _, e2⟩ <;>
    · rw [e2] at hj
      revert hj
      simp only [Store.get]
      cases Nat.beq 0 j <;> simp)
  refine ac_mono this ?_
  rintro r σ' ⟨r0, σ0, ⟨σ1, h1, rfl⟩, rfl, rfl⟩
  rcases h1 with ⟨g, i', d2, e1, rfl, e2⟩ | ⟨a, j2, e1, rfl, e2⟩
  · rw [e2]; exact .inl ⟨g, i', d2, e1, rfl, rfl⟩
  · rw [e2]; exact .inr ⟨a, j2, e1, by simp only [AEnd.rn, henc], rfl⟩
/-- What a call of the package's own reading hands back. -/
def readP {α : Type} (z : α) (l : List Tk) (p : Int) (x : Nat → Rd α) : α × Int × Flt :=
  if ((textP l).2 != 0 || decide (p < 0)) || decide (p > (l.length : Int)) then (z, 0, ⟨2, [], 0, 0⟩)
  else match x p.toNat with
    | .bad g => (z, 0, g)
    | .ok e j => (e, (j : Int), okF)
def encP {α : Type} (enc : α → AVal) (r : α × Int × Flt) : AVal := .tuple [enc r.1, .v (.int .i64 r.2.1), .agg (encF r.2.2)]
theorem readP_arg {α : Type} {z : α} {l : List Tk} {p : Int} {x : Nat → Rd α} (h : (((textP l).2 != 0 || decide (p < 0)) || decide (p > (l.length : Int))) = true) : readP z l p x = (z, 0, ⟨2, [], 0, 0⟩) := if_pos h
theorem readP_bad {α : Type} {z : α} {l : List Tk} {i : Nat} {x : Nat → Rd α} {g : Flt} (h : (((textP l).2 != 0 || decide ((i : Int) < 0)) || decide ((i : Int) > (l.length : Int))) = false) (h1 : x i = .bad g) : readP z l i x = (z, 0, g) := by
  rw [readP, h, if_neg Bool.false_ne_true, Int.toNat_natCast, h1]
theorem readP_ok {α : Type} {z : α} {l : List Tk} {i : Nat} {x : Nat → Rd α} {e : α} {j : Nat} (h : (((textP l).2 != 0 || decide ((i : Int) < 0)) || decide ((i : Int) > (l.length : Int))) = false) (h1 : x i = .ok e j) : readP z l i x = (e, (j : Int), okF) := by
  rw [readP, h, if_neg Bool.false_ne_true, Int.toNat_natCast, h1]
theorem res_cell_tmp_cell {P : Program} {fn : Func} {t ty t' ty' u : Nat} {td td' : TypeDesc} {inf inf' : TypeInfo} {id ver sz id' ver' sz' : Nat} {els els' : List (List AVal)} {el el' : List AVal} {a b c : AVal} {env : Env} {σ : Store} (h : fn.results = #[.cell t ty, .tmp u, .cell t' ty']) (hu : P.underlying ty = some td) (hi : P.info? ty = some inf) (hu' : P.underlying ty' = some td') (hi' : P.info? ty' = some inf') (ht : env.get t = some (.ptr id ver 0 0)) (hid : σ.get id = some (ver, .row sz els)) (hel : els[0]? = some el)
    (ha : asOne (TypeDesc.isAggB td) inf.size (el.drop 0) = some a) (hb : env.get u = some b) (ht' : env.get t' = some (.ptr id' ver' 0 0)) (hid' : σ.get id' = some (ver', .row sz' els')) (hel' : els'[0]? = some el') (hc : asOne (TypeDesc.isAggB td') inf'.size (el'.drop 0) = some c) (hfa : a.flat = true) (hfb : b.flat = true) (hfc : c.flat = true) : ResOK P fn env σ (.tuple [a, b, c]) := by
  intro ok L w tmps hs hr
  obtain ⟨p, p1, p2⟩ := hr t _ ht
  obtain ⟨q, q1, q2⟩ := hr u _ hb
  obtain ⟨p', p1', p2'⟩ := hr t' _ ht'
  obtain ⟨ad, rfl, v, hv, hrep⟩ := load_core hu hi hid hel ha hs (show RepL ok L w (.ptr id ver 0 0) p from p2)
  obtain ⟨ad', rfl, v', hv', hrep'⟩ := load_core hu' hi' hid' hel' hc hs (show RepL ok L w (.ptr id' ver' 0 0) p' from p2')
  refine ⟨.tuple #[v, q, v'], ?_, [v, q, v'], rfl, repA_of hrep hfa, repA_of q2 hfb, repA_of hrep' hfc, trivial⟩
  simp [results, h, p1, q1, p1', asAddr, hv, hv']
theorem res_head {P : Program} {fn : Func} {env : Env} {σ : Store} {a b : AVal} {cs : List AVal} (h : ResOK P fn env σ (.tuple (a :: cs))) (hl : ReA a b) (hf : a.flat = true) (hg : b.flat = true) : ResOK P fn env σ (.tuple (b :: cs)) := by
  intro ok L w tmps hs hr
  obtain ⟨v, h1, vs, h2, h3⟩ := h ok L w tmps hs hr
  match vs, h3 with
  | x :: y, ⟨g1, g2⟩ => exact ⟨v, h1, x :: y, h2, repA_of (hl.rep (rep_of g1 hf)) hg, g2⟩
/-! ### Small facts for the walks -/
section
variable {l : List Tk}
theorem tokAt_ok (hl : OKTs l) (i : Nat) : OKT (tokAt l i) := by
  rcases Nat.lt_or_ge i l.length with h | h
  · exact hl.at i h
  · rw [tokAt_out h]
    exact ⟨by decide, by decide, by decide⟩
theorem fltAt_end {i : Nat} (code : Int) (h : l.length ≤ i) : fltAt l code i = eofF := if_pos h
theorem fltAt_in {i : Nat} (code : Int) (h : i < l.length) : fltAt l code i = ⟨code, textT (tokAt l i), (tokAt l i).line, (tokAt l i).col⟩ := if_neg (by omega)
theorem into_ok {d i j : Nat} {u : Unit} (h : intoP l d i = .ok u j) : d ≠ 0 ∧ j = i + 1 := by
  unfold intoP at h
  split at h
  · cases h
  · cases h; exact ⟨by assumption, rfl⟩
theorem open_ok {d i j : Nat} {u : Unit} (h : openP l d i = .ok u j) : d ≠ 0 ∧ j = i + 1 ∧ isAt l [sOpen] i = true := by
  unfold openP at h
  split at h
  · exact ⟨(into_ok h).1, (into_ok h).2, by assumption⟩
  · cases h
theorem want_ok {s : Bs} {i j : Nat} {u : Unit} (h : wantP l s i = .ok u j) : j = i + 1 ∧ isAt l [s] i = true := by
  unfold wantP at h
  split at h
  · cases h; exact ⟨rfl, by assumption⟩
  · cases h
theorem kind_ok {k : Int} {i j : Nat} {a : Tk} (h : kindP l k i = .ok a j) : a = tokAt l i ∧ j = i + 1 ∧ ((tokAt l i).op == k) = true := by
  unfold kindP at h
  split at h
  · cases h; exact ⟨rfl, rfl, by assumption⟩
  · cases h
theorem kind_bad {k : Int} {i : Nat} {g : Flt} (h : kindP l k i = .bad g) : ((tokAt l i).op == k) = false ∧ g = fltAt l 11 i := by
  unfold kindP at h
  split at h
  · cases h
  · rename_i h1; cases h; exact ⟨by simpa using h1, rfl⟩
theorem rd_deep {d : Nat} (h : d ≠ 0) : (40 - (d : Int) + 1) = 40 - ((d - 1 : Nat) : Int) := by omega
theorem rd_back {d : Nat} (h : d ≠ 0) : (40 - ((d - 1 : Nat) : Int) - 1) = 40 - (d : Int) := by omega
theorem level_len (k : Nat) : (levelL k).length ≤ 1000000 := by
  unfold levelL
  rcases k with _ | _ | _ | _ | k <;> first | decide | (simp [levelsL])
theorem prim_lt {i : Nat} (h : ((tokAt l i).op == 3) = true ∨ ((tokAt l i).op == 4) = true ∨ ((tokAt l i).op == 5) = true) : i < l.length := by
  rcases h with h | h | h
  · exact op_lt (k := 3) (by simpa using h) (by decide)
  · exact op_lt (k := 4) (by simpa using h) (by decide)
  · exact op_lt (k := 5) (by simpa using h) (by decide)
theorem isAt_array {i : Nat} (h : isAt l [sVec, sArray] i = true) (h2 : ((tokAt l i).text == sArray) = true) : isAt l [sArray] i = true := by
  unfold isAt at *
  rw [Bool.and_eq_true] at *
  refine ⟨h.1, ?_⟩
  rw [beq_iff_eq] at h2
  rw [h2]
  decide
/-! #### rows -/
theorem row_pos {fac : Nat → Rd Ex} {m i : Nat} (h : m ≠ 0) : rowP l fac m i = match rowP l fac (m - 1) i with | .bad g => .bad g | .ok e j => rowLoop l (rowP l fac (m - 1)) (3 - (m - 1)) (l.length - j) e j := by
  cases m with
  | zero => exact absurd rfl h
  | succ m => rfl
theorem row_bad {fac : Nat → Rd Ex} {m i : Nat} {g : Flt} (h : m ≠ 0) (h1 : rowP l fac (m - 1) i = .bad g) : rowP l fac m i = .bad g := by rw [row_pos h, h1]
theorem row_ok {fac : Nat → Rd Ex} {m i j k : Nat} {e : Ex} (h : m ≠ 0) (hk : k + m = 4) (h1 : rowP l fac (m - 1) i = .ok e j) : rowLoop l (rowP l fac (m - 1)) k (l.length - j) e j = rowP l fac m i := by
  rw [row_pos h, h1, show 3 - (m - 1) = k from by omega]
theorem rowLoop_fuel {nxt : Nat → Rd Ex} (hn : ∀ i, (nxt i).gt i l.length) {k : Nat} : ∀ (n f g : Nat) (e : Ex) (j : Nat), l.length - j ≤ n → l.length - j ≤ f → l.length - j ≤ g → rowLoop l nxt k f e j = rowLoop l nxt k g e j := by
  intro n
  induction n with
  | zero =>
    intro f g e j h _ _
    have hat : isAt l (levelL k) j = false := by
      cases hat : isAt l (levelL k) j with
      | false => rfl
      | true => have := isAt_lt hat; omega
    have : ∀ f, rowLoop l nxt k f e j = .ok e j := by intro f; cases f <;> simp [rowLoop, hat]
    rw [this, this]
  | succ n ih =>
    intro f g e j h hf hg
    cases hat : isAt l (levelL k) j with
    | false =>
      have : ∀ f, rowLoop l nxt k f e j = .ok e j := by intro f; cases f <;> simp [rowLoop, hat]
      rw [this, this]
    | true =>
      have hlt := isAt_lt hat
      obtain ⟨f, rfl⟩ : ∃ q, f = q + 1 := ⟨f - 1, by omega⟩
      obtain ⟨g, rfl⟩ : ∃ q, g = q + 1 := ⟨g - 1, by omega⟩
      rw [rowLoop, rowLoop, hat]
      simp only [if_true]
      cases hx : nxt (j + 1) with
      | bad g => rfl
      | ok e2 j2 =>
        have h2 := hn _ _ _ hx
        simp only
        split
        · rfl
        · exact ih _ _ _ j2 (by omega) (by omega) (by omega)
theorem loop_stop {nxt : Nat → Rd Ex} {k f j : Nat} {e : Ex} (h : isAt l (levelL k) j = false) : rowLoop l nxt k f e j = .ok e j := by cases f <;> simp [rowLoop, h]
theorem loop_bad {nxt : Nat → Rd Ex} {k j : Nat} {e : Ex} {g : Flt} (h : isAt l (levelL k) j = true) (h1 : nxt (j + 1) = .bad g) : rowLoop l nxt k (l.length - j) e j = .bad g := by
  have := isAt_lt h
  rw [show l.length - j = (l.length - j - 1) + 1 from by omega, rowLoop, h, if_pos rfl, h1]
theorem loop_one {nxt : Nat → Rd Ex} {k j j2 : Nat} {e e2 : Ex} (h : isAt l (levelL k) j = true) (h1 : nxt (j + 1) = .ok e2 j2) (hk : k = 1) : rowLoop l nxt k (l.length - j) e j = .ok (mkE 5 (tokAt l j).text 0 [] [e, e2] (tokAt l j)) j2 := by
  have := isAt_lt h
  rw [show l.length - j = (l.length - j - 1) + 1 from by omega, rowLoop, h, if_pos rfl, h1]
  simp only [hk, if_true]
theorem loop_step {nxt : Nat → Rd Ex} (hn : ∀ i, (nxt i).gt i l.length) {k j j2 : Nat} {e e2 : Ex} (h : isAt l (levelL k) j = true) (h1 : nxt (j + 1) = .ok e2 j2) (hk : k ≠ 1) : rowLoop l nxt k (l.length - j2) (mkE 5 (tokAt l j).text 0 [] [e, e2] (tokAt l j)) j2 = rowLoop l nxt k (l.length - j) e j := by
  have := isAt_lt h
  have h3 := hn _ _ _ h1
  rw [show l.length - j = (l.length - j - 1) + 1 from by omega, rowLoop, h, if_pos rfl, h1]
  simp only [hk, if_false]
  exact rowLoop_fuel hn _ _ _ _ _ (Nat.le_refl _) (Nat.le_refl _) (by omega)
/-! #### brackets behind an expression -/
theorem parts_fuel {inner : Nat → Rd Ex} (hn : ∀ i, (inner i).gt i l.length) {d : Nat} : ∀ (n f g : Nat) (e : Ex) (j : Nat), l.length - j ≤ n → l.length - j ≤ f → l.length - j ≤ g → partsP l d inner f e j = partsP l d inner g e j := by
  intro n
  induction n with
  | zero =>
    intro f g e j h _ _
    have hat : isAt l [sOpen] j = false := by
      cases hat : isAt l [sOpen] j with
      | false => rfl
      | true => have := isAt_lt hat; omega
    have : ∀ f, partsP l d inner f e j = .ok e j := by intro f; cases f <;> simp [partsP, hat]
    rw [this, this]
  | succ n ih =>
    intro f g e j h hf hg
    cases hat : isAt l [sOpen] j with
    | false =>
      have : ∀ f, partsP l d inner f e j = .ok e j := by intro f; cases f <;> simp [partsP, hat]
      rw [this, this]
    | true =>
      have hlt := isAt_lt hat
      obtain ⟨f, rfl⟩ : ∃ q, f = q + 1 := ⟨f - 1, by omega⟩
      obtain ⟨g, rfl⟩ : ∃ q, g = q + 1 := ⟨g - 1, by omega⟩
      rw [partsP, partsP, hat]
      simp only [if_true]
      cases hx : partP l d inner e j with
      | bad g => rfl
      | ok e2 j2 =>
        have h2 := part_gt hn _ _ hx
        simp only
        exact ih _ _ _ j2 (by omega) (by omega) (by omega)
theorem parts_stop {inner : Nat → Rd Ex} {d f j : Nat} {e : Ex} (h : isAt l [sOpen] j = false) : partsP l d inner f e j = .ok e j := by cases f <;> simp [partsP, h]
theorem parts_bad {inner : Nat → Rd Ex} {d j : Nat} {e : Ex} {g : Flt} (h : isAt l [sOpen] j = true) (h1 : partP l d inner e j = .bad g) : partsP l d inner (l.length - j) e j = .bad g := by
  have := isAt_lt h
  rw [show l.length - j = (l.length - j - 1) + 1 from by omega, partsP, h, if_pos rfl, h1]
theorem parts_step {inner : Nat → Rd Ex} (hn : ∀ i, (inner i).gt i l.length) {d j j2 : Nat} {e e2 : Ex} (h : isAt l [sOpen] j = true) (h1 : partP l d inner e j = .ok e2 j2) : partsP l d inner (l.length - j2) e2 j2 = partsP l d inner (l.length - j) e j := by
  have := isAt_lt h
  have h3 := part_gt hn _ _ h1
  rw [show l.length - j = (l.length - j - 1) + 1 from by omega, partsP, h, if_pos rfl, h1]
  simp only
  exact parts_fuel hn _ _ _ _ _ (Nat.le_refl _) (Nat.le_refl _) (by omega)
/-! #### arguments -/
theorem args_stop {inner : Nat → Rd Ex} {f j : Nat} {kids : List Ex} (h : isAt l [sComma] j = false) : argsP l inner f kids j = .ok kids j := by cases f <;> simp [argsP, h]
theorem args_full {inner : Nat → Rd Ex} {j : Nat} {kids : List Ex} (h : isAt l [sComma] j = true) (hk : kids.length = 20) : argsP l inner (20 - kids.length) kids j = .bad (fltAt l 11 j) := by
  rw [hk]; simp [argsP, h]
theorem args_bad {inner : Nat → Rd Ex} {j : Nat} {kids : List Ex} {g : Flt} (h : isAt l [sComma] j = true) (hk : kids.length < 20) (h1 : inner (j + 1) = .bad g) : argsP l inner (20 - kids.length) kids j = .bad g := by
  rw [show 20 - kids.length = (20 - kids.length - 1) + 1 from by omega, argsP, h, if_pos rfl, h1]
theorem args_step {inner : Nat → Rd Ex} {j j2 : Nat} {kids : List Ex} {e : Ex} (h : isAt l [sComma] j = true) (hk : kids.length < 20) (h1 : inner (j + 1) = .ok e j2) : argsP l inner (20 - (kids ++ [e]).length) (kids ++ [e]) j2 = argsP l inner (20 - kids.length) kids j := by
  rw [show 20 - kids.length = (20 - kids.length - 1) + 1 from by omega, argsP, h, if_pos rfl, h1]
  simp only [List.length_append, List.length_singleton]
  rw [show 20 - (kids.length + 1) = 20 - kids.length - 1 from by omega]
/-! #### factors -/
theorem factor_pos {d i : Nat} (h : isAt l [sNot, sMinus] i = true) (hd : d ≠ 0) : factor l d i = match factor l (d - 1) (i + 1) with | .bad g => .bad g | .ok e j => .ok (mkE 5 (tokAt l i).text 0 [] [e] (tokAt l i)) j := by
  cases d with
  | zero => exact absurd rfl hd
  | succ d => rw [factor, facP, if_pos h, intoP, if_neg (Nat.succ_ne_zero d)]; rfl
theorem fac_into {d i : Nat} {g : Flt} (h : isAt l [sNot, sMinus] i = true) (h1 : intoP l d i = .bad g) : factor l d i = .bad g := by
  rw [facP_factor, facP, if_pos h, h1]
theorem fac_bad {d i : Nat} {g : Flt} (h : isAt l [sNot, sMinus] i = true) (hd : d ≠ 0) (h1 : factor l (d - 1) (i + 1) = .bad g) : factor l d i = .bad g := by rw [factor_pos h hd, h1]
theorem fac_ok {d i j : Nat} {e : Ex} (h : isAt l [sNot, sMinus] i = true) (hd : d ≠ 0) (h1 : factor l (d - 1) (i + 1) = .ok e j) : factor l d i = .ok (mkE 5 (tokAt l i).text 0 [] [e] (tokAt l i)) j := by rw [factor_pos h hd, h1]
theorem want_yes {s : Bs} {i : Nat} (h : isAt l [s] i = true) : wantP l s i = .ok () (i + 1) := if_pos h
theorem innerD_pos {d : Nat} (h : d ≠ 0) : innerD l d = rowD l (d - 1) 4 := by
  cases d with
  | zero => exact absurd rfl h
  | succ d => rfl
end
end Go.Proofs.YtcgdlhkiecommaaGreatDoor
