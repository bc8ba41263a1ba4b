/- What a maker of gates holds, and what its methods compute. -/
import Derived.Test.YtnnklpmgncbgnaaGreatEngQ
import Derived.Test.YtnnklpmgncbgnaaGreatGSpec
set_option linter.unusedVariables false
set_option linter.unusedSimpArgs false
namespace Go.Proofs.YtnnklpmgncbgnaaGreat
open Go

structure MS where
  ins : List ByteArray
  regs : List (ByteArray × Int × Int)
  gates : List (Int × Int)
  th : List ((Int × Int) × Int)

def pairV (p : Int × Int) : Value := .agg #[.int .i64 p.1, .int .i64 p.2]
def thEnts (th : List ((Int × Int) × Int)) : List (Value × AVal) := th.map fun e => (pairV e.1, .v (.int .i64 e.2))
def MS.cells (s : MS) (g t r : Nat) (vg vt vr : Nat) : List AVal := [.v (.bool true), .list 1 (s.ins.map encS), .slice r vr 0 s.regs.length, .slice g vg 0 s.gates.length, .v (.slice none 0 0), .map t vt]
/-- A maker, as its methods see it: 0 itself, 1 its gates, 2 what is there, 3 its registers. -/
def mk0 (s : MS) (vm vg vt vr : Nat) : Store := [(0, vm, .row 6 [s.cells 1 2 3 vg vt vr]), (1, vg, .row 2 (s.gates.map encG)), (2, vt, .map (thEnts s.th)), (3, vr, .row 3 (s.regs.map encR))]
structure MS.OK (s : MS) : Prop where
  ins : s.ins.length ≤ 500
  regs : s.regs.length ≤ 500
  gates : s.gates.length ≤ 20000
  th : ∀ e ∈ s.th, 0 ≤ e.2 ∧ e.2 ≤ 42002

def MS.lits (s : MS) : Int := 2 * (((1 + s.ins.length) + s.regs.length) + s.gates.length)
def MS.litAt (s : MS) (l : List Int) (i : Nat) : Bool := !(decide (l.getD i default < 0) || decide (l.getD i default ≥ s.lits))
def MS.no (s : MS) (l : List Int) : Int := if allTo (s.litAt l) l.length then 0 else 2
theorem MS.no_bad {s : MS} {l : List Int} (i : Nat) (hi : i < l.length) (h : s.litAt l i = false) : s.no l = 2 := by
  rw [MS.no, allTo_false i hi h]; rfl
theorem MS.no_ok {s : MS} {l : List Int} (h : allTo (s.litAt l) l.length = true) : s.no l = 0 := by rw [MS.no, if_pos h]

def thFind (p : Int × Int) : List ((Int × Int) × Int) → Option Int
  | [] => none
  | (q, l) :: r => if p.1 == q.1 && p.2 == q.2 then some l else thFind p r
theorem keyEq_pair (p q : Int × Int) : keyEq (pairV p) (pairV q) = (p.1 == q.1 && p.2 == q.2) := by
  simp [keyEq, pairV, keyEq1]
theorem mapFind_th (p : Int × Int) (th : List ((Int × Int) × Int)) : mapFind (pairV p) (thEnts th) = (thFind p th).map fun l => .v (.int .i64 l) := by
  induction th with
  | nil => rfl
  | cons e r ih =>
    obtain ⟨q, l⟩ := e
    have e1 : mapFind (pairV p) (thEnts ((q, l) :: r)) = if keyEq (pairV p) (pairV q) then some (.v (.int .i64 l)) else mapFind (pairV p) (thEnts r) := rfl
    rw [e1, keyEq_pair, ih, thFind]
    split <;> rfl
theorem mapPut_th (p : Int × Int) (l : Int) (th : List ((Int × Int) × Int)) (h : thFind p th = none) : mapPut (pairV p) (.v (.int .i64 l)) (thEnts th) = thEnts (th ++ [(p, l)]) := by
  induction th with
  | nil => rfl
  | cons e r ih =>
    obtain ⟨q, k⟩ := e
    rw [thFind] at h
    split at h
    · cases h
    · rename_i hn
      have e1 : mapPut (pairV p) (.v (.int .i64 l)) (thEnts ((q, k) :: r)) = if keyEq (pairV p) (pairV q) then (pairV q, .v (.int .i64 l)) :: thEnts r else (pairV q, .v (.int .i64 k)) :: mapPut (pairV p) (.v (.int .i64 l)) (thEnts r) := rfl
      rw [e1, keyEq_pair, if_neg hn, ih h]
      rfl

def MS.add (s : MS) (p : Int × Int) : MS := { s with gates := s.gates ++ [p], th := s.th ++ [(p, s.lits)] }
/-- 'And' -/
def MS.and (s : MS) (a b : Int) : (Int × Int) × MS :=
  if s.no [a, b] ≠ 0 then ((0, s.no [a, b]), s) else
  if min a b = 0 ∨ flip (min a b) = max a b then ((0, 0), s) else
  if min a b = 1 ∨ min a b = max a b then ((max a b, 0), s) else
  match thFind (min a b, max a b) s.th with
  | some l => ((l, 0), s)
  | none => if (s.gates.length : Int) ≥ 20000 then ((0, 3), s) else ((s.lits, 0), s.add (min a b, max a b))
def MS.or (s : MS) (a b : Int) : (Int × Int) × MS :=
  if s.no [a, b] ≠ 0 then ((0, s.no [a, b]), s) else
  if (s.and (flip a) (flip b)).1.2 ≠ 0 then ((0, (s.and (flip a) (flip b)).1.2), (s.and (flip a) (flip b)).2) else
  ((flip (s.and (flip a) (flip b)).1.1, 0), (s.and (flip a) (flip b)).2)
theorem MS.and_no {s : MS} {a b : Int} (h : (s.no [a, b] != 0) = true) : s.and a b = ((0, s.no [a, b]), s) := by rw [MS.and, if_pos (by simpa using h)]
theorem MS.and_zero {s : MS} {a b : Int} (h0 : s.no [a, b] = 0) (h : (min a b == 0 || flip (min a b) == max a b) = true) : s.and a b = ((0, 0), s) := by
  rw [MS.and, if_neg (by simp [h0]), if_pos (by simpa using h)]
theorem MS.and_one {s : MS} {a b : Int} (h0 : s.no [a, b] = 0) (h1 : (min a b == 0 || flip (min a b) == max a b) = false) (h : (min a b == 1 || min a b == max a b) = true) : s.and a b = ((max a b, 0), s) := by
  rw [MS.and, if_neg (by simp [h0]), if_neg (by rw [← Bool.not_eq_true] at h1; simpa using h1), if_pos (by simpa using h)]
theorem MS.and_there {s : MS} {a b : Int} (h0 : s.no [a, b] = 0) (h1 : (min a b == 0 || flip (min a b) == max a b) = false) (h2 : (min a b == 1 || min a b == max a b) = false) (h : (thFind (min a b, max a b) s.th).isSome = true) :
    s.and a b = (((thFind (min a b, max a b) s.th).getD 0, 0), s) := by
  rw [MS.and, if_neg (by simp [h0]), if_neg (by rw [← Bool.not_eq_true] at h1; simpa using h1), if_neg (by rw [← Bool.not_eq_true] at h2; simpa using h2)]
  obtain ⟨l, hl⟩ := Option.isSome_iff_exists.1 h
  rw [hl]; rfl
theorem MS.and_full {s : MS} {a b : Int} (h0 : s.no [a, b] = 0) (h1 : (min a b == 0 || flip (min a b) == max a b) = false) (h2 : (min a b == 1 || min a b == max a b) = false) (h3 : (thFind (min a b, max a b) s.th).isSome = false) (h : (s.gates.length : Int) ≥ 20000) :
    s.and a b = ((0, 3), s) := by
  rw [MS.and, if_neg (by simp [h0]), if_neg (by rw [← Bool.not_eq_true] at h1; simpa using h1), if_neg (by rw [← Bool.not_eq_true] at h2; simpa using h2), Option.isSome_eq_false_iff.1 h3 |> Option.isNone_iff_eq_none.1]
  simp only
  rw [if_pos h]
theorem MS.and_new {s : MS} {a b : Int} (h0 : s.no [a, b] = 0) (h1 : (min a b == 0 || flip (min a b) == max a b) = false) (h2 : (min a b == 1 || min a b == max a b) = false) (h3 : (thFind (min a b, max a b) s.th).isSome = false) (h : ¬ (s.gates.length : Int) ≥ 20000) :
    s.and a b = ((s.lits, 0), s.add (min a b, max a b)) := by
  rw [MS.and, if_neg (by simp [h0]), if_neg (by rw [← Bool.not_eq_true] at h1; simpa using h1), if_neg (by rw [← Bool.not_eq_true] at h2; simpa using h2), Option.isSome_eq_false_iff.1 h3 |> Option.isNone_iff_eq_none.1]
  simp only
  rw [if_neg h]
theorem MS.no_two {s : MS} {a b : Int} (h : s.no [a, b] = 0) : 0 ≤ a ∧ a < s.lits ∧ 0 ≤ b ∧ b < s.lits := by
  have h1 : allTo (s.litAt [a, b]) 2 = true := by
    unfold MS.no at h
    split at h
    · assumption
    · cases h
  rw [allTo_iff] at h1
  have e0 := h1 0 (by omega)
  have e1 := h1 1 (by omega)
  simp [MS.litAt] at e0 e1
  omega
theorem MS.OK.lits {s : MS} (h : s.OK) : 2 ≤ s.lits ∧ s.lits ≤ 42002 := by
  obtain ⟨h1, h2, h3, _⟩ := h
  unfold MS.lits
  omega
theorem live_one {σ : Store} {id ver off m : Nat} {o : AObj} (h : σ.get id = some (ver, o)) : [AVal.slice id ver off m].all (AVal.live σ) = true := by
  simp [AVal.live, h]

section
variable {P : Program} {σ σ' : Store} {E : Operand → Option AVal} {d : Option Tmp} {ty : TypeId} {pos : String} {after : Array Edge} {guard : Option (Nat × Bool)}
theorem op_lookup_th {x y : Operand} {t kt ke et id ver : Nat} {inf inf2 : TypeInfo} {ka : AVal} {th : List ((Int × Int) × Int)} (p : Int × Int) (ht : P.underlying t = some (.map kt et)) (hkt : P.underlying kt = some (.array 2 ke)) (hke : P.underlying ke = some (.int .i64)) (hki : P.info? ke = some inf2) (hk1 : inf2.size = 1) (hi : P.info? et = some inf) (hz : inf.zero = some (.int .i64 0))
    (hx : E x = some (.map id ver)) (hid : σ.get id = some (ver, .map (thEnts th))) (hy : E y = some ka) (hk : concOf ka = some (pairV p)) :
    OpTo P ⟨d, .lookup t x y true, ty, pos, after, guard⟩ E σ (.tuple [.v (.int .i64 ((thFind p th).getD 0)), .v (.bool (thFind p th).isSome)]) σ := by
  have := op_lookup_ok (P := P) (E := E) (σ := σ) (d := d) (ty := ty) (pos := pos) (after := after) (guard := guard) (x := x) (y := y) (a := .v (.int .i64 ((thFind p th).getD 0))) ht (keyLaw_pair hkt hke hki hk1) hi hz rfl hx hid hy hk ⟨_, _, rfl⟩ (fun e he => by
    obtain ⟨q, _, rfl⟩ := List.mem_map.1 he
    exact ⟨_, _, rfl⟩) (by rw [mapFind_th]; cases thFind p th <;> rfl)
  rw [mapFind_th, Option.isSome_map] at this
  exact this
theorem op_update_th {x y u : Operand} {t kt ke et id ver : Nat} {inf2 : TypeInfo} {ka : AVal} {th : List ((Int × Int) × Int)} {l : Int} (p : Int × Int) (ht : P.underlying t = some (.map kt et)) (hkt : P.underlying kt = some (.array 2 ke)) (hke : P.underlying ke = some (.int .i64)) (hki : P.info? ke = some inf2) (hk1 : inf2.size = 1)
    (hx : E x = some (.map id ver)) (hid : σ.get id = some (ver, .map (thEnts th))) (hy : E y = some ka) (hk : concOf ka = some (pairV p)) (hu : E u = some (.v (.int .i64 l))) (hn : thFind p th = none) :
    OpTo P ⟨d, .mapUpdate t x y u, ty, pos, after, guard⟩ E σ (.v undef) (σ.put id ver (.map (thEnts (th ++ [(p, l)])))) := by
  have := op_mapUpdate (P := P) (E := E) (σ := σ) (d := d) (ty := ty) (pos := pos) (after := after) (guard := guard) (x := x) (y := y) (u := u) ht (keyLaw_pair hkt hke hki hk1) hx hid hy hk ⟨_, _, rfl⟩ (fun e he => by
    obtain ⟨q, _, rfl⟩ := List.mem_map.1 he
    exact ⟨_, _, rfl⟩) hu rfl
  rwa [mapPut_th p l th hn] at this
end
theorem thFind_mem {p : Int × Int} {th : List ((Int × Int) × Int)} {l : Int} (h : thFind p th = some l) : ∃ e ∈ th, e.2 = l := by
  induction th with
  | nil => cases h
  | cons e r ih =>
    obtain ⟨q, k⟩ := e
    rw [thFind] at h
    split at h
    · cases h; exact ⟨_, List.mem_cons_self, rfl⟩
    · obtain ⟨e, h1, h2⟩ := ih h; exact ⟨e, List.mem_cons_of_mem _ h1, h2⟩
theorem MS.add_ok {s : MS} (h : s.OK) (hg : ¬ (s.gates.length : Int) ≥ 20000) (p : Int × Int) : (s.add p).OK := by
  have hl := h.lits
  obtain ⟨h1, h2, h3, h4⟩ := h
  refine ⟨h1, h2, by simp [MS.add]; omega, ?_⟩
  intro e he
  simp only [MS.add, List.mem_append, List.mem_singleton] at he
  rcases he with he | rfl
  · exact h4 e he
  · simp only; omega
theorem MS.and_ok {s : MS} (h : s.OK) (a b : Int) : (s.and a b).2.OK := by
  unfold MS.and
  split
  · exact h
  · split
    · exact h
    · split
      · exact h
      · split
        · exact h
        · split
          · exact h
          · rename_i hg; exact MS.add_ok h hg _
theorem MS.and_lit {s : MS} (h : s.OK) (a b : Int) : 0 ≤ (s.and a b).1.1 ∧ (s.and a b).1.1 ≤ 42002 := by
  have hl := h.lits
  unfold MS.and
  split
  · simp only; omega
  · rename_i hn
    have := MS.no_two (s := s) (a := a) (b := b) (by simpa using hn)
    split
    · simp only; omega
    · split
      · simp only; omega
      · split
        · rename_i l hf
          obtain ⟨e, h1, h2⟩ := thFind_mem hf
          have := h.th e h1
          simp only; omega
        · split <;> (simp only; omega)
theorem MS.or_no {s : MS} {a b : Int} (h : (s.no [a, b] != 0) = true) : s.or a b = ((0, s.no [a, b]), s) := by rw [MS.or, if_pos (by simpa using h)]
theorem MS.or_err {s : MS} {a b : Int} (h0 : s.no [a, b] = 0) (h : ((s.and (flip a) (flip b)).1.2 != 0) = true) : s.or a b = ((0, (s.and (flip a) (flip b)).1.2), (s.and (flip a) (flip b)).2) := by
  rw [MS.or, if_neg (by simp [h0]), if_pos (by simpa using h)]
theorem MS.or_ok {s : MS} {a b : Int} (h0 : s.no [a, b] = 0) (h : ((s.and (flip a) (flip b)).1.2 != 0) = false) : s.or a b = ((flip (s.and (flip a) (flip b)).1.1, 0), (s.and (flip a) (flip b)).2) := by
  rw [MS.or, if_neg (by simp [h0]), if_neg (by simpa using h)]

/-! ### A maker in the caller's names -/
theorem rnA_clo {ρ : Nat → Nat} {a : AVal} (h : a.cloA = true) : a.rnA ρ = a := by
  cases a with
  | agg cs => simp only [AVal.cloA] at h; simp only [AVal.rnA, rn_cells h]
  | fn f cs => simp only [AVal.cloA] at h; simp only [AVal.rnA, rn_cells h]
  | _ => first | rfl | exact absurd h (by simp [AVal.cloA, AVal.clo1])
theorem rn_clo {ρ : Nat → Nat} {a : AVal} (h : a.clo = true) : a.rn ρ = a := by
  cases a with
  | tuple cs =>
    simp only [AVal.clo, List.all_eq_true] at h
    simp only [AVal.rn]
    congr 1
    conv => rhs; rw [← List.map_id cs]
    exact List.map_congr_left fun x hx => rnA_clo (h x hx)
  | agg cs => exact rnA_clo (a := .agg cs) h
  | fn f cs => exact rnA_clo (a := .fn f cs) h
  | _ => first | rfl | exact absurd h (by simp [AVal.clo, AVal.cloA, AVal.clo1])
theorem rn_clos {ρ : Nat → Nat} {l : List AVal} (h : l.all AVal.clo = true) : l.map (AVal.rn ρ) = l := by
  rw [List.all_eq_true] at h
  conv => rhs; rw [← List.map_id l]
  exact List.map_congr_left fun x hx => rn_clo (h x hx)

def setM (σ : Store) (m g t r : Nat) (s : MS) (vm vg vt vr : Nat) : Store := (((σ.put r vr (.row 3 (s.regs.map encR))).put t vt (.map (thEnts s.th))).put g vg (.row 2 (s.gates.map encG))).put m vm (.row 6 [s.cells g t r vg vt vr])
theorem rn_th {ρ : Nat → Nat} (th : List ((Int × Int) × Int)) : (thEnts th).map (fun e => (e.1, e.2.rnA ρ)) = thEnts th := by
  unfold thEnts
  rw [List.map_map]
  exact List.map_congr_left fun x _ => rfl
theorem mk_match {σ : Store} {s : MS} {m g t r vm vg vt vr : Nat} (h1 : σ.get m = some (vm, .row 6 [s.cells g t r vg vt vr])) (h2 : σ.get g = some (vg, .row 2 (s.gates.map encG))) (h3 : σ.get t = some (vt, .map (thEnts s.th))) (h4 : σ.get r = some (vr, .row 3 (s.regs.map encR))) :
    Store.match (tab [m, g, t, r]) σ (mk0 s vm vg vt vr) := by
  refine ⟨?_, ?_, ?_, ?_, trivial⟩
  · exact h1
  · show σ.get g = some (vg, .row 2 ((s.gates.map encG).map (List.map (AVal.rn1 _))))
    rw [rn_rows (fun _ => rfl)]; exact h2
  · have e3 : (AObj.map (thEnts s.th)).rn (tab [m, g, t, r]) = .map (thEnts s.th) := by show AObj.map _ = _; rw [rn_th]
    rw [e3]; exact h3
  · show σ.get r = some (vr, .row 3 ((s.regs.map encR).map (List.map (AVal.rn1 _))))
    rw [rn_rows (fun _ => rfl)]; exact h4
theorem mk_free {σ : Store} {s : MS} {m g t r vm vg vt vr : Nat} : Store.free [m, g, t, r] (mk0 s vm vg vt vr) σ = true := by
  simp [Store.free, mk0, Store.get, List.range_succ]
theorem mk_putAll {σ : Store} {s : MS} {m g t r vm vg vt vr : Nat} : Store.putAll (tab [m, g, t, r]) (mk0 s vm vg vt vr) σ = setM σ m g t r s vm vg vt vr := by
  have e2 : (AObj.row 2 (s.gates.map encG)).rn (tab [m, g, t, r]) = .row 2 (s.gates.map encG) := by show AObj.row 2 _ = _; rw [rn_rows (fun _ => rfl)]
  have e3 : (AObj.map (thEnts s.th)).rn (tab [m, g, t, r]) = .map (thEnts s.th) := by show AObj.map _ = _; rw [rn_th]
  have e4 : (AObj.row 3 (s.regs.map encR)).rn (tab [m, g, t, r]) = .row 3 (s.regs.map encR) := by show AObj.row 3 _ = _; rw [rn_rows (fun _ => rfl)]
  simp only [Store.putAll, mk0, e2, e3, e4]
  rfl
theorem mk_hasAll {s s' : MS} {vm vg vt vr vm' vg' vt' vr' : Nat} : Store.hasAll (mk0 s vm vg vt vr) (mk0 s' vm' vg' vt' vr') := by
  intro j h
  simp only [mk0, Store.get] at h ⊢
  revert h
  cases Nat.beq 0 j <;> cases Nat.beq 1 j <;> cases Nat.beq 2 j <;> cases Nat.beq 3 j <;> simp
/-- A method that may turn the maker, in the caller's names. -/
theorem mk_at {P : Program} {f : FuncId} {σ : Store} {s s' : MS} {m g t r vm vg vt vr : Nat} {bvs : List AVal} {a : AVal} (h : AC P f (.ptr 0 vm 0 0 :: bvs) (mk0 s vm vg vt vr) (fun x σ' => ∃ vg', x = .ret a ∧ σ' = mk0 s' vm vg' vt vr)) (ht : tabOK [m, g, t, r] = true) (hb : σ.below 1000 = true)
    (h1 : σ.get m = some (vm, .row 6 [s.cells g t r vg vt vr])) (h2 : σ.get g = some (vg, .row 2 (s.gates.map encG))) (h3 : σ.get t = some (vt, .map (thEnts s.th))) (h4 : σ.get r = some (vr, .row 3 (s.regs.map encR))) (hc : bvs.all AVal.clo = true) (ha : a.clo = true) :
    AC P f (.ptr m vm 0 0 :: bvs) σ (fun x σ' => ∃ vg', x = .ret a ∧ σ' = setM σ m g t r s' vm vg' vt vr) := by
  have := ac_at [m, g, t, r] ht h (mk_match h1 h2 h3 h4) mk_free hb (by rintro x σ' ⟨vg', rfl, rfl⟩; exact mk_hasAll)
  rw [List.map_cons, rn_clos hc] at this
  refine ac_mono this ?_
  rintro x σ' ⟨_, _, ⟨vg', rfl, rfl⟩, rfl, rfl⟩
  exact ⟨vg', by show AEnd.ret (a.rn _) = _; rw [rn_clo ha], mk_putAll⟩
/-- One that leaves it. -/
theorem mk_ro {P : Program} {f : FuncId} {σ : Store} {s : MS} {m g t r vm vg vt vr : Nat} {bvs : List AVal} {a : AVal} (h : AC P f (.ptr 0 vm 0 0 :: bvs) (mk0 s vm vg vt vr) (fun x σ' => x = .ret a ∧ σ' = mk0 s vm vg vt vr)) (ht : tabOK [m, g, t, r] = true) (hb : σ.below 1000 = true)
    (h1 : σ.get m = some (vm, .row 6 [s.cells g t r vg vt vr])) (h2 : σ.get g = some (vg, .row 2 (s.gates.map encG))) (h3 : σ.get t = some (vt, .map (thEnts s.th))) (h4 : σ.get r = some (vr, .row 3 (s.regs.map encR))) (hc : bvs.all AVal.clo = true) (ha : a.clo = true) :
    AC P f (.ptr m vm 0 0 :: bvs) σ (fun x σ' => x = .ret a ∧ σ' = σ) := by
  have := ac_ro [m, g, t, r] ht h (mk_match h1 h2 h3 h4) mk_free hb
  rw [List.map_cons, rn_clos hc, rn_clo ha] at this
  exact this
def MS.made (s : MS) (outs : List (ByteArray × Int)) : Net := ⟨s.ins, s.regs, s.gates, outs⟩
def Net.none : Net := ⟨[], [], [], []⟩
def MS.net0 (s : MS) (outs : List (ByteArray × Int)) : Net × Int := if (s.made outs).valid then (s.made outs, 0) else (Net.none, 2)
def MS.start (ins : List ByteArray) : MS := ⟨ins, [], [], []⟩
theorem copied_match {σ : Store} {regs : List (ByteArray × Int × Int)} {gates : List (Int × Int)} {r g vr vg : Nat} (h1 : σ.get r = some (vr, .row 3 (regs.map encR))) (h2 : σ.get g = some (vg, .row 2 (gates.map encG))) :
    Store.match (tab [r, g]) σ [(0, vr, .row 3 (regs.map encR)), (1, vg, .row 2 (gates.map encG))] := by
  have e2 : (AObj.row 2 (gates.map encG)).rn (tab [r, g]) = .row 2 (gates.map encG) := by show AObj.row 2 _ = _; rw [rn_rows (fun _ => rfl)]
  have e4 : (AObj.row 3 (regs.map encR)).rn (tab [r, g]) = .row 3 (regs.map encR) := by show AObj.row 3 _ = _; rw [rn_rows (fun _ => rfl)]
  exact ⟨by rw [e4]; exact h1, by rw [e2]; exact h2, trivial⟩
theorem copied_free {σ : Store} {a b : AObj} {r g vr vg : Nat} : Store.free [r, g] [(0, vr, a), (1, vg, b)] σ = true := by
  simp [Store.free, Store.get, List.range_succ]
end Go.Proofs.YtnnklpmgncbgnaaGreat
