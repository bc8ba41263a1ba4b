/- The engine, part 17: lists grown inside an object; pointers held against nil. -/
import Derived.Test.YtnnklpmgncbgnaaGreatEngP
set_option linter.unusedVariables false
set_option linter.unusedSimpArgs false
namespace Go.Proofs.YtnnklpmgncbgnaaGreat
open Go

section
variable {P : Program} {n : Nat} {Q : APost} {env : Env} {σ σ' : Store} {ops : Array Oper} {rest : List Oper}
variable {E : Operand → Option AVal} {d : Option Tmp} {ty : TypeId} {pos : String} {after : Array Edge} {guard : Option (Nat × Bool)}

theorem own_in_core {ok : Nat → Prop} {L : Loc} {w : World} {act : Act} (hs : Sim ok L σ w) (hr : RepEnv ok L w env act.tmps) (m g esz k : Nat) {vm sz : Nat} {cells : List AVal} {a : AVal} (hg : g ≠ m) (hid : σ.get m = some (vm, .row sz [cells])) (hk : cells[k]? = some a) (hn : a.nilB = true) :
    ∃ vg L', Evo ok L σ w ok L' ((σ.put g vg (.row esz [])).put m vm (.row sz [cells.set k (.slice g vg 0 0)])) w ∧ Sim ok L' ((σ.put g vg (.row esz [])).put m vm (.row sz [cells.set k (.slice g vg 0 0)])) w ∧ RepEnv ok L' w env act.tmps := by
  obtain ⟨he, hs'⟩ := sim_upd (w' := w) hs g w.heap.size 0 esz (L.ver g + 1) (.row esz []) (by omega) rfl rfl rfl (Nat.le_refl _) (fun _ _ _ => rfl) (.inl (Nat.le_refl _)) (fun h => absurd rfl h)
    (fun _ => ⟨by simp [Loc.upd], by simp [Loc.upd], by simp, by simp, fun h => by simp [Loc.upd] at h⟩)
  have hid' : (σ.put g (L.ver g + 1) (.row esz [])).get m = some (vm, .row sz [cells]) := by rw [Store.get_put, if_neg hg]; exact hid
  obtain ⟨o1, o2, o3, o4, o5⟩ := hs'.objs _ _ _ hid'
  have hcap : (L.upd g w.heap.size 0 esz (L.ver g + 1)).cap m ≠ 0 := by simp at o4; omega
  obtain ⟨he2, hs2⟩ := sim_set (w' := w) hs' m vm _ (.row sz [cells.set k (.slice g (L.ver g + 1) 0 0)]) hid' hcap rfl rfl rfl rfl (fun _ _ => rfl) (fun _ => by
    refine ⟨o1, o2, ?_, by simpa using o4, fun hc => ?_⟩
    · intro e hm
      simp only [List.mem_singleton] at hm
      subst hm
      rw [List.length_set]; exact o3 _ (by simp)
    · obtain ⟨conc, et, c1, c2, c3⟩ := o5 hc
      refine ⟨conc, et, c1, c2, fun i el j av h1 h2 => ?_⟩
      cases i with
      | succ i => simp at h1
      | zero =>
        simp at h1
        subst h1
        rw [List.getElem?_set] at h2
        by_cases e : k = j
        · subst e
          rw [if_pos rfl] at h2
          split at h2
          · cases h2
            obtain ⟨v, v1, v2, v3⟩ := c3 0 cells k a rfl hk
            refine ⟨v, v1, ?_, v3⟩
            obtain ⟨b, rfl⟩ := rep_nil hn (v2.rep v2.leaf)
            exact ⟨by simp [Loc.upd], fun _ => ⟨b, 0, rfl, Nat.le_refl _, by simp [Loc.upd], fun h => by simp [Loc.upd] at h⟩⟩
          · cases h2
        · rw [if_neg e] at h2
          exact c3 0 cells j av rfl h2)
  exact ⟨_, _, he.trans he2, hs2, (hr.evo hs he).evo hs' he2⟩
theorem aw_own_in {α : Type} {c : Code} (f : α → List AVal) (m g esz k : Nat) {vm sz : Nat} {cells : List AVal} {a : AVal} (hg : g ≠ m) (hid : σ.get m = some (vm, .row sz [cells])) (hk : cells[k]? = some a) (hn : a.nilB = true)
    (h : ∀ vg, AW P n c Q env ((σ.put g vg (.row esz (([] : List α).map f))).put m vm (.row sz [cells.set k (.slice g vg 0 ([] : List α).length)]))) : AW P n c Q env σ := fun ok L w act h1 h2 h3 h4 => by
  obtain ⟨vg, L', he, hs', hr'⟩ := own_in_core h1 h2 m g esz k hg hid hk hn
  exact wp_mono (h vg ok L' w act hs' hr' h3 h4) fun _ _ _ hp => hp.after he

theorem op_pnil_ptr {x y : Operand} {t u e id ver i j : Nat} {ob : AObj} (ht : P.underlying t = some (.pointer e)) (hx : E x = some (.ptr id ver i j)) (hy : E y = some (.v (.pointer none))) (hid : σ.get id = some (ver, ob)) : OpTo P ⟨d, .binOp .eql t x y u, ty, pos, after, guard⟩ E σ (.v (.bool false)) σ :=
  op_value fun ok L w ρ hs hr => by
    have h := hr x (by simp [Op.operands]) _ hx
    have h1 := h.2 (hs.ver hid)
    have h2 := rep_bool (hr y (by simp [Op.operands]) _ hy)
    have he : (Op.equal t (.pointer (some ⟨L.blk id, i * L.sz id + j, none⟩)) (.pointer none)).run P w = .ok false w := by
      show (Op.equalIn (9999 + 1) t _ _).run P w = _
      rw [Op.equalIn]
      simp [run_underlying ht]
    refine ⟨.bool false, ?_, RepC.v _⟩
    simp only [execOp, eqGuard, binOp, h1, h2]
    simp [he]
theorem op_pnil_none {x y : Operand} {t u e : Nat} (ht : P.underlying t = some (.pointer e)) (hx : E x = some (.v (.pointer none))) (hy : E y = some (.v (.pointer none))) : OpTo P ⟨d, .binOp .eql t x y u, ty, pos, after, guard⟩ E σ (.v (.bool true)) σ :=
  op_two (by simp [Op.operands]) (by simp [Op.operands]) hx hy fun ρ w h1 h2 => by
    have he : (Op.equal t (.pointer none) (.pointer none)).run P w = .ok true w := by
      show (Op.equalIn (9999 + 1) t _ _).run P w = _
      rw [Op.equalIn]
      simp [run_underlying ht]
    simp only [execOp, eqGuard, binOp, h1, h2]
    simp [he]
end
theorem res_re {P : Program} {fn : Func} {env : Env} {σ : Store} {a b : AVal} (h : ResOK P fn env σ a) (hl : ReA a b) : ResOK P fn env σ b := by
  intro ok L w tmps hs hr
  obtain ⟨v, h1, h2⟩ := h ok L w tmps hs hr
  exact ⟨v, h1, hl.rep h2⟩
theorem res_re2 {P : Program} {fn : Func} {env : Env} {σ : Store} {a b c : AVal} (h : ResOK P fn env σ (.tuple [a, c])) (hl : ReA a b) (hf : a.flat = true) (hg : b.flat = true) : ResOK P fn env σ (.tuple [b, c]) := by
  intro ok L w tmps hs hr
  obtain ⟨v, h1, vs, h2, h3⟩ := h ok L w tmps hs hr
  match vs, h3 with
  | [x, y], ⟨g1, g2, _⟩ => exact ⟨v, h1, [x, y], h2, repA_of (hl.rep (rep_of g1 hf)) hg, g2, trivial⟩
/-- A contract that leaves what it sees, in the caller's names. -/
theorem ac_ro {P : Program} {f : FuncId} {bvs : List AVal} {σ0 σ : Store} {a : AVal} (t : List Nat) (ht : tabOK t = true) (h : AC P f bvs σ0 (fun r σ' => r = .ret a ∧ σ' = σ0)) (hm : Store.match (tab t) σ σ0) (hf : Store.free t σ0 σ = true) (hb : σ.below 1000 = true) :
    AC P f (bvs.map (AVal.rn (tab t))) σ (fun r σ' => r = .ret (a.rn (tab t)) ∧ σ' = σ) := by
  have hρ := tab_inj ht
  have h1 : ∀ j, σ0.get j = none → σ.get (tab t j) = none := by
    intro j hj
    by_cases hl : j < t.length
    · have := List.all_eq_true.1 hf j (List.mem_range.2 hl)
      rw [hj] at this
      simpa using this
    · have e : tab t j = j + 1000 := by simp only [tab]; rw [List.getElem?_eq_none (by omega)]
      rw [e]
      exact Store.get_below hb (by omega)
  intro ok L w vs hs hv
  refine (ac_ren (tab t) hρ h (Store.match_get hm) h1 ok L w vs hs hv).mono ?_
  rintro e w' ⟨r, σ', ok', L', ⟨r0, σ0', ⟨rfl, rfl⟩, rfl, g1, g2⟩, he, hs', hx⟩
  have hg : ∀ id, σ'.get id = σ.get id := by
    intro id
    by_cases hi : ∃ j, tab t j = id
    · obtain ⟨j, rfl⟩ := hi
      rw [g1]
      cases hj : σ0'.get j with
      | some p => obtain ⟨v, o⟩ := p; rw [Store.match_get hm j v o hj]; rfl
      | none => rw [h1 j hj]; rfl
    · exact g2 id (fun j hj => hi ⟨j, hj⟩)
  exact ⟨_, _, ok', L', ⟨rfl, rfl⟩, he.congr hg, hs'.congr hg, hx⟩
theorem all_live_nil {σ : Store} : ([] : List AVal).all (AVal.live σ) = true := rfl
theorem all_live_clo {σ : Store} {a : AVal} {l : List AVal} (h : a.clo1 = true) (hs : l.all (AVal.live σ) = true) : (a :: l).all (AVal.live σ) = true := by
  rw [List.all_cons, hs, Bool.and_true]
  cases a <;> first | rfl | simp [AVal.clo1] at h
theorem all_live_slice {σ : Store} {id ver off m : Nat} {o : AObj} {l : List AVal} (h : σ.get id = some (ver, o)) (hs : l.all (AVal.live σ) = true) : (AVal.slice id ver off m :: l).all (AVal.live σ) = true := by
  rw [List.all_cons, hs, Bool.and_true]; simp [AVal.live, h]
theorem all_live_ptr {σ : Store} {id ver i j : Nat} {o : AObj} {l : List AVal} (h : σ.get id = some (ver, o)) (hs : l.all (AVal.live σ) = true) : (AVal.ptr id ver i j :: l).all (AVal.live σ) = true := by
  rw [List.all_cons, hs, Bool.and_true]; simp [AVal.live, h]
theorem all_live_map {σ : Store} {id ver : Nat} {o : AObj} {l : List AVal} (h : σ.get id = some (ver, o)) (hs : l.all (AVal.live σ) = true) : (AVal.map id ver :: l).all (AVal.live σ) = true := by
  rw [List.all_cons, hs, Bool.and_true]; simp [AVal.live, h]
theorem parts_nil {σ : Store} : ([] : List (Nat × AVal)).all (fun p => okPart σ p.2) = true := rfl
theorem parts_cons {σ : Store} {i : Nat} {a : AVal} {l : List (Nat × AVal)} (h1 : a.cells.all AVal.oneB = true) (h2 : a.cells.all (AVal.live σ) = true) (hs : l.all (fun p => okPart σ p.2) = true) : ((i, a) :: l).all (fun p => okPart σ p.2) = true := by
  rw [List.all_cons, hs, Bool.and_true]
  simp only [okPart, h1, h2, Bool.and_self]
theorem sca_map {α : Type} {f : α → List AVal} {l : List α} (h : ∀ x, (f x).all AVal.sca = true) : ∀ el ∈ l.map f, el.all AVal.sca = true := by
  intro el hel
  obtain ⟨x, _, rfl⟩ := List.mem_map.1 hel
  exact h x
/-- What is no longer needed is let go. -/
theorem ac_keep {P : Program} {f : FuncId} {avs : List AVal} {σ : Store} {R : AEnd → Store → Prop} (q : Nat → Bool) (h : AC P f avs σ R) : AC P f avs σ (fun r σ' => ∃ σ1, R r σ1 ∧ σ' = σ1.keep q) := by
  intro ok L w vs hs hv
  refine (h ok L w vs hs hv).mono ?_
  rintro e w' ⟨r, σ1, ok', L', hR, he, hs', hx⟩
  obtain ⟨ok2, L2, he2, hs2, _, _⟩ := freeze_core hs' q
  refine ⟨r, _, ok2, L2, ⟨σ1, hR, rfl⟩, he.trans he2, hs2, ?_⟩
  cases r with
  | ret a =>
    cases e with
    | returned v => exact Rep.evo (show Rep ok' L' w' a v from hx) hs' he2
    | _ => exact hx.elim
  | pan a =>
    cases e with
    | panicked chain => obtain ⟨v, e1, e2⟩ := hx; exact ⟨v, e1, e2.evo hs' he2⟩
    | _ => exact hx.elim
theorem re2_nil : All2 ReL [] [] := trivial
theorem re2_cons {a b : AVal} {as bs : List AVal} (h : ReL a b) (hs : All2 ReL as bs) : All2 ReL (a :: as) (b :: bs) := ⟨h, hs⟩
theorem re2_agg {as bs : List AVal} (h : All2 ReL as bs) : ReA (.agg as) (.agg bs) := .agg _ _ h
end Go.Proofs.YtnnklpmgncbgnaaGreat
