/- The engine, part 5: stores, new objects, append, make. -/
import Derived.Test.YtbojpddejdmamaaGreatDoorEngD
set_option linter.unusedVariables false
set_option linter.unusedSimpArgs false
namespace Go.Proofs.YtbojpddejdmamaaGreatDoor
open Go

theorem Rep.toL {ok : Nat → Prop} {L : Loc} {w : World} {a : AVal} {v : Value} (h : Rep ok L w a v) (hc : a.leaf = true) : RepL ok L w a v := by
  cases a <;> first | exact h | simp [AVal.leaf] at hc
/-- a value that fills one cell, as the machine counts -/
def AVal.oneB : AVal → Bool
  | .v x => x.oneCell'
  | .agg _ | .tuple _ | .fn _ _ => false
  | _ => true
theorem RepC.oneCell {ok : Nat → Prop} {w : World} {a : AVal} {v : Value} (h : RepC ok w a v) (ho : a.oneB = true) : v.oneCell' = true := by
  cases h <;> first | exact ho | rfl
theorem RepL.oneCell {ok : Nat → Prop} {L : Loc} {w : World} {a : AVal} {v : Value} (h : RepL ok L w a v) (ho : a.oneB = true) (hv : ∀ id ver, (∃ off m, a = .slice id ver off m) ∨ (∃ i j, a = .ptr id ver i j) ∨ a = .map id ver → L.ver id = ver) : v.oneCell' = true := by
  cases a with
  | slice id ver off m => obtain ⟨_, _, e, _⟩ := h.2 (hv id ver (.inl ⟨_, _, rfl⟩)); subst e; rfl
  | ptr id ver i j => have e := h.2 (hv id ver (.inr (.inl ⟨_, _, rfl⟩))); subst e; rfl
  | map id ver => have e := h.2 (hv id ver (.inr (.inr rfl))); subst e; rfl
  | _ => exact RepC.oneCell h ho

/-- what is stored is alive -/
def AVal.live (σ : Store) : AVal → Bool
  | .slice id ver _ _ | .ptr id ver _ _ | .map id ver => match σ.get id with | some p => Nat.beq p.1 ver | none => false
  | _ => true
theorem AVal.live_ver {ok : Nat → Prop} {L : Loc} {σ : Store} {w : World} (hs : Sim ok L σ w) {a : AVal} (h : a.live σ = true) : ∀ id ver, (∃ off m, a = .slice id ver off m) ∨ (∃ i j, a = .ptr id ver i j) ∨ a = .map id ver → L.ver id = ver := by
  have key : ∀ id ver, (match σ.get id with | some p => Nat.beq p.1 ver | none => false) = true → L.ver id = ver := by
    intro id ver hh
    cases hg : σ.get id with
    | none => rw [hg] at hh; cases hh
    | some p =>
      obtain ⟨v, o⟩ := p
      rw [hg] at hh
      have := nat_beq_true.1 hh
      subst this
      exact hs.ver hg
  rintro id ver (⟨off, m, rfl⟩ | ⟨i, j, rfl⟩ | rfl)
  · exact key id ver h
  · exact key id ver h
  · exact key id ver h

/-- the cells of a value that is stored -/
def AVal.cells : AVal → List AVal
  | .agg cs => cs
  | a => [a]

section
variable {P : Program} {n : Nat} {Q : APost} {env : Env} {σ σ' : Store} {ops : Array Oper} {rest : List Oper}
variable {E : Operand → Option AVal} {d : Option Tmp} {ty : TypeId} {pos : String} {after : Array Edge} {guard : Option (Nat × Bool)}

/-- A value in memory, cell by cell. -/
theorem Rep.cells {ok : Nat → Prop} {L : Loc} {w : World} {a : AVal} {v : Value} (hs : Sim ok L σ w) (h : Rep ok L w a v) (h1 : a.cells.all AVal.oneB = true) (hl : a.cells.all (AVal.live σ) = true) :
    All2 (RepL ok L w) a.cells v.cells.toList ∧ ∀ u ∈ v.cells.toList, u.oneCell' = true := by
  have key : ∀ (cs : List AVal) (vs : List Value), All2 (RepL ok L w) cs vs → cs.all AVal.oneB = true → cs.all (AVal.live σ) = true → ∀ u ∈ vs, u.oneCell' = true := by
    intro cs
    induction cs with
    | nil => intro vs h _ _ u hu; cases vs with | nil => cases hu | cons _ _ => exact h.elim
    | cons c cs ih =>
      intro vs h h1 h2 u hu
      cases vs with
      | nil => exact h.elim
      | cons x vs =>
        simp only [List.all_cons, Bool.and_eq_true] at h1 h2
        rcases List.mem_cons.1 hu with rfl | hu
        · exact h.1.oneCell h1.1 (AVal.live_ver hs h2.1)
        · exact ih vs h.2 h1.2 h2.2 u hu
  cases a with
  | agg cs =>
    obtain ⟨vs, rfl, h3⟩ := h
    simp only [AVal.cells] at h1 hl ⊢
    simp only [Value.cells, List.toList_toArray]
    exact ⟨h3, key cs vs h3 h1 hl⟩
  | tuple cs => simp [AVal.cells, AVal.oneB] at h1
  | fn f cs => simp [AVal.cells, AVal.oneB] at h1
  | _ =>
    have hr := Rep.toL h rfl
    simp only [AVal.cells, List.all_cons, List.all_nil, Bool.and_true] at h1 hl
    have ho := hr.oneCell h1 (AVal.live_ver hs hl)
    have hc : v.cells = #[v] := by cases v <;> first | rfl | simp [Value.oneCell'] at ho
    rw [hc]
    refine ⟨⟨hr, trivial⟩, fun u hu => ?_⟩
    simp at hu
    subst hu
    exact ho

/-- cells of a row from place j on are written -/
def splice (el : List AVal) (j : Nat) (cs : List AVal) : List AVal := el.take j ++ cs ++ el.drop (j + cs.length)

theorem op_store_ptr {x y : Operand} {t : TypeId} {inf : TypeInfo} {id ver i j sz : Nat} {els : List (List AVal)} {el : List AVal} {a : AVal} (hi : P.info? t = some inf) (hx : E x = some (.ptr id ver i j)) (hy : E y = some a) (hid : σ.get id = some (ver, .row sz els)) (hel : els[i]? = some el)
    (hsz : inf.size = a.cells.length) (h1 : a.cells.all AVal.oneB = true) (hl : a.cells.all (AVal.live σ) = true) (hfit : j + a.cells.length ≤ el.length) :
    OpTo P ⟨d, .store t x y, ty, pos, after, guard⟩ E σ (.v undef) (σ.put id ver (.row sz (els.set i (splice el j a.cells)))) := by
  intro ok L w ρ hs hr
  have hxv := (hr x (by simp [Op.operands]) _ hx).2 (hs.ver hid)
  have hyv := hr y (by simp [Op.operands]) _ hy
  obtain ⟨e1, e2, e3, e4, conc, et, g1, g2, g3⟩ := hs.row hid hel
  obtain ⟨c1, c2⟩ := hyv.cells hs h1 hl
  have clen := All2.length _ _ c1
  generalize hvs : (ρ y).cells.toList = vs at c1 c2 clen
  have hbound : i * sz + j + vs.length ≤ conc.size := by
    rw [g2]
    have : (i + 1) * sz ≤ L.cap id * sz := Nat.mul_le_mul_right _ e4
    rw [Nat.add_mul] at this
    omega
  have hst := run_storeCells_at P (L.blk id) (i * sz + j) et vs 0 conc w g1 (by simpa using hbound) c2
  simp only [Nat.add_zero] at hst
  generalize hcs : (conc.toList.take (i * sz + j) ++ vs ++ conc.toList.drop (i * sz + j + vs.length)).toArray = cs at hst
  have hrun : (execOp ρ ⟨d, .store t x y, ty, pos, after, guard⟩).run P w = .ok .skip (w.setRow (L.blk id) cs) := by
    have hc : (ρ y).cells.size = inf.size := by rw [hsz, clen, ← hvs]; simp
    simp [execOp, Instr.storeAt, Instr.sureAddr, hxv, e1, storeVar, sizeOf, typeInfo, hi, hc, hvs, hst]
  have hget : ∀ k, cs[k]? = if k < i * sz + j then conc[k]? else if k < i * sz + j + vs.length then vs[k - (i * sz + j)]? else conc[k]? := by
    intro k
    rw [← hcs]
    simp only [List.getElem?_toArray, List.append_assoc]
    by_cases h1 : k < i * sz + j
    · rw [if_pos h1, List.getElem?_append_left (by simp; omega), List.getElem?_take, if_pos h1]; simp
    · rw [if_neg h1, List.getElem?_append_right (by simp; omega)]
      have hl1 : (conc.toList.take (i * sz + j)).length = i * sz + j := by simp; omega
      rw [hl1]
      by_cases h2 : k < i * sz + j + vs.length
      · rw [if_pos h2, List.getElem?_append_left (by omega)]
      · rw [if_neg h2, List.getElem?_append_right (by omega), List.getElem?_drop]
        rw [show i * sz + j + vs.length + (k - (i * sz + j) - vs.length) = k from by omega]
        simp
  have hcsz : cs.size = conc.size := by
    rw [← hcs]
    simp
    omega
  have hio : i < els.length := by
    rcases Nat.lt_or_ge i els.length with h | h
    · exact h
    · simp [List.getElem?_eq_none h] at hel
  obtain ⟨he, hs'⟩ := sim_set (w' := w.setRow (L.blk id) cs) hs id ver _ (.row sz (els.set i (splice el j a.cells))) hid e3 rfl rfl rfl (by simp [World.setRow]) (fun k hk => setRow_other w _ k _ hk) (fun he => by
    obtain ⟨o1, o2, o3, o4, o5⟩ := hs.objs id ver _ hid
    have hspl : (splice el j a.cells).length = sz := by
      simp only [splice, List.length_append, List.length_take, List.length_drop]
      omega
    refine ⟨o1, o2, ?_, by simpa using o4, fun _ => ⟨cs, et, setRow_heap w _ conc cs et _ g1, by rw [hcsz]; exact g2, ?_⟩⟩
    · intro e hm
      rcases List.mem_or_eq_of_mem_set hm with h | h
      · exact o3 e h
      · rw [h]; exact hspl
    · intro i' el' j' av hi' hj'
      rw [List.getElem?_set] at hi'
      by_cases hii : i = i'
      · subst hii
        rw [if_pos rfl, if_pos hio] at hi'
        cases hi'
        have hj'' : j' < sz := by
          rcases Nat.lt_or_ge j' (splice el j a.cells).length with h | h
          · omega
          · simp [List.getElem?_eq_none h] at hj'
        simp only [splice, List.append_assoc] at hj'
        rw [hget]
        by_cases h1 : j' < j
        · rw [if_pos (by omega)]
          rw [List.getElem?_append_left (by simp; omega), List.getElem?_take, if_pos h1] at hj'
          obtain ⟨v, k1, k2, k3⟩ := g3 i el j' av hel hj'
          exact ⟨v, k1, k2.evo hs he, k3⟩
        · rw [if_neg (by omega)]
          have hl1 : (el.take j).length = j := by simp; omega
          rw [List.getElem?_append_right (by omega), hl1] at hj'
          by_cases h2 : j' < j + a.cells.length
          · rw [if_pos (by omega)]
            rw [List.getElem?_append_left (by omega)] at hj'
            obtain ⟨v, k1, k2⟩ := All2.get _ _ c1 _ _ hj'
            exact ⟨v, by rw [show i * sz + j' - (i * sz + j) = j' - j from by omega]; exact k1, k2.evo hs he, c2 v (List.mem_of_getElem? k1)⟩
          · rw [if_neg (by omega)]
            rw [List.getElem?_append_right (by omega), List.getElem?_drop, show j + a.cells.length + (j' - j - a.cells.length) = j' from by omega] at hj'
            obtain ⟨v, k1, k2, k3⟩ := g3 i el j' av hel hj'
            exact ⟨v, k1, k2.evo hs he, k3⟩
      · rw [if_neg hii] at hi'
        obtain ⟨v, k1, k2, k3⟩ := g3 i' el' j' av hi' hj'
        have hj'' : j' < sz := by
          have := o3 el' (List.mem_of_getElem? hi')
          rcases Nat.lt_or_ge j' el'.length with h | h
          · omega
          · simp [List.getElem?_eq_none h] at hj'
        refine ⟨v, ?_, k2.evo hs he, k3⟩
        rw [hget]
        rcases Nat.lt_or_gt_of_ne hii with h | h
        · have : (i + 1) * sz ≤ i' * sz := Nat.mul_le_mul_right _ h
          rw [Nat.add_mul] at this
          rw [if_neg (by omega), if_neg (by omega)]; exact k1
        · have : (i' + 1) * sz ≤ i * sz := Nat.mul_le_mul_right _ h
          rw [Nat.add_mul] at this
          rw [if_pos (by omega)]; exact k1)
  exact ⟨undef, _, ok, L, .inr ⟨hrun, rfl⟩, he, hs', RepC.v _⟩

theorem splice_one {el : List AVal} {j : Nat} {a : AVal} (h : j < el.length) : splice el j [a] = el.set j a := by
  simp only [splice, List.length_singleton]
  rw [List.set_eq_take_append_cons_drop, if_pos h]
  simp

/-! ### New variables -/
theorem objrep_new {ok : Nat → Prop} {L : Loc} {w w' : World} (hs : Sim ok L σ w) {id ver' c sz : Nat} {els : List (List AVal)} {conc : Array Value} {e : TypeId} {σ' : Store}
    (he : Evo ok L σ w ok (L.upd id w.heap.size c sz ver') σ' w') (hb : w'.heap[w.heap.size]? = some (.cells conc e (0, 0))) (hsz : ∀ e ∈ els, e.length = sz) (hl : els.length ≤ c) (hc : conc.size = c * sz)
    (hrep : ∀ i el j av, els[i]? = some el → el[j]? = some av → ∃ v, conc[i * sz + j]? = some v ∧ RepL ok L w av v ∧ v.oneCell' = true) : ObjRep ok (L.upd id w.heap.size c sz ver') w' id ver' (.row sz els) := by
  refine ⟨by simp [Loc.upd], by simp [Loc.upd], hsz, by simpa [Loc.upd] using hl, fun _ => ⟨conc, e, by simpa [Loc.upd] using hb, by simpa [Loc.upd] using hc, fun i el j av hi hj => ?_⟩⟩
  obtain ⟨v, h1, h2, h3⟩ := hrep i el j av hi hj
  exact ⟨v, h1, h2.evo hs he, h3⟩

/-- The variable of a struct, an array or one cell: told as object 'id'. -/
theorem op_alloc {t : TypeId} {inf : TypeInfo} {z : Value} (id : Nat) (hi : P.info? t = some inf) (hz : inf.zero = some z) (hz1 : z.cells.toList.all Value.oneCell' = true) :
    OpR P ⟨d, .alloc t, ty, pos, after, guard⟩ E σ (fun a σ' => ∃ ver, a = .ptr id ver 0 0 ∧ σ' = σ.put id ver (.row z.cells.toList.length [z.cells.toList.map .v])) := by
  intro ok L w ρ hs hr
  obtain ⟨he, hs'⟩ := sim_upd (w' := w.alloc (.cells z.cells t)) hs id w.heap.size 1 z.cells.toList.length (L.ver id + 1) (.row z.cells.toList.length [z.cells.toList.map .v]) (by omega) rfl rfl rfl (by simp) (fun k hk _ => Go.RowKit.Below.heap_alloc w _ k hk) (.inl (Nat.le_refl _)) (fun _ => by simp)
    (fun he => objrep_new hs he (heap_alloc_new w _) (by simp) (by simp) (by simp) (fun i el j av h1 h2 => by
      cases i with
      | succ i => simp at h1
      | zero =>
        simp at h1
        subst h1
        simp only [List.getElem?_map, Option.map_eq_some_iff] at h2
        obtain ⟨v, h3, rfl⟩ := h2
        exact ⟨v, by simpa using h3, RepC.v v, List.all_eq_true.1 hz1 v (List.mem_of_getElem? h3)⟩))
  refine ⟨_, _, .pointer (some ⟨w.heap.size, 0, none⟩), _, ok, _, ⟨_, rfl, rfl⟩, .inl ?_, he, hs', ?_⟩
  · simp [execOp, Instr.alloc, zeroValue, typeInfo, hi, hz, newVar, newRow]
  · refine ⟨by simp [Loc.upd], fun _ => by simp [Loc.upd]⟩

theorem op_box {t : TypeId} {x : Operand} {a : AVal} (id : Nat) (hx : E x = some a) (h1 : a.cells.all AVal.oneB = true) (hl : a.cells.all (AVal.live σ) = true) :
    OpR P ⟨d, .box t x, ty, pos, after, guard⟩ E σ (fun r σ' => ∃ ver, r = .ptr id ver 0 0 ∧ σ' = σ.put id ver (.row a.cells.length [a.cells])) := by
  intro ok L w ρ hs hr
  obtain ⟨c1, c2⟩ := (hr x (by simp [Op.operands]) _ hx).cells hs h1 hl
  have clen := All2.length _ _ c1
  obtain ⟨he, hs'⟩ := sim_upd (w' := w.alloc (.cells (ρ x).cells t)) hs id w.heap.size 1 a.cells.length (L.ver id + 1) (.row a.cells.length [a.cells]) (by omega) rfl rfl rfl (by simp) (fun k hk _ => Go.RowKit.Below.heap_alloc w _ k hk) (.inl (Nat.le_refl _)) (fun _ => by simp)
    (fun he => objrep_new hs he (heap_alloc_new w _) (by simp) (by simp) (by simpa using clen.symm) (fun i el j av h1 h2 => by
      cases i with
      | succ i => simp at h1
      | zero =>
        simp at h1
        subst h1
        obtain ⟨v, h3, h4⟩ := All2.get _ _ c1 j av h2
        exact ⟨v, by simpa using h3, h4, c2 v (List.mem_of_getElem? h3)⟩))
  refine ⟨_, _, .pointer (some ⟨w.heap.size, 0, none⟩), _, ok, _, ⟨_, rfl, rfl⟩, .inl ?_, he, hs', ?_⟩
  · simp [execOp, Instr.box, newVar, newRow]
  · refine ⟨by simp [Loc.upd], fun _ => by simp [Loc.upd]⟩

theorem madeCells_get {z : Array Value} {m k : Nat} (hk : k < m) (hz : z.size ≠ 0) : ∃ v, (madeCells z m)[k]? = some v ∧ z[k % z.size]? = some v := by
  have hlt : k % z.size < z.size := Nat.mod_lt _ (by omega)
  refine ⟨z[k % z.size]!, ?_, ?_⟩
  · simp [madeCells, hk]
  · rw [Array.getElem?_eq_getElem hlt]
    simp [getElem!_pos z (k % z.size) hlt]

/-- make([]T, m): object 'id'. -/
theorem op_make {t e : TypeId} {x y : Operand} {inf : TypeInfo} {z : Value} {k k' : IntKind} {m : Int} (id : Nat) (ht : P.underlying t = some (.slice e)) (hi : P.info? e = some inf) (hz : inf.zero = some z) (hsz : z.cells.toList.length = inf.size) (h0 : inf.size ≠ 0) (hz1 : z.cells.toList.all Value.oneCell' = true)
    (hx : E x = some (.v (.int k m))) (hy : E y = some (.v (.int k' m))) (hm : 0 ≤ m) (hb : (inf.bytes : Int) * m ≤ 281474976710656) (h63 : m ≤ 9223372036854775807) :
    OpR P ⟨d, .makeSlice t x y, ty, pos, after, guard⟩ E σ (fun r σ' => ∃ ver, r = .slice id ver 0 m.toNat ∧ σ' = σ.put id ver (.row inf.size (List.replicate m.toNat (z.cells.toList.map .v)))) := by
  intro ok L w ρ hs hr
  have e1 := rep_bool (hr x (by simp [Op.operands]) _ hx)
  have e2 := rep_bool (hr y (by simp [Op.operands]) _ hy)
  have hrun := run_make (P := P) w t e inf z ht hi hz k k' m m hm (Int.le_refl _) hb h63
  have hzs : z.cells.size = inf.size := by simpa using hsz
  obtain ⟨he, hs'⟩ := sim_upd (w' := w.alloc (.cells (madeCells z.cells (m.toNat * inf.size)) e)) hs id w.heap.size m.toNat inf.size (L.ver id + 1) (.row inf.size (List.replicate m.toNat (z.cells.toList.map .v))) (by omega) rfl rfl rfl (by simp) (fun k hk _ => Go.RowKit.Below.heap_alloc w _ k hk) (.inl (Nat.le_refl _)) (fun _ => by simp)
    (fun he => objrep_new hs he (heap_alloc_new w _) (fun e hm => by
        rw [List.mem_replicate] at hm
        rw [hm.2]; simpa using hsz) (by simp) (by simp [size_madeCells]) (fun i el j av h1 h2 => by
      rw [List.getElem?_replicate] at h1
      split at h1
      · rename_i hi'
        cases h1
        simp only [List.getElem?_map, Option.map_eq_some_iff] at h2
        obtain ⟨v, h3, rfl⟩ := h2
        have hj : j < inf.size := by
          rcases Nat.lt_or_ge j z.cells.toList.length with h | h
          · omega
          · simp [List.getElem?_eq_none h] at h3
        have hlt : i * inf.size + j < m.toNat * inf.size := by
          have : (i + 1) * inf.size ≤ m.toNat * inf.size := Nat.mul_le_mul_right _ hi'
          rw [Nat.add_mul] at this
          omega
        obtain ⟨u, u1, u2⟩ := madeCells_get (z := z.cells) hlt (by omega)
        refine ⟨u, u1, ?_⟩
        rw [hzs, Nat.add_comm, Nat.add_mul_mod_self_right, Nat.mod_eq_of_lt hj] at u2
        have : u = v := by
          have h4 : z.cells[j]? = some v := by simpa using h3
          rw [h4] at u2; cases u2; rfl
        subst this
        exact ⟨RepC.v u, List.all_eq_true.1 hz1 u (List.mem_of_getElem? h3)⟩
      · cases h1))
  refine ⟨_, _, .slice (some ⟨w.heap.size, 0, none⟩) m.toNat m.toNat, _, ok, _, ⟨_, rfl, rfl⟩, .inl ?_, he, hs', ?_⟩
  · simp [execOp, e1, e2, hrun]
  · exact ⟨by simp [Loc.upd], fun _ => ⟨_, _, rfl, Nat.le_refl _, by simp [Loc.upd], fun _ => by simp [Loc.upd]⟩⟩
end
end Go.Proofs.YtbojpddejdmamaaGreatDoor
